/- Walks, printed by program. -/
import Derived.Test.YtpkpcpikpobloaaGreatDoorJLW
set_option linter.all false
namespace Gv
open Gv.Hp renaming le_refl→zR
open Go.Value renaming slice→zS,bool→zB,agg→zA,tuple→zT
open Go Go.Proofs Go.Proofs.Tryz
set_option maxRecDepth 20000
set_option maxHeartbeats 40000000
variable {G:kE} {K:Hp} {L:List eV} {w:World} {a1 a4 a7 a10 a13 a16 a19 a22:Option Addr} {c2 c5 c8 c11 c14 c17 c20 c23:Nat}
theorem aJd {a:(List aK)} {R:((List Int) × Bool)} (hm:sX a=some R) (k:aG G K (L) w) (n:G.lo=0) (o:aX K a1 c2 a):
  Calls prog 186 ([zS a1 a.length c2]:List Value).toArray w (cJ fun v w'=>∃ c d,v=zT #[zS c R.1.length d,zB R.2]/\aG G K (aV 2 K c d R.1::L) w'):=by
 refine aN func186 rfl (by kernel_rfl) (by show (1:Nat)<=28;decide) ?_;unfold sX at hm
 refine aL (aI (v:=zS none 0 0) (aI (v:=zB false) (aM (aL (aI (v:=zS none 0 0) (aM (aH (aL (aO (v:=zS a1 a.length c2) (aC (aU (len:=a.length) cU rfl) (aO (v:=i64 0) (aM (aQ [] (fun f w=>∃ b e g,aEg b=some R/\f 4=zS e b.length g/\aG G K (aV 2 K e g b::L) w) aF ?_)))))))))))))
 have p:=aG.nil (α:=Int) k 2 K
 obtain ⟨q,l,ho⟩:=aB hm
 exact cA [9,10] l (fun h m f w=>∃ i j,f 4=zS i h.length j/\f 11=i64 m/\aG G K (aV 2 K i j h::L) w) aF aF
theorem aOK {c:(List Int)} {sep R:aK} (hm:aAy c sep=some R) (J:aG G K (L) w) (hG:G.lo=0) (o:aX K a1 c2 c):
  Calls prog 52 ([zS a1 c.length c2,str sep]:List Value).toArray w (cJ fun v w'=>v=str R/\aG G K (L) w'):=by
 refine aN func52 rfl (by kernel_rfl) (by show (2:Nat)<=27;decide) ?_;unfold aAy at hm
 refine aL (aI (v:=str ([]:aK)) (aM (aL (aO (v:=zS a1 c.length c2) (aC (aU (len:=c.length) dW rfl) ?_)))));obtain ⟨a,V,hm⟩:=aB hm
 refine aIh (e:=([]:aK)) cU pT rfl rfl J rfl rfl rfl V rfl (fun b Z (b1:aG G K (aV 9 K b a.length a::L) Z)=>(aI (v:=zS b a.length a.length) (aM (aH (aL (aO (v:=zS a1 c.length c2) (aC (aU (len:=c.length) dW rfl) (aO (v:=i64 0) (aM (aQ [1] (fun f w=>∃ j,aGy sep j=some R/\f 5=zS b j.length a.length/\aG G K (aV 9 K b a.length j::L) w) aF ?_))))))))));obtain ⟨b2,a0,ho⟩:=aB hm
 refine cA [1,11,12] a0 (fun k d f w=>f 5=zS b k.length a.length/\f 13=i64 d/\aG G K (aV 9 K b a.length k::L) w) aF ?_
 ·rintro k d b3 f b4 hm hr ⟨p,g,q⟩
  unfold aAx at hm
  refine aL (aC (dJ g rfl) (aM (aH ?_)))
  rcases aJ hm with ⟨r,hm⟩|⟨r,hm⟩
  ·refine aR r rfl (aT (aE (aH (bJ (aL (bO g ?_))))));obtain ⟨l,u,hm⟩:=aB hm
   refine aC (cK dW rfl o rfl rfl g u) ?_;obtain ⟨b5,a2,a3⟩:=aX.el (sz:=1) rfl o u
   cases a3
   refine aC (bY (t:=0) gH q a2 rfl rfl) (aI (v:=i64 d) (aI (v:=i64 l) (aM (bL (bO p (aO (v:=i64 d) (aO (v:=i64 l) ?_)))))));obtain ⟨x,a4,hm⟩:=aB hm
   refine aW (vs:=[i64 l]) call53 rfl (nP q a4) ?_
   rintro _ b6 ⟨rfl,y⟩
   obtain ⟨b7,m,hm⟩:=aB hm
   have a5:=eG y (i:=0) rfl m
   refine aC (iU cU rfl a5 rfl rfl rfl m) ?_;obtain ⟨a7,z,hm⟩:=aB hm
   exact aDK (i:=0) (t:=0) (ns:=[str x]) (e':=(x:aK)) sizeOf9 y rfl (Hp.le_refl _) rfl rfl rfl m z rfl rfl (jY rfl) rfl (fun cs h=>by cases h;rfl) (fun a8 (a9:aG G K (aV 9 K b a.length a7::L) a8)=>(bR (eK (aE (bL (aC (mQ g rfl) (aO (v:=i64 (wr (d+1))) (aM ⟨_,(Option.some.inj hm).symm,gB,(Eq.trans p (congrArg (fun n=>zS b n a.length) (uS z))),rfl,a9⟩))))))))
  ·exact aF
theorem aNr {c:UInt8} {R:Bool} (hm:aHq c=some R) (b:aG G K (L) w):
  Calls prog 92 ([Value.int .u8 (c.toNat:Int)]:List Value).toArray w (cJ fun v w'=>v=zB R/\aG G K (L) w'):=by
 refine aN func92 rfl (by kernel_rfl) (by show (1:Nat)<=9;decide) ?_;unfold aHq at hm
 exact aL (aI (v:=zB false) (aM (aH (bB [] (fun f w=>∃ a,aEZ a=some R/\f 2=zB a/\aG G K (L) w) aF aF))))
theorem aDX {a:aK} {R:Bool} (hm:aCg a=some R) (k:aG G K (L) w):
  Calls prog 46 ([str a]:List Value).toArray w (cJ fun v w'=>v=zB R/\aG G K (L) w'):=by
 refine aN func46 rfl (by kernel_rfl) (by show (1:Nat)<=42;decide) ?_;unfold aCg at hm
 refine aL (aI (v:=zB false) (aM (aH (aL (aO (v:=str a) (aC (sV runUnderlying9 rfl) (aO (v:=i64 0) (aM (aQ [0] (fun f w=>aDi a=some R/\aG G K (L) w) ?_ ?_)))))))))
 ·rintro f l ⟨hm,m⟩
  unfold aDi at hm
  exact aE (aH (bB [] (fun f w=>∃ d,aGz d=some R/\f 2=zB d/\aG G K (L) w) aF aF))
 obtain ⟨n,j,ho⟩:=aB hm
 refine bS [0,6] j (fun b f w=>f 7=i64 b/\aG G K (L) w) aF ?_
 ·rintro b e f o hm hr ⟨g,p⟩
  unfold vH at hm
  refine aL (aC (dJ g rfl) (aM (aH ?_)))
  rcases aJ hm with ⟨h,hm⟩|⟨h,hm⟩
  ·refine aR h rfl (aT (aE (aH (bJ (aL (bO g (aI (v:=i64 b) (aM (aH (bB [0,3,6,7] (fun f w=>∃ c,nN a b c=some e/\f 4=zB c/\aG G K (L) w) ?_ ?_))))))))))
   ·rintro f q ⟨c,hm,r,t⟩
    unfold nN at hm
    exact aE (aH (bB [0,6,7] (fun f w=>∃ i,aAz b i=some e/\f 32=zB i/\aG G K (L) w) aF aF))
   exact aF
  ·exact aF
theorem aMh {a:aK} {R:Bool} (hm:lC a=some R) (c:aG G K (L) w):
  Calls prog 191 ([str a]:List Value).toArray w (cJ fun v w'=>v=zB R/\aG G K (L) w'):=by
 refine aN func191 rfl (by kernel_rfl) (by show (1:Nat)<=9;decide) ?_;unfold lC at hm
 exact aL (aI (v:=zB false) (aM (aH (bB [] (fun f w=>∃ b,zZ b=some R/\f 2=zB b/\aG G K (L) w) aF aF))))
theorem aIw {n low a:Int} {R:Bool} (hm:fU n low a=some R) (c:aG G K (L) w):
  Calls prog 100 ([i64 n,i64 low,i64 a]:List Value).toArray w (cJ fun v w'=>v=zB R/\aG G K (L) w'):=by
 refine aN func100 rfl (by kernel_rfl) (by show (3:Nat)<=15;decide) ?_;unfold fU at hm
 exact aL (aI (v:=zB false) (aM (aH (bB [] (fun f w=>∃ b,aGA b=some R/\f 6=zB b/\aG G K (L) w) aF aF))))
theorem aNs {n:Int} {R:Bool} (hm:aBO n=some R) (a:aG G K (L) w):
  Calls prog 237 ([i64 n]:List Value).toArray w (cJ fun v w'=>v=zB R/\aG G K (L) w'):=by
 exact aF
theorem aBe {n:Int} {R:Bool} (hm:aCh n=some R) (a:aG G K (L) w):
  Calls prog 236 ([i64 n]:List Value).toArray w (cJ fun v w'=>v=zB R/\aG G K (L) w'):=by
 exact aF
theorem rM {a:(List Int)} {R:Int} (hm:fO a=some R) (n:aG G K (L) w) (c:aX K a1 c2 a):
  Calls prog 271 ([zS a1 a.length c2,Value.func (.func 236) #[] #[]]:List Value).toArray w (cJ fun v w'=>v=i64 R/\aG G K (L) w'):=by
 refine aN func271 rfl (by kernel_rfl) (by show (2:Nat)<=19;decide) ?_;unfold fO at hm
 refine aL (aI (v:=i64 0) (aM (aH (aL (aO (v:=zS a1 a.length c2) (aC (aU (len:=a.length) dW rfl) (aO (v:=i64 0) (aM (aQ [] (fun f w=>kG=some R/\aG G K (L) w) aF ?_)))))))));obtain ⟨o,j,ho⟩:=aB hm
 refine bS [0,1,7] j (fun b f w=>f 8=i64 b/\aG G K (L) w) aF ?_
 ·rintro b p f q hm hr ⟨d,e⟩
  unfold eH at hm
  refine aL (aC (dJ d rfl) (aM (aH ?_)))
  rcases aJ hm with ⟨g,hm⟩|⟨g,hm⟩
  ·refine aR g rfl (aT (aE (aH (bJ (aL (bO d (aI (v:=i64 b) (aM (aL (aO (v:=Value.func (.func 236) #[] #[]) (aO (v:=zS a1 a.length c2) (aO (v:=i64 b) ?_))))))))))));obtain ⟨h,i,hm⟩:=aB hm
   refine aC (cK dW rfl c rfl rfl rfl i) ?_;obtain ⟨r,k,l⟩:=aX.el (sz:=1) rfl c i
   cases l
   refine aC (bY (t:=0) gH e k rfl rfl) ?_;obtain ⟨u,m,hm⟩:=aB hm
   exact eP (vs:=[i64 h]) (caps:=[]) (us:=[i64 h]) rfl call236 rfl rfl (aBe m e) aF
  ·exact aF
theorem oX {a:(List Int)} {R:Bool} (hm:gK a=some R) (b:aG G K (L) w) (c:aX K a1 c2 a):
  Calls prog 235 ([zS a1 a.length c2,Value.func (.func 236) #[] #[]]:List Value).toArray w (cJ fun v w'=>v=zB R/\aG G K (L) w'):=by
 exact aF
theorem aLg {a:(List Int)} {R:Bool} (hm:aAA a=some R) (b:aG G K (L) w) (c:aX K a1 c2 a):
  Calls prog 196 ([zS a1 a.length c2]:List Value).toArray w (cJ fun v w'=>v=zB R/\aG G K (L) w'):=by
 exact aF
theorem aGS {a:aK} {b:(List Int)} {R:(aK × Bool)} (hm:aEh a b=some R) (e:aG G K (L) w) (g:G.lo=0) (h:aX K a1 c2 b):
  Calls prog 189 ([str a,zS a1 b.length c2]:List Value).toArray w (cJ fun v w'=>v=zT #[str R.1,zB R.2]/\aG G K (L) w'):=by
 refine aN func189 rfl (by kernel_rfl) (by show (2:Nat)<=37;decide) ?_;unfold aEh at hm
 refine aL (aI (v:=str ([]:aK)) (aI (v:=zB false) (aM (aH (bJ (aL (aO (v:=str a) (aC (R_eqlS rfl rfl) (aI (v:=zB (a == ([116,97,117]:aK))) (aM ?_))))))))))
 rcases aJ hm with ⟨c,hm⟩|⟨c,hm⟩
 ·exact aF
 ·exact aP c rfl (aH (bB [0,1] (fun f w=>∃ d,wA a b d=some R/\f 12=zB d/\aG G K (L) w) aF aF))
theorem sG {a b:aK} {R:Bool} (hm:eB a b=some R) (d:aG G K (L) w):
  Calls prog 245 ([str a,str b]:List Value).toArray w (cJ fun v w'=>v=zB R/\aG G K (L) w'):=by
 refine aN func245 rfl (by kernel_rfl) (by show (2:Nat)<=21;decide) ?_;unfold eB at hm
 exact aL (aI (v:=zB false) (aM (aH (bB [] (fun f w=>∃ c,eL c=some R/\f 4=zB c/\aG G K (L) w) aF aF))))
theorem rN {a b R:aK} (hm:hZ a b=some R) (c:aG G K (L) w):
  Calls prog 227 ([str a,str b]:List Value).toArray w (cJ fun v w'=>v=str R/\aG G K (L) w'):=by
 exact aF
theorem aDa {a b R:aK} (hm:lV a b=some R) (c:aG G K (L) w):
  Calls prog 188 ([str a,str b]:List Value).toArray w (cJ fun v w'=>v=str R/\aG G K (L) w'):=by
 exact aF
theorem aLh {c:aK} {R:(aK × (List Int) × Bool)} (hm:aDj c=some R) (k:aG G K (L) w) (l:G.lo=0):
  Calls prog 147 ([str c]:List Value).toArray w (cJ fun v w'=>∃ h i,v=zT #[str R.1,zS h R.2.1.length i,zB R.2.2]/\aG G K (aV 2 K h i R.2.1::L) w'):=by
 refine aN func147 rfl (by kernel_rfl) (by show (1:Nat)<=43;decide) ?_;unfold aDj at hm
 refine aL (aI (v:=str ([]:aK)) (aI (v:=zS none 0 0) (aI (v:=zB false) (aM (aL (aO (v:=str c) ?_))))));obtain ⟨a,m,hm⟩:=aB hm
 refine aW (vs:=[str c,str ([40]:aK)]) call185 rfl (lib_Cut k m) ?_
 rintro _ x ⟨rfl,y⟩
 refine aO (v:=zT #[str a.1,str a.2.1,zB a.2.2]) (aC (iL rfl rfl) (aC (iL rfl rfl) (aC (iL rfl rfl) (aI (v:=str a.1) (aI (v:=str a.2.1) (aI (v:=zB a.2.2) (aM (aL (aI (v:=zS none 0 0) (aM (gC [0,5] (fun f w=>∃ b d e,mV c a b=some R/\f 8=zS d b.length e/\aG G K (aV 2 K d e b::L) w) ?_ ?_)))))))))))
 ·rintro f z ⟨b,d,e,hm,n,o⟩
  unfold mV at hm
  refine aH (aL (aO (v:=str a.1) (bO n ?_)));obtain ⟨J,V,p,q,r⟩:=aG.lendSp o (Hp.le_refl _) .head
  obtain ⟨g,t,hm⟩:=aB hm
  refine aW (vs:=[str a.1,zS d b.length e]) call189 rfl (aGS t q l p) ?_
  rintro _ Z ⟨rfl,u⟩
  have a0:=r _ _ u
  exact aO (v:=zT #[str g.1,zB g.2]) (aC (iL rfl rfl) (aC (iL rfl rfl) (aI (v:=str g.1) (aI (v:=zB g.2) (aM (aH (bB [5,8] (fun f w=>∃ j,qP a b j=some R/\f 40=zB j/\aG G K (aV 2 K d e b::L) w) aF aF)))))))
 exact aF
theorem aNt {a:aK} {R:Bool} (hm:aEi a=some R) (b:aG G K (L) w) (c:G.lo=0):
  Calls prog 102 ([str a]:List Value).toArray w (cJ fun v w'=>v=zB R/\aG G K (L) w'):=by
 exact aF
theorem aLi {a:(List aK)} {left R:Int} (hm:nO a left=some R) (h:aG G K (L) w) (i:aX K a1 c2 a):
  Calls prog 64 ([zS a1 a.length c2,i64 left]:List Value).toArray w (cJ fun v w'=>v=i64 R/\aG G K (L) w'):=by
 refine aN func64 rfl (by kernel_rfl) (by show (2:Nat)<=28;decide) ?_;unfold nO at hm
 refine aL (aI (v:=i64 0) (aM (aL (aO (v:=i64 left) (aO (v:=zS a1 a.length c2) (aC (aU (len:=a.length) cU rfl) (aC (jM rfl rfl) (aI (v:=i64 (wr (left - (a.length:Int)))) (aM (aH (aL (aO (v:=i64 (wr (left - (a.length:Int)))) (aC (dJ rfl rfl) (aM ?_))))))))))))))
 rcases aJ hm with ⟨b,hm⟩|⟨b,hm⟩
 ·exact aF
 ·refine aP b rfl (aT (aE (aH (aL (aI (v:=i64 0) (aM (aQ [] (fun f w=>∃ c,aGB c=some R/\f 1=i64 c/\aG G K (L) w) aF ?_)))))));obtain ⟨j,d,ho⟩:=aB hm
  exact cA [0] d (fun e g f w=>f 1=i64 e/\f 5=i64 g/\aG G K (L) w) aF aF
theorem aNu {a:(List Edge)} {left R:Int} (hm:aHr a left=some R) (b:aG G K (L) w) (c:aX K a1 c2 a):
  Calls prog 65 ([zS a1 a.length c2,i64 left]:List Value).toArray w (cJ fun v w'=>v=i64 R/\aG G K (L) w'):=by
 exact aF
theorem aQh {a:gM} {left R:Int} (hm:aMI a left=some R) (b:aG G K (L) w) (c:aX K a1 c2 a.L) (d:aX K a4 c5 a.E):
  Calls prog 31 ([zA (zCa a a1 c2 a4 c5),i64 left]:List Value).toArray w (cJ fun v w'=>v=i64 R/\aG G K (L) w'):=by
 exact aF
theorem aOL {a:bI} {left R:Int} (hm:aJP a left=some R) (b:aG G K (L) w):
  Calls prog 66 ([zA #[i64 a.Kind,i64 a.Variable,str a.B,zB a.Not],i64 left]:List Value).toArray w (cJ fun v w'=>v=i64 R/\aG G K (L) w'):=by
 exact aF
theorem aNv {a:(List bI)} {left R:Int} (hm:aHs a left=some R) (h:aG G K (L) w) (i:aX K a1 c2 a):
  Calls prog 32 ([zS a1 a.length c2,i64 left]:List Value).toArray w (cJ fun v w'=>v=i64 R/\aG G K (L) w'):=by
 refine aN func32 rfl (by kernel_rfl) (by show (2:Nat)<=27;decide) ?_;unfold aHs at hm
 refine aL (aI (v:=i64 0) (aM (aL (aO (v:=i64 left) (aO (v:=zS a1 a.length c2) (aC (aU (len:=a.length) sl_59 rfl) (aC (jM rfl rfl) (aI (v:=i64 (wr (left - (a.length:Int)))) (aM (aH (aL (aO (v:=i64 (wr (left - (a.length:Int)))) (aC (dJ rfl rfl) (aM ?_))))))))))))))
 rcases aJ hm with ⟨b,hm⟩|⟨b,hm⟩
 ·exact aF
 ·refine aP b rfl (aT (aE (aH (aL (aI (v:=i64 0) (aM (aQ [] (fun f w=>∃ c,aJQ c=some R/\f 1=i64 c/\aG G K (L) w) aF ?_)))))));obtain ⟨j,d,ho⟩:=aB hm
  exact cA [0] d (fun e g f w=>f 1=i64 e/\f 5=i64 g/\aG G K (L) w) aF aF
theorem aNw {a:(List aS)} {left R:Int} (hm:aEj a left=some R) (b:aG G K (L) w) (c:aX K a1 c2 a):
  Calls prog 277 ([zS a1 a.length c2,i64 left]:List Value).toArray w (cJ fun v w'=>v=i64 R/\aG G K (L) w'):=by
 exact aF
theorem aMi {a:(List (List aS))} {left R:Int} (hm:aFa a left=some R) (h:aG G K (L) w) (i:aX K a1 c2 a):
  Calls prog 252 ([zS a1 a.length c2,i64 left]:List Value).toArray w (cJ fun v w'=>v=i64 R/\aG G K (L) w'):=by
 refine aN func252 rfl (by kernel_rfl) (by show (2:Nat)<=27;decide) ?_;unfold aFa at hm
 refine aL (aI (v:=i64 0) (aM (aL (aO (v:=i64 left) (aO (v:=zS a1 a.length c2) (aC (aU (len:=a.length) aMX rfl) (aC (jM rfl rfl) (aI (v:=i64 (wr (left - (a.length:Int)))) (aM (aH (aL (aO (v:=i64 (wr (left - (a.length:Int)))) (aC (dJ rfl rfl) (aM ?_))))))))))))))
 rcases aJ hm with ⟨b,hm⟩|⟨b,hm⟩
 ·exact aF
 ·refine aP b rfl (aT (aE (aH (aL (aI (v:=i64 0) (aM (aQ [] (fun f w=>∃ c,aIk c=some R/\f 1=i64 c/\aG G K (L) w) aF ?_)))))));obtain ⟨j,d,ho⟩:=aB hm
  exact cA [0] d (fun e g f w=>f 1=i64 e/\f 5=i64 g/\aG G K (L) w) aF aF
theorem aOM {a:bH} {left R:Int} (hm:aGC a left=some R) (b:aG G K (L) w) (c:aX K a1 c2 a.Arguments):
  Calls prog 215 ([zA #[i64 a.Kind,i64 a.Number,str a.Name,zS a1 a.Arguments.length c2],i64 left]:List Value).toArray w (cJ fun v w'=>v=i64 R/\aG G K (L) w'):=by
 exact aF
theorem aNx {a:(List bH)} {left R:Int} (hm:aHt a left=some R) (h:aG G K (L) w) (i:aX K a1 c2 a):
  Calls prog 173 ([zS a1 a.length c2,i64 left]:List Value).toArray w (cJ fun v w'=>v=i64 R/\aG G K (L) w'):=by
 refine aN func173 rfl (by kernel_rfl) (by show (2:Nat)<=27;decide) ?_;unfold aHt at hm
 refine aL (aI (v:=i64 0) (aM (aL (aO (v:=i64 left) (aO (v:=zS a1 a.length c2) (aC (aU (len:=a.length) aMY rfl) (aC (jM rfl rfl) (aI (v:=i64 (wr (left - (a.length:Int)))) (aM (aH (aL (aO (v:=i64 (wr (left - (a.length:Int)))) (aC (dJ rfl rfl) (aM ?_))))))))))))))
 rcases aJ hm with ⟨b,hm⟩|⟨b,hm⟩
 ·exact aF
 ·refine aP b rfl (aT (aE (aH (aL (aI (v:=i64 0) (aM (aQ [] (fun f w=>∃ c,aJR c=some R/\f 1=i64 c/\aG G K (L) w) aF ?_)))))));obtain ⟨j,d,ho⟩:=aB hm
  exact cA [0] d (fun e g f w=>f 1=i64 e/\f 5=i64 g/\aG G K (L) w) aF aF
theorem aHW {a:Definition} {left R:Int} (hm:qQ a left=some R) (b:aG G K (L) w) (c:aX K a1 c2 a.Body):
  Calls prog 127 ([zA #[str a.Name,i64 a.Parameters,zS a1 a.Body.length c2],i64 left]:List Value).toArray w (cJ fun v w'=>v=i64 R/\aG G K (L) w'):=by
 exact aF
theorem aGT {a:(List Definition)} {left R:Int} (hm:uG a left=some R) (h:aG G K (L) w) (i:aX K a1 c2 a):
  Calls prog 67 ([zS a1 a.length c2,i64 left]:List Value).toArray w (cJ fun v w'=>v=i64 R/\aG G K (L) w'):=by
 refine aN func67 rfl (by kernel_rfl) (by show (2:Nat)<=27;decide) ?_;unfold uG at hm
 refine aL (aI (v:=i64 0) (aM (aL (aO (v:=i64 left) (aO (v:=zS a1 a.length c2) (aC (aU (len:=a.length) sl_60 rfl) (aC (jM rfl rfl) (aI (v:=i64 (wr (left - (a.length:Int)))) (aM (aH (aL (aO (v:=i64 (wr (left - (a.length:Int)))) (aC (dJ rfl rfl) (aM ?_))))))))))))))
 rcases aJ hm with ⟨b,hm⟩|⟨b,hm⟩
 ·exact aF
 ·refine aP b rfl (aT (aE (aH (aL (aI (v:=i64 0) (aM (aQ [] (fun f w=>∃ c,aCi c=some R/\f 1=i64 c/\aG G K (L) w) aF ?_)))))));obtain ⟨j,d,ho⟩:=aB hm
  exact cA [0] d (fun e g f w=>f 1=i64 e/\f 5=i64 g/\aG G K (L) w) aF aF
theorem aMj {a:(List Int)} {left R:Int} (hm:aIV a left=some R) (b:aG G K (L) w) (c:aX K a1 c2 a):
  Calls prog 174 ([zS a1 a.length c2,i64 left]:List Value).toArray w (cJ fun v w'=>v=i64 R/\aG G K (L) w'):=by
 exact aF
theorem aJe {a:bA} {left R:Int} (hm:sY a left=some R) (b:aG G K (L) w) (c:aX K a1 c2 a.Values):
  Calls prog 128 ([zA #[i64 a.Definition,zS a1 a.Values.length c2],i64 left]:List Value).toArray w (cJ fun v w'=>v=i64 R/\aG G K (L) w'):=by
 exact aF
theorem aHX {a:(List bA)} {left R:Int} (hm:wB a left=some R) (h:aG G K (L) w) (i:aX K a1 c2 a):
  Calls prog 68 ([zS a1 a.length c2,i64 left]:List Value).toArray w (cJ fun v w'=>v=i64 R/\aG G K (L) w'):=by
 refine aN func68 rfl (by kernel_rfl) (by show (2:Nat)<=27;decide) ?_;unfold wB at hm
 refine aL (aI (v:=i64 0) (aM (aL (aO (v:=i64 left) (aO (v:=zS a1 a.length c2) (aC (aU (len:=a.length) sl_61 rfl) (aC (jM rfl rfl) (aI (v:=i64 (wr (left - (a.length:Int)))) (aM (aH (aL (aO (v:=i64 (wr (left - (a.length:Int)))) (aC (dJ rfl rfl) (aM ?_))))))))))))))
 rcases aJ hm with ⟨b,hm⟩|⟨b,hm⟩
 ·exact aF
 ·refine aP b rfl (aT (aE (aH (aL (aI (v:=i64 0) (aM (aQ [] (fun f w=>∃ c,aDk c=some R/\f 1=i64 c/\aG G K (L) w) aF ?_)))))));obtain ⟨j,d,ho⟩:=aB hm
  exact cA [0] d (fun e g f w=>f 1=i64 e/\f 5=i64 g/\aG G K (L) w) aF aF
theorem aLj {a:bD} {left R:Int} (hm:aAB a left=some R) (b:aG G K (L) w):
  Calls prog 129 ([zA #[str a.Left,str a.Right,str a.Result],i64 left]:List Value).toArray w (cJ fun v w'=>v=i64 R/\aG G K (L) w'):=by
 exact aF
theorem aKx {a:(List bD)} {left R:Int} (hm:aBo a left=some R) (h:aG G K (L) w) (i:aX K a1 c2 a):
  Calls prog 69 ([zS a1 a.length c2,i64 left]:List Value).toArray w (cJ fun v w'=>v=i64 R/\aG G K (L) w'):=by
 refine aN func69 rfl (by kernel_rfl) (by show (2:Nat)<=27;decide) ?_;unfold aBo at hm
 refine aL (aI (v:=i64 0) (aM (aL (aO (v:=i64 left) (aO (v:=zS a1 a.length c2) (aC (aU (len:=a.length) sl_62 rfl) (aC (jM rfl rfl) (aI (v:=i64 (wr (left - (a.length:Int)))) (aM (aH (aL (aO (v:=i64 (wr (left - (a.length:Int)))) (aC (dJ rfl rfl) (aM ?_))))))))))))))
 rcases aJ hm with ⟨b,hm⟩|⟨b,hm⟩
 ·exact aF
 ·refine aP b rfl (aT (aE (aH (aL (aI (v:=i64 0) (aM (aQ [] (fun f w=>∃ c,aFO c=some R/\f 1=i64 c/\aG G K (L) w) aF ?_)))))));obtain ⟨j,d,ho⟩:=aB hm
  exact cA [0] d (fun e g f w=>f 1=i64 e/\f 5=i64 g/\aG G K (L) w) aF aF
theorem aMk {a:bM} {left R:Int} (hm:aFb a left=some R) (b:aG G K (L) w) (c:aX K a1 c2 a.Definitions) (d:aX K a4 c5 a.Components) (e:aX K a7 c8 a.Meetings) (g:aX K a10 c11 a.Allowed) (h:aX K a13 c14 a.Hidden):
  Calls prog 33 ([zA #[zS a1 a.Definitions.length c2,zS a4 a.Components.length c5,zS a7 a.Meetings.length c8,zS a10 a.Allowed.length c11,zS a13 a.Hidden.length c14],i64 left]:List Value).toArray w (cJ fun v w'=>v=i64 R/\aG G K (L) w'):=by
 exact aF
theorem aON {a:Kept} {left R:Int} (hm:aGD a left=some R) (b:aG G K (L) w) (c:aX K a1 c2 a.S.L) (d:aX K a4 c5 a.S.E) (e:aX K a7 c8 a.Formula) (g:aX K a10 c11 a.Source.Definitions) (h:aX K a13 c14 a.Source.Components) (i:aX K a16 c17 a.Source.Meetings) (j:aX K a19 c20 a.Source.Allowed) (k:aX K a22 c23 a.Source.Hidden):
  Calls prog 18 ([zA #[str a.Name,i64 a.Kind,i64 a.S.N,i64 a.S.I,zS a1 a.S.L.length c2,zS a4 a.S.E.length c5,zS a7 a.Formula.length c8,zS a10 a.Source.Definitions.length c11,zS a13 a.Source.Components.length c14,zS a16 a.Source.Meetings.length c17,zS a19 a.Source.Allowed.length c20,zS a22 a.Source.Hidden.length c23],i64 left]:List Value).toArray w (cJ fun v w'=>v=i64 R/\aG G K (L) w'):=by
 exact aF
theorem aNy {a:(List Kept)} {left R:Int} (hm:aHu a left=some R) (m:aG G K (L) w) (b:aX K a1 c2 a):
  Calls prog 9 ([zS a1 a.length c2,i64 left]:List Value).toArray w (cJ fun v w'=>v=i64 R/\aG G K (L) w'):=by
 refine aN func9 rfl (by kernel_rfl) (by show (2:Nat)<=27;decide) ?_;unfold aHu at hm
 refine aL (aI (v:=i64 0) (aM (aL (aO (v:=i64 left) (aO (v:=zS a1 a.length c2) (aC (aU (len:=a.length) aMZ rfl) (aC (jM rfl rfl) (aI (v:=i64 (wr (left - (a.length:Int)))) (aM (aH (aL (aO (v:=i64 (wr (left - (a.length:Int)))) (aC (dJ rfl rfl) (aM ?_))))))))))))))
 rcases aJ hm with ⟨c,hm⟩|⟨c,hm⟩
 ·exact aF
 ·refine aP c rfl (aT (aE (aH (aL (aI (v:=i64 0) (aM (aQ [] (fun f w=>∃ d,aJS d=some R/\f 1=i64 d/\aG G K (L) w) aF ?_)))))));obtain ⟨n,k,ho⟩:=aB hm
  refine cA [0] k (fun e g f w=>f 1=i64 e/\f 5=i64 g/\aG G K (L) w) aF ?_
  ·rintro e g o f p hm hr ⟨q,h,r⟩
   unfold wC at hm
   refine aH (aL (bO h (aO (v:=zS a1 a.length c2) (aC (aU (len:=a.length) aMZ rfl) (aC (dJ rfl rfl) (aM ?_))))))
   rcases aJ hm with ⟨i,hm⟩|⟨i,hm⟩
   ·refine aR i rfl (aT (aE (aH (bJ (aL (aO (v:=zS a1 a.length c2) (bO h ?_)))))));obtain ⟨t,j,hm⟩:=aB hm
    refine aC (cK aMZ rfl b rfl rfl rfl j) ?_;obtain ⟨u,x,l⟩:=aX.el (sz:=12) rfl b j
    obtain ⟨y,z,J,V,Z,a0,a2,a3,a4,a5,a6,a7,a8,a9,b0,b1,rfl,b2,b3,b4,b5,b6,b7,b8,b9⟩:=l
    exact aF
   ·exact aF
theorem aIx {a:pR} {left R:Int} (hm:aJT a left=some R) (b:aG G K (L) w) (c:aX K a1 c2 a.Kept):
  Calls prog 4 ([zA #[zS a1 a.Kept.length c2],i64 left]:List Value).toArray w (cJ fun v w'=>v=i64 R/\aG G K (L) w'):=by
 exact aF
theorem aMl {c:UInt8} {R:Bool} (hm:aCj c=some R) (b:aG G K (L) w):
  Calls prog 70 ([Value.int .u8 (c.toNat:Int)]:List Value).toArray w (cJ fun v w'=>v=zB R/\aG G K (L) w'):=by
 refine aN func70 rfl (by kernel_rfl) (by show (1:Nat)<=9;decide) ?_;unfold aCj at hm
 exact aL (aI (v:=zB false) (aM (aH (bB [] (fun f w=>∃ a,aDO a=some R/\f 2=zB a/\aG G K (L) w) aF aF))))
theorem aFU {c:UInt8} {R:Bool} (hm:aCk c=some R) (b:aG G K (L) w):
  Calls prog 71 ([Value.int .u8 (c.toNat:Int)]:List Value).toArray w (cJ fun v w'=>v=zB R/\aG G K (L) w'):=by
 refine aN func71 rfl (by kernel_rfl) (by show (1:Nat)<=9;decide) ?_;unfold aCk at hm
 exact aL (aI (v:=zB false) (aM (aH (bB [] (fun f w=>∃ a,aDP a=some R/\f 2=zB a/\aG G K (L) w) aF aF))))
end Gv
namespace Gv
open Gv.Hp renaming le_refl→zR
open Go.Value renaming slice→zS,bool→zB
open Go Go.Proofs Go.Proofs.Tryz
set_option maxRecDepth 20000
set_option maxHeartbeats 40000000
variable {G:kE} {K:Hp} {L:List eV} {w:World} {a1 a4 a7 a10 a13 a16:Option Addr} {c2 c5 c8 c11 c14 c17:Nat}
theorem aGU {a:aK} {R:Bool} (hm:rU a=some R) (l:aG G K (L) w):
  Calls prog 34 ([str a]:List Value).toArray w (cJ fun v w'=>v=zB R/\aG G K (L) w'):=by
 refine aN func34 rfl (by kernel_rfl) (by show (1:Nat)<=35;decide) ?_;unfold rU at hm
 refine aL (aI (v:=zB false) (aM (aH (aH (bB [0] (fun f w=>∃ b,nY a b=some R/\f 16=zB b/\aG G K (L) w) ?_ ?_)))))
 ·rintro f m ⟨b,hm,h,n⟩
  unfold nY at hm
  refine aE ?_
  rcases aJ hm with ⟨d,hm⟩|⟨d,hm⟩
  ·exact aF
  ·refine aP d h (aT (aE (aH (aL (aI (v:=i64 0) (aM (aQ [] (fun f w=>aFc=some R/\aG G K (L) w) aF ?_)))))));obtain ⟨o,i,ho⟩:=aB hm
   refine bS [0] i (fun c f w=>f 3=i64 c/\aG G K (L) w) aF ?_
   ·rintro c j f p hm hr ⟨k,q⟩
    unfold wD at hm
    refine aH (aL (bO k (aO (v:=str a) (aC (sV runUnderlying9 rfl) (aC (dJ rfl rfl) (aM ?_))))))
    rcases aJ hm with ⟨e,hm⟩|⟨e,hm⟩
    ·exact aR e rfl (aT (aE (aH (bJ (aH (bB [0,3] (fun f w=>∃ g,aBp c g=some j/\f 34=zB g/\aG G K (L) w) aF aF))))))
    ·exact aF
 exact aF
theorem aKy {n low a:Int} {R:Bool} (hm:jG n low a=some R) (c:aG G K (L) w):
  Calls prog 72 ([i64 n,i64 low,i64 a]:List Value).toArray w (cJ fun v w'=>v=zB R/\aG G K (L) w'):=by
 refine aN func72 rfl (by kernel_rfl) (by show (3:Nat)<=15;decide) ?_;unfold jG at hm
 exact aL (aI (v:=zB false) (aM (aH (bB [] (fun f w=>∃ b,aIW b=some R/\f 6=zB b/\aG G K (L) w) aF aF))))
theorem aLk {a:aK} {R:Bool} (hm:kV a=some R) (c:aG G K (L) w):
  Calls prog 176 ([str a]:List Value).toArray w (cJ fun v w'=>v=zB R/\aG G K (L) w'):=by
 refine aN func176 rfl (by kernel_rfl) (by show (1:Nat)<=9;decide) ?_;unfold kV at hm
 exact aL (aI (v:=zB false) (aM (aH (bB [] (fun f w=>∃ b,wE b=some R/\f 2=zB b/\aG G K (L) w) aF aF))))
theorem aGV {a:aK} {R:Int} (hm:aEk a=some R) (d:aG G K (L) w):
  Calls prog 216 ([str a]:List Value).toArray w (cJ fun v w'=>v=i64 R/\aG G K (L) w'):=by
 refine aN func216 rfl (by kernel_rfl) (by show (1:Nat)<=17;decide) ?_;unfold aEk at hm
 refine aL (aI (v:=i64 0) (aM (aH (aL (aI (v:=i64 0) (aM (aQ [0] (fun f w=>aJU a=some R/\aG G K (L) w) aF ?_)))))));obtain ⟨e,b,ho⟩:=aB hm
 exact bS [0] b (fun c f w=>f 3=i64 c/\aG G K (L) w) aF aF
theorem aFV {a:aK} {by_:UInt8} {R:(List aK)} (hm:aCl a by_=some R) (x:aG G K (L) w):
  Calls prog 217 ([str a,Value.int .u8 (by_.toNat:Int)]:List Value).toArray w (cJ fun v w'=>∃ l m,v=zS l R.length m/\aG G K (aV 9 K l m R::L) w'):=by
 refine aN func217 rfl (by kernel_rfl) (by show (2:Nat)<=35;decide) ?_;unfold aCl at hm
 refine aL (aI (v:=zS none 0 0) (aM (aL (dH (Kt:=K) (xs:=([]:List aK)) (cs:=[]) (vs:=[]) cU pT rfl rfl x rfl (by kernel_rfl) rfl rfl rfl trivial (fun n y (a2:aG G K (aV 9 K n 0 ([]:List aK)::L) y)=>(aI (v:=zS n ([]:List aK).length 0) (aM (aL (aI (v:=i64 0) (aM (aH (aL (aI (v:=i64 0) (aM (aQ [0] (fun f w=>∃ g o p q,aDQ a g o=some R/\f 5=zS p g.length q/\f 6=i64 o/\aG G K (aV 9 K p q g::L) w) aF ?_)))))))))))))))
 obtain ⟨a3,z,ho⟩:=aB hm
 refine aBY [0,1] z (fun h r b f w=>∃ i j,f 5=zS i h.length j/\f 6=i64 r/\f 7=i64 b/\aG G K (aV 9 K i j h::L) w) aF ?_
 ·rintro h r b J f a4 hm hr ⟨i,j,a6,a7,t,a8⟩
  unfold aAb at hm
  refine aH (aL (bO t (aO (v:=str a) (aC (sV runUnderlying9 rfl) (aC (dJ rfl rfl) (aM ?_))))))
  rcases aJ hm with ⟨u,hm⟩|⟨u,hm⟩
  ·refine aR u rfl (aT (aE (aH (aQ [0,1,7] (fun f w=>∃ c k d e,pA b c k=some J/\f 5=zS d c.length e/\f 6=i64 k/\aG G K (aV 9 K d e c::L) w) ?_ ?_))))
   ·rintro f a9 ⟨c,k,d,e,hm,V,Z,a0⟩
    unfold pA at hm
    exact aE (bL (bO t (aC (mQ rfl rfl) (aI (v:=i64 (wr (b+1))) (aM ⟨_,(Option.some.inj hm).symm,gB,d,e,V,Z,rfl,a0⟩)))))
   exact aF
  ·exact aF
theorem aEB {c:aK} {R:(Int × Bool)} (hm:vI c=some R) (z:aG G K (L) w):
  Calls prog 218 ([str c]:List Value).toArray w (cJ fun v w'=>v=Value.tuple #[i64 R.1,zB R.2]/\aG G K (L) w'):=by
 refine aN func218 rfl (by kernel_rfl) (by show (1:Nat)<=62;decide) ?_;unfold vI at hm
 refine aL (aI (v:=i64 0) (aI (v:=zB false) (aM (aL (aI (v:=i64 0) (aM (gC [0] (fun f w=>∃ d,mY c d=some R/\f 4=i64 d/\aG G K (L) w) ?_ ?_)))))))
 ·rintro f J ⟨d,hm,p,V⟩
  unfold mY at hm
  refine aH (aH (bB [0,4] (fun f w=>∃ g,jO c d g=some R/\f 36=zB g/\aG G K (L) w) ?_ ?_))
  ·rintro f Z ⟨g,hm,q,a0⟩
   unfold jO at hm
   refine aE ?_
   rcases aJ hm with ⟨j,hm⟩|⟨j,hm⟩
   ·exact aF
   ·refine aP j q (aT (aE (aL (aI (v:=i64 0) (aM (aH (aL (bO p (aI (v:=i64 d) (aM (aQ [4] (fun f w=>∃ h,wF d h=some R/\f 5=i64 h/\aG G K (L) w) ?_ ?_)))))))))))
    ·rintro f a1 ⟨h,hm,a2,a3⟩
     unfold wF at hm
     exact aE (gC [] (fun f w=>∃ k,aCm k=some R/\f 5=i64 k/\aG G K (L) w) aF aF)
    obtain ⟨a4,r,ho⟩:=aB hm
    refine cA [0,4] r (fun i i32 f w=>f 5=i64 i/\f 6=i64 i32/\aG G K (L) w) aF ?_
    ·rintro i i32 a5 f a6 hm hr ⟨t,e,u⟩
     unfold mX at hm
     refine aH (aL (bO e (aO (v:=str c) (aC (sV runUnderlying9 rfl) (aC (dJ rfl rfl) (aM ?_))))))
     rcases aJ hm with ⟨l,hm⟩|⟨l,hm⟩
     ·refine aR l rfl (aT (aE (aH (bJ (aH (aL (aO (v:=str c) (bO e ?_))))))));obtain ⟨c45,m,hm⟩:=aB hm
      refine aC (R_ixS runUnderlying9 rfl rfl m) ?_;obtain ⟨a7,x,hm⟩:=aB hm
      refine aW (vs:=[Value.int .u8 (c45.toNat:Int)]) call71 rfl (aFU x u) ?_
      rintro _ a8 ⟨rfl,y⟩
      refine aC (sL rfl) (aM ?_)
      rcases aJ hm with ⟨n,hm⟩|⟨n,hm⟩
      ·exact aF
      ·exact aP n rfl (aT (aE (bL (bO t (aC (R_mul rfl rfl) (aO (v:=str c) (bO e (aC (R_ixS runUnderlying9 rfl rfl m) (aC (aQS (a:=c45) (b:=(48:UInt8)) rfl rfl) (aC (aQP runUnderlying2 rfl ⟨_,runUnderlying5⟩) (aC (mQ rfl rfl) (aI (v:=i64 (wr ((wr (10 * i))+(wr ((c45 - (48:UInt8)).toNat:Int))))) (bR (eK (aE (bL (bO e (aC (mQ rfl rfl) (aI (v:=i64 (wr (i32+1))) (aM ⟨_,(Option.some.inj hm).symm,gB,rfl,rfl,y⟩))))))))))))))))))))
     ·exact aF
  exact aF
 exact aH (bB [0,4] (fun f w=>∃ o,qR c o=some R/\f 14=zB o/\aG G K (L) w) aF aF)
theorem aLl {a:aK} {R:((List Int) × Bool)} (hm:aDl a=some R) (hs:aG G K (L) w):
  Calls prog 175 ([str a]:List Value).toArray w (cJ fun v w'=>∃ q r,v=Value.tuple #[zS q R.1.length r,zB R.2]/\aG G K (aV 2 K q r R.1::L) w'):=by
 refine aN func175 rfl (by kernel_rfl) (by show (1:Nat)<=70;decide) ?_;unfold aDl at hm
 refine aL (aI (v:=zS none 0 0) (aI (v:=zB false) (aM (aL (aO (v:=str a) ?_)))));obtain ⟨h,q2,hm⟩:=aB hm
 refine aW (vs:=[str a]) call216 rfl (aGV q2 hs) ?_
 rintro _ w3 ⟨rfl,b6⟩
 refine aI (v:=i64 h) (aM (aH (aL (aO (v:=i64 h) (aO (v:=str a) (aC (sV runUnderlying9 rfl) (aC (dP rfl rfl) (aM ?_))))))))
 rcases aJ hm with ⟨u,hm⟩|⟨u,hm⟩
 ·exact aF
 ·refine aP u rfl (aT (aE (aH (aH (bB [0,4] (fun f w=>∃ l,mZ a h l=some R/\f 31=zB l/\aG G K (L) w) ?_ ?_)))))
  ·rintro f b7 ⟨l,hm,a3,a4⟩
   unfold mZ at hm
   refine aE ?_
   rcases aJ hm with ⟨x,hm⟩|⟨x,hm⟩
   ·exact aF
   ·refine aP x a3 (aT (aE (aL (aO (v:=str a) (aO (v:=i64 h) (aC (mQ rfl rfl) (aO (v:=str a) (aC (sV runUnderlying9 rfl) (aC (jM rfl rfl) ?_)))))))));obtain ⟨a5,a6,hm⟩:=aB hm
    refine aC (R_slSLH runUnderlying9 rfl rfl rfl a6) ?_;obtain ⟨b,a7,hm⟩:=aB hm
    refine aW (vs:=[str a5,Value.int .u8 44]) call217 rfl (aFV (by_:=(44:UInt8)) a7 a4) ?_
    rintro _ b8 ⟨c,d,rfl,a8⟩
    refine aI (v:=zS c b.length d) (aM (aL (dH (Kt:=K) (xs:=([]:List Int)) (cs:=[]) (vs:=[]) dW yK rfl rfl a8 rfl (by kernel_rfl) rfl rfl rfl trivial (fun y a9 (b9:aG G K (aV 2 K y 0 ([]:List Int)::aV 9 K c d b::L) a9)=>(aI (v:=zS y ([]:List Int).length 0) (aM (aH (aL (aI (v:=i64 0) (aM (aQ [] (fun f w=>∃ m z J,aCn m=some R/\f 6=zS z m.length J/\aG G K (aV 2 K z J m::L) w) aF ?_)))))))))));obtain ⟨c0,b0,ho⟩:=aB hm
    refine cA [5] b0 (fun e n f w=>∃ j k,f 6=zS j e.length k/\f 7=i64 n/\aG G K (aV 2 K j k e::aV 9 K c d b::L) w) aF ?_
    ·rintro e n b1 f c1 hm hr ⟨j,k,c2,V,o⟩
     unfold qS at hm
     refine aH (aL (bO V (aO (v:=zS c b.length d) (aC (aU (len:=b.length) cU rfl) (aC (dJ rfl rfl) (aM ?_))))))
     rcases aJ hm with ⟨Z,hm⟩|⟨Z,hm⟩
     ·refine aR Z rfl (aT (aE (aH (bJ (aL (aO (v:=zS c b.length d) (bO V ?_)))))));obtain ⟨b2,p,hm⟩:=aB hm
      have b3:=eG o (i:=1) rfl p
      refine aC (iU cU rfl b3 rfl rfl rfl p) (aC (oP (t:=0) nV o (i:=1) rfl p rfl rfl rfl) ?_);obtain ⟨g,b4,hm⟩:=aB hm
      refine aW (vs:=[str b2]) call218 rfl (aEB b4 o) ?_
      rintro _ c3 ⟨rfl,c4⟩
      exact aO (v:=Value.tuple #[i64 g.1,zB g.2]) (aC (iL rfl rfl) (aC (iL rfl rfl) (aI (v:=i64 g.1) (aI (v:=zB g.2) (aM (aH (aH (bB [5,6,7,8] (fun f w=>∃ a0,wG e n g a0=some b1/\f 61=zB a0/\aG G K (aV 2 K j k e::aV 9 K c d b::L) w) aF aF))))))))
     ·exact aF
  exact aF
theorem aMm {a:aK} {R:Bool} (hm:aCo a=some R) (b:aG G K (L) w):
  Calls prog 130 ([str a]:List Value).toArray w (cJ fun v w'=>v=zB R/\aG G K (L) w'):=by
 exact aF
theorem aMn {a:(List aK)} {R:Bool} (hm:aCp a=some R) (l:aG G K (L) w) (m:aX K a1 c2 a):
  Calls prog 73 ([zS a1 a.length c2]:List Value).toArray w (cJ fun v w'=>v=zB R/\aG G K (L) w'):=by
 refine aN func73 rfl (by kernel_rfl) (by show (1:Nat)<=53;decide) ?_;unfold aCp at hm
 refine aL (aI (v:=zB false) (aM (aH (aH (bB [0] (fun f w=>∃ b,pC a b=some R/\f 17=zB b/\aG G K (L) w) ?_ ?_)))))
 ·rintro f n ⟨b,hm,h,o⟩
  unfold pC at hm
  refine aE ?_
  rcases aJ hm with ⟨d,hm⟩|⟨d,hm⟩
  ·exact aF
  ·refine aP d h (aT (aE (aH (aL (aI (v:=i64 1) (aM (aQ [] (fun f w=>aIl=some R/\aG G K (L) w) aF ?_)))))));obtain ⟨p,i,ho⟩:=aB hm
   refine bS [0] i (fun c f w=>f 3=i64 c/\aG G K (L) w) aF ?_
   ·rintro c j f q hm hr ⟨k,r⟩
    unfold sZ at hm
    refine aH (aL (bO k (aO (v:=zS a1 a.length c2) (aC (aU (len:=a.length) cU rfl) (aC (dJ rfl rfl) (aM ?_))))))
    rcases aJ hm with ⟨e,hm⟩|⟨e,hm⟩
    ·exact aR e rfl (aT (aE (aH (bJ (aH (bB [0,3] (fun f w=>∃ g,pB c g=some j/\f 52=zB g/\aG G K (L) w) aF aF))))))
    ·exact aF
 exact aF
theorem aGW {a:Edge} {c:Nat} {b:Edge} {d:Nat} {R:Bool} (hm:aHv a b=some R) (e:aG G K (L) w) (g:eM K a1 c [i64 a.F,i64 a.B,i64 a.To]) (h:eM K a4 d [i64 b.F,i64 b.B,i64 b.To]):
  Calls prog 74 ([cD a1 c,cD a4 d]:List Value).toArray w (cJ fun v w'=>v=zB R/\aG G K (L) w'):=by
 exact aF
theorem aKz {t:gM} {d:Nat} {R:Bool} (hm:aJV t=some R) (hs:aG G K (L) w) (b:eM K a1 d (zC t a4 c5 a7 c8)) (h6:aX K a4 c5 t.L) (h:aX K a7 c8 t.E):
  Calls prog 35 ([cD a1 d]:List Value).toArray w (cJ fun v w'=>v=zB R/\aG G K (L) w'):=by
 refine aN func35 rfl (by kernel_rfl) (by show (1:Nat)<=101;decide) ?_;unfold aJV at hm
 refine aL (aI (v:=zB false) (aM (aH (aH (bB [0] (fun f w=>∃ l,uW t l=some R/\f 39=zB l/\aG G K (L) w) ?_ ?_)))))
 ·rintro f b5 ⟨l,hm,J,b6⟩
  unfold uW at hm
  refine aE ?_
  rcases aJ hm with ⟨o,hm⟩|⟨o,hm⟩
  ·exact aF
  ·refine aP o J (aT (aE (aH (aL (aI (v:=i64 0) (aM (aQ [] (fun f w=>aNk=some R/\aG G K (L) w) aF ?_)))))));obtain ⟨b7,V,ho⟩:=aB hm
   refine bS [0] V (fun e f w=>f 3=i64 e/\aG G K (L) w) aF ?_
   ·rintro e p f b8 hm hr ⟨j,k⟩
    unfold aCq at hm
    refine aH (aL (bO j (aO (v:=cD a1 d) (aC (dA rfl b) (aC (cB (k':=d+3) aBl rfl b rfl) (aC (bY (t:=3) aJK k b rfl rfl) (aC (aU (len:=t.E.length) vG rfl) (aC (dJ rfl rfl) (aM ?_)))))))))
    rcases aJ hm with ⟨q,hm⟩|⟨q,hm⟩
    ·refine aR q rfl (aT (aE (aH (bJ (aL (aO (v:=cD a1 d) (aC (dA rfl b) (aC (cB (k':=d+3) aBl rfl b rfl) (aC (bY (t:=3) aJK k b rfl rfl) (bO j ?_))))))))));obtain ⟨a,r,hm⟩:=aB hm
     refine aC (cK vG rfl h rfl rfl rfl r) ?_;obtain ⟨b9,Z,a0⟩:=aX.el (sz:=3) rfl h r
     cases a0
     refine aC (dQ (t:=0) (vs:=[i64 a.F,i64 a.B,i64 a.To]) aLd k Z rfl rfl rfl) (dV (vs:=[i64 0,i64 0,i64 0]) zeroValue106 k rfl (fun m c0 a2=>(eW (i:=0) (ns:=[i64 a.F,i64 a.B,i64 a.To]) (us:=[i64 a.F,i64 a.B,i64 a.To]) sizeOf106 a2 rfl rfl rfl rfl rfl (jY rfl) rfl rfl (fun a3 (c1:aG G K (box m 106 [i64 a.F,i64 a.B,i64 a.To]::L) a3)=>(aM (aH (aH (bB [0,3,4] (fun f w=>∃ n,yN t e a n=some p/\f 87=zB n/\aG G K (box m 106 [i64 a.F,i64 a.B,i64 a.To]::L) w) ?_ ?_))))))))
     ·rintro f c2 ⟨n,hm,a5,u⟩
      unfold yN at hm
      refine aE ?_
      rcases aJ hm with ⟨x,hm⟩|⟨x,hm⟩
      ·exact aF
      ·refine aP x a5 (aT (aE (aH (bB [0,3] (fun f w=>∃ y,aFd e y=some p/\f 100=zB y/\aG G K (L) w) aF (bL (bO j (aC (aLK rfl rfl) (aO (v:=zB (decide (0 < e))) ?_))))))))
       rcases aJ hm with ⟨c,hm⟩|⟨c,hm⟩
       ·refine bX c rfl rfl (aO (v:=cD a1 d) (bX c rfl rfl (aC (dA rfl b) (bX c rfl rfl (aC (cB (k':=d+3) aBl rfl b rfl) (bX c rfl rfl (aC (bY (t:=3) aJK u b rfl rfl) (bX c rfl rfl (bO j (bX c rfl rfl (aC (jM rfl rfl) (bX c rfl rfl ?_))))))))))));obtain ⟨c3,z,hm⟩:=aB hm
        refine aC (cK vG rfl h rfl rfl rfl z) ?_;obtain ⟨c4,a6,a8⟩:=aX.el (sz:=3) rfl h z
        cases a8
        refine bX c rfl rfl ?_;obtain ⟨c6,a9,b0,b1,c7⟩:=aG.lendBp u .head
        obtain ⟨c9,b2,hm⟩:=aB hm
        exact aW (vs:=[cD a7 ((wr (e - 1)).toNat * 3+0),cD (some ⟨m,0,none⟩) 0]) call74 rfl (aGW b2 b1 (a6.mono a9) b0) aF
       ·exact aF
     exact aF
    ·exact aF
 exact aF
theorem aCK {a:bM} {b:Nat} {R:Bool} (hm:aEl a=some R) (c:aG G K (L) w) (d:eM K a1 b [zS a4 a.Definitions.length c5,zS a7 a.Components.length c8,zS a10 a.Meetings.length c11,zS a13 a.Allowed.length c14,zS a16 a.Hidden.length c17]) (e:aX K a4 c5 a.Definitions) (g:aX K a7 c8 a.Components) (h:aX K a10 c11 a.Meetings) (i:aX K a13 c14 a.Allowed) (j:aX K a16 c17 a.Hidden):
  Calls prog 36 ([cD a1 b]:List Value).toArray w (cJ fun v w'=>v=zB R/\aG G K (L) w'):=by
 exact aF
theorem aBa {a R:Int} (hm:uX a=some R) (g:aG G K (L) w):
  Calls prog 78 ([i64 a]:List Value).toArray w (cJ fun v w'=>v=i64 R/\aG G K (L) w'):=by
 refine aN func78 rfl (by kernel_rfl) (by show (1:Nat)<=11;decide) ?_;unfold uX at hm
 refine aL (aI (v:=i64 0) (aM (aH (aL (aO (v:=i64 a) (aM (bJ (gC [3] (fun f w=>∃ b,pD a b=some R/\f 4=zB b/\aG G K (L) w) ?_ ?_))))))))
 ·rintro f h ⟨b,hm,e,i⟩
  unfold pD at hm
  rcases aJ hm with ⟨c,hm⟩|⟨c,hm⟩
  ·exact aF
  ·exact aP c e (gC [] (fun f w=>∃ d,aAc d=some R/\f 8=zB d/\aG G K (L) w) aF aF)
 exact aF
theorem aDz {a:aK} {R:Bool} (hm:wH a=some R) (g:aG G K (L) w):
  Calls prog 131 ([str a]:List Value).toArray w (cJ fun v w'=>v=zB R/\aG G K (L) w'):=by
 refine aN func131 rfl (by kernel_rfl) (by show (1:Nat)<=23;decide) ?_;unfold wH at hm
 refine aL (aI (v:=zB false) (aM (aH (aH (bB [0] (fun f w=>∃ b,oS a b=some R/\f 8=zB b/\aG G K (L) w) ?_ ?_)))))
 ·rintro f h ⟨b,hm,e,i⟩
  unfold oS at hm
  refine aE ?_
  rcases aJ hm with ⟨c,hm⟩|⟨c,hm⟩
  ·exact aF
  ·exact aP c e (aT (aE (aH (bB [] (fun f w=>∃ d,uI d=some R/\f 2=zB d/\aG G K (L) w) aF aF))))
 exact aF
theorem aFW {c:(List bI)} {z p:Int} {R:Bool} (hm:yO c z p=some R) (hs:aG G K (L) w) (m:aX K a1 c2 c):
  Calls prog 75 ([zS a1 c.length c2,i64 z,i64 p]:List Value).toArray w (cJ fun v w'=>v=zB R/\aG G K (L) w'):=by
 refine aN func75 rfl (by kernel_rfl) (by show (3:Nat)<=91;decide) ?_;unfold yO at hm
 refine aL (aI (v:=zB false) (aM (aH (aH (bB [0,2] (fun f w=>∃ q,pF c p q=some R/\f 18=zB q/\aG G K (L) w) ?_ ?_)))))
 ·rintro f w6 ⟨q,hm,e5,b5⟩
  unfold pF at hm
  refine aE ?_
  rcases aJ hm with ⟨J,hm⟩|⟨J,hm⟩
  ·exact aF
  ·refine aP J e5 (aT (aE (aL (aI (v:=i64 1) (aM (aH (aL (aI (v:=i64 0) (aM (aQ [] (fun f w=>∃ V,aIm V=some R/\f 7=i64 V/\aG G K (L) w) aF ?_))))))))));obtain ⟨b6,a6,ho⟩:=aB hm
   refine cA [0,2] a6 (fun i d f w=>f 7=i64 i/\f 8=i64 d/\aG G K (L) w) aF ?_
   ·rintro i d r f b7 hm hr ⟨a7,n,b8⟩
    unfold tC at hm
    refine aH (aL (bO n (aO (v:=zS a1 c.length c2) (aC (aU (len:=c.length) sM rfl) (aC (dJ rfl rfl) (aM ?_))))))
    rcases aJ hm with ⟨Z,hm⟩|⟨Z,hm⟩
    ·refine aR Z rfl (aT (aE (aH (bJ (aH (aH (bB [0,2,7,8] (fun f w=>∃ u,tB c i d u=some r/\f 36=zB u/\aG G K (L) w) ?_ ?_)))))))
     ·rintro f b9 ⟨u,hm,a8,a0⟩
      unfold tB at hm
      refine aE ?_
      rcases aJ hm with ⟨a2,hm⟩|⟨a2,hm⟩
      ·exact aF
      ·refine aP a2 a8 (aT (aE (aL (bO a7 (aO (v:=zS a1 c.length c2) (bO n ?_))))));obtain ⟨e,o,hm⟩:=aB hm
       refine aC (cK sM rfl m rfl rfl rfl o) ?_;obtain ⟨c0,h,a9⟩:=aX.el (sz:=4) rfl m o
       cases a9
       refine aC (cB (k':=d.toNat * 4+0) aAw rfl h rfl) (aC (bY (t:=0) gH a0 h rfl rfl) ?_);obtain ⟨x,b0,hm⟩:=aB hm
       refine aW (vs:=[i64 e.Kind]) call78 rfl (aBa b0 a0) ?_
       rintro _ c1 ⟨rfl,c3⟩
       refine aC (jM rfl rfl) (aC (mQ rfl rfl) (aI (v:=i64 (wr (i+(wr (x - 1))))) (aM (aH (bB [0,2,7,8] (fun f w=>∃ j,tA i d e x j=some r/\f 9=zB j/\aG G K (L) w) ?_ ?_)))))
       ·rintro f c4 ⟨j,hm,y,k⟩
        unfold tA at hm
        refine aE (aH (bB [0,2,7,8] (fun f w=>∃ a3,pE i d x a3=some r/\f 88=zB a3/\aG G K (L) w) aF (bL (bO y (aO (v:=zB j) ?_)))))
        rcases aJ hm with ⟨a,hm⟩|⟨a,hm⟩
        ·refine bX a rfl rfl (aO (v:=zS a1 c.length c2) (bX a rfl rfl (bO n (bX a rfl rfl (aC (cK sM rfl m rfl rfl rfl o) (bX a rfl rfl (aC (cB (k':=d.toNat * 4+2) aGv rfl h rfl) (bX a rfl rfl (aC (bY (t:=2) nV k h rfl rfl) (bX a rfl rfl ?_))))))))));obtain ⟨a4,b1,hm⟩:=aB hm
         refine aW (vs:=[str e.B]) call131 rfl (aDz b1 k) ?_
         rintro _ c5 ⟨rfl,b2⟩
         refine bX a rfl rfl (aC (sL rfl) (aC (oO (v:=zB (!a4)) a rfl rfl) (aO (v:=zB (!a4)) ?_)))
         rcases aJ hm with ⟨l,hm⟩|⟨l,hm⟩
         ·exact aF
         ·exact kN l rfl rfl (bO y (kN l rfl rfl (aC (sL rfl) (kN l rfl rfl (aO (v:=zB (!j)) (kF (vU a) rfl rfl (kF (vU a) rfl rfl (kF (vU a) rfl rfl (kF (vU a) rfl rfl (kF (vU a) rfl rfl (kF (vU a) rfl rfl (kF (vU a) rfl rfl (aEb (g:=80) rfl rfl (aEb (g:=80) rfl rfl (aEb (g:=80) rfl rfl (aEb (g:=80) rfl rfl (aEb (g:=80) rfl rfl (kF (vU a) rfl rfl (kN l rfl rfl (aC (vS (v:=zB false) (vU a) rfl rfl) (aC (vS (v:=zB false) l rfl rfl) (aM ⟨gB,false,hm,rfl,b2⟩))))))))))))))))))))))
        ·refine kF a rfl rfl (kF a rfl rfl (kF a rfl rfl (kF a rfl rfl (kF a rfl rfl (kF a rfl rfl (kF a rfl rfl (aC (vS (v:=zB false) a rfl rfl) (aO (v:=zB false) (kN (by decide:¬ false=true) rfl rfl (bO y (kN (by decide:¬ false=true) rfl rfl (aC (sL rfl) (kN (by decide:¬ false=true) rfl rfl (aO (v:=zB (!j)) (bX (mS a) rfl rfl (aO (v:=zS a1 c.length c2) (bX (mS a) rfl rfl (bO n (bX (mS a) rfl rfl (aC (cK sM rfl m rfl rfl rfl o) (bX (mS a) rfl rfl (aC (cB (k':=d.toNat * 4+2) aGv rfl h rfl) (bX (mS a) rfl rfl ?_)))))))))))))))))))))))
         refine aC (bY (t:=2) nV k h rfl rfl) (bX (mS a) rfl rfl (aC (R_neqS rfl rfl) (bX (mS a) rfl rfl (aO (v:=zB (!(e.B == ([]:aK)))) ?_))))
         rcases aJ hm with ⟨b,hm⟩|⟨b,hm⟩
         ·exact aEa b rfl rfl (aEa b rfl rfl (aEa b rfl rfl (aEa b rfl rfl (aEa b rfl rfl (bX (mS a) rfl rfl (aC (oO (v:=zB true) b rfl rfl) (kN (by decide:¬ false=true) rfl rfl (aC (oO (v:=zB true) (mS a) rfl rfl) (aC (vS (v:=zB true) (by decide:¬ false=true) rfl rfl) (aM ⟨gB,true,hm,rfl,k⟩))))))))))
         ·exact kN b rfl rfl (aO (v:=zS a1 c.length c2) (kN b rfl rfl (bO n (kN b rfl rfl (aC (cK sM rfl m rfl rfl rfl o) (kN b rfl rfl (aC (cB (k':=d.toNat * 4+3) aJL rfl h rfl) (kN b rfl rfl (aC (bY (t:=3) sc_4 k h rfl rfl) (bX (mS a) rfl rfl (aC (vS (v:=zB e.Not) b rfl rfl) (kN (by decide:¬ false=true) rfl rfl (aC (oO (v:=zB e.Not) (mS a) rfl rfl) (aC (vS (v:=zB e.Not) (by decide:¬ false=true) rfl rfl) (aM ⟨gB,e.Not,hm,rfl,k⟩)))))))))))))))
       exact aF
     exact aF
    ·exact aF
 exact aF
theorem aMo {n:bI} {a:Nat} {R:Bool} (hm:yP n=some R) (c:aG G K (L) w) (d:eM K a1 a [i64 n.Kind,i64 n.Variable,str n.B,zB n.Not]):
  Calls prog 76 ([cD a1 a]:List Value).toArray w (cJ fun v w'=>v=zB R/\aG G K (L) w'):=by
 refine aN func76 rfl (by kernel_rfl) (by show (1:Nat)<=15;decide) ?_;unfold yP at hm
 exact aL (aI (v:=zB false) (aM (aH (bB [] (fun f w=>∃ b,aAd b=some R/\f 2=zB b/\aG G K (L) w) aF aF))))
theorem aOO {a:(List bI)} {k R:Int} (hm:aEm a k=some R) (g:aG G K (L) w) (h:aX K a1 c2 a):
  Calls prog 132 ([zS a1 a.length c2,i64 k]:List Value).toArray w (cJ fun v w'=>v=i64 R/\aG G K (L) w'):=by
 refine aN func132 rfl (by kernel_rfl) (by show (2:Nat)<=20;decide) ?_;unfold aEm at hm
 refine aL (aI (v:=i64 0) (aM (aL (aI (v:=i64 1) (aM (aH (aQ [] (fun f w=>∃ b,aGE b=some R/\f 1=i64 b/\aG G K (L) w) aF ?_)))))));obtain ⟨i,c,ho⟩:=aB hm
 exact cA [0] c (fun d e f w=>f 1=i64 d/\f 5=i64 e/\aG G K (L) w) aF aF
theorem aLm {a:(List bI)} {k R:Int} (hm:vJ a k=some R) (i:aG G K (L) w) (j:aX K a1 c2 a):
  Calls prog 77 ([zS a1 a.length c2,i64 k]:List Value).toArray w (cJ fun v w'=>v=i64 R/\aG G K (L) w'):=by
 refine aN func77 rfl (by kernel_rfl) (by show (2:Nat)<=37;decide) ?_;unfold vJ at hm
 refine aL (aI (v:=i64 0) (aM (aH (aL (aO (v:=i64 k) (aC (jM rfl rfl) (aI (v:=i64 (wr (k - 1))) (aM (aQ [] (fun f w=>aGF=some R/\aG G K (L) w) aF ?_)))))))));obtain ⟨l,e,ho⟩:=aB hm
 refine bS [0,1] e (fun b f w=>f 5=i64 b/\aG G K (L) w) aF ?_
 ·rintro b g f m hm hr ⟨h,n⟩
  unfold qU at hm
  refine aH (aL (bO h (aC (aPh rfl rfl) (aM ?_))))
  rcases aJ hm with ⟨c,hm⟩|⟨c,hm⟩
  ·exact aR c rfl (aT (aE (aH (bJ (aH (bB [0,1,5] (fun f w=>∃ d,qT b d=some g/\f 35=zB d/\aG G K (L) w) aF aF))))))
  ·exact aF
end Gv
