/- Walks, printed by program. -/
import Derived.Test.YtigicpgpkmjdpaaGreatDoorJLW
set_option linter.all false
namespace Gv
open Go.Value renaming slice→zS,bool→zB,tuple→zT
open Option.some renaming inj→zI
open Gv.Hp renaming le_refl→zR
open Go Go.Proofs Go.Proofs.Tryz
set_option maxRecDepth 20000
set_option maxHeartbeats 40000000
variable {G:zZ} {K:Hp} {L:List jM} {w:World} {a1 a4 a7 a2:Option Addr} {c2 c5 c8 b1 c3:Nat}
theorem aLL {c:(List Int)} {j R:aI} (hm:aEE c j=some R) (V:aF G K (L) w) (hG:G.lo=0) (p:bG K a1 c2 c):
  Calls prog 47 ([zS a1 c.length c2,str j]:List Value).toArray w (eZ fun v w'=>v=str R/\aF G K (L) w'):=by
 refine aO func47 rfl (by kernel_rfl) (by show (2:Nat)<=27;decide) ?_;unfold aEE at hm
 refine aK (aJ (v:=str ([]:aI)) (aH (aK (aG (v:=zS a1 c.length c2) (aD (bH (len:=c.length) bJ rfl) ?_)))));obtain ⟨a,q5,hm⟩:=aB hm
 refine aIf (e:=([]:aI)) eG aDQ rfl rfl V rfl rfl rfl q5 rfl (fun b w7 (b3:aF G K (aL 9 K b a.length a::L) w7)=>(aJ (v:=zS b a.length a.length) (aH (aM (aK (aG (v:=zS a1 c.length c2) (aD (bH (len:=c.length) bJ rfl) (aG (v:=i64 0) (aH (aQ [1] (fun f w=>∃ k,aGd j k=some R/\f 5=zS b k.length a.length/\aF G K (aL 9 K b a.length k::L) w) aP ?_))))))))));obtain ⟨b4,a3,ho⟩:=aB hm
 refine cC [1,11,12] a3 (fun l d f w=>f 5=zS b l.length a.length/\f 13=i64 d/\aF G K (aL 9 K b a.length l::L) w) aP ?_
 ·rintro l d b5 f b6 hm hr ⟨q,g,r⟩
  unfold aBK at hm
  refine aK (aD (cU g rfl) (aH (aM ?_)))
  rcases aN hm with ⟨u,hm⟩|⟨u,hm⟩
  ·refine aS u rfl (aY (aC (aM (cV (aK (bC g ?_))))));obtain ⟨m,x,hm⟩:=aB hm
   refine aD (dP bJ rfl p rfl rfl g x) ?_;obtain ⟨b7,a4,a5⟩:=bG.el (sz:=1) rfl p x
   cases a5
   refine aD (bD (t:=0) dC r a4 rfl rfl) (aJ (v:=i64 d) (aJ (v:=i64 m) (aH (aU (bC q (aG (v:=i64 d) (aG (v:=i64 m) ?_)))))));obtain ⟨y,a7,hm⟩:=aB hm
   refine aR (vs:=[i64 m]) call88 rfl (aJH r a7) ?_
   rintro _ b8 ⟨rfl,z⟩
   obtain ⟨b9,o,hm⟩:=aB hm
   have a8:=dU z (i:=0) rfl o
   refine aD (fL eG rfl a8 rfl rfl rfl o) ?_;obtain ⟨a9,J,hm⟩:=aB hm
   exact nO (i:=0) (t:=0) (ns:=[str y]) (e':=(y:aI)) sizeOf9 z rfl (zR _) rfl rfl rfl o J rfl rfl (dQ rfl) rfl (fun cs h=>by cases h;rfl) (fun b0 (b1:aF G K (aL 9 K b a.length a9::L) b0)=>(aT (dB (aC (aU (aD (dT g rfl) (aG (v:=i64 (wr (d+1))) (aH ⟨_,(zI hm).symm,bL,(Eq.trans q (congrArg (fun n=>zS b n a.length) (jG J))),rfl,b1⟩))))))))
  ·exact aP
theorem aKL {c:UInt8} {R:Bool} (hm:aGR c=some R) (b:aF G K (L) w):
  Calls prog 159 ([Value.int .u8 (c.toNat:Int)]:List Value).toArray w (eZ fun v w'=>v=zB R/\aF G K (L) w'):=by
 refine aO func159 rfl (by kernel_rfl) (by show (1:Nat)<=9;decide) ?_;unfold aGR at hm
 exact aK (aJ (v:=zB false) (aH (aM (cH [] (fun f w=>∃ a,aFi a=some R/\f 2=zB a/\aF G K (L) w) aP aP))))
theorem aLM {s_:aI} {R:Bool} (hm:aGf s_=some R) (j:aF G K (L) w):
  Calls prog 112 ([str s_]:List Value).toArray w (eZ fun v w'=>v=zB R/\aF G K (L) w'):=by
 refine aO func112 rfl (by kernel_rfl) (by show (1:Nat)<=42;decide) ?_;unfold aGf at hm
 refine aK (aJ (v:=zB false) (aH (aM (aK (aG (v:=str s_) (aD (aNX runUnderlying9 rfl) (aG (v:=i64 0) (aH (aQ [0] (fun f w=>aDY s_=some R/\aF G K (L) w) ?_ ?_)))))))))
 ·rintro f k ⟨hm,l⟩
  unfold aDY at hm
  exact aC (aM (cH [] (fun f w=>∃ c,aGe c=some R/\f 2=zB c/\aF G K (L) w) aP aP))
 obtain ⟨m,i,ho⟩:=aB hm
 refine fK [0,6] i (fun a f w=>f 7=i64 a/\aF G K (L) w) aP ?_
 ·rintro a d f n hm hr ⟨e,o⟩
  unfold aAd at hm
  refine aK (aD (cU e rfl) (aH (aM ?_)))
  rcases aN hm with ⟨g,hm⟩|⟨g,hm⟩
  ·refine aS g rfl (aY (aC (aM (cV (aK (bC e (aJ (v:=i64 a) (aH (aM (cH [0,3,6,7] (fun f w=>∃ b,sO s_ a b=some d/\f 4=zB b/\aF G K (L) w) ?_ ?_))))))))))
   ·rintro f p ⟨b,hm,q,r⟩
    unfold sO at hm
    exact aC (aM (cH [0,6,7] (fun f w=>∃ h,aBL a h=some d/\f 32=zB h/\aF G K (L) w) aP aP))
   exact aP
  ·exact aP
theorem aJV {s_:aI} {R:Bool} (hm:sY s_=some R) (b:aF G K (L) w):
  Calls prog 77 ([str s_]:List Value).toArray w (eZ fun v w'=>v=zB R/\aF G K (L) w'):=by
 refine aO func77 rfl (by kernel_rfl) (by show (1:Nat)<=9;decide) ?_;unfold sY at hm
 exact aK (aJ (v:=zB false) (aH (aM (cH [] (fun f w=>∃ a,aBz a=some R/\f 2=zB a/\aF G K (L) w) aP aP))))
theorem aLN {n low a:Int} {R:Bool} (hm:tR n low a=some R) (c:aF G K (L) w):
  Calls prog 36 ([i64 n,i64 low,i64 a]:List Value).toArray w (eZ fun v w'=>v=zB R/\aF G K (L) w'):=by
 refine aO func36 rfl (by kernel_rfl) (by show (3:Nat)<=15;decide) ?_;unfold tR at hm
 exact aK (aJ (v:=zB false) (aH (aM (cH [] (fun f w=>∃ b,aGg b=some R/\f 6=zB b/\aF G K (L) w) aP aP))))
theorem aKM {n:Int} {R:Bool} (hm:aJa n=some R) (a:aF G K (L) w):
  Calls prog 223 ([i64 n]:List Value).toArray w (eZ fun v w'=>v=zB R/\aF G K (L) w'):=by
 exact aP
theorem aCw {n:Int} {R:Bool} (hm:aDo n=some R) (a:aF G K (L) w):
  Calls prog 222 ([i64 n]:List Value).toArray w (eZ fun v w'=>v=zB R/\aF G K (L) w'):=by
 exact aP
theorem wE {s_:(List Int)} {R:Int} (hm:iF s_=some R) (m:aF G K (L) w) (b:bG K a1 c2 s_):
  Calls prog 204 ([zS a1 s_.length c2,Value.func (.func 222) #[] #[]]:List Value).toArray w (eZ fun v w'=>v=i64 R/\aF G K (L) w'):=by
 refine aO func204 rfl (by kernel_rfl) (by show (2:Nat)<=19;decide) ?_;unfold iF at hm
 refine aK (aJ (v:=i64 0) (aH (aM (aK (aG (v:=zS a1 s_.length c2) (aD (bH (len:=s_.length) bJ rfl) (aG (v:=i64 0) (aH (aQ [] (fun f w=>nX=some R/\aF G K (L) w) aP ?_)))))))));obtain ⟨n,i,ho⟩:=aB hm
 refine fK [0,1,7] i (fun a f w=>f 8=i64 a/\aF G K (L) w) aP ?_
 ·rintro a o f p hm hr ⟨c,d⟩
  unfold eH at hm
  refine aK (aD (cU c rfl) (aH (aM ?_)))
  rcases aN hm with ⟨e,hm⟩|⟨e,hm⟩
  ·refine aS e rfl (aY (aC (aM (cV (aK (bC c (aJ (v:=i64 a) (aH (aK (aG (v:=Value.func (.func 222) #[] #[]) (aG (v:=zS a1 s_.length c2) (aG (v:=i64 a) ?_))))))))))));obtain ⟨g,h,hm⟩:=aB hm
   refine aD (dP bJ rfl b rfl rfl rfl h) ?_;obtain ⟨q,j,k⟩:=bG.el (sz:=1) rfl b h
   cases k
   refine aD (bD (t:=0) dC d j rfl rfl) ?_;obtain ⟨r,l,hm⟩:=aB hm
   exact iS (vs:=[i64 g]) (caps:=[]) (us:=[i64 g]) rfl call222 rfl rfl (aCw l d) aP
  ·exact aP
theorem uA {s_:(List Int)} {R:Bool} (hm:kA s_=some R) (a:aF G K (L) w) (b:bG K a1 c2 s_):
  Calls prog 221 ([zS a1 s_.length c2,Value.func (.func 222) #[] #[]]:List Value).toArray w (eZ fun v w'=>v=zB R/\aF G K (L) w'):=by
 exact aP
theorem aJb {a:(List Int)} {R:Bool} (hm:aDZ a=some R) (b:aF G K (L) w) (c:bG K a1 c2 a):
  Calls prog 173 ([zS a1 a.length c2]:List Value).toArray w (eZ fun v w'=>v=zB R/\aF G K (L) w'):=by
 exact aP
theorem aGu {a:aI} {b:(List Int)} {R:(aI × Bool)} (hm:aBk a b=some R) (e:aF G K (L) w) (g:G.lo=0) (h:bG K a1 c2 b):
  Calls prog 129 ([str a,zS a1 b.length c2]:List Value).toArray w (eZ fun v w'=>v=zT #[str R.1,zB R.2]/\aF G K (L) w'):=by
 refine aO func129 rfl (by kernel_rfl) (by show (2:Nat)<=37;decide) ?_;unfold aBk at hm
 refine aK (aJ (v:=str ([]:aI)) (aJ (v:=zB false) (aH (aM (cV (aK (aG (v:=str a) (aD (aFR rfl rfl) (aJ (v:=zB (a == ([116,97,117]:aI))) (aH ?_))))))))))
 rcases aN hm with ⟨c,hm⟩|⟨c,hm⟩
 ·exact aP
 ·exact bE c rfl (aM (cH [0,1] (fun f w=>∃ d,aAt a b d=some R/\f 12=zB d/\aF G K (L) w) aP aP))
theorem aHI {a:(List aI)} {R:((List Int) × Bool)} (hm:xW a=some R) (k:aF G K (L) w) (n:G.lo=0) (o:bG K a1 c2 a):
  Calls prog 143 ([zS a1 a.length c2]:List Value).toArray w (eZ fun v w'=>∃ c d,v=zT #[zS c R.1.length d,zB R.2]/\aF G K (aL 2 K c d R.1::L) w'):=by
 refine aO func143 rfl (by kernel_rfl) (by show (1:Nat)<=28;decide) ?_;unfold xW at hm
 refine aK (aJ (v:=zS none 0 0) (aJ (v:=zB false) (aH (aK (aJ (v:=zS none 0 0) (aH (aM (aK (aG (v:=zS a1 a.length c2) (aD (bH (len:=a.length) eG rfl) (aG (v:=i64 0) (aH (aQ [] (fun f w=>∃ b e g,aEF b=some R/\f 4=zS e b.length g/\aF G K (aL 2 K e g b::L) w) aP ?_)))))))))))))
 have p:=aF.nil (α:=Int) k 2 K
 obtain ⟨q,l,ho⟩:=aB hm
 exact cC [9,10] l (fun h m f w=>∃ i j,f 4=zS i h.length j/\f 11=i64 m/\aF G K (aL 2 K i j h::L) w) aP aP
theorem xE {s_ a:aI} {R:Bool} (hm:iT s_ a=some R) (c:aF G K (L) w):
  Calls prog 234 ([str s_,str a]:List Value).toArray w (eZ fun v w'=>v=zB R/\aF G K (L) w'):=by
 refine aO func234 rfl (by kernel_rfl) (by show (2:Nat)<=21;decide) ?_;unfold iT at hm
 exact aK (aJ (v:=zB false) (aH (aM (cH [] (fun f w=>∃ b,gP b=some R/\f 4=zB b/\aF G K (L) w) aP aP))))
theorem wF {s_ a R:aI} (hm:kZ s_ a=some R) (b:aF G K (L) w):
  Calls prog 190 ([str s_,str a]:List Value).toArray w (eZ fun v w'=>v=str R/\aF G K (L) w'):=by
 exact aP
theorem aDR {s_ a R:aI} (hm:qM s_ a=some R) (b:aF G K (L) w):
  Calls prog 145 ([str s_,str a]:List Value).toArray w (eZ fun v w'=>v=str R/\aF G K (L) w'):=by
 exact aP
theorem aBr {s_:aI} {R:(aI × (List Int) × Bool)} (hm:lM s_=some R) (j:aF G K (L) w) (k:G.lo=0):
  Calls prog 101 ([str s_]:List Value).toArray w (eZ fun v w'=>∃ g h,v=zT #[str R.1,zS g R.2.1.length h,zB R.2.2]/\aF G K (aL 2 K g h R.2.1::L) w'):=by
 refine aO func101 rfl (by kernel_rfl) (by show (1:Nat)<=43;decide) ?_;unfold lM at hm
 refine aK (aJ (v:=str ([]:aI)) (aJ (v:=zS none 0 0) (aJ (v:=zB false) (aH (aK (aG (v:=str s_) ?_))))));obtain ⟨a,l,hm⟩:=aB hm
 refine aR (vs:=[str s_,str ([40]:aI)]) call142 rfl (lib_Cut j l) ?_
 rintro _ u ⟨rfl,x⟩
 refine aG (v:=zT #[str a.1,str a.2.1,zB a.2.2]) (aD (bV rfl rfl) (aD (bV rfl rfl) (aD (bV rfl rfl) (aJ (v:=str a.1) (aJ (v:=str a.2.1) (aJ (v:=zB a.2.2) (aH (aK (aJ (v:=zS none 0 0) (aH (mB [0,5] (fun f w=>∃ b c d,kK s_ a b=some R/\f 8=zS c b.length d/\aF G K (aL 2 K c d b::L) w) ?_ ?_)))))))))))
 ·rintro f y ⟨b,c,d,hm,m,n⟩
  unfold kK at hm
  refine aM (aK (aG (v:=str a.1) (bC m ?_)));obtain ⟨z,J,o,p,q⟩:=aF.lendSp n (zR _) .head
  obtain ⟨e,r,hm⟩:=aB hm
  refine aR (vs:=[str a.1,zS c b.length d]) call129 rfl (aGu r p k o) ?_
  rintro _ V ⟨rfl,t⟩
  have a0:=q _ _ t
  exact aG (v:=zT #[str e.1,zB e.2]) (aD (bV rfl rfl) (aD (bV rfl rfl) (aJ (v:=str e.1) (aJ (v:=zB e.2) (aH (aM (cH [5,8] (fun f w=>∃ i,lF a b i=some R/\f 40=zB i/\aF G K (aL 2 K c d b::L) w) aP aP)))))))
 exact aP
theorem aKN {s_:aI} {R:Bool} (hm:aCW s_=some R) (a:aF G K (L) w) (b:G.lo=0):
  Calls prog 74 ([str s_]:List Value).toArray w (eZ fun v w'=>v=zB R/\aF G K (L) w'):=by
 exact aP
theorem aHu {a more:(List UInt8)} {R:Bool} (hm:aGh a more=some R) (c:aF G K (L) w) (d:bG K a1 c2 a) (e:bG K a4 c5 more):
  Calls prog 4 ([zS a1 a.length c2,zS a4 more.length c5]:List Value).toArray w (eZ fun v w'=>v=zB R/\aF G K (L) w'):=by
 refine aO func4 rfl (by kernel_rfl) (by show (2:Nat)<=13;decide) ?_;unfold aGh at hm
 exact aK (aJ (v:=zB false) (aH (aM (cH [] (fun f w=>∃ b,aEa b=some R/\f 4=zB b/\aF G K (L) w) aP aP))))
theorem aDA {a:(List UInt8)} {R:(Int × Int)} (hm:aEG a=some R) (c:aF G K (L) w) (d:bG K a1 c2 a):
  Calls prog 11 ([zS a1 a.length c2]:List Value).toArray w (eZ fun v w'=>∃ b,v=Value.pointer (some ⟨b,0,none⟩)/\aF G K (box b 64 [zS a1 a.length c2,i64 R.1,Value.int .u64 R.2]::L) w'):=by
 exact aP
theorem aDB {a:(List aI)} {s_:aI} {R:Int} (hm:aCX a s_=some R) (d:aF G K (L) w) (e:bG K a1 c2 a):
  Calls prog 63 ([zS a1 a.length c2,str s_]:List Value).toArray w (eZ fun v w'=>v=i64 R/\aF G K (L) w'):=by
 refine aO func63 rfl (by kernel_rfl) (by show (2:Nat)<=19;decide) ?_;unfold aCX at hm
 refine aK (aJ (v:=i64 0) (aH (aM (aK (aJ (v:=i64 0) (aH (aQ [] (fun f w=>aIt=some R/\aF G K (L) w) aP ?_)))))));obtain ⟨g,b,ho⟩:=aB hm
 exact fK [0,1] b (fun c f w=>f 5=i64 c/\aF G K (L) w) aP aP
theorem aGv {g R:(List aI)} (hm:aEH g=some R) (hs:aF G K (L) w) (y:bG K a1 c2 g):
  Calls prog 62 ([zS a1 g.length c2]:List Value).toArray w (eZ fun v w'=>∃ b1 b2,v=zS b1 R.length b2/\aF G K (aL 9 K b1 b2 R::L) w'):=by
 refine aO func62 rfl (by kernel_rfl) (by show (1:Nat)<=65;decide) ?_;unfold aEH at hm
 refine aK (aJ (v:=zS none 0 0) (aH (aK (cK (Kt:=K) (xs:=([([116,97,117]:aI)]:List aI)) (cs:=[str ([116,97,117]:aI)]) (vs:=[(0,str ([116,97,117]:aI))]) eG aDQ rfl rfl hs rfl (by kernel_rfl) rfl rfl rfl ⟨rfl,trivial⟩ (fun a4 w5 (f9:aF G K (aL 9 K a4 1 ([([116,97,117]:aI)]:List aI)::L) w5)=>(aJ (v:=zS a4 ([([116,97,117]:aI)]:List aI).length 1) (aH (aM (aK (aJ (v:=i64 0) (aH (aQ [] (fun f w=>∃ z a8 c9,aIu z=some R/\f 3=zS a8 z.length c9/\aF G K (aL 9 K a8 c9 z::L) w) aP ?_))))))))))))
 obtain ⟨g0,d5,ho⟩:=aB hm
 refine cC [0] d5 (fun c j f w=>∃ d e,f 3=zS d c.length e/\f 4=i64 j/\aF G K (aL 9 K d e c::L) w) aP ?_
 ·rintro c j J f g1 hm hr ⟨d,e,b6,m,b7⟩
  unfold sZ at hm
  refine aM (aK (bC m (aG (v:=zS a1 g.length c2) (aD (bH (len:=g.length) eG rfl) (aD (cU rfl rfl) (aH ?_))))))
  rcases aN hm with ⟨b8,hm⟩|⟨b8,hm⟩
  ·refine aS b8 rfl (aY (aC (aM (aQ [0,4] (fun f w=>∃ o p q,wQ j o=some J/\f 3=zS p o.length q/\aF G K (aL 9 K p q o::L) w) ?_ ?_))))
   ·rintro f g2 ⟨o,p,q,hm,d6,d7⟩
    unfold wQ at hm
    exact aC (aU (bC m (aD (dT rfl rfl) (aJ (v:=i64 (wr (j+1))) (aH ⟨_,(zI hm).symm,bL,p,q,d6,rfl,d7⟩)))))
   refine aM (aK (bC b6 (aG (v:=zS a1 g.length c2) (bC m ?_))));obtain ⟨k,V,hm⟩:=aB hm
   refine aD (dP eG rfl y rfl rfl rfl V) ?_;obtain ⟨g3,b9,d8⟩:=bG.el (sz:=1) rfl y V
   cases d8
   refine aD (bD (t:=0) aAq b7 b9 rfl rfl) ?_;obtain ⟨g4,g5,d9,e0,e1⟩:=aF.lendSp b7 (zR _) .head
   obtain ⟨g6,e2,hm⟩:=aB hm
   refine aR (vs:=[zS d c.length e,str k]) call63 rfl (aDB e2 e0 d9) ?_
   rintro _ g7 ⟨rfl,e3⟩
   have g8:=e1 _ _ e3
   refine aD (R_geq rfl rfl) (aH ?_)
   rcases aN hm with ⟨c0,hm⟩|⟨c0,hm⟩
   ·exact aP
   ·refine bE c0 rfl (aY (aC (aK (aJ (v:=i64 1) (aH (aM (aQ [0,3,4] (fun f w=>∃ r,aCI c j k r=some J/\f 5=i64 r/\aF G K (aL 9 K d e c::L) w) ?_ ?_)))))))
    ·rintro f g9 ⟨r,hm,c1,e4⟩
     unfold aCI at hm
     refine aC (aK (bC b6 (cK (Kt:=K) (xs:=([([]:aI)]:List aI)) (cs:=[str ([]:aI)]) (vs:=[(0,str ([]:aI))]) eG aDQ rfl rfl e4 rfl (by kernel_rfl) rfl rfl rfl ⟨rfl,trivial⟩ (fun e5 e6 (e7:aF G K (aL 9 K e5 1 ([([]:aI)]:List aI)::aL 9 K d e c::L) e6)=>?_))));obtain ⟨l,e8,hm⟩:=aB hm
     refine nE (i:=0) eG underlying26 aDQ rfl rfl e7 rfl (zR _) (zR _) e8 rfl rfl rfl rfl (fun _ h=>h) (fun a b e9 (h0:aF G K (aL 9 K a b l::L) e9)=>(aJ (v:=zS a l.length b) (aH (aM (aK (aG (v:=zS a l.length b) (aD (bH (len:=l.length) eG rfl) (aD (uW rfl rfl) (aJ (v:=i64 (wr ((l.length:Int) - 1))) (aH (aQ [0,4,5] (fun f w=>∃ u,aCH j k r u=some J/\f 3=zS a u.length b/\aF G K (aL 9 K a b u::L) w) ?_ ?_)))))))))))
     ·rintro f h1 ⟨u,hm,c3,a0⟩
      unfold aCH at hm
      refine aC (aU (bC c3 (bC c1 (aG (v:=zS a1 g.length c2) (bC m (aD (dP eG rfl y rfl rfl rfl V) (aD (bD (t:=0) aAq a0 b9 rfl rfl) ?_)))))));obtain ⟨h2,a2,hm⟩:=aB hm
      have f0:=dU a0 (i:=0) rfl a2
      refine aD (fL eG rfl f0 rfl rfl rfl a2) ?_;obtain ⟨c4,c5,hm⟩:=aB hm
      exact nO (i:=0) (t:=0) (ns:=[str k]) (e':=(k:aI)) sizeOf9 a0 rfl (zR _) rfl rfl rfl a2 c5 rfl rfl (dQ rfl) rfl (fun cs h=>by cases h;rfl) (fun f1 (f2:aF G K (aL 9 K a b c4::L) f1)=>(aT (dB (aC ⟨bL,c4,a,b,hm,(Eq.trans c3 (congrArg (fun n=>zS a n b) (jG c5))),f2⟩))))
     obtain ⟨h4,f3,ho⟩:=aB hm
     refine cC [0,4,5] f3 (fun a3 a5 f w=>f 3=zS a a3.length b/\f 6=i64 a5/\aF G K (aL 9 K a b a3::L) w) aP ?_
     ·rintro a3 a5 h5 f h6 hm hr ⟨a6,x,a7⟩
      unfold aAu at hm
      refine aM (aK (bC x (bC c1 (aD (aAa rfl rfl) (aH ?_)))))
      rcases aN hm with ⟨c6,hm⟩|⟨c6,hm⟩
      ·refine aS c6 rfl (aY (aC (aM (cV (aU (bC a6 (bC x (bC a6 (bC x (aD (uW rfl rfl) ?_))))))))));obtain ⟨c7,a9,hm⟩:=aB hm
       have c8:=dU a7 (i:=0) rfl a9
       refine aD (fL eG rfl c8 rfl rfl rfl a9) (aD (rH (t:=0) aAq a7 (i:=0) rfl a9 rfl rfl rfl) ?_);obtain ⟨h7,d0,hm⟩:=aB hm
       refine aD (fL eG rfl c8 rfl rfl rfl d0) ?_;obtain ⟨f4,d1,hm⟩:=aB hm
       exact nO (i:=0) (t:=0) (ns:=[str c7]) (e':=(c7:aI)) sizeOf9 a7 rfl (zR _) rfl rfl rfl d0 d1 rfl rfl (dQ rfl) rfl (fun cs h=>by cases h;rfl) (fun f5 (f6:aF G K (aL 9 K a b f4::L) f5)=>(aT (dB (aC (aU (bC x (aD (uW rfl rfl) (aJ (v:=i64 (wr (a5 - 1))) (aH ⟨_,(zI hm).symm,bL,(Eq.trans a6 (congrArg (fun n=>zS a n b) (jG d1))),rfl,f6⟩)))))))))
      ·exact aP
    obtain ⟨h8,f7,ho⟩:=aB hm
    refine fK [0,3,4] f7 (fun b0 f w=>f 5=i64 b0/\aF G K (aL 9 K d e c::L) w) aP ?_
    ·rintro b0 f8 f h9 hm hr ⟨i0,i1⟩
     unfold wR at hm
     exact aM (aM (cH [0,3,4,5] (fun f w=>∃ d2,aAv b0 d2=some f8/\f 35=zB d2/\aF G K (aL 9 K d e c::L) w) aP aP))
  ·exact aP
theorem aGw {a:Edge} {c:Nat} {b:Edge} {d:Nat} {R:Bool} (hm:aGS a b=some R) (e:aF G K (L) w) (g:fV K a1 c [i64 a.F,i64 a.B,i64 a.To]) (h:fV K a4 d [i64 b.F,i64 b.B,i64 b.To]):
  Calls prog 108 ([cR a1 c,cR a4 d]:List Value).toArray w (eZ fun v w'=>v=zB R/\aF G K (L) w'):=by
 exact aP
theorem aLO {j:(List Edge)} {e:Edge} {R:(List Edge)} (hm:aGi j e=some R) (hs:aF G K (aL 70 K a1 c2 j::L) w):
  Calls prog 64 ([zS a1 j.length c2,Value.agg #[i64 e.F,i64 e.B,i64 e.To]]:List Value).toArray w (eZ fun v w'=>∃ b4 b5,v=zS b4 R.length b5/\aF G K (aL 70 K b4 b5 R::L) w'):=by
 let a:=[i64 e.F,i64 e.B,i64 e.To]
 let o:=aL 70 K a1 c2 j
 refine aO func64 rfl (by kernel_rfl) (by show (2:Nat)<=57;decide) ?_;unfold aGi at hm
 refine aK (dJ (v:=Value.agg #[i64 e.F,i64 e.B,i64 e.To]) (vs:=a) hs rfl rfl (fun k w4 g3=>(aJ (v:=zS none 0 0) (aH (aK (aG (v:=zS a1 j.length c2) (aD (bH (len:=j.length) cS rfl) (aJ (v:=i64 (j.length:Int)) (aH (aM (aQ [0,3] (fun f w=>∃ p,aEc j e p=some R/\f 5=i64 p/\aF G K (box k 70 a::o::L) w) ?_ ?_)))))))))))
 ·rintro f w8 ⟨p,hm,J,b⟩
  unfold aEc at hm
  refine aC (aM (aM (cH [0,3,5] (fun f w=>∃ a2,aAe j e p a2=some R/\f 30=zB a2/\aF G K (box k 70 a::o::L) w) ?_ ?_)))
  ·rintro f g5 ⟨a2,hm,c8,c9⟩
   unfold aAe at hm
   refine aC ?_
   rcases aN hm with ⟨b6,hm⟩|⟨b6,hm⟩
   ·exact aP
   ·refine bE b6 c8 (aY (aC (aK (aG (v:=zS a1 j.length c2) (aD (iR (vs:=[]) (cs:=[i64 0,i64 0,i64 0]) aJC rfl (by kernel_rfl)) (cK (Kt:=K) (xs:=([⟨0,0,0⟩]:List Edge)) (cs:=[i64 0,i64 0,i64 0]) (vs:=[(0,Value.agg #[i64 0,i64 0,i64 0])]) cS sM rfl rfl c9 rfl (by kernel_rfl) rfl rfl rfl ⟨rfl,trivial⟩ (fun d0 d1 (d2:aF G K (aL 70 K d0 1 ([⟨0,0,0⟩]:List Edge)::box k 70 a::o::L) d1)=>?_)))))));obtain ⟨u,d3,hm⟩:=aB hm
    refine nE (i:=1) cS underlying33 sM rfl rfl d2 rfl (zR _) (zR _) d3 rfl rfl rfl rfl (fun _ h=>h) (fun c d d4 (g6:aF G K (box k 70 a::aL 70 K c d u::L) d4)=>(aJ (v:=zS c u.length d) (aH (aM (aK (aG (v:=zS c u.length d) (aD (bH (len:=u.length) cS rfl) (aD (uW rfl rfl) (aJ (v:=i64 (wr ((u.length:Int) - 1))) (aH (aQ [3,5] (fun f w=>∃ V,aEb e p V=some R/\f 0=zS c V.length d/\aF G K (box k 70 a::aL 70 K c d V::L) w) ?_ ?_)))))))))))
    ·rintro f g7 ⟨V,hm,b7,a3⟩
     unfold aEb at hm
     refine aC (aK (bC b7 (bC J (aD (jH (us:=a) qA a3 (i:=0) rfl rfl rfl rfl) ?_))));obtain ⟨g8,a4,hm⟩:=aB hm
     have d5:=dU a3 (i:=1) rfl a4
     refine aD (fL cS rfl d5 rfl rfl rfl a4) ?_;obtain ⟨a5,b8,hm⟩:=aB hm
     refine nO (i:=1) (t:=0) (ns:=a) (e':=(⟨e.F,e.B,e.To⟩:Edge)) sizeOf70 a3 rfl (zR _) rfl rfl rfl a4 b8 rfl rfl (dQ rfl) rfl (fun cs h=>by cases h;rfl) (fun d6 (d7:aF G K (box k 70 a::aL 70 K c d a5::L) d6)=>(aH (aK (bC (v:=zS c a5.length d) (Eq.trans b7 (congrArg (fun n=>zS c n d) (jG b8))) (aJ (v:=zS c a5.length d) (aH ?_))))));obtain rfl:=zI hm
     exact fU (eE results64 rfl ⟨c,d,rfl,(aF.arr 1 [] d7 rfl)⟩)
    obtain ⟨g9,d9,ho⟩:=aB hm
    refine cC [3,5] d9 (fun a6 a7 f w=>f 0=zS c a6.length d/\f 6=i64 a7/\aF G K (box k 70 a::aL 70 K c d a6::L) w) aP ?_
    ·rintro a6 a7 h0 f h1 hm hr ⟨a8,a0,a9⟩
     unfold aBM at hm
     refine aM (aK (bC a0 (bC J (aD (aAa rfl rfl) (aH ?_)))))
     rcases aN hm with ⟨b9,hm⟩|⟨b9,hm⟩
     ·refine aS b9 rfl (aY (aC (aM (cV (aU (bC a8 (bC a0 (bC a8 (bC a0 (aD (uW rfl rfl) ?_))))))))));obtain ⟨l,b0,hm⟩:=aB hm
      have c0:=dU a9 (i:=1) rfl b0
      refine aD (fL cS rfl c0 rfl rfl rfl b0) (aD (aEo (t:=0) (vs:=[i64 l.F,i64 l.B,i64 l.To]) qA a9 (i:=1) rfl b0 rfl rfl rfl rfl) ?_);obtain ⟨h2,c1,hm⟩:=aB hm
      refine aD (fL cS rfl c0 rfl rfl rfl c1) ?_;obtain ⟨e0,c3,hm⟩:=aB hm
      exact nO (i:=1) (t:=0) (ns:=[i64 l.F,i64 l.B,i64 l.To]) (e':=(⟨l.F,l.B,l.To⟩:Edge)) sizeOf70 a9 rfl (zR _) rfl rfl rfl c1 c3 rfl rfl (dQ rfl) rfl (fun cs h=>by cases h;rfl) (fun e1 (e2:aF G K (box k 70 a::aL 70 K c d e0::L) e1)=>(aT (dB (aC (aU (bC a0 (aD (uW rfl rfl) (aJ (v:=i64 (wr (a7 - 1))) (aH ⟨_,(zI hm).symm,bL,(Eq.trans a8 (congrArg (fun n=>zS c n d) (jG c3))),rfl,e2⟩)))))))))
     ·exact aP
  refine mC (C:=fun w'=>aF G K (box k 70 a::o::L) w') Tryz_mixed (by kernel_rfl) (aF.mono b (fJ.drew _)) (bX (fun _ b=>aW J) (bX (fun _ b=>aAa rfl rfl) (bX (fun _ b=>aW (v:=zB (decide (0 < p))) rfl) ?_)))
  rcases aN hm with ⟨m,hm⟩|⟨m,hm⟩
  ·refine mW (g:=22) rfl rfl m (bX (fun _ b=>aW (v:=zS a1 j.length c2) rfl) (mW (g:=22) rfl rfl m (bX (fun _ b=>aW J) (mW (g:=22) rfl rfl m (bX (fun _ b=>uW rfl rfl) (mW (g:=22) rfl rfl m ?_))))));obtain ⟨q,b1,hm⟩:=aB hm
   have e3:=dU b (i:=1) rfl b1
   exact bX (fun _ b=>fL cS rfl e3 rfl rfl rfl b1) (mW (g:=22) rfl rfl m (bX (fun _ b=>aEo (t:=0) (vs:=[i64 q.F,i64 q.B,i64 q.To]) qA b (i:=1) rfl b1 rfl rfl rfl rfl) (mW (g:=22) rfl rfl m (bX (fun _ b=>jH (us:=a) qA b (i:=0) rfl rfl rfl rfl) (mW (g:=22) rfl rfl m (bX (fun _ b=>R_eqlG (eq_70 (x:=q) (y:=e)) rfl rfl) (bX (fun _ b=>gR (v:=zB (decide ((q:Edge)=e))) m rfl rfl) (vN (fun h3 e4=>(aC ⟨bL,decide ((q:Edge)=e),hm,rfl,e4⟩))))))))))
  ·exact aP
 obtain ⟨h4,e5,ho⟩:=aB hm
 refine fK [0,3] e5 (fun z f w=>f 5=i64 z/\aF G K (box k 70 a::o::L) w) aP ?_
 ·rintro z e6 f h5 hm hr ⟨c4,c5⟩
  unfold aAf at hm
  refine aM (aM (cH [0,3,5] (fun f w=>∃ c6,aBN z c6=some e6/\f 17=zB c6/\aF G K (box k 70 a::o::L) w) aP (aU (bC c4 (aD (aAa rfl rfl) (aG (v:=zB (decide (0 < z))) ?_))))))
  rcases aN hm with ⟨r,hm⟩|⟨r,hm⟩
  ·refine eQ r rfl rfl (aG (v:=zS a1 j.length c2) (eQ r rfl rfl (bC c4 (eQ r rfl rfl (aD (uW rfl rfl) (eQ r rfl rfl ?_))))));obtain ⟨h6,b2,hm⟩:=aB hm
   have e8:=dU c5 (i:=1) rfl b2
   refine aD (fL cS rfl e8 rfl rfl rfl b2) (eQ r rfl rfl ?_);obtain ⟨h7,e9,f0,f1,f2⟩:=aF.lendBp c5 .head
   obtain ⟨h8,f3,f4,f5,f6⟩:=aF.lendSp f1 e9 .head
   obtain ⟨h9,f7,f8⟩:=bG.el (sz:=3) rfl f4 b2
   cases f8
   obtain ⟨i0,f9,hm⟩:=aB hm
   refine aR (vs:=[cR (some ⟨k,0,none⟩) 0,cR a1 ((wr (z - 1)).toNat * 3+0)]) call108 rfl (aGw f9 f5 (f0.mono f3) f7) ?_
   rintro _ i1 ⟨rfl,g0⟩
   have g1:=f6 _ _ g0
   have i2:=f2 _ _ g1
   exact aP
  ·exact aP
theorem pM {d e:Int} {texts:(List aI)} {edges:(List Edge)} {R:bB} (hm:qE d e texts edges=some R) (hs:aF G K (L) w) (r:bG K a1 c2 texts) (y:bG K a4 c5 edges):
  Calls prog 28 ([i64 d,i64 e,zS a1 texts.length c2,zS a4 edges.length c5]:List Value).toArray w (eZ fun v w'=>∃ z J V a0,v=Value.agg (zCa R z J V a0)/\aF G K (aL 9 K z J R.L::aL 70 K V a0 R.E::L) w'):=by
 let h:=zG
 refine aO func28 rfl (by kernel_rfl) (by show (4:Nat)<=43;decide) ?_;unfold qE at hm
 refine aK (aZ (vs:=h) zeroValue35 hs rfl (fun l w8 b4=>(aH (aK (aG (v:=i64 d) (aG (v:=i64 e) (aG (v:=zS a1 texts.length c2) ?_)))))));obtain ⟨a,b5,hm⟩:=aB hm
 refine aR (vs:=[zS a1 texts.length c2]) call62 rfl (aGv b5 b4 r) ?_
 rintro _ e8 ⟨b,c,rfl,b6⟩
 refine cK (Kt:=K) (xs:=([]:List Edge)) (cs:=[]) (vs:=[]) cS sM rfl rfl b6 rfl (by kernel_rfl) rfl rfl rfl trivial (fun j b8 (b9:aF G K (aL 70 K j 0 ([]:List Edge)::aL 9 K b c a::box l 35 h::L) b8)=>(aD (iR (vs:=[(0,i64 d),(1,i64 e),(2,zS b a.length c),(3,zS j ([]:List Edge).length 0)]) (cs:=[i64 d,i64 e,zS b a.length c,zS j ([]:List Edge).length 0]) aED rfl (by kernel_rfl)) (aZ (vs:=h) zeroValue35 b9 rfl (fun p e9 c0=>(bS (i:=0) (ns:=[i64 d,i64 e,zS b a.length c,zS j ([]:List Edge).length 0]) (us:=[i64 d,i64 e,zS b a.length c,zS j ([]:List Edge).length 0]) sizeOf35 c0 rfl rfl rfl rfl rfl (dQ rfl) rfl rfl (fun c1 (f0:aF G K (box p 35 [i64 d,i64 e,zS b a.length c,zS j ([]:List Edge).length 0]::aL 70 K j 0 ([]:List Edge)::aL 9 K b c a::box l 35 h::L) c1)=>(aH (aM (aK (aJ (v:=i64 0) (aH (aQ [8,9] (fun f w=>∃ u a2 a3,aIv d e a u=some R/\aF G K (aL 70 K a2 a3 u::box p 35 [i64 d,i64 e,zS b a.length c,zS a2 u.length a3]::aL 9 K b c a::box l 35 h::L) w) aP ?_))))))))))))
 obtain ⟨f1,c3,ho⟩:=aB hm
 refine cC [2,3,8,9] c3 (fun m a5 f w=>∃ n o,f 10=i64 a5/\aF G K (box p 35 [i64 d,i64 e,zS b a.length c,zS n m.length o]::aL 70 K n o m::aL 9 K b c a::box l 35 h::L) w) aP ?_
 ·rintro m a5 f2 f f3 hm hr ⟨n,o,a6,a7⟩
  unfold wS at hm
  refine aM (aK (bC a6 (aG (v:=zS a4 edges.length c5) (aD (bH (len:=edges.length) cS rfl) (aD (cU rfl rfl) (aH ?_))))))
  rcases aN hm with ⟨a8,hm⟩|⟨a8,hm⟩
  ·refine aS a8 rfl (aY (aC (aM (cV (aK (aG (v:=zS a4 edges.length c5) (bC a6 ?_)))))));obtain ⟨g,a9,hm⟩:=aB hm
   refine aD (dP cS rfl y rfl rfl rfl a9) ?_;obtain ⟨f4,c4,c6⟩:=bG.el (sz:=3) rfl y a9
   cases c6
   refine aD (fP (t:=0) (vs:=[i64 g.F,i64 g.B,i64 g.To]) qA a7 c4 rfl rfl rfl) (aZ (vs:=[i64 0,i64 0,i64 0]) zeroValue70 a7 rfl (fun c7 f5 c8=>(bS (i:=0) (ns:=[i64 g.F,i64 g.B,i64 g.To]) (us:=[i64 g.F,i64 g.B,i64 g.To]) sizeOf70 c8 rfl rfl rfl rfl rfl (dQ rfl) rfl rfl (fun c9 (d0:aF G K (box c7 70 [i64 g.F,i64 g.B,i64 g.To]::box p 35 [i64 d,i64 e,zS b a.length c,zS n m.length o]::aL 70 K n o m::aL 9 K b c a::box l 35 h::L) c9)=>(aH (aM ?_))))))
   obtain ⟨f6,x,d1,d2,d3⟩:=aF.lendBp d0 .head
   obtain ⟨d4,q,d5,b0,d6⟩:=aF.lendBp d2 .head
   refine cW (C:=fun w'=>∃ L',aF G d4 L' w') [(0,0),(1,0),(2,0),(3,0),(4,0),(5,0),(6,0),(7,1),(8,0),(9,2)] Tryz_mixed (by kernel_rfl) (fun _ hg=>⟨_,aF.mono b0 hg⟩) (fun f7 d7=>?_)
   have k:=aF.mono b0 d7
   refine bA rfl (fun _ _=>aV (t':=2) oE rfl rfl) (bA rfl (fun _ ⟨_,k⟩=>bD (t:=2) xV k d5 rfl rfl) (bA rfl (fun _ _=>aW (v:=zS a1 texts.length c2) rfl) (bA rfl (fun _ _=>aV (t':=1) wO rfl rfl) (bA rfl (fun _ ⟨_,k⟩=>bD (t:=1) dC k (d1.mono q) rfl rfl) ?_))));obtain ⟨d8,b1,hm⟩:=aB hm
   refine bA rfl (fun _ _=>dP eG rfl (r.mono (Hp.le_trans x q)) rfl rfl rfl b1) ?_;obtain ⟨f8,d9,e0⟩:=bG.el (sz:=1) rfl r b1
   cases e0
   refine bA rfl (fun _ ⟨_,k⟩=>bD (t:=0) aAq k (d9.mono (Hp.le_trans x q)) rfl rfl) (jN rfl ?_);obtain ⟨f9,g0,e1,e2,e3⟩:=aF.lendSp k (Hp.le_trans x q) zt1
   obtain ⟨g1,e4,hm⟩:=aB hm
   refine aR (vs:=[zS b a.length c,str d8]) call63 rfl (aDB e4 e2 e1) ?_
   rintro _ g2 ⟨rfl,e5⟩
   have b2:=e3 _ _ e5
   refine aT (aC ⟨⟨_,b2⟩,?_⟩)
   refine bA rfl (fun _ _=>aV (t':=1) wO rfl rfl) ?_
   have e6:=d6 _ _ b2
   have g3:=d3 _ _ e6
   exact aP
  ·exact aP
theorem aDC {t:bB} {c:Nat} {R:bB} (hm:aCY t=some R) (hs:aF G K (L) w) (b:fV K a1 c (zC t a4 c5 a7 c8)) (h6:bG K a4 c5 t.L) (h9:bG K a7 c8 t.E):
  Calls prog 29 ([cR a1 c]:List Value).toArray w (eZ fun v w'=>∃ a6 a8 a9 b0,v=Value.agg (zCa R a6 a8 a9 b0)/\aF G K (aL 9 K a6 a8 R.L::aL 70 K a9 b0 R.E::L) w'):=by
 let d:=zG
 refine aO func29 rfl (by kernel_rfl) (by show (1:Nat)<=55;decide) ?_;unfold aCY at hm
 refine aK (aZ (vs:=d) zeroValue35 hs rfl (fun e e9 c6=>(aH (aK (cK (Kt:=K) (xs:=([([116,97,117]:aI)]:List aI)) (cs:=[str ([116,97,117]:aI)]) (vs:=[(0,str ([116,97,117]:aI))]) eG aDQ rfl rfl c6 rfl (by kernel_rfl) rfl rfl rfl ⟨rfl,trivial⟩ (fun y c7 (c9:aF G K (aL 9 K y 1 ([([116,97,117]:aI)]:List aI)::box e 35 d::L) c7)=>(aJ (v:=zS y ([([116,97,117]:aI)]:List aI).length 1) (aH (aK (cK (Kt:=K) (xs:=([]:List Edge)) (cs:=[]) (vs:=[]) cS sM rfl rfl c9 rfl (by kernel_rfl) rfl rfl rfl trivial (fun b1 d0 (f0:aF G K (aL 70 K b1 0 ([]:List Edge)::aL 9 K y 1 ([([116,97,117]:aI)]:List aI)::box e 35 d::L) d0)=>(aJ (v:=zS b1 ([]:List Edge).length 0) (aH (aM (aK (aJ (v:=i64 0) (aH (aQ [0,2] (fun f w=>∃ q r z J V a0,aCJ t q r=some R/\f 3=zS z q.length J/\f 4=zS V r.length a0/\aF G K (aL 70 K V a0 r::aL 9 K z J q::box e 35 d::L) w) ?_ ?_))))))))))))))))))
 ·rintro f f1 ⟨q,r,z,J,V,a0,hm,f2,f3,b2⟩
  unfold aCJ at hm
  refine aC (aM (cW (C:=fun w'=>∃ L',aF G K L' w') [(0,0),(1,0),(2,0),(3,0),(4,0),(5,0),(6,0),(7,0),(8,0),(9,0),(10,1),(11,2)] Tryz_mixed (by kernel_rfl) (fun _ hg=>⟨_,aF.mono b2 hg⟩) (fun f4 d1=>?_)))
  have f5:=aF.mono b2 d1
  exact aP
 obtain ⟨f6,d2,ho⟩:=aB hm
 refine oR [0,2] d2 (fun n k b3 f w=>∃ o p l m,f 3=zS o n.length p/\f 4=zS l k.length m/\f 5=i64 b3/\aF G K (aL 70 K l m k::aL 9 K o p n::box e 35 d::L) w) aP ?_
 ·rintro n k b3 f7 f f8 hm hr ⟨o,p,l,m,d3,f9,b4,u⟩
  unfold tA at hm
  refine aM (aK (bC b4 (aG (v:=cR a1 c) (aD (kI rfl b) (aD (jY (k':=c+3) fY rfl b rfl) (aD (bD (t:=3) oJ u b rfl rfl) (aD (bH (len:=t.E.length) cS rfl) (aD (cU rfl rfl) (aH ?_)))))))))
  rcases aN hm with ⟨b5,hm⟩|⟨b5,hm⟩
  ·refine aS b5 rfl (aY (aC (aM (cV (aK (aG (v:=cR a1 c) (aD (kI rfl b) (aD (jY (k':=c+3) fY rfl b rfl) (aD (bD (t:=3) oJ u b rfl rfl) (bC b4 ?_))))))))));obtain ⟨a,b6,hm⟩:=aB hm
   refine aD (dP cS rfl h9 rfl rfl rfl b6) ?_;obtain ⟨g0,d4,d5⟩:=bG.el (sz:=3) rfl h9 b6
   cases d5
   refine aD (fP (t:=0) (vs:=[i64 a.F,i64 a.B,i64 a.To]) qA u d4 rfl rfl rfl) (aZ (vs:=[i64 0,i64 0,i64 0]) zeroValue70 u rfl (fun d6 g1 d7=>(bS (i:=0) (ns:=[i64 a.F,i64 a.B,i64 a.To]) (us:=[i64 a.F,i64 a.B,i64 a.To]) sizeOf70 d7 rfl rfl rfl rfl rfl (dQ rfl) rfl rfl (fun d8 (d9:aF G K (box d6 70 [i64 a.F,i64 a.B,i64 a.To]::aL 70 K l m k::aL 9 K o p n::box e 35 d::L) d8)=>(aH (aM ?_))))));obtain ⟨a2,g,e0,b7,e1⟩:=aF.lendBp d9 .head
   refine cW (C:=fun w'=>∃ L',aF G a2 L' w') [(0,0),(1,0),(2,0),(3,0),(4,0),(5,0),(6,0),(7,0),(8,0),(9,1),(10,1),(11,0)] Tryz_mixed (by kernel_rfl) (fun _ hg=>⟨_,aF.mono b7 hg⟩) (fun g2 e2=>?_)
   have j:=aF.mono b7 e2
   refine bA rfl (fun _ _=>aW d3) (bA rfl (fun _ _=>aW (v:=cR a1 c) rfl) (bA rfl (fun _ _=>kI rfl (b.mono g)) (bA rfl (fun _ _=>jY (k':=c+2) oE rfl (b.mono g) rfl) (bA rfl (fun _ ⟨_,j⟩=>bD (t:=2) xV j (b.mono g) rfl rfl) (bA rfl (fun _ _=>aV (t':=1) wO rfl rfl) (bA rfl (fun _ ⟨_,j⟩=>bD (t:=1) dC j e0 rfl rfl) ?_))))));obtain ⟨x,b8,hm⟩:=aB hm
   refine bA rfl (fun _ _=>dP eG rfl (h6.mono g) rfl rfl rfl b8) ?_;obtain ⟨g3,e3,e4⟩:=bG.el (sz:=1) rfl h6 b8
   cases e4
   refine bA rfl (fun _ ⟨_,j⟩=>bD (t:=0) aAq j (e3.mono g) rfl rfl) (jN rfl (cK (Kt:=K) (xs:=([x]:List aI)) (cs:=[str x]) (vs:=[(0,str x)]) eG aDQ rfl rfl j rfl (by kernel_rfl) rfl rfl rfl ⟨rfl,trivial⟩ (fun e5 e6 (b9:aF G a2 (aL 9 K e5 1 ([x]:List aI)::aL 70 K l m k::aL 9 K o p n::box e 35 d::L) e6)=>(aT (aC ⟨⟨_,b9⟩,?_⟩)))))
   refine jN rfl ?_;obtain ⟨c0,e7,hm⟩:=aB hm
   refine nE (i:=1) eG underlying26 aDQ rfl rfl b9 rfl g g e7 rfl rfl rfl rfl (fun _ h=>h) (fun c1 c2 e8 (c3:aF G a2 (aL 70 K l m k::aL 9 K c1 c2 c0::box e 35 d::L) e8)=>(aT (aC ⟨⟨_,c3⟩,?_⟩)))
   refine bA rfl (fun _ _=>fW (v:=zS c1 c0.length c2) rfl) (oS ?_)
   have g4:=e1 _ _ c3
   exact aP
  ·exact aP
theorem aGx {a:(List Int)} {R:(Bool × (List Int))} (hm:aEI a=some R) (hs:aF G K (aL 2 K a1 c2 a::L) w):
  Calls prog 15 ([zS a1 a.length c2]:List Value).toArray w (eZ fun v w'=>v=zB R.1/\a.length=R.2.length/\aF G K (aL 2 K a1 c2 R.2::L) w'):=by
 let c:=aL 2 K a1 c2 a
 refine aO func15 rfl (by kernel_rfl) (by show (1:Nat)<=86;decide) ?_;unfold aEI at hm
 refine aK (aJ (v:=zB false) (aH (aK (aG (v:=zS a1 a.length c2) (aD (bH (len:=a.length) bJ rfl) (aD (uW rfl rfl) (aJ (v:=i64 (wr ((a.length:Int) - 2))) (aH (aM (aQ [0] (fun f w=>∃ d,aCN a d=some R/\f 3=i64 d/\aF G K (c::L) w) ?_ ?_))))))))))
 ·rintro f w5 ⟨d,hm,k,e0⟩
  unfold aCN at hm
  refine aC (aM (aK (bC k (aD (cU rfl rfl) (aH ?_)))))
  rcases aN hm with ⟨c7,hm⟩|⟨c7,hm⟩
  ·exact aP
  ·refine bE c7 rfl (aY (aC (aK (aG (v:=zS a1 a.length c2) (aD (bH (len:=a.length) bJ rfl) (aD (uW rfl rfl) (aJ (v:=i64 (wr ((a.length:Int) - 1))) (aH (aM (aQ [0,3] (fun f w=>∃ V,aCL a d V=some R/\f 4=i64 V/\aF G K (c::L) w) ?_ ?_))))))))))
   ·rintro f e1 ⟨V,hm,a8,l⟩
    unfold aCL at hm
    refine aC (aK (aG (v:=zS a1 a.length c2) (bC k ?_)));obtain ⟨m,e,hm⟩:=aB hm
    have b:=dU l (i:=0) rfl e
    refine aD (fL bJ rfl b rfl rfl rfl e) (aD (rH (t:=0) dC l (i:=0) rfl e rfl rfl rfl) (aJ (v:=i64 m) (aH (aK (aG (v:=zS a1 a.length c2) (bC k (aG (v:=zS a1 a.length c2) (bC a8 ?_))))))));obtain ⟨a9,b0,hm⟩:=aB hm
    refine aD (fL bJ rfl b rfl rfl rfl b0) (aD (rH (t:=0) dC l (i:=0) rfl b0 rfl rfl rfl) (aD (fL bJ rfl b rfl rfl rfl e) ?_));obtain ⟨b1,g,hm⟩:=aB hm
    refine nO (i:=0) (t:=0) (ns:=[i64 a9]) (e':=(a9:Int)) sizeOf2 l rfl (zR _) rfl rfl rfl e g rfl rfl (dQ rfl) rfl (fun cs h=>by cases h;rfl) (fun c0 (c1:aF G K (aL 2 K a1 c2 b1::L) c0)=>(aH (aK (bC (v:=zS a1 b1.length c2) (Eq.trans rfl (congrArg (fun n=>zS a1 n c2) (jG g))) (bC a8 (aG (v:=i64 m) ?_))))));obtain ⟨e2,b2,hm⟩:=aB hm
    refine aD (fL bJ rfl b rfl rfl rfl b2) ?_;obtain ⟨o,p,hm⟩:=aB hm
    refine nO (i:=0) (t:=0) (ns:=[i64 m]) (e':=(m:Int)) sizeOf2 c1 rfl (zR _) rfl rfl rfl b2 p rfl rfl (dQ rfl) rfl (fun cs h=>by cases h;rfl) (fun c3 (c4:aF G K (aL 2 K a1 c2 o::L) c3)=>(aH (aK (bC k (aD (dT rfl rfl) (aJ (v:=i64 (wr (d+1))) (aH (aK (bC (v:=zS a1 o.length c2) (Eq.trans (Eq.trans rfl (congrArg (fun n=>zS a1 n c2) (jG g))) (congrArg (fun n=>zS a1 n c2) (jG p))) (aD (bH (len:=o.length) bJ rfl) (aD (uW rfl rfl) (aJ (v:=i64 (wr ((o.length:Int) - 1))) (aH (aM (aQ [] (fun f w=>∃ a0,aIw a0=some R/\a.length=a0.length/\aF G K (aL 2 K a1 c2 a0::L) w) aP ?_)))))))))))))))
    obtain ⟨e3,c5,ho⟩:=aB hm
    refine oR [] c5 (fun q a2 a3 f w=>f 0=zS a1 q.length c2/\f 6=i64 a2/\f 7=i64 a3/\a.length=q.length/\aF G K (aL 2 K a1 c2 q::L) w) ?_ ?_
    ·exact ⟨(Eq.trans (Eq.trans rfl (congrArg (fun n=>zS a1 n c2) (jG g))) (congrArg (fun n=>zS a1 n c2) (jG p))),rfl,rfl,((jG g).trans (jG p)),c4⟩
    ·rintro q a2 a3 e5 f e6 hm hr ⟨j,r,u,c6,a4⟩
     unfold aCK at hm
     refine aM (aK (bC r (bC u (aD (cU rfl rfl) (aH ?_)))))
     rcases aN hm with ⟨b3,hm⟩|⟨b3,hm⟩
     ·refine aS b3 rfl (aY (aC (cV (aK (bC j (bC r ?_))))));obtain ⟨x,y,hm⟩:=aB hm
      refine aD (fL bJ rfl b rfl rfl rfl y) (aD (rH (t:=0) dC a4 (i:=0) rfl y rfl rfl rfl) (aJ (v:=i64 x) (aH (aK (bC j (bC r (bC j (bC u ?_))))))));obtain ⟨b4,b5,hm⟩:=aB hm
      refine aD (fL bJ rfl b rfl rfl rfl b5) (aD (rH (t:=0) dC a4 (i:=0) rfl b5 rfl rfl rfl) (aD (fL bJ rfl b rfl rfl rfl y) ?_));obtain ⟨b6,z,hm⟩:=aB hm
      refine nO (i:=0) (t:=0) (ns:=[i64 b4]) (e':=(b4:Int)) sizeOf2 a4 rfl (zR _) rfl rfl rfl y z rfl rfl (dQ rfl) rfl (fun cs h=>by cases h;rfl) (fun c8 (c9:aF G K (aL 2 K a1 c2 b6::L) c8)=>(aH (aK (bC (v:=zS a1 b6.length c2) (Eq.trans j (congrArg (fun n=>zS a1 n c2) (jG z))) (bC u (aG (v:=i64 x) ?_))))));obtain ⟨e7,b7,hm⟩:=aB hm
      refine aD (fL bJ rfl b rfl rfl rfl b7) ?_;obtain ⟨d0,a5,hm⟩:=aB hm
      exact nO (i:=0) (t:=0) (ns:=[i64 x]) (e':=(x:Int)) sizeOf2 c9 rfl (zR _) rfl rfl rfl b7 a5 rfl rfl (dQ rfl) rfl (fun cs h=>by cases h;rfl) (fun d1 (d2:aF G K (aL 2 K a1 c2 d0::L) d1)=>(aH (aK (bC r (aD (dT rfl rfl) (aJ (v:=i64 (wr (a2+1))) (aH (aU (bC u (aD (uW rfl rfl) (aJ (v:=i64 (wr (a3 - 1))) (aT (dB (aC ⟨_,(zI hm).symm,bL,(Eq.trans (Eq.trans j (congrArg (fun n=>zS a1 n c2) (jG z))) (congrArg (fun n=>zS a1 n c2) (jG a5))),rfl,rfl,((c6.trans (jG z)).trans (jG a5)),d2⟩))))))))))))))
     ·exact aP
   obtain ⟨e8,d3,ho⟩:=aB hm
   refine fK [0,3] d3 (fun b8 f w=>f 4=i64 b8/\aF G K (c::L) w) aP ?_
   ·rintro b8 e9 f f0 hm hr ⟨d4,J⟩
    unfold aCM at hm
    refine aM (aM (mC (C:=fun w'=>aF G K (c::L) w') Tryz_mixed (by kernel_rfl) (aF.mono J (fJ.drew _)) (bX (fun _ J=>aW (v:=zS a1 a.length c2) rfl) (bX (fun _ J=>aW d4) ?_))));obtain ⟨f1,d5,hm⟩:=aB hm
    have f2:=dU J (i:=0) rfl d5
    exact aP
 obtain ⟨f3,d6,ho⟩:=aB hm
 refine fK [0] d6 (fun a6 f w=>f 3=i64 a6/\aF G K (c::L) w) aP ?_
 ·rintro a6 d7 f f4 hm hr ⟨f5,f6⟩
  unfold aCP at hm
  exact aM (aM (cH [0,3] (fun f w=>∃ b9,aCO a6 b9=some d7/\f 25=zB b9/\aF G K (c::L) w) aP aP))
theorem aDD {a:(List UInt8)} {b c:Int} {R:(Int × Int × Int)} (hm:uG a b c=some R) (e:aF G K (box b1 64 [zS a2 a.length c3,i64 b,Value.int .u64 c]::L) w) (g:bG K a2 c3 a):
  Calls prog 30 ([Value.pointer (some ⟨b1,0,none⟩)]:List Value).toArray w (eZ fun v w'=>v=i64 R.1/\aF G K (box b1 64 [zS a2 a.length c3,i64 R.2.1,Value.int .u64 R.2.2]::L) w'):=by
 refine aO func30 rfl (by kernel_rfl) (by show (1:Nat)<=62;decide) ?_;unfold uG at hm
 exact aK (aJ (v:=i64 0) (aH (aK (aJ (v:=i64 0) (aH (mB [0] (fun f w=>∃ d,rS a b c d=some R/\f 3=i64 d/\aF G K (box b1 64 [zS a2 a.length c3,i64 b,Value.int .u64 c]::L) w) aP aP))))))
end Gv
namespace Gv
open Go.Value renaming slice→zS,bool→zB,pointer→zP,agg→zA
open Gv.Hp renaming le_trans→zL,le_refl→zR
open Go Go.Proofs Go.Proofs.Tryz
set_option maxRecDepth 20000
set_option maxHeartbeats 40000000
variable {G:zZ} {K:Hp} {L:List jM} {w:World} {b1 c3 c6:Nat} {a2 a5:Option Addr}
theorem fH {a:(List UInt8)} {b c n:Int} {R:(Int × Int × Int)} (hm:dZ a b c n=some R) (i:aF G K (box b1 64 [zS a2 a.length c3,i64 b,Value.int .u64 c]::L) w) (j:bG K a2 c3 a):
  Calls prog 14 ([zP (some ⟨b1,0,none⟩),i64 n]:List Value).toArray w (eZ fun v w'=>v=i64 R.1/\aF G K (box b1 64 [zS a2 a.length c3,i64 R.2.1,Value.int .u64 R.2.2]::L) w'):=by
 refine aO func14 rfl (by kernel_rfl) (by show (2:Nat)<=20;decide) ?_;unfold dZ at hm
 refine aK (aJ (v:=i64 0) (aH (aM (aK (aG (v:=i64 n) (aD (R_leq rfl rfl) (aH ?_)))))))
 rcases aN hm with ⟨d,hm⟩|⟨d,hm⟩
 ·exact aP
 ·refine bE d rfl (aY (aC (aK (aG (v:=zP (some ⟨b1,0,none⟩)) ?_))));obtain ⟨k,l,hm⟩:=aB hm
  refine aR (vs:=[zP (some ⟨b1,0,none⟩)]) call30 rfl (aDD l i j) ?_
  rintro _ m ⟨rfl,o⟩
  exact aJ (v:=i64 k.1) (aH (mB [1] (fun f w=>∃ e g h,rT n e g h=some R/\f 5=i64 e/\aF G K (box b1 64 [zS a2 a.length c3,i64 g,Value.int .u64 h]::L) w) aP aP))
theorem aCx {a:(List UInt8)} {c d:Int} {b:(List Int)} {R:(Int × Int × Int)} (hm:aAw a c d b=some R) (e:aF G K (box b1 64 [zS a2 a.length c3,i64 c,Value.int .u64 d]::L) w) (g:bG K a2 c3 a) (h:bG K a5 c6 b):
  Calls prog 26 ([zP (some ⟨b1,0,none⟩),zS a5 b.length c6]:List Value).toArray w (eZ fun v w'=>v=i64 R.1/\aF G K (box b1 64 [zS a2 a.length c3,i64 R.2.1,Value.int .u64 R.2.2]::L) w'):=by
 exact aP
theorem uS {a:(List UInt8)} {b c:Int} {R:(Int × Int × Int)} (hm:oN a b c=some R) (e:aF G K (aL 5 K a2 c3 a::box b1 64 [zS a2 a.length c3,i64 b,Value.int .u64 c]::L) w):
  Calls prog 30 ([zP (some ⟨b1,0,none⟩)]:List Value).toArray w (eZ fun v w'=>v=i64 R.1/\aF G K (aL 5 K a2 c3 a::box b1 64 [zS a2 a.length c3,i64 R.2.1,Value.int .u64 R.2.2]::L) w'):=by
 refine aO func30 rfl (by kernel_rfl) (by show (1:Nat)<=62;decide) ?_;unfold oN at hm
 exact aK (aJ (v:=i64 0) (aH (aK (aJ (v:=i64 0) (aH (mB [0] (fun f w=>∃ d,xO a b c d=some R/\f 3=i64 d/\aF G K (aL 5 K a2 c3 a::box b1 64 [zS a2 a.length c3,i64 b,Value.int .u64 c]::L) w) aP aP))))))
theorem gG {a:(List UInt8)} {b c n:Int} {R:(Int × Int × Int)} (hm:jP a b c n=some R) (i:aF G K (aL 5 K a2 c3 a::box b1 64 [zS a2 a.length c3,i64 b,Value.int .u64 c]::L) w):
  Calls prog 14 ([zP (some ⟨b1,0,none⟩),i64 n]:List Value).toArray w (eZ fun v w'=>v=i64 R.1/\aF G K (aL 5 K a2 c3 a::box b1 64 [zS a2 a.length c3,i64 R.2.1,Value.int .u64 R.2.2]::L) w'):=by
 refine aO func14 rfl (by kernel_rfl) (by show (2:Nat)<=20;decide) ?_;unfold jP at hm
 refine aK (aJ (v:=i64 0) (aH (aM (aK (aG (v:=i64 n) (aD (R_leq rfl rfl) (aH ?_)))))))
 rcases aN hm with ⟨d,hm⟩|⟨d,hm⟩
 ·exact aP
 ·refine bE d rfl (aY (aC (aK (aG (v:=zP (some ⟨b1,0,none⟩)) ?_))));obtain ⟨j,k,hm⟩:=aB hm
  refine aR (vs:=[zP (some ⟨b1,0,none⟩)]) call30 rfl (uS k i) ?_
  rintro _ l ⟨rfl,m⟩
  exact aJ (v:=i64 j.1) (aH (mB [1] (fun f w=>∃ e g h,xP n e g h=some R/\f 5=i64 e/\aF G K (aL 5 K a2 c3 a::box b1 64 [zS a2 a.length c3,i64 g,Value.int .u64 h]::L) w) aP aP))
theorem aFN {a:(List UInt8)} {b c n:Int} {R:(Int × (List UInt8) × Int × Int)} (hm:aEJ a b c n=some R) (k:aF G K (aL 5 K a2 c3 a::box b1 64 [zS a2 a.length c3,i64 b,Value.int .u64 c]::L) w):
  Calls prog 14 ([zP (some ⟨b1,0,none⟩),i64 n]:List Value).toArray w (eZ fun v w'=>∃ d e,v=i64 R.1/\aF G K (aL 5 K d e R.2.1::box b1 64 [zS d R.2.1.length e,i64 R.2.2.1,Value.int .u64 R.2.2.2]::L) w'):=by
 refine aO func14 rfl (by kernel_rfl) (by show (2:Nat)<=20;decide) ?_;unfold aEJ at hm
 refine aK (aJ (v:=i64 0) (aH (aM (aK (aG (v:=i64 n) (aD (R_leq rfl rfl) (aH ?_)))))))
 rcases aN hm with ⟨g,hm⟩|⟨g,hm⟩
 ·exact aP
 ·refine bE g rfl (aY (aC (aK (aG (v:=zP (some ⟨b1,0,none⟩)) ?_))));obtain ⟨l,m,hm⟩:=aB hm
  refine aR (vs:=[zP (some ⟨b1,0,none⟩)]) call30 rfl (uS m k) ?_
  rintro _ o ⟨rfl,p⟩
  exact aJ (v:=i64 l.1) (aH (mB [1] (fun f w=>∃ h i j,xQ a n h i j=some R/\f 5=i64 h/\aF G K (aL 5 K a2 c3 a::box b1 64 [zS a2 a.length c3,i64 i,Value.int .u64 j]::L) w) aP aP))
theorem aHJ {d:(List UInt8)} {c7 c8:Int} {R:(bB × (List UInt8) × Int × Int)} (hm:aHk d c7 c8=some R) (hs:aF G K (aL 5 K a2 c3 d::box b1 64 [zS a2 d.length c3,i64 c7,Value.int .u64 c8]::L) w):
  Calls prog 13 ([zP (some ⟨b1,0,none⟩)]:List Value).toArray w (eZ fun v w'=>∃ e1 e2 e3 e4 e5 e6,v=zA (zCa R.1 e1 e2 e3 e4)/\aF G K (aL 9 K e1 e2 R.1.L::aL 70 K e3 e4 R.1.E::aL 5 K e5 e6 R.2.1::box b1 64 [zS e5 R.2.1.length e6,i64 R.2.2.1,Value.int .u64 R.2.2.2]::L) w'):=by
 let c:=zG
 let e:=aL 5 K a2 c3 d
 let e7:=box b1 64 [zS a2 d.length c3,i64 c7,Value.int .u64 c8]
 refine aO func13 rfl (by kernel_rfl) (by show (1:Nat)<=45;decide) ?_;unfold aHk at hm
 refine aK (aZ (vs:=c) zeroValue35 hs rfl (fun g w5 h6=>(aH (aK (cK (Kt:=K) (xs:=([([116,97,117]:aI),([97]:aI),([103,101,116,40,48,41]:aI),([103,101,116,40,49,41]:aI),([112,117,116,40,48,41]:aI),([112,117,116,40,49,41]:aI)]:List aI)) (cs:=[str ([116,97,117]:aI),str ([97]:aI),str ([103,101,116,40,48,41]:aI),str ([103,101,116,40,49,41]:aI),str ([112,117,116,40,48,41]:aI),str ([112,117,116,40,49,41]:aI)]) (vs:=[(0,str ([116,97,117]:aI)),(1,str ([97]:aI)),(2,str ([103,101,116,40,48,41]:aI)),(3,str ([103,101,116,40,49,41]:aI)),(4,str ([112,117,116,40,48,41]:aI)),(5,str ([112,117,116,40,49,41]:aI))]) eG aDQ rfl rfl h6 rfl (by kernel_rfl) rfl rfl rfl ⟨rfl,rfl,rfl,rfl,rfl,rfl,trivial⟩ (fun a w8 (h7:aF G K (aL 9 K a 6 ([([116,97,117]:aI),([97]:aI),([103,101,116,40,48,41]:aI),([103,101,116,40,49,41]:aI),([112,117,116,40,48,41]:aI),([112,117,116,40,49,41]:aI)]:List aI)::box g 35 c::e::e7::L) w8)=>(aJ (v:=zS a ([([116,97,117]:aI),([97]:aI),([103,101,116,40,48,41]:aI),([103,101,116,40,49,41]:aI),([112,117,116,40,48,41]:aI),([112,117,116,40,49,41]:aI)]:List aI).length 6) (aH (aK (aG (v:=zP (some ⟨b1,0,none⟩)) ?_))))))))))
 have h8:aF G K (e::e7::aL 9 K a 6 ([([116,97,117]:aI),([97]:aI),([103,101,116,40,48,41]:aI),([103,101,116,40,49,41]:aI),([112,117,116,40,48,41]:aI),([112,117,116,40,49,41]:aI)]:List aI)::box g 35 c::L) w8:=(aF.arr 4 [2,3,0,1] h7 rfl)
 obtain ⟨b,h9,hm⟩:=aB hm
 refine aR (vs:=[zP (some ⟨b1,0,none⟩),i64 3]) call14 rfl (gG h9 h8) ?_
 rintro _ q4 ⟨rfl,i0⟩
 refine aD (dT rfl rfl) (aG (v:=zS a ([([116,97,117]:aI),([97]:aI),([103,101,116,40,48,41]:aI),([103,101,116,40,49,41]:aI),([112,117,116,40,48,41]:aI),([112,117,116,40,49,41]:aI)]:List aI).length 6) (aD (iR (vs:=[(0,i64 (wr (1+b.1))),(2,zS a ([([116,97,117]:aI),([97]:aI),([103,101,116,40,48,41]:aI),([103,101,116,40,49,41]:aI),([112,117,116,40,48,41]:aI),([112,117,116,40,49,41]:aI)]:List aI).length 6)]) (cs:=[i64 (wr (1+b.1)),i64 0,zS a ([([116,97,117]:aI),([97]:aI),([103,101,116,40,48,41]:aI),([103,101,116,40,49,41]:aI),([112,117,116,40,48,41]:aI),([112,117,116,40,49,41]:aI)]:List aI).length 6,zS none 0 0]) aED rfl (by kernel_rfl)) (aZ (vs:=c) zeroValue35 i0 rfl (fun u q5 i1=>(bS (i:=0) (ns:=[i64 (wr (1+b.1)),i64 0,zS a ([([116,97,117]:aI),([97]:aI),([103,101,116,40,48,41]:aI),([103,101,116,40,49,41]:aI),([112,117,116,40,48,41]:aI),([112,117,116,40,49,41]:aI)]:List aI).length 6,zS none 0 0]) (us:=[i64 (wr (1+b.1)),i64 0,zS a ([([116,97,117]:aI),([97]:aI),([103,101,116,40,48,41]:aI),([103,101,116,40,49,41]:aI),([112,117,116,40,48,41]:aI),([112,117,116,40,49,41]:aI)]:List aI).length 6,zS none 0 0]) sizeOf35 i1 rfl rfl rfl rfl rfl (dQ rfl) rfl rfl (fun i2 (i3:aF G K (box u 35 [i64 (wr (1+b.1)),i64 0,zS a ([([116,97,117]:aI),([97]:aI),([103,101,116,40,48,41]:aI),([103,101,116,40,49,41]:aI),([112,117,116,40,48,41]:aI),([112,117,116,40,49,41]:aI)]:List aI).length 6,zS none 0 0]::e::box b1 64 [zS a2 d.length c3,i64 b.2.1,Value.int .u64 b.2.2]::aL 9 K a 6 ([([116,97,117]:aI),([97]:aI),([103,101,116,40,48,41]:aI),([103,101,116,40,49,41]:aI),([112,117,116,40,48,41]:aI),([112,117,116,40,49,41]:aI)]:List aI)::box g 35 c::L) i2)=>(aH (aK (cK (Kt:=K) (xs:=([]:List Edge)) (cs:=[]) (vs:=[]) cS sM rfl rfl i3 rfl (by kernel_rfl) rfl rfl rfl trivial (fun c9 e9 (i4:aF G K (aL 70 K c9 0 ([]:List Edge)::box u 35 [i64 (wr (1+b.1)),i64 0,zS a ([([116,97,117]:aI),([97]:aI),([103,101,116,40,48,41]:aI),([103,101,116,40,49,41]:aI),([112,117,116,40,48,41]:aI),([112,117,116,40,49,41]:aI)]:List aI).length 6,zS none 0 0]::e::box b1 64 [zS a2 d.length c3,i64 b.2.1,Value.int .u64 b.2.2]::aL 9 K a 6 ([([116,97,117]:aI),([97]:aI),([103,101,116,40,48,41]:aI),([103,101,116,40,49,41]:aI),([112,117,116,40,48,41]:aI),([112,117,116,40,49,41]:aI)]:List aI)::box g 35 c::L) e9)=>(aJ (v:=zS c9 ([]:List Edge).length 0) (aH (aM (aK (aG (v:=zP (some ⟨b1,0,none⟩)) ?_)))))))))))))))
 have i5:aF G K (e::box b1 64 [zS a2 d.length c3,i64 b.2.1,Value.int .u64 b.2.2]::aL 70 K c9 0 ([]:List Edge)::box u 35 [i64 (wr (1+b.1)),i64 0,zS a ([([116,97,117]:aI),([97]:aI),([103,101,116,40,48,41]:aI),([103,101,116,40,49,41]:aI),([112,117,116,40,48,41]:aI),([112,117,116,40,49,41]:aI)]:List aI).length 6,zS none 0 0]::aL 9 K a 6 ([([116,97,117]:aI),([97]:aI),([103,101,116,40,48,41]:aI),([103,101,116,40,49,41]:aI),([112,117,116,40,48,41]:aI),([112,117,116,40,49,41]:aI)]:List aI)::box g 35 c::L) e9:=(aF.arr 4 [2,3,0,1] i4 rfl)
 obtain ⟨i6,i7,hm⟩:=aB hm
 refine aR (vs:=[zP (some ⟨b1,0,none⟩),i64 5]) call14 rfl (gG i7 i5) ?_
 rintro _ q6 ⟨rfl,q7⟩
 refine aJ (v:=i64 i6.1) (aH (aQ [0,2,3,4] (fun f w=>∃ V a0 o p q,aBm d b V a0 o=some R/\f 5=zS p o.length q/\aF G K (aL 70 K p q o::e::box b1 64 [zS a2 d.length c3,i64 V,Value.int .u64 a0]::box u 35 [i64 (wr (1+b.1)),i64 0,zS a ([([116,97,117]:aI),([97]:aI),([103,101,116,40,48,41]:aI),([103,101,116,40,49,41]:aI),([112,117,116,40,48,41]:aI),([112,117,116,40,49,41]:aI)]:List aI).length 6,zS none 0 0]::aL 9 K a 6 ([([116,97,117]:aI),([97]:aI),([103,101,116,40,48,41]:aI),([103,101,116,40,49,41]:aI),([112,117,116,40,48,41]:aI),([112,117,116,40,49,41]:aI)]:List aI)::box g 35 c::L) w) ?_ ?_))
 ·rintro f q8 ⟨V,a0,o,p,q,hm,i8,i9⟩
  unfold aBm at hm
  refine aC (aM (cH [2] (fun f w=>∃ a5 a6 a1 a3 d0 d1 a8 d2 d3 d4 d5,aBl d a5 a6 a1 a3 d0 d1=some R/\f 7=zP (some ⟨a8,0,none⟩)/\aF G K (aL 70 K d4 d5 a3::aL 9 K d2 d3 a1::box a8 35 [i64 a5,i64 a6,zS d2 a1.length d3,zS d4 a3.length d5]::e::box b1 64 [zS a2 d.length c3,i64 d0,Value.int .u64 d1]::box g 35 c::L) w) ?_ ?_))
  ·rintro f q9 ⟨a5,a6,a1,a3,d0,d1,a8,d2,d3,d4,d5,hm,j0,j1⟩
   unfold aBl at hm
   refine aC (aK ?_);obtain ⟨r0,j2,j3,j4,r1⟩:=aF.lendSp j1 (Hp.le_refl _) zt1
   obtain ⟨r2,j5,j6,j7,r3⟩:=aF.lendSp j4 j2 .head
   obtain ⟨r4,f0,j8,j9,r5⟩:=aF.lendBp j7 .head
   obtain ⟨r6,k0,hm⟩:=aB hm
   exact aR (vs:=[cR (some ⟨a8,0,none⟩) 0]) call29 (lst1 j0) (aDC (t:=⟨a5,a6,a1,a3⟩) k0 j9 j8 (j3.mono (zL j5 f0)) (j6.mono f0)) aP
  obtain ⟨d6,x,f1,k1,d7⟩:=aF.lendBp i9 zt3
  refine aAb (C:=fun w'=>∃ L',aF G d6 L' w') [10] Tryz_mixed (by kernel_rfl) (fun k2 k3=>?_)
  have n:=aF.mono k1 k3
  refine jB (i:=0) rfl (by kernel_rfl) ⟨_,n⟩ (fun _ _=>aV (t':=0) gT rfl rfl) (jB (i:=1) rfl (by kernel_rfl) ⟨_,n⟩ (fun _ ⟨_,n⟩=>bD (t:=0) dC n f1 rfl rfl) (jB (i:=2) rfl (by kernel_rfl) ⟨_,n⟩ (fun _ _=>aW (v:=zP (some ⟨b1,0,none⟩)) rfl) (jB (i:=3) rfl (by kernel_rfl) ⟨_,n⟩ (fun _ _=>aV (t':=0) gT rfl rfl) (jB (i:=4) rfl (by kernel_rfl) ⟨_,n⟩ (fun _ ⟨_,n⟩=>bD (t:=0) dC n f1 rfl rfl) (jB (i:=6) rfl (by kernel_rfl) ⟨_,n⟩ (fun _ _=>aW (v:=zS a ([([116,97,117]:aI),([97]:aI),([103,101,116,40,48,41]:aI),([103,101,116,40,49,41]:aI),([112,117,116,40,48,41]:aI),([112,117,116,40,49,41]:aI)]:List aI).length 6) rfl) (jB (i:=7) rfl (by kernel_rfl) ⟨_,n⟩ (fun _ _=>aW i8) (uX (i:=5) (j:=9) (by kernel_rfl) rfl rfl ?_ ?_)))))))
  ·have k4:aF G d6 (e::box b1 64 [zS a2 d.length c3,i64 V,Value.int .u64 a0]::aL 70 K p q o::aL 9 K a 6 ([([116,97,117]:aI),([97]:aI),([103,101,116,40,48,41]:aI),([103,101,116,40,49,41]:aI),([112,117,116,40,48,41]:aI),([112,117,116,40,49,41]:aI)]:List aI)::box g 35 c::L) k2:=(aF.arr 3 [1,2,0] n rfl)
   obtain ⟨y,k5,hm⟩:=aB hm
   refine aR (vs:=[zP (some ⟨b1,0,none⟩),i64 (wr (1+b.1))]) call14 rfl (gG k5 k4) ?_
   rintro _ r7 ⟨rfl,d8⟩
   refine aT (aC ⟨fun _=>⟨_,d8⟩,?_⟩)
   refine uX (i:=8) (j:=9) (by kernel_rfl) rfl rfl ?_ ?_
   ·obtain ⟨r8,k6,k7,k8,k9⟩:=aF.lendSp d8 x zt3
    obtain ⟨r9,l0,l1,l2,l3⟩:=aF.lendSp k8 (zL x k6) zt2
    obtain ⟨k,l4,hm⟩:=aB hm
    refine aR (vs:=[i64 (wr (1+b.1)),i64 y.1,zS a ([([116,97,117]:aI),([97]:aI),([103,101,116,40,48,41]:aI),([103,101,116,40,49,41]:aI),([112,117,116,40,48,41]:aI),([112,117,116,40,49,41]:aI)]:List aI).length 6,zS p o.length q]) call28 rfl (pM l4 l2 (k7.mono l0) l1) ?_
    rintro _ s0 ⟨a9,b0,b2,b3,rfl,l5⟩
    have l6:=l3 _ _ l5
    have f2:=k9 _ _ l6
    refine aT (aC ⟨fun _=>⟨_,f2⟩,?_⟩)
    refine cN (i:=9) (by kernel_rfl) rfl (aZ (vs:=c) zeroValue35 f2 rfl (fun l7 s1 f3=>(aT (aC ⟨fun _=>⟨_,f3⟩,?_⟩))))
    refine cN (i:=10) (by kernel_rfl) rfl ?_
    have l8:=d7 _ _ f3
    refine bS (i:=1) (ns:=(zC k a9 b0 b2 b3)) (us:=(zC k a9 b0 b2 b3)) sizeOf35 l8 rfl rfl rfl rfl rfl (dQ rfl) rfl rfl (fun l9 (s2:aF G K (box u 35 [i64 (wr (1+b.1)),i64 0,zS a ([([116,97,117]:aI),([97]:aI),([103,101,116,40,48,41]:aI),([103,101,116,40,49,41]:aI),([112,117,116,40,48,41]:aI),([112,117,116,40,49,41]:aI)]:List aI).length 6,zS none 0 0]::box l7 35 (zC k a9 b0 b2 b3)::aL 9 K a 6 ([([116,97,117]:aI),([97]:aI),([103,101,116,40,48,41]:aI),([103,101,116,40,49,41]:aI),([112,117,116,40,48,41]:aI),([112,117,116,40,49,41]:aI)]:List aI)::aL 70 K p q o::aL 9 K a9 b0 k.L::aL 70 K b2 b3 k.E::e::box b1 64 [zS a2 d.length c3,i64 y.2.1,Value.int .u64 y.2.2]::box g 35 c::L) l9)=>(aT (aC ⟨aFM rfl,?_⟩)))
    exact lW (by kernel_rfl) aP
   ·refine aZ (vs:=c) zeroValue35 d8 rfl (fun m0 s3 f4=>(aT (aC ⟨fun _=>⟨_,f4⟩,?_⟩)))
    refine cN (i:=8) (by kernel_rfl) rfl ?_;obtain ⟨s4,m1,m2,m3,m4⟩:=aF.lendSp f4 x zt4
    obtain ⟨s5,m5,m6,m7,m8⟩:=aF.lendSp m3 (zL x m1) zt3
    obtain ⟨l,m9,hm⟩:=aB hm
    refine aR (vs:=[i64 (wr (1+b.1)),i64 y.1,zS a ([([116,97,117]:aI),([97]:aI),([103,101,116,40,48,41]:aI),([103,101,116,40,49,41]:aI),([112,117,116,40,48,41]:aI),([112,117,116,40,49,41]:aI)]:List aI).length 6,zS p o.length q]) call28 rfl (pM m9 m7 (m2.mono m5) m6) ?_
    rintro _ s6 ⟨b5,b6,b7,b8,rfl,n0⟩
    have n1:=m8 _ _ n0
    have f5:=m4 _ _ n1
    refine aT (aC ⟨fun _=>⟨_,f5⟩,?_⟩)
    refine cN (i:=10) (by kernel_rfl) rfl ?_
    have n2:=d7 _ _ f5
    refine bS (i:=5) (ns:=(zC l b5 b6 b7 b8)) (us:=(zC l b5 b6 b7 b8)) sizeOf35 n2 rfl rfl rfl rfl rfl (dQ rfl) rfl rfl (fun n3 (s7:aF G K (box u 35 [i64 (wr (1+b.1)),i64 0,zS a ([([116,97,117]:aI),([97]:aI),([103,101,116,40,48,41]:aI),([103,101,116,40,49,41]:aI),([112,117,116,40,48,41]:aI),([112,117,116,40,49,41]:aI)]:List aI).length 6,zS none 0 0]::aL 9 K a 6 ([([116,97,117]:aI),([97]:aI),([103,101,116,40,48,41]:aI),([103,101,116,40,49,41]:aI),([112,117,116,40,48,41]:aI),([112,117,116,40,49,41]:aI)]:List aI)::aL 70 K p q o::aL 9 K b5 b6 l.L::aL 70 K b7 b8 l.E::box m0 35 (zC l b5 b6 b7 b8)::e::box b1 64 [zS a2 d.length c3,i64 y.2.1,Value.int .u64 y.2.2]::box g 35 c::L) n3)=>(aT (aC ⟨aFM rfl,?_⟩)))
    exact lW (by kernel_rfl) aP
  ·refine aZ (vs:=c) zeroValue35 n rfl (fun f6 n4 f7=>(aT (aC ⟨fun _=>⟨_,f7⟩,?_⟩)))
   refine cN (i:=5) (by kernel_rfl) rfl ?_
   have n5:aF G d6 (e::box b1 64 [zS a2 d.length c3,i64 V,Value.int .u64 a0]::box f6 35 c::aL 70 K p q o::aL 9 K a 6 ([([116,97,117]:aI),([97]:aI),([103,101,116,40,48,41]:aI),([103,101,116,40,49,41]:aI),([112,117,116,40,48,41]:aI),([112,117,116,40,49,41]:aI)]:List aI)::box g 35 c::L) n4:=(aF.arr 4 [2,3,0,1] f7 rfl)
   obtain ⟨d9,n6,hm⟩:=aB hm
   refine aR (vs:=[zP (some ⟨b1,0,none⟩),i64 (wr (1+b.1))]) call14 rfl (gG n6 n5) ?_
   rintro _ s8 ⟨rfl,f8⟩
   refine aT (aC ⟨fun _=>⟨_,f8⟩,?_⟩)
   refine cN (i:=8) (by kernel_rfl) rfl ?_;obtain ⟨s9,n7,n8,n9,o0⟩:=aF.lendSp f8 x zt4
   obtain ⟨t0,o1,o2,o3,o4⟩:=aF.lendSp n9 (zL x n7) zt3
   obtain ⟨m,o5,hm⟩:=aB hm
   refine aR (vs:=[i64 (wr (1+b.1)),i64 d9.1,zS a ([([116,97,117]:aI),([97]:aI),([103,101,116,40,48,41]:aI),([103,101,116,40,49,41]:aI),([112,117,116,40,48,41]:aI),([112,117,116,40,49,41]:aI)]:List aI).length 6,zS p o.length q]) call28 rfl (pM o5 o3 (n8.mono o1) o2) ?_
   rintro _ t1 ⟨b9,c0,c1,c2,rfl,o6⟩
   have o7:=o4 _ _ o6
   have f9:=o0 _ _ o7
   refine aT (aC ⟨fun _=>⟨_,f9⟩,?_⟩)
   refine cN (i:=10) (by kernel_rfl) rfl ?_
   have o8:=d7 _ _ f9
   refine bS (i:=7) (ns:=(zC m b9 c0 c1 c2)) (us:=(zC m b9 c0 c1 c2)) sizeOf35 o8 rfl rfl rfl rfl rfl (dQ rfl) rfl rfl (fun o9 (t2:aF G K (box u 35 [i64 (wr (1+b.1)),i64 0,zS a ([([116,97,117]:aI),([97]:aI),([103,101,116,40,48,41]:aI),([103,101,116,40,49,41]:aI),([112,117,116,40,48,41]:aI),([112,117,116,40,49,41]:aI)]:List aI).length 6,zS none 0 0]::aL 9 K a 6 ([([116,97,117]:aI),([97]:aI),([103,101,116,40,48,41]:aI),([103,101,116,40,49,41]:aI),([112,117,116,40,48,41]:aI),([112,117,116,40,49,41]:aI)]:List aI)::aL 70 K p q o::aL 9 K b9 c0 m.L::aL 70 K c1 c2 m.E::e::box b1 64 [zS a2 d.length c3,i64 d9.2.1,Value.int .u64 d9.2.2]::box f6 35 (zC m b9 c0 c1 c2)::box g 35 c::L) o9)=>(aT (aC ⟨aFM rfl,?_⟩)))
   exact lW (by kernel_rfl) aP
 obtain ⟨t3,p0,ho⟩:=aB hm
 refine vM [0,2,3,4] p0 (fun g0 g1 c4 g2 f w=>∃ c5 c6,f 5=zS c5 c4.length c6/\f 6=i64 g2/\aF G K (e::box b1 64 [zS a2 d.length c3,i64 g0,Value.int .u64 g1]::aL 70 K c5 c6 c4::box u 35 [i64 (wr (1+b.1)),i64 0,zS a ([([116,97,117]:aI),([97]:aI),([103,101,116,40,48,41]:aI),([103,101,116,40,49,41]:aI),([112,117,116,40,48,41]:aI),([112,117,116,40,49,41]:aI)]:List aI).length 6,zS none 0 0]::aL 9 K a 6 ([([116,97,117]:aI),([97]:aI),([103,101,116,40,48,41]:aI),([103,101,116,40,49,41]:aI),([112,117,116,40,48,41]:aI),([112,117,116,40,49,41]:aI)]:List aI)::box g 35 c::L) w) aP ?_
 ·rintro g0 g1 c4 g2 t4 f t5 hm hr ⟨c5,c6,p1,p2,p3⟩
  unfold aEK at hm
  refine aM (aK (bC p2 (aD (aAa rfl rfl) (aH ?_))))
  rcases aN hm with ⟨g3,hm⟩|⟨g3,hm⟩
  ·refine aS g3 rfl (aY (aC (aM (cV ?_))));obtain ⟨e0,g4,g5,g6,p4⟩:=aF.lendBp p3 zt3
   refine cW (C:=fun w'=>∃ L',aF G e0 L' w') [(0,0),(1,0),(2,0),(3,0),(5,0),(7,0),(8,0),(9,0),(4,1),(6,1),(10,1),(11,0),(12,1),(13,1),(14,0)] Tryz_mixed (by kernel_rfl) (fun _ hg=>⟨_,aF.mono g6 hg⟩) (fun t6 p5=>?_)
   have a4:=aF.mono g6 p5
   refine bA rfl (fun _ _=>aW p1) (bA rfl (fun _ _=>aW (v:=zP (some ⟨b1,0,none⟩)) rfl) (bA rfl (fun _ _=>aV (t':=0) gT rfl rfl) (bA rfl (fun _ ⟨_,a4⟩=>bD (t:=0) dC a4 g5 rfl rfl) (bA rfl (fun _ _=>aW (v:=zP (some ⟨b1,0,none⟩)) rfl) (bA rfl (fun _ _=>aW (v:=zP (some ⟨b1,0,none⟩)) rfl) (bA rfl (fun _ _=>aV (t':=0) gT rfl rfl) (bA rfl (fun _ ⟨_,a4⟩=>bD (t:=0) dC a4 g5 rfl rfl) (jN rfl ?_))))))));obtain ⟨z,p6,hm⟩:=aB hm
   refine aR (vs:=[zP (some ⟨b1,0,none⟩),i64 (wr (1+b.1))]) call14 rfl (gG p6 a4) ?_
   rintro _ t7 ⟨rfl,g7⟩
   refine aT (aC ⟨⟨_,g7⟩,?_⟩)
   refine jN rfl ?_;obtain ⟨J,p7,hm⟩:=aB hm
   refine aR (vs:=[zP (some ⟨b1,0,none⟩),i64 6]) call14 rfl (gG p7 g7) ?_
   rintro _ t8 ⟨rfl,g8⟩
   refine aT (aC ⟨⟨_,g8⟩,?_⟩)
   refine jN rfl ?_;obtain ⟨r,p8,hm⟩:=aB hm
   refine aR (vs:=[zP (some ⟨b1,0,none⟩),i64 (wr (1+b.1))]) call14 rfl (gG p8 g8) ?_
   rintro _ t9 ⟨rfl,g9⟩
   refine aT (aC ⟨⟨_,g9⟩,?_⟩)
   refine bA rfl (fun _ _=>iR (vs:=[(0,i64 z.1),(1,i64 J.1),(2,i64 r.1)]) (cs:=[i64 z.1,i64 J.1,i64 r.1]) aJC rfl (by kernel_rfl)) (jN rfl (cK (Kt:=K) (xs:=([⟨z.1,J.1,r.1⟩]:List Edge)) (cs:=[i64 z.1,i64 J.1,i64 r.1]) (vs:=[(0,zA #[i64 z.1,i64 J.1,i64 r.1])]) cS sM rfl rfl g9 rfl (by kernel_rfl) rfl rfl rfl ⟨rfl,trivial⟩ (fun p9 q0 (h0:aF G e0 (aL 70 K p9 1 ([⟨z.1,J.1,r.1⟩]:List Edge)::e::box b1 64 [zS a2 d.length c3,i64 r.2.1,Value.int .u64 r.2.2]::aL 70 K c5 c6 c4::aL 9 K a 6 ([([116,97,117]:aI),([97]:aI),([103,101,116,40,48,41]:aI),([103,101,116,40,49,41]:aI),([112,117,116,40,48,41]:aI),([112,117,116,40,49,41]:aI)]:List aI)::box g 35 c::L) q0)=>(aT (aC ⟨⟨_,h0⟩,?_⟩)))))
   refine jN rfl ?_;obtain ⟨h1,q1,hm⟩:=aB hm
   refine nE (i:=2) cS underlying33 sM rfl rfl h0 rfl g4 g4 q1 rfl rfl rfl rfl (fun _ h=>h) (fun h2 h3 q2 (h4:aF G e0 (e::box b1 64 [zS a2 d.length c3,i64 r.2.1,Value.int .u64 r.2.2]::aL 70 K h2 h3 h1::aL 9 K a 6 ([([116,97,117]:aI),([97]:aI),([103,101,116,40,48,41]:aI),([103,101,116,40,49,41]:aI),([112,117,116,40,48,41]:aI),([112,117,116,40,49,41]:aI)]:List aI)::box g 35 c::L) q2)=>(aT (aC ⟨⟨_,h4⟩,?_⟩)))
   refine bA rfl (fun _ _=>fW (v:=zS h2 h1.length h3) rfl) (oS ?_)
   have u0:=p4 _ _ h4
   exact aP
  ·exact aP
theorem uT {d:(List UInt8)} {c8 c9:Int} {R:(bB × Int × Int)} (hm:oO d c8 c9=some R) (hs:aF G K (box b1 64 [zS a2 d.length c3,i64 c8,Value.int .u64 c9]::L) w) (x:bG K a2 c3 d):
  Calls prog 13 ([zP (some ⟨b1,0,none⟩)]:List Value).toArray w (eZ fun v w'=>∃ e1 e2 e3 e4,v=zA (zCa R.1 e1 e2 e3 e4)/\aF G K (aL 9 K e1 e2 R.1.L::aL 70 K e3 e4 R.1.E::box b1 64 [zS a2 d.length c3,i64 R.2.1,Value.int .u64 R.2.2]::L) w'):=by
 let c:=zG
 let e5:=box b1 64 [zS a2 d.length c3,i64 c8,Value.int .u64 c9]
 refine aO func13 rfl (by kernel_rfl) (by show (1:Nat)<=45;decide) ?_;unfold oO at hm
 refine aK (aZ (vs:=c) zeroValue35 hs rfl (fun e w6 h3=>(aH (aK (cK (Kt:=K) (xs:=([([116,97,117]:aI),([97]:aI),([103,101,116,40,48,41]:aI),([103,101,116,40,49,41]:aI),([112,117,116,40,48,41]:aI),([112,117,116,40,49,41]:aI)]:List aI)) (cs:=[str ([116,97,117]:aI),str ([97]:aI),str ([103,101,116,40,48,41]:aI),str ([103,101,116,40,49,41]:aI),str ([112,117,116,40,48,41]:aI),str ([112,117,116,40,49,41]:aI)]) (vs:=[(0,str ([116,97,117]:aI)),(1,str ([97]:aI)),(2,str ([103,101,116,40,48,41]:aI)),(3,str ([103,101,116,40,49,41]:aI)),(4,str ([112,117,116,40,48,41]:aI)),(5,str ([112,117,116,40,49,41]:aI))]) eG aDQ rfl rfl h3 rfl (by kernel_rfl) rfl rfl rfl ⟨rfl,rfl,rfl,rfl,rfl,rfl,trivial⟩ (fun a w9 (h5:aF G K (aL 9 K a 6 ([([116,97,117]:aI),([97]:aI),([103,101,116,40,48,41]:aI),([103,101,116,40,49,41]:aI),([112,117,116,40,48,41]:aI),([112,117,116,40,49,41]:aI)]:List aI)::box e 35 c::e5::L) w9)=>(aJ (v:=zS a ([([116,97,117]:aI),([97]:aI),([103,101,116,40,48,41]:aI),([103,101,116,40,49,41]:aI),([112,117,116,40,48,41]:aI),([112,117,116,40,49,41]:aI)]:List aI).length 6) (aH (aK (aG (v:=zP (some ⟨b1,0,none⟩)) ?_))))))))))
 have h6:aF G K (e5::aL 9 K a 6 ([([116,97,117]:aI),([97]:aI),([103,101,116,40,48,41]:aI),([103,101,116,40,49,41]:aI),([112,117,116,40,48,41]:aI),([112,117,116,40,49,41]:aI)]:List aI)::box e 35 c::L) w9:=(aF.arr 3 [2,0,1] h5 rfl)
 obtain ⟨b,h7,hm⟩:=aB hm
 refine aR (vs:=[zP (some ⟨b1,0,none⟩),i64 3]) call14 rfl (fH h7 h6 x) ?_
 rintro _ q2 ⟨rfl,h8⟩
 refine aD (dT rfl rfl) (aG (v:=zS a ([([116,97,117]:aI),([97]:aI),([103,101,116,40,48,41]:aI),([103,101,116,40,49,41]:aI),([112,117,116,40,48,41]:aI),([112,117,116,40,49,41]:aI)]:List aI).length 6) (aD (iR (vs:=[(0,i64 (wr (1+b.1))),(2,zS a ([([116,97,117]:aI),([97]:aI),([103,101,116,40,48,41]:aI),([103,101,116,40,49,41]:aI),([112,117,116,40,48,41]:aI),([112,117,116,40,49,41]:aI)]:List aI).length 6)]) (cs:=[i64 (wr (1+b.1)),i64 0,zS a ([([116,97,117]:aI),([97]:aI),([103,101,116,40,48,41]:aI),([103,101,116,40,49,41]:aI),([112,117,116,40,48,41]:aI),([112,117,116,40,49,41]:aI)]:List aI).length 6,zS none 0 0]) aED rfl (by kernel_rfl)) (aZ (vs:=c) zeroValue35 h8 rfl (fun r q3 h9=>(bS (i:=0) (ns:=[i64 (wr (1+b.1)),i64 0,zS a ([([116,97,117]:aI),([97]:aI),([103,101,116,40,48,41]:aI),([103,101,116,40,49,41]:aI),([112,117,116,40,48,41]:aI),([112,117,116,40,49,41]:aI)]:List aI).length 6,zS none 0 0]) (us:=[i64 (wr (1+b.1)),i64 0,zS a ([([116,97,117]:aI),([97]:aI),([103,101,116,40,48,41]:aI),([103,101,116,40,49,41]:aI),([112,117,116,40,48,41]:aI),([112,117,116,40,49,41]:aI)]:List aI).length 6,zS none 0 0]) sizeOf35 h9 rfl rfl rfl rfl rfl (dQ rfl) rfl rfl (fun i0 (i1:aF G K (box r 35 [i64 (wr (1+b.1)),i64 0,zS a ([([116,97,117]:aI),([97]:aI),([103,101,116,40,48,41]:aI),([103,101,116,40,49,41]:aI),([112,117,116,40,48,41]:aI),([112,117,116,40,49,41]:aI)]:List aI).length 6,zS none 0 0]::box b1 64 [zS a2 d.length c3,i64 b.2.1,Value.int .u64 b.2.2]::aL 9 K a 6 ([([116,97,117]:aI),([97]:aI),([103,101,116,40,48,41]:aI),([103,101,116,40,49,41]:aI),([112,117,116,40,48,41]:aI),([112,117,116,40,49,41]:aI)]:List aI)::box e 35 c::L) i0)=>(aH (aK (cK (Kt:=K) (xs:=([]:List Edge)) (cs:=[]) (vs:=[]) cS sM rfl rfl i1 rfl (by kernel_rfl) rfl rfl rfl trivial (fun d0 e7 (i2:aF G K (aL 70 K d0 0 ([]:List Edge)::box r 35 [i64 (wr (1+b.1)),i64 0,zS a ([([116,97,117]:aI),([97]:aI),([103,101,116,40,48,41]:aI),([103,101,116,40,49,41]:aI),([112,117,116,40,48,41]:aI),([112,117,116,40,49,41]:aI)]:List aI).length 6,zS none 0 0]::box b1 64 [zS a2 d.length c3,i64 b.2.1,Value.int .u64 b.2.2]::aL 9 K a 6 ([([116,97,117]:aI),([97]:aI),([103,101,116,40,48,41]:aI),([103,101,116,40,49,41]:aI),([112,117,116,40,48,41]:aI),([112,117,116,40,49,41]:aI)]:List aI)::box e 35 c::L) e7)=>(aJ (v:=zS d0 ([]:List Edge).length 0) (aH (aM (aK (aG (v:=zP (some ⟨b1,0,none⟩)) ?_)))))))))))))))
 have i3:aF G K (box b1 64 [zS a2 d.length c3,i64 b.2.1,Value.int .u64 b.2.2]::aL 70 K d0 0 ([]:List Edge)::box r 35 [i64 (wr (1+b.1)),i64 0,zS a ([([116,97,117]:aI),([97]:aI),([103,101,116,40,48,41]:aI),([103,101,116,40,49,41]:aI),([112,117,116,40,48,41]:aI),([112,117,116,40,49,41]:aI)]:List aI).length 6,zS none 0 0]::aL 9 K a 6 ([([116,97,117]:aI),([97]:aI),([103,101,116,40,48,41]:aI),([103,101,116,40,49,41]:aI),([112,117,116,40,48,41]:aI),([112,117,116,40,49,41]:aI)]:List aI)::box e 35 c::L) e7:=(aF.arr 3 [2,0,1] i2 rfl)
 obtain ⟨i4,i5,hm⟩:=aB hm
 refine aR (vs:=[zP (some ⟨b1,0,none⟩),i64 5]) call14 rfl (fH i5 i3 x) ?_
 rintro _ q4 ⟨rfl,q5⟩
 refine aJ (v:=i64 i4.1) (aH (aQ [0,2,3,4] (fun f w=>∃ V a0 n o p,rO d b V a0 n=some R/\f 5=zS o n.length p/\aF G K (aL 70 K o p n::box b1 64 [zS a2 d.length c3,i64 V,Value.int .u64 a0]::box r 35 [i64 (wr (1+b.1)),i64 0,zS a ([([116,97,117]:aI),([97]:aI),([103,101,116,40,48,41]:aI),([103,101,116,40,49,41]:aI),([112,117,116,40,48,41]:aI),([112,117,116,40,49,41]:aI)]:List aI).length 6,zS none 0 0]::aL 9 K a 6 ([([116,97,117]:aI),([97]:aI),([103,101,116,40,48,41]:aI),([103,101,116,40,49,41]:aI),([112,117,116,40,48,41]:aI),([112,117,116,40,49,41]:aI)]:List aI)::box e 35 c::L) w) ?_ ?_))
 ·rintro f q6 ⟨V,a0,n,o,p,hm,i6,i7⟩
  unfold rO at hm
  refine aC (aM (cH [2] (fun f w=>∃ a6 a7 a1 a3 d1 d2 a9 d3 d4 d5 c45,rN a6 a7 a1 a3 d1 d2=some R/\f 7=zP (some ⟨a9,0,none⟩)/\aF G K (aL 70 K d5 c45 a3::aL 9 K d3 d4 a1::box a9 35 [i64 a6,i64 a7,zS d3 a1.length d4,zS d5 a3.length c45]::box b1 64 [zS a2 d.length c3,i64 d1,Value.int .u64 d2]::box e 35 c::L) w) ?_ ?_))
  ·rintro f q7 ⟨a6,a7,a1,a3,d1,d2,a9,d3,d4,d5,c45,hm,i8,i9⟩
   unfold rN at hm
   refine aC (aK ?_);obtain ⟨q8,j0,j1,j2,q9⟩:=aF.lendSp i9 (Hp.le_refl _) zt1
   obtain ⟨r0,j3,j4,j5,r1⟩:=aF.lendSp j2 j0 .head
   obtain ⟨r2,e8,j6,j7,r3⟩:=aF.lendBp j5 .head
   obtain ⟨r4,j8,hm⟩:=aB hm
   exact aR (vs:=[cR (some ⟨a9,0,none⟩) 0]) call29 (lst1 i8) (aDC (t:=⟨a6,a7,a1,a3⟩) j8 j7 j6 (j1.mono (zL j3 e8)) (j4.mono e8)) aP
  obtain ⟨d6,u,e9,j9,d7⟩:=aF.lendBp i7 zt2
  refine aAb (C:=fun w'=>∃ L',aF G d6 L' w') [10] Tryz_mixed (by kernel_rfl) (fun k0 k1=>?_)
  have m:=aF.mono j9 k1
  refine jB (i:=0) rfl (by kernel_rfl) ⟨_,m⟩ (fun _ _=>aV (t':=0) gT rfl rfl) (jB (i:=1) rfl (by kernel_rfl) ⟨_,m⟩ (fun _ ⟨_,m⟩=>bD (t:=0) dC m e9 rfl rfl) (jB (i:=2) rfl (by kernel_rfl) ⟨_,m⟩ (fun _ _=>aW (v:=zP (some ⟨b1,0,none⟩)) rfl) (jB (i:=3) rfl (by kernel_rfl) ⟨_,m⟩ (fun _ _=>aV (t':=0) gT rfl rfl) (jB (i:=4) rfl (by kernel_rfl) ⟨_,m⟩ (fun _ ⟨_,m⟩=>bD (t:=0) dC m e9 rfl rfl) (jB (i:=6) rfl (by kernel_rfl) ⟨_,m⟩ (fun _ _=>aW (v:=zS a ([([116,97,117]:aI),([97]:aI),([103,101,116,40,48,41]:aI),([103,101,116,40,49,41]:aI),([112,117,116,40,48,41]:aI),([112,117,116,40,49,41]:aI)]:List aI).length 6) rfl) (jB (i:=7) rfl (by kernel_rfl) ⟨_,m⟩ (fun _ _=>aW i6) (uX (i:=5) (j:=9) (by kernel_rfl) rfl rfl ?_ ?_)))))))
  ·have k2:aF G d6 (box b1 64 [zS a2 d.length c3,i64 V,Value.int .u64 a0]::aL 70 K o p n::aL 9 K a 6 ([([116,97,117]:aI),([97]:aI),([103,101,116,40,48,41]:aI),([103,101,116,40,49,41]:aI),([112,117,116,40,48,41]:aI),([112,117,116,40,49,41]:aI)]:List aI)::box e 35 c::L) k0:=(aF.arr 2 [1,0] m rfl)
   obtain ⟨y,k3,hm⟩:=aB hm
   refine aR (vs:=[zP (some ⟨b1,0,none⟩),i64 (wr (1+b.1))]) call14 rfl (fH k3 k2 (x.mono u)) ?_
   rintro _ r5 ⟨rfl,d8⟩
   refine aT (aC ⟨fun _=>⟨_,d8⟩,?_⟩)
   refine uX (i:=8) (j:=9) (by kernel_rfl) rfl rfl ?_ ?_
   ·obtain ⟨r6,k4,k5,k6,k7⟩:=aF.lendSp d8 u zt2
    obtain ⟨r7,k8,k9,l0,l1⟩:=aF.lendSp k6 (zL u k4) zt1
    obtain ⟨g,l2,hm⟩:=aB hm
    refine aR (vs:=[i64 (wr (1+b.1)),i64 y.1,zS a ([([116,97,117]:aI),([97]:aI),([103,101,116,40,48,41]:aI),([103,101,116,40,49,41]:aI),([112,117,116,40,48,41]:aI),([112,117,116,40,49,41]:aI)]:List aI).length 6,zS o n.length p]) call28 rfl (pM l2 l0 (k5.mono k8) k9) ?_
    rintro _ r8 ⟨b0,b2,b3,b4,rfl,l3⟩
    have l4:=l1 _ _ l3
    have f0:=k7 _ _ l4
    refine aT (aC ⟨fun _=>⟨_,f0⟩,?_⟩)
    refine cN (i:=9) (by kernel_rfl) rfl (aZ (vs:=c) zeroValue35 f0 rfl (fun l5 r9 f1=>(aT (aC ⟨fun _=>⟨_,f1⟩,?_⟩))))
    refine cN (i:=10) (by kernel_rfl) rfl ?_
    have l6:=d7 _ _ f1
    refine bS (i:=1) (ns:=(zC g b0 b2 b3 b4)) (us:=(zC g b0 b2 b3 b4)) sizeOf35 l6 rfl rfl rfl rfl rfl (dQ rfl) rfl rfl (fun l7 (s0:aF G K (box r 35 [i64 (wr (1+b.1)),i64 0,zS a ([([116,97,117]:aI),([97]:aI),([103,101,116,40,48,41]:aI),([103,101,116,40,49,41]:aI),([112,117,116,40,48,41]:aI),([112,117,116,40,49,41]:aI)]:List aI).length 6,zS none 0 0]::box l5 35 (zC g b0 b2 b3 b4)::aL 9 K a 6 ([([116,97,117]:aI),([97]:aI),([103,101,116,40,48,41]:aI),([103,101,116,40,49,41]:aI),([112,117,116,40,48,41]:aI),([112,117,116,40,49,41]:aI)]:List aI)::aL 70 K o p n::aL 9 K b0 b2 g.L::aL 70 K b3 b4 g.E::box b1 64 [zS a2 d.length c3,i64 y.2.1,Value.int .u64 y.2.2]::box e 35 c::L) l7)=>(aT (aC ⟨aFM rfl,?_⟩)))
    exact lW (by kernel_rfl) aP
   ·refine aZ (vs:=c) zeroValue35 d8 rfl (fun l8 s1 f2=>(aT (aC ⟨fun _=>⟨_,f2⟩,?_⟩)))
    refine cN (i:=8) (by kernel_rfl) rfl ?_;obtain ⟨s2,l9,m0,m1,m2⟩:=aF.lendSp f2 u zt3
    obtain ⟨s3,m3,m4,m5,m6⟩:=aF.lendSp m1 (zL u l9) zt2
    obtain ⟨k,m7,hm⟩:=aB hm
    refine aR (vs:=[i64 (wr (1+b.1)),i64 y.1,zS a ([([116,97,117]:aI),([97]:aI),([103,101,116,40,48,41]:aI),([103,101,116,40,49,41]:aI),([112,117,116,40,48,41]:aI),([112,117,116,40,49,41]:aI)]:List aI).length 6,zS o n.length p]) call28 rfl (pM m7 m5 (m0.mono m3) m4) ?_
    rintro _ s4 ⟨b6,b7,b8,b9,rfl,m8⟩
    have m9:=m6 _ _ m8
    have f3:=m2 _ _ m9
    refine aT (aC ⟨fun _=>⟨_,f3⟩,?_⟩)
    refine cN (i:=10) (by kernel_rfl) rfl ?_
    have n0:=d7 _ _ f3
    refine bS (i:=5) (ns:=(zC k b6 b7 b8 b9)) (us:=(zC k b6 b7 b8 b9)) sizeOf35 n0 rfl rfl rfl rfl rfl (dQ rfl) rfl rfl (fun n1 (s5:aF G K (box r 35 [i64 (wr (1+b.1)),i64 0,zS a ([([116,97,117]:aI),([97]:aI),([103,101,116,40,48,41]:aI),([103,101,116,40,49,41]:aI),([112,117,116,40,48,41]:aI),([112,117,116,40,49,41]:aI)]:List aI).length 6,zS none 0 0]::aL 9 K a 6 ([([116,97,117]:aI),([97]:aI),([103,101,116,40,48,41]:aI),([103,101,116,40,49,41]:aI),([112,117,116,40,48,41]:aI),([112,117,116,40,49,41]:aI)]:List aI)::aL 70 K o p n::aL 9 K b6 b7 k.L::aL 70 K b8 b9 k.E::box l8 35 (zC k b6 b7 b8 b9)::box b1 64 [zS a2 d.length c3,i64 y.2.1,Value.int .u64 y.2.2]::box e 35 c::L) n1)=>(aT (aC ⟨aFM rfl,?_⟩)))
    exact lW (by kernel_rfl) aP
  ·refine aZ (vs:=c) zeroValue35 m rfl (fun f4 n2 f5=>(aT (aC ⟨fun _=>⟨_,f5⟩,?_⟩)))
   refine cN (i:=5) (by kernel_rfl) rfl ?_
   have n3:aF G d6 (box b1 64 [zS a2 d.length c3,i64 V,Value.int .u64 a0]::box f4 35 c::aL 70 K o p n::aL 9 K a 6 ([([116,97,117]:aI),([97]:aI),([103,101,116,40,48,41]:aI),([103,101,116,40,49,41]:aI),([112,117,116,40,48,41]:aI),([112,117,116,40,49,41]:aI)]:List aI)::box e 35 c::L) n2:=(aF.arr 3 [2,0,1] f5 rfl)
   obtain ⟨d9,n4,hm⟩:=aB hm
   refine aR (vs:=[zP (some ⟨b1,0,none⟩),i64 (wr (1+b.1))]) call14 rfl (fH n4 n3 (x.mono u)) ?_
   rintro _ s6 ⟨rfl,f6⟩
   refine aT (aC ⟨fun _=>⟨_,f6⟩,?_⟩)
   refine cN (i:=8) (by kernel_rfl) rfl ?_;obtain ⟨s7,n5,n6,n7,n8⟩:=aF.lendSp f6 u zt3
   obtain ⟨s8,n9,o0,o1,o2⟩:=aF.lendSp n7 (zL u n5) zt2
   obtain ⟨l,o3,hm⟩:=aB hm
   refine aR (vs:=[i64 (wr (1+b.1)),i64 d9.1,zS a ([([116,97,117]:aI),([97]:aI),([103,101,116,40,48,41]:aI),([103,101,116,40,49,41]:aI),([112,117,116,40,48,41]:aI),([112,117,116,40,49,41]:aI)]:List aI).length 6,zS o n.length p]) call28 rfl (pM o3 o1 (n6.mono n9) o0) ?_
   rintro _ s9 ⟨c0,c1,c2,c4,rfl,o4⟩
   have o5:=o2 _ _ o4
   have f7:=n8 _ _ o5
   refine aT (aC ⟨fun _=>⟨_,f7⟩,?_⟩)
   refine cN (i:=10) (by kernel_rfl) rfl ?_
   have o6:=d7 _ _ f7
   refine bS (i:=6) (ns:=(zC l c0 c1 c2 c4)) (us:=(zC l c0 c1 c2 c4)) sizeOf35 o6 rfl rfl rfl rfl rfl (dQ rfl) rfl rfl (fun o7 (t0:aF G K (box r 35 [i64 (wr (1+b.1)),i64 0,zS a ([([116,97,117]:aI),([97]:aI),([103,101,116,40,48,41]:aI),([103,101,116,40,49,41]:aI),([112,117,116,40,48,41]:aI),([112,117,116,40,49,41]:aI)]:List aI).length 6,zS none 0 0]::aL 9 K a 6 ([([116,97,117]:aI),([97]:aI),([103,101,116,40,48,41]:aI),([103,101,116,40,49,41]:aI),([112,117,116,40,48,41]:aI),([112,117,116,40,49,41]:aI)]:List aI)::aL 70 K o p n::aL 9 K c0 c1 l.L::aL 70 K c2 c4 l.E::box b1 64 [zS a2 d.length c3,i64 d9.2.1,Value.int .u64 d9.2.2]::box f4 35 (zC l c0 c1 c2 c4)::box e 35 c::L) o7)=>(aT (aC ⟨aFM rfl,?_⟩)))
   exact lW (by kernel_rfl) aP
 obtain ⟨t1,o8,ho⟩:=aB hm
 refine vM [0,2,3,4] o8 (fun f8 f9 c5 g0 f w=>∃ c6 c7,f 5=zS c6 c5.length c7/\f 6=i64 g0/\aF G K (box b1 64 [zS a2 d.length c3,i64 f8,Value.int .u64 f9]::aL 70 K c6 c7 c5::box r 35 [i64 (wr (1+b.1)),i64 0,zS a ([([116,97,117]:aI),([97]:aI),([103,101,116,40,48,41]:aI),([103,101,116,40,49,41]:aI),([112,117,116,40,48,41]:aI),([112,117,116,40,49,41]:aI)]:List aI).length 6,zS none 0 0]::aL 9 K a 6 ([([116,97,117]:aI),([97]:aI),([103,101,116,40,48,41]:aI),([103,101,116,40,49,41]:aI),([112,117,116,40,48,41]:aI),([112,117,116,40,49,41]:aI)]:List aI)::box e 35 c::L) w) aP ?_
 ·rintro f8 f9 c5 g0 t2 f t3 hm hr ⟨c6,c7,o9,p0,p1⟩
  unfold nY at hm
  refine aM (aK (bC p0 (aD (aAa rfl rfl) (aH ?_))))
  rcases aN hm with ⟨g1,hm⟩|⟨g1,hm⟩
  ·refine aS g1 rfl (aY (aC (aM (cV ?_))));obtain ⟨e0,a4,g2,g3,p2⟩:=aF.lendBp p1 zt2
   refine cW (C:=fun w'=>∃ L',aF G e0 L' w') [(0,0),(1,0),(2,0),(3,0),(5,0),(7,0),(8,0),(9,0),(4,1),(6,1),(10,1),(11,0),(12,1),(13,1),(14,0)] Tryz_mixed (by kernel_rfl) (fun _ hg=>⟨_,aF.mono g3 hg⟩) (fun t4 p3=>?_)
   have a5:=aF.mono g3 p3
   refine bA rfl (fun _ _=>aW o9) (bA rfl (fun _ _=>aW (v:=zP (some ⟨b1,0,none⟩)) rfl) (bA rfl (fun _ _=>aV (t':=0) gT rfl rfl) (bA rfl (fun _ ⟨_,a5⟩=>bD (t:=0) dC a5 g2 rfl rfl) (bA rfl (fun _ _=>aW (v:=zP (some ⟨b1,0,none⟩)) rfl) (bA rfl (fun _ _=>aW (v:=zP (some ⟨b1,0,none⟩)) rfl) (bA rfl (fun _ _=>aV (t':=0) gT rfl rfl) (bA rfl (fun _ ⟨_,a5⟩=>bD (t:=0) dC a5 g2 rfl rfl) (jN rfl ?_))))))));obtain ⟨z,p4,hm⟩:=aB hm
   refine aR (vs:=[zP (some ⟨b1,0,none⟩),i64 (wr (1+b.1))]) call14 rfl (fH p4 a5 (x.mono a4)) ?_
   rintro _ t5 ⟨rfl,g4⟩
   refine aT (aC ⟨⟨_,g4⟩,?_⟩)
   refine jN rfl ?_;obtain ⟨J,p5,hm⟩:=aB hm
   refine aR (vs:=[zP (some ⟨b1,0,none⟩),i64 6]) call14 rfl (fH p5 g4 (x.mono a4)) ?_
   rintro _ t6 ⟨rfl,g5⟩
   refine aT (aC ⟨⟨_,g5⟩,?_⟩)
   refine jN rfl ?_;obtain ⟨q,p6,hm⟩:=aB hm
   refine aR (vs:=[zP (some ⟨b1,0,none⟩),i64 (wr (1+b.1))]) call14 rfl (fH p6 g5 (x.mono a4)) ?_
   rintro _ t7 ⟨rfl,g6⟩
   refine aT (aC ⟨⟨_,g6⟩,?_⟩)
   refine bA rfl (fun _ _=>iR (vs:=[(0,i64 z.1),(1,i64 J.1),(2,i64 q.1)]) (cs:=[i64 z.1,i64 J.1,i64 q.1]) aJC rfl (by kernel_rfl)) (jN rfl (cK (Kt:=K) (xs:=([⟨z.1,J.1,q.1⟩]:List Edge)) (cs:=[i64 z.1,i64 J.1,i64 q.1]) (vs:=[(0,zA #[i64 z.1,i64 J.1,i64 q.1])]) cS sM rfl rfl g6 rfl (by kernel_rfl) rfl rfl rfl ⟨rfl,trivial⟩ (fun p7 p8 (g7:aF G e0 (aL 70 K p7 1 ([⟨z.1,J.1,q.1⟩]:List Edge)::box b1 64 [zS a2 d.length c3,i64 q.2.1,Value.int .u64 q.2.2]::aL 70 K c6 c7 c5::aL 9 K a 6 ([([116,97,117]:aI),([97]:aI),([103,101,116,40,48,41]:aI),([103,101,116,40,49,41]:aI),([112,117,116,40,48,41]:aI),([112,117,116,40,49,41]:aI)]:List aI)::box e 35 c::L) p8)=>(aT (aC ⟨⟨_,g7⟩,?_⟩)))))
   refine jN rfl ?_;obtain ⟨g8,p9,hm⟩:=aB hm
   refine nE (i:=1) cS underlying33 sM rfl rfl g7 rfl a4 a4 p9 rfl rfl rfl rfl (fun _ h=>h) (fun g9 h0 q0 (h1:aF G e0 (box b1 64 [zS a2 d.length c3,i64 q.2.1,Value.int .u64 q.2.2]::aL 70 K g9 h0 g8::aL 9 K a 6 ([([116,97,117]:aI),([97]:aI),([103,101,116,40,48,41]:aI),([103,101,116,40,49,41]:aI),([112,117,116,40,48,41]:aI),([112,117,116,40,49,41]:aI)]:List aI)::box e 35 c::L) q0)=>(aT (aC ⟨⟨_,h1⟩,?_⟩)))
   refine bA rfl (fun _ _=>fW (v:=zS g9 g8.length h0) rfl) (oS ?_)
   have t8:=p2 _ _ h1
   exact aP
  ·exact aP
theorem vE {a:(List UInt8)} {b c n:Int} {R:(Bool × Int × Int)} (hm:tB a b c n=some R) (d:aF G K (box b1 64 [zS a2 a.length c3,i64 b,Value.int .u64 c]::L) w) (e:bG K a2 c3 a):
  Calls prog 16 ([zP (some ⟨b1,0,none⟩),i64 n]:List Value).toArray w (eZ fun v w'=>v=zB R.1/\aF G K (box b1 64 [zS a2 a.length c3,i64 R.2.1,Value.int .u64 R.2.2]::L) w'):=by
 exact aP
theorem aCy {b:(List UInt8)} {t u:Int} {d:Bool} {R:((List aI) × Int × Int)} (hm:rU b t u d=some R) (hs:aF G K (box b1 64 [zS a2 b.length c3,i64 t,Value.int .u64 u]::L) w) (J:bG K a2 c3 b):
  Calls prog 27 ([zP (some ⟨b1,0,none⟩),zB d]:List Value).toArray w (eZ fun v w'=>∃ V a0,v=zS V R.1.length a0/\aF G K (aL 9 K V a0 R.1::box b1 64 [zS a2 b.length c3,i64 R.2.1,Value.int .u64 R.2.2]::L) w'):=by
 let a1:=box b1 64 [zS a2 b.length c3,i64 t,Value.int .u64 u]
 refine aO func27 rfl (by kernel_rfl) (by show (2:Nat)<=38;decide) ?_;unfold rU at hm
 refine aK (aJ (v:=zS none 0 0) (aH (aK (cK (Kt:=K) (xs:=([([97]:aI),([98]:aI),([103,101,116]:aI),([109,111,118,101]:aI),([112,97,105,114]:aI),([112,117,116]:aI)]:List aI)) (cs:=[str ([97]:aI),str ([98]:aI),str ([103,101,116]:aI),str ([109,111,118,101]:aI),str ([112,97,105,114]:aI),str ([112,117,116]:aI)]) (vs:=[(0,str ([97]:aI)),(1,str ([98]:aI)),(2,str ([103,101,116]:aI)),(3,str ([109,111,118,101]:aI)),(4,str ([112,97,105,114]:aI)),(5,str ([112,117,116]:aI))]) eG aDQ rfl rfl hs rfl (by kernel_rfl) rfl rfl rfl ⟨rfl,rfl,rfl,rfl,rfl,rfl,trivial⟩ (fun c w6 (c1:aF G K (aL 9 K c 6 ([([97]:aI),([98]:aI),([103,101,116]:aI),([109,111,118,101]:aI),([112,97,105,114]:aI),([112,117,116]:aI)]:List aI)::a1::L) w6)=>(aJ (v:=zS c ([([97]:aI),([98]:aI),([103,101,116]:aI),([109,111,118,101]:aI),([112,97,105,114]:aI),([112,117,116]:aI)]:List aI).length 6) (aH (aK (cK (Kt:=K) (xs:=([]:List aI)) (cs:=[]) (vs:=[]) eG aDQ rfl rfl c1 rfl (by kernel_rfl) rfl rfl rfl trivial (fun a8 w9 (d3:aF G K (aL 9 K a8 0 ([]:List aI)::aL 9 K c 6 ([([97]:aI),([98]:aI),([103,101,116]:aI),([109,111,118,101]:aI),([112,97,105,114]:aI),([112,117,116]:aI)]:List aI)::a1::L) w9)=>(aJ (v:=zS a8 ([]:List aI).length 0) (aH (aM (aK (aJ (v:=i64 0) (aH (aQ [] (fun f w=>∃ x a4 a6 a7 a9,aEd x a4 a6=some R/\f 6=zS a7 x.length a9/\aF G K (aL 9 K a7 a9 x::box b1 64 [zS a2 b.length c3,i64 a4,Value.int .u64 a6]::L) w) aP ?_)))))))))))))))))
 obtain ⟨d4,c4,ho⟩:=aB hm
 refine vM [0,1,5] c4 (fun m n e k f w=>∃ h i,f 6=zS h e.length i/\f 7=i64 k/\aF G K (aL 9 K h i e::aL 9 K c 6 ([([97]:aI),([98]:aI),([103,101,116]:aI),([109,111,118,101]:aI),([112,97,105,114]:aI),([112,117,116]:aI)]:List aI)::box b1 64 [zS a2 b.length c3,i64 m,Value.int .u64 n]::L) w) aP ?_
 ·rintro m n e k b0 f b2 hm hr ⟨h,i,d5,b3,b4⟩
  unfold kC at hm
  refine aM (aK (bC b3 (aG (v:=zS c ([([97]:aI),([98]:aI),([103,101,116]:aI),([109,111,118,101]:aI),([112,97,105,114]:aI),([112,117,116]:aI)]:List aI).length 6) (aD (bH (len:=([([97]:aI),([98]:aI),([103,101,116]:aI),([109,111,118,101]:aI),([112,97,105,114]:aI),([112,117,116]:aI)]:List aI).length) eG rfl) (aD (cU rfl rfl) (aH ?_))))))
  rcases aN hm with ⟨b5,hm⟩|⟨b5,hm⟩
  ·refine aS b5 rfl (aY (aC (aM (aQ [0,1,5,7] (fun f w=>∃ y z o p q,qN k y z o=some b0/\f 6=zS p o.length q/\aF G K (aL 9 K p q o::aL 9 K c 6 ([([97]:aI),([98]:aI),([103,101,116]:aI),([109,111,118,101]:aI),([112,97,105,114]:aI),([112,117,116]:aI)]:List aI)::box b1 64 [zS a2 b.length c3,i64 y,Value.int .u64 z]::L) w) ?_ ?_))))
   ·rintro f d6 ⟨y,z,o,p,q,hm,c5,c6⟩
    unfold qN at hm
    exact aC (aU (bC b3 (aD (dT rfl rfl) (aJ (v:=i64 (wr (k+1))) (aH ⟨_,(Option.some.inj hm).symm,bL,p,q,c5,rfl,c6⟩)))))
   refine aM (cH [0,1,5,6,7] (fun f w=>∃ b6 b7 b8,nF e k b6 b7 b8=some b0/\f 29=zB b8/\aF G K (aL 9 K h i e::aL 9 K c 6 ([([97]:aI),([98]:aI),([103,101,116]:aI),([109,111,118,101]:aI),([112,97,105,114]:aI),([112,117,116]:aI)]:List aI)::box b1 64 [zS a2 b.length c3,i64 b6,Value.int .u64 b7]::L) w) aP (aU (aG (v:=zB d) (aG (v:=zB d) ?_))))
   rcases aN hm with ⟨a,hm⟩|⟨a,hm⟩
   ·refine eQ a rfl rfl (aG (v:=zP (some ⟨b1,0,none⟩)) (eQ a rfl rfl ?_))
    have c7:aF G K (box b1 64 [zS a2 b.length c3,i64 m,Value.int .u64 n]::aL 9 K h i e::aL 9 K c 6 ([([97]:aI),([98]:aI),([103,101,116]:aI),([109,111,118,101]:aI),([112,97,105,114]:aI),([112,117,116]:aI)]:List aI)::L) b2:=(aF.arr 3 [2,0,1] b4 rfl)
    obtain ⟨r,c8,hm⟩:=aB hm
    refine aR (vs:=[zP (some ⟨b1,0,none⟩),i64 4]) call14 rfl (fH c8 c7 J) ?_
    rintro _ d7 ⟨rfl,c9⟩
    refine eQ a rfl rfl (aD (aAa rfl rfl) (aD (gR (v:=zB (decide (0 < r.1))) a rfl rfl) (aG (v:=zB (decide (0 < r.1))) ?_)))
    rcases aN hm with ⟨j,hm⟩|⟨j,hm⟩
    ·exact aP
    ·exact kX j rfl rfl (aG (v:=zB d) (kX j rfl rfl (aD (aFA rfl) (kX j rfl rfl (aG (v:=zB (!d)) (dL (aKy a) rfl rfl (dL (aKy a) rfl rfl (kX j rfl rfl (aD (dO (v:=zB false) (aKy a) rfl rfl) (aD (dO (v:=zB false) j rfl rfl) (aH ⟨bL,r.2.1,r.2.2,false,hm,rfl,(aF.arr 3 [1,2,0] c9 rfl)⟩)))))))))))
   ·refine dL a rfl rfl (dL a rfl rfl (dL a rfl rfl (aD (dO (v:=zB false) a rfl rfl) (aG (v:=zB false) (kX (by decide:¬ false=true) rfl rfl (aG (v:=zB d) (kX (by decide:¬ false=true) rfl rfl (aD (aFA rfl) (kX (by decide:¬ false=true) rfl rfl (aG (v:=zB (!d)) (eQ (aIU a) rfl rfl (aG (v:=zP (some ⟨b1,0,none⟩)) (eQ (aIU a) rfl rfl ?_)))))))))))))
    have d0:aF G K (box b1 64 [zS a2 b.length c3,i64 m,Value.int .u64 n]::aL 9 K h i e::aL 9 K c 6 ([([97]:aI),([98]:aI),([103,101,116]:aI),([109,111,118,101]:aI),([112,97,105,114]:aI),([112,117,116]:aI)]:List aI)::L) b2:=(aF.arr 3 [2,0,1] b4 rfl)
    obtain ⟨l,d1,hm⟩:=aB hm
    refine aR (vs:=[zP (some ⟨b1,0,none⟩),i64 4]) call16 rfl (vE d1 d0 J) ?_
    rintro _ d8 ⟨rfl,d2⟩
    exact kX (by decide:¬ false=true) rfl rfl (aD (gR (v:=zB l.1) (aIU a) rfl rfl) (aD (dO (v:=zB l.1) (by decide:¬ false=true) rfl rfl) (aH ⟨bL,l.2.1,l.2.2,l.1,hm,rfl,(aF.arr 3 [1,2,0] d2 rfl)⟩)))
  ·exact aP
theorem aEO {b:(List UInt8)} {b8 b9:Int} {R:(aX × Int × Int)} (hm:aBO b b8 b9=some R) (hs:aF G K (box b1 64 [zS a2 b.length c3,i64 b8,Value.int .u64 b9]::L) w) (h4:bG K a2 c3 b):
  Calls prog 12 ([zP (some ⟨b1,0,none⟩)]:List Value).toArray w (eZ fun v w'=>∃ K' d2 d3 d4 d5 d6 d7 d8 d9,v=zA #[zS d2 R.1.Parts.length d3,zS d4 R.1.Meetings.length d5,zS d6 R.1.Allowed.length d7,zS d8 R.1.Hidden.length d9]/\Hp.le K K'/\aF G K' (aL 35 K' d2 d3 R.1.Parts::aL 67 K d4 d5 R.1.Meetings::aL 9 K d6 d7 R.1.Allowed::aL 9 K d8 d9 R.1.Hidden::box b1 64 [zS a2 b.length c3,i64 R.2.1,Value.int .u64 R.2.2]::L) w'):=by
 let c:=[zS none 0 0,zS none 0 0,zS none 0 0,zS none 0 0]
 let a3:=[zS a2 b.length c3,i64 b8,Value.int .u64 b9]
 let e0:=[str ([97]:aI),str ([97]:aI),str ([112,97,105,114]:aI)]
 refine aO func12 rfl (by kernel_rfl) (by show (1:Nat)<=45;decide) ?_;unfold aBO at hm
 refine aK (aZ (vs:=c) zeroValue28 hs rfl (fun d w6 f6=>(aH (aK (cK (Kt:=K) (xs:=([]:List bB)) (cs:=[]) (vs:=[]) rI aFC rfl rfl f6 rfl (by kernel_rfl) rfl rfl rfl trivial (fun p w9 (f8:aF G K (aL 35 K p 0 ([]:List bB)::box d 28 c::box b1 64 a3::L) w9)=>(aD (iR (vs:=[(0,zS p ([]:List bB).length 0)]) (cs:=[zS p ([]:List bB).length 0,zS none 0 0,zS none 0 0,zS none 0 0]) bs_28 rfl (by kernel_rfl)) (aZ (vs:=c) zeroValue28 f8 rfl (fun e k1 f9=>(bS (i:=0) (ns:=[zS p ([]:List bB).length 0,zS none 0 0,zS none 0 0,zS none 0 0]) (us:=[zS p ([]:List bB).length 0,zS none 0 0,zS none 0 0,zS none 0 0]) sizeOf28 f9 rfl rfl rfl rfl rfl (dQ rfl) rfl rfl (fun g0 (g1:aF G K (box e 28 [zS p ([]:List bB).length 0,zS none 0 0,zS none 0 0,zS none 0 0]::aL 35 K p 0 ([]:List bB)::box d 28 c::box b1 64 a3::L) g0)=>(aH (aM (aK (aG (v:=zP (some ⟨b1,0,none⟩)) (cK (Kt:=K) (xs:=([1,2,2,2,3,3,4]:List Int)) (cs:=[i64 1,i64 2,i64 2,i64 2,i64 3,i64 3,i64 4]) (vs:=[(0,i64 1),(1,i64 2),(2,i64 2),(3,i64 2),(4,i64 3),(5,i64 3),(6,i64 4)]) bJ zD rfl rfl g1 rfl (by kernel_rfl) rfl rfl rfl ⟨rfl,rfl,rfl,rfl,rfl,rfl,rfl,trivial⟩ (fun e1 e2 (g2:aF G K (aL 2 K e1 7 ([1,2,2,2,3,3,4]:List Int)::box e 28 [zS p ([]:List bB).length 0,zS none 0 0,zS none 0 0,zS none 0 0]::aL 35 K p 0 ([]:List bB)::box d 28 c::box b1 64 a3::L) e2)=>?_)))))))))))))))))
 obtain ⟨g3,g4,g5,g6,g7⟩:=aF.lendSp g2 (Hp.le_refl _) .head
 have g8:aF G g3 (box b1 64 a3::box e 28 [zS p ([]:List bB).length 0,zS none 0 0,zS none 0 0,zS none 0 0]::aL 35 K p 0 ([]:List bB)::box d 28 c::L) e2:=(aF.arr 4 [3,0,1,2] g6 rfl)
 obtain ⟨g9,h0,hm⟩:=aB hm
 refine aR (vs:=[zP (some ⟨b1,0,none⟩),zS e1 ([1,2,2,2,3,3,4]:List Int).length 7]) call26 rfl (aCx h0 g8 (h4.mono g4) g5) ?_
 rintro _ k2 ⟨rfl,h1⟩
 have h2:=g7 _ _ h1
 refine aJ (v:=i64 g9.1) (aH (aQ [0,2,3] (fun f w=>∃ j a4 a5 g k l,Hp.le K j/\aAx b a4 a5 g=some R/\aF G j (aL 35 j k l g::box b1 64 [zS a2 b.length c3,i64 a4,Value.int .u64 a5]::box e 28 [zS k g.length l,zS none 0 0,zS none 0 0,zS none 0 0]::box d 28 c::L) w) ?_ ?_))
 ·rintro f h3 ⟨j,a4,a5,g,k,l,e3,hm,h5⟩
  unfold aAx at hm
  refine aC (mB [0,2,3] (fun f w=>∃ c1 c2 a6 c4 c5,rW b g c1 c2 a6=some R/\aF G j (aL 67 K c4 c5 a6::aL 35 j k l g::box b1 64 [zS a2 b.length c3,i64 c1,Value.int .u64 c2]::box e 28 [zS k g.length l,zS c4 a6.length c5,zS none 0 0,zS none 0 0]::box d 28 c::L) w) ?_ ?_)
  ·rintro f k3 ⟨c1,c2,a6,c4,c5,hm,k4⟩
   unfold rW at hm
   refine mB [0,2,3] (fun f w=>∃ a7 a9 t y z,rV b g a7 a9 t=some R/\aF G j (aL 67 K y z t::aL 35 j k l g::box b1 64 [zS a2 b.length c3,i64 a7,Value.int .u64 a9]::box e 28 [zS k g.length l,zS y t.length z,zS none 0 0,zS none 0 0]::box d 28 c::L) w) ?_ ?_
   ·rintro f h6 ⟨a7,a9,t,y,z,hm,h7⟩
    unfold rV at hm
    refine aK (aG (v:=zP (some ⟨b1,0,none⟩)) ?_)
    have h8:aF G j (box b1 64 [zS a2 b.length c3,i64 a7,Value.int .u64 a9]::aL 67 K y z t::aL 35 j k l g::box e 28 [zS k g.length l,zS y t.length z,zS none 0 0,zS none 0 0]::box d 28 c::L) h6:=(aF.arr 3 [2,0,1] h7 rfl)
    obtain ⟨k5,h9,hm⟩:=aB hm
    exact aR (vs:=[zP (some ⟨b1,0,none⟩),zB true]) call27 rfl (aCy h9 h8 (h4.mono e3)) aP
   exact aP
  refine aK (aG (v:=zP (some ⟨b1,0,none⟩)) ?_)
  have i0:aF G j (box b1 64 [zS a2 b.length c3,i64 a4,Value.int .u64 a5]::aL 35 j k l g::box e 28 [zS k g.length l,zS none 0 0,zS none 0 0,zS none 0 0]::box d 28 c::L) h3:=(aF.arr 2 [1,0] h5 rfl)
  obtain ⟨b0,i1,hm⟩:=aB hm
  refine aR (vs:=[zP (some ⟨b1,0,none⟩),i64 4]) call16 rfl (vE i1 i0 (h4.mono e3)) ?_
  rintro _ k6 ⟨rfl,e4⟩
  refine aH ?_
  rcases aN hm with ⟨e5,hm⟩|⟨e5,hm⟩
  ·refine aS e5 rfl (aU (aD (aV (t':=1) aIs rfl rfl) (aD (cJ aMf e4 (i:=2) rfl rfl rfl) (aD (iR (vs:=[(0,str ([97]:aI)),(1,str ([97]:aI)),(2,str ([112,97,105,114]:aI))]) (cs:=e0) bs_67 rfl (by kernel_rfl)) (cK (Kt:=K) (xs:=([⟨([97]:aI),([97]:aI),([112,97,105,114]:aI)⟩]:List cF)) (cs:=e0) (vs:=[(0,zA #[str ([97]:aI),str ([97]:aI),str ([112,97,105,114]:aI)])]) aGc ez_67 rfl rfl e4 rfl (by kernel_rfl) rfl rfl rfl ⟨rfl,trivial⟩ (fun e6 e7 (i2:aF G j (aL 67 K e6 1 ([⟨([97]:aI),([97]:aI),([112,97,105,114]:aI)⟩]:List cF)::box b1 64 [zS a2 b.length c3,i64 b0.2.1,Value.int .u64 b0.2.2]::aL 35 j k l g::box e 28 [zS k g.length l,zS none 0 0,zS none 0 0,zS none 0 0]::box d 28 c::L) e7)=>?_))))))
   have i3:=aF.nil (α:=cF) i2 67 K
   obtain ⟨k7,k8,hm⟩:=aB hm
   have k9:aF G j (aL 67 K e6 1 ([⟨([97]:aI),([97]:aI),([112,97,105,114]:aI)⟩]:List cF)::aL 67 K none 0 ([]:List cF)::box b1 64 [zS a2 b.length c3,i64 b0.2.1,Value.int .u64 b0.2.2]::aL 35 j k l g::box e 28 [zS k g.length l,zS none 0 0,zS none 0 0,zS none 0 0]::box d 28 c::L) e7:=(aF.arr 2 [1,0] i3 rfl)
   exact aP
  ·exact aP
 obtain ⟨l0,i4,ho⟩:=aB hm
 refine vM [0,2,3] i4 (fun b2 b3 m c6 f w=>∃ q n o,Hp.le K q/\f 4=i64 c6/\aF G q (box b1 64 [zS a2 b.length c3,i64 b2,Value.int .u64 b3]::box e 28 [zS n m.length o,zS none 0 0,zS none 0 0,zS none 0 0]::aL 35 q n o m::box d 28 c::L) w) ?_ ?_
 ·exact ⟨K,p,0,(Hp.le_refl _),rfl,(aF.arr 1 [] h2 rfl)⟩
 ·rintro b2 b3 m c6 l1 f i5 hm hr ⟨q,n,o,b4,e8,i6⟩
  unfold vP at hm
  refine aM (aK (bC e8 (aD (aAa rfl rfl) (aH ?_))))
  rcases aN hm with ⟨e9,hm⟩|⟨e9,hm⟩
  ·refine aS e9 rfl (aY (aC (aM (cV ?_))))
   have f0:aF G q (box e 28 [zS n m.length o,zS none 0 0,zS none 0 0,zS none 0 0]::box b1 64 [zS a2 b.length c3,i64 b2,Value.int .u64 b3]::aL 35 q n o m::box d 28 c::L) i5:=(aF.arr 2 [1,0] i6 rfl)
   refine cW (C:=fun w'=>∃ L',aF G q (box e 28 [zS n m.length o,zS none 0 0,zS none 0 0,zS none 0 0]::L') w') [(0,0),(1,0),(2,0),(3,1),(4,1),(5,1),(6,0),(7,2)] Tryz_mixed (by kernel_rfl) (fun _ hg=>⟨_,aF.mono f0 hg⟩) (fun i7 i8=>?_)
   have c7:=aF.mono f0 i8
   refine bA rfl (fun _ _=>aV (t':=0) mS rfl rfl) (bA rfl (fun _ ⟨_,c7⟩=>cJ aBH c7 (i:=0) rfl rfl rfl) (bA rfl (fun _ _=>aW (v:=zP (some ⟨b1,0,none⟩)) rfl) (jN rfl ?_)))
   have i9:aF G q (box b1 64 [zS a2 b.length c3,i64 b2,Value.int .u64 b3]::box e 28 [zS n m.length o,zS none 0 0,zS none 0 0,zS none 0 0]::aL 35 q n o m::box d 28 c::L) i7:=(aF.arr 2 [1,0] c7 rfl)
   obtain ⟨a,j0,hm⟩:=aB hm
   refine aR (vs:=[zP (some ⟨b1,0,none⟩)]) call13 rfl (uT j0 i9 (h4.mono b4)) ?_
   rintro _ f1 ⟨c8,c9,b6,b7,rfl,f2⟩
   refine aT (aC ⟨⟨_,(aF.arr 4 [3,0,1,2] f2 rfl)⟩,?_⟩)
   refine jN rfl ?_;obtain ⟨j1,J,j2,d0⟩:=aF.giveSp f2 b4 .head
   replace d0:aF G j1 (aL 70 K b6 b7 a.1.E::box b1 64 [zS a2 b.length c3,i64 a.2.1,Value.int .u64 a.2.2]::box e 28 [zS n m.length o,zS none 0 0,zS none 0 0,zS none 0 0]::aL 35 q n o m::box d 28 c::L) f1:=d0
   obtain ⟨r,V,j3,d1⟩:=aF.giveSp d0 (zL b4 J) .head
   replace d1:aF G r (box b1 64 [zS a2 b.length c3,i64 a.2.1,Value.int .u64 a.2.2]::box e 28 [zS n m.length o,zS none 0 0,zS none 0 0,zS none 0 0]::aL 35 q n o m::box d 28 c::L) f1:=d1
   refine cK (Kt:=r) (xs:=([⟨a.1.N,a.1.I,a.1.L,a.1.E⟩]:List bB)) (cs:=(zC a.1 c8 c9 b6 b7)) (vs:=[(0,zA (zCa a.1 c8 c9 b6 b7))]) rI aFC rfl rfl d1 rfl (by kernel_rfl) rfl rfl rfl ⟨⟨c8,c9,b6,b7,rfl,(j2.mono V),j3⟩,trivial⟩ (fun j4 j5 (f3:aF G r (aL 35 r j4 1 ([⟨a.1.N,a.1.I,a.1.L,a.1.E⟩]:List bB)::box b1 64 [zS a2 b.length c3,i64 a.2.1,Value.int .u64 a.2.2]::box e 28 [zS n m.length o,zS none 0 0,zS none 0 0,zS none 0 0]::aL 35 q n o m::box d 28 c::L) j5)=>(aT (aC ⟨⟨_,(aF.weakK (aF.arr 3 [2,0,1] f3 rfl) (zL J V))⟩,?_⟩)))
   refine jN rfl ?_;obtain ⟨a0,j6,hm⟩:=aB hm
   refine aFe (i:=2) r rI underlying24 aFC rfl rfl f3 rfl (zL J V) (Hp.le_refl _) j6 rfl rfl rfl rfl (fun _ _ _ h=>El.one h) (fun u x j7 (f4:aF G r (box b1 64 [zS a2 b.length c3,i64 a.2.1,Value.int .u64 a.2.2]::box e 28 [zS n m.length o,zS none 0 0,zS none 0 0,zS none 0 0]::aL 35 r u x a0::box d 28 c::L) j7)=>(aT (aC ⟨⟨_,(aF.weakK (aF.arr 2 [1,0] f4 rfl) (zL J V))⟩,?_⟩)))
   exact bA rfl (fun _ _=>aV (t':=0) mS rfl rfl) (WE_s rfl (bS (i:=1) (ns:=[zS u a0.length x]) (us:=[zS u a0.length x,zS none 0 0,zS none 0 0,zS none 0 0]) sizeOf24 f4 rfl rfl rfl rfl rfl (dQ rfl) rfl rfl (fun j8 (j9:aF G r (box b1 64 [zS a2 b.length c3,i64 a.2.1,Value.int .u64 a.2.2]::box e 28 [zS u a0.length x,zS none 0 0,zS none 0 0,zS none 0 0]::aL 35 r u x a0::box d 28 c::L) j8)=>(aH (oS (dB (aC (aU (bC e8 (aD (uW rfl rfl) (aJ (v:=i64 (wr (c6 - 1))) (aH ⟨_,(Option.some.inj hm).symm,bL,r,u,x,(zL (zL b4 J) V),rfl,j9⟩))))))))))))
  ·exact aP
end Gv
