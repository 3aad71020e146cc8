/- Walks, printed by program. -/
import Derived.Test.YtlechllgdgniaaaGreatDoorJLW
set_option linter.all false
namespace Gv
open Gv.Hp renaming le_refl→zR
open Go.Value renaming slice→zS,bool→zB,tuple→zT
open Go Go.Proofs Go.Proofs.Tryz
set_option maxRecDepth 20000
set_option maxHeartbeats 40000000
variable {G:pJ} {K:Hp} {L:List hQ} {w:World} {a1 a4 a7 a10 a13:Option Addr} {c2 c5 c8 c11 c14:Nat}
theorem gA {n low a:Int} {R:Bool} (hm:jM n low a=some R) (c:aN G K (L) w):
  Calls prog 81 ([i64 n,i64 low,i64 a]:List Value).toArray w (eR fun v w'=>v=zB R/\aN G K (L) w'):=by
 refine aQ func81 rfl (by kernel_rfl) (by show (3:Nat)<=15;decide) ?_;unfold jM at hm
 exact aL (aD (v:=zB false) (aG (aO (cW [] (fun f w=>∃ b,aET b=some R/\f 6=zB b/\aN G K (L) w) cA cA))))
theorem aHK {n:Int} {R:Bool} (hm:aBp n=some R) (a:aN G K (L) w):
  Calls prog 168 ([i64 n]:List Value).toArray w (eR fun v w'=>v=zB R/\aN G K (L) w'):=by
 exact cA
theorem aIw {n:Int} {R:Bool} (hm:aAf n=some R) (a:aN G K (L) w):
  Calls prog 167 ([i64 n]:List Value).toArray w (eR fun v w'=>v=zB R/\aN G K (L) w'):=by
 exact cA
theorem uJ {s_:(List Int)} {R:Int} (hm:iJ s_=some R) (m:aN G K (L) w) (b:cE K a1 c2 s_):
  Calls prog 200 ([zS a1 s_.length c2,Value.func (.func 167) #[] #[]]:List Value).toArray w (eR fun v w'=>v=i64 R/\aN G K (L) w'):=by
 refine aQ func200 rfl (by kernel_rfl) (by show (2:Nat)<=19;decide) ?_;unfold iJ at hm
 refine aL (aD (v:=i64 0) (aG (aO (aL (aI (v:=zS a1 s_.length c2) (aA (bQ (len:=s_.length) gF rfl) (aI (v:=i64 0) (aG (bR [] (fun f w=>gV=some R/\aN G K (L) w) cA ?_)))))))));obtain ⟨n,i,ho⟩:=aC hm
 refine dS [0,1,7] i (fun a f w=>f 8=i64 a/\aN G K (L) w) cA ?_
 ·rintro a o f p hm hr ⟨c,d⟩
  unfold fQ at hm
  refine aL (aA (cM c rfl) (aG (aO ?_)))
  rcases aH hm with ⟨e,hm⟩|⟨e,hm⟩
  ·refine aM e rfl (aW (aB (aO (bZ (aL (bG c (aD (v:=i64 a) (aG (aL (aI (v:=Value.func (.func 167) #[] #[]) (aI (v:=zS a1 s_.length c2) (aI (v:=i64 a) ?_))))))))))));obtain ⟨g,h,hm⟩:=aC hm
   refine aA (cQ gF rfl b rfl rfl rfl h) ?_;obtain ⟨q,j,k⟩:=cE.el (sz:=1) rfl b h
   cases k
   refine aA (bX (t:=0) dC d j rfl rfl) ?_;obtain ⟨r,l,hm⟩:=aC hm
   exact rQ (vs:=[i64 g]) (caps:=[]) (us:=[i64 g]) rfl call167 rfl rfl (aIw l d) cA
  ·exact cA
theorem sD {s_:(List Int)} {R:Bool} (hm:gW s_=some R) (a:aN G K (L) w) (b:cE K a1 c2 s_):
  Calls prog 166 ([zS a1 s_.length c2,Value.func (.func 167) #[] #[]]:List Value).toArray w (eR fun v w'=>v=zB R/\aN G K (L) w'):=by
 exact cA
theorem aFP {a:(List Int)} {R:Bool} (hm:yS a=some R) (b:aN G K (L) w) (c:cE K a1 c2 a):
  Calls prog 122 ([zS a1 a.length c2]:List Value).toArray w (eR fun v w'=>v=zB R/\aN G K (L) w'):=by
 exact cA
theorem aMN {c:UInt8} {R:Bool} (hm:aIg c=some R) (b:aN G K (L) w):
  Calls prog 161 ([Value.int .u8 (c.toNat:Int)]:List Value).toArray w (eR fun v w'=>v=zB R/\aN G K (L) w'):=by
 refine aQ func161 rfl (by kernel_rfl) (by show (1:Nat)<=9;decide) ?_;unfold aIg at hm
 exact aL (aD (v:=zB false) (aG (aO (cW [] (fun f w=>∃ a,aDe a=some R/\f 2=zB a/\aN G K (L) w) cA cA))))
theorem aIQ {s_:bK} {R:Bool} (hm:aFB s_=some R) (j:aN G K (L) w):
  Calls prog 117 ([str s_]:List Value).toArray w (eR fun v w'=>v=zB R/\aN G K (L) w'):=by
 refine aQ func117 rfl (by kernel_rfl) (by show (1:Nat)<=42;decide) ?_;unfold aFB at hm
 refine aL (aD (v:=zB false) (aG (aO (aL (aI (v:=str s_) (aA (gS runUnderlying9 rfl) (aI (v:=i64 0) (aG (bR [0] (fun f w=>aCs s_=some R/\aN G K (L) w) ?_ ?_)))))))))
 ·rintro f k ⟨hm,l⟩
  unfold aCs at hm
  exact aB (aO (cW [] (fun f w=>∃ c,aEU c=some R/\f 2=zB c/\aN G K (L) w) cA cA))
 obtain ⟨m,i,ho⟩:=aC hm
 refine dS [0,6] i (fun a f w=>f 7=i64 a/\aN G K (L) w) cA ?_
 ·rintro a d f n hm hr ⟨e,o⟩
  unfold yU at hm
  refine aL (aA (cM e rfl) (aG (aO ?_)))
  rcases aH hm with ⟨g,hm⟩|⟨g,hm⟩
  ·refine aM g rfl (aW (aB (aO (bZ (aL (bG e (aD (v:=i64 a) (aG (aO (cW [0,3,6,7] (fun f w=>∃ b,rA s_ a b=some d/\f 4=zB b/\aN G K (L) w) ?_ ?_))))))))))
   ·rintro f p ⟨b,hm,q,r⟩
    unfold rA at hm
    exact aB (aO (cW [0,6,7] (fun f w=>∃ h,yT a h=some d/\f 32=zB h/\aN G K (L) w) cA cA))
   exact cA
  ·exact cA
theorem oF {s_:bK} {R:Bool} (hm:pD s_=some R) (b:aN G K (L) w):
  Calls prog 123 ([str s_]:List Value).toArray w (eR fun v w'=>v=zB R/\aN G K (L) w'):=by
 refine aQ func123 rfl (by kernel_rfl) (by show (1:Nat)<=9;decide) ?_;unfold pD at hm
 exact aL (aD (v:=zB false) (aG (aO (cW [] (fun f w=>∃ a,wC a=some R/\f 2=zB a/\aN G K (L) w) cA cA))))
theorem aIR {c:(List Int)} {j R:bK} (hm:aEc c j=some R) (V:aN G K (L) w) (hG:G.lo=0) (p:cE K a1 c2 c):
  Calls prog 180 ([zS a1 c.length c2,str j]:List Value).toArray w (eR fun v w'=>v=str R/\aN G K (L) w'):=by
 refine aQ func180 rfl (by kernel_rfl) (by show (2:Nat)<=27;decide) ?_;unfold aEc at hm
 refine aL (aD (v:=str ([]:bK)) (aG (aL (aI (v:=zS a1 c.length c2) (aA (bQ (len:=c.length) gF rfl) ?_)))));obtain ⟨a,Z,hm⟩:=aC hm
 refine aMA (e:=([]:bK)) dL aCp rfl rfl V rfl rfl rfl Z rfl (fun b w7 (b2:aN G K (bB 9 K b a.length a::L) w7)=>(aD (v:=zS b a.length a.length) (aG (aO (aL (aI (v:=zS a1 c.length c2) (aA (bQ (len:=c.length) gF rfl) (aI (v:=i64 0) (aG (bR [1] (fun f w=>∃ k,aCt j k=some R/\f 5=zS b k.length a.length/\aN G K (bB 9 K b a.length k::L) w) cA ?_))))))))));obtain ⟨b3,a2,ho⟩:=aC hm
 refine dN [1,11,12] a2 (fun l d f w=>f 5=zS b l.length a.length/\f 13=i64 d/\aN G K (bB 9 K b a.length l::L) w) cA ?_
 ·rintro l d b4 f b5 hm hr ⟨q,g,r⟩
  unfold aCu at hm
  refine aL (aA (cM g rfl) (aG (aO ?_)))
  rcases aH hm with ⟨u,hm⟩|⟨u,hm⟩
  ·refine aM u rfl (aW (aB (aO (bZ (aL (bG g ?_))))));obtain ⟨m,x,hm⟩:=aC hm
   refine aA (cQ gF rfl p rfl rfl g x) ?_;obtain ⟨b6,a3,a4⟩:=cE.el (sz:=1) rfl p x
   cases a4
   refine aA (bX (t:=0) dC r a3 rfl rfl) (aD (v:=i64 d) (aD (v:=i64 m) (aG (aV (bG q (aI (v:=i64 d) (aI (v:=i64 m) ?_)))))));obtain ⟨y,a5,hm⟩:=aC hm
   refine aT (vs:=[i64 m]) call93 rfl (aHI r a5) ?_
   rintro _ b7 ⟨rfl,z⟩
   obtain ⟨b8,o,hm⟩:=aC hm
   have a7:=fC z (i:=0) rfl o
   refine aA (gE dL rfl a7 rfl rfl rfl o) ?_;obtain ⟨a8,J,hm⟩:=aC hm
   exact mU (i:=0) (t:=0) (ns:=[str y]) (e':=(y:bK)) sizeOf9 z rfl (Hp.le_refl _) rfl rfl rfl o J rfl rfl (dU rfl) rfl (fun cs h=>by cases h;rfl) (fun a9 (b0:aN G K (bB 9 K b a.length a8::L) a9)=>(cC (bM (aB (aV (aA (cD g rfl) (aI (v:=i64 (wr (d+1))) (aG ⟨_,(Option.some.inj hm).symm,aU,(Eq.trans q (congrArg (fun n=>zS b n a.length) (cH J))),rfl,b0⟩))))))))
  ·exact cA
theorem aHL {a:bK} {b:(List Int)} {R:(bK × Bool)} (hm:aBq a b=some R) (e:aN G K (L) w) (g:G.lo=0) (h:cE K a1 c2 b):
  Calls prog 138 ([str a,zS a1 b.length c2]:List Value).toArray w (eR fun v w'=>v=zT #[str R.1,zB R.2]/\aN G K (L) w'):=by
 refine aQ func138 rfl (by kernel_rfl) (by show (2:Nat)<=37;decide) ?_;unfold aBq at hm
 refine aL (aD (v:=str ([]:bK)) (aD (v:=zB false) (aG (aO (bZ (aL (aI (v:=str a) (aA (lR rfl rfl) (aD (v:=zB (a == ([116,97,117]:bK))) (aG ?_))))))))))
 rcases aH hm with ⟨c,hm⟩|⟨c,hm⟩
 ·exact cA
 ·exact aJ c rfl (aO (cW [0,1] (fun f w=>∃ d,uT a b d=some R/\f 12=zB d/\aN G K (L) w) cA cA))
theorem aJg {a:(List bK)} {R:((List Int) × Bool)} (hm:wD a=some R) (k:aN G K (L) w) (n:G.lo=0) (o:cE K a1 c2 a):
  Calls prog 223 ([zS a1 a.length c2]:List Value).toArray w (eR fun v w'=>∃ c d,v=zT #[zS c R.1.length d,zB R.2]/\aN G K (bB 2 K c d R.1::L) w'):=by
 refine aQ func223 rfl (by kernel_rfl) (by show (1:Nat)<=28;decide) ?_;unfold wD at hm
 refine aL (aD (v:=zS none 0 0) (aD (v:=zB false) (aG (aL (aD (v:=zS none 0 0) (aG (aO (aL (aI (v:=zS a1 a.length c2) (aA (bQ (len:=a.length) dL rfl) (aI (v:=i64 0) (aG (bR [] (fun f w=>∃ b e g,uU b=some R/\f 4=zS e b.length g/\aN G K (bB 2 K e g b::L) w) cA ?_)))))))))))))
 have p:=aN.nil (α:=Int) k 2 K
 obtain ⟨q,l,ho⟩:=aC hm
 exact dN [9,10] l (fun h m f w=>∃ i j,f 4=zS i h.length j/\f 11=i64 m/\aN G K (bB 2 K i j h::L) w) cA cA
theorem vO {s_ a:bK} {R:Bool} (hm:iO s_ a=some R) (c:aN G K (L) w):
  Calls prog 279 ([str s_,str a]:List Value).toArray w (eR fun v w'=>v=zB R/\aN G K (L) w'):=by
 refine aQ func279 rfl (by kernel_rfl) (by show (2:Nat)<=21;decide) ?_;unfold iO at hm
 exact aL (aD (v:=zB false) (aG (aO (cW [] (fun f w=>∃ b,fZ b=some R/\f 4=zB b/\aN G K (L) w) cA cA))))
theorem uK {s_ a R:bK} (hm:iK s_ a=some R) (b:aN G K (L) w):
  Calls prog 262 ([str s_,str a]:List Value).toArray w (eR fun v w'=>v=str R/\aN G K (L) w'):=by
 exact cA
theorem aEL {s_ a R:bK} (hm:lW s_ a=some R) (b:aN G K (L) w):
  Calls prog 225 ([str s_,str a]:List Value).toArray w (eR fun v w'=>v=str R/\aN G K (L) w'):=by
 exact cA
theorem aKE {s_:bK} {R:(bK × (List Int) × Bool)} (hm:aEV s_=some R) (j:aN G K (L) w) (k:G.lo=0):
  Calls prog 177 ([str s_]:List Value).toArray w (eR fun v w'=>∃ g h,v=zT #[str R.1,zS g R.2.1.length h,zB R.2.2]/\aN G K (bB 2 K g h R.2.1::L) w'):=by
 refine aQ func177 rfl (by kernel_rfl) (by show (1:Nat)<=43;decide) ?_;unfold aEV at hm
 refine aL (aD (v:=str ([]:bK)) (aD (v:=zS none 0 0) (aD (v:=zB false) (aG (aL (aI (v:=str s_) ?_))))));obtain ⟨a,l,hm⟩:=aC hm
 refine aT (vs:=[str s_,str ([40]:bK)]) call222 rfl (lib_Cut j l) ?_
 rintro _ u ⟨rfl,x⟩
 refine aI (v:=zT #[str a.1,str a.2.1,zB a.2.2]) (aA (dF rfl rfl) (aA (dF rfl rfl) (aA (dF rfl rfl) (aD (v:=str a.1) (aD (v:=str a.2.1) (aD (v:=zB a.2.2) (aG (aL (aD (v:=zS none 0 0) (aG (aAa [0,5] (fun f w=>∃ b c d,pT s_ a b=some R/\f 8=zS c b.length d/\aN G K (bB 2 K c d b::L) w) ?_ ?_)))))))))))
 ·rintro f y ⟨b,c,d,hm,m,n⟩
  unfold pT at hm
  refine aO (aL (aI (v:=str a.1) (bG m ?_)));obtain ⟨z,J,o,p,q⟩:=aN.lendSp n (Hp.le_refl _) .head
  obtain ⟨e,r,hm⟩:=aC hm
  refine aT (vs:=[str a.1,zS c b.length d]) call138 rfl (aHL r p k o) ?_
  rintro _ V ⟨rfl,t⟩
  have Z:=q _ _ t
  exact aI (v:=zT #[str e.1,zB e.2]) (aA (dF rfl rfl) (aA (dF rfl rfl) (aD (v:=str e.1) (aD (v:=zB e.2) (aG (aO (cW [5,8] (fun f w=>∃ i,pS a b i=some R/\f 40=zB i/\aN G K (bB 2 K c d b::L) w) cA cA)))))))
 exact cA
theorem aMO {s_:bK} {R:Bool} (hm:aFC s_=some R) (a:aN G K (L) w) (b:G.lo=0):
  Calls prog 135 ([str s_]:List Value).toArray w (eR fun v w'=>v=zB R/\aN G K (L) w'):=by
 exact cA
theorem aMP {a:(List bP)} {left R:Int} (hm:aDG a left=some R) (b:aN G K (L) w) (c:cE K a1 c2 a):
  Calls prog 185 ([zS a1 a.length c2,i64 left]:List Value).toArray w (eR fun v w'=>v=i64 R/\aN G K (L) w'):=by
 exact cA
theorem aLF {a:(List (List bP))} {left R:Int} (hm:aGp a left=some R) (h:aN G K (L) w) (i:cE K a1 c2 a):
  Calls prog 146 ([zS a1 a.length c2,i64 left]:List Value).toArray w (eR fun v w'=>v=i64 R/\aN G K (L) w'):=by
 refine aQ func146 rfl (by kernel_rfl) (by show (2:Nat)<=27;decide) ?_;unfold aGp at hm
 refine aL (aD (v:=i64 0) (aG (aL (aI (v:=i64 left) (aI (v:=zS a1 a.length c2) (aA (bQ (len:=a.length) aKB rfl) (aA (fY rfl rfl) (aD (v:=i64 (wr (left - (a.length:Int)))) (aG (aO (aL (aI (v:=i64 (wr (left - (a.length:Int)))) (aA (cM rfl rfl) (aG ?_))))))))))))))
 rcases aH hm with ⟨b,hm⟩|⟨b,hm⟩
 ·exact cA
 ·refine aJ b rfl (aW (aB (aO (aL (aD (v:=i64 0) (aG (bR [] (fun f w=>∃ c,aBR c=some R/\f 1=i64 c/\aN G K (L) w) cA ?_)))))));obtain ⟨j,d,ho⟩:=aC hm
  exact dN [0] d (fun e g f w=>f 1=i64 e/\f 5=i64 g/\aN G K (L) w) cA cA
theorem aNT {a:Part} {left R:Int} (hm:aFD a left=some R) (b:aN G K (L) w) (c:cE K a1 c2 a.Arguments):
  Calls prog 100 ([Value.agg #[i64 a.Kind,i64 a.Number,str a.Name,zS a1 a.Arguments.length c2],i64 left]:List Value).toArray w (eR fun v w'=>v=i64 R/\aN G K (L) w'):=by
 exact cA
theorem aMQ {a:(List Part)} {left R:Int} (hm:aIh a left=some R) (h:aN G K (L) w) (i:cE K a1 c2 a):
  Calls prog 65 ([zS a1 a.length c2,i64 left]:List Value).toArray w (eR fun v w'=>v=i64 R/\aN G K (L) w'):=by
 refine aQ func65 rfl (by kernel_rfl) (by show (2:Nat)<=27;decide) ?_;unfold aIh at hm
 refine aL (aD (v:=i64 0) (aG (aL (aI (v:=i64 left) (aI (v:=zS a1 a.length c2) (aA (bQ (len:=a.length) aOQ rfl) (aA (fY rfl rfl) (aD (v:=i64 (wr (left - (a.length:Int)))) (aG (aO (aL (aI (v:=i64 (wr (left - (a.length:Int)))) (aA (cM rfl rfl) (aG ?_))))))))))))))
 rcases aH hm with ⟨b,hm⟩|⟨b,hm⟩
 ·exact cA
 ·refine aJ b rfl (aW (aB (aO (aL (aD (v:=i64 0) (aG (bR [] (fun f w=>∃ c,aDf c=some R/\f 1=i64 c/\aN G K (L) w) cA ?_)))))));obtain ⟨j,d,ho⟩:=aC hm
  exact dN [0] d (fun e g f w=>f 1=i64 e/\f 5=i64 g/\aN G K (L) w) cA cA
theorem aIx {a:Definition} {left R:Int} (hm:pU a left=some R) (b:aN G K (L) w) (c:cE K a1 c2 a.Body):
  Calls prog 39 ([Value.agg #[str a.Name,i64 a.Parameters,zS a1 a.Body.length c2],i64 left]:List Value).toArray w (eR fun v w'=>v=i64 R/\aN G K (L) w'):=by
 exact cA
theorem aHM {a:(List Definition)} {left R:Int} (hm:xN a left=some R) (h:aN G K (L) w) (i:cE K a1 c2 a):
  Calls prog 13 ([zS a1 a.length c2,i64 left]:List Value).toArray w (eR fun v w'=>v=i64 R/\aN G K (L) w'):=by
 refine aQ func13 rfl (by kernel_rfl) (by show (2:Nat)<=27;decide) ?_;unfold xN at hm
 refine aL (aD (v:=i64 0) (aG (aL (aI (v:=i64 left) (aI (v:=zS a1 a.length c2) (aA (bQ (len:=a.length) aOR rfl) (aA (fY rfl rfl) (aD (v:=i64 (wr (left - (a.length:Int)))) (aG (aO (aL (aI (v:=i64 (wr (left - (a.length:Int)))) (aA (cM rfl rfl) (aG ?_))))))))))))))
 rcases aH hm with ⟨b,hm⟩|⟨b,hm⟩
 ·exact cA
 ·refine aJ b rfl (aW (aB (aO (aL (aD (v:=i64 0) (aG (bR [] (fun f w=>∃ c,rE c=some R/\f 1=i64 c/\aN G K (L) w) cA ?_)))))));obtain ⟨j,d,ho⟩:=aC hm
  exact dN [0] d (fun e g f w=>f 1=i64 e/\f 5=i64 g/\aN G K (L) w) cA cA
theorem aLG {a:(List Int)} {left R:Int} (hm:aGq a left=some R) (b:aN G K (L) w) (c:cE K a1 c2 a):
  Calls prog 66 ([zS a1 a.length c2,i64 left]:List Value).toArray w (eR fun v w'=>v=i64 R/\aN G K (L) w'):=by
 exact cA
theorem aJh {a:bL} {left R:Int} (hm:sF a left=some R) (b:aN G K (L) w) (c:cE K a1 c2 a.Values):
  Calls prog 40 ([Value.agg #[i64 a.Definition,zS a1 a.Values.length c2],i64 left]:List Value).toArray w (eR fun v w'=>v=i64 R/\aN G K (L) w'):=by
 exact cA
theorem aIy {a:(List bL)} {left R:Int} (hm:aAh a left=some R) (h:aN G K (L) w) (i:cE K a1 c2 a):
  Calls prog 14 ([zS a1 a.length c2,i64 left]:List Value).toArray w (eR fun v w'=>v=i64 R/\aN G K (L) w'):=by
 refine aQ func14 rfl (by kernel_rfl) (by show (2:Nat)<=27;decide) ?_;unfold aAh at hm
 refine aL (aD (v:=i64 0) (aG (aL (aI (v:=i64 left) (aI (v:=zS a1 a.length c2) (aA (bQ (len:=a.length) aOS rfl) (aA (fY rfl rfl) (aD (v:=i64 (wr (left - (a.length:Int)))) (aG (aO (aL (aI (v:=i64 (wr (left - (a.length:Int)))) (aA (cM rfl rfl) (aG ?_))))))))))))))
 rcases aH hm with ⟨b,hm⟩|⟨b,hm⟩
 ·exact cA
 ·refine aJ b rfl (aW (aB (aO (aL (aD (v:=i64 0) (aG (bR [] (fun f w=>∃ c,sU c=some R/\f 1=i64 c/\aN G K (L) w) cA ?_)))))));obtain ⟨j,d,ho⟩:=aC hm
  exact dN [0] d (fun e g f w=>f 1=i64 e/\f 5=i64 g/\aN G K (L) w) cA cA
theorem aKF {a:bV} {left R:Int} (hm:yV a left=some R) (b:aN G K (L) w):
  Calls prog 41 ([Value.agg #[str a.Left,str a.Right,str a.Result],i64 left]:List Value).toArray w (eR fun v w'=>v=i64 R/\aN G K (L) w'):=by
 exact cA
theorem aJR {a:(List bV)} {left R:Int} (hm:aDg a left=some R) (h:aN G K (L) w) (i:cE K a1 c2 a):
  Calls prog 15 ([zS a1 a.length c2,i64 left]:List Value).toArray w (eR fun v w'=>v=i64 R/\aN G K (L) w'):=by
 refine aQ func15 rfl (by kernel_rfl) (by show (2:Nat)<=27;decide) ?_;unfold aDg at hm
 refine aL (aD (v:=i64 0) (aG (aL (aI (v:=i64 left) (aI (v:=zS a1 a.length c2) (aA (bQ (len:=a.length) aOT rfl) (aA (fY rfl rfl) (aD (v:=i64 (wr (left - (a.length:Int)))) (aG (aO (aL (aI (v:=i64 (wr (left - (a.length:Int)))) (aA (cM rfl rfl) (aG ?_))))))))))))))
 rcases aH hm with ⟨b,hm⟩|⟨b,hm⟩
 ·exact cA
 ·refine aJ b rfl (aW (aB (aO (aL (aD (v:=i64 0) (aG (bR [] (fun f w=>∃ c,xO c=some R/\f 1=i64 c/\aN G K (L) w) cA ?_)))))));obtain ⟨j,d,ho⟩:=aC hm
  exact dN [0] d (fun e g f w=>f 1=i64 e/\f 5=i64 g/\aN G K (L) w) cA cA
theorem aFQ {a:(List bK)} {left R:Int} (hm:aCv a left=some R) (h:aN G K (L) w) (i:cE K a1 c2 a):
  Calls prog 16 ([zS a1 a.length c2,i64 left]:List Value).toArray w (eR fun v w'=>v=i64 R/\aN G K (L) w'):=by
 refine aQ func16 rfl (by kernel_rfl) (by show (2:Nat)<=28;decide) ?_;unfold aCv at hm
 refine aL (aD (v:=i64 0) (aG (aL (aI (v:=i64 left) (aI (v:=zS a1 a.length c2) (aA (bQ (len:=a.length) dL rfl) (aA (fY rfl rfl) (aD (v:=i64 (wr (left - (a.length:Int)))) (aG (aO (aL (aI (v:=i64 (wr (left - (a.length:Int)))) (aA (cM rfl rfl) (aG ?_))))))))))))))
 rcases aH hm with ⟨b,hm⟩|⟨b,hm⟩
 ·exact cA
 ·refine aJ b rfl (aW (aB (aO (aL (aD (v:=i64 0) (aG (bR [] (fun f w=>∃ c,aAi c=some R/\f 1=i64 c/\aN G K (L) w) cA ?_)))))));obtain ⟨j,d,ho⟩:=aC hm
  exact dN [0] d (fun e g f w=>f 1=i64 e/\f 5=i64 g/\aN G K (L) w) cA cA
theorem aLH {a:cP} {left R:Int} (hm:aEd a left=some R) (b:aN G K (L) w) (c:cE K a1 c2 a.Definitions) (d:cE K a4 c5 a.Components) (e:cE K a7 c8 a.Meetings) (g:cE K a10 c11 a.Allowed) (h:cE K a13 c14 a.Hidden):
  Calls prog 4 ([Value.agg #[zS a1 a.Definitions.length c2,zS a4 a.Components.length c5,zS a7 a.Meetings.length c8,zS a10 a.Allowed.length c11,zS a13 a.Hidden.length c14],i64 left]:List Value).toArray w (eR fun v w'=>v=i64 R/\aN G K (L) w'):=by
 exact cA
theorem aGR {c:UInt8} {R:Bool} (hm:aEe c=some R) (b:aN G K (L) w):
  Calls prog 147 ([Value.int .u8 (c.toNat:Int)]:List Value).toArray w (eR fun v w'=>v=zB R/\aN G K (L) w'):=by
 refine aQ func147 rfl (by kernel_rfl) (by show (1:Nat)<=9;decide) ?_;unfold aEe at hm
 exact aL (aD (v:=zB false) (aG (aO (cW [] (fun f w=>∃ a,aBS a=some R/\f 2=zB a/\aN G K (L) w) cA cA))))
theorem aGS {c:UInt8} {R:Bool} (hm:aEf c=some R) (b:aN G K (L) w):
  Calls prog 148 ([Value.int .u8 (c.toNat:Int)]:List Value).toArray w (eR fun v w'=>v=zB R/\aN G K (L) w'):=by
 refine aQ func148 rfl (by kernel_rfl) (by show (1:Nat)<=9;decide) ?_;unfold aEf at hm
 exact aL (aD (v:=zB false) (aG (aO (cW [] (fun f w=>∃ a,aBT a=some R/\f 2=zB a/\aN G K (L) w) cA cA))))
theorem aBf {s_:bK} {R:Bool} (hm:yW s_=some R) (k:aN G K (L) w):
  Calls prog 101 ([str s_]:List Value).toArray w (eR fun v w'=>v=zB R/\aN G K (L) w'):=by
 refine aQ func101 rfl (by kernel_rfl) (by show (1:Nat)<=35;decide) ?_;unfold yW at hm
 refine aL (aD (v:=zB false) (aG (aO (aO (cW [0] (fun f w=>∃ a,rF s_ a=some R/\f 16=zB a/\aN G K (L) w) ?_ ?_)))))
 ·rintro f l ⟨a,hm,g,m⟩
  unfold rF at hm
  refine aB ?_
  rcases aH hm with ⟨c,hm⟩|⟨c,hm⟩
  ·exact cA
  ·refine aJ c g (aW (aB (aO (aL (aD (v:=i64 0) (aG (bR [] (fun f w=>aAj=some R/\aN G K (L) w) cA ?_)))))));obtain ⟨n,h,ho⟩:=aC hm
   refine dS [0] h (fun b f w=>f 3=i64 b/\aN G K (L) w) cA ?_
   ·rintro b i f o hm hr ⟨j,p⟩
    unfold aAl at hm
    refine aO (aL (bG j (aI (v:=str s_) (aA (gS runUnderlying9 rfl) (aA (cM rfl rfl) (aG ?_))))))
    rcases aH hm with ⟨d,hm⟩|⟨d,hm⟩
    ·exact aM d rfl (aW (aB (aO (bZ (aO (cW [0,3] (fun f w=>∃ e,aAk b e=some i/\f 34=zB e/\aN G K (L) w) cA cA))))))
    ·exact cA
 exact cA
theorem iH {n low a:Int} {R:Bool} (hm:mV n low a=some R) (c:aN G K (L) w):
  Calls prog 102 ([i64 n,i64 low,i64 a]:List Value).toArray w (eR fun v w'=>v=zB R/\aN G K (L) w'):=by
 refine aQ func102 rfl (by kernel_rfl) (by show (3:Nat)<=15;decide) ?_;unfold mV at hm
 exact aL (aD (v:=zB false) (aG (aO (cW [] (fun f w=>∃ b,aGr b=some R/\f 6=zB b/\aN G K (L) w) cA cA))))
theorem aFR {p:Part} {a:Nat} {R:Int} (hm:yX p=some R) (d:aN G K (L) w) (b:iR K a1 a [i64 p.Kind,i64 p.Number,str p.Name,zS a4 p.Arguments.length c5]) (e:cE K a4 c5 p.Arguments):
  Calls prog 186 ([eJ a1 a]:List Value).toArray w (eR fun v w'=>v=i64 R/\aN G K (L) w'):=by
 refine aQ func186 rfl (by kernel_rfl) (by show (1:Nat)<=13;decide) ?_;unfold yX at hm
 exact aL (aD (v:=i64 0) (aG (aO (aL (aI (v:=eJ a1 a) (aA (dG rfl b) (aA (cI (k':=a+0) fE rfl b rfl) (aA (bX (t:=0) dC d b rfl rfl) (aG (bZ (aAa [6] (fun f w=>∃ c,pV p c=some R/\f 7=zB c/\aN G K (L) w) cA cA)))))))))))
theorem aLI {a:(List Part)} {R:Bool} (hm:aEg a=some R) (j:aN G K (L) w) (k:cE K a1 c2 a):
  Calls prog 149 ([zS a1 a.length c2]:List Value).toArray w (eR fun v w'=>v=zB R/\aN G K (L) w'):=by
 refine aQ func149 rfl (by kernel_rfl) (by show (1:Nat)<=30;decide) ?_;unfold aEg at hm
 refine aL (aD (v:=zB false) (aG (aO (aO (cW [0] (fun f w=>∃ b,wG a b=some R/\f 12=zB b/\aN G K (L) w) ?_ ?_)))))
 ·rintro f l ⟨b,hm,e,m⟩
  unfold wG at hm
  refine aB ?_
  rcases aH hm with ⟨c,hm⟩|⟨c,hm⟩
  ·exact cA
  ·refine aJ c e (aW (aB (aL (aD (v:=i64 1) (aG (aO (aL (aD (v:=i64 0) (aG (bR [] (fun f w=>∃ d,aBU d=some R/\f 3=i64 d/\aN G K (L) w) cA ?_))))))))));obtain ⟨n,g,ho⟩:=aC hm
   exact dN [0] g (fun h i f w=>f 3=i64 h/\f 4=i64 i/\aN G K (L) w) cA cA
 exact cA
end Gv
namespace Gv
open Gv.Hp renaming le_refl→zR
open Go.Value renaming slice→zS,bool→zB
open Go Go.Proofs Go.Proofs.Tryz
set_option maxRecDepth 20000
set_option maxHeartbeats 40000000
variable {G:pJ} {K:Hp} {L:List hQ} {w:World} {a1 a4 a7 a10 a13 a16:Option Addr} {c5 c2 c8 c11 c14 c17:Nat}
theorem aMR {p:Part} {a:Nat} {R:Bool} (hm:aFE p=some R) (m:aN G K (L) w) (b:iR K a1 a [i64 p.Kind,i64 p.Number,str p.Name,zS a4 p.Arguments.length c5]) (n:cE K a4 c5 p.Arguments):
  Calls prog 187 ([eJ a1 a]:List Value).toArray w (eR fun v w'=>v=zB R/\aN G K (L) w'):=by
 refine aQ func187 rfl (by kernel_rfl) (by show (1:Nat)<=73;decide) ?_;unfold aFE at hm
 refine aL (aD (v:=zB false) (aG (aO (aL (aI (v:=eJ a1 a) (aA (dG rfl b) (aA (cI (k':=a+0) fE rfl b rfl) (aA (bX (t:=0) dC m b rfl rfl) (aG (bZ (aAa [0,6] (fun f w=>∃ c,aAo p c=some R/\f 7=zB c/\aN G K (L) w) ?_ ?_)))))))))))
 ·rintro f o ⟨c,hm,g,q⟩
  unfold aAo at hm
  rcases aH hm with ⟨d,hm⟩|⟨d,hm⟩
  ·exact aM d g (aO (cW [] (fun f w=>∃ h,uV h=some R/\f 2=zB h/\aN G K (L) w) cA cA))
  ·refine aJ d g (aL (aA (cX rfl rfl) (aD (v:=zB (p.Kind == 1)) (aG ?_))))
   rcases aH hm with ⟨i,hm⟩|⟨i,hm⟩
   ·exact cA
   ·refine aJ i rfl (aL (aA (cX rfl rfl) (aD (v:=zB (p.Kind == 3)) (aG ?_))))
    rcases aH hm with ⟨e,hm⟩|⟨e,hm⟩
    ·exact aM e rfl (aO (cW [] (fun f w=>∃ j,aAm j=some R/\f 2=zB j/\aN G K (L) w) cA cA))
    ·refine aJ e rfl (aL (aA (cX rfl rfl) (aD (v:=zB (p.Kind == 4)) (aG ?_))))
     rcases aH hm with ⟨k,hm⟩|⟨k,hm⟩
     ·exact aM k rfl (aO (cW [] (fun f w=>∃ l,aAn l=some R/\f 2=zB l/\aN G K (L) w) cA cA))
     ·exact cA
 exact cA
theorem aIS {a:(List Part)} {b R:Int} (hm:aFF a b=some R) (h:aN G K (L) w) (i:cE K a1 c2 a):
  Calls prog 155 ([zS a1 a.length c2,i64 b]:List Value).toArray w (eR fun v w'=>v=i64 R/\aN G K (L) w'):=by
 refine aQ func155 rfl (by kernel_rfl) (by show (2:Nat)<=18;decide) ?_;unfold aFF at hm
 refine aL (aD (v:=i64 0) (aG (aL (aD (v:=i64 1) (aG (aO (bR [] (fun f w=>∃ c,aCw c=some R/\f 1=i64 c/\aN G K (L) w) cA ?_)))))));obtain ⟨j,d,ho⟩:=aC hm
 exact dN [0] d (fun e g f w=>f 1=i64 e/\f 5=i64 g/\aN G K (L) w) cA cA
theorem aLJ {d:Definition} {b:Nat} {part R:Int} (hm:aBr d part=some R) (m:aN G K (L) w) (c:iR K a1 b [str d.Name,i64 d.Parameters,zS a4 d.Body.length c5]) (q:cE K a4 c5 d.Body):
  Calls prog 188 ([eJ a1 b,i64 part]:List Value).toArray w (eR fun v w'=>v=i64 R/\aN G K (L) w'):=by
 refine aQ func188 rfl (by kernel_rfl) (by show (2:Nat)<=38;decide) ?_;unfold aBr at hm
 refine aL (aD (v:=i64 0) (aG (aL (aI (v:=eJ a1 b) (aA (dG rfl c) (aA (cI (k':=b+1) xL rfl c rfl) (aA (bX (t:=1) dC m c rfl rfl) (aD (v:=i64 d.Parameters) (aG (aO (aL (aD (v:=i64 0) (aG (bR [] (fun f w=>∃ h,aBV h=some R/\f 5=i64 h/\aN G K (L) w) cA ?_))))))))))))));obtain ⟨r,n,ho⟩:=aC hm
 refine dN [0,1] n (fun e a f w=>f 5=i64 e/\f 6=i64 a/\aN G K (L) w) cA ?_
 ·rintro e a i f u hm hr ⟨x,j,y⟩
  unfold lN at hm
  refine aO (aL (bG j (aI (v:=i64 part) (aA (cM rfl rfl) (aG ?_)))))
  rcases aH hm with ⟨k,hm⟩|⟨k,hm⟩
  ·refine aM k rfl (aW (aB (aO (bR [0,1,6] (fun f w=>∃ g,wH a g=some i/\f 5=i64 g/\aN G K (L) w) ?_ ?_))))
   ·rintro f z ⟨g,hm,o,p⟩
    unfold wH at hm
    exact aB (aV (bG j (aA (cD rfl rfl) (aD (v:=i64 (wr (a+1))) (aG ⟨_,(Option.some.inj hm).symm,aU,o,rfl,p⟩)))))
   exact aO (cW [0,1,5,6] (fun f w=>∃ l,wI e a l=some i/\f 34=zB l/\aN G K (L) w) cA cA)
  ·exact cA
theorem aMS {t:bP} {a:Nat} {b:Int} {R:Bool} (hm:aFG t b=some R) (c:aN G K (L) w) (d:iR K a1 a [i64 t.Kind,i64 t.Value]):
  Calls prog 236 ([eJ a1 a,i64 b]:List Value).toArray w (eR fun v w'=>v=zB R/\aN G K (L) w'):=by
 exact cA
theorem aGT {t:bP} {a:Nat} {R:Int} (hm:aBs t=some R) (b:aN G K (L) w) (c:iR K a1 a [i64 t.Kind,i64 t.Value]):
  Calls prog 237 ([eJ a1 a]:List Value).toArray w (eR fun v w'=>v=i64 R/\aN G K (L) w'):=by
 exact cA
theorem aPP {e:(List bP)} {d a:Int} {R:Bool} (hm:aJM e d a=some R) (n:aN G K (L) w) (o:cE K a1 c2 e):
  Calls prog 189 ([zS a1 e.length c2,i64 d,i64 a]:List Value).toArray w (eR fun v w'=>v=zB R/\aN G K (L) w'):=by
 refine aQ func189 rfl (by kernel_rfl) (by show (3:Nat)<=38;decide) ?_;unfold aJM at hm
 refine aL (aD (v:=zB false) (aG (aO (aL (aI (v:=zS a1 e.length c2) (aA (bQ (len:=e.length) lE rfl) (aI (v:=i64 a) (aA (kA rfl rfl) (aG ?_)))))))))
 rcases aH hm with ⟨g,hm⟩|⟨g,hm⟩
 ·exact cA
 ·refine aJ g rfl (aW (aB (aL (aD (v:=i64 1) (aG (aO (aL (aD (v:=i64 0) (aG (bR [] (fun f w=>∃ h,aGs h=some R/\f 7=i64 h/\aN G K (L) w) cA ?_))))))))));obtain ⟨p,k,ho⟩:=aC hm
  refine dN [0,1] k (fun b c f w=>f 7=i64 b/\f 8=i64 c/\aN G K (L) w) cA ?_
  ·rintro b c l f q hm hr ⟨r,m,t⟩
   unfold aEi at hm
   refine aO (aL (bG m (aI (v:=zS a1 e.length c2) (aA (bQ (len:=e.length) lE rfl) (aA (cM rfl rfl) (aG ?_))))))
   rcases aH hm with ⟨i,hm⟩|⟨i,hm⟩
   ·exact aM i rfl (aW (aB (aO (bZ (aO (aO (cW [0,1,7,8] (fun f w=>∃ j,aEh e b c j=some l/\f 28=zB j/\aN G K (L) w) cA cA)))))))
   ·exact cA
theorem aKG {j:(List Definition)} {d:Definition} {h:Nat} {e R:Int} (hm:yY j d e=some R) (l:aN G K (L) w) (h3:cE K a1 c2 j) (k:iR K a4 h [str d.Name,i64 d.Parameters,zS a7 d.Body.length c8]) (m:cE K a7 c8 d.Body):
  Calls prog 150 ([zS a1 j.length c2,eJ a4 h,i64 e]:List Value).toArray w (eR fun v w'=>v=i64 R/\aN G K (L) w'):=by
 refine aQ func150 rfl (by kernel_rfl) (by show (3:Nat)<=126;decide) ?_;unfold yY at hm
 refine aL (aD (v:=i64 0) (aG (aL (aI (v:=eJ a4 h) (aA (dG rfl k) (aA (cI (k':=h+2) kT rfl k rfl) (aA (bX (t:=2) yQ l k rfl rfl) (aI (v:=i64 e) ?_))))))));obtain ⟨a,r,hm⟩:=aC hm
 refine aA (cQ jV rfl m rfl rfl rfl r) ?_;obtain ⟨c6,a2,a3⟩:=cE.el (sz:=4) rfl m r
 obtain ⟨b,c,rfl,a5⟩:=a3
 refine aA (eK (t:=0) (vs:=[i64 a.Kind,i64 a.Number,str a.Name,zS b a.Arguments.length c]) tG l a2 rfl rfl rfl) (cR (vs:=[i64 0,i64 0,str ([]:bK),zS none 0 0]) zeroValue162 l rfl (fun g c7 a6=>(cO (i:=0) (ns:=[i64 a.Kind,i64 a.Number,str a.Name,zS b a.Arguments.length c]) (us:=[i64 a.Kind,i64 a.Number,str a.Name,zS b a.Arguments.length c]) sizeOf162 a6 rfl rfl rfl rfl rfl (dU rfl) rfl rfl (fun a8 (a9:aN G K (box g 162 [i64 a.Kind,i64 a.Number,str a.Name,zS b a.Arguments.length c]::L) a8)=>(aG (aO (aL ?_)))))))
 obtain ⟨c9,b0,b1,b2,b3⟩:=aN.lendBp a9 .head
 obtain ⟨d0,b4,hm⟩:=aC hm
 refine aT (vs:=[eJ (some ⟨g,0,none⟩) 0]) call187 rfl (aMR b4 b2 b1 (a5.mono b0)) ?_
 rintro _ d1 ⟨rfl,b5⟩
 have d2:=b3 _ _ b5
 refine aA (dA rfl) (aG ?_)
 rcases aH hm with ⟨u,hm⟩|⟨u,hm⟩
 ·exact cA
 ·refine aJ u rfl (aW (aB (aO (aO (cW [0,1,2,7] (fun f w=>∃ n,pZ j d e a n=some R/\f 28=zB n/\aN G K (box g 162 [i64 a.Kind,i64 a.Number,str a.Name,zS b a.Arguments.length c]::L) w) ?_ ?_)))))
  ·rintro f d3 ⟨n,hm,b6,d4⟩
   unfold pZ at hm
   refine aB ?_
   rcases aH hm with ⟨x,hm⟩|⟨x,hm⟩
   ·exact cA
   ·refine aJ x b6 (aW (aB (aO (aO (cW [0,1,2,7] (fun f w=>∃ o,kG j d e a o=some R/\f 51=zB o/\aN G K (box g 162 [i64 a.Kind,i64 a.Number,str a.Name,zS b a.Arguments.length c]::L) w) ?_ ?_)))))
    ·rintro f d5 ⟨o,hm,b7,y⟩
     unfold kG at hm
     refine aB ?_
     rcases aH hm with ⟨c45,hm⟩|⟨c45,hm⟩
     ·exact cA
     ·refine aJ c45 b7 (aW (aB (aL (aA (bA (t':=3) jC rfl rfl) (aA (bO pQ y (i:=0) rfl rfl rfl) (aA (bQ (len:=a.Arguments.length) jR rfl) (aD (v:=i64 (a.Arguments.length:Int)) (aG (aO (aL (aA (bA (t':=0) fE rfl rfl) (aA (bO dC y (i:=0) rfl rfl rfl) (aG (bR [1,2,7,8] (fun f w=>kF d e a=some R/\aN G K (box g 162 [i64 a.Kind,i64 a.Number,str a.Name,zS b a.Arguments.length c]::L) w) ?_ ?_))))))))))))))
      ·rintro f d6 ⟨hm,d7⟩
       unfold kF at hm
       refine aB (aO (aO (cW [1,2,7,8] (fun f w=>∃ p,nI d e a p=some R/\f 102=zB p/\aN G K (box g 162 [i64 a.Kind,i64 a.Number,str a.Name,zS b a.Arguments.length c]::L) w) ?_ ?_)))
       ·rintro f d8 ⟨p,hm,b8,b9⟩
        unfold nI at hm
        refine aB ?_
        rcases aH hm with ⟨z,hm⟩|⟨z,hm⟩
        ·exact cA
        ·refine aJ z b8 (aW (aB (aL (aI (v:=eJ a4 h) (aI (v:=i64 e) ?_)))));obtain ⟨J,c0,hm⟩:=aC hm
         refine aT (vs:=[eJ a4 h,i64 e]) call188 rfl (aLJ c0 b9 k m) ?_
         rintro _ d9 ⟨rfl,e0⟩
         refine aD (v:=i64 J) (aG (aO (aO (cW [7,8,9] (fun f w=>∃ q,pX a J q=some R/\f 112=zB q/\aN G K (box g 162 [i64 a.Kind,i64 a.Number,str a.Name,zS b a.Arguments.length c]::L) w) ?_ ?_))))
         ·rintro f e1 ⟨q,hm,c1,e2⟩
          unfold pX at hm
          refine aB ?_
          rcases aH hm with ⟨V,hm⟩|⟨V,hm⟩
          ·exact cA
          ·refine aJ V c1 (aW (aB (aO (aL (aD (v:=i64 0) (aG (bR [] (fun f w=>tK=some R/\aN G K (L) w) cA ?_)))))));obtain ⟨e3,c3,ho⟩:=aC hm
           exact dS [7,8,9] c3 (fun c4 f w=>f 10=i64 c4/\aN G K (box g 162 [i64 a.Kind,i64 a.Number,str a.Name,zS b a.Arguments.length c]::L) w) cA cA
         exact cA
       exact cA
      refine aL (aA (cX rfl rfl) (aD (v:=zB (a.Kind == 1)) (aG ?_)))
      rcases aH hm with ⟨Z,hm⟩|⟨Z,hm⟩
      ·exact aM Z rfl (aO (cW [1,2,7,8] (fun f w=>∃ a0,pY d e a a0=some R/\f 69=zB a0/\aN G K (box g 162 [i64 a.Kind,i64 a.Number,str a.Name,zS b a.Arguments.length c]::L) w) cA cA))
      ·exact cA
    exact cA
  exact cA
theorem aMT {b:(List Definition)} {d:Definition} {a:Nat} {R:(Int × Int)} (hm:aDH b d=some R) (e:aN G K (L) w) (l:cE K a1 c2 b) (c:iR K a4 a [str d.Name,i64 d.Parameters,zS a7 d.Body.length c8]) (h:cE K a7 c8 d.Body):
  Calls prog 103 ([zS a1 b.length c2,eJ a4 a]:List Value).toArray w (eR fun v w'=>v=Value.tuple #[i64 R.1,i64 R.2]/\aN G K (L) w'):=by
 refine aQ func103 rfl (by kernel_rfl) (by show (2:Nat)<=31;decide) ?_;unfold aDH at hm
 refine aL (aD (v:=i64 0) (aD (v:=i64 0) (aG (aO (aL (aI (v:=eJ a4 a) (aA (dG rfl c) (aA (cI (k':=a+2) kT rfl c rfl) (aA (bX (t:=2) yQ e c rfl rfl) ?_)))))))));obtain ⟨m,i,hm⟩:=aC hm
 refine aT (vs:=[zS a7 d.Body.length c8]) call149 rfl (aLI i e h) ?_
 rintro _ n ⟨rfl,o⟩
 refine aA (dA rfl) (aG ?_)
 rcases aH hm with ⟨g,hm⟩|⟨g,hm⟩
 ·exact cA
 ·refine aJ g rfl (aW (aB (aO (aL (aD (v:=i64 0) (aG (bR [] (fun f w=>aDh=some R/\aN G K (L) w) cA ?_)))))));obtain ⟨p,j,ho⟩:=aC hm
  exact dS [0,1] j (fun k f w=>f 6=i64 k/\aN G K (L) w) cA cA
theorem aMU {a:(List Definition)} {R:Bool} (hm:aBt a=some R) (t:aN G K (L) w) (u:cE K a1 c2 a):
  Calls prog 67 ([zS a1 a.length c2]:List Value).toArray w (eR fun v w'=>v=zB R/\aN G K (L) w'):=by
 refine aQ func67 rfl (by kernel_rfl) (by show (1:Nat)<=70;decide) ?_;unfold aBt at hm
 refine aL (aD (v:=zB false) (aG (aO (aO (cW [0] (fun f w=>∃ c,uZ a c=some R/\f 15=zB c/\aN G K (L) w) ?_ ?_)))))
 ·rintro f x ⟨c,hm,k,y⟩
  unfold uZ at hm
  refine aB ?_
  rcases aH hm with ⟨g,hm⟩|⟨g,hm⟩
  ·exact cA
  ·refine aJ g k (aW (aB (aO (aL (aD (v:=i64 0) (aG (bR [0] (fun f w=>uX a=some R/\aN G K (L) w) ?_ ?_)))))))
   ·rintro f z ⟨hm,J⟩
    unfold uX at hm
    refine aB (aO (aL (aD (v:=i64 0) (aG (bR [] (fun f w=>aDi=some R/\aN G K (L) w) cA ?_)))));obtain ⟨V,l,ho⟩:=aC hm
    exact dS [0] l (fun m f w=>f 5=i64 m/\aN G K (L) w) cA cA
   obtain ⟨Z,n,ho⟩:=aC hm
   refine dS [0] n (fun b f w=>f 3=i64 b/\aN G K (L) w) cA ?_
   ·rintro b d f a0 hm hr ⟨h,a2⟩
    unfold aAs at hm
    refine aO (aL (bG h (aI (v:=zS a1 a.length c2) (aA (bQ (len:=a.length) iW rfl) (aA (cM rfl rfl) (aG ?_))))))
    rcases aH hm with ⟨i,hm⟩|⟨i,hm⟩
    ·refine aM i rfl (aW (aB (aO (bR [0,3] (fun f w=>aDj b=some d/\aN G K (L) w) ?_ ?_))))
     ·rintro f a3 ⟨hm,o⟩
      unfold aDj at hm
      exact aB (aV (bG h (aA (cD rfl rfl) (aD (v:=i64 (wr (b+1))) (aG ⟨_,(Option.some.inj hm).symm,aU,rfl,o⟩)))))
     refine aO (aO (cW [0,3] (fun f w=>∃ e,aAr a b e=some d/\f 37=zB e/\aN G K (L) w) ?_ ?_))
     ·rintro f a4 ⟨e,hm,p,a5⟩
      unfold aAr at hm
      refine aB ?_
      rcases aH hm with ⟨j,hm⟩|⟨j,hm⟩
      ·exact cA
      ·refine aJ j p (aW (aB (aL (aD (v:=i64 0) (aG (bR [0,3] (fun f w=>uY b=some d/\aN G K (L) w) cA ?_))))));obtain ⟨a6,q,ho⟩:=aC hm
       exact dS [0,3] q (fun r f w=>f 4=i64 r/\aN G K (L) w) cA cA
     exact cA
    ·exact cA
 exact cA
theorem aMV {a:(List Int)} {R:Bool} (hm:aFH a=some R) (d:aN G K (L) w) (e:cE K a1 c2 a):
  Calls prog 104 ([zS a1 a.length c2]:List Value).toArray w (eR fun v w'=>v=zB R/\aN G K (L) w'):=by
 refine aQ func104 rfl (by kernel_rfl) (by show (1:Nat)<=16;decide) ?_;unfold aFH at hm
 refine aL (aD (v:=zB false) (aG (aO (aL (aD (v:=i64 0) (aG (bR [] (fun f w=>aDk=some R/\aN G K (L) w) cA ?_)))))));obtain ⟨g,b,ho⟩:=aC hm
 exact dS [0] b (fun c f w=>f 3=i64 c/\aN G K (L) w) cA cA
theorem aHN {s_:cP} {d:Nat} {R:Bool} (hm:rT s_=some R) (hs:aN G K (L) w) (c:iR K a1 d [zS a4 s_.Definitions.length c5,zS a7 s_.Components.length c8,zS a10 s_.Meetings.length c11,zS a13 s_.Allowed.length c14,zS a16 s_.Hidden.length c17]) (h6:cE K a4 c5 s_.Definitions) (l:cE K a7 c8 s_.Components) (a8:cE K a10 c11 s_.Meetings) (a9:cE K a13 c14 s_.Allowed) (b0:cE K a16 c17 s_.Hidden):
  Calls prog 68 ([eJ a1 d]:List Value).toArray w (eR fun v w'=>v=zB R/\aN G K (L) w'):=by
 refine aQ func68 rfl (by kernel_rfl) (by show (1:Nat)<=64;decide) ?_;unfold rT at hm
 refine aL (aD (v:=zB false) (aG (aO (aO (cW [0] (fun f w=>∃ j,nL s_ j=some R/\f 18=zB j/\aN G K (L) w) ?_ ?_)))))
 ·rintro f b1 ⟨j,hm,x,b2⟩
  unfold nL at hm
  refine aB ?_
  rcases aH hm with ⟨m,hm⟩|⟨m,hm⟩
  ·exact cA
  ·refine aJ m x (aW (aB (aO (aL (aD (v:=i64 0) (aG (bR [] (fun f w=>rG=some R/\aN G K (L) w) cA ?_)))))));obtain ⟨b3,y,ho⟩:=aC hm
   refine dS [0] y (fun k f w=>f 3=i64 k/\aN G K (L) w) cA ?_
   ·rintro k z f b4 hm hr ⟨n,h⟩
    unfold nK at hm
    refine aO (aL (bG n (aI (v:=eJ a1 d) (aA (dG rfl c) (aA (cI (k':=d+1) mD rfl c rfl) (aA (bX (t:=1) aBn h c rfl rfl) (aA (bQ (len:=s_.Components.length) oJ rfl) (aA (cM rfl rfl) (aG ?_)))))))))
    rcases aH hm with ⟨o,hm⟩|⟨o,hm⟩
    ·refine aM o rfl (aW (aB (aO (bZ (aL (aI (v:=eJ a1 d) (aA (dG rfl c) (aA (cI (k':=d+1) mD rfl c rfl) (aA (bX (t:=1) aBn h c rfl rfl) (bG n ?_))))))))));obtain ⟨b,p,hm⟩:=aC hm
     refine aA (cQ oJ rfl l rfl rfl rfl p) ?_;obtain ⟨b5,J,V⟩:=cE.el (sz:=2) rfl l p
     obtain ⟨e,g,rfl,b6⟩:=V
     refine aA (eK (t:=0) (vs:=[i64 b.Definition,zS e b.Values.length g]) aHo h J rfl rfl rfl) (cR (vs:=[i64 0,zS none 0 0]) zeroValue91 h rfl (fun q b7 Z=>(cO (i:=0) (ns:=[i64 b.Definition,zS e b.Values.length g]) (us:=[i64 b.Definition,zS e b.Values.length g]) sizeOf91 Z rfl rfl rfl rfl rfl (dU rfl) rfl rfl (fun a0 (a:aN G K (box q 91 [i64 b.Definition,zS e b.Values.length g]::L) a0)=>(aG (aO (aO (dB (C:=fun w'=>aN G K (box q 91 [i64 b.Definition,zS e b.Values.length g]::L) w') cB (by kernel_rfl) (aN.mono a (dW.drew _)) (aY (fun _ a=>bA (t':=0) aBM rfl rfl) (aY (fun _ a=>bO dC a (i:=0) rfl rfl rfl) (aY (fun _ a=>bJ (v:=eJ a1 d) rfl) (aY (fun _ a=>dG rfl c) (aY (fun _ a=>cI (k':=d+0) pL rfl c rfl) (aY (fun _ a=>bX (t:=0) aDY a c rfl rfl) (aY (fun _ a=>bQ (len:=s_.Definitions.length) iW rfl) (aY (fun _ a=>fY rfl rfl) ?_))))))))))))))))
     obtain ⟨a2,a3,hm⟩:=aC hm
     refine eV (vs:=[i64 b.Definition,i64 0,i64 (wr ((s_.Definitions.length:Int) - 1))]) (v:=zB a2) call102 rfl (fun _ a=>(iH a3 a)) (aY (fun _ a=>dA rfl) (dH (fun b8 b9=>(aB ?_))))
     rcases aH hm with ⟨r,hm⟩|⟨r,hm⟩
     ·exact cA
     ·exact aJ r rfl (aW (aB (aO (cW [0,3] (fun f w=>∃ u,nJ k u=some z/\f 63=zB u/\aN G K (L) w) cA cA))))
    ·exact cA
 exact cA
theorem qT {s_:bK} {R:Bool} (hm:oN s_=some R) (b:aN G K (L) w):
  Calls prog 105 ([str s_]:List Value).toArray w (eR fun v w'=>v=zB R/\aN G K (L) w'):=by
 refine aQ func105 rfl (by kernel_rfl) (by show (1:Nat)<=9;decide) ?_;unfold oN at hm
 exact aL (aD (v:=zB false) (aG (aO (cW [] (fun f w=>∃ a,tL a=some R/\f 2=zB a/\aN G K (L) w) cA cA))))
theorem aJi {b:(List bV)} {R:Bool} (hm:wJ b=some R) (hs:aN G K (L) w) (l:cE K a1 c2 b):
  Calls prog 69 ([zS a1 b.length c2]:List Value).toArray w (eR fun v w'=>v=zB R/\aN G K (L) w'):=by
 refine aQ func69 rfl (by kernel_rfl) (by show (1:Nat)<=101;decide) ?_;unfold wJ at hm
 refine aL (aD (v:=zB false) (aG (aO (aL (aI (v:=zS a1 b.length c2) (aA (bQ (len:=b.length) lV rfl) (aA (kA rfl rfl) (aG ?_))))))))
 rcases aH hm with ⟨m,hm⟩|⟨m,hm⟩
 ·exact cA
 ·refine aJ m rfl (aW (aB (aO (aL (aD (v:=i64 0) (aG (bR [] (fun f w=>vA=some R/\aN G K (L) w) cA ?_)))))));obtain ⟨a8,y,ho⟩:=aC hm
  refine dS [0] y (fun c f w=>f 3=i64 c/\aN G K (L) w) cA ?_
  ·rintro c e f a9 hm hr ⟨g,n⟩
   unfold nC at hm
   refine aO (aL (bG g (aI (v:=zS a1 b.length c2) (aA (bQ (len:=b.length) lV rfl) (aA (cM rfl rfl) (aG ?_))))))
   rcases aH hm with ⟨o,hm⟩|⟨o,hm⟩
   ·refine aM o rfl (aW (aB (aO (bR [0,3] (fun f w=>vB c=some e/\aN G K (L) w) ?_ ?_))))
    ·rintro f b0 ⟨hm,z⟩
     unfold vB at hm
     exact aB (aV (bG g (aA (cD rfl rfl) (aD (v:=i64 (wr (c+1))) (aG ⟨_,(Option.some.inj hm).symm,aU,rfl,z⟩)))))
    refine aL (aI (v:=zS a1 b.length c2) (bG g ?_));obtain ⟨a,p,hm⟩:=aC hm
    refine aA (cQ lV rfl l rfl rfl rfl p) ?_;obtain ⟨b1,J,V⟩:=cE.el (sz:=3) rfl l p
    cases V
    refine aA (eK (t:=0) (vs:=[str a.Left,str a.Right,str a.Result]) aJG n J rfl rfl rfl) (cR (vs:=[str ([]:bK),str ([]:bK),str ([]:bK)]) zeroValue93 n rfl (fun d b2 Z=>(cO (i:=0) (ns:=[str a.Left,str a.Right,str a.Result]) (us:=[str a.Left,str a.Right,str a.Result]) sizeOf93 Z rfl rfl rfl rfl rfl (dU rfl) rfl rfl (fun a0 (b3:aN G K (box d 93 [str a.Left,str a.Right,str a.Result]::L) a0)=>(aG (aO (aO (cW [0,3,4] (fun f w=>∃ h,jY b c a h=some e/\f 41=zB h/\aN G K (box d 93 [str a.Left,str a.Right,str a.Result]::L) w) ?_ ?_))))))))
    ·rintro f b4 ⟨h,hm,a2,b5⟩
     unfold jY at hm
     refine aB ?_
     rcases aH hm with ⟨q,hm⟩|⟨q,hm⟩
     ·exact cA
     ·refine aJ q a2 (aW (aB (aO (aO (cW [0,3,4] (fun f w=>∃ j,jX b c a j=some e/\f 76=zB j/\aN G K (box d 93 [str a.Left,str a.Right,str a.Result]::L) w) ?_ ?_)))))
      ·rintro f b6 ⟨j,hm,a3,b7⟩
       unfold jX at hm
       refine aB ?_
       rcases aH hm with ⟨r,hm⟩|⟨r,hm⟩
       ·exact cA
       ·refine aJ r a3 (aW (aB (aL (aD (v:=i64 0) (aG (bR [0,3] (fun f w=>qA c=some e/\aN G K (L) w) cA ?_))))));obtain ⟨b8,a4,ho⟩:=aC hm
        refine dS [0,3,4] a4 (fun k f w=>f 5=i64 k/\aN G K (box d 93 [str a.Left,str a.Right,str a.Result]::L) w) cA ?_
        ·rintro k a5 f b9 hm hr ⟨a6,c0⟩
         unfold qC at hm
         refine aO (aL (bG a6 (aI (v:=zS a1 b.length c2) (aA (bQ (len:=b.length) lV rfl) (aA (cM rfl rfl) (aG ?_))))))
         rcases aH hm with ⟨u,hm⟩|⟨u,hm⟩
         ·exact aM u rfl (aW (aB (aO (bZ (aO (cW [0,3,4,5] (fun f w=>∃ x,qB k x=some a5/\f 100=zB x/\aN G K (box d 93 [str a.Left,str a.Right,str a.Result]::L) w) cA cA))))))
         ·exact cA
      exact cA
    exact cA
   ·exact cA
end Gv
