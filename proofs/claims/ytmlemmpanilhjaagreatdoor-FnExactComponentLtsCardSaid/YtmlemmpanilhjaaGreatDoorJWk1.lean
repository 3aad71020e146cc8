/- Walks, printed by program. -/
import Derived.Test.YtmlemmpanilhjaaGreatDoorJLW
set_option linter.all false
namespace Gv
open Gv.Hp renaming le_refl→zR
open Go.Value renaming slice→zS,bool→zB,tuple→zT
open Go Go.Proofs Go.Proofs.Tryz
set_option maxRecDepth 20000
set_option maxHeartbeats 40000000
variable {G:qG} {K:Hp} {L:List iZ} {w:World} {a1 a4 a7 a10 a13:Option Addr} {c2 c5 c8 c11 c14:Nat}
theorem fY {n low a:Int} {R:Bool} (hm:jD n low a=some R) (c:aO G K (L) w):
  Calls prog 52 ([i64 n,i64 low,i64 a]:List Value).toArray w (eX fun v w'=>v=zB R/\aO G K (L) w'):=by
 refine aT func52 rfl (by kernel_rfl) (by show (3:Nat)<=15;decide) ?_;unfold jD at hm
 exact aL (aD (v:=zB false) (aG (aP (cO [] (fun f w=>∃ b,aDY b=some R/\f 6=zB b/\aO G K (L) w) cA cA))))
theorem aGD {n:Int} {R:Bool} (hm:aAI n=some R) (a:aO G K (L) w):
  Calls prog 159 ([i64 n]:List Value).toArray w (eX fun v w'=>v=zB R/\aO G K (L) w'):=by
 exact cA
theorem aHq {n:Int} {R:Bool} (hm:yO n=some R) (a:aO G K (L) w):
  Calls prog 158 ([i64 n]:List Value).toArray w (eX fun v w'=>v=zB R/\aO G K (L) w'):=by
 exact cA
theorem tM {a:(List Int)} {R:Int} (hm:iE a=some R) (n:aO G K (L) w) (c:cI K a1 c2 a):
  Calls prog 194 ([zS a1 a.length c2,Value.func (.func 158) #[] #[]]:List Value).toArray w (eX fun v w'=>v=i64 R/\aO G K (L) w'):=by
 refine aT func194 rfl (by kernel_rfl) (by show (2:Nat)<=19;decide) ?_;unfold iE at hm
 refine aL (aD (v:=i64 0) (aG (aP (aL (aI (v:=zS a1 a.length c2) (aA (bQ (len:=a.length) gD rfl) (aI (v:=i64 0) (aG (bR [] (fun f w=>gS=some R/\aO G K (L) w) cA ?_)))))))));obtain ⟨o,j,ho⟩:=aC hm
 refine dS [0,1,7] j (fun b f w=>f 8=i64 b/\aO G K (L) w) cA ?_
 ·rintro b p f q hm hr ⟨d,e⟩
  unfold fO at hm
  refine aL (aA (cL d rfl) (aG (aP ?_)))
  rcases aH hm with ⟨g,hm⟩|⟨g,hm⟩
  ·refine aN g rfl (aX (aB (aP (bY (aL (bJ d (aD (v:=i64 b) (aG (aL (aI (v:=Value.func (.func 158) #[] #[]) (aI (v:=zS a1 a.length c2) (aI (v:=i64 b) ?_))))))))))));obtain ⟨h,i,hm⟩:=aC hm
   refine aA (cQ gD rfl c rfl rfl rfl i) ?_;obtain ⟨r,k,l⟩:=cI.el (sz:=1) rfl c i
   cases l
   refine aA (bZ (t:=0) dC e k rfl rfl) ?_;obtain ⟨u,m,hm⟩:=aC hm
   exact qV (vs:=[i64 h]) (caps:=[]) (us:=[i64 h]) rfl call158 rfl rfl (aHq m e) cA
  ·exact cA
theorem rK {a:(List Int)} {R:Bool} (hm:gT a=some R) (b:aO G K (L) w) (c:cI K a1 c2 a):
  Calls prog 157 ([zS a1 a.length c2,Value.func (.func 158) #[] #[]]:List Value).toArray w (eX fun v w'=>v=zB R/\aO G K (L) w'):=by
 exact cA
theorem aEQ {a:(List Int)} {R:Bool} (hm:xO a=some R) (b:aO G K (L) w) (c:cI K a1 c2 a):
  Calls prog 117 ([zS a1 a.length c2]:List Value).toArray w (eX fun v w'=>v=zB R/\aO G K (L) w'):=by
 exact cA
theorem aLB {c:UInt8} {R:Bool} (hm:aHc c=some R) (b:aO G K (L) w):
  Calls prog 152 ([Value.int .u8 (c.toNat:Int)]:List Value).toArray w (eX fun v w'=>v=zB R/\aO G K (L) w'):=by
 refine aT func152 rfl (by kernel_rfl) (by show (1:Nat)<=9;decide) ?_;unfold aHc at hm
 exact aL (aD (v:=zB false) (aG (aP (cO [] (fun f w=>∃ a,aCi a=some R/\f 2=zB a/\aO G K (L) w) cA cA))))
theorem aHL {a:bL} {R:Bool} (hm:aEC a=some R) (k:aO G K (L) w):
  Calls prog 113 ([str a]:List Value).toArray w (eX fun v w'=>v=zB R/\aO G K (L) w'):=by
 refine aT func113 rfl (by kernel_rfl) (by show (1:Nat)<=42;decide) ?_;unfold aEC at hm
 refine aL (aD (v:=zB false) (aG (aP (aL (aI (v:=str a) (aA (gP runUnderlying9 rfl) (aI (v:=i64 0) (aG (bR [0] (fun f w=>aBy a=some R/\aO G K (L) w) ?_ ?_)))))))))
 ·rintro f l ⟨hm,m⟩
  unfold aBy at hm
  exact aB (aP (cO [] (fun f w=>∃ d,aDZ d=some R/\f 2=zB d/\aO G K (L) w) cA cA))
 obtain ⟨n,j,ho⟩:=aC hm
 refine dS [0,6] j (fun b f w=>f 7=i64 b/\aO G K (L) w) cA ?_
 ·rintro b e f o hm hr ⟨g,p⟩
  unfold xQ at hm
  refine aL (aA (cL g rfl) (aG (aP ?_)))
  rcases aH hm with ⟨h,hm⟩|⟨h,hm⟩
  ·refine aN h rfl (aX (aB (aP (bY (aL (bJ g (aD (v:=i64 b) (aG (aP (cO [0,3,6,7] (fun f w=>∃ c,qF a b c=some e/\f 4=zB c/\aO G K (L) w) ?_ ?_))))))))))
   ·rintro f q ⟨c,hm,r,t⟩
    unfold qF at hm
    exact aB (aP (cO [0,6,7] (fun f w=>∃ i,xP b i=some e/\f 32=zB i/\aO G K (L) w) cA cA))
   exact cA
  ·exact cA
theorem nP {a:bL} {R:Bool} (hm:oL a=some R) (c:aO G K (L) w):
  Calls prog 118 ([str a]:List Value).toArray w (eX fun v w'=>v=zB R/\aO G K (L) w'):=by
 refine aT func118 rfl (by kernel_rfl) (by show (1:Nat)<=9;decide) ?_;unfold oL at hm
 exact aL (aD (v:=zB false) (aG (aP (cO [] (fun f w=>∃ b,vG b=some R/\f 2=zB b/\aO G K (L) w) cA cA))))
theorem aHM {c:(List Int)} {j R:bL} (hm:aDh c j=some R) (V:aO G K (L) w) (hG:G.lo=0) (p:cI K a1 c2 c):
  Calls prog 171 ([zS a1 c.length c2,str j]:List Value).toArray w (eX fun v w'=>v=str R/\aO G K (L) w'):=by
 refine aT func171 rfl (by kernel_rfl) (by show (2:Nat)<=27;decide) ?_;unfold aDh at hm
 refine aL (aD (v:=str ([]:bL)) (aG (aL (aI (v:=zS a1 c.length c2) (aA (bQ (len:=c.length) gD rfl) ?_)))));obtain ⟨a,Z,hm⟩:=aC hm
 refine aLp (e:=([]:bL)) dQ aEz rfl rfl V rfl rfl rfl Z rfl (fun b w7 (b2:aO G K (bI 9 K b a.length a::L) w7)=>(aD (v:=zS b a.length a.length) (aG (aP (aL (aI (v:=zS a1 c.length c2) (aA (bQ (len:=c.length) gD rfl) (aI (v:=i64 0) (aG (bR [1] (fun f w=>∃ k,aBz j k=some R/\f 5=zS b k.length a.length/\aO G K (bI 9 K b a.length k::L) w) cA ?_))))))))));obtain ⟨b3,a2,ho⟩:=aC hm
 refine eG [1,11,12] a2 (fun l d f w=>f 5=zS b l.length a.length/\f 13=i64 d/\aO G K (bI 9 K b a.length l::L) w) cA ?_
 ·rintro l d b4 f b5 hm hr ⟨q,g,r⟩
  unfold aBA at hm
  refine aL (aA (cL g rfl) (aG (aP ?_)))
  rcases aH hm with ⟨u,hm⟩|⟨u,hm⟩
  ·refine aN u rfl (aX (aB (aP (bY (aL (bJ g ?_))))));obtain ⟨m,x,hm⟩:=aC hm
   refine aA (cQ gD rfl p rfl rfl g x) ?_;obtain ⟨b6,a3,a4⟩:=cI.el (sz:=1) rfl p x
   cases a4
   refine aA (bZ (t:=0) dC r a3 rfl rfl) (aD (v:=i64 d) (aD (v:=i64 m) (aG (aW (bJ q (aI (v:=i64 d) (aI (v:=i64 m) ?_)))))));obtain ⟨y,a5,hm⟩:=aC hm
   refine aV (vs:=[i64 m]) call93 rfl (aGB r a5) ?_
   rintro _ b7 ⟨rfl,z⟩
   obtain ⟨b8,o,hm⟩:=aC hm
   have a7:=fD z (i:=0) rfl o
   refine aA (gQ dQ rfl a7 rfl rfl rfl o) ?_;obtain ⟨a8,J,hm⟩:=aC hm
   exact mF (i:=0) (t:=0) (ns:=[str y]) (e':=(y:bL)) sizeOf9 z rfl (Hp.le_refl _) rfl rfl rfl o J rfl rfl (eM rfl) rfl (fun cs h=>by cases h;rfl) (fun a9 (b0:aO G K (bI 9 K b a.length a8::L) a9)=>(cG (bN (aB (aW (aA (cH g rfl) (aI (v:=i64 (wr (d+1))) (aG ⟨_,(Option.some.inj hm).symm,aU,(Eq.trans q (congrArg (fun n=>zS b n a.length) (cR J))),rfl,b0⟩))))))))
  ·exact cA
theorem aGE {a:bL} {b:(List Int)} {R:(bL × Bool)} (hm:aAJ a b=some R) (e:aO G K (L) w) (g:G.lo=0) (h:cI K a1 c2 b):
  Calls prog 133 ([str a,zS a1 b.length c2]:List Value).toArray w (eX fun v w'=>v=zT #[str R.1,zB R.2]/\aO G K (L) w'):=by
 refine aT func133 rfl (by kernel_rfl) (by show (2:Nat)<=37;decide) ?_;unfold aAJ at hm
 refine aL (aD (v:=str ([]:bL)) (aD (v:=zB false) (aG (aP (bY (aL (aI (v:=str a) (aA (lF rfl rfl) (aD (v:=zB (a == ([116,97,117]:bL))) (aG ?_))))))))))
 rcases aH hm with ⟨c,hm⟩|⟨c,hm⟩
 ·exact cA
 ·exact aJ c rfl (aP (cO [0,1] (fun f w=>∃ d,tW a b d=some R/\f 12=zB d/\aO G K (L) w) cA cA))
theorem aIa {a:(List bL)} {R:((List Int) × Bool)} (hm:vH a=some R) (k:aO G K (L) w) (n:G.lo=0) (o:cI K a1 c2 a):
  Calls prog 217 ([zS a1 a.length c2]:List Value).toArray w (eX fun v w'=>∃ c d,v=zT #[zS c R.1.length d,zB R.2]/\aO G K (bI 2 K c d R.1::L) w'):=by
 refine aT func217 rfl (by kernel_rfl) (by show (1:Nat)<=28;decide) ?_;unfold vH at hm
 refine aL (aD (v:=zS none 0 0) (aD (v:=zB false) (aG (aL (aD (v:=zS none 0 0) (aG (aP (aL (aI (v:=zS a1 a.length c2) (aA (bQ (len:=a.length) dQ rfl) (aI (v:=i64 0) (aG (bR [] (fun f w=>∃ b e g,tX b=some R/\f 4=zS e b.length g/\aO G K (bI 2 K e g b::L) w) cA ?_)))))))))))))
 have p:=aO.nil (α:=Int) k 2 K
 obtain ⟨q,l,ho⟩:=aC hm
 exact eG [9,10] l (fun h m f w=>∃ i j,f 4=zS i h.length j/\f 11=i64 m/\aO G K (bI 2 K i j h::L) w) cA cA
theorem uR {a b:bL} {R:Bool} (hm:iK a b=some R) (d:aO G K (L) w):
  Calls prog 266 ([str a,str b]:List Value).toArray w (eX fun v w'=>v=zB R/\aO G K (L) w'):=by
 refine aT func266 rfl (by kernel_rfl) (by show (2:Nat)<=21;decide) ?_;unfold iK at hm
 exact aL (aD (v:=zB false) (aG (aP (cO [] (fun f w=>∃ c,fX c=some R/\f 4=zB c/\aO G K (L) w) cA cA))))
theorem tN {a b R:bL} (hm:iF a b=some R) (c:aO G K (L) w):
  Calls prog 249 ([str a,str b]:List Value).toArray w (eX fun v w'=>v=str R/\aO G K (L) w'):=by
 exact cA
theorem aDN {a b R:bL} (hm:lK a b=some R) (c:aO G K (L) w):
  Calls prog 219 ([str a,str b]:List Value).toArray w (eX fun v w'=>v=str R/\aO G K (L) w'):=by
 exact cA
theorem aJB {c:bL} {R:(bL × (List Int) × Bool)} (hm:aEa c=some R) (k:aO G K (L) w) (l:G.lo=0):
  Calls prog 168 ([str c]:List Value).toArray w (eX fun v w'=>∃ h i,v=zT #[str R.1,zS h R.2.1.length i,zB R.2.2]/\aO G K (bI 2 K h i R.2.1::L) w'):=by
 refine aT func168 rfl (by kernel_rfl) (by show (1:Nat)<=43;decide) ?_;unfold aEa at hm
 refine aL (aD (v:=str ([]:bL)) (aD (v:=zS none 0 0) (aD (v:=zB false) (aG (aL (aI (v:=str c) ?_))))));obtain ⟨a,m,hm⟩:=aC hm
 refine aV (vs:=[str c,str ([40]:bL)]) call216 rfl (lib_Cut k m) ?_
 rintro _ x ⟨rfl,y⟩
 refine aI (v:=zT #[str a.1,str a.2.1,zB a.2.2]) (aA (dJ rfl rfl) (aA (dJ rfl rfl) (aA (dJ rfl rfl) (aD (v:=str a.1) (aD (v:=str a.2.1) (aD (v:=zB a.2.2) (aG (aL (aD (v:=zS none 0 0) (aG (yI [0,5] (fun f w=>∃ b d e,oY c a b=some R/\f 8=zS d b.length e/\aO G K (bI 2 K d e b::L) w) ?_ ?_)))))))))))
 ·rintro f z ⟨b,d,e,hm,n,o⟩
  unfold oY at hm
  refine aP (aL (aI (v:=str a.1) (bJ n ?_)));obtain ⟨J,V,p,q,r⟩:=aO.lendSp o (Hp.le_refl _) .head
  obtain ⟨g,t,hm⟩:=aC hm
  refine aV (vs:=[str a.1,zS d b.length e]) call133 rfl (aGE t q l p) ?_
  rintro _ Z ⟨rfl,u⟩
  have a0:=r _ _ u
  exact aI (v:=zT #[str g.1,zB g.2]) (aA (dJ rfl rfl) (aA (dJ rfl rfl) (aD (v:=str g.1) (aD (v:=zB g.2) (aG (aP (cO [5,8] (fun f w=>∃ j,oX a b j=some R/\f 40=zB j/\aO G K (bI 2 K d e b::L) w) cA cA)))))))
 exact cA
theorem aLC {a:bL} {R:Bool} (hm:aED a=some R) (b:aO G K (L) w) (c:G.lo=0):
  Calls prog 130 ([str a]:List Value).toArray w (eX fun v w'=>v=zB R/\aO G K (L) w'):=by
 exact cA
theorem aLD {a:(List bS)} {left R:Int} (hm:aCK a left=some R) (b:aO G K (L) w) (c:cI K a1 c2 a):
  Calls prog 176 ([zS a1 a.length c2,i64 left]:List Value).toArray w (eX fun v w'=>v=i64 R/\aO G K (L) w'):=by
 exact cA
theorem aKB {a:(List (List bS))} {left R:Int} (hm:aFo a left=some R) (h:aO G K (L) w) (i:cI K a1 c2 a):
  Calls prog 140 ([zS a1 a.length c2,i64 left]:List Value).toArray w (eX fun v w'=>v=i64 R/\aO G K (L) w'):=by
 refine aT func140 rfl (by kernel_rfl) (by show (2:Nat)<=27;decide) ?_;unfold aFo at hm
 refine aL (aD (v:=i64 0) (aG (aL (aI (v:=i64 left) (aI (v:=zS a1 a.length c2) (aA (bQ (len:=a.length) aJz rfl) (aA (fU rfl rfl) (aD (v:=i64 (wr (left - (a.length:Int)))) (aG (aP (aL (aI (v:=i64 (wr (left - (a.length:Int)))) (aA (cL rfl rfl) (aG ?_))))))))))))))
 rcases aH hm with ⟨b,hm⟩|⟨b,hm⟩
 ·exact cA
 ·refine aJ b rfl (aX (aB (aP (aL (aD (v:=i64 0) (aG (bR [] (fun f w=>∃ c,aBb c=some R/\f 1=i64 c/\aO G K (L) w) cA ?_)))))));obtain ⟨j,d,ho⟩:=aC hm
  exact eG [0] d (fun e g f w=>f 1=i64 e/\f 5=i64 g/\aO G K (L) w) cA cA
theorem aMJ {a:Part} {left R:Int} (hm:aEE a left=some R) (b:aO G K (L) w) (c:cI K a1 c2 a.Arguments):
  Calls prog 99 ([Value.agg #[i64 a.Kind,i64 a.Number,str a.Name,zS a1 a.Arguments.length c2],i64 left]:List Value).toArray w (eX fun v w'=>v=i64 R/\aO G K (L) w'):=by
 exact cA
theorem aLE {a:(List Part)} {left R:Int} (hm:aHd a left=some R) (h:aO G K (L) w) (i:cI K a1 c2 a):
  Calls prog 65 ([zS a1 a.length c2,i64 left]:List Value).toArray w (eX fun v w'=>v=i64 R/\aO G K (L) w'):=by
 refine aT func65 rfl (by kernel_rfl) (by show (2:Nat)<=27;decide) ?_;unfold aHd at hm
 refine aL (aD (v:=i64 0) (aG (aL (aI (v:=i64 left) (aI (v:=zS a1 a.length c2) (aA (bQ (len:=a.length) aNB rfl) (aA (fU rfl rfl) (aD (v:=i64 (wr (left - (a.length:Int)))) (aG (aP (aL (aI (v:=i64 (wr (left - (a.length:Int)))) (aA (cL rfl rfl) (aG ?_))))))))))))))
 rcases aH hm with ⟨b,hm⟩|⟨b,hm⟩
 ·exact cA
 ·refine aJ b rfl (aX (aB (aP (aL (aD (v:=i64 0) (aG (bR [] (fun f w=>∃ c,aCj c=some R/\f 1=i64 c/\aO G K (L) w) cA ?_)))))));obtain ⟨j,d,ho⟩:=aC hm
  exact eG [0] d (fun e g f w=>f 1=i64 e/\f 5=i64 g/\aO G K (L) w) cA cA
theorem aHr {a:Definition} {left R:Int} (hm:oZ a left=some R) (b:aO G K (L) w) (c:cI K a1 c2 a.Body):
  Calls prog 39 ([Value.agg #[str a.Name,i64 a.Parameters,zS a1 a.Body.length c2],i64 left]:List Value).toArray w (eX fun v w'=>v=i64 R/\aO G K (L) w'):=by
 exact cA
theorem aGF {a:(List Definition)} {left R:Int} (hm:wM a left=some R) (h:aO G K (L) w) (i:cI K a1 c2 a):
  Calls prog 13 ([zS a1 a.length c2,i64 left]:List Value).toArray w (eX fun v w'=>v=i64 R/\aO G K (L) w'):=by
 refine aT func13 rfl (by kernel_rfl) (by show (2:Nat)<=27;decide) ?_;unfold wM at hm
 refine aL (aD (v:=i64 0) (aG (aL (aI (v:=i64 left) (aI (v:=zS a1 a.length c2) (aA (bQ (len:=a.length) aNC rfl) (aA (fU rfl rfl) (aD (v:=i64 (wr (left - (a.length:Int)))) (aG (aP (aL (aI (v:=i64 (wr (left - (a.length:Int)))) (aA (cL rfl rfl) (aG ?_))))))))))))))
 rcases aH hm with ⟨b,hm⟩|⟨b,hm⟩
 ·exact cA
 ·refine aJ b rfl (aX (aB (aP (aL (aD (v:=i64 0) (aG (bR [] (fun f w=>∃ c,qL c=some R/\f 1=i64 c/\aO G K (L) w) cA ?_)))))));obtain ⟨j,d,ho⟩:=aC hm
  exact eG [0] d (fun e g f w=>f 1=i64 e/\f 5=i64 g/\aO G K (L) w) cA cA
theorem aKC {a:(List Int)} {left R:Int} (hm:aFp a left=some R) (b:aO G K (L) w) (c:cI K a1 c2 a):
  Calls prog 66 ([zS a1 a.length c2,i64 left]:List Value).toArray w (eX fun v w'=>v=i64 R/\aO G K (L) w'):=by
 exact cA
theorem aIb {a:bU} {left R:Int} (hm:rM a left=some R) (b:aO G K (L) w) (c:cI K a1 c2 a.Values):
  Calls prog 40 ([Value.agg #[i64 a.Definition,zS a1 a.Values.length c2],i64 left]:List Value).toArray w (eX fun v w'=>v=i64 R/\aO G K (L) w'):=by
 exact cA
theorem aHs {a:(List bU)} {left R:Int} (hm:yQ a left=some R) (h:aO G K (L) w) (i:cI K a1 c2 a):
  Calls prog 14 ([zS a1 a.length c2,i64 left]:List Value).toArray w (eX fun v w'=>v=i64 R/\aO G K (L) w'):=by
 refine aT func14 rfl (by kernel_rfl) (by show (2:Nat)<=27;decide) ?_;unfold yQ at hm
 refine aL (aD (v:=i64 0) (aG (aL (aI (v:=i64 left) (aI (v:=zS a1 a.length c2) (aA (bQ (len:=a.length) aND rfl) (aA (fU rfl rfl) (aD (v:=i64 (wr (left - (a.length:Int)))) (aG (aP (aL (aI (v:=i64 (wr (left - (a.length:Int)))) (aA (cL rfl rfl) (aG ?_))))))))))))))
 rcases aH hm with ⟨b,hm⟩|⟨b,hm⟩
 ·exact cA
 ·refine aJ b rfl (aX (aB (aP (aL (aD (v:=i64 0) (aG (bR [] (fun f w=>∃ c,rX c=some R/\f 1=i64 c/\aO G K (L) w) cA ?_)))))));obtain ⟨j,d,ho⟩:=aC hm
  exact eG [0] d (fun e g f w=>f 1=i64 e/\f 5=i64 g/\aO G K (L) w) cA cA
theorem aJC {a:cB} {left R:Int} (hm:xR a left=some R) (b:aO G K (L) w):
  Calls prog 41 ([Value.agg #[str a.Left,str a.Right,str a.Result],i64 left]:List Value).toArray w (eX fun v w'=>v=i64 R/\aO G K (L) w'):=by
 exact cA
theorem aIN {a:(List cB)} {left R:Int} (hm:aCk a left=some R) (h:aO G K (L) w) (i:cI K a1 c2 a):
  Calls prog 15 ([zS a1 a.length c2,i64 left]:List Value).toArray w (eX fun v w'=>v=i64 R/\aO G K (L) w'):=by
 refine aT func15 rfl (by kernel_rfl) (by show (2:Nat)<=27;decide) ?_;unfold aCk at hm
 refine aL (aD (v:=i64 0) (aG (aL (aI (v:=i64 left) (aI (v:=zS a1 a.length c2) (aA (bQ (len:=a.length) aNE rfl) (aA (fU rfl rfl) (aD (v:=i64 (wr (left - (a.length:Int)))) (aG (aP (aL (aI (v:=i64 (wr (left - (a.length:Int)))) (aA (cL rfl rfl) (aG ?_))))))))))))))
 rcases aH hm with ⟨b,hm⟩|⟨b,hm⟩
 ·exact cA
 ·refine aJ b rfl (aX (aB (aP (aL (aD (v:=i64 0) (aG (bR [] (fun f w=>∃ c,wN c=some R/\f 1=i64 c/\aO G K (L) w) cA ?_)))))));obtain ⟨j,d,ho⟩:=aC hm
  exact eG [0] d (fun e g f w=>f 1=i64 e/\f 5=i64 g/\aO G K (L) w) cA cA
theorem aER {a:(List bL)} {left R:Int} (hm:aBB a left=some R) (h:aO G K (L) w) (i:cI K a1 c2 a):
  Calls prog 16 ([zS a1 a.length c2,i64 left]:List Value).toArray w (eX fun v w'=>v=i64 R/\aO G K (L) w'):=by
 refine aT func16 rfl (by kernel_rfl) (by show (2:Nat)<=28;decide) ?_;unfold aBB at hm
 refine aL (aD (v:=i64 0) (aG (aL (aI (v:=i64 left) (aI (v:=zS a1 a.length c2) (aA (bQ (len:=a.length) dQ rfl) (aA (fU rfl rfl) (aD (v:=i64 (wr (left - (a.length:Int)))) (aG (aP (aL (aI (v:=i64 (wr (left - (a.length:Int)))) (aA (cL rfl rfl) (aG ?_))))))))))))))
 rcases aH hm with ⟨b,hm⟩|⟨b,hm⟩
 ·exact cA
 ·refine aJ b rfl (aX (aB (aP (aL (aD (v:=i64 0) (aG (bR [] (fun f w=>∃ c,yR c=some R/\f 1=i64 c/\aO G K (L) w) cA ?_)))))));obtain ⟨j,d,ho⟩:=aC hm
  exact eG [0] d (fun e g f w=>f 1=i64 e/\f 5=i64 g/\aO G K (L) w) cA cA
theorem aKD {a:cW} {left R:Int} (hm:aDi a left=some R) (b:aO G K (L) w) (c:cI K a1 c2 a.Definitions) (d:cI K a4 c5 a.Components) (e:cI K a7 c8 a.Meetings) (g:cI K a10 c11 a.Allowed) (h:cI K a13 c14 a.Hidden):
  Calls prog 4 ([Value.agg #[zS a1 a.Definitions.length c2,zS a4 a.Components.length c5,zS a7 a.Meetings.length c8,zS a10 a.Allowed.length c11,zS a13 a.Hidden.length c14],i64 left]:List Value).toArray w (eX fun v w'=>v=i64 R/\aO G K (L) w'):=by
 exact cA
theorem gY {n low a:Int} {R:Bool} (hm:lQ n low a=some R) (c:aO G K (L) w):
  Calls prog 18 ([i64 n,i64 low,i64 a]:List Value).toArray w (eX fun v w'=>v=zB R/\aO G K (L) w'):=by
 refine aT func18 rfl (by kernel_rfl) (by show (3:Nat)<=15;decide) ?_;unfold lQ at hm
 exact aL (aD (v:=zB false) (aG (aP (cO [] (fun f w=>∃ b,aFq b=some R/\f 6=zB b/\aO G K (L) w) cA cA))))
theorem aFR {c:UInt8} {R:Bool} (hm:aDj c=some R) (b:aO G K (L) w):
  Calls prog 141 ([Value.int .u8 (c.toNat:Int)]:List Value).toArray w (eX fun v w'=>v=zB R/\aO G K (L) w'):=by
 refine aT func141 rfl (by kernel_rfl) (by show (1:Nat)<=9;decide) ?_;unfold aDj at hm
 exact aL (aD (v:=zB false) (aG (aP (cO [] (fun f w=>∃ a,aBc a=some R/\f 2=zB a/\aO G K (L) w) cA cA))))
theorem aFS {c:UInt8} {R:Bool} (hm:aDk c=some R) (b:aO G K (L) w):
  Calls prog 142 ([Value.int .u8 (c.toNat:Int)]:List Value).toArray w (eX fun v w'=>v=zB R/\aO G K (L) w'):=by
 refine aT func142 rfl (by kernel_rfl) (by show (1:Nat)<=9;decide) ?_;unfold aDk at hm
 exact aL (aD (v:=zB false) (aG (aP (cO [] (fun f w=>∃ a,aBd a=some R/\f 2=zB a/\aO G K (L) w) cA cA))))
theorem aAA {a:bL} {R:Bool} (hm:xS a=some R) (l:aO G K (L) w):
  Calls prog 100 ([str a]:List Value).toArray w (eX fun v w'=>v=zB R/\aO G K (L) w'):=by
 refine aT func100 rfl (by kernel_rfl) (by show (1:Nat)<=35;decide) ?_;unfold xS at hm
 refine aL (aD (v:=zB false) (aG (aP (aP (cO [0] (fun f w=>∃ b,qM a b=some R/\f 16=zB b/\aO G K (L) w) ?_ ?_)))))
 ·rintro f m ⟨b,hm,h,n⟩
  unfold qM at hm
  refine aB ?_
  rcases aH hm with ⟨d,hm⟩|⟨d,hm⟩
  ·exact cA
  ·refine aJ d h (aX (aB (aP (aL (aD (v:=i64 0) (aG (bR [] (fun f w=>yS=some R/\aO G K (L) w) cA ?_)))))));obtain ⟨o,i,ho⟩:=aC hm
   refine dS [0] i (fun c f w=>f 3=i64 c/\aO G K (L) w) cA ?_
   ·rintro c j f p hm hr ⟨k,q⟩
    unfold yU at hm
    refine aP (aL (bJ k (aI (v:=str a) (aA (gP runUnderlying9 rfl) (aA (cL rfl rfl) (aG ?_))))))
    rcases aH hm with ⟨e,hm⟩|⟨e,hm⟩
    ·exact aN e rfl (aX (aB (aP (bY (aP (cO [0,3] (fun f w=>∃ g,yT c g=some j/\f 34=zB g/\aO G K (L) w) cA cA))))))
    ·exact cA
 exact cA
theorem aES {p:Part} {a:Nat} {R:Int} (hm:xT p=some R) (d:aO G K (L) w) (b:iQ K a1 a [i64 p.Kind,i64 p.Number,str p.Name,zS a4 p.Arguments.length c5]) (e:cI K a4 c5 p.Arguments):
  Calls prog 146 ([eN a1 a]:List Value).toArray w (eX fun v w'=>v=i64 R/\aO G K (L) w'):=by
 refine aT func146 rfl (by kernel_rfl) (by show (1:Nat)<=13;decide) ?_;unfold xT at hm
 exact aL (aD (v:=i64 0) (aG (aP (aL (aI (v:=eN a1 a) (aA (dT rfl b) (aA (cM (k':=a+0) fA rfl b rfl) (aA (bZ (t:=0) dC d b rfl rfl) (aG (bY (yI [6] (fun f w=>∃ c,pA p c=some R/\f 7=zB c/\aO G K (L) w) cA cA)))))))))))
theorem aKE {a:(List Part)} {R:Bool} (hm:aDl a=some R) (j:aO G K (L) w) (k:cI K a1 c2 a):
  Calls prog 143 ([zS a1 a.length c2]:List Value).toArray w (eX fun v w'=>v=zB R/\aO G K (L) w'):=by
 refine aT func143 rfl (by kernel_rfl) (by show (1:Nat)<=30;decide) ?_;unfold aDl at hm
 refine aL (aD (v:=zB false) (aG (aP (aP (cO [0] (fun f w=>∃ b,vK a b=some R/\f 12=zB b/\aO G K (L) w) ?_ ?_)))))
 ·rintro f l ⟨b,hm,e,m⟩
  unfold vK at hm
  refine aB ?_
  rcases aH hm with ⟨c,hm⟩|⟨c,hm⟩
  ·exact cA
  ·refine aJ c e (aX (aB (aL (aD (v:=i64 1) (aG (aP (aL (aD (v:=i64 0) (aG (bR [] (fun f w=>∃ d,aBe d=some R/\f 3=i64 d/\aO G K (L) w) cA ?_))))))))));obtain ⟨n,g,ho⟩:=aC hm
   exact eG [0] g (fun h i f w=>f 3=i64 h/\f 4=i64 i/\aO G K (L) w) cA cA
 exact cA
end Gv
namespace Gv
open Gv.Hp renaming le_refl→zR
open Go.Value renaming slice→zS,bool→zB
open Go Go.Proofs Go.Proofs.Tryz
set_option maxRecDepth 20000
set_option maxHeartbeats 40000000
variable {G:qG} {K:Hp} {L:List iZ} {w:World} {a1 a4 a7 a10 a13 a16:Option Addr} {c5 c2 c8 c11 c14 c17:Nat}
theorem aLF {p:Part} {a:Nat} {R:Bool} (hm:aEF p=some R) (m:aO G K (L) w) (b:iQ K a1 a [i64 p.Kind,i64 p.Number,str p.Name,zS a4 p.Arguments.length c5]) (n:cI K a4 c5 p.Arguments):
  Calls prog 177 ([eN a1 a]:List Value).toArray w (eX fun v w'=>v=zB R/\aO G K (L) w'):=by
 refine aT func177 rfl (by kernel_rfl) (by show (1:Nat)<=73;decide) ?_;unfold aEF at hm
 refine aL (aD (v:=zB false) (aG (aP (aL (aI (v:=eN a1 a) (aA (dT rfl b) (aA (cM (k':=a+0) fA rfl b rfl) (aA (bZ (t:=0) dC m b rfl rfl) (aG (bY (yI [0,6] (fun f w=>∃ c,yX p c=some R/\f 7=zB c/\aO G K (L) w) ?_ ?_)))))))))))
 ·rintro f o ⟨c,hm,g,q⟩
  unfold yX at hm
  rcases aH hm with ⟨d,hm⟩|⟨d,hm⟩
  ·exact aN d g (aP (cO [] (fun f w=>∃ h,tY h=some R/\f 2=zB h/\aO G K (L) w) cA cA))
  ·refine aJ d g (aL (aA (cP rfl rfl) (aD (v:=zB (p.Kind == 1)) (aG ?_))))
   rcases aH hm with ⟨i,hm⟩|⟨i,hm⟩
   ·exact cA
   ·refine aJ i rfl (aL (aA (cP rfl rfl) (aD (v:=zB (p.Kind == 3)) (aG ?_))))
    rcases aH hm with ⟨e,hm⟩|⟨e,hm⟩
    ·exact aN e rfl (aP (cO [] (fun f w=>∃ j,yV j=some R/\f 2=zB j/\aO G K (L) w) cA cA))
    ·refine aJ e rfl (aL (aA (cP rfl rfl) (aD (v:=zB (p.Kind == 4)) (aG ?_))))
     rcases aH hm with ⟨k,hm⟩|⟨k,hm⟩
     ·exact aN k rfl (aP (cO [] (fun f w=>∃ l,yW l=some R/\f 2=zB l/\aO G K (L) w) cA cA))
     ·exact cA
 exact cA
theorem aHN {a:(List Part)} {b R:Int} (hm:aEG a b=some R) (h:aO G K (L) w) (i:cI K a1 c2 a):
  Calls prog 108 ([zS a1 a.length c2,i64 b]:List Value).toArray w (eX fun v w'=>v=i64 R/\aO G K (L) w'):=by
 refine aT func108 rfl (by kernel_rfl) (by show (2:Nat)<=18;decide) ?_;unfold aEG at hm
 refine aL (aD (v:=i64 0) (aG (aL (aD (v:=i64 1) (aG (aP (bR [] (fun f w=>∃ c,aBC c=some R/\f 1=i64 c/\aO G K (L) w) cA ?_)))))));obtain ⟨j,d,ho⟩:=aC hm
 exact eG [0] d (fun e g f w=>f 1=i64 e/\f 5=i64 g/\aO G K (L) w) cA cA
theorem aKF {d:Definition} {b:Nat} {part R:Int} (hm:aAK d part=some R) (m:aO G K (L) w) (c:iQ K a1 b [str d.Name,i64 d.Parameters,zS a4 d.Body.length c5]) (q:cI K a4 c5 d.Body):
  Calls prog 178 ([eN a1 b,i64 part]:List Value).toArray w (eX fun v w'=>v=i64 R/\aO G K (L) w'):=by
 refine aT func178 rfl (by kernel_rfl) (by show (2:Nat)<=38;decide) ?_;unfold aAK at hm
 refine aL (aD (v:=i64 0) (aG (aL (aI (v:=eN a1 b) (aA (dT rfl c) (aA (cM (k':=b+1) qX rfl c rfl) (aA (bZ (t:=1) dC m c rfl rfl) (aD (v:=i64 d.Parameters) (aG (aP (aL (aD (v:=i64 0) (aG (bR [] (fun f w=>∃ h,aBf h=some R/\f 5=i64 h/\aO G K (L) w) cA ?_))))))))))))));obtain ⟨r,n,ho⟩:=aC hm
 refine eG [0,1] n (fun e a f w=>f 5=i64 e/\f 6=i64 a/\aO G K (L) w) cA ?_
 ·rintro e a i f u hm hr ⟨x,j,y⟩
  unfold lD at hm
  refine aP (aL (bJ j (aI (v:=i64 part) (aA (cL rfl rfl) (aG ?_)))))
  rcases aH hm with ⟨k,hm⟩|⟨k,hm⟩
  ·refine aN k rfl (aX (aB (aP (bR [0,1,6] (fun f w=>∃ g,vL a g=some i/\f 5=i64 g/\aO G K (L) w) ?_ ?_))))
   ·rintro f z ⟨g,hm,o,p⟩
    unfold vL at hm
    exact aB (aW (bJ j (aA (cH rfl rfl) (aD (v:=i64 (wr (a+1))) (aG ⟨_,(Option.some.inj hm).symm,aU,o,rfl,p⟩)))))
   exact aP (cO [0,1,5,6] (fun f w=>∃ l,vM e a l=some i/\f 34=zB l/\aO G K (L) w) cA cA)
  ·exact cA
theorem aLG {t:bS} {a:Nat} {b:Int} {R:Bool} (hm:aEH t b=some R) (c:aO G K (L) w) (d:iQ K a1 a [i64 t.Kind,i64 t.Value]):
  Calls prog 230 ([eN a1 a,i64 b]:List Value).toArray w (eX fun v w'=>v=zB R/\aO G K (L) w'):=by
 exact cA
theorem aFT {t:bS} {a:Nat} {R:Int} (hm:aAL t=some R) (b:aO G K (L) w) (c:iQ K a1 a [i64 t.Kind,i64 t.Value]):
  Calls prog 231 ([eN a1 a]:List Value).toArray w (eX fun v w'=>v=i64 R/\aO G K (L) w'):=by
 exact cA
theorem aOv {e:(List bS)} {d a:Int} {R:Bool} (hm:aIJ e d a=some R) (n:aO G K (L) w) (o:cI K a1 c2 e):
  Calls prog 179 ([zS a1 e.length c2,i64 d,i64 a]:List Value).toArray w (eX fun v w'=>v=zB R/\aO G K (L) w'):=by
 refine aT func179 rfl (by kernel_rfl) (by show (3:Nat)<=38;decide) ?_;unfold aIJ at hm
 refine aL (aD (v:=zB false) (aG (aP (aL (aI (v:=zS a1 e.length c2) (aA (bQ (len:=e.length) lW rfl) (aI (v:=i64 a) (aA (jU rfl rfl) (aG ?_)))))))))
 rcases aH hm with ⟨g,hm⟩|⟨g,hm⟩
 ·exact cA
 ·refine aJ g rfl (aX (aB (aL (aD (v:=i64 1) (aG (aP (aL (aD (v:=i64 0) (aG (bR [] (fun f w=>∃ h,aFr h=some R/\f 7=i64 h/\aO G K (L) w) cA ?_))))))))));obtain ⟨p,k,ho⟩:=aC hm
  refine eG [0,1] k (fun b c f w=>f 7=i64 b/\f 8=i64 c/\aO G K (L) w) cA ?_
  ·rintro b c l f q hm hr ⟨r,m,t⟩
   unfold aDn at hm
   refine aP (aL (bJ m (aI (v:=zS a1 e.length c2) (aA (bQ (len:=e.length) lW rfl) (aA (cL rfl rfl) (aG ?_))))))
   rcases aH hm with ⟨i,hm⟩|⟨i,hm⟩
   ·exact aN i rfl (aX (aB (aP (bY (aP (aP (cO [0,1,7,8] (fun f w=>∃ j,aDm e b c j=some l/\f 28=zB j/\aO G K (L) w) cA cA)))))))
   ·exact cA
theorem aJD {j:(List Definition)} {d:Definition} {h:Nat} {e R:Int} (hm:xU j d e=some R) (l:aO G K (L) w) (h3:cI K a1 c2 j) (k:iQ K a4 h [str d.Name,i64 d.Parameters,zS a7 d.Body.length c8]) (m:cI K a7 c8 d.Body):
  Calls prog 144 ([zS a1 j.length c2,eN a4 h,i64 e]:List Value).toArray w (eX fun v w'=>v=i64 R/\aO G K (L) w'):=by
 refine aT func144 rfl (by kernel_rfl) (by show (3:Nat)<=126;decide) ?_;unfold xU at hm
 refine aL (aD (v:=i64 0) (aG (aL (aI (v:=eN a4 h) (aA (dT rfl k) (aA (cM (k':=h+2) jQ rfl k rfl) (aA (bZ (t:=2) yM l k rfl rfl) (aI (v:=i64 e) ?_))))))));obtain ⟨a,r,hm⟩:=aC hm
 refine aA (cQ lH rfl m rfl rfl rfl r) ?_;obtain ⟨c6,a2,a3⟩:=cI.el (sz:=4) rfl m r
 obtain ⟨b,c,rfl,a5⟩:=a3
 refine aA (eP (t:=0) (vs:=[i64 a.Kind,i64 a.Number,str a.Name,zS b a.Arguments.length c]) xG l a2 rfl rfl rfl) (dA (vs:=[i64 0,i64 0,str ([]:bL),zS none 0 0]) zeroValue157 l rfl (fun g c7 a6=>(cT (i:=0) (ns:=[i64 a.Kind,i64 a.Number,str a.Name,zS b a.Arguments.length c]) (us:=[i64 a.Kind,i64 a.Number,str a.Name,zS b a.Arguments.length c]) sizeOf157 a6 rfl rfl rfl rfl rfl (eM rfl) rfl rfl (fun a8 (a9:aO G K (box g 157 [i64 a.Kind,i64 a.Number,str a.Name,zS b a.Arguments.length c]::L) a8)=>(aG (aP (aL ?_)))))))
 obtain ⟨c9,b0,b1,b2,b3⟩:=aO.lendBp a9 .head
 obtain ⟨d0,b4,hm⟩:=aC hm
 refine aV (vs:=[eN (some ⟨g,0,none⟩) 0]) call177 rfl (aLF b4 b2 b1 (a5.mono b0)) ?_
 rintro _ d1 ⟨rfl,b5⟩
 have d2:=b3 _ _ b5
 refine aA (dB rfl) (aG ?_)
 rcases aH hm with ⟨u,hm⟩|⟨u,hm⟩
 ·exact cA
 ·refine aJ u rfl (aX (aB (aP (aP (cO [0,1,2,7] (fun f w=>∃ n,pE j d e a n=some R/\f 28=zB n/\aO G K (box g 157 [i64 a.Kind,i64 a.Number,str a.Name,zS b a.Arguments.length c]::L) w) ?_ ?_)))))
  ·rintro f d3 ⟨n,hm,b6,d4⟩
   unfold pE at hm
   refine aB ?_
   rcases aH hm with ⟨x,hm⟩|⟨x,hm⟩
   ·exact cA
   ·refine aJ x b6 (aX (aB (aP (aP (cO [0,1,2,7] (fun f w=>∃ o,kA j d e a o=some R/\f 51=zB o/\aO G K (box g 157 [i64 a.Kind,i64 a.Number,str a.Name,zS b a.Arguments.length c]::L) w) ?_ ?_)))))
    ·rintro f d5 ⟨o,hm,b7,y⟩
     unfold kA at hm
     refine aB ?_
     rcases aH hm with ⟨c45,hm⟩|⟨c45,hm⟩
     ·exact cA
     ·refine aJ c45 b7 (aX (aB (aL (aA (bC (t':=3) jP rfl rfl) (aA (bP qI y (i:=0) rfl rfl rfl) (aA (bQ (len:=a.Arguments.length) lJ rfl) (aD (v:=i64 (a.Arguments.length:Int)) (aG (aP (aL (aA (bC (t':=0) fA rfl rfl) (aA (bP dC y (i:=0) rfl rfl rfl) (aG (bR [1,2,7,8] (fun f w=>jZ d e a=some R/\aO G K (box g 157 [i64 a.Kind,i64 a.Number,str a.Name,zS b a.Arguments.length c]::L) w) ?_ ?_))))))))))))))
      ·rintro f d6 ⟨hm,d7⟩
       unfold jZ at hm
       refine aB (aP (aP (cO [1,2,7,8] (fun f w=>∃ p,mV d e a p=some R/\f 102=zB p/\aO G K (box g 157 [i64 a.Kind,i64 a.Number,str a.Name,zS b a.Arguments.length c]::L) w) ?_ ?_)))
       ·rintro f d8 ⟨p,hm,b8,b9⟩
        unfold mV at hm
        refine aB ?_
        rcases aH hm with ⟨z,hm⟩|⟨z,hm⟩
        ·exact cA
        ·refine aJ z b8 (aX (aB (aL (aI (v:=eN a4 h) (aI (v:=i64 e) ?_)))));obtain ⟨J,c0,hm⟩:=aC hm
         refine aV (vs:=[eN a4 h,i64 e]) call178 rfl (aKF c0 b9 k m) ?_
         rintro _ d9 ⟨rfl,e0⟩
         refine aD (v:=i64 J) (aG (aP (aP (cO [7,8,9] (fun f w=>∃ q,pC a J q=some R/\f 112=zB q/\aO G K (box g 157 [i64 a.Kind,i64 a.Number,str a.Name,zS b a.Arguments.length c]::L) w) ?_ ?_))))
         ·rintro f e1 ⟨q,hm,c1,e2⟩
          unfold pC at hm
          refine aB ?_
          rcases aH hm with ⟨V,hm⟩|⟨V,hm⟩
          ·exact cA
          ·refine aJ V c1 (aX (aB (aP (aL (aD (v:=i64 0) (aG (bR [] (fun f w=>sO=some R/\aO G K (L) w) cA ?_)))))));obtain ⟨e3,c3,ho⟩:=aC hm
           exact dS [7,8,9] c3 (fun c4 f w=>f 10=i64 c4/\aO G K (box g 157 [i64 a.Kind,i64 a.Number,str a.Name,zS b a.Arguments.length c]::L) w) cA cA
         exact cA
       exact cA
      refine aL (aA (cP rfl rfl) (aD (v:=zB (a.Kind == 1)) (aG ?_)))
      rcases aH hm with ⟨Z,hm⟩|⟨Z,hm⟩
      ·exact aN Z rfl (aP (cO [1,2,7,8] (fun f w=>∃ a0,pD d e a a0=some R/\f 69=zB a0/\aO G K (box g 157 [i64 a.Kind,i64 a.Number,str a.Name,zS b a.Arguments.length c]::L) w) cA cA))
      ·exact cA
    exact cA
  exact cA
theorem aLH {b:(List Definition)} {d:Definition} {a:Nat} {R:(Int × Int)} (hm:aCL b d=some R) (e:aO G K (L) w) (l:cI K a1 c2 b) (c:iQ K a4 a [str d.Name,i64 d.Parameters,zS a7 d.Body.length c8]) (h:cI K a7 c8 d.Body):
  Calls prog 101 ([zS a1 b.length c2,eN a4 a]:List Value).toArray w (eX fun v w'=>v=Value.tuple #[i64 R.1,i64 R.2]/\aO G K (L) w'):=by
 refine aT func101 rfl (by kernel_rfl) (by show (2:Nat)<=31;decide) ?_;unfold aCL at hm
 refine aL (aD (v:=i64 0) (aD (v:=i64 0) (aG (aP (aL (aI (v:=eN a4 a) (aA (dT rfl c) (aA (cM (k':=a+2) jQ rfl c rfl) (aA (bZ (t:=2) yM e c rfl rfl) ?_)))))))));obtain ⟨m,i,hm⟩:=aC hm
 refine aV (vs:=[zS a7 d.Body.length c8]) call143 rfl (aKE i e h) ?_
 rintro _ n ⟨rfl,o⟩
 refine aA (dB rfl) (aG ?_)
 rcases aH hm with ⟨g,hm⟩|⟨g,hm⟩
 ·exact cA
 ·refine aJ g rfl (aX (aB (aP (aL (aD (v:=i64 0) (aG (bR [] (fun f w=>aCl=some R/\aO G K (L) w) cA ?_)))))));obtain ⟨p,j,ho⟩:=aC hm
  exact dS [0,1] j (fun k f w=>f 6=i64 k/\aO G K (L) w) cA cA
theorem aLI {a:(List Definition)} {R:Bool} (hm:aAM a=some R) (t:aO G K (L) w) (u:cI K a1 c2 a):
  Calls prog 67 ([zS a1 a.length c2]:List Value).toArray w (eX fun v w'=>v=zB R/\aO G K (L) w'):=by
 refine aT func67 rfl (by kernel_rfl) (by show (1:Nat)<=70;decide) ?_;unfold aAM at hm
 refine aL (aD (v:=zB false) (aG (aP (aP (cO [0] (fun f w=>∃ c,uC a c=some R/\f 15=zB c/\aO G K (L) w) ?_ ?_)))))
 ·rintro f x ⟨c,hm,k,y⟩
  unfold uC at hm
  refine aB ?_
  rcases aH hm with ⟨g,hm⟩|⟨g,hm⟩
  ·exact cA
  ·refine aJ g k (aX (aB (aP (aL (aD (v:=i64 0) (aG (bR [0] (fun f w=>uA a=some R/\aO G K (L) w) ?_ ?_)))))))
   ·rintro f z ⟨hm,J⟩
    unfold uA at hm
    refine aB (aP (aL (aD (v:=i64 0) (aG (bR [] (fun f w=>aCm=some R/\aO G K (L) w) cA ?_)))));obtain ⟨V,l,ho⟩:=aC hm
    exact dS [0] l (fun m f w=>f 5=i64 m/\aO G K (L) w) cA cA
   obtain ⟨Z,n,ho⟩:=aC hm
   refine dS [0] n (fun b f w=>f 3=i64 b/\aO G K (L) w) cA ?_
   ·rintro b d f a0 hm hr ⟨h,a2⟩
    unfold zF at hm
    refine aP (aL (bJ h (aI (v:=zS a1 a.length c2) (aA (bQ (len:=a.length) jV rfl) (aA (cL rfl rfl) (aG ?_))))))
    rcases aH hm with ⟨i,hm⟩|⟨i,hm⟩
    ·refine aN i rfl (aX (aB (aP (bR [0,3] (fun f w=>aCn b=some d/\aO G K (L) w) ?_ ?_))))
     ·rintro f a3 ⟨hm,o⟩
      unfold aCn at hm
      exact aB (aW (bJ h (aA (cH rfl rfl) (aD (v:=i64 (wr (b+1))) (aG ⟨_,(Option.some.inj hm).symm,aU,rfl,o⟩)))))
     refine aP (aP (cO [0,3] (fun f w=>∃ e,zD a b e=some d/\f 37=zB e/\aO G K (L) w) ?_ ?_))
     ·rintro f a4 ⟨e,hm,p,a5⟩
      unfold zD at hm
      refine aB ?_
      rcases aH hm with ⟨j,hm⟩|⟨j,hm⟩
      ·exact cA
      ·refine aJ j p (aX (aB (aL (aD (v:=i64 0) (aG (bR [0,3] (fun f w=>uB b=some d/\aO G K (L) w) cA ?_))))));obtain ⟨a6,q,ho⟩:=aC hm
       exact dS [0,3] q (fun r f w=>f 4=i64 r/\aO G K (L) w) cA cA
     exact cA
    ·exact cA
 exact cA
theorem aLJ {a:(List Int)} {R:Bool} (hm:aEI a=some R) (d:aO G K (L) w) (e:cI K a1 c2 a):
  Calls prog 102 ([zS a1 a.length c2]:List Value).toArray w (eX fun v w'=>v=zB R/\aO G K (L) w'):=by
 refine aT func102 rfl (by kernel_rfl) (by show (1:Nat)<=16;decide) ?_;unfold aEI at hm
 refine aL (aD (v:=zB false) (aG (aP (aL (aD (v:=i64 0) (aG (bR [] (fun f w=>aCo=some R/\aO G K (L) w) cA ?_)))))));obtain ⟨g,b,ho⟩:=aC hm
 exact dS [0] b (fun c f w=>f 3=i64 c/\aO G K (L) w) cA cA
theorem aGG {a:cW} {e:Nat} {R:Bool} (hm:qZ a=some R) (hs:aO G K (L) w) (d:iQ K a1 e [zS a4 a.Definitions.length c5,zS a7 a.Components.length c8,zS a10 a.Meetings.length c11,zS a13 a.Allowed.length c14,zS a16 a.Hidden.length c17]) (h6:cI K a4 c5 a.Definitions) (m:cI K a7 c8 a.Components) (a9:cI K a10 c11 a.Meetings) (b0:cI K a13 c14 a.Allowed) (b1:cI K a16 c17 a.Hidden):
  Calls prog 68 ([eN a1 e]:List Value).toArray w (eX fun v w'=>v=zB R/\aO G K (L) w'):=by
 refine aT func68 rfl (by kernel_rfl) (by show (1:Nat)<=64;decide) ?_;unfold qZ at hm
 refine aL (aD (v:=zB false) (aG (aP (aP (cO [0] (fun f w=>∃ k,mY a k=some R/\f 18=zB k/\aO G K (L) w) ?_ ?_)))))
 ·rintro f b2 ⟨k,hm,y,b3⟩
  unfold mY at hm
  refine aB ?_
  rcases aH hm with ⟨n,hm⟩|⟨n,hm⟩
  ·exact cA
  ·refine aJ n y (aX (aB (aP (aL (aD (v:=i64 0) (aG (bR [] (fun f w=>qN=some R/\aO G K (L) w) cA ?_)))))));obtain ⟨b4,z,ho⟩:=aC hm
   refine dS [0] z (fun l f w=>f 3=i64 l/\aO G K (L) w) cA ?_
   ·rintro l J f b5 hm hr ⟨o,j⟩
    unfold mX at hm
    refine aP (aL (bJ o (aI (v:=eN a1 e) (aA (dT rfl d) (aA (cM (k':=e+1) qJ rfl d rfl) (aA (bZ (t:=1) aDV j d rfl rfl) (aA (bQ (len:=a.Components.length) sL rfl) (aA (cL rfl rfl) (aG ?_)))))))))
    rcases aH hm with ⟨p,hm⟩|⟨p,hm⟩
    ·refine aN p rfl (aX (aB (aP (bY (aL (aI (v:=eN a1 e) (aA (dT rfl d) (aA (cM (k':=e+1) qJ rfl d rfl) (aA (bZ (t:=1) aDV j d rfl rfl) (bJ o ?_))))))))));obtain ⟨c,q,hm⟩:=aC hm
     refine aA (cQ sL rfl m rfl rfl rfl q) ?_;obtain ⟨b6,V,Z⟩:=cI.el (sz:=2) rfl m q
     obtain ⟨g,h,rfl,b7⟩:=Z
     refine aA (eP (t:=0) (vs:=[i64 c.Definition,zS g c.Values.length h]) aFl j V rfl rfl rfl) (dA (vs:=[i64 0,zS none 0 0]) zeroValue102 j rfl (fun r b8 a0=>(cT (i:=0) (ns:=[i64 c.Definition,zS g c.Values.length h]) (us:=[i64 c.Definition,zS g c.Values.length h]) sizeOf102 a0 rfl rfl rfl rfl rfl (eM rfl) rfl rfl (fun a2 (b:aO G K (box r 102 [i64 c.Definition,zS g c.Values.length h]::L) a2)=>(aG (aP (aP (dF (C:=fun w'=>aO G K (box r 102 [i64 c.Definition,zS g c.Values.length h]::L) w') cC (by kernel_rfl) (aO.mono b (dY.drew _)) (aZ (fun _ b=>bC (t':=0) vD rfl rfl) (aZ (fun _ b=>bP dC b (i:=0) rfl rfl rfl) (aZ (fun _ b=>bM (v:=eN a1 e) rfl) (aZ (fun _ b=>dT rfl d) (aZ (fun _ b=>cM (k':=e+0) yN rfl d rfl) (aZ (fun _ b=>bZ (t:=0) aGo b d rfl rfl) (aZ (fun _ b=>bQ (len:=a.Definitions.length) jV rfl) (aZ (fun _ b=>fU rfl rfl) ?_))))))))))))))))
     obtain ⟨a3,a5,hm⟩:=aC hm
     refine fH (vs:=[i64 c.Definition,i64 0,i64 (wr ((a.Definitions.length:Int) - 1))]) (v:=zB a3) call18 rfl (fun _ b=>(gY a5 b)) (aZ (fun _ b=>dB rfl) (dL (fun b9 c0=>(aB ?_))))
     rcases aH hm with ⟨u,hm⟩|⟨u,hm⟩
     ·exact cA
     ·exact aJ u rfl (aX (aB (aP (cO [0,3] (fun f w=>∃ x,mW l x=some J/\f 63=zB x/\aO G K (L) w) cA cA))))
    ·exact cA
 exact cA
theorem pY {a:bL} {R:Bool} (hm:nX a=some R) (c:aO G K (L) w):
  Calls prog 103 ([str a]:List Value).toArray w (eX fun v w'=>v=zB R/\aO G K (L) w'):=by
 refine aT func103 rfl (by kernel_rfl) (by show (1:Nat)<=9;decide) ?_;unfold nX at hm
 exact aL (aD (v:=zB false) (aG (aP (cO [] (fun f w=>∃ b,sP b=some R/\f 2=zB b/\aO G K (L) w) cA cA))))
theorem aIc {b:(List cB)} {R:Bool} (hm:vN b=some R) (hs:aO G K (L) w) (l:cI K a1 c2 b):
  Calls prog 69 ([zS a1 b.length c2]:List Value).toArray w (eX fun v w'=>v=zB R/\aO G K (L) w'):=by
 refine aT func69 rfl (by kernel_rfl) (by show (1:Nat)<=101;decide) ?_;unfold vN at hm
 refine aL (aD (v:=zB false) (aG (aP (aL (aI (v:=zS a1 b.length c2) (aA (bQ (len:=b.length) qE rfl) (aA (jU rfl rfl) (aG ?_))))))))
 rcases aH hm with ⟨m,hm⟩|⟨m,hm⟩
 ·exact cA
 ·refine aJ m rfl (aX (aB (aP (aL (aD (v:=i64 0) (aG (bR [] (fun f w=>uD=some R/\aO G K (L) w) cA ?_)))))));obtain ⟨a8,y,ho⟩:=aC hm
  refine dS [0] y (fun c f w=>f 3=i64 c/\aO G K (L) w) cA ?_
  ·rintro c e f a9 hm hr ⟨g,n⟩
   unfold mN at hm
   refine aP (aL (bJ g (aI (v:=zS a1 b.length c2) (aA (bQ (len:=b.length) qE rfl) (aA (cL rfl rfl) (aG ?_))))))
   rcases aH hm with ⟨o,hm⟩|⟨o,hm⟩
   ·refine aN o rfl (aX (aB (aP (bR [0,3] (fun f w=>uE c=some e/\aO G K (L) w) ?_ ?_))))
    ·rintro f b0 ⟨hm,z⟩
     unfold uE at hm
     exact aB (aW (bJ g (aA (cH rfl rfl) (aD (v:=i64 (wr (c+1))) (aG ⟨_,(Option.some.inj hm).symm,aU,rfl,z⟩)))))
    refine aL (aI (v:=zS a1 b.length c2) (bJ g ?_));obtain ⟨a,p,hm⟩:=aC hm
    refine aA (cQ qE rfl l rfl rfl rfl p) ?_;obtain ⟨b1,J,V⟩:=cI.el (sz:=3) rfl l p
    cases V
    refine aA (eP (t:=0) (vs:=[str a.Left,str a.Right,str a.Result]) aFm n J rfl rfl rfl) (dA (vs:=[str ([]:bL),str ([]:bL),str ([]:bL)]) zeroValue104 n rfl (fun d b2 Z=>(cT (i:=0) (ns:=[str a.Left,str a.Right,str a.Result]) (us:=[str a.Left,str a.Right,str a.Result]) sizeOf104 Z rfl rfl rfl rfl rfl (eM rfl) rfl rfl (fun a0 (b3:aO G K (box d 104 [str a.Left,str a.Right,str a.Result]::L) a0)=>(aG (aP (aP (cO [0,3,4] (fun f w=>∃ h,jS b c a h=some e/\f 41=zB h/\aO G K (box d 104 [str a.Left,str a.Right,str a.Result]::L) w) ?_ ?_))))))))
    ·rintro f b4 ⟨h,hm,a2,b5⟩
     unfold jS at hm
     refine aB ?_
     rcases aH hm with ⟨q,hm⟩|⟨q,hm⟩
     ·exact cA
     ·refine aJ q a2 (aX (aB (aP (aP (cO [0,3,4] (fun f w=>∃ j,jR b c a j=some e/\f 76=zB j/\aO G K (box d 104 [str a.Left,str a.Right,str a.Result]::L) w) ?_ ?_)))))
      ·rintro f b6 ⟨j,hm,a3,b7⟩
       unfold jR at hm
       refine aB ?_
       rcases aH hm with ⟨r,hm⟩|⟨r,hm⟩
       ·exact cA
       ·refine aJ r a3 (aX (aB (aL (aD (v:=i64 0) (aG (bR [0,3] (fun f w=>pF c=some e/\aO G K (L) w) cA ?_))))));obtain ⟨b8,a4,ho⟩:=aC hm
        refine dS [0,3,4] a4 (fun k f w=>f 5=i64 k/\aO G K (box d 104 [str a.Left,str a.Right,str a.Result]::L) w) cA ?_
        ·rintro k a5 f b9 hm hr ⟨a6,c0⟩
         unfold pH at hm
         refine aP (aL (bJ a6 (aI (v:=zS a1 b.length c2) (aA (bQ (len:=b.length) qE rfl) (aA (cL rfl rfl) (aG ?_))))))
         rcases aH hm with ⟨u,hm⟩|⟨u,hm⟩
         ·exact aN u rfl (aX (aB (aP (bY (aP (cO [0,3,4,5] (fun f w=>∃ x,pG k x=some a5/\f 100=zB x/\aO G K (box d 104 [str a.Left,str a.Right,str a.Result]::L) w) cA cA))))))
         ·exact cA
      exact cA
    exact cA
   ·exact cA
end Gv
