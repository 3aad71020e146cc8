/- Walks, printed by program. -/
import Derived.Test.YtkcggmmjnpdgnaaGreatDoorJLW
set_option linter.all false
namespace Gv
open Gv.Hp renaming le_refl→zR
open Go.Value renaming slice→zS,bool→zB,tuple→zT
open Option.some renaming inj→zI
open Go Go.Proofs Go.Proofs.Tryz
set_option maxRecDepth 20000
set_option maxHeartbeats 40000000
variable {G:uK} {K:Hp} {L:List gQ} {w:World} {a1 a4 a7 a10:Option Addr} {c2 c5 c8 c11:Nat}
theorem aIG {a:(List aY)} {R:((List Int) × Bool)} (hm:yP a=some R) (k:aI G K (L) w) (n:G.lo=0) (o:bW K a1 c2 a):
  Calls prog 135 ([zS a1 a.length c2]:List Value).toArray w (eV fun v w'=>∃ c d,v=zT #[zS c R.1.length d,zB R.2]/\aI G K (aN 2 K c d R.1::L) w'):=by
 refine aR func135 rfl (by kernel_rfl) (by show (1:Nat)<=28;decide) ?_;unfold yP at hm
 refine aK (aE (v:=zS none 0 0) (aE (v:=zB false) (aG (aK (aE (v:=zS none 0 0) (aG (aO (aK (aF (v:=zS a1 a.length c2) (aD (bX (len:=a.length) dE rfl) (aF (v:=i64 0) (aG (aX [] (fun f w=>∃ b e g,aFS b=some R/\f 4=zS e b.length g/\aI G K (aN 2 K e g b::L) w) eB ?_)))))))))))))
 have p:=aI.nil (α:=Int) k 2 K
 obtain ⟨q,l,ho⟩:=aC hm
 exact cP [9,10] l (fun h m f w=>∃ i j,f 4=zS i h.length j/\f 11=i64 m/\aI G K (aN 2 K i j h::L) w) eB eB
theorem aKM {c:UInt8} {R:Bool} (hm:aHX c=some R) (b:aI G K (L) w):
  Calls prog 190 ([Value.int .u8 (c.toNat:Int)]:List Value).toArray w (eV fun v w'=>v=zB R/\aI G K (L) w'):=by
 refine aR func190 rfl (by kernel_rfl) (by show (1:Nat)<=9;decide) ?_;unfold aHX at hm
 exact aK (aE (v:=zB false) (aG (aO (cH [] (fun f w=>∃ a,aGH a=some R/\f 2=zB a/\aI G K (L) w) eB eB))))
theorem aLH {a:aY} {R:Bool} (hm:aHt a=some R) (k:aI G K (L) w):
  Calls prog 173 ([str a]:List Value).toArray w (eV fun v w'=>v=zB R/\aI G K (L) w'):=by
 refine aR func173 rfl (by kernel_rfl) (by show (1:Nat)<=42;decide) ?_;unfold aHt at hm
 refine aK (aE (v:=zB false) (aG (aO (aK (aF (v:=str a) (aD (oW runUnderlying9 rfl) (aF (v:=i64 0) (aG (aX [0] (fun f w=>aFj a=some R/\aI G K (L) w) ?_ ?_)))))))))
 ·rintro f l ⟨hm,m⟩
  unfold aFj at hm
  exact aB (aO (cH [] (fun f w=>∃ d,aHs d=some R/\f 2=zB d/\aI G K (L) w) eB eB))
 obtain ⟨n,j,ho⟩:=aC hm
 refine fA [0,6] j (fun b f w=>f 7=i64 b/\aI G K (L) w) eB ?_
 ·rintro b e f o hm hr ⟨g,p⟩
  unfold aAA at hm
  refine aK (aD (cV g rfl) (aG (aO ?_)))
  rcases aH hm with ⟨h,hm⟩|⟨h,hm⟩
  ·refine aL h rfl (aW (aB (aO (dA (aK (bC g (aE (v:=i64 b) (aG (aO (cH [0,3,6,7] (fun f w=>∃ c,tI a b c=some e/\f 4=zB c/\aI G K (L) w) ?_ ?_))))))))))
   ·rintro f q ⟨c,hm,r,t⟩
    unfold tI at hm
    exact aB (aO (cH [0,6,7] (fun f w=>∃ i,aCI b i=some e/\f 32=zB i/\aI G K (L) w) eB eB))
   exact eB
  ·exact eB
theorem aGU {a:aY} {R:Bool} (hm:aBS a=some R) (c:aI G K (L) w):
  Calls prog 151 ([str a]:List Value).toArray w (eV fun v w'=>v=zB R/\aI G K (L) w'):=by
 refine aR func151 rfl (by kernel_rfl) (by show (1:Nat)<=9;decide) ?_;unfold aBS at hm
 exact aK (aE (v:=zB false) (aG (aO (cH [] (fun f w=>∃ b,aCp b=some R/\f 2=zB b/\aI G K (L) w) eB eB))))
theorem rR {n low a:Int} {R:Bool} (hm:vU n low a=some R) (c:aI G K (L) w):
  Calls prog 79 ([i64 n,i64 low,i64 a]:List Value).toArray w (eV fun v w'=>v=zB R/\aI G K (L) w'):=by
 refine aR func79 rfl (by kernel_rfl) (by show (3:Nat)<=15;decide) ?_;unfold vU at hm
 exact aK (aE (v:=zB false) (aG (aO (cH [] (fun f w=>∃ b,aHu b=some R/\f 6=zB b/\aI G K (L) w) eB eB))))
theorem aKN {n:Int} {R:Bool} (hm:aJy n=some R) (a:aI G K (L) w):
  Calls prog 183 ([i64 n]:List Value).toArray w (eV fun v w'=>v=zB R/\aI G K (L) w'):=by
 exact eB
theorem aDD {n:Int} {R:Bool} (hm:aEt n=some R) (a:aI G K (L) w):
  Calls prog 182 ([i64 n]:List Value).toArray w (eV fun v w'=>v=zB R/\aI G K (L) w'):=by
 exact eB
theorem wV {a:(List Int)} {R:Int} (hm:gZ a=some R) (n:aI G K (L) w) (c:bW K a1 c2 a):
  Calls prog 88 ([zS a1 a.length c2,Value.func (.func 182) #[] #[]]:List Value).toArray w (eV fun v w'=>v=i64 R/\aI G K (L) w'):=by
 refine aR func88 rfl (by kernel_rfl) (by show (2:Nat)<=19;decide) ?_;unfold gZ at hm
 refine aK (aE (v:=i64 0) (aG (aO (aK (aF (v:=zS a1 a.length c2) (aD (bX (len:=a.length) bV rfl) (aF (v:=i64 0) (aG (aX [] (fun f w=>nX=some R/\aI G K (L) w) eB ?_)))))))));obtain ⟨o,j,ho⟩:=aC hm
 refine fA [0,1,7] j (fun b f w=>f 8=i64 b/\aI G K (L) w) eB ?_
 ·rintro b p f q hm hr ⟨d,e⟩
  unfold eT at hm
  refine aK (aD (cV d rfl) (aG (aO ?_)))
  rcases aH hm with ⟨g,hm⟩|⟨g,hm⟩
  ·refine aL g rfl (aW (aB (aO (dA (aK (bC d (aE (v:=i64 b) (aG (aK (aF (v:=Value.func (.func 182) #[] #[]) (aF (v:=zS a1 a.length c2) (aF (v:=i64 b) ?_))))))))))));obtain ⟨h,i,hm⟩:=aC hm
   refine aD (cO bV rfl c rfl rfl rfl i) ?_;obtain ⟨r,k,l⟩:=bW.el (sz:=1) rfl c i
   cases l
   refine aD (bE (t:=0) cE e k rfl rfl) ?_;obtain ⟨u,m,hm⟩:=aC hm
   exact vS (vs:=[i64 h]) (caps:=[]) (us:=[i64 h]) rfl call182 rfl rfl (aDD m e) eB
  ·exact eB
theorem uI {a:(List Int)} {R:Bool} (hm:iV a=some R) (b:aI G K (L) w) (c:bW K a1 c2 a):
  Calls prog 38 ([zS a1 a.length c2,Value.func (.func 182) #[] #[]]:List Value).toArray w (eV fun v w'=>v=zB R/\aI G K (L) w'):=by
 exact eB
theorem aJz {a:(List Int)} {R:Bool} (hm:aFk a=some R) (b:aI G K (L) w) (c:bW K a1 c2 a):
  Calls prog 158 ([zS a1 a.length c2]:List Value).toArray w (eV fun v w'=>v=zB R/\aI G K (L) w'):=by
 exact eB
theorem aLI {c:(List Int)} {j R:aY} (hm:aHw c j=some R) (V:aI G K (L) w) (hG:G.lo=0) (p:bW K a1 c2 c):
  Calls prog 159 ([zS a1 c.length c2,str j]:List Value).toArray w (eV fun v w'=>v=str R/\aI G K (L) w'):=by
 refine aR func159 rfl (by kernel_rfl) (by show (2:Nat)<=27;decide) ?_;unfold aHw at hm
 refine aK (aE (v:=str ([]:aY)) (aG (aK (aF (v:=zS a1 c.length c2) (aD (bX (len:=c.length) bV rfl) ?_)))));obtain ⟨a,Z,hm⟩:=aC hm
 refine aHl (e:=([]:aY)) dE oM rfl rfl V rfl rfl rfl Z rfl (fun b w7 (b2:aI G K (aN 9 K b a.length a::L) w7)=>(aE (v:=zS b a.length a.length) (aG (aO (aK (aF (v:=zS a1 c.length c2) (aD (bX (len:=c.length) bV rfl) (aF (v:=i64 0) (aG (aX [1] (fun f w=>∃ k,aHv j k=some R/\f 5=zS b k.length a.length/\aI G K (aN 9 K b a.length k::L) w) eB ?_))))))))));obtain ⟨b3,a2,ho⟩:=aC hm
 refine cP [1,11,12] a2 (fun l d f w=>f 5=zS b l.length a.length/\f 13=i64 d/\aI G K (aN 9 K b a.length l::L) w) eB ?_
 ·rintro l d b4 f b5 hm hr ⟨q,g,r⟩
  unfold aCJ at hm
  refine aK (aD (cV g rfl) (aG (aO ?_)))
  rcases aH hm with ⟨u,hm⟩|⟨u,hm⟩
  ·refine aL u rfl (aW (aB (aO (dA (aK (bC g ?_))))));obtain ⟨m,x,hm⟩:=aC hm
   refine aD (cO bV rfl p rfl rfl g x) ?_;obtain ⟨b6,a3,a4⟩:=bW.el (sz:=1) rfl p x
   cases a4
   refine aD (bE (t:=0) cE r a3 rfl rfl) (aE (v:=i64 d) (aE (v:=i64 m) (aG (aQ (bC q (aF (v:=i64 d) (aF (v:=i64 m) ?_)))))));obtain ⟨y,a5,hm⟩:=aC hm
   refine aP (vs:=[i64 m]) call178 rfl (aJX r a5) ?_
   rintro _ b7 ⟨rfl,z⟩
   obtain ⟨b8,o,hm⟩:=aC hm
   have a7:=cQ z (i:=0) rfl o
   refine aD (dL dE rfl a7 rfl rfl rfl o) ?_;obtain ⟨a8,J,hm⟩:=aC hm
   exact kU (i:=0) (t:=0) (ns:=[str y]) (e':=(y:aY)) sizeOf9 z rfl (zR _) rfl rfl rfl o J rfl rfl (dN rfl) rfl (fun cs h=>by cases h;rfl) (fun a9 (b0:aI G K (aN 9 K b a.length a8::L) a9)=>(bF (bA (aB (aQ (aD (cL g rfl) (aF (v:=i64 (wr (d+1))) (aG ⟨_,(zI hm).symm,aM,(Eq.trans q (congrArg (fun n=>zS b n a.length) (iC J))),rfl,b0⟩))))))))
  ·exact eB
theorem aHD {a:aY} {b:(List Int)} {R:(aY × Bool)} (hm:aFT a b=some R) (e:aI G K (L) w) (g:G.lo=0) (h:bW K a1 c2 b):
  Calls prog 138 ([str a,zS a1 b.length c2]:List Value).toArray w (eV fun v w'=>v=zT #[str R.1,zB R.2]/\aI G K (L) w'):=by
 refine aR func138 rfl (by kernel_rfl) (by show (2:Nat)<=37;decide) ?_;unfold aFT at hm
 refine aK (aE (v:=str ([]:aY)) (aE (v:=zB false) (aG (aO (dA (aK (aF (v:=str a) (aD (aDp rfl rfl) (aE (v:=zB (a == ([116,97,117]:aY))) (aG ?_))))))))))
 rcases aH hm with ⟨c,hm⟩|⟨c,hm⟩
 ·exact eB
 ·exact aJ c rfl (aO (cH [0,1] (fun f w=>∃ d,aAW a b d=some R/\f 12=zB d/\aI G K (L) w) eB eB))
theorem nD {a b:aY} {R:Bool} (hm:eM a b=some R) (d:aI G K (L) w):
  Calls prog 174 ([str a,str b]:List Value).toArray w (eV fun v w'=>v=zB R/\aI G K (L) w'):=by
 refine aR func174 rfl (by kernel_rfl) (by show (2:Nat)<=21;decide) ?_;unfold eM at hm
 exact aK (aE (v:=zB false) (aG (aO (cH [] (fun f w=>∃ c,eW c=some R/\f 4=zB c/\aI G K (L) w) eB eB))))
theorem wW {a b R:aY} (hm:kQ a b=some R) (c:aI G K (L) w):
  Calls prog 157 ([str a,str b]:List Value).toArray w (eV fun v w'=>v=str R/\aI G K (L) w'):=by
 exact eB
theorem aFb {a b R:aY} (hm:qM a b=some R) (c:aI G K (L) w):
  Calls prog 137 ([str a,str b]:List Value).toArray w (eV fun v w'=>v=str R/\aI G K (L) w'):=by
 exact eB
theorem aGf {c:aY} {R:(aY × (List Int) × Bool)} (hm:vV c=some R) (k:aI G K (L) w) (l:G.lo=0):
  Calls prog 114 ([str c]:List Value).toArray w (eV fun v w'=>∃ h i,v=zT #[str R.1,zS h R.2.1.length i,zB R.2.2]/\aI G K (aN 2 K h i R.2.1::L) w'):=by
 refine aR func114 rfl (by kernel_rfl) (by show (1:Nat)<=43;decide) ?_;unfold vV at hm
 refine aK (aE (v:=str ([]:aY)) (aE (v:=zS none 0 0) (aE (v:=zB false) (aG (aK (aF (v:=str c) ?_))))));obtain ⟨a,m,hm⟩:=aC hm
 refine aP (vs:=[str c,str ([40]:aY)]) call134 rfl (lib_Cut k m) ?_
 rintro _ x ⟨rfl,y⟩
 refine aF (v:=zT #[str a.1,str a.2.1,zB a.2.2]) (aD (dC rfl rfl) (aD (dC rfl rfl) (aD (dC rfl rfl) (aE (v:=str a.1) (aE (v:=str a.2.1) (aE (v:=zB a.2.2) (aG (aK (aE (v:=zS none 0 0) (aG (iQ [0,5] (fun f w=>∃ b d e,mK c a b=some R/\f 8=zS d b.length e/\aI G K (aN 2 K d e b::L) w) ?_ ?_)))))))))))
 ·rintro f z ⟨b,d,e,hm,n,o⟩
  unfold mK at hm
  refine aO (aK (aF (v:=str a.1) (bC n ?_)));obtain ⟨J,V,p,q,r⟩:=aI.lendSp o (zR _) .head
  obtain ⟨g,t,hm⟩:=aC hm
  refine aP (vs:=[str a.1,zS d b.length e]) call138 rfl (aHD t q l p) ?_
  rintro _ Z ⟨rfl,u⟩
  have a0:=r _ _ u
  exact aF (v:=zT #[str g.1,zB g.2]) (aD (dC rfl rfl) (aD (dC rfl rfl) (aE (v:=str g.1) (aE (v:=zB g.2) (aG (aO (cH [5,8] (fun f w=>∃ j,oY a b j=some R/\f 40=zB j/\aI G K (aN 2 K d e b::L) w) eB eB)))))))
 exact eB
theorem aEG {a:aY} {R:Bool} (hm:aEb a=some R) (b:aI G K (L) w) (c:G.lo=0):
  Calls prog 81 ([str a]:List Value).toArray w (eV fun v w'=>v=zB R/\aI G K (L) w'):=by
 exact eB
theorem aKO {a:(List UInt8)} {R:Bool} (hm:aBT a=some R) (b:aI G K (L) w) (c:bW K a1 c2 a):
  Calls prog 4 ([zS a1 a.length c2]:List Value).toArray w (eV fun v w'=>v=zB R/\aI G K (L) w'):=by
 exact eB
theorem aEH {a:(List UInt8)} {R:(Int × Int)} (hm:aFU a=some R) (c:aI G K (L) w) (d:bW K a1 c2 a):
  Calls prog 10 ([zS a1 a.length c2]:List Value).toArray w (eV fun v w'=>∃ b,v=Value.pointer (some ⟨b,0,none⟩)/\aI G K (box b 56 [zS a1 a.length c2,i64 R.1,Value.int .u64 R.2]::L) w'):=by
 exact eB
theorem aBz {a:(List aY)} {b:aY} {R:Int} (hm:aBU a b=some R) (e:aI G K (L) w) (g:bW K a1 c2 a):
  Calls prog 68 ([zS a1 a.length c2,str b]:List Value).toArray w (eV fun v w'=>v=i64 R/\aI G K (L) w'):=by
 refine aR func68 rfl (by kernel_rfl) (by show (2:Nat)<=19;decide) ?_;unfold aBU at hm
 refine aK (aE (v:=i64 0) (aG (aO (aK (aE (v:=i64 0) (aG (aX [] (fun f w=>aJa=some R/\aI G K (L) w) eB ?_)))))));obtain ⟨h,c,ho⟩:=aC hm
 exact fA [0,1] c (fun d f w=>f 5=i64 d/\aI G K (L) w) eB eB
theorem aHE {g R:(List aY)} (hm:aFV g=some R) (hs:aI G K (L) w) (y:bW K a1 c2 g):
  Calls prog 67 ([zS a1 g.length c2]:List Value).toArray w (eV fun v w'=>∃ b0 b1,v=zS b0 R.length b1/\aI G K (aN 9 K b0 b1 R::L) w'):=by
 refine aR func67 rfl (by kernel_rfl) (by show (1:Nat)<=65;decide) ?_;unfold aFV at hm
 refine aK (aE (v:=zS none 0 0) (aG (aK (bT (Kt:=K) (xs:=([([116,97,117]:aY)]:List aY)) (cs:=[str ([116,97,117]:aY)]) (vs:=[(0,str ([116,97,117]:aY))]) dE oM rfl rfl hs rfl (by kernel_rfl) rfl rfl rfl ⟨rfl,trivial⟩ (fun a4 w5 (f8:aI G K (aN 9 K a4 1 ([([116,97,117]:aY)]:List aY)::L) w5)=>(aE (v:=zS a4 ([([116,97,117]:aY)]:List aY).length 1) (aG (aO (aK (aE (v:=i64 0) (aG (aX [] (fun f w=>∃ z a8 c9,aGI z=some R/\f 3=zS a8 z.length c9/\aI G K (aN 9 K a8 c9 z::L) w) eB ?_))))))))))))
 obtain ⟨f9,d4,ho⟩:=aC hm
 refine cP [0] d4 (fun c j f w=>∃ d e,f 3=zS d c.length e/\f 4=i64 j/\aI G K (aN 9 K d e c::L) w) eB ?_
 ·rintro c j J f g0 hm hr ⟨d,e,b5,m,b6⟩
  unfold tL at hm
  refine aO (aK (bC m (aF (v:=zS a1 g.length c2) (aD (bX (len:=g.length) dE rfl) (aD (cV rfl rfl) (aG ?_))))))
  rcases aH hm with ⟨b7,hm⟩|⟨b7,hm⟩
  ·refine aL b7 rfl (aW (aB (aO (aX [0,4] (fun f w=>∃ o p q,xE j o=some J/\f 3=zS p o.length q/\aI G K (aN 9 K p q o::L) w) ?_ ?_))))
   ·rintro f g1 ⟨o,p,q,hm,d5,d6⟩
    unfold xE at hm
    exact aB (aQ (bC m (aD (cL rfl rfl) (aE (v:=i64 (wr (j+1))) (aG ⟨_,(zI hm).symm,aM,p,q,d5,rfl,d6⟩)))))
   refine aO (aK (bC b5 (aF (v:=zS a1 g.length c2) (bC m ?_))));obtain ⟨k,V,hm⟩:=aC hm
   refine aD (cO dE rfl y rfl rfl rfl V) ?_;obtain ⟨g2,b8,d7⟩:=bW.el (sz:=1) rfl y V
   cases d7
   refine aD (bE (t:=0) aAU b6 b8 rfl rfl) ?_;obtain ⟨g3,g4,d8,d9,e0⟩:=aI.lendSp b6 (zR _) .head
   obtain ⟨g5,e1,hm⟩:=aC hm
   refine aP (vs:=[zS d c.length e,str k]) call68 rfl (aBz e1 d9 d8) ?_
   rintro _ g6 ⟨rfl,e2⟩
   have g7:=e0 _ _ e2
   refine aD (aEn rfl rfl) (aG ?_)
   rcases aH hm with ⟨b9,hm⟩|⟨b9,hm⟩
   ·exact eB
   ·refine aJ b9 rfl (aW (aB (aK (aE (v:=i64 1) (aG (aO (aX [0,3,4] (fun f w=>∃ r,aAZ c j k r=some J/\f 5=i64 r/\aI G K (aN 9 K d e c::L) w) ?_ ?_)))))))
    ·rintro f g8 ⟨r,hm,c0,e3⟩
     unfold aAZ at hm
     refine aB (aK (bC b5 (bT (Kt:=K) (xs:=([([]:aY)]:List aY)) (cs:=[str ([]:aY)]) (vs:=[(0,str ([]:aY))]) dE oM rfl rfl e3 rfl (by kernel_rfl) rfl rfl rfl ⟨rfl,trivial⟩ (fun e4 e5 (e6:aI G K (aN 9 K e4 1 ([([]:aY)]:List aY)::aN 9 K d e c::L) e5)=>?_))));obtain ⟨l,e7,hm⟩:=aC hm
     refine eR (i:=0) dE underlying24 oM rfl rfl e6 rfl (zR _) (zR _) e7 rfl rfl rfl rfl (fun _ h=>h) (fun a b e8 (g9:aI G K (aN 9 K a b l::L) e8)=>(aE (v:=zS a l.length b) (aG (aO (aK (aF (v:=zS a l.length b) (aD (bX (len:=l.length) dE rfl) (aD (kT rfl rfl) (aE (v:=i64 (wr ((l.length:Int) - 1))) (aG (aX [0,4,5] (fun f w=>∃ u,aAX j k r u=some J/\f 3=zS a u.length b/\aI G K (aN 9 K a b u::L) w) ?_ ?_)))))))))))
     ·rintro f h0 ⟨u,hm,c1,Z⟩
      unfold aAX at hm
      refine aB (aQ (bC c1 (bC c0 (aF (v:=zS a1 g.length c2) (bC m (aD (cO dE rfl y rfl rfl rfl V) (aD (bE (t:=0) aAU Z b8 rfl rfl) ?_)))))));obtain ⟨h1,a0,hm⟩:=aC hm
      have e9:=cQ Z (i:=0) rfl a0
      refine aD (dL dE rfl e9 rfl rfl rfl a0) ?_;obtain ⟨c3,c4,hm⟩:=aC hm
      exact kU (i:=0) (t:=0) (ns:=[str k]) (e':=(k:aY)) sizeOf9 Z rfl (zR _) rfl rfl rfl a0 c4 rfl rfl (dN rfl) rfl (fun cs h=>by cases h;rfl) (fun f0 (f1:aI G K (aN 9 K a b c3::L) f0)=>(bF (bA (aB ⟨aM,c3,a,b,hm,(Eq.trans c1 (congrArg (fun n=>zS a n b) (iC c4))),f1⟩))))
     obtain ⟨h2,f2,ho⟩:=aC hm
     refine cP [0,4,5] f2 (fun a2 a3 f w=>f 3=zS a a2.length b/\f 6=i64 a3/\aI G K (aN 9 K a b a2::L) w) eB ?_
     ·rintro a2 a3 h4 f h5 hm hr ⟨a5,x,a6⟩
      unfold aAY at hm
      refine aO (aK (bC x (bC c0 (aD (jU rfl rfl) (aG ?_)))))
      rcases aH hm with ⟨c5,hm⟩|⟨c5,hm⟩
      ·refine aL c5 rfl (aW (aB (aO (dA (aQ (bC a5 (bC x (bC a5 (bC x (aD (kT rfl rfl) ?_))))))))));obtain ⟨c6,a7,hm⟩:=aC hm
       have c7:=cQ a6 (i:=0) rfl a7
       refine aD (dL dE rfl c7 rfl rfl rfl a7) (aD (jV (t:=0) aAU a6 (i:=0) rfl a7 rfl rfl rfl) ?_);obtain ⟨h6,c8,hm⟩:=aC hm
       refine aD (dL dE rfl c7 rfl rfl rfl c8) ?_;obtain ⟨f3,d0,hm⟩:=aC hm
       exact kU (i:=0) (t:=0) (ns:=[str c6]) (e':=(c6:aY)) sizeOf9 a6 rfl (zR _) rfl rfl rfl c8 d0 rfl rfl (dN rfl) rfl (fun cs h=>by cases h;rfl) (fun f4 (f5:aI G K (aN 9 K a b f3::L) f4)=>(bF (bA (aB (aQ (bC x (aD (kT rfl rfl) (aE (v:=i64 (wr (a3 - 1))) (aG ⟨_,(zI hm).symm,aM,(Eq.trans a5 (congrArg (fun n=>zS a n b) (iC d0))),rfl,f5⟩)))))))))
      ·exact eB
    obtain ⟨h7,f6,ho⟩:=aC hm
    refine fA [0,3,4] f6 (fun a9 f w=>f 5=i64 a9/\aI G K (aN 9 K d e c::L) w) eB ?_
    ·rintro a9 f7 f h8 hm hr ⟨h9,i0⟩
     unfold xG at hm
     exact aO (aO (cH [0,3,4,5] (fun f w=>∃ d1,xF a9 d1=some f7/\f 35=zB d1/\aI G K (aN 9 K d e c::L) w) eB eB))
  ·exact eB
theorem aEI {a:Edge} {c:Nat} {b:Edge} {d:Nat} {R:Bool} (hm:aEc a b=some R) (e:aI G K (L) w) (g:dT K a1 c [i64 a.F,i64 a.B,i64 a.To]) (h:dT K a4 d [i64 b.F,i64 b.B,i64 b.To]):
  Calls prog 43 ([cC a1 c,cC a4 d]:List Value).toArray w (eV fun v w'=>v=zB R/\aI G K (L) w'):=by
 exact eB
theorem aIq {j:(List Edge)} {e:Edge} {R:(List Edge)} (hm:aHx j e=some R) (hs:aI G K (aN 66 K a1 c2 j::L) w):
  Calls prog 69 ([zS a1 j.length c2,Value.agg #[i64 e.F,i64 e.B,i64 e.To]]:List Value).toArray w (eV fun v w'=>∃ b2 b4,v=zS b2 R.length b4/\aI G K (aN 66 K b2 b4 R::L) w'):=by
 let a:=[i64 e.F,i64 e.B,i64 e.To]
 let o:=aN 66 K a1 c2 j
 refine aR func69 rfl (by kernel_rfl) (by show (2:Nat)<=57;decide) ?_;unfold aHx at hm
 refine aK (fO (v:=Value.agg #[i64 e.F,i64 e.B,i64 e.To]) (vs:=a) hs rfl rfl (fun k w4 g2=>(aE (v:=zS none 0 0) (aG (aK (aF (v:=zS a1 j.length c2) (aD (bX (len:=j.length) cK rfl) (aE (v:=i64 (j.length:Int)) (aG (aO (aX [0,3] (fun f w=>∃ p,aCM j e p=some R/\f 5=i64 p/\aI G K (box k 66 a::o::L) w) ?_ ?_)))))))))))
 ·rintro f w8 ⟨p,hm,J,b⟩
  unfold aCM at hm
  refine aB (aO (aO (cH [0,3,5] (fun f w=>∃ a0,aAB j e p a0=some R/\f 30=zB a0/\aI G K (box k 66 a::o::L) w) ?_ ?_)))
  ·rintro f g4 ⟨a0,hm,c7,c8⟩
   unfold aAB at hm
   refine aB ?_
   rcases aH hm with ⟨b5,hm⟩|⟨b5,hm⟩
   ·exact eB
   ·refine aJ b5 c7 (aW (aB (aK (aF (v:=zS a1 j.length c2) (aD (gW (vs:=[]) (cs:=[i64 0,i64 0,i64 0]) aIn rfl (by kernel_rfl)) (bT (Kt:=K) (xs:=([⟨0,0,0⟩]:List Edge)) (cs:=[i64 0,i64 0,i64 0]) (vs:=[(0,Value.agg #[i64 0,i64 0,i64 0])]) cK gP rfl rfl c8 rfl (by kernel_rfl) rfl rfl rfl ⟨rfl,trivial⟩ (fun c9 d0 (d1:aI G K (aN 66 K c9 1 ([⟨0,0,0⟩]:List Edge)::box k 66 a::o::L) d0)=>?_)))))));obtain ⟨u,d2,hm⟩:=aC hm
    refine eR (i:=1) cK underlying25 gP rfl rfl d1 rfl (zR _) (zR _) d2 rfl rfl rfl rfl (fun _ h=>h) (fun c d d3 (g5:aI G K (box k 66 a::aN 66 K c d u::L) d3)=>(aE (v:=zS c u.length d) (aG (aO (aK (aF (v:=zS c u.length d) (aD (bX (len:=u.length) cK rfl) (aD (kT rfl rfl) (aE (v:=i64 (wr ((u.length:Int) - 1))) (aG (aX [3,5] (fun f w=>∃ V,aCK e p V=some R/\f 0=zS c V.length d/\aI G K (box k 66 a::aN 66 K c d V::L) w) ?_ ?_)))))))))))
    ·rintro f g6 ⟨V,hm,b6,a2⟩
     unfold aCK at hm
     refine aB (aK (bC b6 (bC J (aD (eJ (us:=a) oX a2 (i:=0) rfl rfl rfl rfl) ?_))));obtain ⟨g7,a3,hm⟩:=aC hm
     have d4:=cQ a2 (i:=1) rfl a3
     refine aD (dL cK rfl d4 rfl rfl rfl a3) ?_;obtain ⟨a4,b7,hm⟩:=aC hm
     refine kU (i:=1) (t:=0) (ns:=a) (e':=(⟨e.F,e.B,e.To⟩:Edge)) sizeOf66 a2 rfl (zR _) rfl rfl rfl a3 b7 rfl rfl (dN rfl) rfl (fun cs h=>by cases h;rfl) (fun d5 (d6:aI G K (box k 66 a::aN 66 K c d a4::L) d5)=>(aG (aK (bC (v:=zS c a4.length d) (Eq.trans b6 (congrArg (fun n=>zS c n d) (iC b7))) (aE (v:=zS c a4.length d) (aG ?_))))));obtain rfl:=zI hm
     exact bM (bI results69 rfl ⟨c,d,rfl,(aI.arr 1 [] d6 rfl)⟩)
    obtain ⟨g8,d8,ho⟩:=aC hm
    refine cP [3,5] d8 (fun a5 a6 f w=>f 0=zS c a5.length d/\f 6=i64 a6/\aI G K (box k 66 a::aN 66 K c d a5::L) w) eB ?_
    ·rintro a5 a6 g9 f h0 hm hr ⟨a7,Z,a8⟩
     unfold aCL at hm
     refine aO (aK (bC Z (bC J (aD (jU rfl rfl) (aG ?_)))))
     rcases aH hm with ⟨b8,hm⟩|⟨b8,hm⟩
     ·refine aL b8 rfl (aW (aB (aO (dA (aQ (bC a7 (bC Z (bC a7 (bC Z (aD (kT rfl rfl) ?_))))))))));obtain ⟨l,a9,hm⟩:=aC hm
      have b9:=cQ a8 (i:=1) rfl a9
      refine aD (dL cK rfl b9 rfl rfl rfl a9) (aD (aJq (t:=0) (vs:=[i64 l.F,i64 l.B,i64 l.To]) oX a8 (i:=1) rfl a9 rfl rfl rfl rfl) ?_);obtain ⟨h1,c0,hm⟩:=aC hm
      refine aD (dL cK rfl b9 rfl rfl rfl c0) ?_;obtain ⟨d9,c1,hm⟩:=aC hm
      exact kU (i:=1) (t:=0) (ns:=[i64 l.F,i64 l.B,i64 l.To]) (e':=(⟨l.F,l.B,l.To⟩:Edge)) sizeOf66 a8 rfl (zR _) rfl rfl rfl c0 c1 rfl rfl (dN rfl) rfl (fun cs h=>by cases h;rfl) (fun e0 (e1:aI G K (box k 66 a::aN 66 K c d d9::L) e0)=>(bF (bA (aB (aQ (bC Z (aD (kT rfl rfl) (aE (v:=i64 (wr (a6 - 1))) (aG ⟨_,(zI hm).symm,aM,(Eq.trans a7 (congrArg (fun n=>zS c n d) (iC c1))),rfl,e1⟩)))))))))
     ·exact eB
  refine dR (C:=fun w'=>aI G K (box k 66 a::o::L) w') Tryz_mixed (by kernel_rfl) (aI.mono b (dQ.drew _)) (aU (fun _ b=>aT J) (aU (fun _ b=>jU rfl rfl) (aU (fun _ b=>aT (v:=zB (decide (0 < p))) rfl) ?_)))
  rcases aH hm with ⟨m,hm⟩|⟨m,hm⟩
  ·refine bO (g:=22) rfl rfl m (aU (fun _ b=>aT (v:=zS a1 j.length c2) rfl) (bO (g:=22) rfl rfl m (aU (fun _ b=>aT J) (bO (g:=22) rfl rfl m (aU (fun _ b=>kT rfl rfl) (bO (g:=22) rfl rfl m ?_))))));obtain ⟨q,b0,hm⟩:=aC hm
   have e2:=cQ b (i:=1) rfl b0
   exact aU (fun _ b=>dL cK rfl e2 rfl rfl rfl b0) (bO (g:=22) rfl rfl m (aU (fun _ b=>aJq (t:=0) (vs:=[i64 q.F,i64 q.B,i64 q.To]) oX b (i:=1) rfl b0 rfl rfl rfl rfl) (bO (g:=22) rfl rfl m (aU (fun _ b=>eJ (us:=a) oX b (i:=0) rfl rfl rfl rfl) (bO (g:=22) rfl rfl m (aU (fun _ b=>R_eqlG (eq_66 (x:=q) (y:=e)) rfl rfl) (aU (fun _ b=>bJ (v:=zB (decide ((q:Edge)=e))) m rfl rfl) (dU (fun h2 e3=>(aB ⟨aM,decide ((q:Edge)=e),hm,rfl,e3⟩))))))))))
  ·exact eB
 obtain ⟨h3,e4,ho⟩:=aC hm
 refine fA [0,3] e4 (fun z f w=>f 5=i64 z/\aI G K (box k 66 a::o::L) w) eB ?_
 ·rintro z e5 f h4 hm hr ⟨c3,c4⟩
  unfold aAD at hm
  refine aO (aO (cH [0,3,5] (fun f w=>∃ c5,aAC z c5=some e5/\f 17=zB c5/\aI G K (box k 66 a::o::L) w) eB (aQ (bC c3 (aD (jU rfl rfl) (aF (v:=zB (decide (0 < z))) ?_))))))
  rcases aH hm with ⟨r,hm⟩|⟨r,hm⟩
  ·refine bK r rfl rfl (aF (v:=zS a1 j.length c2) (bK r rfl rfl (bC c3 (bK r rfl rfl (aD (kT rfl rfl) (bK r rfl rfl ?_))))));obtain ⟨h5,b1,hm⟩:=aC hm
   have e6:=cQ c4 (i:=1) rfl b1
   refine aD (dL cK rfl e6 rfl rfl rfl b1) (bK r rfl rfl ?_);obtain ⟨h6,e8,e9,f0,f1⟩:=aI.lendBp c4 .head
   obtain ⟨h7,f2,f3,f4,f5⟩:=aI.lendSp f0 e8 .head
   obtain ⟨h8,f6,f7⟩:=bW.el (sz:=3) rfl f3 b1
   cases f7
   obtain ⟨h9,f8,hm⟩:=aC hm
   refine aP (vs:=[cC (some ⟨k,0,none⟩) 0,cC a1 ((wr (z - 1)).toNat * 3+0)]) call43 rfl (aEI f8 f4 (e9.mono f2) f6) ?_
   rintro _ i0 ⟨rfl,f9⟩
   have g0:=f5 _ _ f9
   have i1:=f1 _ _ g0
   exact eB
  ·exact eB
theorem tE {d e:Int} {l:(List aY)} {edges:(List Edge)} {R:cB} (hm:rZ d e l edges=some R) (hs:aI G K (L) w) (u:bW K a1 c2 l) (z:bW K a4 c5 edges):
  Calls prog 29 ([i64 d,i64 e,zS a1 l.length c2,zS a4 edges.length c5]:List Value).toArray w (eV fun v w'=>∃ J V Z a0,v=Value.agg (zCa R J V Z a0)/\aI G K (aN 9 K J V R.L::aN 66 K Z a0 R.E::L) w'):=by
 let h:=zG
 refine aR func29 rfl (by kernel_rfl) (by show (4:Nat)<=43;decide) ?_;unfold rZ at hm
 refine aK (cI (vs:=h) zeroValue27 hs rfl (fun m w8 b4=>(aG (aK (aF (v:=i64 d) (aF (v:=i64 e) (aF (v:=zS a1 l.length c2) ?_)))))));obtain ⟨a,b5,hm⟩:=aC hm
 refine aP (vs:=[zS a1 l.length c2]) call67 rfl (aHE b5 b4 u) ?_
 rintro _ e8 ⟨b,c,rfl,b6⟩
 refine bT (Kt:=K) (xs:=([]:List Edge)) (cs:=[]) (vs:=[]) cK gP rfl rfl b6 rfl (by kernel_rfl) rfl rfl rfl trivial (fun j b8 (b9:aI G K (aN 66 K j 0 ([]:List Edge)::aN 9 K b c a::box m 27 h::L) b8)=>(aD (gW (vs:=[(0,i64 d),(1,i64 e),(2,zS b a.length c),(3,zS j ([]:List Edge).length 0)]) (cs:=[i64 d,i64 e,zS b a.length c,zS j ([]:List Edge).length 0]) aCG rfl (by kernel_rfl)) (cI (vs:=h) zeroValue27 b9 rfl (fun q e9 c0=>(cG (i:=0) (ns:=[i64 d,i64 e,zS b a.length c,zS j ([]:List Edge).length 0]) (us:=[i64 d,i64 e,zS b a.length c,zS j ([]:List Edge).length 0]) sizeOf27 c0 rfl rfl rfl rfl rfl (dN rfl) rfl rfl (fun c1 (f0:aI G K (box q 27 [i64 d,i64 e,zS b a.length c,zS j ([]:List Edge).length 0]::aN 66 K j 0 ([]:List Edge)::aN 9 K b c a::box m 27 h::L) c1)=>(aG (aO (aK (aE (v:=i64 0) (aG (aX [8,9] (fun f w=>∃ x a2 a3,aDP d e a x=some R/\aI G K (aN 66 K a2 a3 x::box q 27 [i64 d,i64 e,zS b a.length c,zS a2 x.length a3]::aN 9 K b c a::box m 27 h::L) w) eB ?_))))))))))))
 obtain ⟨f1,c3,ho⟩:=aC hm
 refine cP [2,3,8,9] c3 (fun n a5 f w=>∃ o p,f 10=i64 a5/\aI G K (box q 27 [i64 d,i64 e,zS b a.length c,zS o n.length p]::aN 66 K o p n::aN 9 K b c a::box m 27 h::L) w) eB ?_
 ·rintro n a5 f2 f f3 hm hr ⟨o,p,a6,a7⟩
  unfold xH at hm
  refine aO (aK (bC a6 (aF (v:=zS a4 edges.length c5) (aD (bX (len:=edges.length) cK rfl) (aD (cV rfl rfl) (aG ?_))))))
  rcases aH hm with ⟨a8,hm⟩|⟨a8,hm⟩
  ·refine aL a8 rfl (aW (aB (aO (dA (aK (aF (v:=zS a4 edges.length c5) (bC a6 ?_)))))));obtain ⟨g,a9,hm⟩:=aC hm
   refine aD (cO cK rfl z rfl rfl rfl a9) ?_;obtain ⟨f4,c4,c6⟩:=bW.el (sz:=3) rfl z a9
   cases c6
   refine aD (gC (t:=0) (vs:=[i64 g.F,i64 g.B,i64 g.To]) oX a7 c4 rfl rfl rfl) (cI (vs:=[i64 0,i64 0,i64 0]) zeroValue66 a7 rfl (fun c7 f5 c8=>(cG (i:=0) (ns:=[i64 g.F,i64 g.B,i64 g.To]) (us:=[i64 g.F,i64 g.B,i64 g.To]) sizeOf66 c8 rfl rfl rfl rfl rfl (dN rfl) rfl rfl (fun c9 (d0:aI G K (box c7 66 [i64 g.F,i64 g.B,i64 g.To]::box q 27 [i64 d,i64 e,zS b a.length c,zS o n.length p]::aN 66 K o p n::aN 9 K b c a::box m 27 h::L) c9)=>(aG (aO ?_))))))
   obtain ⟨f6,y,d1,d2,d3⟩:=aI.lendBp d0 .head
   obtain ⟨d4,r,d5,b0,d6⟩:=aI.lendBp d2 .head
   refine dI (C:=fun w'=>∃ L',aI G d4 L' w') [(0,0),(1,0),(2,0),(3,0),(4,0),(5,0),(6,0),(7,1),(8,0),(9,2)] Tryz_mixed (by kernel_rfl) (fun _ hg=>⟨_,aI.mono b0 hg⟩) (fun f7 d7=>?_)
   have k:=aI.mono b0 d7
   refine bL rfl (fun _ _=>bH (t':=2) fF rfl rfl) (bL rfl (fun _ ⟨_,k⟩=>bE (t:=2) oF k d5 rfl rfl) (bL rfl (fun _ _=>aT (v:=zS a1 l.length c2) rfl) (bL rfl (fun _ _=>bH (t':=1) iR rfl rfl) (bL rfl (fun _ ⟨_,k⟩=>bE (t:=1) cE k (d1.mono r) rfl rfl) ?_))));obtain ⟨d8,b1,hm⟩:=aC hm
   refine bL rfl (fun _ _=>cO dE rfl (u.mono (Hp.le_trans y r)) rfl rfl rfl b1) ?_;obtain ⟨f8,d9,e0⟩:=bW.el (sz:=1) rfl u b1
   cases e0
   refine bL rfl (fun _ ⟨_,k⟩=>bE (t:=0) aAU k (d9.mono (Hp.le_trans y r)) rfl rfl) (fT rfl ?_);obtain ⟨f9,g0,e1,e2,e3⟩:=aI.lendSp k (Hp.le_trans y r) zt1
   obtain ⟨g1,e4,hm⟩:=aC hm
   refine aP (vs:=[zS b a.length c,str d8]) call68 rfl (aBz e4 e2 e1) ?_
   rintro _ g2 ⟨rfl,e5⟩
   have b2:=e3 _ _ e5
   refine bF (aB ⟨⟨_,b2⟩,?_⟩)
   refine bL rfl (fun _ _=>bH (t':=1) iR rfl rfl) ?_
   have e6:=d6 _ _ b2
   have g3:=d3 _ _ e6
   exact eB
  ·exact eB
theorem uJ {e:Edge} {a:Nat} {p:(List Int)} {R:Bool} (hm:vW e p=some R) (c:aI G K (L) w) (d:dT K a1 a [i64 e.F,i64 e.B,i64 e.To]) (g:bW K a4 c5 p):
  Calls prog 62 ([cC a1 a,zS a4 p.length c5]:List Value).toArray w (eV fun v w'=>v=zB R/\aI G K (L) w'):=by
 refine aR func62 rfl (by kernel_rfl) (by show (2:Nat)<=27;decide) ?_;unfold vW at hm
 exact aK (aE (v:=zB false) (aG (aO (cH [] (fun f w=>∃ b,yQ b=some R/\f 4=zB b/\aI G K (L) w) eB eB))))
theorem aHF {a:(List Bool)} {R:(List Int)} (hm:aFW a=some R) (r:aI G K (L) w) (J:bW K a1 c2 a):
  Calls prog 63 ([zS a1 a.length c2]:List Value).toArray w (eV fun v w'=>∃ k l,v=zS k R.length l/\aI G K (aN 2 K k l R::L) w'):=by
 refine aR func63 rfl (by kernel_rfl) (by show (1:Nat)<=21;decide) ?_;unfold aFW at hm
 refine aK (aE (v:=zS none 0 0) (aG (aK (bT (Kt:=K) (xs:=([]:List Int)) (cs:=[]) (vs:=[]) bV iD rfl rfl r rfl (by kernel_rfl) rfl rfl rfl trivial (fun m t (V:aI G K (aN 2 K m 0 ([]:List Int)::L) t)=>(aE (v:=zS m ([]:List Int).length 0) (aG (aO (aK (aE (v:=i64 0) (aG (aX [] (fun f w=>∃ g n o,aDQ g=some R/\f 3=zS n g.length o/\aI G K (aN 2 K n o g::L) w) eB ?_))))))))))));obtain ⟨Z,u,ho⟩:=aC hm
 refine cP [0] u (fun h b f w=>∃ i j,f 3=zS i h.length j/\f 4=i64 b/\aI G K (aN 2 K i j h::L) w) eB ?_
 ·rintro h b x f a0 hm hr ⟨i,j,a2,p,a3⟩
  unfold qN at hm
  refine aO (aK (bC p (aF (v:=zS a1 a.length c2) (aD (bX (len:=a.length) fU rfl) (aD (cV rfl rfl) (aG ?_))))))
  rcases aH hm with ⟨q,hm⟩|⟨q,hm⟩
  ·refine aL q rfl (aW (aB (aO (aX [0,4] (fun f w=>∃ c d e,aBa b c=some x/\f 3=zS d c.length e/\aI G K (aN 2 K d e c::L) w) ?_ ?_))))
   ·rintro f a5 ⟨c,d,e,hm,y,z⟩
    unfold aBa at hm
    exact aB (aQ (bC p (aD (cL rfl rfl) (aE (v:=i64 (wr (b+1))) (aG ⟨_,(zI hm).symm,aM,d,e,y,rfl,z⟩)))))
   exact eB
  ·exact eB
theorem aBA {t:cB} {j:Nat} {p:(List Int)} {R:(List Bool)} (hm:xI t p=some R) (hs:aI G K (L) w) (c:dT K a1 j (zC t a4 c5 a7 c8)) (h6:bW K a4 c5 t.L) (h9:bW K a7 c8 t.E) (e2:bW K a10 c11 p):
  Calls prog 64 ([cC a1 j,zS a10 p.length c11]:List Value).toArray w (eV fun v w'=>∃ c0 c1,v=zS c0 R.length c1/\aI G K (aN 4 K c0 c1 R::L) w'):=by
 refine aR func64 rfl (by kernel_rfl) (by show (2:Nat)<=82;decide) ?_;unfold xI at hm
 refine aK (aE (v:=zS none 0 0) (aG (aK (aF (v:=cC a1 j) (aD (cA rfl c) (aD (bS (k':=j+0) cT rfl c rfl) (aD (bE (t:=0) cE hs c rfl rfl) ?_)))))));obtain ⟨a,e3,hm⟩:=aC hm
 refine aHl (e:=(false:Bool)) fU ez_4 rfl rfl hs rfl rfl rfl e3 rfl (fun b e4 (i0:aI G K (aN 4 K b a.length a::L) e4)=>(aE (v:=zS b a.length a.length) (aG (aO (aK (aE (v:=i64 0) (aG (aX [0,1] (fun f w=>∃ r,sA t p r=some R/\f 5=zS b r.length a.length/\aI G K (aN 4 K b a.length r::L) w) ?_ ?_))))))))
 ·rintro f i1 ⟨r,hm,i2,i3⟩
  unfold sA at hm
  refine aB (aO (aK (aE (v:=zB true) (aG (aX [] (fun f w=>∃ J,uA J=some R/\f 5=zS b J.length a.length/\aI G K (aN 4 K b a.length J::L) w) eB ?_)))));obtain ⟨i4,e5,ho⟩:=aC hm
  refine cP [0,1] e5 (fun V c2 f w=>f 5=zS b V.length a.length/\f 7=zB c2/\aI G K (aN 4 K b a.length V::L) w) eB ?_
  ·rintro V c2 c3 f i5 hm hr ⟨i6,e6,i7⟩
   unfold pU at hm
   refine aO (aK (bC e6 (aG ?_)))
   rcases aH hm with ⟨c4,hm⟩|⟨c4,hm⟩
   ·refine aL c4 rfl (aW (aB (aX [0,1] (fun f w=>∃ u Z,aDq u Z=some c3/\f 5=zS b u.length a.length/\f 7=zB Z/\aI G K (aN 4 K b a.length u::L) w) ?_ ?_)))
    ·rintro f i8 ⟨u,Z,hm,e7,e8,e9⟩
     unfold aDq at hm
     exact aB ⟨_,(zI hm).symm,aM,e7,e8,e9⟩
    refine aK (aE (v:=zB false) (aG (aK (aE (v:=i64 0) (aG (aX [0,1] (fun f w=>∃ a0 c6,zW a0 c6=some c3/\f 5=zS b a0.length a.length/\f 7=zB c6/\aI G K (aN 4 K b a.length a0::L) w) eB ?_))))));obtain ⟨i9,f0,ho⟩:=aC hm
    refine yL [0,1] f0 (fun k a2 l f w=>f 5=zS b k.length a.length/\f 7=zB a2/\f 8=i64 l/\aI G K (aN 4 K b a.length k::L) w) eB ?_
    ·rintro k a2 l c7 f j0 hm hr ⟨a3,j1,o,a5⟩
     unfold nI at hm
     refine aO (aK (bC o (aF (v:=cC a1 j) (aD (cA rfl c) (aD (bS (k':=j+0) cT rfl c rfl) (aD (bE (t:=0) cE a5 c rfl rfl) (aD (cV rfl rfl) (aG ?_))))))))
     rcases aH hm with ⟨c9,hm⟩|⟨c9,hm⟩
     ·refine aL c9 rfl (aW (aB (aO (aX [0,1,8] (fun f w=>∃ x a6,nH l x a6=some c7/\f 5=zS b x.length a.length/\f 7=zB a6/\aI G K (aN 4 K b a.length x::L) w) ?_ ?_))))
      ·rintro f j2 ⟨x,a6,hm,f1,f2,f3⟩
       unfold nH at hm
       exact aB (aQ (bC o (aD (cL rfl rfl) (aE (v:=i64 (wr (l+1))) (aG ⟨_,(zI hm).symm,aM,f1,f2,rfl,f3⟩)))))
      refine aO (aK (bC a3 (bC o ?_)));obtain ⟨j3,q,hm⟩:=aC hm
      have d0:=cQ a5 (i:=0) rfl q
      refine aD (dL fU rfl d0 rfl rfl rfl q) (aD (jV (t:=0) aCH a5 (i:=0) rfl q rfl rfl rfl) (aD (eC rfl) (aG ?_)))
      rcases aH hm with ⟨d1,hm⟩|⟨d1,hm⟩
      ·exact eB
      ·refine aJ d1 rfl (aW (aB (aK (aE (v:=zB false) (aG (aO (aK (aE (v:=i64 0) (aG (aX [0,1,5,7,8] (fun f w=>∃ a8,uB k a2 l a8=some c7/\f 9=zB a8/\aI G K (aN 4 K b a.length k::L) w) ?_ ?_))))))))))
       ·rintro f j4 ⟨a8,hm,f4,f5⟩
        unfold uB at hm
        refine aB (aK (bC f4 (aD (eC rfl) (aG ?_))))
        rcases aH hm with ⟨d2,hm⟩|⟨d2,hm⟩
        ·refine aL d2 rfl (aK (bC a3 (bC o (aD (dL fU rfl d0 rfl rfl rfl q) ?_))));obtain ⟨d3,d4,hm⟩:=aC hm
         exact kU (i:=0) (t:=0) (ns:=[zB false]) (e':=(false:Bool)) sizeOf4 f5 rfl (zR _) rfl rfl rfl q d4 rfl rfl (dN rfl) rfl (fun cs h=>by cases h;rfl) (fun f6 (f7:aI G K (aN 4 K b a.length d3::L) f6)=>(aG (aQ (aE (v:=zB true) (bF (bA (aB ⟨aM,d3,true,hm,(Eq.trans a3 (congrArg (fun n=>zS b n a.length) (iC d4))),rfl,f7⟩)))))))
        ·exact eB
       obtain ⟨j5,f8,ho⟩:=aC hm
       refine cP [0,1,5,7,8] f8 (fun a9 y f w=>f 9=zB a9/\f 10=i64 y/\aI G K (aN 4 K b a.length k::L) w) eB ?_
       ·rintro a9 y f9 f j6 hm hr ⟨g0,b0,z⟩
        unfold lI at hm
        refine aO (aK (bC b0 (aF (v:=cC a1 j) (aD (cA rfl c) (aD (bS (k':=j+3) cM rfl c rfl) (aD (bE (t:=3) eK z c rfl rfl) (aD (bX (len:=t.E.length) cK rfl) (aD (cV rfl rfl) (aG ?_)))))))))
        rcases aH hm with ⟨d5,hm⟩|⟨d5,hm⟩
        ·refine aL d5 rfl (aW (aB (aO (dA (aK (aF (v:=cC a1 j) (aD (cA rfl c) (aD (bS (k':=j+3) cM rfl c rfl) (aD (bE (t:=3) eK z c rfl rfl) (bC b0 ?_))))))))));obtain ⟨d,d6,hm⟩:=aC hm
         refine aD (cO cK rfl h9 rfl rfl rfl d6) ?_;obtain ⟨j7,g1,g2⟩:=bW.el (sz:=3) rfl h9 d6
         cases g2
         refine aD (gC (t:=0) (vs:=[i64 d.F,i64 d.B,i64 d.To]) oX z g1 rfl rfl rfl) (cI (vs:=[i64 0,i64 0,i64 0]) zeroValue66 z rfl (fun d7 j8 g3=>(cG (i:=0) (ns:=[i64 d.F,i64 d.B,i64 d.To]) (us:=[i64 d.F,i64 d.B,i64 d.To]) sizeOf66 g3 rfl rfl rfl rfl rfl (dN rfl) rfl rfl (fun g4 (d8:aI G K (box d7 66 [i64 d.F,i64 d.B,i64 d.To]::aN 4 K b a.length k::L) g4)=>(aG (cH [0,1,5,7,8,10] (fun f w=>∃ b1,lH y b1=some f9/\f 9=zB b1/\aI G K (aN 4 K b a.length k::L) w) ?_ ?_))))))
         ·rintro f j9 ⟨b1,hm,g5,g6⟩
          unfold lH at hm
          exact bA (aB (aQ (bC b0 (aD (cL rfl rfl) (aE (v:=i64 (wr (y+1))) (aG ⟨_,(zI hm).symm,aM,g5,rfl,g6⟩))))))
         refine aQ (bC g0 (aF (v:=zB a9) ?_))
         rcases aH hm with ⟨m,hm⟩|⟨m,hm⟩
         ·exact eB
         ·refine bG m rfl rfl (aD (bH (t':=0) iY rfl rfl) (bG m rfl rfl (aD (cR cE d8 (i:=0) rfl rfl rfl) (bG m rfl rfl (bC o (bG m rfl rfl (aD (dM rfl rfl) (bG m rfl rfl (aF (v:=zB (d.F == l)) ?_)))))))))
          rcases aH hm with ⟨b2,hm⟩|⟨b2,hm⟩
          ·refine bK b2 rfl rfl (aF (v:=zS a10 p.length c11) (bK b2 rfl rfl ?_));obtain ⟨k0,g7,g8,g9,k1⟩:=aI.lendBp d8 .head
           obtain ⟨k3,h0,hm⟩:=aC hm
           exact aP (vs:=[cC (some ⟨d7,0,none⟩) 0,zS a10 p.length c11]) call62 rfl (uJ h0 g9 g8 (e2.mono g7)) eB
          ·exact eB
        ·exact eB
     ·exact eB
   ·exact eB
 obtain ⟨k4,h1,ho⟩:=aC hm
 refine cP [0,1] h1 (fun b3 b4 f w=>f 5=zS b b3.length a.length/\f 6=i64 b4/\aI G K (aN 4 K b a.length b3::L) w) eB ?_
 ·rintro b3 b4 k5 f k6 hm hr ⟨d9,b5,b6⟩
  unfold jX at hm
  refine aO (aK (bC b5 (aF (v:=cC a1 j) (aD (cA rfl c) (aD (bS (k':=j+0) cT rfl c rfl) (aD (bE (t:=0) cE b6 c rfl rfl) (aD (cV rfl rfl) (aG ?_))))))))
  rcases aH hm with ⟨e0,hm⟩|⟨e0,hm⟩
  ·refine aL e0 rfl (aW (aB (aO (dA (aQ (bC d9 (bC b5 ?_)))))));obtain ⟨k7,b7,hm⟩:=aC hm
   have h2:=cQ b6 (i:=0) rfl b7
   refine aD (dL fU rfl h2 rfl rfl rfl b7) ?_;obtain ⟨h4,e1,hm⟩:=aC hm
   exact kU (i:=0) (t:=0) (ns:=[zB true]) (e':=(true:Bool)) sizeOf4 b6 rfl (zR _) rfl rfl rfl b7 e1 rfl rfl (dN rfl) rfl (fun cs h=>by cases h;rfl) (fun h5 (h7:aI G K (aN 4 K b a.length h4::L) h5)=>(bF (bA (aB (aQ (bC b5 (aD (cL rfl rfl) (aE (v:=i64 (wr (b4+1))) (aG ⟨_,(zI hm).symm,aM,(Eq.trans d9 (congrArg (fun n=>zS b n a.length) (iC e1))),rfl,h7⟩)))))))))
  ·exact eB
theorem aIr {a b R:Int} (hm:aJb a b=some R) (c:aI G K (L) w):
  Calls prog 109 ([i64 a,i64 b]:List Value).toArray w (eV fun v w'=>v=i64 R/\aI G K (L) w'):=by
 exact eB
theorem aJA {p:(List Int)} {R:Int} (hm:aAE p=some R) (e:aI G K (L) w) (g:bW K a1 c2 p):
  Calls prog 65 ([zS a1 p.length c2]:List Value).toArray w (eV fun v w'=>v=i64 R/\aI G K (L) w'):=by
 refine aR func65 rfl (by kernel_rfl) (by show (1:Nat)<=19;decide) ?_;unfold aAE at hm
 refine aK (aE (v:=i64 0) (aG (aK (aE (v:=i64 0) (aG (aO (aK (aE (v:=i64 0) (aG (aX [] (fun f w=>∃ a,aBb a=some R/\f 3=i64 a/\aI G K (L) w) eB ?_))))))))));obtain ⟨h,b,ho⟩:=aC hm
 exact cP [0] b (fun c d f w=>f 3=i64 c/\f 4=i64 d/\aI G K (L) w) eB eB
end Gv
namespace Gv
open Gv.Hp renaming le_refl→zR
open Go.Value renaming slice→zS,bool→zB
open Option.some renaming inj→zI
open Gv.Hp renaming le_trans→zL
open Go Go.Proofs Go.Proofs.Tryz
set_option maxRecDepth 20000
set_option maxHeartbeats 40000000
variable {G:uK} {K:Hp} {L:List gQ} {w:World} {a1 a4 a7 a10:Option Addr} {c5 c8 c11 c2:Nat}
theorem aAu {t:cB} {g:Nat} {p:(List Int)} {q:Bool} {R:cB} (hm:rG t p q=some R) (hs:aI G K (L) w) (j:dT K a1 g (zC t a4 c5 a7 c8)) (h6:bW K a4 c5 t.L) (h9:bW K a7 c8 t.E) (m:bW K a10 c11 p):
  Calls prog 27 ([cC a1 g,zS a10 p.length c11,zB q]:List Value).toArray w (eV fun v w'=>∃ b9 c0 c1 c2,v=Value.agg (zCa R b9 c0 c1 c2)/\aI G K (aN 9 K b9 c0 R.L::aN 66 K c1 c2 R.E::L) w'):=by
 let c:=zG
 refine aR func27 rfl (by kernel_rfl) (by show (3:Nat)<=92;decide) ?_;unfold rG at hm
 refine aK (cI (vs:=c) zeroValue27 hs rfl (fun d j5 e9=>(aG (aK (bT (Kt:=K) (xs:=([]:List Edge)) (cs:=[]) (vs:=[]) cK gP rfl rfl e9 rfl (by kernel_rfl) rfl rfl rfl trivial (fun c3 f0 (j6:aI G K (aN 66 K c3 0 ([]:List Edge)::box d 27 c::L) f0)=>(aE (v:=zS c3 ([]:List Edge).length 0) (aG (aO (aK (aE (v:=i64 0) (aG (aX [0,1,2,6] (fun f w=>∃ r b0 b1,xJ t p q r=some R/\f 7=zS b0 r.length b1/\aI G K (aN 66 K b0 b1 r::box d 27 c::L) w) ?_ ?_)))))))))))))
 ·rintro f j7 ⟨r,b0,b1,hm,j8,f1⟩
  unfold xJ at hm
  refine aB (iQ [0,1,6] (fun f w=>∃ u b2 b3,oN t p u=some R/\f 7=zS b2 u.length b3/\aI G K (aN 66 K b2 b3 u::box d 27 c::L) w) ?_ ?_)
  ·rintro f j9 ⟨u,b2,b3,hm,k0,c4⟩
   unfold oN at hm
   refine aO (dI (C:=fun w'=>∃ L',aI G K L' w') [(0,0),(2,0),(3,0),(4,0),(5,0),(6,0),(7,0),(8,0),(9,0),(10,0),(11,0),(12,0),(13,0),(1,1),(14,1),(15,2)] Tryz_mixed (by kernel_rfl) (fun _ hg=>⟨_,aI.mono c4 hg⟩) (fun k1 f2=>?_))
   have k3:=aI.mono c4 f2
   exact eB
  refine aK (aF (v:=zB q) (aG ?_))
  rcases aH hm with ⟨c6,hm⟩|⟨c6,hm⟩
  ·refine aL c6 rfl (aK (aF (v:=cC a1 g) (aF (v:=zS a10 p.length c11) ?_)));obtain ⟨f3,f4,hm⟩:=aC hm
   refine aP (vs:=[cC a1 g,zS a10 p.length c11]) call64 rfl (aBA f4 f1 j h6 h9 m) ?_
   rintro _ k4 ⟨f5,f6,rfl,f7⟩
   obtain ⟨k5,k6,f8,f9,g0⟩:=aI.lendSp f7 (zR _) .head
   obtain ⟨k,g1,hm⟩:=aC hm
   refine aP (vs:=[zS f5 f3.length f6]) call63 rfl (aHF g1 f9 f8) ?_
   rintro _ k7 ⟨n,o,rfl,g2⟩
   have k8:=g0 _ _ g2
   refine aE (v:=zS n k.length o) (aG (aK (aE (v:=i64 0) (aG (aX [0,1,6] (fun f w=>∃ b4 c7 c9,aBV t p b4=some R/\f 7=zS c7 b4.length c9/\aI G K (aN 66 K c7 c9 b4::box d 27 c::L) w) eB ?_)))));obtain ⟨k9,g3,ho⟩:=aC hm
   refine cP [0,1,6,10] g3 (fun x d0 f w=>∃ y z,f 7=zS y x.length z/\f 11=i64 d0/\aI G K (aN 2 K n o k::aN 66 K y z x::box d 27 c::L) w) eB ?_
   ·rintro x d0 l0 f l1 hm hr ⟨y,z,g4,b5,g5⟩
    unfold jY at hm
    refine aO (aK (bC b5 (aF (v:=zS n k.length o) (aD (bX (len:=k.length) bV rfl) (aD (cV rfl rfl) (aG ?_))))))
    rcases aH hm with ⟨d1,hm⟩|⟨d1,hm⟩
    ·refine aL d1 rfl (aW (aB (aO (dA ?_))));obtain ⟨b6,l,d2,d3,g6⟩:=aI.lendSp g5 (zR _) .head
     refine dI (C:=fun w'=>∃ L',aI G b6 L' w') [(0,0),(1,0),(2,0),(3,0),(4,0),(5,0),(6,0),(7,0),(8,0),(9,0),(10,0),(11,0),(12,0),(13,0),(14,0),(15,0),(16,1),(17,1),(18,0)] Tryz_mixed (by kernel_rfl) (fun _ hg=>⟨_,aI.mono d3 hg⟩) (fun l2 g7=>?_)
     have e:=aI.mono d3 g7
     refine bL rfl (fun _ _=>aT g4) (bL rfl (fun _ _=>aT (v:=zS a10 p.length c11) rfl) (bL rfl (fun _ _=>aT (v:=zS n k.length o) rfl) (bL rfl (fun _ _=>aT b5) ?_)));obtain ⟨l3,J,hm⟩:=aC hm
     have d4:=aGC d2 J
     refine bL rfl (fun _ _=>dL bV rfl d4 rfl rfl rfl J) ?_;obtain ⟨l4,d5,g8⟩:=bW.el (sz:=1) rfl d2 J
     cases g8
     refine bL rfl (fun _ ⟨_,e⟩=>bE (t:=0) cE e d5 rfl rfl) ?_;obtain ⟨a,b7,hm⟩:=aC hm
     refine bL rfl (fun _ _=>cO bV rfl (m.mono l) rfl rfl rfl b7) ?_;obtain ⟨l5,d6,g9⟩:=bW.el (sz:=1) rfl m b7
     cases g9
     refine bL rfl (fun _ ⟨_,e⟩=>bE (t:=0) cE e (d6.mono l) rfl rfl) (bL rfl (fun _ _=>aT (v:=zS a10 p.length c11) rfl) (bL rfl (fun _ _=>aT (v:=zS n k.length o) rfl) (bL rfl (fun _ _=>aT b5) (bL rfl (fun _ _=>dL bV rfl d4 rfl rfl rfl J) (bL rfl (fun _ ⟨_,e⟩=>bE (t:=0) cE e d5 rfl rfl) (bL rfl (fun _ _=>cO bV rfl (m.mono l) rfl rfl rfl b7) (bL rfl (fun _ ⟨_,e⟩=>bE (t:=0) cE e (d6.mono l) rfl rfl) (bL rfl (fun _ _=>gW (vs:=[(0,i64 a),(2,i64 a)]) (cs:=[i64 a,i64 0,i64 a]) aIn rfl (by kernel_rfl)) (fT rfl (bT (Kt:=K) (xs:=([⟨a,0,a⟩]:List Edge)) (cs:=[i64 a,i64 0,i64 a]) (vs:=[(0,Value.agg #[i64 a,i64 0,i64 a])]) cK gP rfl rfl e rfl (by kernel_rfl) rfl rfl rfl ⟨rfl,trivial⟩ (fun h0 h1 (d7:aI G b6 (aN 66 K h0 1 ([⟨a,0,a⟩]:List Edge)::aN 66 K y z x::box d 27 c::L) h1)=>(bF (aB ⟨⟨_,d7⟩,?_⟩)))))))))))))
     refine fT rfl ?_;obtain ⟨d8,h2,hm⟩:=aC hm
     refine eR (i:=0) cK underlying25 gP rfl rfl d7 rfl l l h2 rfl rfl rfl rfl (fun _ h=>h) (fun d9 e0 h4 (e1:aI G b6 (aN 66 K d9 e0 d8::box d 27 c::L) h4)=>(bF (aB ⟨⟨_,e1⟩,?_⟩)))
     refine bL rfl (fun _ _=>gR (v:=zS d9 d8.length e0) rfl) (gD ?_)
     have l6:=g6 _ _ e1
     exact eB
    ·exact eB
  ·exact eB
 obtain ⟨l7,h5,ho⟩:=aC hm
 refine cP [0,1,2,6] h5 (fun V Z f w=>∃ a0 a2,f 7=zS a0 V.length a2/\f 8=i64 Z/\aI G K (aN 66 K a0 a2 V::box d 27 c::L) w) eB ?_
 ·rintro V Z h7 f l8 hm hr ⟨a0,a2,l9,b8,a3⟩
  unfold jZ at hm
  refine aO (aK (bC b8 (aF (v:=cC a1 g) (aD (cA rfl j) (aD (bS (k':=g+3) cM rfl j rfl) (aD (bE (t:=3) eK a3 j rfl rfl) (aD (bX (len:=t.E.length) cK rfl) (aD (cV rfl rfl) (aG ?_)))))))))
  rcases aH hm with ⟨e2,hm⟩|⟨e2,hm⟩
  ·refine aL e2 rfl (aW (aB (aO (aX [0,1,2,6,8] (fun f w=>∃ a5 a6 a8,sC Z a5=some h7/\f 7=zS a6 a5.length a8/\aI G K (aN 66 K a6 a8 a5::box d 27 c::L) w) ?_ ?_))))
   ·rintro f m0 ⟨a5,a6,a8,hm,h8,i0⟩
    unfold sC at hm
    exact aB (aQ (bC b8 (aD (cL rfl rfl) (aE (v:=i64 (wr (Z+1))) (aG ⟨_,(zI hm).symm,aM,a6,a8,h8,rfl,i0⟩)))))
   refine aK (aF (v:=cC a1 g) (aD (cA rfl j) (aD (bS (k':=g+3) cM rfl j rfl) (aD (bE (t:=3) eK a3 j rfl rfl) (bC b8 ?_)))));obtain ⟨b,e3,hm⟩:=aC hm
   refine aD (cO cK rfl h9 rfl rfl rfl e3) ?_;obtain ⟨m1,i1,i2⟩:=bW.el (sz:=3) rfl h9 e3
   cases i2
   refine aD (gC (t:=0) (vs:=[i64 b.F,i64 b.B,i64 b.To]) oX a3 i1 rfl rfl rfl) (cI (vs:=[i64 0,i64 0,i64 0]) zeroValue66 a3 rfl (fun e4 m2 i3=>(cG (i:=0) (ns:=[i64 b.F,i64 b.B,i64 b.To]) (us:=[i64 b.F,i64 b.B,i64 b.To]) sizeOf66 i3 rfl rfl rfl rfl rfl (dN rfl) rfl rfl (fun i4 (i5:aI G K (box e4 66 [i64 b.F,i64 b.B,i64 b.To]::aN 66 K a0 a2 V::box d 27 c::L) i4)=>(aG (aK (aF (v:=zS a10 p.length c11) ?_)))))))
   obtain ⟨m3,i6,i7,i8,i9⟩:=aI.lendBp i5 .head
   obtain ⟨m4,j0,hm⟩:=aC hm
   refine aP (vs:=[cC (some ⟨e4,0,none⟩) 0,zS a10 p.length c11]) call62 rfl (uJ j0 i8 i7 (m.mono i6)) ?_
   rintro _ m5 ⟨rfl,j1⟩
   have j2:=i9 _ _ j1
   refine aD (eC rfl) (aG ?_)
   rcases aH hm with ⟨e5,hm⟩|⟨e5,hm⟩
   ·refine aL e5 rfl ?_;obtain ⟨j3,m6,m7,e6,m8⟩:=aI.lendBp j2 .head
    refine dI (C:=fun w'=>∃ L',aI G j3 L' w') [(0,0),(1,0),(2,0),(3,0),(4,0),(5,0),(6,0),(7,0),(8,0),(9,0),(10,0),(11,0),(12,0),(13,0),(14,1),(15,1),(16,0)] Tryz_mixed (by kernel_rfl) (fun _ hg=>⟨_,aI.mono e6 hg⟩) (fun m9 j4=>?_)
    have n0:=aI.mono e6 j4
    exact eB
   ·exact eB
  ·exact eB
theorem aAh {a:(List Int)} {n R:Int} (hm:aAp a n=some R) (d:aI G K (L) w) (e:bW K a1 c2 a):
  Calls prog 106 ([zS a1 a.length c2,i64 n]:List Value).toArray w (eV fun v w'=>v=i64 R/\aI G K (L) w'):=by
 refine aR func106 rfl (by kernel_rfl) (by show (2:Nat)<=19;decide) ?_;unfold aAp at hm
 refine aK (aE (v:=i64 0) (aG (aO (aK (aE (v:=i64 0) (aG (aX [] (fun f w=>aIo=some R/\aI G K (L) w) eB ?_)))))));obtain ⟨g,b,ho⟩:=aC hm
 exact fA [0,1] b (fun c f w=>f 5=i64 c/\aI G K (L) w) eB eB
theorem aHG {t:cB} {q:Nat} {a:(List Int)} {R:cB} (hm:aEd t a=some R) (hs:aI G K (L) w) (k:dT K a1 q (zC t a4 c5 a7 c8)) (h6:bW K a4 c5 t.L) (h9:bW K a7 c8 t.E) (a0:bW K a10 c11 a):
  Calls prog 58 ([cC a1 q,zS a10 a.length c11]:List Value).toArray w (eV fun v w'=>∃ a6 a8 a9 b0,v=Value.agg (zCa R a6 a8 a9 b0)/\aI G K (aN 9 K a6 a8 R.L::aN 66 K a9 b0 R.E::L) w'):=by
 let h:=zG
 refine aR func58 rfl (by kernel_rfl) (by show (2:Nat)<=66;decide) ?_;unfold aEd at hm
 refine aK (cI (vs:=h) zeroValue27 hs rfl (fun l f0 b1=>(aG (aK (aF (v:=zS a10 a.length c11) (aD (bX (len:=a.length) bV rfl) (aF (v:=zS a10 a.length c11) (aF (v:=cC a1 q) (aD (cA rfl k) (aD (bS (k':=q+1) oC rfl k rfl) (aD (bE (t:=1) cE b1 k rfl rfl) ?_)))))))))));obtain ⟨g,c3,hm⟩:=aC hm
 refine aP (vs:=[zS a10 a.length c11,i64 t.I]) call106 rfl (aAh c3 b1 a0) ?_
 rintro _ f1 ⟨rfl,c4⟩
 refine bT (Kt:=K) (xs:=([]:List Edge)) (cs:=[]) (vs:=[]) cK gP rfl rfl c4 rfl (by kernel_rfl) rfl rfl rfl trivial (fun j c6 (c7:aI G K (aN 66 K j 0 ([]:List Edge)::box l 27 h::L) c6)=>(aD (gW (vs:=[(0,i64 (a.length:Int)),(1,i64 g),(3,zS j ([]:List Edge).length 0)]) (cs:=[i64 (a.length:Int),i64 g,zS none 0 0,zS j ([]:List Edge).length 0]) aCG rfl (by kernel_rfl)) (cI (vs:=h) zeroValue27 c7 rfl (fun n f2 c9=>(cG (i:=0) (ns:=[i64 (a.length:Int),i64 g,zS none 0 0,zS j ([]:List Edge).length 0]) (us:=[i64 (a.length:Int),i64 g,zS none 0 0,zS j ([]:List Edge).length 0]) sizeOf27 c9 rfl rfl rfl rfl rfl (dN rfl) rfl rfl (fun d0 (d1:aI G K (box n 27 [i64 (a.length:Int),i64 g,zS none 0 0,zS j ([]:List Edge).length 0]::aN 66 K j 0 ([]:List Edge)::box l 27 h::L) d0)=>(aG (aK (bT (Kt:=K) (xs:=([]:List aY)) (cs:=[]) (vs:=[]) dE oM rfl rfl d1 rfl (by kernel_rfl) rfl rfl rfl trivial (fun d2 d3 (b2:aI G K (aN 9 K d2 0 ([]:List aY)::box n 27 [i64 (a.length:Int),i64 g,zS none 0 0,zS j ([]:List Edge).length 0]::aN 66 K j 0 ([]:List Edge)::box l 27 h::L) d3)=>(aF (v:=cC a1 q) (aD (cA rfl k) (aD (bS (k':=q+2) fF rfl k rfl) (aD (bE (t:=2) oF b2 k rfl rfl) ?_))))))))))))))
 obtain ⟨c,d4,hm⟩:=aC hm
 refine nG (i:=0) dE underlying24 oM rfl rfl b2 rfl (zR _) h6 d4 rfl rfl rfl rfl (fun d e d5 (d6:aI G K (aN 9 K d e c::box n 27 [i64 (a.length:Int),i64 g,zS none 0 0,zS j ([]:List Edge).length 0]::aN 66 K j 0 ([]:List Edge)::box l 27 h::L) d5)=>(aD (bH (t':=2) fF rfl rfl) (cG (i:=1) (ns:=[zS d c.length e]) (us:=[i64 (a.length:Int),i64 g,zS d c.length e,zS j ([]:List Edge).length 0]) sizeOf24 d6 rfl rfl rfl rfl rfl (dN rfl) rfl rfl (fun d7 (f3:aI G K (aN 9 K d e c::box n 27 [i64 (a.length:Int),i64 g,zS d c.length e,zS j ([]:List Edge).length 0]::aN 66 K j 0 ([]:List Edge)::box l 27 h::L) d7)=>(aG (aO (aK (aE (v:=i64 0) (aG (aX [4,5] (fun f w=>∃ a2 b3 b4,aJc a g c a2=some R/\aI G K (aN 66 K b3 b4 a2::aN 9 K d e c::box n 27 [i64 (a.length:Int),i64 g,zS d c.length e,zS b3 a2.length b4]::box l 27 h::L) w) eB ?_))))))))))
 obtain ⟨f4,d8,ho⟩:=aC hm
 refine cP [0,1,4,5] d8 (fun m u f w=>∃ o p,f 6=i64 u/\aI G K (aN 9 K d e c::box n 27 [i64 (a.length:Int),i64 g,zS d c.length e,zS o m.length p]::aN 66 K o p m::box l 27 h::L) w) eB ?_
 ·rintro m u b5 f f5 hm hr ⟨o,p,a3,y⟩
  unfold xL at hm
  refine aO (aK (bC a3 (aF (v:=cC a1 q) (aD (cA rfl k) (aD (bS (k':=q+3) cM rfl k rfl) (aD (bE (t:=3) eK y k rfl rfl) (aD (bX (len:=t.E.length) cK rfl) (aD (cV rfl rfl) (aG ?_)))))))))
  rcases aH hm with ⟨b6,hm⟩|⟨b6,hm⟩
  ·refine aL b6 rfl (aW (aB (aO (aX [0,1,4,5,6] (fun f w=>∃ z J V,tM u z=some b5/\aI G K (aN 66 K J V z::aN 9 K d e c::box n 27 [i64 (a.length:Int),i64 g,zS d c.length e,zS J z.length V]::box l 27 h::L) w) ?_ ?_))))
   ·rintro f f6 ⟨z,J,V,hm,d9⟩
    unfold tM at hm
    exact aB (aQ (bC a3 (aD (cL rfl rfl) (aE (v:=i64 (wr (u+1))) (aG ⟨_,(zI hm).symm,aM,J,V,rfl,(aI.arr 3 [1,2,0] d9 rfl)⟩)))))
   refine aK (aF (v:=cC a1 q) (aD (cA rfl k) (aD (bS (k':=q+3) cM rfl k rfl) (aD (bE (t:=3) eK y k rfl rfl) (bC a3 ?_)))));obtain ⟨b,b7,hm⟩:=aC hm
   refine aD (cO cK rfl h9 rfl rfl rfl b7) ?_;obtain ⟨f7,e0,e1⟩:=bW.el (sz:=3) rfl h9 b7
   cases e1
   refine aD (gC (t:=0) (vs:=[i64 b.F,i64 b.B,i64 b.To]) oX y e0 rfl rfl rfl) (cI (vs:=[i64 0,i64 0,i64 0]) zeroValue66 y rfl (fun Z f8 e2=>(cG (i:=0) (ns:=[i64 b.F,i64 b.B,i64 b.To]) (us:=[i64 b.F,i64 b.B,i64 b.To]) sizeOf66 e2 rfl rfl rfl rfl rfl (dN rfl) rfl rfl (fun e3 (b8:aI G K (box Z 66 [i64 b.F,i64 b.B,i64 b.To]::aN 9 K d e c::box n 27 [i64 (a.length:Int),i64 g,zS d c.length e,zS o m.length p]::aN 66 K o p m::box l 27 h::L) e3)=>(aG (aK (aF (v:=zS a10 a.length c11) (aD (bH (t':=0) iY rfl rfl) (aD (cR cE b8 (i:=0) rfl rfl rfl) ?_)))))))))
   obtain ⟨r,e4,hm⟩:=aC hm
   refine aP (vs:=[zS a10 a.length c11,i64 b.F]) call106 rfl (aAh e4 b8 a0) ?_
   rintro _ f9 ⟨rfl,e5⟩
   refine aD (bH (t':=0) iY rfl rfl) (cG (i:=0) (ns:=[i64 r]) (us:=[i64 r,i64 b.B,i64 b.To]) sizeOf2 e5 rfl rfl rfl rfl rfl (dN rfl) rfl rfl (fun e6 (b9:aI G K (box Z 66 [i64 r,i64 b.B,i64 b.To]::aN 9 K d e c::box n 27 [i64 (a.length:Int),i64 g,zS d c.length e,zS o m.length p]::aN 66 K o p m::box l 27 h::L) e6)=>(aG (aK (aF (v:=zS a10 a.length c11) (aD (bH (t':=2) gY rfl rfl) (aD (cR cE b9 (i:=0) rfl rfl rfl) ?_)))))))
   obtain ⟨x,e7,hm⟩:=aC hm
   refine aP (vs:=[zS a10 a.length c11,i64 b.To]) call106 rfl (aAh e7 b9 a0) ?_
   rintro _ g0 ⟨rfl,e8⟩
   exact aD (bH (t':=2) gY rfl rfl) (cG (i:=0) (ns:=[i64 x]) (us:=[i64 r,i64 b.B,i64 x]) sizeOf2 e8 rfl rfl rfl rfl rfl (dN rfl) rfl rfl (fun e9 (g1:aI G K (box Z 66 [i64 r,i64 b.B,i64 x]::aN 9 K d e c::box n 27 [i64 (a.length:Int),i64 g,zS d c.length e,zS o m.length p]::aN 66 K o p m::box l 27 h::L) e9)=>(aG (aO (cH [0,1,4,5,6,7] (fun f w=>∃ c0,xK m u b r x c0=some b5/\f 58=zB c0/\aI G K (box Z 66 [i64 r,i64 b.B,i64 x]::aN 9 K d e c::box n 27 [i64 (a.length:Int),i64 g,zS d c.length e,zS o m.length p]::aN 66 K o p m::box l 27 h::L) w) eB eB)))))
  ·exact eB
theorem aGV {t:cB} {d:Nat} {R:(List Int)} (hm:aBW t=some R) (hs:aI G K (L) w) (c:dT K a1 d (zC t a4 c5 a7 c8)) (h6:bW K a4 c5 t.L) (h9:bW K a7 c8 t.E):
  Calls prog 59 ([cC a1 d]:List Value).toArray w (eV fun v w'=>∃ b2 b3,v=zS b2 R.length b3/\aI G K (aN 2 K b2 b3 R::L) w'):=by
 refine aR func59 rfl (by kernel_rfl) (by show (1:Nat)<=82;decide) ?_;unfold aBW at hm
 refine aK (aE (v:=zS none 0 0) (aG (aK (aF (v:=cC a1 d) (aD (cA rfl c) (aD (bS (k':=d+0) cT rfl c rfl) (aD (bE (t:=0) cE hs c rfl rfl) ?_)))))));obtain ⟨a,d6,hm⟩:=aC hm
 refine aHl (e:=(false:Bool)) fU ez_4 rfl rfl hs rfl rfl rfl d6 rfl (fun b d7 (u:aI G K (aN 4 K b a.length a::L) d7)=>(aE (v:=zS b a.length a.length) (aG (aK (aF (v:=zS b a.length a.length) (aF (v:=cC a1 d) (aD (cA rfl c) (aD (bS (k':=d+1) oC rfl c rfl) (aD (bE (t:=1) cE u c rfl rfl) ?_)))))))));obtain ⟨g3,x,hm⟩:=aC hm
 have b4:=cQ u (i:=0) rfl x
 refine aD (dL fU rfl b4 rfl rfl rfl x) ?_;obtain ⟨d8,b5,hm⟩:=aC hm
 refine kU (i:=0) (t:=0) (ns:=[zB true]) (e':=(true:Bool)) sizeOf4 u rfl (zR _) rfl rfl rfl x b5 rfl rfl (dN rfl) rfl (fun cs h=>by cases h;rfl) (fun d9 (e0:aI G K (aN 4 K b a.length d8::L) d9)=>(aG (aO (aK (aE (v:=zB true) (aG (aX [0] (fun f w=>∃ g,yT t g=some R/\f 3=zS b g.length a.length/\aI G K (aN 4 K b a.length g::L) w) ?_ ?_)))))))
 ·rintro f g4 ⟨g,hm,g5,e1⟩
  unfold yT at hm
  refine aB (aK (bT (Kt:=K) (xs:=([]:List Int)) (cs:=[]) (vs:=[]) bV iD rfl rfl e1 rfl (by kernel_rfl) rfl rfl rfl trivial (fun b6 e2 (g6:aI G K (aN 2 K b6 0 ([]:List Int)::aN 4 K b a.length g::L) e2)=>(aE (v:=zS b6 ([]:List Int).length 0) (aG (aO (aK (aE (v:=i64 0) (aG (aX [] (fun f w=>∃ y b7 b8,aIp y=some R/\f 6=zS b7 y.length b8/\aI G K (aN 2 K b7 b8 y::L) w) eB ?_))))))))));obtain ⟨g7,e3,ho⟩:=aC hm
  refine cP [0,3] e3 (fun z l f w=>∃ J V,f 6=zS J z.length V/\f 7=i64 l/\aI G K (aN 2 K J V z::aN 4 K b a.length g::L) w) eB ?_
  ·rintro z l e4 f g8 hm hr ⟨J,V,g9,b9,e5⟩
   unfold yS at hm
   refine aO (aK (bC b9 (aF (v:=cC a1 d) (aD (cA rfl c) (aD (bS (k':=d+0) cT rfl c rfl) (aD (bE (t:=0) cE e5 c rfl rfl) (aD (cV rfl rfl) (aG ?_))))))))
   rcases aH hm with ⟨c0,hm⟩|⟨c0,hm⟩
   ·refine aL c0 rfl (aW (aB (aO (aX [0,3,7] (fun f w=>∃ m o p,yR l m=some e4/\f 6=zS o m.length p/\aI G K (aN 2 K o p m::aN 4 K b a.length g::L) w) ?_ ?_))))
    ·rintro f h0 ⟨m,o,p,hm,e6,e7⟩
     unfold yR at hm
     exact aB (aQ (bC b9 (aD (cL rfl rfl) (aE (v:=i64 (wr (l+1))) (aG ⟨_,(zI hm).symm,aM,o,p,e6,rfl,e7⟩)))))
    exact eB
   ·exact eB
 obtain ⟨h1,e8,ho⟩:=aC hm
 refine cP [0] e8 (fun Z c1 f w=>f 3=zS b Z.length a.length/\f 4=zB c1/\aI G K (aN 4 K b a.length Z::L) w) ?_ ?_
 ·exact ⟨(Eq.trans rfl (congrArg (fun n=>zS b n a.length) (iC b5))),rfl,e0⟩
 ·rintro Z c1 c2 f h2 hm hr ⟨h4,e9,h5⟩
  unfold aEu at hm
  refine aO (aK (bC e9 (aG ?_)))
  rcases aH hm with ⟨c3,hm⟩|⟨c3,hm⟩
  ·refine aL c3 rfl (aW (aB (aX [0] (fun f w=>∃ q a0,aFC q a0=some c2/\f 3=zS b q.length a.length/\f 4=zB a0/\aI G K (aN 4 K b a.length q::L) w) ?_ ?_)))
   ·rintro f h7 ⟨q,a0,hm,f0,f1,f2⟩
    unfold aFC at hm
    exact aB ⟨_,(zI hm).symm,aM,f0,f1,f2⟩
   refine aK (aE (v:=zB false) (aG (aK (aE (v:=i64 0) (aG (aX [0] (fun f w=>∃ a2 c4,aFD a2 c4=some c2/\f 3=zS b a2.length a.length/\f 4=zB c4/\aI G K (aN 4 K b a.length a2::L) w) eB ?_))))));obtain ⟨h8,f3,ho⟩:=aC hm
   refine yL [0] f3 (fun k a3 j f w=>f 3=zS b k.length a.length/\f 4=zB a3/\f 5=i64 j/\aI G K (aN 4 K b a.length k::L) w) eB ?_
   ·rintro k a3 j c6 f i0 hm hr ⟨c7,i1,a5,f4⟩
    unfold yU at hm
    refine aO (aK (bC a5 (aF (v:=cC a1 d) (aD (cA rfl c) (aD (bS (k':=d+3) cM rfl c rfl) (aD (bE (t:=3) eK f4 c rfl rfl) (aD (bX (len:=t.E.length) cK rfl) (aD (cV rfl rfl) (aG ?_)))))))))
    rcases aH hm with ⟨c9,hm⟩|⟨c9,hm⟩
    ·refine aL c9 rfl (aW (aB (aO (aX [0,5] (fun f w=>∃ r a6,rH j r a6=some c6/\f 3=zS b r.length a.length/\f 4=zB a6/\aI G K (aN 4 K b a.length r::L) w) ?_ ?_))))
     ·rintro f i2 ⟨r,a6,hm,f5,f6,f7⟩
      unfold rH at hm
      exact aB (aQ (bC a5 (aD (cL rfl rfl) (aE (v:=i64 (wr (j+1))) (aG ⟨_,(zI hm).symm,aM,f5,f6,rfl,f7⟩)))))
     refine aO (cH [0,3,4,5] (fun f w=>∃ a8,rI t k a3 j a8=some c6/\f 53=zB a8/\aI G K (aN 4 K b a.length k::L) w) ?_ ?_)
     ·rintro f i3 ⟨a8,hm,f8,a9⟩
      unfold rI at hm
      refine aB ?_
      rcases aH hm with ⟨d0,hm⟩|⟨d0,hm⟩
      ·refine aL d0 f8 (aK (bC c7 (aF (v:=cC a1 d) (aD (cA rfl c) (aD (bS (k':=d+3) cM rfl c rfl) (aD (bE (t:=3) eK a9 c rfl rfl) (bC a5 ?_)))))));obtain ⟨i4,d1,hm⟩:=aC hm
       refine aD (cO cK rfl h9 rfl rfl rfl d1) ?_;obtain ⟨i5,d2,f9⟩:=bW.el (sz:=3) rfl h9 d1
       cases f9
       refine aD (bS (k':=j.toNat * 3+2) gY rfl d2 rfl) (aD (bE (t:=2) cE a9 d2 rfl rfl) ?_);obtain ⟨i6,d3,hm⟩:=aC hm
       refine aD (dL fU rfl b4 rfl rfl rfl d3) ?_;obtain ⟨d4,d5,hm⟩:=aC hm
       exact kU (i:=0) (t:=0) (ns:=[zB true]) (e':=(true:Bool)) sizeOf4 a9 rfl (zR _) rfl rfl rfl d3 d5 rfl rfl (dN rfl) rfl (fun cs h=>by cases h;rfl) (fun g0 (g1:aI G K (aN 4 K b a.length d4::L) g0)=>(aG (aQ (aE (v:=zB true) (bF (bA (aB ⟨aM,d4,true,hm,(Eq.trans c7 (congrArg (fun n=>zS b n a.length) (iC d5))),rfl,g1⟩)))))))
      ·exact eB
     exact eB
    ·exact eB
  ·exact eB
theorem wX {a b:(List Int)} {R:Bool} (hm:aAF a b=some R) (g:aI G K (L) w) (h:bW K a1 c2 a) (i:bW K a4 c5 b):
  Calls prog 108 ([zS a1 a.length c2,zS a4 b.length c5]:List Value).toArray w (eV fun v w'=>v=zB R/\aI G K (L) w'):=by
 refine aR func108 rfl (by kernel_rfl) (by show (2:Nat)<=26;decide) ?_;unfold aAF at hm
 refine aK (aE (v:=zB false) (aG (aO (aK (aF (v:=zS a1 a.length c2) (aD (bX (len:=a.length) bV rfl) (aF (v:=zS a4 b.length c5) (aD (bX (len:=b.length) bV rfl) (aD (aDz rfl rfl) (aG ?_))))))))))
 rcases aH hm with ⟨c,hm⟩|⟨c,hm⟩
 ·exact eB
 ·refine aJ c rfl (aW (aB (aO (aK (aE (v:=i64 0) (aG (aX [] (fun f w=>aDR=some R/\aI G K (L) w) eB ?_)))))));obtain ⟨j,d,ho⟩:=aC hm
  exact fA [0,1] d (fun e f w=>f 5=i64 e/\aI G K (L) w) eB eB
theorem aDs {t:cB} {j:Nat} {p:(List Int)} {k:Int} {R:(List Bool)} (hm:aBX t p k=some R) (hs:aI G K (L) w) (d:dT K a1 j (zC t a4 c5 a7 c8)) (h6:bW K a4 c5 t.L) (h9:bW K a7 c8 t.E) (d4:bW K a10 c11 p):
  Calls prog 66 ([cC a1 j,zS a10 p.length c11,i64 k]:List Value).toArray w (eV fun v w'=>∃ b3 b4,v=zS b3 R.length b4/\aI G K (aN 4 K b3 b4 R::L) w'):=by
 refine aR func66 rfl (by kernel_rfl) (by show (3:Nat)<=58;decide) ?_;unfold aBX at hm
 refine aK (aE (v:=zS none 0 0) (aG (aK (aF (v:=cC a1 j) (aD (cA rfl d) (aD (bS (k':=j+0) cT rfl d rfl) (aD (bE (t:=0) cE hs d rfl rfl) ?_)))))));obtain ⟨a,d5,hm⟩:=aC hm
 refine aHl (e:=(false:Bool)) fU ez_4 rfl rfl hs rfl rfl rfl d5 rfl (fun b d6 (b5:aI G K (aN 4 K b a.length a::L) d6)=>(aE (v:=zS b a.length a.length) (aG (aK (aF (v:=zS b a.length a.length) (aF (v:=i64 k) ?_))))));obtain ⟨g4,V,hm⟩:=aC hm
 have r:=cQ b5 (i:=0) rfl V
 refine aD (dL fU rfl r rfl rfl rfl V) ?_;obtain ⟨d7,b6,hm⟩:=aC hm
 refine kU (i:=0) (t:=0) (ns:=[zB true]) (e':=(true:Bool)) sizeOf4 b5 rfl (zR _) rfl rfl rfl V b6 rfl rfl (dN rfl) rfl (fun cs h=>by cases h;rfl) (fun d8 (d9:aI G K (aN 4 K b a.length d7::L) d8)=>(aG (aO (aK (aE (v:=zB true) (aG (aX [] (fun f w=>∃ Z,aCr Z=some R/\f 7=zS b Z.length a.length/\aI G K (aN 4 K b a.length Z::L) w) eB ?_)))))));obtain ⟨g5,e0,ho⟩:=aC hm
 refine cP [0,1] e0 (fun a0 b7 f w=>f 7=zS b a0.length a.length/\f 8=zB b7/\aI G K (aN 4 K b a.length a0::L) w) ?_ ?_
 ·exact ⟨(Eq.trans rfl (congrArg (fun n=>zS b n a.length) (iC b6))),rfl,d9⟩
 ·rintro a0 b7 b8 f g6 hm hr ⟨g7,e1,g8⟩
  unfold uM at hm
  refine aO (aK (bC e1 (aG ?_)))
  rcases aH hm with ⟨b9,hm⟩|⟨b9,hm⟩
  ·refine aL b9 rfl (aW (aB (aX [0,1] (fun f w=>∃ u a2,aFE u a2=some b8/\f 7=zS b u.length a.length/\f 8=zB a2/\aI G K (aN 4 K b a.length u::L) w) ?_ ?_)))
   ·rintro f g9 ⟨u,a2,hm,e2,e3,e4⟩
    unfold aFE at hm
    exact aB ⟨_,(zI hm).symm,aM,e2,e3,e4⟩
   refine aK (aE (v:=zB false) (aG (aK (aE (v:=i64 0) (aG (aX [0,1] (fun f w=>∃ a3 c0,aCs a3 c0=some b8/\f 7=zS b a3.length a.length/\f 8=zB c0/\aI G K (aN 4 K b a.length a3::L) w) eB ?_))))));obtain ⟨h0,e5,ho⟩:=aC hm
   refine yL [0,1] e5 (fun m a5 o f w=>f 7=zS b m.length a.length/\f 8=zB a5/\f 9=i64 o/\aI G K (aN 4 K b a.length m::L) w) eB ?_
   ·rintro m a5 o c1 f h1 hm hr ⟨x,h2,a6,y⟩
    unfold rJ at hm
    refine aO (aK (bC a6 (aF (v:=cC a1 j) (aD (cA rfl d) (aD (bS (k':=j+3) cM rfl d rfl) (aD (bE (t:=3) eK y d rfl rfl) (aD (bX (len:=t.E.length) cK rfl) (aD (cV rfl rfl) (aG ?_)))))))))
    rcases aH hm with ⟨c2,hm⟩|⟨c2,hm⟩
    ·refine aL c2 rfl (aW (aB (aO (aX [0,1,9] (fun f w=>∃ z a8,uL o z a8=some c1/\f 7=zS b z.length a.length/\f 8=zB a8/\aI G K (aN 4 K b a.length z::L) w) ?_ ?_))))
     ·rintro f h4 ⟨z,a8,hm,e6,e7,e8⟩
      unfold uL at hm
      exact aB (aQ (bC a6 (aD (cL rfl rfl) (aE (v:=i64 (wr (o+1))) (aG ⟨_,(zI hm).symm,aM,e6,e7,rfl,e8⟩)))))
     refine aK (aF (v:=cC a1 j) (aD (cA rfl d) (aD (bS (k':=j+3) cM rfl d rfl) (aD (bE (t:=3) eK y d rfl rfl) (bC a6 ?_)))));obtain ⟨c,c3,hm⟩:=aC hm
     refine aD (cO cK rfl h9 rfl rfl rfl c3) ?_;obtain ⟨h5,e9,f0⟩:=bW.el (sz:=3) rfl h9 c3
     cases f0
     refine aD (gC (t:=0) (vs:=[i64 c.F,i64 c.B,i64 c.To]) oX y e9 rfl rfl rfl) (cI (vs:=[i64 0,i64 0,i64 0]) zeroValue66 y rfl (fun J h7 f1=>(cG (i:=0) (ns:=[i64 c.F,i64 c.B,i64 c.To]) (us:=[i64 c.F,i64 c.B,i64 c.To]) sizeOf66 f1 rfl rfl rfl rfl rfl (dN rfl) rfl rfl (fun f2 (q:aI G K (box J 66 [i64 c.F,i64 c.B,i64 c.To]::aN 4 K b a.length m::L) f2)=>(aG (aO (cH [0,1,7,8,9,10] (fun f w=>∃ a9,oG m a5 o c a9=some c1/\f 52=zB a9/\aI G K (box J 66 [i64 c.F,i64 c.B,i64 c.To]::aN 4 K b a.length m::L) w) ?_ ?_)))))))
     ·rintro f h8 ⟨a9,hm,f3,c4⟩
      unfold oG at hm
      refine aB ?_
      rcases aH hm with ⟨c6,hm⟩|⟨c6,hm⟩
      ·refine aL c6 f3 (aK (bC x (aD (bH (t':=2) gY rfl rfl) (aD (cR cE c4 (i:=0) rfl rfl rfl) ?_))));obtain ⟨i0,c7,hm⟩:=aC hm
       refine aD (dL fU rfl r rfl rfl rfl c7) ?_;obtain ⟨c9,d0,hm⟩:=aC hm
       exact kU (i:=1) (t:=0) (ns:=[zB true]) (e':=(true:Bool)) sizeOf4 c4 rfl (zR _) rfl rfl rfl c7 d0 rfl rfl (dN rfl) rfl (fun cs h=>by cases h;rfl) (fun f4 (f5:aI G K (box J 66 [i64 c.F,i64 c.B,i64 c.To]::aN 4 K b a.length c9::L) f4)=>(aG (aQ (aE (v:=zB true) (bF (bA (aB ⟨aM,c9,true,hm,(Eq.trans x (congrArg (fun n=>zS b n a.length) (iC d0))),rfl,(aI.arr 1 [] f5 rfl)⟩)))))))
      ·exact eB
     refine aQ (bC x (aD (bH (t':=0) iY rfl rfl) (aD (cR cE q (i:=0) rfl rfl rfl) ?_)));obtain ⟨f6,d1,hm⟩:=aC hm
     refine aD (dL fU rfl r rfl rfl rfl d1) (aD (jV (t:=0) aCH q (i:=1) rfl d1 rfl rfl rfl) (aF (v:=zB f6) ?_))
     rcases aH hm with ⟨l,hm⟩|⟨l,hm⟩
     ·refine bK l rfl rfl (bC x (bK l rfl rfl (aD (bH (t':=2) gY rfl rfl) (bK l rfl rfl (aD (cR cE q (i:=0) rfl rfl rfl) (bK l rfl rfl ?_))))));obtain ⟨d2,d3,hm⟩:=aC hm
      refine aD (dL fU rfl r rfl rfl rfl d3) (bK l rfl rfl (aD (jV (t:=0) aCH q (i:=1) rfl d3 rfl rfl rfl) (bK l rfl rfl (aD (eC rfl) (aD (bJ (v:=zB (!d2)) l rfl rfl) (aF (v:=zB (!d2)) ?_))))))
      rcases aH hm with ⟨b0,hm⟩|⟨b0,hm⟩
      ·refine bK b0 rfl rfl (aF (v:=zS a10 p.length c11) (bK b0 rfl rfl ?_));obtain ⟨i1,f7,f8,f9,g0⟩:=aI.lendBp q .head
       obtain ⟨i2,g1,hm⟩:=aC hm
       refine aP (vs:=[cC (some ⟨J,0,none⟩) 0,zS a10 p.length c11]) call62 rfl (uJ g1 f9 f8 (d4.mono f7)) ?_
       rintro _ i3 ⟨rfl,g2⟩
       have i4:=g0 _ _ g2
       exact eB
      ·exact eB
     ·exact eB
    ·exact eB
  ·exact eB
theorem aFJ {a:(List Int)} {n:Int} {R:(List Int)} (hm:aFX a n=some R) (hs:aI G K (L) w) (y:bW K a1 c2 a):
  Calls prog 153 ([zS a1 a.length c2,i64 n]:List Value).toArray w (eV fun v w'=>∃ z J,v=zS z R.length J/\aI G K (aN 2 K z J R::L) w'):=by
 refine aR func153 rfl (by kernel_rfl) (by show (2:Nat)<=49;decide) ?_;unfold aFX at hm
 refine aK (aE (v:=zS none 0 0) (aG (aK (bT (Kt:=K) (xs:=([]:List Int)) (cs:=[]) (vs:=[]) bV iD rfl rfl hs rfl (by kernel_rfl) rfl rfl rfl trivial (fun V w5 (c8:aI G K (aN 2 K V 0 ([]:List Int)::L) w5)=>(aE (v:=zS V ([]:List Int).length 0) (aG (aK (aE (v:=zB false) (aG (aO (aK (aE (v:=i64 0) (aG (aX [1] (fun f w=>∃ e j k l,aCO n e j=some R/\f 5=zS k e.length l/\f 6=zB j/\aI G K (aN 2 K k l e::L) w) ?_ ?_)))))))))))))))
 ·rintro f d0 ⟨e,j,k,l,hm,d1,d2,d3⟩
  unfold aCO at hm
  exact aB (iQ [] (fun f w=>∃ m Z a0,aCN m=some R/\f 5=zS Z m.length a0/\aI G K (aN 2 K Z a0 m::L) w) eB eB)
 obtain ⟨d4,b6,ho⟩:=aC hm
 refine yL [0,1] b6 (fun b o g f w=>∃ c d,f 5=zS c b.length d/\f 6=zB o/\f 7=i64 g/\aI G K (aN 2 K c d b::L) w) eB ?_
 ·rintro b o g a2 f d5 hm hr ⟨c,d,b7,d6,a3,d7⟩
  unfold vY at hm
  refine aO (aK (bC a3 (aF (v:=zS a1 a.length c2) (aD (bX (len:=a.length) bV rfl) (aD (cV rfl rfl) (aG ?_))))))
  rcases aH hm with ⟨a5,hm⟩|⟨a5,hm⟩
  ·refine aL a5 rfl (aW (aB (aO (dA (iQ [0,1,7] (fun f w=>∃ p a6 a7 a9,vX a g p a6=some a2/\f 5=zS a7 p.length a9/\f 6=zB a6/\aI G K (aN 2 K a7 a9 p::L) w) eB (aO (cH [0,1,5,6,7] (fun f w=>∃ q,aAG a n b o g q=some a2/\f 24=zB q/\aI G K (aN 2 K c d b::L) w) ?_ ?_)))))))
   ·rintro f d8 ⟨q,hm,b8,b0⟩
    unfold aAG at hm
    refine aB ?_
    rcases aH hm with ⟨b1,hm⟩|⟨b1,hm⟩
    ·refine aL b1 b8 (aK (aE (v:=zB true) (aG (aK (aF (v:=zS a1 a.length c2) (bC a3 ?_))))));obtain ⟨d9,b2,hm⟩:=aC hm
     refine aD (cO bV rfl y rfl rfl rfl b2) ?_;obtain ⟨e0,b9,c0⟩:=bW.el (sz:=1) rfl y b2
     cases c0
     refine aD (bE (t:=0) cE b0 b9 rfl rfl) (aF (v:=i64 n) (aD (jU rfl rfl) (aG ?_)))
     rcases aH hm with ⟨b3,hm⟩|⟨b3,hm⟩
     ·refine aL b3 rfl (aQ (bC b7 (aF (v:=i64 n) (bT (Kt:=K) (xs:=([n]:List Int)) (cs:=[i64 n]) (vs:=[(0,i64 n)]) bV iD rfl rfl b0 rfl (by kernel_rfl) rfl rfl rfl ⟨rfl,trivial⟩ (fun c1 c3 (c4:aI G K (aN 2 K c1 1 ([n]:List Int)::aN 2 K c d b::L) c3)=>?_)))));obtain ⟨r,c5,hm⟩:=aC hm
      exact eR (i:=0) bV underlying63 iD rfl rfl c4 rfl (zR _) (zR _) c5 rfl rfl rfl rfl (fun _ h=>h) (fun u x c6 (c7:aI G K (aN 2 K u x r::L) c6)=>(aE (v:=zS u r.length x) (aG ⟨aM,r,true,u,x,hm,rfl,rfl,c7⟩)))
     ·exact eB
    ·exact eB
   exact eB
  ·exact eB
theorem aGg {t:cB} {b:Nat} {p:(List Int)} {k:Int} {R:(List Int)} (hm:aCP t p k=some R) (hs:aI G K (L) w) (c:dT K a1 b (zC t a4 c5 a7 c8)) (h6:bW K a4 c5 t.L) (y:bW K a7 c8 t.E) (a3:bW K a10 c11 p):
  Calls prog 132 ([cC a1 b,zS a10 p.length c11,i64 k]:List Value).toArray w (eV fun v w'=>∃ a5 a6,v=zS a5 R.length a6/\aI G K (aN 2 K a5 a6 R::L) w'):=by
 refine aR func132 rfl (by kernel_rfl) (by show (3:Nat)<=56;decide) ?_;unfold aCP at hm
 refine aK (aE (v:=zS none 0 0) (aG (aK (aF (v:=cC a1 b) (aF (v:=zS a10 p.length c11) (aF (v:=i64 k) ?_))))));obtain ⟨d,b8,hm⟩:=aC hm
 refine aP (vs:=[cC a1 b,zS a10 p.length c11,i64 k]) call66 rfl (aDs b8 hs c h6 y a3) ?_
 rintro _ e2 ⟨e,h,rfl,b9⟩
 refine aE (v:=zS e d.length h) (aG (aK (bT (Kt:=K) (xs:=([]:List Int)) (cs:=[]) (vs:=[]) bV iD rfl rfl b9 rfl (by kernel_rfl) rfl rfl rfl trivial (fun a8 c0 (e3:aI G K (aN 2 K a8 0 ([]:List Int)::aN 4 K e h d::L) c0)=>(aE (v:=zS a8 ([]:List Int).length 0) (aG (aO (aK (aE (v:=i64 0) (aG (aX [] (fun f w=>∃ z a9 b0,aBd z=some R/\f 8=zS a9 z.length b0/\aI G K (aN 2 K a9 b0 z::L) w) eB ?_)))))))))));obtain ⟨e4,c1,ho⟩:=aC hm
 refine cP [0,1,7] c1 (fun j l f w=>∃ m n,f 8=zS m j.length n/\f 9=i64 l/\aI G K (aN 2 K m n j::aN 4 K e h d::L) w) eB ?_
 ·rintro j l b1 f e5 hm hr ⟨m,n,e6,J,o⟩
  unfold mL at hm
  refine aO (aK (bC J (aF (v:=cC a1 b) (aD (cA rfl c) (aD (bS (k':=b+3) cM rfl c rfl) (aD (bE (t:=3) eK o c rfl rfl) (aD (bX (len:=t.E.length) cK rfl) (aD (cV rfl rfl) (aG ?_)))))))))
  rcases aH hm with ⟨b2,hm⟩|⟨b2,hm⟩
  ·refine aL b2 rfl (aW (aB (aO (aX [0,1,7,9] (fun f w=>∃ q r u,sD l q=some b1/\f 8=zS r q.length u/\aI G K (aN 2 K r u q::aN 4 K e h d::L) w) ?_ ?_))))
   ·rintro f e7 ⟨q,r,u,hm,c2,c3⟩
    unfold sD at hm
    exact aB (aQ (bC J (aD (cL rfl rfl) (aE (v:=i64 (wr (l+1))) (aG ⟨_,(zI hm).symm,aM,r,u,c2,rfl,c3⟩)))))
   refine aK (aF (v:=cC a1 b) (aD (cA rfl c) (aD (bS (k':=b+3) cM rfl c rfl) (aD (bE (t:=3) eK o c rfl rfl) (bC J ?_)))));obtain ⟨a,b3,hm⟩:=aC hm
   refine aD (cO cK rfl y rfl rfl rfl b3) ?_;obtain ⟨e8,c4,c6⟩:=bW.el (sz:=3) rfl y b3
   cases c6
   refine aD (gC (t:=0) (vs:=[i64 a.F,i64 a.B,i64 a.To]) oX o c4 rfl rfl rfl) (cI (vs:=[i64 0,i64 0,i64 0]) zeroValue66 o rfl (fun V e9 c7=>(cG (i:=0) (ns:=[i64 a.F,i64 a.B,i64 a.To]) (us:=[i64 a.F,i64 a.B,i64 a.To]) sizeOf66 c7 rfl rfl rfl rfl rfl (dN rfl) rfl rfl (fun c9 (x:aI G K (box V 66 [i64 a.F,i64 a.B,i64 a.To]::aN 2 K m n j::aN 4 K e h d::L) c9)=>(aG (aO (cH [0,1,7,8,9,10] (fun f w=>∃ Z,oZ p j l a Z=some b1/\f 41=zB Z/\aI G K (box V 66 [i64 a.F,i64 a.B,i64 a.To]::aN 2 K m n j::aN 4 K e h d::L) w) ?_ ?_)))))))
   ·rintro f f0 ⟨Z,hm,d0,d1⟩
    unfold oZ at hm
    refine aB ?_
    rcases aH hm with ⟨b4,hm⟩|⟨b4,hm⟩
    ·refine aL b4 d0 ?_;obtain ⟨d2,f1,f2,b5,f3⟩:=aI.lendBp d1 .head
     refine dI (C:=fun w'=>∃ L',aI G d2 L' w') [(0,0),(1,0),(2,0),(3,0),(4,0),(5,0),(6,0),(7,0),(8,0),(9,0),(10,0),(11,0),(12,1),(13,0)] Tryz_mixed (by kernel_rfl) (fun _ hg=>⟨_,aI.mono b5 hg⟩) (fun f4 d3=>?_)
     have f5:=aI.mono b5 d3
     exact eB
    ·exact eB
   refine aQ (aF (v:=zS e d.length h) (aD (bH (t':=0) iY rfl rfl) (aD (cR cE x (i:=0) rfl rfl rfl) ?_)));obtain ⟨d4,a0,hm⟩:=aC hm
   have d5:=cQ x (i:=2) rfl a0
   refine aD (dL fU rfl d5 rfl rfl rfl a0) (aD (jV (t:=0) aCH x (i:=2) rfl a0 rfl rfl rfl) (aF (v:=zB d4) ?_))
   rcases aH hm with ⟨a2,hm⟩|⟨a2,hm⟩
   ·refine bK a2 rfl rfl (aF (v:=zS a10 p.length c11) (bK a2 rfl rfl ?_));obtain ⟨f6,d6,d7,d8,d9⟩:=aI.lendBp x .head
    obtain ⟨f7,e0,hm⟩:=aC hm
    refine aP (vs:=[cC (some ⟨V,0,none⟩) 0,zS a10 p.length c11]) call62 rfl (uJ e0 d8 d7 (a3.mono d6)) ?_
    rintro _ f8 ⟨rfl,e1⟩
    have f9:=d9 _ _ e1
    exact eB
   ·exact eB
  ·exact eB
theorem aGh {t:cB} {k2:Nat} {p:(List Int)} {e1:Bool} {R:(List Int)} (hm:aCQ t p e1=some R) (hs:aI G K (L) w) (h3:dT K a1 k2 (zC t a4 c5 a7 c8)) (h6:bW K a4 c5 t.L) (h9:bW K a7 c8 t.E) (a3:bW K a10 c11 p):
  Calls prog 107 ([cC a1 k2,zS a10 p.length c11,zB e1]:List Value).toArray w (eV fun v w'=>∃ e4 e5,v=zS e4 R.length e5/\aI G K (aN 2 K e4 e5 R::L) w'):=by
 refine aR func107 rfl (by kernel_rfl) (by show (3:Nat)<=96;decide) ?_;unfold aCQ at hm
 refine aK (aE (v:=zS none 0 0) (aG (aK (aF (v:=cC a1 k2) (aF (v:=zS a10 p.length c11) ?_)))));obtain ⟨n,h0,hm⟩:=aC hm
 refine aP (vs:=[cC a1 k2,zS a10 p.length c11]) call64 rfl (aBA h0 hs h3 h6 h9 a3) ?_
 rintro _ n1 ⟨o,q,rfl,h1⟩
 refine aE (v:=zS o n.length q) (aG (aK (bT (Kt:=K) (xs:=([]:List (List Int))) (cs:=[]) (vs:=[]) eL qL rfl rfl h1 rfl (by kernel_rfl) rfl rfl rfl trivial (fun e6 h2 (n2:aI G K (aN 63 K e6 0 ([]:List (List Int))::aN 4 K o q n::L) h2)=>(aE (v:=zS e6 ([]:List (List Int)).length 0) (aG (aO (aK (aE (v:=i64 0) (aG (aX [1] (fun f w=>∃ b e k l,Hp.le K b/\uC p e=some R/\f 8=zS k e.length l/\aI G b (aN 63 b k l e::L) w) ?_ ?_)))))))))))
 ·rintro f n3 ⟨b,e,k,l,b0,hm,e7,h4⟩
  unfold uC at hm
  refine aB (aK (bT (Kt:=K) (xs:=([]:List Int)) (cs:=[]) (vs:=[]) bV iD rfl rfl h4 rfl (by kernel_rfl) rfl rfl rfl trivial (fun e8 h5 (n4:aI G b (aN 2 K e8 0 ([]:List Int)::aN 63 b k l e::L) h5)=>(aE (v:=zS e8 ([]:List Int).length 0) (aG (aK (aE (v:=i64 0) (aG (aO (aK (aE (v:=i64 0) (aG (aX [] (fun f w=>∃ c0 e9 f0,aBe c0=some R/\f 11=zS e9 c0.length f0/\aI G b (aN 2 K e9 f0 c0::L) w) eB ?_)))))))))))))
  obtain ⟨n5,h7,ho⟩:=aC hm
  refine yL [1,8] h7 (fun j c1 a2 f w=>∃ r u,f 11=zS r j.length u/\f 12=i64 c1/\f 13=i64 a2/\aI G b (aN 2 K r u j::aN 63 b k l e::L) w) eB ?_
  ·rintro j c1 a2 c2 f n6 hm hr ⟨r,u,n7,n8,b1,n9⟩
   unfold aHz at hm
   refine aO (aK (bC b1 (aF (v:=zS a10 p.length c11) (aD (bX (len:=p.length) bV rfl) (aD (cV rfl rfl) (aG ?_))))))
   rcases aH hm with ⟨f1,hm⟩|⟨f1,hm⟩
   ·refine aL f1 rfl (aW (aB (aO (aX [1,8,13] (fun f w=>∃ b2 c3 b3 b4,aEv a2 b2 c3=some c2/\f 11=zS b3 b2.length b4/\f 12=i64 c3/\aI G b (aN 2 K b3 b4 b2::aN 63 b k l e::L) w) ?_ ?_))))
    ·rintro f o0 ⟨b2,c3,b3,b4,hm,h8,i0,i1⟩
     unfold aEv at hm
     exact aB (aQ (bC b1 (aD (cL rfl rfl) (aE (v:=i64 (wr (a2+1))) (aG ⟨_,(zI hm).symm,aM,b3,b4,h8,i0,rfl,i1⟩)))))
    refine aK (aE (v:=i64 (-1)) (aG (aO (aK (aE (v:=i64 0) (aG (aX [1,8,11,12,13] (fun f w=>∃ c4,aBg j c1 a2 c4=some c2/\f 14=i64 c4/\aI G b (aN 2 K r u j::aN 63 b k l e::L) w) ?_ ?_)))))))
    ·rintro f o1 ⟨c4,hm,o2,o3⟩
     unfold aBg at hm
     exact aB (iQ [1,8,11,13] (fun f w=>∃ f2 f3,aBf j a2 f2 f3=some c2/\f 12=i64 f2/\f 14=i64 f3/\aI G b (aN 2 K r u j::aN 63 b k l e::L) w) eB eB)
    obtain ⟨o4,i2,ho⟩:=aC hm
    refine cP [1,8,11,12,13] i2 (fun b5 a5 f w=>f 14=i64 b5/\f 15=i64 a5/\aI G b (aN 2 K r u j::aN 63 b k l e::L) w) eB ?_
    ·rintro b5 a5 c6 f o5 hm hr ⟨o6,c7,o7⟩
     unfold aHy at hm
     refine aO (aO (cH [1,8,11,12,13,14,15] (fun f w=>∃ c9,aBj p e j a2 b5 a5 c9=some c6/\f 59=zB c9/\aI G b (aN 2 K r u j::aN 63 b k l e::L) w) ?_ ?_))
     ·rintro f o8 ⟨c9,hm,i3,i4⟩
      unfold aBj at hm
      refine aB ?_
      rcases aH hm with ⟨f4,hm⟩|⟨f4,hm⟩
      ·refine aL f4 i3 (aW (aB (aO (aX [1,8,11,12,13,15] (fun f w=>∃ d0,aBh a5 d0=some c6/\f 14=i64 d0/\aI G b (aN 2 K r u j::aN 63 b k l e::L) w) ?_ ?_))))
       ·rintro f o9 ⟨d0,hm,i5,i6⟩
        unfold aBh at hm
        exact aB (aQ (bC c7 (aD (cL rfl rfl) (aE (v:=i64 (wr (a5+1))) (aG ⟨_,(zI hm).symm,aM,i5,rfl,i6⟩)))))
       refine aO (cH [1,8,11,12,13,14,15] (fun f w=>∃ f5,aBi j b5 a5 f5=some c6/\f 81=zB f5/\aI G b (aN 2 K r u j::aN 63 b k l e::L) w) eB ?_);obtain ⟨i7,b6,d1,a,f6⟩:=aI.lendSp i4 (zR _) zt1
       refine dR (C:=fun w'=>aI G i7 (aN 2 K r u j::L) w') Tryz_mixed (by kernel_rfl) (aI.mono a (dQ.drew _)) (aU (fun _ a=>aT (v:=zS a10 p.length c11) rfl) (aU (fun _ a=>aT c7) ?_));obtain ⟨i8,f7,hm⟩:=aC hm
       refine aU (fun _ a=>cO bV rfl (a3.mono (zL b0 b6)) rfl rfl rfl f7) ?_;obtain ⟨p0,i9,j0⟩:=bW.el (sz:=1) rfl a3 f7
       cases j0
       refine aU (fun _ a=>bE (t:=0) cE a (i9.mono (zL b0 b6)) rfl rfl) (aU (fun _ a=>aT (v:=zS a10 p.length c11) rfl) (aU (fun _ a=>aT b1) ?_));obtain ⟨j1,f8,hm⟩:=aC hm
       refine aU (fun _ a=>cO bV rfl (a3.mono (zL b0 b6)) rfl rfl rfl f8) ?_;obtain ⟨p1,j2,j3⟩:=bW.el (sz:=1) rfl a3 f8
       cases j3
       refine aU (fun _ a=>bE (t:=0) cE a (j2.mono (zL b0 b6)) rfl rfl) (aU (fun _ a=>dM rfl rfl) (aU (fun _ a=>aT (v:=zB (i8 == j1)) rfl) ?_))
       rcases aH hm with ⟨c,hm⟩|⟨c,hm⟩
       ·refine bO (g:=71) rfl rfl c (aU (fun _ a=>aT e7) (bO (g:=71) rfl rfl c (aU (fun _ a=>aT c7) (bO (g:=71) rfl rfl c ?_))));obtain ⟨j4,d2,hm⟩:=aC hm
        have f9:=aGC d1 d2
        refine aU (fun _ a=>dL eL rfl f9 rfl rfl rfl d2) (bO (g:=71) rfl rfl c ?_);obtain ⟨p2,j5,j6⟩:=bW.el (sz:=1) rfl d1 d2
        obtain ⟨j7,j8,rfl,j9⟩:=j6
        refine aU (fun _ a=>bE (t:=0) vT a j5 rfl rfl) (bO (g:=71) rfl rfl c (aU (fun _ a=>aT e7) (bO (g:=71) rfl rfl c (aU (fun _ a=>aT b1) (bO (g:=71) rfl rfl c ?_)))));obtain ⟨k0,g0,hm⟩:=aC hm
        refine aU (fun _ a=>dL eL rfl f9 rfl rfl rfl g0) (bO (g:=71) rfl rfl c ?_);obtain ⟨p3,k1,k3⟩:=bW.el (sz:=1) rfl d1 g0
        obtain ⟨k4,k5,rfl,k6⟩:=k3
        refine aU (fun _ a=>bE (t:=0) vT a k1 rfl rfl) (bO (g:=71) rfl rfl c ?_);obtain ⟨g1,k7,hm⟩:=aC hm
        refine kN (vs:=[zS j7 j4.length j8,zS k4 k0.length k5]) (v:=zB g1) call108 rfl (fun _ a=>(wX k7 a j9 k6)) (aU (fun _ a=>bJ (v:=zB g1) c rfl rfl) (dU (fun p4 k8=>?_)))
        have p5:=f6 _ _ k8
        exact eB
       ·refine aV (g:=71) rfl rfl (cW c) (aV (g:=71) rfl rfl (cW c) (aV (g:=71) rfl rfl (cW c) (aV (g:=71) rfl rfl (cW c) (aV (g:=71) rfl rfl (cW c) (aV (g:=71) rfl rfl (cW c) (aV (g:=71) rfl rfl (cW c) (aV (g:=71) rfl rfl (cW c) (aV (g:=71) rfl rfl (cW c) (aU (fun _ a=>bN (v:=zB false) c rfl rfl) (dU (fun p6 k9=>?_)))))))))))
        have p7:=f6 _ _ k9
        exact eB
      ·exact eB
     exact eB
   ·exact eB
 obtain ⟨p8,l0,ho⟩:=aC hm
 refine cP [0,1,2,7] l0 (fun m a6 f w=>∃ d x y,Hp.le K d/\f 8=zS x m.length y/\f 9=i64 a6/\aI G d (aN 63 d x y m::aN 4 K o q n::L) w) eB ?_
 ·rintro m a6 g2 f p9 hm hr ⟨d,x,y,z,l1,d3,g3⟩
  unfold lJ at hm
  refine aO (aK (bC d3 (aF (v:=cC a1 k2) (aD (cA rfl (h3.mono z)) (aD (bS (k':=k2+0) cT rfl (h3.mono z) rfl) (aD (bE (t:=0) cE g3 (h3.mono z) rfl rfl) (aD (cV rfl rfl) (aG ?_))))))))
  rcases aH hm with ⟨g4,hm⟩|⟨g4,hm⟩
  ·refine aL g4 rfl (aW (aB (aO (dA (aK (aF (v:=cC a1 k2) (aF (v:=zS a10 p.length c11) (bC d3 ?_))))))));obtain ⟨a9,l2,hm⟩:=aC hm
   refine aP (vs:=[cC a1 k2,zS a10 p.length c11,i64 a6]) call132 rfl (aGg l2 g3 (h3.mono z) (h6.mono z) (h9.mono z) (a3.mono z)) ?_
   rintro _ q0 ⟨b7,b8,rfl,q1⟩
   refine aE (v:=zS b7 a9.length b8) (aG (iQ [0,1,2,7,8,9] (fun f w=>∃ J V Z,pV m a6 J=some g2/\f 10=zS V J.length Z/\aI G d (aN 2 K V Z J::aN 63 d x y m::aN 4 K o q n::L) w) ?_ ?_))
   ·rintro f l3 ⟨J,V,Z,hm,l4,l5⟩
    unfold pV at hm
    refine aQ (bC l1 (bC l4 ?_))
    have l6:aI G d (rows [2] ([(V,Z)]:List (Dp.Hd (List Int))) [J]::aN 63 d x y m::aN 4 K o q n::L) l3:=aI.rowsOne l5
    refine bT (Kt:=K) (xs:=dZ ([(V,Z)]:List (Dp.Hd (List Int))) ([J]:List (List Int))) (cs:=[zS V J.length Z]) (vs:=[(0,zS V J.length Z)]) eL qL rfl rfl l6 rfl (by kernel_rfl) rfl rfl rfl ⟨rfl,trivial⟩ ?_
    intro l7 g5 (l8:aI G d (aN 63 K l7 1 (dZ ([(V,Z)]:List (Dp.Hd (List Int))) ([J]:List (List Int)))::rows [2] ([(V,Z)]:List (Dp.Hd (List Int))) ([J]:List (List Int))::aN 63 d x y m::aN 4 K o q n::L) g5)
    obtain ⟨b9,g6,l9,_,d4,_⟩:=aI.lendD' (i:=0) l8 rfl rfl rfl
    replace d4:aI G b9 (aN 63 d x y m::aN 4 K o q n::L) g5:=d4
    obtain ⟨g7,m0,hm⟩:=aC hm
    exact nG (i:=0) eL underlying28 qL rfl rfl d4 rfl g6 l9 m0 rfl rfl rfl rfl (fun d5 d6 m1 (m2:aI G b9 (aN 63 b9 d5 d6 g7::aN 4 K o q n::L) m1)=>(aE (v:=zS d5 g7.length d6) (bF (bA (aB (aQ (bC d3 (aD (cL rfl rfl) (aE (v:=i64 (wr (a6+1))) (aG ⟨_,(zI hm).symm,aM,b9,d5,d6,(zL z g6),rfl,rfl,m2⟩))))))))))
   refine aO (cH [0,1,2,7,8,9,10] (fun f w=>∃ d7,pW m a6 a9 d7=some g2/\f 38=zB d7/\aI G d (aN 2 K b7 b8 a9::aN 63 d x y m::aN 4 K o q n::L) w) ?_ ?_)
   ·rintro f q2 ⟨d7,hm,m3,m4⟩
    unfold pW at hm
    refine aB ?_
    rcases aH hm with ⟨g8,hm⟩|⟨g8,hm⟩
    ·refine aL g8 m3 (aQ (aF (v:=zS b7 a9.length b8) (bT (Kt:=K) (xs:=([(-1)]:List Int)) (cs:=[i64 (-1)]) (vs:=[(0,i64 (-1))]) bV iD rfl rfl m4 rfl (by kernel_rfl) rfl rfl rfl ⟨rfl,trivial⟩ (fun m5 m6 (m7:aI G d (aN 2 K m5 1 ([(-1)]:List Int)::aN 2 K b7 b8 a9::aN 63 d x y m::aN 4 K o q n::L) m6)=>?_))));obtain ⟨d8,m8,hm⟩:=aC hm
     exact eR (i:=0) bV underlying63 iD rfl rfl m7 rfl z z m8 rfl rfl rfl rfl (fun _ h=>h) (fun d9 e0 m9 (n0:aI G d (aN 2 K d9 e0 d8::aN 63 d x y m::aN 4 K o q n::L) m9)=>(aE (v:=zS d9 d8.length e0) (aG ⟨aM,d8,d9,e0,hm,rfl,n0⟩)))
    ·exact eB
   exact eB
  ·exact eB
theorem aHH {t:cB} {a:Nat} {g:Bool} {R:(List Int)} (hm:aFY t g=some R) (m:aI G K (L) w) (h:dT K a1 a (zC t a4 c5 a7 c8)) (r:bW K a4 c5 t.L) (u:bW K a7 c8 t.E):
  Calls prog 60 ([cC a1 a,zB g]:List Value).toArray w (eV fun v w'=>∃ n o,v=zS n R.length o/\aI G K (aN 2 K n o R::L) w'):=by
 refine aR func60 rfl (by kernel_rfl) (by show (2:Nat)<=21;decide) ?_;unfold aFY at hm
 refine aK (aE (v:=zS none 0 0) (aG (aK (aF (v:=cC a1 a) (aD (cA rfl h) (aD (bS (k':=a+0) cT rfl h rfl) (aD (bE (t:=0) cE m h rfl rfl) ?_)))))));obtain ⟨i,x,hm⟩:=aC hm
 refine aHl (e:=(0:Int)) bV iD rfl rfl m rfl rfl rfl x rfl (fun p y (b8:aI G K (aN 2 K p i.length i::L) y)=>(aE (v:=zS p i.length i.length) (aG (dA ?_))));obtain ⟨b9,z,ho⟩:=aC hm
 refine fA [0,1] z (fun b f w=>∃ c d,f 5=zS c b.length d/\aI G K (aN 2 K c d b::L) w) eB ?_
 ·rintro b c0 f c1 hm hr ⟨c,d,q,J⟩
  unfold aBk at hm
  refine dA (aK (aF (v:=cC a1 a) (bC q (aF (v:=zB g) ?_))));obtain ⟨c2,j,V,Z,a0⟩:=aI.lendSp J (zR _) .head
  obtain ⟨k,a2,hm⟩:=aC hm
  refine aP (vs:=[cC a1 a,zS c b.length d,zB g]) call107 rfl (aGh a2 Z (h.mono j) (r.mono j) (u.mono j) V) ?_
  rintro _ c3 ⟨l,c45,rfl,a3⟩
  have a5:=a0 _ _ a3
  refine aE (v:=zS l k.length c45) (aG (aO (aK (aF (v:=zS l k.length c45) (bC q ?_)))));obtain ⟨c4,a6,a8,a9,b0⟩:=aI.lendSp a5 (zR _) zt1
  obtain ⟨c6,b1,b2,b3,b4⟩:=aI.lendSp a9 a6 .head
  obtain ⟨c7,b5,hm⟩:=aC hm
  refine aP (vs:=[zS l k.length c45,zS c b.length d]) call108 rfl (wX b5 b3 (a8.mono b1) b2) ?_
  rintro _ c9 ⟨rfl,b6⟩
  have b7:=b4 _ _ b6
  have d0:=b0 _ _ b7
  exact eB
theorem aGW {t:cB} {b:Nat} {c:Bool} {R:cB} (hm:aBY t c=some R) (hs:aI G K (L) w) (o:dT K a1 b (zC t a4 c5 a7 c8)) (p:bW K a4 c5 t.L) (q:bW K a7 c8 t.E):
  Calls prog 24 ([cC a1 b,zB c]:List Value).toArray w (eV fun v w'=>∃ r u x y,v=Value.agg (zCa R r u x y)/\aI G K (aN 9 K r u R.L::aN 66 K x y R.E::L) w'):=by
 let j:=zG
 refine aR func24 rfl (by kernel_rfl) (by show (2:Nat)<=14;decide) ?_;unfold aBY at hm
 refine aK (cI (vs:=j) zeroValue27 hs rfl (fun a5 f1 a6=>(aG (aK (aF (v:=cC a1 b) (aF (v:=cC a1 b) ?_))))));obtain ⟨z,a8,hm⟩:=aC hm
 refine aP (vs:=[cC a1 b]) call59 rfl (aGV a8 a6 o p q) ?_
 rintro _ f2 ⟨J,V,rfl,a9⟩
 obtain ⟨f3,k,b0,b1,b2⟩:=aI.lendSp a9 (zR _) .head
 obtain ⟨a,b3,hm⟩:=aC hm
 refine aP (vs:=[cC a1 b,zS J z.length V]) call58 rfl (aHG b3 b1 (o.mono k) (p.mono k) (q.mono k) b0) ?_
 rintro _ f4 ⟨d,e,g,h,rfl,b4⟩
 have b5:=b2 _ _ b4
 refine cI (vs:=j) zeroValue27 b5 rfl (fun l f5 b6=>(cG (i:=0) (ns:=(zC a d e g h)) (us:=(zC a d e g h)) sizeOf27 b6 rfl rfl rfl rfl rfl (dN rfl) rfl rfl (fun b7 (b8:aI G K (box l 27 (zC a d e g h)::aN 2 K J V z::aN 9 K d e a.L::aN 66 K g h a.E::box a5 27 j::L) b7)=>(aG (aK (aF (v:=zB c) ?_))))));obtain ⟨f6,b9,c0,c1,c2⟩:=aI.lendSp b8 (zR _) zt2
 obtain ⟨f7,c3,c4,c6,c7⟩:=aI.lendSp c1 b9 zt2
 obtain ⟨f8,Z,c9,d0,d1⟩:=aI.lendBp c6 .head
 obtain ⟨d2,d3,hm⟩:=aC hm
 refine aP (vs:=[cC (some ⟨l,0,none⟩) 0,zB c]) call60 rfl (aHH d3 d0 c9 (c0.mono (zL c3 Z)) (c4.mono Z)) ?_
 rintro _ f9 ⟨d4,d5,rfl,d6⟩
 have d7:=d1 _ _ d6
 have d8:=c7 _ _ d7
 have d9:=c2 _ _ d8
 refine aF (v:=zB c) ?_;obtain ⟨g0,a0,e0,e1,g1⟩:=aI.lendSp d9 (zR _) .head
 obtain ⟨g2,a2,e2,e3,g3⟩:=aI.lendSp e1 a0 .head
 obtain ⟨g4,m,e4,e5,g5⟩:=aI.lendBp e3 .head
 obtain ⟨g6,n,e6,e7,e8⟩:=aI.lendSp e5 (zL (zL a0 a2) m) .head
 obtain ⟨g7,e9,hm⟩:=aC hm
 refine aP (vs:=[cC (some ⟨l,0,none⟩) 0,zS d4 d2.length d5,zB c]) call27 rfl (aAu e9 e7 (e4.mono n) (e0.mono (zL (zL a2 m) n)) (e2.mono (zL m n)) e6) ?_
 rintro _ g8 ⟨g9,h0,h1,h2,rfl,f0⟩
 have h4:=e8 _ _ f0
 exact eB
theorem aIs {t:cB} {a:Nat} {k:Int} {R:(List Edge)} (hm:aHA t k=some R) (x:aI G K (L) w) (g:dT K a1 a (zC t a4 c5 a7 c8)) (h6:bW K a4 c5 t.L) (h9:bW K a7 c8 t.E):
  Calls prog 61 ([cC a1 a,i64 k]:List Value).toArray w (eV fun v w'=>∃ m n,v=zS m R.length n/\aI G K (aN 66 K m n R::L) w'):=by
 refine aR func61 rfl (by kernel_rfl) (by show (2:Nat)<=38;decide) ?_;unfold aHA at hm
 refine aK (aE (v:=zS none 0 0) (aG (aK (bT (Kt:=K) (xs:=([]:List Edge)) (cs:=[]) (vs:=[]) cK gP rfl rfl x rfl (by kernel_rfl) rfl rfl rfl trivial (fun o y (a5:aI G K (aN 66 K o 0 ([]:List Edge)::L) y)=>(aE (v:=zS o ([]:List Edge).length 0) (aG (aO (aK (aE (v:=i64 0) (aG (aX [] (fun f w=>∃ h p q,aCR h=some R/\f 5=zS p h.length q/\aI G K (aN 66 K p q h::L) w) eB ?_))))))))))));obtain ⟨a6,z,ho⟩:=aC hm
 refine cP [0,1] z (fun i b f w=>∃ j l,f 5=zS j i.length l/\f 6=i64 b/\aI G K (aN 66 K j l i::L) w) eB ?_
 ·rintro i b J f a8 hm hr ⟨j,l,a9,r,V⟩
  unfold aCT at hm
  refine aO (aK (bC r (aF (v:=cC a1 a) (aD (cA rfl g) (aD (bS (k':=a+3) cM rfl g rfl) (aD (bE (t:=3) eK V g rfl rfl) (aD (bX (len:=t.E.length) cK rfl) (aD (cV rfl rfl) (aG ?_)))))))))
  rcases aH hm with ⟨u,hm⟩|⟨u,hm⟩
  ·refine aL u rfl (aW (aB (aO (aX [0,1,6] (fun f w=>∃ c d e,aCS b c=some J/\f 5=zS d c.length e/\aI G K (aN 66 K d e c::L) w) ?_ ?_))))
   ·rintro f b0 ⟨c,d,e,hm,Z,a0⟩
    unfold aCS at hm
    exact aB (aQ (bC r (aD (cL rfl rfl) (aE (v:=i64 (wr (b+1))) (aG ⟨_,(zI hm).symm,aM,d,e,Z,rfl,a0⟩)))))
   exact eB
  ·exact eB
end Gv
