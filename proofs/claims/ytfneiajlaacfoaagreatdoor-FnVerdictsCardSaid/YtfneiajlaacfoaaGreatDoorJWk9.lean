/- Walks, printed by program. -/
import Derived.Test.YtfneiajlaacfoaaGreatDoorJWk7
set_option linter.all false
namespace Gv
open Gv.Hp renaming le_refl→zR
open Go.Value renaming slice→zS,bool→zB,pointer→zP,agg→zA,tuple→zT
open Option.some renaming inj→zI
open Gv.Hp renaming le_trans→zL
open Go Go.Proofs Go.Proofs.Tryz
set_option maxRecDepth 20000
set_option maxHeartbeats 40000000
variable {G:rY} {K:Hp} {L:List fD} {w:World} {a1 a4 a7 a10 a13:Option Addr} {c2 c8 c5 c11 c14:Nat}
theorem aGa {e:(List aS)} {R:((List aV) × Int)} (hm:aGZ e=some R) (d:aE G K (L) w) (g:bL K a1 c2 e):
  Calls prog 9 ([zS a1 e.length c2]:List Value).toArray w (dQ fun v w'=>∃ a b c,v=zT #[zS b R.1.length c,i64 R.2]/\Hp.le K a/\aE G a (own 100 a b c R.1::L) w'):=by
 exact aM
theorem aAF {a:aV} {p:(List aV)} {b:Nat} {R:Bool} (hm:xA a p=some R) (d:aE G K (L) w) (e:bL K a1 c2 a.Next) (g:dU K a4 b [zS a7 p.length c8]) (h:bL K a7 c8 p):
  Calls prog 70 ([zA #[i64 a.Owner,i64 a.Priority,zS a1 a.Next.length c2],cH a4 b]:List Value).toArray w (dQ fun v w'=>v=zB R/\aE G K (L) w'):=by
 refine aN func70 rfl (by kernel_rfl) (by show (2:Nat)<=22;decide) ?_;unfold xA at hm
 exact aL (gO (v:=zA #[i64 a.Owner,i64 a.Priority,zS a1 a.Next.length c2]) (vs:=[i64 a.Owner,i64 a.Priority,zS a1 a.Next.length c2]) d rfl rfl (fun i j k=>(aH (v:=zB false) (aI (aJ (bD [] (fun f w=>∃ c,oH c=some R/\f 3=zB c/\aE G K (L) w) aM aM))))))
theorem mY {b e:(List aV)} {c:Nat} {R:Int} (hm:cK b e=some R) (y:aE G K (L) w) (i:bL K a1 c2 b) (n:dU K a4 c [zS a7 e.length c8]) (o:bL K a7 c8 e):
  Calls prog 118 ([zS a1 b.length c2,Value.func (.func 70) #[] #[cH a4 c]]:List Value).toArray w (dQ fun v w'=>v=i64 R/\aE G K (L) w'):=by
 refine aN func118 rfl (by kernel_rfl) (by show (2:Nat)<=19;decide) ?_;unfold cK at hm
 refine aL (aH (v:=i64 0) (aI (aJ (aL (aG (v:=zS a1 b.length c2) (aD (bF (len:=b.length) pU rfl) (aG (v:=i64 0) (aI (aR [] (fun f w=>gM=some R/\aE G K (L) w) aM ?_)))))))));obtain ⟨z,p,ho⟩:=aB hm
 refine dY [0,1,7] p (fun d f w=>f 8=i64 d/\aE G K (L) w) aM ?_
 ·rintro d J f Z hm hr ⟨j,k⟩
  unfold bH at hm
  refine aL (aD (cW j rfl) (aI (aJ ?_)))
  rcases aK hm with ⟨l,hm⟩|⟨l,hm⟩
  ·refine aQ l rfl (aW (aC (aJ (cD (aL (bI j (aH (v:=i64 d) (aI (aL (aG (v:=Value.func (.func 70) #[] #[cH a4 c]) (aG (v:=zS a1 b.length c2) (aG (v:=i64 d) ?_))))))))))));obtain ⟨a,m,hm⟩:=aB hm
   refine aD (dD pU rfl i rfl rfl rfl m) ?_;obtain ⟨a0,q,r⟩:=bL.el (sz:=3) rfl i m
   obtain ⟨g,h,rfl,u⟩:=r
   refine aD (lV (t:=0) (vs:=[i64 a.Owner,i64 a.Priority,zS g a.Next.length h]) aJa k q rfl rfl rfl) ?_;obtain ⟨a2,x,hm⟩:=aB hm
   exact lM (vs:=[zA #[i64 a.Owner,i64 a.Priority,zS g a.Next.length h]]) (caps:=[cH a4 c]) (us:=[zA #[i64 a.Owner,i64 a.Priority,zS g a.Next.length h],cH a4 c]) rfl call70 rfl rfl (aAF x k u n o) aM
  ·exact aM
theorem fK {a b:(List aV)} {c:Nat} {R:Bool} (hm:eB a b=some R) (d:aE G K (L) w) (e:bL K a1 c2 a) (g:dU K a4 c [zS a7 b.length c8]) (h:bL K a7 c8 b):
  Calls prog 69 ([zS a1 a.length c2,Value.func (.func 70) #[] #[cH a4 c]]:List Value).toArray w (dQ fun v w'=>v=zB R/\aE G K (L) w'):=by
 exact aM
theorem aHF {g:(List aV)} {R:Bool} (hm:aAe g=some R) (j:aE G K (L) w) (a:bL K a1 c2 g):
  Calls prog 26 ([zS a1 g.length c2]:List Value).toArray w (dQ fun v w'=>v=zB R/\aE G K (L) w'):=by
 refine aN func26 rfl (by kernel_rfl) (by show (1:Nat)<=11;decide) ?_;unfold aAe at hm
 refine aL (gO (v:=zS a1 g.length c2) (vs:=[zS a1 g.length c2]) j rfl rfl (fun b o c=>(aH (v:=zB false) (aI (aJ (aL (aD (eP zM c (i:=0) rfl rfl rfl) (aD (bF (len:=g.length) pU rfl) ?_))))))));obtain ⟨p,k,hm⟩:=aB hm
 refine aP (vs:=[i64 (g.length:Int),i64 1,i64 120]) call62 rfl (aFX k c) ?_
 rintro _ q ⟨rfl,d⟩
 refine aD (tZ rfl) (aI ?_)
 rcases aK hm with ⟨e,hm⟩|⟨e,hm⟩
 ·exact aM
 ·refine aT e rfl (aW (aC (aL (aD (eP zM d (i:=0) rfl rfl rfl) (aD (lF (vs:=[zP (some ⟨b,0,none⟩)]) rfl) ?_)))));obtain ⟨r,h,l,m,t⟩:=aE.lendBp d .head
  obtain ⟨u,n,hm⟩:=aB hm
  exact aP (vs:=[zS a1 g.length c2,Value.func (.func 70) #[] #[cH (some ⟨b,0,none⟩) 0]]) call69 rfl (fK n m (a.mono h) l (a.mono h)) aM
theorem aDA {g:(List aV)} {R:((List Int) × Int)} (hm:aCx g=some R) (c:aE G K (L) w) (d:bL K a1 c2 g):
  Calls prog 10 ([zS a1 g.length c2]:List Value).toArray w (dQ fun v w'=>∃ a b,v=zT #[zS a R.1.length b,i64 R.2]/\aE G K (own 2 K a b R.1::L) w'):=by
 exact aM
theorem xJ {k:Int} {p:(List Bool)} {b:Nat} {a:aS} {c:Nat} {R:Bool} (hm:xB k p a=some R) (d:aE G K (L) w) (e:dU K a1 b [zS a4 p.length c5]) (g:bL K a4 c5 p) (h:dU K a7 c [zB a.Greatest,zB a.All,zS a10 a.Terms.length c11]) (i:bL K a10 c11 a.Terms):
  Calls prog 29 ([i64 k,cH a1 b,cH a7 c]:List Value).toArray w (dQ fun v w'=>v=zB R/\aE G K (L) w'):=by
 exact aM
theorem rD {a:(List Int)} {g:(List Bool)} {b:Nat} {c:aS} {d:Nat} {R:Int} (hm:dF a g c=some R) (z:aE G K (L) w) (h:bL K a1 c2 a) (n:dU K a4 b [zS a7 g.length c8]) (o:bL K a7 c8 g) (p:dU K a10 d [zB c.Greatest,zB c.All,zS a13 c.Terms.length c14]) (q:bL K a13 c14 c.Terms):
  Calls prog 78 ([zS a1 a.length c2,Value.func (.func 29) #[] #[cH a4 b,cH a10 d]]:List Value).toArray w (dQ fun v w'=>v=i64 R/\aE G K (L) w'):=by
 refine aN func78 rfl (by kernel_rfl) (by show (2:Nat)<=19;decide) ?_;unfold dF at hm
 refine aL (aH (v:=i64 0) (aI (aJ (aL (aG (v:=zS a1 a.length c2) (aD (bF (len:=a.length) bJ rfl) (aG (v:=i64 0) (aI (aR [] (fun f w=>kE=some R/\aE G K (L) w) aM ?_)))))))));obtain ⟨J,r,ho⟩:=aB hm
 refine dY [0,1,7] r (fun e f w=>f 8=i64 e/\aE G K (L) w) aM ?_
 ·rintro e Z f a0 hm hr ⟨i,j⟩
  unfold bY at hm
  refine aL (aD (cW i rfl) (aI (aJ ?_)))
  rcases aK hm with ⟨k,hm⟩|⟨k,hm⟩
  ·refine aQ k rfl (aW (aC (aJ (cD (aL (bI i (aH (v:=i64 e) (aI (aL (aG (v:=Value.func (.func 29) #[] #[cH a4 b,cH a10 d]) (aG (v:=zS a1 a.length c2) (aG (v:=i64 e) ?_))))))))))));obtain ⟨l,m,hm⟩:=aB hm
   refine aD (dD bJ rfl h rfl rfl rfl m) ?_;obtain ⟨a2,u,x⟩:=bL.el (sz:=1) rfl h m
   cases x
   refine aD (bG (t:=0) dM j u rfl rfl) ?_;obtain ⟨a3,y,hm⟩:=aB hm
   exact lM (vs:=[i64 l]) (caps:=[cH a4 b,cH a10 d]) (us:=[i64 l,cH a4 b,cH a10 d]) rfl call29 rfl rfl (xJ y j n o p q) aM
  ·exact aM
theorem iN {b:(List Int)} {c:(List Bool)} {d:Nat} {a:aS} {e:Nat} {R:Bool} (hm:dZ b c a=some R) (g:aE G K (L) w) (h:bL K a1 c2 b) (i:dU K a4 d [zS a7 c.length c8]) (j:bL K a7 c8 c) (k:dU K a10 e [zB a.Greatest,zB a.All,zS a13 a.Terms.length c14]) (l:bL K a13 c14 a.Terms):
  Calls prog 28 ([zS a1 b.length c2,Value.func (.func 29) #[] #[cH a4 d,cH a10 e]]:List Value).toArray w (dQ fun v w'=>v=zB R/\aE G K (L) w'):=by
 exact aM
theorem aAG {e:(List aS)} {b:(List Bool)} {R:Bool} (hm:sY e b=some R) (J:aE G K (L) w) (p:bL K a1 c2 e) (Z:bL K a4 c5 b):
  Calls prog 11 ([zS a1 e.length c2,zS a4 b.length c5]:List Value).toArray w (dQ fun v w'=>v=zB R/\aE G K (L) w'):=by
 let h:=[zS a4 b.length c5]
 refine aN func11 rfl (by kernel_rfl) (by show (2:Nat)<=39;decide) ?_;unfold sY at hm
 refine aL (gO (v:=zS a4 b.length c5) (vs:=h) J rfl rfl (fun c w8 b9=>(aH (v:=zB false) (aI (aJ (aJ (bD [0,3] (fun f w=>∃ k,oI e b k=some R/\f 17=zB k/\aE G K (box c 35 h::L) w) ?_ ?_)))))))
 ·rintro f c0 ⟨k,hm,a0,c1⟩
  unfold oI at hm
  refine aC ?_
  rcases aK hm with ⟨q,hm⟩|⟨q,hm⟩
  ·exact aM
  ·refine aT q a0 (aW (aC (aJ (aL (aG (v:=zS a1 e.length c2) (aD (bF (len:=e.length) aAu rfl) (aG (v:=i64 0) (aI (aR [] (fun f w=>aCy=some R/\aE G K (L) w) aM ?_)))))))));obtain ⟨c3,a2,ho⟩:=aB hm
   refine dY [3,18,19] a2 (fun l f w=>f 20=i64 l/\aE G K (box c 35 h::L) w) aM ?_
   ·rintro l c4 f c6 hm hr ⟨m,r⟩
    unfold gW at hm
    refine aL (aD (cW m rfl) (aI (aJ ?_)))
    rcases aK hm with ⟨u,hm⟩|⟨u,hm⟩
    ·refine aQ u rfl (aW (aC (aJ (cD (aL (bI m ?_))))));obtain ⟨a,x,hm⟩:=aB hm
     refine aD (dD aAu rfl p rfl rfl m x) ?_;obtain ⟨c7,a3,a5⟩:=bL.el (sz:=3) rfl p x
     obtain ⟨d,g,rfl,y⟩:=a5
     refine aD (lV (t:=0) (vs:=[zB a.Greatest,zB a.All,zS d a.Terms.length g]) aKA r a3 rfl rfl rfl) (cT (vs:=[zB false,zB false,zS none 0 0]) zeroValue68 r rfl (fun n c8 a6=>(aH (v:=i64 l) (eW (i:=0) (ns:=[zB a.Greatest,zB a.All,zS d a.Terms.length g]) (us:=[zB a.Greatest,zB a.All,zS d a.Terms.length g]) sizeOf68 a6 rfl rfl rfl rfl rfl (gH rfl) rfl rfl (fun a7 (z:aE G K (box n 68 [zB a.Greatest,zB a.All,zS d a.Terms.length g]::box c 35 h::L) a7)=>(aI (aL (aD (bU (t':=2) aGQ rfl rfl) (aD (eP xX z (i:=0) rfl rfl rfl) (aD (lF (vs:=[zP (some ⟨c,0,none⟩),zP (some ⟨n,0,none⟩)]) rfl) ?_))))))))))
     obtain ⟨c9,o,a8,a9,b0⟩:=aE.lendBp z zt1
     obtain ⟨d0,j,b1,b2,b3⟩:=aE.lendBp a9 .head
     obtain ⟨d1,b4,hm⟩:=aB hm
     refine aP (vs:=[zS d a.Terms.length g,Value.func (.func 29) #[] #[cH (some ⟨c,0,none⟩) 0,cH (some ⟨n,0,none⟩) 0]]) call28 rfl (iN b4 b2 (y.mono (zL o j)) (a8.mono j) (Z.mono (zL o j)) b1 (y.mono (zL o j))) ?_
     rintro _ d2 ⟨rfl,b5⟩
     have b6:=b3 _ _ b5
     have d3:=b0 _ _ b6
     exact aM
    ·exact aM
 exact aM
theorem aAH {d:(List aO)} {t:cR} {k:Int} {R:(List Bool)} (hm:sZ d t k=some R) (hs:aE G K (L) w) (hG:G.lo=0) (h3:bL K a1 c2 d) (h6:bL K a4 c5 t.L) (h9:bL K a7 c8 t.E):
  Calls prog 30 ([zS a1 d.length c2,zA (zCa t a4 c5 a7 c8),zS none 0 0,i64 k]:List Value).toArray w (dQ fun v w'=>∃ J Z,v=zS J R.length Z/\aE G K (own 4 K J Z R::L) w'):=by
 let g:=(zC t a4 c5 a7 c8)
 refine aN func30 rfl (by kernel_rfl) (by show (4:Nat)<=40;decide) ?_;unfold sZ at hm
 refine aL (gO (v:=zA (zCa t a4 c5 a7 c8)) (vs:=g) hs rfl rfl (fun p d6 a0=>(aH (v:=zS none 0 0) (aI (aL (aD (bU (t':=0) kZ rfl rfl) (aD (eP dM a0 (i:=0) rfl rfl rfl) ?_)))))));obtain ⟨a,b4,hm⟩:=aB hm
 refine aEj (e:=(false:Bool)) dB aGP rfl rfl a0 rfl rfl rfl b4 rfl (fun b b5 (a2:aE G K (own 4 K b a.length a::box p 28 g::L) b5)=>(aH (v:=zS b a.length a.length) (aI (aL (aG (v:=zS a1 d.length c2) (aD (pB (us:=g) xW a2 (i:=1) rfl rfl rfl rfl) (aG (v:=zS none 0 0) ?_)))))));obtain ⟨b6,b7,hm⟩:=aB hm
 refine aP (vs:=[zS a1 d.length c2,zA (zCa t a4 c5 a7 c8),zS none 0 0]) call50 rfl (rW b7 a2 hG h3 h6 h9) ?_
 rintro _ d7 ⟨q,b8,b9,rfl,c0,c1⟩
 obtain ⟨d8,d9,c3,c4,c6⟩:=aE.lendSp c1 (Hp.le_refl _) .head
 obtain ⟨l,c7,hm⟩:=aB hm
 refine aP (vs:=[zS b8 b6.length b9]) call27 rfl (aBX c7 c4 c3) ?_
 rintro _ e0 ⟨m,o,rfl,c9⟩
 have e1:=c6 _ _ c9
 refine aH (v:=zS m l.length o) (aI (aJ (aL (aG (v:=zS b a.length a.length) (aD (bF (len:=a.length) dB rfl) (aG (v:=i64 0) (aI (aR [] (fun f w=>∃ r,aCz r=some R/\f 9=zS b r.length a.length/\aE G q (own 4 K b a.length r::L) w) aM ?_))))))));obtain ⟨e2,d0,ho⟩:=aB hm
 refine bX [3,5,10,21] d0 (fun u c f w=>f 9=zS b u.length a.length/\f 22=i64 c/\aE G q (own 2 K m o l::own 4 K b a.length u::box p 28 g::L) w) aM ?_
 ·rintro u c e3 f e4 hm hr ⟨a3,x,j⟩
  unfold jB at hm
  refine aL (aD (cW x rfl) (aI (aJ ?_)))
  rcases aK hm with ⟨a5,hm⟩|⟨a5,hm⟩
  ·refine aQ a5 rfl (aW (aC (aJ (cD (aL (bI x (aH (v:=i64 c) (aI (aU (bI a3 (aG (v:=i64 c) (aG (v:=zS m l.length o) (aG (v:=i64 k) (aD (bU (t':=0) kZ rfl rfl) (aD (eP dM j (i:=2) rfl rfl rfl) (aD (aFR rfl rfl) (aG (v:=i64 c) (aD (dA rfl rfl) ?_))))))))))))))))));obtain ⟨a6,y,hm⟩:=aB hm
   have d1:=bV j (i:=0) rfl y
   refine aD (cQ bJ rfl d1 rfl rfl rfl y) (aD (nB (t:=0) dM j (i:=0) rfl y rfl rfl rfl) (aD (lX rfl rfl) ?_));obtain ⟨e5,z,hm⟩:=aB hm
   have d2:=bV j (i:=1) rfl z
   refine aD (cQ dB rfl d2 rfl rfl rfl z) ?_;obtain ⟨d3,a8,hm⟩:=aB hm
   exact gP (i:=1) (t:=0) (ns:=[zB (a6 == 0)]) (e':=(a6 == 0:Bool)) sizeOf4 j rfl c0 rfl rfl rfl z a8 rfl rfl (gH rfl) rfl (fun cs h=>by cases h;rfl) (fun d4 (d5:aE G q (own 2 K m o l::own 4 K b a.length d3::box p 28 g::L) d4)=>(aZ (cL (aC (aU (aD (dA x rfl) (aG (v:=i64 (wr (c+1))) (aI ⟨_,(zI hm).symm,bK,(Eq.trans a3 (congrArg (fun n=>zS b n a.length) (fP a8))),rfl,d5⟩))))))))
  ·exact aM
theorem aAI {a:(List aO)} {t:cR} {R:(Bool × Int)} (hm:tA a t=some R) (x:aE G K (L) w) (e:G.lo=0) (g:bL K a1 c2 a) (h:bL K a4 c5 t.L) (j:bL K a7 c8 t.E):
  Calls prog 12 ([zS a1 a.length c2,zA (zCa t a4 c5 a7 c8)]:List Value).toArray w (dQ fun v w'=>v=zT #[zB R.1,i64 R.2]/\aE G K (L) w'):=by
 let c:=(zC t a4 c5 a7 c8)
 refine aN func12 rfl (by kernel_rfl) (by show (2:Nat)<=21;decide) ?_;unfold tA at hm
 refine aL (gO (v:=zA (zCa t a4 c5 a7 c8)) (vs:=c) x rfl rfl (fun y b2 k=>(aH (v:=zB false) (aH (v:=i64 0) (aI (aJ (aL (aD (pB (us:=c) xW k (i:=0) rfl rfl rfl rfl) (aG (v:=zS a1 a.length c2) (bM (Kt:=K) (xs:=([a]:List (List aO))) (cs:=[zS a1 a.length c2]) (vs:=[(0,zS a1 a.length c2)]) aIZ ez_24 rfl rfl k rfl (by kernel_rfl) rfl rfl rfl ⟨⟨a1,c2,rfl,g⟩,trivial⟩ (fun l z (J:aE G K (own 24 K l 1 ([a]:List (List aO))::box y 28 c::L) z)=>?_)))))))))))
 obtain ⟨b3,m,Z,a0,a2⟩:=aE.lendSp J (Hp.le_refl _) .head
 obtain ⟨n,a3,hm⟩:=aB hm
 refine aP (vs:=[zA (zCa t a4 c5 a7 c8),zS l ([a]:List (List aO)).length 1]) call20 rfl (vP a3 a0 e (h.mono m) (j.mono m) Z) ?_
 rintro _ b4 ⟨rfl,a5⟩
 have a6:=a2 _ _ a5
 refine aH (v:=i64 n) (aI (aL (aG (v:=i64 n) (aD (aCf rfl rfl) (aI ?_)))))
 rcases aK hm with ⟨o,hm⟩|⟨o,hm⟩
 ·exact aM
 ·refine aT o rfl (aW (aC (aJ ?_)));obtain ⟨a8,d,p,q,b5⟩:=aE.lendBp a6 zt1
  refine cM (C:=fun w'=>∃ L',aE G a8 L' w') [(0,0),(1,0),(3,0),(4,0),(2,1),(5,0),(6,1),(7,0),(8,0)] Tryz_mixed (by kernel_rfl) (fun _ hg=>⟨_,aE.mono q hg⟩) (fun b6 a9=>?_)
  have b:=aE.mono q a9
  refine aX rfl (fun _ _=>aY (v:=zS a1 a.length c2) rfl) (aX rfl (fun _ ⟨_,b⟩=>lV (t:=0) (vs:=c) xW b p rfl rfl rfl) (aX rfl (fun _ _=>bU (t':=1) aDO rfl rfl) (aX rfl (fun _ ⟨_,b⟩=>bG (t:=1) dM b p rfl rfl) (gK rfl ?_))));obtain ⟨b7,b0,hm⟩:=aB hm
  refine aP (vs:=[zS a1 a.length c2,zA (zCa t a4 c5 a7 c8),zS none 0 0,i64 0]) call30 rfl (aAH b0 b e (g.mono d) (h.mono d) (j.mono d)) ?_
  rintro _ b8 ⟨b9,c0,rfl,r⟩
  refine aZ (aC ⟨⟨_,r⟩,?_⟩)
  obtain ⟨c1,u,hm⟩:=aB hm
  have b1:=bV r (i:=0) rfl u
  exact aX rfl (fun _ _=>cQ dB rfl b1 rfl rfl rfl u) (gK rfl aM)
theorem aCC {p:(List Int)} {a:cR} {b:Nat} {R:Bool} (hm:xC p a=some R) (d:aE G K (L) w) (e:bL K a1 c2 p) (g:dU K a4 b (zC a a7 c8 a10 c11)) (h:bL K a7 c8 a.L) (i:bL K a10 c11 a.E):
  Calls prog 80 ([zS a1 p.length c2,cH a4 b]:List Value).toArray w (dQ fun v w'=>v=zB R/\aE G K (L) w'):=by
 refine aN func80 rfl (by kernel_rfl) (by show (2:Nat)<=16;decide) ?_;unfold xC at hm
 exact aL (aH (v:=zB false) (aI (aJ (bD [] (fun f w=>∃ c,vC c=some R/\f 3=zB c/\aE G K (L) w) aM aM))))
theorem jD {b:(List (List Int))} {a:cR} {c:Nat} {R:Int} (hm:eI b a=some R) (z:aE G K (L) w) (e:bL K a1 c2 b) (n:dU K a4 c (zC a a7 c8 a10 c11)) (o:bL K a7 c8 a.L) (p:bL K a10 c11 a.E):
  Calls prog 79 ([zS a1 b.length c2,Value.func (.func 80) #[] #[cH a4 c]]:List Value).toArray w (dQ fun v w'=>v=i64 R/\aE G K (L) w'):=by
 refine aN func79 rfl (by kernel_rfl) (by show (2:Nat)<=19;decide) ?_;unfold eI at hm
 refine aL (aH (v:=i64 0) (aI (aJ (aL (aG (v:=zS a1 b.length c2) (aD (bF (len:=b.length) mN rfl) (aG (v:=i64 0) (aI (aR [] (fun f w=>jT=some R/\aE G K (L) w) aM ?_)))))))));obtain ⟨J,q,ho⟩:=aB hm
 refine dY [0,1,7] q (fun d f w=>f 8=i64 d/\aE G K (L) w) aM ?_
 ·rintro d Z f a0 hm hr ⟨g,h⟩
  unfold cG at hm
  refine aL (aD (cW g rfl) (aI (aJ ?_)))
  rcases aK hm with ⟨i,hm⟩|⟨i,hm⟩
  ·refine aQ i rfl (aW (aC (aJ (cD (aL (bI g (aH (v:=i64 d) (aI (aL (aG (v:=Value.func (.func 80) #[] #[cH a4 c]) (aG (v:=zS a1 b.length c2) (aG (v:=i64 d) ?_))))))))))));obtain ⟨j,k,hm⟩:=aB hm
   refine aD (dD mN rfl e rfl rfl rfl k) ?_;obtain ⟨a2,r,u⟩:=bL.el (sz:=1) rfl e k
   obtain ⟨l,m,rfl,x⟩:=u
   refine aD (bG (t:=0) xX h r rfl rfl) ?_;obtain ⟨a3,y,hm⟩:=aB hm
   exact lM (vs:=[zS l j.length m]) (caps:=[cH a4 c]) (us:=[zS l j.length m,cH a4 c]) rfl call80 rfl rfl (aCC y h x n o p) aM
  ·exact aM
theorem aFk {t:cR} {a:(List (List Int))} {R:Int} (hm:aDt t a=some R) (d:aE G K (L) w) (e:bL K a1 c2 t.L) (g:bL K a4 c5 t.E) (h:bL K a7 c8 a):
  Calls prog 31 ([zA (zCa t a1 c2 a4 c5),zS a7 a.length c8]:List Value).toArray w (dQ fun v w'=>v=i64 R/\aE G K (L) w'):=by
 refine aN func31 rfl (by kernel_rfl) (by show (2:Nat)<=8;decide) ?_;unfold aDt at hm
 refine aL (gO (v:=zA (zCa t a1 c2 a4 c5)) (vs:=(zC t a1 c2 a4 c5)) d rfl rfl (fun c m i=>(aH (v:=i64 0) (aI (aL (aG (v:=zS a7 a.length c8) (aD (lF (vs:=[zP (some ⟨c,0,none⟩)]) rfl) ?_)))))));obtain ⟨n,b,j,k,o⟩:=aE.lendBp i .head
 obtain ⟨p,l,hm⟩:=aB hm
 exact aP (vs:=[zS a7 a.length c8,Value.func (.func 80) #[] #[cH (some ⟨c,0,none⟩) 0]]) call79 rfl (jD l k (h.mono b) j (e.mono b) (g.mono b)) aM
theorem xK {b:(List aO)} {t:cR} {R:(Bool × Int)} (hm:oJ b t=some R) (z:aE G K (L) w) (J:G.lo=0) (Z:bL K a1 c2 b) (l:bL K a4 c5 t.L) (m:bL K a7 c8 t.E):
  Calls prog 13 ([zS a1 b.length c2,zA (zCa t a4 c5 a7 c8)]:List Value).toArray w (dQ fun v w'=>v=zT #[zB R.1,i64 R.2]/\aE G K (L) w'):=by
 let j:=(zC t a4 c5 a7 c8)
 refine aN func13 rfl (by kernel_rfl) (by show (2:Nat)<=26;decide) ?_;unfold oJ at hm
 refine aL (gO (v:=zA (zCa t a4 c5 a7 c8)) (vs:=j) z rfl rfl (fun b9 c0 n=>(aH (v:=zB false) (aH (v:=i64 0) (aI (aL (aG (v:=zS a1 b.length c2) (aD (pB (us:=j) xW n (i:=0) rfl rfl rfl rfl) ?_))))))));obtain ⟨a,a0,hm⟩:=aB hm
 refine aP (vs:=[zS a1 b.length c2,zA (zCa t a4 c5 a7 c8)]) call6 rfl (tD a0 n J Z l m) ?_
 rintro _ c1 ⟨c3,c,d,e,g,rfl,o,a2⟩
 refine aG (v:=zT #[zS c a.1.length d,zS e a.2.1.length g,i64 a.2.2]) (aD (bW rfl rfl) (aD (bW rfl rfl) (aD (bW rfl rfl) (aH (v:=zS c a.1.length d) (aH (v:=zS e a.2.1.length g) (aH (v:=i64 a.2.2) (aI (aJ (aL (aG (v:=i64 a.2.2) (aD (aCf rfl rfl) (aI ?_))))))))))))
 rcases aK hm with ⟨p,hm⟩|⟨p,hm⟩
 ·exact aM
 ·refine aT p rfl (aW (aC (aJ ?_)));obtain ⟨a3,h,a5,q,c4⟩:=aE.lendBp a2 zt2
  refine cM (C:=fun w'=>∃ L',aE G a3 L' w') [(0,0),(2,0),(3,0),(1,1),(4,1),(5,0),(6,1),(7,0),(8,0)] Tryz_mixed (by kernel_rfl) (fun _ hg=>⟨_,aE.mono q hg⟩) (fun c6 a6=>?_)
  have k:=aE.mono q a6
  refine aX rfl (fun _ _=>aY (v:=zS c a.1.length d) rfl) (aX rfl (fun _ ⟨_,k⟩=>lV (t:=0) (vs:=j) xW k a5 rfl rfl rfl) (aX rfl (fun _ _=>aY (v:=zS e a.2.1.length g) rfl) (gK rfl ?_)));obtain ⟨c7,c9,a8,a9,b0⟩:=aE.lendSp k h .head
  obtain ⟨d0,b1,hm⟩:=aB hm
  refine aP (vs:=[zS c a.1.length d]) call24 rfl (aHe b1 a9 a8) ?_
  rintro _ d1 ⟨d2,d3,rfl,b2⟩
  have r:=b0 _ _ b2
  refine aZ (aC ⟨⟨_,r⟩,?_⟩)
  refine gK rfl ?_;obtain ⟨d4,u,b3,b4,b5⟩:=aE.lendSp r h zt2
  obtain ⟨d5,b6,hm⟩:=aB hm
  refine aP (vs:=[zA (zCa t a4 c5 a7 c8),zS e a.2.1.length g]) call31 rfl (aFk b6 b4 (l.mono (zL (zL o h) u)) (m.mono (zL (zL o h) u)) b3) ?_
  rintro _ d6 ⟨rfl,b7⟩
  have x:=b5 _ _ b7
  refine aZ (aC ⟨⟨_,x⟩,?_⟩)
  obtain ⟨d7,y,hm⟩:=aB hm
  have b8:=bV x (i:=2) rfl y
  exact aX rfl (fun _ _=>cQ dB rfl b8 rfl rfl rfl y) (gK rfl aM)
theorem aFl {a b:(List Int)} {R:Bool} (hm:aDu a b=some R) (g:aE G K (L) w) (h:bL K a1 c2 a) (i:bL K a4 c5 b):
  Calls prog 14 ([zS a1 a.length c2,zS a4 b.length c5]:List Value).toArray w (dQ fun v w'=>v=zB R/\aE G K (L) w'):=by
 refine aN func14 rfl (by kernel_rfl) (by show (2:Nat)<=26;decide) ?_;unfold aDu at hm
 refine aL (aH (v:=zB false) (aI (aJ (aL (aG (v:=zS a1 a.length c2) (aD (bF (len:=a.length) bJ rfl) (aG (v:=zS a4 b.length c5) (aD (bF (len:=b.length) bJ rfl) (aD (aCf rfl rfl) (aI ?_))))))))))
 rcases aK hm with ⟨c,hm⟩|⟨c,hm⟩
 ·exact aM
 ·refine aT c rfl (aW (aC (aJ (aL (aH (v:=i64 0) (aI (aR [] (fun f w=>aHa=some R/\aE G K (L) w) aM ?_)))))));obtain ⟨j,d,ho⟩:=aB hm
  exact dY [0,1] d (fun e f w=>f 5=i64 e/\aE G K (L) w) aM aM
theorem aCD {b2:(List UInt8)} {R:Bool} (hm:aAW b2=some R) (hs:aE G K (L) w) (hG:G.lo=0) (h3:bL K a1 c2 b2):
  Calls prog 3 ([zS a1 b2.length c2]:List Value).toArray w (dQ fun v w'=>v=zB R/\aE G K (L) w'):=by
 refine aN func3 rfl (by kernel_rfl) (by show (1:Nat)<=153;decide) ?_;unfold aAW at hm
 refine aL (aH (v:=zB false) (aI (aJ (aL (aG (v:=zS a1 b2.length c2) ?_)))));obtain ⟨r4,q5,hm⟩:=aB hm
 refine aP (vs:=[zS a1 b2.length c2]) call4 rfl (aEX q5 hs h3) ?_
 rintro _ w6 ⟨rfl,h6⟩
 refine aI ?_
 rcases aK hm with ⟨c8,hm⟩|⟨c8,hm⟩
 ·exact aM
 ·refine aT c8 rfl (aW (aC (aL (aG (v:=zS a1 b2.length c2) ?_))));obtain ⟨a,h7,hm⟩:=aB hm
  refine aP (vs:=[zS a1 b2.length c2]) call5 rfl (aFd h7 h6 h3) ?_
  rintro _ o7 ⟨h8,Z,a0,h,j,c,d,rfl,a2,c4,h9⟩
  refine aG (v:=zT #[zS Z a.1.length a0,zA (zCa a.2 h j c d)]) (aD (bW rfl rfl) (aD (bW rfl rfl) (cT (vs:=zG) zeroValue28 h9 rfl (fun a8 o8 i0=>(aH (v:=zS Z a.1.length a0) (eW (i:=0) (ns:=(zC a.2 h j c d)) (us:=(zC a.2 h j c d)) sizeOf28 i0 rfl rfl rfl rfl rfl (gH rfl) rfl rfl (fun d2 (f4:aE G h8 (box a8 28 (zC a.2 h j c d)::own 9 K h j a.2.L::own 86 K c d a.2.E::L) d2)=>(aI (aL (aG (v:=zS Z a.1.length a0) (aD (pB (us:=(zC a.2 h j c d)) xW f4 (i:=0) rfl rfl rfl rfl) ?_)))))))))))
  obtain ⟨i1,y,c5,d3⟩:=aE.giveSp f4 a2 zt1
  replace d3:aE G i1 (box a8 28 (zC a.2 h j c d)::own 86 K c d a.2.E::L) d2:=d3
  obtain ⟨i2,n,c6,d4⟩:=aE.giveSp d3 (zL a2 y) zt1
  replace d4:aE G i2 (box a8 28 (zC a.2 h j c d)::L) d2:=d4
  obtain ⟨b,i3,hm⟩:=aB hm
  refine aP (vs:=[zS Z a.1.length a0,zA (zCa a.2 h j c d)]) call6 rfl (tD (t:=⟨a.2.N,a.2.I,a.2.L,a.2.E⟩) i3 d4 hG (c4.mono (zL y n)) (c5.mono n) c6) ?_
  rintro _ o9 ⟨b9,a9,b0,z,J,rfl,l,d5⟩
  refine aG (v:=zT #[zS a9 b.1.length b0,zS z b.2.1.length J,i64 b.2.2]) (aD (bW rfl rfl) (aD (bW rfl rfl) (aD (bW rfl rfl) (aH (v:=zS a9 b.1.length b0) (aH (v:=zS z b.2.1.length J) (aH (v:=i64 b.2.2) (aI (aJ (aL (aG (v:=i64 b.2.2) (aD (aCf rfl rfl) (aI ?_))))))))))))
  rcases aK hm with ⟨d6,hm⟩|⟨d6,hm⟩
  ·refine aQ d6 rfl (aL (aG (v:=zS Z a.1.length a0) (aD (pB (us:=(zC a.2 h j c d)) xW d5 (i:=2) rfl rfl rfl rfl) ?_)));obtain ⟨b1,i4,hm⟩:=aB hm
   refine aP (vs:=[zS Z a.1.length a0,zA (zCa a.2 h j c d)]) call7 rfl (aAk i4 d5 (c4.mono (zL (zL y n) l)) (c5.mono (zL n l)) (c6.mono l)) ?_
   rintro _ p0 ⟨p1,f5,f6,f7,f8,rfl,i5,i6⟩
   refine aG (v:=zT #[zS f5 b1.1.length f6,zS f7 b1.2.1.length f8,i64 b1.2.2]) (aD (bW rfl rfl) (aD (bW rfl rfl) (aD (bW rfl rfl) (aH (v:=zS f5 b1.1.length f6) (aH (v:=zS f7 b1.2.1.length f8) (aH (v:=i64 b1.2.2) (aI (aL (aG (v:=i64 b.2.2) (aG (v:=i64 b1.2.2) (aD (lX rfl rfl) (aH (v:=zB (b.2.2 == b1.2.2)) (aI ?_)))))))))))));obtain rfl:=zI hm
   exact pS (gZ (rT results3 rfl ⟨rfl,(aE.weakK (aE.arr 5 [] i6 rfl) (zL (zL (zL (zL a2 y) n) l) i5))⟩))
  ·refine aT d6 rfl (aW (aC (aL (aG (v:=zS a9 b.1.length b0) ?_))));obtain ⟨p2,p3,i8,i9,j0⟩:=aE.lendSp d5 (Hp.le_refl _) .head
   obtain ⟨e,j1,hm⟩:=aB hm
   refine aP (vs:=[zS a9 b.1.length b0]) call8 rfl (yA j1 i9 i8) ?_
   rintro _ j2 ⟨p,q,rfl,j3⟩
   have j4:=j0 _ _ j3
   refine aG (v:=zT #[zS p e.1.length q,i64 e.2]) (aD (bW rfl rfl) (aD (bW rfl rfl) (aH (v:=zS p e.1.length q) (aH (v:=i64 e.2) (aI (aL (aG (v:=zS a9 b.1.length b0) ?_)))))));obtain ⟨j5,r,f9,d7⟩:=aE.giveSp j4 (Hp.le_refl _) .head
   replace d7:aE G j5 (own 4 K p q e.1::own 41 b9 z J b.2.1::box a8 28 (zC a.2 h j c d)::L) j2:=d7
   obtain ⟨a3,j6,hm⟩:=aB hm
   refine aP (vs:=[zS a9 b.1.length b0]) call9 rfl (aGa j6 d7 f9) ?_
   rintro _ p4 ⟨b5,c7,c9,rfl,o,j7⟩
   refine aG (v:=zT #[zS c7 a3.1.length c9,i64 a3.2]) (aD (bW rfl rfl) (aD (bW rfl rfl) (aH (v:=zS c7 a3.1.length c9) (aH (v:=i64 a3.2) (aI (aL (aG (v:=zS c7 a3.1.length c9) ?_)))))));obtain ⟨p5,p6,j8,j9,k0⟩:=aE.lendSp j7 (Hp.le_refl _) .head
   obtain ⟨k,k1,hm⟩:=aB hm
   refine aP (vs:=[zS c7 a3.1.length c9]) call10 rfl (aDA k1 j9 j8) ?_
   rintro _ p7 ⟨a4,a5,rfl,k2⟩
   have b6:=k0 _ _ k2
   refine aG (v:=zT #[zS a4 k.1.length a5,i64 k.2]) (aD (bW rfl rfl) (aD (bW rfl rfl) (aH (v:=zS a4 k.1.length a5) (aH (v:=i64 k.2) (aI (aJ (aJ (bD [3,4,5,6,11,15] (fun f w=>∃ d8,iB a b e k d8=some R/\f 92=zB d8/\aE G b5 (own 2 K a4 a5 k.1::own 4 K p q e.1::own 41 b9 z J b.2.1::box a8 28 (zC a.2 h j c d)::L) w) ?_ ?_))))))))
   ·rintro f p8 ⟨d8,hm,g0,g1⟩
    unfold iB at hm
    refine aC ?_
    rcases aK hm with ⟨d9,hm⟩|⟨d9,hm⟩
    ·refine aQ d9 g0 (aL (aH (v:=zB false) (aI ?_)));obtain rfl:=zI hm
     exact pS (gZ (rT results3 rfl ⟨rfl,(aE.weakK (aE.arr 4 [] g1 rfl) (zL (zL (zL (zL (zL a2 y) n) l) r) o))⟩))
    ·refine aT d9 g0 (aW (aC (aJ (aL (aG (v:=zS a9 b.1.length b0) (aG (v:=zS p e.1.length q) ?_))))));obtain ⟨p9,k4,k5,k6,k7⟩:=aE.lendSp g1 (zL (zL (zL (zL (zL a2 y) n) l) r) o) zt1
     obtain ⟨q0,k8,hm⟩:=aB hm
     refine aP (vs:=[zS a9 b.1.length b0,zS p e.1.length q]) call11 rfl (aAG k8 k6 (f9.mono (zL o k4)) k5) ?_
     rintro _ q1 ⟨rfl,k9⟩
     have e0:=k7 _ _ k9
     refine aD (tZ rfl) (aI ?_)
     rcases aK hm with ⟨e1,hm⟩|⟨e1,hm⟩
     ·refine aQ e1 rfl (aL (aH (v:=zB false) (aI ?_)));obtain rfl:=zI hm
      exact pS (gZ (rT results3 rfl ⟨rfl,(aE.weakK (aE.arr 4 [] e0 rfl) (zL (zL (zL (zL (zL a2 y) n) l) r) o))⟩))
     ·refine aT e1 rfl (aW (aC (aL (aG (v:=zS Z a.1.length a0) (aD (pB (us:=(zC a.2 h j c d)) xW e0 (i:=3) rfl rfl rfl rfl) ?_)))));obtain ⟨a6,l1,hm⟩:=aB hm
      refine aP (vs:=[zS Z a.1.length a0,zA (zCa a.2 h j c d)]) call12 rfl (aAI l1 e0 hG (c4.mono (zL (zL (zL (zL y n) l) r) o)) (c5.mono (zL (zL (zL n l) r) o)) (c6.mono (zL (zL l r) o))) ?_
      rintro _ q2 ⟨rfl,g2⟩
      refine aG (v:=zT #[zB a6.1,i64 a6.2]) (aD (bW rfl rfl) (aD (bW rfl rfl) (aH (v:=zB a6.1) (aH (v:=i64 a6.2) (aI (aL (aG (v:=zS Z a.1.length a0) (aD (pB (us:=(zC a.2 h j c d)) xW g2 (i:=3) rfl rfl rfl rfl) ?_))))))));obtain ⟨b7,l2,hm⟩:=aB hm
      refine aP (vs:=[zS Z a.1.length a0,zA (zCa a.2 h j c d)]) call13 rfl (xK l2 g2 hG (c4.mono (zL (zL (zL (zL y n) l) r) o)) (c5.mono (zL (zL (zL n l) r) o)) (c6.mono (zL (zL l r) o))) ?_
      rintro _ q3 ⟨rfl,q4⟩
      refine aG (v:=zT #[zB b7.1,i64 b7.2]) (aD (bW rfl rfl) (aD (bW rfl rfl) (aH (v:=zB b7.1) (aH (v:=i64 b7.2) (aI (aL (aH (v:=zB false) (aI (aJ (aL (aH (v:=i64 0) (aI (aR [17,18,19,20] (fun f w=>∃ e2,rA a6 b7 e2=some R/\f 21=zB e2/\aE G b5 (L) w) ?_ ?_)))))))))))))
      ·rintro f q6 ⟨e2,hm,q7,q8⟩
       unfold rA at hm
       refine aC (aJ (bD [] (fun f w=>∃ e3,lJ e3=some R/\f 2=zB e3/\aE G b5 (L) w) ?_ ?_))
       ·rintro f q9 ⟨e3,hm,l3,l4⟩
        unfold lJ at hm
        refine aC ?_;obtain rfl:=zI hm
        exact pS (rT results3 rfl ⟨l3,(aE.weakK l4 (zL (zL (zL (zL (zL a2 y) n) l) r) o))⟩)
       exact aM
      obtain ⟨r0,l6,ho⟩:=aB hm
      refine bX [4,6,11,15,17,18,19,20] l6 (fun c0 d0 f w=>f 21=zB c0/\f 22=i64 d0/\aE G b5 (own 4 K p q e.1::own 2 K a4 a5 k.1::own 41 b9 z J b.2.1::box a8 28 (zC a.2 h j c d)::L) w) aM ?_
      ·rintro c0 d0 l7 f r1 hm hr ⟨g3,b8,m⟩
       unfold jP at hm
       refine aJ (aL (bI b8 (aG (v:=zS z b.2.1.length J) (aD (bF (len:=b.2.1.length) mN rfl) (aD (cW rfl rfl) (aI ?_))))))
       rcases aK hm with ⟨e4,hm⟩|⟨e4,hm⟩
       ·refine aQ e4 rfl (aW (aC (aJ (aR [4,6,11,15,17,18,19,20,22] (fun f w=>∃ e5,rB d0 e5=some l7/\f 21=zB e5/\aE G b5 (own 4 K p q e.1::own 2 K a4 a5 k.1::own 41 b9 z J b.2.1::box a8 28 (zC a.2 h j c d)::L) w) ?_ ?_))))
        ·rintro f r2 ⟨e5,hm,l8,l9⟩
         unfold rB at hm
         exact aC (aU (bI b8 (aD (dA rfl rfl) (aH (v:=i64 (wr (d0+1))) (aI ⟨_,(zI hm).symm,bK,l8,rfl,l9⟩)))))
        refine aJ (aJ (tH (C:=fun w'=>aE G b5 (own 4 K p q e.1::own 2 K a4 a5 k.1::own 41 b9 z J b.2.1::box a8 28 (zC a.2 h j c d)::L) w') Tryz_mixed (by kernel_rfl) (aE.mono m (eO.drew _)) (eK (fun _ m=>aY (v:=zS p e.1.length q) rfl) (eK (fun _ m=>aY b8) ?_))));obtain ⟨g4,c1,hm⟩:=aB hm
        have g5:=bV m (i:=0) rfl c1
        refine eK (fun _ m=>cQ dB rfl g5 rfl rfl rfl c1) (eK (fun _ m=>nB (t:=0) aCc m (i:=0) rfl c1 rfl rfl rfl) (eK (fun _ m=>aY (v:=zS a4 k.1.length a5) rfl) (eK (fun _ m=>aY b8) ?_)));obtain ⟨r3,e6,hm⟩:=aB hm
        have m0:=bV m (i:=1) rfl e6
        refine eK (fun _ m=>cQ bJ rfl m0 rfl rfl rfl e6) (eK (fun _ m=>nB (t:=0) dM m (i:=1) rfl e6 rfl rfl rfl) (eK (fun _ m=>lX rfl rfl) (eK (fun _ m=>R_neqB runUnderlying4 rfl rfl) (aDJ (fun r5 g6=>(aC ?_))))))
        rcases aK hm with ⟨e7,hm⟩|⟨e7,hm⟩
        ·refine aQ e7 rfl (aL (aH (v:=zB false) (aI (pS (gZ (aDb (gZ (gZ (gZ ?_)))))))))
         have m1:=hr _ (zI hm).symm
         subst m1
         have hm:(some false)=some R:=ho
         clear hr ho
         obtain rfl:=zI hm
         exact aDb (gZ (gZ (rT results3 rfl ⟨rfl,(aE.weakK (aE.arr 4 [] g6 rfl) (zL (zL (zL (zL (zL a2 y) n) l) r) o))⟩)))
        ·refine aT e7 rfl (aW (aC (aJ ?_)));obtain ⟨r6,m3,g7,m4,m5⟩:=aE.lendSp g6 (zL r o) zt2
         obtain ⟨g8,e8,m6,g9,m7⟩:=aE.lendBp m4 zt2
         refine cM (C:=fun w'=>∃ L',aE G g8 L' w') [(0,0),(1,0),(2,0),(3,0),(4,0),(5,0),(6,1),(7,1)] Tryz_mixed (by kernel_rfl) (fun _ hg=>⟨_,aE.mono g9 hg⟩) (fun r7 m8=>?_)
         have c3:=aE.mono g9 m8
         refine aX rfl (fun _ _=>aY (v:=zS z b.2.1.length J) rfl) (aX rfl (fun _ _=>aY b8) ?_);obtain ⟨m9,e9,hm⟩:=aB hm
         have n0:=aCi (g7.mono e8) e9
         refine aX rfl (fun _ _=>cQ mN rfl n0 rfl rfl rfl e9) ?_;obtain ⟨r8,n1,n2⟩:=bL.el (sz:=1) rfl (g7.mono e8) e9
         obtain ⟨n3,n4,rfl,n5⟩:=n2
         refine aX rfl (fun _ ⟨_,c3⟩=>bG (t:=0) xX c3 n1 rfl rfl) (aX rfl (fun _ _=>bU (t':=1) aDO rfl rfl) (aX rfl (fun _ ⟨_,c3⟩=>bG (t:=1) dM c3 m6 rfl rfl) (gK rfl (bM (Kt:=K) (xs:=([0,a.2.I]:List Int)) (cs:=[i64 0,i64 a.2.I]) (vs:=[(0,i64 0),(1,i64 a.2.I)]) bJ lN rfl rfl c3 rfl (by kernel_rfl) rfl rfl rfl ⟨rfl,rfl,trivial⟩ (fun h0 n6 (h1:aE G g8 (own 2 K h0 2 ([0,a.2.I]:List Int)::own 4 K p q e.1::own 2 K a4 a5 k.1::L) n6)=>(aZ (aC ⟨⟨_,h1⟩,?_⟩)))))))
         refine gK rfl ?_;obtain ⟨r9,n7,n8,n9,o0⟩:=aE.lendSp h1 (zL (zL (zL (zL (zL (zL (zL a2 y) n) l) r) o) m3) e8) .head
         obtain ⟨s0,o1,hm⟩:=aB hm
         refine aP (vs:=[zS n3 m9.length n4,zS h0 ([0,a.2.I]:List Int).length 2]) call14 rfl (aFl o1 n9 (n5.mono n7) n8) ?_
         rintro _ s1 ⟨rfl,o2⟩
         have h2:=o0 _ _ o2
         refine aZ (aC ⟨⟨_,h2⟩,?_⟩)
         refine pC ?_
         have o3:=m7 _ _ h2
         have f0:=m5 _ _ o3
         refine aC ?_
         rcases aK hm with ⟨f1,hm⟩|⟨f1,hm⟩
         ·exact aQ f1 rfl (aU (aG (v:=zS p e.1.length q) (bI b8 (aD (cQ dB rfl g5 rfl rfl rfl c1) (aD (nB (t:=0) aCc f0 (i:=3) rfl c1 rfl rfl rfl) (aG (v:=zB a6.1) (aD (R_eqlB runUnderlying4 rfl rfl) (aH (v:=zB (g4 == a6.1)) (aZ (cL (aC ⟨bK,g4 == a6.1,hm,rfl,(aE.arr 5 [3,4,0,1] f0 rfl)⟩)))))))))))
         ·exact aT f1 rfl (aW (cL (aC ⟨bK,c0,hm,g3,(aE.arr 5 [3,4,0,1] f0 rfl)⟩)))
       ·refine aT e4 rfl (aBk (kG (kG ?_)))
        have o4:=hr _ (zI hm).symm
        subst o4
        have hm:(rA a6 b7 c0)=some R:=ho
        clear hr ho
        exact uF (aC ⟨bK,c0,hm,g3,(aE.arr 4 [] m rfl)⟩)
   refine aU (aG (v:=i64 e.2) (aD (aCf rfl rfl) (aG (v:=zB (e.2 != 0)) ?_)))
   rcases aK hm with ⟨b3,hm⟩|⟨b3,hm⟩
   ·refine bA b3 rfl rfl (bA b3 rfl rfl (aD (cX (v:=zB true) b3 rfl rfl) (aG (v:=zB true) (bA (rfl:true=true) rfl rfl (bA (rfl:true=true) rfl rfl (aD (cX (v:=zB true) (rfl:true=true) rfl rfl) (aG (v:=zB true) (bA (rfl:true=true) rfl rfl (bA (rfl:true=true) rfl rfl (bA (rfl:true=true) rfl rfl (bA (rfl:true=true) rfl rfl (bA (rfl:true=true) rfl rfl (aD (cX (v:=zB true) (rfl:true=true) rfl rfl) (aG (v:=zB true) (bA (rfl:true=true) rfl rfl (bA (rfl:true=true) rfl rfl (bA (rfl:true=true) rfl rfl (bA (rfl:true=true) rfl rfl (bA (rfl:true=true) rfl rfl (aD (cX (v:=zB true) (rfl:true=true) rfl rfl) (aG (v:=zB true) (bA (rfl:true=true) rfl rfl (bA (rfl:true=true) rfl rfl ?_)))))))))))))))))))))))
    exact bA (rfl:true=true) rfl rfl (aD (cX (v:=zB true) (rfl:true=true) rfl rfl) (aI ⟨bK,true,hm,rfl,(aE.arr 1 [] b6 rfl)⟩))
   ·refine bS b3 rfl rfl (aG (v:=i64 a3.2) (bS b3 rfl rfl (aD (aCf rfl rfl) (aD (eD (v:=zB (a3.2 != 0)) b3 rfl rfl) (aG (v:=zB (a3.2 != 0)) ?_)))))
    rcases aK hm with ⟨b4,hm⟩|⟨b4,hm⟩
    ·exact bA b4 rfl rfl (bA b4 rfl rfl (aD (cX (v:=zB true) b4 rfl rfl) (aG (v:=zB true) (bA (rfl:true=true) rfl rfl (bA (rfl:true=true) rfl rfl (bA (rfl:true=true) rfl rfl (bA (rfl:true=true) rfl rfl (bA (rfl:true=true) rfl rfl (aD (cX (v:=zB true) (rfl:true=true) rfl rfl) (aG (v:=zB true) (bA (rfl:true=true) rfl rfl (bA (rfl:true=true) rfl rfl (bA (rfl:true=true) rfl rfl (bA (rfl:true=true) rfl rfl (bA (rfl:true=true) rfl rfl (aD (cX (v:=zB true) (rfl:true=true) rfl rfl) (aG (v:=zB true) (bA (rfl:true=true) rfl rfl (bA (rfl:true=true) rfl rfl (bA (rfl:true=true) rfl rfl (aD (cX (v:=zB true) (rfl:true=true) rfl rfl) (aI ⟨bK,true,hm,rfl,(aE.arr 1 [] b6 rfl)⟩))))))))))))))))))))))
    ·refine bS b4 rfl rfl (aG (v:=i64 k.2) (bS b4 rfl rfl (aD (aCf rfl rfl) (aD (eD (v:=zB (k.2 != 0)) b4 rfl rfl) (aG (v:=zB (k.2 != 0)) ?_)))))
     rcases aK hm with ⟨u,hm⟩|⟨u,hm⟩
     ·exact bA u rfl rfl (bA u rfl rfl (bA u rfl rfl (bA u rfl rfl (bA u rfl rfl (aD (cX (v:=zB true) u rfl rfl) (aG (v:=zB true) (bA (rfl:true=true) rfl rfl (bA (rfl:true=true) rfl rfl (bA (rfl:true=true) rfl rfl (bA (rfl:true=true) rfl rfl (bA (rfl:true=true) rfl rfl (aD (cX (v:=zB true) (rfl:true=true) rfl rfl) (aG (v:=zB true) (bA (rfl:true=true) rfl rfl (bA (rfl:true=true) rfl rfl (bA (rfl:true=true) rfl rfl (aD (cX (v:=zB true) (rfl:true=true) rfl rfl) (aI ⟨bK,true,hm,rfl,(aE.arr 1 [] b6 rfl)⟩))))))))))))))))))
     ·refine bS u rfl rfl (aG (v:=zS p e.1.length q) (bS u rfl rfl (aD (bF (len:=e.1.length) dB rfl) (bS u rfl rfl (aG (v:=zS z b.2.1.length J) (bS u rfl rfl (aD (bF (len:=b.2.1.length) mN rfl) (bS u rfl rfl (aD (aCf rfl rfl) (aD (eD (v:=zB ((e.1.length:Int) != (b.2.1.length:Int))) u rfl rfl) (aG (v:=zB ((e.1.length:Int) != (b.2.1.length:Int))) ?_)))))))))))
      rcases aK hm with ⟨x,hm⟩|⟨x,hm⟩
      ·exact bA x rfl rfl (bA x rfl rfl (bA x rfl rfl (bA x rfl rfl (bA x rfl rfl (aD (cX (v:=zB true) x rfl rfl) (aG (v:=zB true) (bA (rfl:true=true) rfl rfl (bA (rfl:true=true) rfl rfl (bA (rfl:true=true) rfl rfl (aD (cX (v:=zB true) (rfl:true=true) rfl rfl) (aI ⟨bK,true,hm,rfl,(aE.arr 1 [] b6 rfl)⟩)))))))))))
      ·refine bS x rfl rfl (aG (v:=zS a4 k.1.length a5) (bS x rfl rfl (aD (bF (len:=k.1.length) bJ rfl) (bS x rfl rfl (aG (v:=zS z b.2.1.length J) (bS x rfl rfl (aD (bF (len:=b.2.1.length) mN rfl) (bS x rfl rfl (aD (aCf rfl rfl) (aD (eD (v:=zB ((k.1.length:Int) != (b.2.1.length:Int))) x rfl rfl) (aG (v:=zB ((k.1.length:Int) != (b.2.1.length:Int))) ?_)))))))))))
       rcases aK hm with ⟨a7,hm⟩|⟨a7,hm⟩
       ·exact bA a7 rfl rfl (bA a7 rfl rfl (bA a7 rfl rfl (aD (cX (v:=zB true) a7 rfl rfl) (aI ⟨bK,true,hm,rfl,(aE.arr 1 [] b6 rfl)⟩))))
       ·exact bS a7 rfl rfl (aG (v:=zS z b.2.1.length J) (bS a7 rfl rfl (aD (bF (len:=b.2.1.length) mN rfl) (bS a7 rfl rfl (aD (lX rfl rfl) (aD (eD (v:=zB ((b.2.1.length:Int) == 0)) a7 rfl rfl) (aI ⟨bK,(b.2.1.length:Int) == 0,hm,rfl,(aE.arr 1 [] b6 rfl)⟩)))))))
end Gv
