/- Walks, printed by program. -/
import Derived.Test.YtkcggmmjnpdgnaaGreatDoorJWk7
set_option linter.all false
namespace Gv
open Gv.Hp renaming le_refl→zR
open Go.Value renaming slice→zS,bool→zB,pointer→zP,agg→zA,map→zM
open Option.some renaming inj→zI
open Gv.Hp renaming le_trans→zL
open Go Go.Proofs Go.Proofs.Tryz
set_option maxRecDepth 20000
set_option maxHeartbeats 40000000
variable {G:uK} {K:Hp} {L:List gQ} {w:World} {a1 a4 a7 a10 a13 a16 a19 a22 a25 a28 a2 a5 a8 a11 a14:Option Addr} {c2 c5 c8 c11 c17 c20 c23 c26 c3 c6 c9 c12 c14 b1:Nat}
theorem vP {r_a r_b:cB} {g:Nat} {r u:Int} {k:(List aY)} {l:(List Edge)} {x z:Int} {m:(List aY)} {n:(List Edge)} {J:Nat} {V:(List ((Int × Int) × Bool))} {Z:Nat} {e y:Int} {R:Bool} (hm:iS r_a r_b r u k l x z m n V e y=some R) (hs:aI G K (L) w) (h:bW K a1 c2 r_a.L) (h6:bW K a4 c5 r_a.E) (h9:bW K a7 c8 r_b.L) (b9:bW K a10 c11 r_b.E) (c0:dT K a13 g [i64 r,i64 u,zS a16 k.length c17,zS a19 l.length c20,i64 x,i64 z,zS a22 m.length c23,zS a25 n.length c26,Value.func (.func 86) #[] #[cC a28 J]]) (c1:bW K a16 c17 k) (c3:bW K a19 c20 l) (c4:bW K a22 c23 m) (c6:bW K a25 c26 n) (c7:dT K a28 J [zM (some Z)]) (c9:rdM K Z V):
  Calls prog 118 ([zA #[i64 r_a.N,i64 r_a.I,zS a1 r_a.L.length c2,zS a4 r_a.E.length c5,i64 r_b.N,i64 r_b.I,zS a7 r_b.L.length c8,zS a10 r_b.E.length c11,Value.func (.func 141) #[] #[cC a13 g]],i64 e,i64 y,Value.func (.func 14) #[] #[]]:List Value).toArray w (eV fun v w'=>v=zB R/\aI G K (L) w'):=by
 let j:=[i64 r_a.N,i64 r_a.I,zS a1 r_a.L.length c2,zS a4 r_a.E.length c5,i64 r_b.N,i64 r_b.I,zS a7 r_b.L.length c8,zS a10 r_b.E.length c11,Value.func (.func 141) #[] #[cC a13 g]]
 refine aR func118 rfl (by kernel_rfl) (by show (4:Nat)<=36;decide) ?_;unfold iS at hm
 refine aK (fO (v:=zA #[i64 r_a.N,i64 r_a.I,zS a1 r_a.L.length c2,zS a4 r_a.E.length c5,i64 r_b.N,i64 r_b.I,zS a7 r_b.L.length c8,zS a10 r_b.E.length c11,Value.func (.func 141) #[] #[cC a13 g]]) (vs:=j) hs rfl rfl (fun a2 e4 a3=>(aE (v:=zB false) (aG (aO (aK (aD (bH (t':=0) aHW rfl rfl) (aD (eJ (us:=(zC r_a a1 c2 a4 c5)) eS a3 (i:=0) rfl rfl rfl rfl) (aF (v:=i64 e) ?_)))))))));obtain ⟨o,d0,hm⟩:=aC hm
 refine aP (vs:=[zA (zCa r_a a1 c2 a4 c5),i64 e]) call140 rfl (aEP d0 a3 h h6) ?_
 rintro _ e5 ⟨a5,a6,rfl,e6⟩
 refine aD (bX (len:=o.length) cK rfl) (aF (v:=i64 0) (aG (aX [] (fun f w=>lS=some R/\aI G K (L) w) eB ?_)));obtain ⟨e7,d1,ho⟩:=aC hm
 refine fA [1,2,3,4,14,15] d1 (fun a8 f w=>f 16=i64 a8/\aI G K (aN 66 K a5 a6 o::box a2 76 j::L) w) eB ?_
 ·rintro a8 e8 f e9 hm hr ⟨a9,p⟩
  unfold fP at hm
  refine aK (aD (cV a9 rfl) (aG (aO ?_)))
  rcases aH hm with ⟨b0,hm⟩|⟨b0,hm⟩
  ·refine aL b0 rfl (aW (aB (aO (dA (aK ?_)))));obtain ⟨b,q,hm⟩:=aC hm
   have d2:=cQ p (i:=0) rfl q
   refine aD (dL cK rfl d2 rfl rfl a9 q) (aD (aJq (t:=0) (vs:=[i64 b.F,i64 b.B,i64 b.To]) oX p (i:=0) rfl q rfl rfl rfl rfl) (cI (vs:=[i64 0,i64 0,i64 0]) zeroValue66 p rfl (fun d3 f0 d4=>(cG (i:=0) (ns:=[i64 b.F,i64 b.B,i64 b.To]) (us:=[i64 b.F,i64 b.B,i64 b.To]) sizeOf66 d4 rfl rfl rfl rfl rfl (dN rfl) rfl rfl (fun d5 (d6:aI G K (box d3 66 [i64 b.F,i64 b.B,i64 b.To]::aN 66 K a5 a6 o::box a2 76 j::L) d5)=>(aG (aO ?_)))))))
   obtain ⟨f1,c,b1,d7,f2⟩:=aI.lendBp d6 .head
   obtain ⟨d8,a,b2,b3,d9⟩:=aI.lendBp d7 zt1
   refine dI (C:=fun w'=>∃ L',aI G d8 L' w') [(0,0),(1,0),(2,0),(3,0),(4,0),(5,0),(6,0),(7,0),(8,0),(9,0),(10,0),(11,0),(12,0),(13,1),(14,0)] Tryz_mixed (by kernel_rfl) (fun _ hg=>⟨_,aI.mono b3 hg⟩) (fun f3 e0=>?_)
   have d:=aI.mono b3 e0
   refine bL rfl (fun _ _=>aT (v:=Value.func (.func 14) #[] #[]) rfl) (bL rfl (fun _ ⟨_,d⟩=>gC (t:=0) (vs:=j) aMh d b2 rfl rfl rfl) (bL rfl (fun _ _=>aT (v:=i64 e) rfl) (bL rfl (fun _ _=>aT (v:=i64 y) rfl) (bL rfl (fun _ _=>bH (t':=0) aHW rfl rfl) (bL rfl (fun _ _=>bH (t':=2) fF rfl rfl) (bL rfl (fun _ ⟨_,d⟩=>bE (t:=2) oF d b2 rfl rfl) (bL rfl (fun _ _=>bH (t':=1) iR rfl rfl) (bL rfl (fun _ ⟨_,d⟩=>bE (t:=1) cE d (b1.mono a) rfl rfl) ?_))))))))
   obtain ⟨b4,b5,hm⟩:=aC hm
   refine bL rfl (fun _ _=>cO dE rfl (h.mono (zL c a)) rfl rfl rfl b5) ?_;obtain ⟨f4,e1,e2⟩:=bW.el (sz:=1) rfl h b5
   cases e2
   refine bL rfl (fun _ ⟨_,d⟩=>bE (t:=0) aAU d (e1.mono (zL c a)) rfl rfl) (bL rfl (fun _ _=>bH (t':=2) gY rfl rfl) (bL rfl (fun _ ⟨_,d⟩=>bE (t:=2) cE d (b1.mono a) rfl rfl) (fT rfl ?_)));obtain ⟨f5,e3,hm⟩:=aC hm
   refine vS (vs:=[zA #[i64 r_a.N,i64 r_a.I,zS a1 r_a.L.length c2,zS a4 r_a.E.length c5,i64 r_b.N,i64 r_b.I,zS a7 r_b.L.length c8,zS a10 r_b.E.length c11,Value.func (.func 141) #[] #[cC a13 g]],i64 e,i64 y,str b4,i64 b.To]) (caps:=[]) (us:=[zA #[i64 r_a.N,i64 r_a.I,zS a1 r_a.L.length c2,zS a4 r_a.E.length c5,i64 r_b.N,i64 r_b.I,zS a7 r_b.L.length c8,zS a10 r_b.E.length c11,Value.func (.func 141) #[] #[cC a13 g]],i64 e,i64 y,str b4,i64 b.To]) rfl call14 rfl rfl (aFt (r_a:=⟨r_a.N,r_a.I,r_a.L,r_a.E⟩) (r_b:=⟨r_b.N,r_b.I,r_b.L,r_b.E⟩) e3 d (h.mono (zL c a)) (h6.mono (zL c a)) (h9.mono (zL c a)) (b9.mono (zL c a)) (c0.mono (zL c a)) (c1.mono (zL c a)) (c3.mono (zL c a)) (c4.mono (zL c a)) (c6.mono (zL c a)) (c7.mono (zL c a)) (c9.mono (zL c a))) ?_
   rintro _ f6 ⟨rfl,b6⟩
   refine bF (aB ⟨⟨_,b6⟩,?_⟩)
   refine bL rfl (fun _ _=>eC rfl) (gD ?_)
   have f7:=d9 _ _ b6
   exact eB
  ·exact eB
theorem aBQ {r_a r_b:cB} {u:Nat} {e:(List ((Int × Int) × Bool))} {k:Nat} {R:(Bool × (List ((Int × Int) × Bool)))} (hm:tA r_a r_b e=some R) (hs:aI G K (mpo k e::L) w) (h4:bW K a2 c3 r_a.L) (h7:bW K a5 c6 r_a.E) (a3:bW K a8 c9 r_b.L) (a4:bW K a11 c12 r_b.E) (b2:dT K a14 u [zM (some k)]):
  Calls prog 87 ([zA #[i64 r_a.N,i64 r_a.I,zS a2 r_a.L.length c3,zS a5 r_a.E.length c6,i64 r_b.N,i64 r_b.I,zS a8 r_b.L.length c9,zS a11 r_b.E.length c12,Value.func (.func 86) #[] #[cC a14 u]],zM (some k),Value.func (.func 14) #[] #[]]:List Value).toArray w (eV fun v w'=>v=zB R.1/\aI G K (mpo k R.2::L) w'):=by
 let m:=[i64 r_a.N,i64 r_a.I,zS a2 r_a.L.length c3,zS a5 r_a.E.length c6,i64 r_b.N,i64 r_b.I,zS a8 r_b.L.length c9,zS a11 r_b.E.length c12,Value.func (.func 86) #[] #[cC a14 u]]
 refine aR func87 rfl (by kernel_rfl) (by show (3:Nat)<=33;decide) ?_;unfold tA at hm
 refine aK (fO (v:=zA #[i64 r_a.N,i64 r_a.I,zS a2 r_a.L.length c3,zS a5 r_a.E.length c6,i64 r_b.N,i64 r_b.I,zS a8 r_b.L.length c9,zS a11 r_b.E.length c12,Value.func (.func 86) #[] #[cC a14 u]]) (vs:=m) hs rfl rfl (fun q h5 d7=>(aE (v:=zB false) (aG (aO (aK (aF (v:=zM (some k)) (WO_range (i:=1) runUnderlying123 d7 rfl rfl (fun x d8 (d9:aI G K (box q 76 m::mpi x k e (List.map Prod.fst e) none::L) d8)=>(aG (aX [] (fun f w=>rW e=some R/\aI G K (mpo k e::L) w) eB ?_)))))))))))
 obtain ⟨h6,b3,hm⟩:=aC hm
 refine W_loopC (fun (n:Nat) f w=>∃ z y b4,List.Perm (z++y) (List.map Prod.fst e)/\y.length=n/\(∀ j∈z,(nY r_a r_b e) j=some true)/\f 2=Value.func (.func 14) #[] #[]/\f 3=zP (some ⟨q,0,none⟩)/\f 9=zP (some ⟨x,0,none⟩)/\aI G K (box q 76 m::mpi x k e y b4::L) w) (List.length (List.map Prod.fst e)) ⟨[],_,_,List.Perm.refl _,rfl,by simp,rfl,rfl,rfl,d9⟩ ?_ ?_
 ·rintro f e0 ⟨z,y,b4,J,a6,b5,a7,a9,V,c1⟩
  obtain rfl:=List.length_eq_zero_iff.1 a6
  replace hm:(rW e)=some R:=mall_t b3 J b5 hm
  refine aK (aD (R_nextN c1 (i:=1) rfl V) (aD (dC rfl rfl) (aG (aO (aJ (by decide:¬ false=true) rfl (cJ (bB (bB ?_))))))))
  have h8:aI G K (box q 76 m::mpo k e::L) e0:=aI.endI (i:=1) c1 rfl
  exact eB
 ·rintro j f e1 ⟨z,y,b4,J,a6,b5,a7,a9,V,e2⟩
  have e3:y≠[]:=by rintro rfl;cases a6
  refine aK (WO_nextC e2 (i:=1) rfl e3 V (fun h b6 b7 e4 b0 h9 (c2:aI G K (box q 76 m::mpi x k e b7 (some (h,b6))::L) e4)=>?_));obtain ⟨c4,b8⟩:=mfil_at b3 J b0
  have c:(nY r_a r_b e) h=some c4:=b8
  unfold nY at c
  refine aD (dC rfl rfl) (aG (aO (aL (rfl:true=true) rfl (aW (aB (dA (aK (aD (R_entry c2 (i:=1) rfl V) (aD (dC rfl rfl) (cI (vs:=[i64 0,i64 0]) zeroValue126 c2 rfl (fun e5 i0 e6=>(cG (i:=0) (ns:=[i64 h.1,i64 h.2]) (us:=[i64 h.1,i64 h.2]) sizeOf126 e6 rfl rfl rfl rfl rfl (dN rfl) rfl rfl (fun e7 (e8:aI G K (box e5 126 [i64 h.1,i64 h.2]::box q 76 m::mpi x k e b7 (some (h,b6))::L) e7)=>(aG (aO (cH [2,3,9] (fun f w=>∃ b9,rX b9=some c4/\f 32=zB b9/\aI G K (box q 76 m::mpi x k e b7 (some (h,b6))::L) w) ?_ ?_))))))))))))))))
  ·rintro f e9 ⟨b9,c,c5,c7⟩
   unfold rX at c
   refine aB ?_
   rcases aH c with ⟨c0,c⟩|⟨c0,c⟩
   ·refine aL c0 c5 (aK (aE (v:=zB false) (aG (bM (cD (aZ ?_))))))
    have i1:aI G K (box q 76 m::mpo k e::L) e9:=aI.endI (i:=1) c7 rfl
    obtain rfl:=zI c
    replace hm:(some (false,e))=some R:=mall_f b3 J b0 b8 hm
    exact eB
   ·refine aJ c0 c5 (aW (bA (aB ?_)));obtain rfl:=zI c
    exact ⟨z++[h],_,_,seen_next J b0,len_next b0 a6,all_next b5 b8,a7,a9,V,c7⟩
  obtain ⟨i2,d,b1,f0,c8⟩:=aI.lendBp e8 .head
  obtain ⟨f1,a,d0,d1,d2⟩:=aI.lendBp f0 .head
  refine dI (C:=fun w'=>∃ L',aI G f1 L' w') [(0,0),(1,0),(2,0),(3,0),(4,0),(5,0),(6,1),(7,0),(8,0),(9,0),(11,0),(12,0),(13,0),(14,0),(15,0),(10,1),(16,1),(17,0),(18,0)] Tryz_mixed (by kernel_rfl) (fun _ hg=>⟨_,aI.mono d1 hg⟩) (fun i3 f2=>?_)
  have r:=aI.mono d1 f2
  refine bL rfl (fun _ ⟨_,r⟩=>gC (t:=0) (vs:=m) aMh r d0 a9 rfl rfl) (bL rfl (fun _ _=>R_ixP (t':=0) (j:=0) aJx rfl rfl (by decide) (by decide) rfl) (bL rfl (fun _ ⟨_,r⟩=>bE (t:=0) cE r (b1.mono a) rfl rfl) (bL rfl (fun _ _=>R_ixP (t':=1) (j:=1) aJx rfl rfl (by decide) (by decide) rfl) (bL rfl (fun _ ⟨_,r⟩=>bE (t:=1) cE r (b1.mono a) rfl rfl) (bL rfl (fun _ _=>aT a7) (fT rfl ?_))))));obtain ⟨i4,Z,f3,f4,f5⟩:=aI.lendI (i:=0) r rfl
  obtain ⟨f6,f7,c⟩:=aC c
  refine aP (vs:=[zA #[i64 r_a.N,i64 r_a.I,zS a2 r_a.L.length c3,zS a5 r_a.E.length c6,i64 r_b.N,i64 r_b.I,zS a8 r_b.L.length c9,zS a11 r_b.E.length c12,Value.func (.func 86) #[] #[cC a14 u]],i64 h.1,i64 h.2,Value.func (.func 14) #[] #[]]) call118 rfl (zQ (r_a:=⟨r_a.N,r_a.I,r_a.L,r_a.E⟩) (r_b:=⟨r_b.N,r_b.I,r_b.L,r_b.E⟩) f7 f4 (h4.mono (zL (zL d a) Z)) (h7.mono (zL (zL d a) Z)) (a3.mono (zL (zL d a) Z)) (a4.mono (zL (zL d a) Z)) (b2.mono (zL (zL d a) Z)) f3) ?_
  rintro _ e1 ⟨rfl,f8⟩
  have l:=f5 _ _ f8
  refine bF (aB ⟨⟨_,l⟩,?_⟩)
  refine bL rfl (fun _ _=>eC rfl) (bL rfl (fun _ _=>aT (v:=zB (!f6)) rfl) ?_)
  rcases aH c with ⟨b,c⟩|⟨b,c⟩
  ·refine pT rfl rfl rfl (bU b) (pT rfl rfl rfl (bU b) (pT rfl rfl rfl (bU b) (pT rfl rfl rfl (bU b) (pT rfl rfl rfl (bU b) (pT rfl rfl rfl (bU b) (fT rfl (aS (g:=22) b (by exact rfl) rfl (bF (aB ⟨⟨_,l⟩,?_⟩)))))))))
   refine fT rfl (aS (g:=22) b (by exact rfl) rfl (bF (aB ⟨⟨_,l⟩,?_⟩)))
   refine pT rfl rfl rfl (bU b) (bL rfl (fun _ _=>bJ (v:=zB true) b rfl rfl) (gD ?_))
   have f9:=d2 _ _ l
   have g0:=c8 _ _ f9
   exact aB ⟨aM,true,c,rfl,(aI.arr 1 [] g0 rfl)⟩
  ·refine yM rfl rfl rfl (bY b) (fun _ ⟨_,l⟩=>gC (t:=0) (vs:=m) aMh l d0 a9 rfl rfl) (yM rfl rfl rfl (bY b) (fun _ _=>R_ixP (t':=1) (j:=1) aJx rfl rfl (by decide) (by decide) rfl) (yM rfl rfl rfl (bY b) (fun _ ⟨_,l⟩=>bE (t:=1) cE l (b1.mono a) rfl rfl) (yM rfl rfl rfl (bY b) (fun _ _=>R_ixP (t':=0) (j:=0) aJx rfl rfl (by decide) (by decide) rfl) (yM rfl rfl rfl (bY b) (fun _ ⟨_,l⟩=>bE (t:=0) cE l (b1.mono a) rfl rfl) (yM rfl rfl rfl (bY b) (fun _ _=>aT a7) (fT rfl (bG b rfl rfl ?_)))))))
   obtain ⟨i5,g1,c⟩:=aC c
   refine aP (vs:=[zA #[i64 r_a.N,i64 r_a.I,zS a2 r_a.L.length c3,zS a5 r_a.E.length c6,i64 r_b.N,i64 r_b.I,zS a8 r_b.L.length c9,zS a11 r_b.E.length c12,Value.func (.func 86) #[] #[cC a14 u]]]) call119 rfl (yE (r_a:=⟨r_a.N,r_a.I,r_a.L,r_a.E⟩) (r_b:=⟨r_b.N,r_b.I,r_b.L,r_b.E⟩) g1 l (h4.mono (zL d a)) (h7.mono (zL d a)) (a3.mono (zL d a)) (a4.mono (zL d a)) (b2.mono (zL d a))) ?_
   rintro _ i6 ⟨g2,rfl,d3⟩
   refine bF (aB ⟨⟨_,d3⟩,?_⟩)
   refine fT rfl (bG b rfl rfl ?_);obtain ⟨i7,p,g3,g4,g5⟩:=aI.lendI (i:=1) d3 rfl
   obtain ⟨i8,o,g6,g7,g8⟩:=aI.lendBp g4 .head
   obtain ⟨d4,g9,c⟩:=aC c
   refine aP (vs:=[zA #[i64 r_b.N,i64 r_b.I,zS a8 r_b.L.length c9,zS a11 r_b.E.length c12,i64 r_a.N,i64 r_a.I,zS a2 r_a.L.length c3,zS a5 r_a.E.length c6,Value.func (.func 141) #[] #[cC (some ⟨g2,0,none⟩) 0]],i64 h.2,i64 h.1,Value.func (.func 14) #[] #[]]) call118 rfl (vP (r_a:=⟨r_b.N,r_b.I,r_b.L,r_b.E⟩) (r_b:=⟨r_a.N,r_a.I,r_a.L,r_a.E⟩) g9 g7 (a3.mono (zL (zL (zL d a) p) o)) (a4.mono (zL (zL (zL d a) p) o)) (h4.mono (zL (zL (zL d a) p) o)) (h7.mono (zL (zL (zL d a) p) o)) g6 (h4.mono (zL (zL (zL d a) p) o)) (h7.mono (zL (zL (zL d a) p) o)) (a3.mono (zL (zL (zL d a) p) o)) (a4.mono (zL (zL (zL d a) p) o)) (b2.mono (zL (zL (zL d a) p) o)) (g3.mono o)) ?_
   rintro _ i9 ⟨rfl,h0⟩
   have h1:=g8 _ _ h0
   have d5:=g5 _ _ h1
   refine bF (aB ⟨⟨_,d5⟩,?_⟩)
   refine yM rfl rfl rfl (bY b) (fun _ _=>eC rfl) (bL rfl (fun _ _=>bN (v:=zB (!d4)) b rfl rfl) (gD ?_))
   have h2:=d2 _ _ d5
   have h3:=c8 _ _ h2
   exact aB ⟨aM,!d4,c,rfl,(aI.arr 4 [1,2] h3 rfl)⟩
theorem aHM {a b:cB} {g:(List (List Int))} {R:Bool} (hm:aHZ a b g=some R) (z:aI G K (L) w) (p:bW K a1 c2 a.L) (q:bW K a4 c5 a.E) (r:bW K a7 c8 b.L) (t:bW K a10 c11 b.E) (J:bW K a13 c14 g):
  Calls prog 37 ([zA (zCa a a1 c2 a4 c5),zA (zCa b a7 c8 a10 c11),zS a13 g.length c14,Value.func (.func 14) #[] #[]]:List Value).toArray w (eV fun v w'=>v=zB R/\aI G K (L) w'):=by
 let d:=(zC b a7 c8 a10 c11)
 let e:=(zC a a1 c2 a4 c5)
 refine aR func37 rfl (by kernel_rfl) (by show (4:Nat)<=27;decide) ?_;unfold aHZ at hm
 refine aK (fO (v:=zA (zCa a a1 c2 a4 c5)) (vs:=e) z rfl rfl (fun j b5 V=>(fO (v:=zA (zCa b a7 c8 a10 c11)) (vs:=d) V rfl rfl (fun k b6 o=>(aE (v:=zB false) (aG (aK (aD (eJ (us:=e) eS o (i:=1) rfl rfl rfl rfl) (aD (eJ (us:=d) eS o (i:=0) rfl rfl rfl rfl) (aF (v:=zS a13 g.length c14) ?_))))))))));obtain ⟨u,Z,hm⟩:=aC hm
 refine aP (vs:=[zA (zCa a a1 c2 a4 c5),zA (zCa b a7 c8 a10 c11),zS a13 g.length c14]) call85 rfl (aHL Z o p q r t J) ?_
 rintro _ x ⟨c,rfl,y⟩
 rcases aH hm with ⟨l,hm⟩|⟨l,hm⟩
 ·have a0:aI G K (mpo c u.1::box k 27 d::box j 27 e::L) x:=aI.mpcE (i:=0) y rfl l
  refine bC (v:=Value.tuple #[zM (some c),zB true]) (congrArg (fun b:Bool=>Value.tuple #[zM (if b=true then some c else none),zB b]) l) (aD (dC rfl rfl) (aD (dC rfl rfl) (cI (vs:=[zM none]) zeroValue123 a0 rfl (fun h b7 a2=>(cG (i:=0) (ns:=[zM (some c)]) (us:=[zM (some c)]) sizeOf123 a2 rfl rfl rfl rfl rfl (dN rfl) rfl rfl (fun a3 (m:aI G K (box h 123 [zM (some c)]::mpo c u.1::box k 27 d::box j 27 e::L) a3)=>(aE (v:=zB true) (aG (aO (aK (aF (v:=zB true) (aD (eC rfl) (aG (aJ (by decide:¬ (!true)=true) rfl (aW (aB (aK (aD (eJ (us:=e) eS m (i:=3) rfl rfl rfl rfl) (aD (eJ (us:=d) eS m (i:=2) rfl rfl rfl rfl) (aD (aAn (vs:=[zP (some ⟨h,0,none⟩)]) rfl) (aD (gW (vs:=[(0,zA (zCa a a1 c2 a4 c5)),(1,zA (zCa b a7 c8 a10 c11)),(2,Value.func (.func 86) #[] #[zP (some ⟨h,0,none⟩)])]) (cs:=[i64 a.N,i64 a.I,zS a1 a.L.length c2,zS a4 a.E.length c5,i64 b.N,i64 b.I,zS a7 b.L.length c8,zS a10 b.E.length c11,Value.func (.func 86) #[] #[zP (some ⟨h,0,none⟩)]]) bs_76 rfl (by kernel_rfl)) (aD (cR sc_123 m (i:=0) rfl rfl rfl) (aF (v:=Value.func (.func 14) #[] #[]) ?_)))))))))))))))))))))))
  obtain ⟨b8,n,a5,a6,b9⟩:=aI.lendBp m .head
  obtain ⟨c0,a8,hm⟩:=aC hm
  exact aP (vs:=[zA #[i64 a.N,i64 a.I,zS a1 a.L.length c2,zS a4 a.E.length c5,i64 b.N,i64 b.I,zS a7 b.L.length c8,zS a10 b.E.length c11,Value.func (.func 86) #[] #[cC (some ⟨h,0,none⟩) 0]],zM (some c),Value.func (.func 14) #[] #[]]) call87 rfl (aBQ a8 a6 (p.mono n) (q.mono n) (r.mono n) (t.mono n) a5) eB
 ·have a9:aI G K (box k 27 d::box j 27 e::L) x:=(aI.arr 1 [] y rfl)
  refine bC (v:=Value.tuple #[zM none,zB false]) (congrArg (fun b:Bool=>Value.tuple #[zM (if b=true then some c else none),zB b]) (bY l)) (aD (dC rfl rfl) (aD (dC rfl rfl) (cI (vs:=[zM none]) zeroValue123 a9 rfl (fun b0 c1 b1=>(cG (i:=0) (ns:=[zM none]) (us:=[zM none]) sizeOf123 b1 rfl rfl rfl rfl rfl (dN rfl) rfl rfl (fun b2 (b3:aI G K (box b0 123 [zM none]::box k 27 d::box j 27 e::L) b2)=>(aE (v:=zB false) (aG (aO (aK (aF (v:=zB false) (aD (eC rfl) (aG (aL (rfl:(!false)=true) rfl (aK (aE (v:=zB false) (aG ?_)))))))))))))))))
  obtain rfl:=zI hm
  exact bM (aZ (bI results37 rfl ⟨rfl,(aI.arr 3 [] b3 rfl)⟩))
theorem aER {a b:cB} {c:(List (List Int))} {R:Bool} (hm:uY a b c=some R) (n:aI G K (L) w) (hG:G.lo=0) (o:bW K a1 c2 a.L) (p:bW K a4 c5 a.E) (q:bW K a7 c8 b.L) (r:bW K a10 c11 b.E) (t:bW K a13 c14 c):
  Calls prog 13 ([zA (zCa a a1 c2 a4 c5),zA (zCa b a7 c8 a10 c11),zS a13 c.length c14,Value.func (.func 14) #[] #[]]:List Value).toArray w (eV fun v w'=>v=zB R/\aI G K (L) w'):=by
 let j:=(zC b a7 c8 a10 c11)
 let k:=(zC a a1 c2 a4 c5)
 refine aR func13 rfl (by kernel_rfl) (by show (4:Nat)<=29;decide) ?_;unfold uY at hm
 refine aK (fO (v:=zA (zCa a a1 c2 a4 c5)) (vs:=k) n rfl rfl (fun g b0 u=>(fO (v:=zA (zCa b a7 c8 a10 c11)) (vs:=j) u rfl rfl (fun h b1 b2=>(aE (v:=zB false) (aG (aO (aO (cH [2,3,4,5] (fun f w=>∃ i,tB a b c i=some R/\f 17=zB i/\aI G K (box h 27 j::box g 27 k::L) w) ?_ ?_)))))))))
 ·rintro f b3 ⟨i,hm,x,y⟩
  unfold tB at hm
  refine aB ?_
  rcases aH hm with ⟨l,hm⟩|⟨l,hm⟩
  ·exact eB
  ·refine aJ l x (aW (aB (aK (aF (v:=zS a13 c.length c14) (aD (aAn (vs:=[zP (some ⟨g,0,none⟩),zP (some ⟨h,0,none⟩)]) rfl) ?_)))));obtain ⟨b4,e,z,J,V⟩:=aI.lendBp y zt1
   obtain ⟨b5,d,Z,a0,a2⟩:=aI.lendBp J .head
   obtain ⟨a3,a5,hm⟩:=aC hm
   refine aP (vs:=[zS a13 c.length c14,Value.func (.func 35) #[] #[cC (some ⟨g,0,none⟩) 0,cC (some ⟨h,0,none⟩) 0]]) call34 rfl (jN a5 a0 (t.mono (zL e d)) (z.mono d) (o.mono (zL e d)) (p.mono (zL e d)) Z (q.mono (zL e d)) (r.mono (zL e d))) ?_
   rintro _ b6 ⟨rfl,a6⟩
   have a8:=a2 _ _ a6
   have b7:=V _ _ a8
   exact aE (v:=zB a3) (aG (aO (cH [] (fun f w=>∃ m,xY m=some R/\f 8=zB m/\aI G K (L) w) eB eB)))
 exact eB
theorem aHb {a b:cB} {c:(List (List Int))} {R:Bool} (hm:tP a b c=some R) (d:aI G K (L) w) (e:G.lo=0) (g:bW K a1 c2 a.L) (h:bW K a4 c5 a.E) (i:bW K a7 c8 b.L) (j:bW K a10 c11 b.E) (k:bW K a13 c14 c):
  Calls prog 6 ([zA (zCa a a1 c2 a4 c5),zA (zCa b a7 c8 a10 c11),zS a13 c.length c14]:List Value).toArray w (eV fun v w'=>v=zB R/\aI G K (L) w'):=by
 exact eB
theorem aFu {a b:(List Int)} {R:Int} (hm:qY a b=some R) (h:aI G K (L) w) (i:bW K a1 c2 a) (j:bW K a4 c5 b):
  Calls prog 92 ([zS a1 a.length c2,zS a4 b.length c5]:List Value).toArray w (eV fun v w'=>v=i64 R/\aI G K (L) w'):=by
 refine aR func92 rfl (by kernel_rfl) (by show (2:Nat)<=46;decide) ?_;unfold qY at hm
 refine aK (aE (v:=i64 0) (aG (aO (aK (aE (v:=i64 0) (aG (aX [0,1] (fun f w=>nR a b=some R/\aI G K (L) w) eB ?_)))))));obtain ⟨k,e,ho⟩:=aC hm
 refine fA [0,1] e (fun c f w=>f 5=i64 c/\aI G K (L) w) eB ?_
 ·rintro c g f l hm hr ⟨m,n⟩
  unfold jJ at hm
  exact aO (aO (cH [0,1,5] (fun f w=>∃ d,lN a b c d=some g/\f 15=zB d/\aI G K (L) w) eB eB))
theorem aHc {c:(List (List Int))} {a b:Int} {R:Bool} (hm:aEF c a b=some R) (n:aI G K (L) w) (o:bW K a1 c2 c):
  Calls prog 44 ([zS a1 c.length c2,i64 a,i64 b]:List Value).toArray w (eV fun v w'=>v=zB R/\aI G K (L) w'):=by
 refine aR func44 rfl (by kernel_rfl) (by show (3:Nat)<=59;decide) ?_;unfold aEF at hm
 refine aK (aE (v:=zB false) (aG (aO (aK (aE (v:=i64 0) (aG (aX [] (fun f w=>aCB=some R/\aI G K (L) w) eB ?_)))))));obtain ⟨p,k,ho⟩:=aC hm
 refine fA [0,1,2] k (fun d f w=>f 7=i64 d/\aI G K (L) w) eB ?_
 ·rintro d g f q hm hr ⟨l,r⟩
  unfold rQ at hm
  refine aO (aK (bC l (aF (v:=zS a1 c.length c2) (aD (bX (len:=c.length) eL rfl) (aD (cV rfl rfl) (aG ?_))))))
  rcases aH hm with ⟨h,hm⟩|⟨h,hm⟩
  ·refine aL h rfl (aW (aB (aO (dA (aO (aO (cH [0,1,2,7] (fun f w=>∃ e,oJ c d e=some g/\f 43=zB e/\aI G K (L) w) ?_ ?_)))))))
   ·rintro f t ⟨e,hm,m,u⟩
    unfold oJ at hm
    refine aB ?_
    rcases aH hm with ⟨i,hm⟩|⟨i,hm⟩
    ·exact eB
    ·exact aJ i m (aW (aB (aO (cH [0,1,2,7] (fun f w=>∃ j,uZ d j=some g/\f 58=zB j/\aI G K (L) w) eB eB))))
   exact eB
  ·exact eB
theorem vQ {a:(List (List Int))} {c y:Int} {R:Bool} (hm:tQ a c y=some R) (j:aI G K (L) w) (k:bW K a1 c2 a):
  Calls prog 45 ([zS a1 a.length c2,i64 c,i64 y]:List Value).toArray w (eV fun v w'=>v=zB R/\aI G K (L) w'):=by
 refine aR func45 rfl (by kernel_rfl) (by show (3:Nat)<=32;decide) ?_;unfold tQ at hm
 refine aK (aE (v:=zB false) (aG (aO (aK (aE (v:=i64 0) (aG (aX [] (fun f w=>aAf=some R/\aI G K (L) w) eB ?_)))))));obtain ⟨l,g,ho⟩:=aC hm
 refine fA [0,1,2] g (fun b f w=>f 7=i64 b/\aI G K (L) w) eB ?_
 ·rintro b h f m hm hr ⟨i,n⟩
  unfold nS at hm
  refine aO (aK (bC i (aF (v:=zS a1 a.length c2) (aD (bX (len:=a.length) eL rfl) (aD (cV rfl rfl) (aG ?_))))))
  rcases aH hm with ⟨d,hm⟩|⟨d,hm⟩
  ·exact aL d rfl (aW (aB (aO (dA (aO (cH [0,1,2,7] (fun f w=>∃ e,uF b e=some h/\f 31=zB e/\aI G K (L) w) eB eB))))))
  ·exact eB
theorem aFM {a:cB} {g:Nat} {b:cB} {h:Nat} {j:(List Bool)} {z y:Int} {p:(List (List Int))} {J R:Bool} (hm:aGd a b j z y p J=some R) (hs:aI G K (L) w) (e:dT K a1 g (zC a a4 c5 a7 c8)) (h6:bW K a4 c5 a.L) (h9:bW K a7 c8 a.E) (q:dT K a10 h (zC b a13 c14 a16 c17)) (a6:bW K a13 c14 b.L) (b7:bW K a16 c17 b.E) (b8:bW K a19 c20 j) (d9:bW K a22 c23 p):
  Calls prog 47 ([cC a1 g,cC a10 h,zS a19 j.length c20,i64 z,i64 y,zS a22 p.length c23,zB J]:List Value).toArray w (eV fun v w'=>v=zB R/\aI G K (L) w'):=by
 refine aR func47 rfl (by kernel_rfl) (by show (7:Nat)<=91;decide) ?_;unfold aGd at hm
 refine aK (aE (v:=zB false) (aG (aO (aK (aE (v:=i64 0) (aG (aX [] (fun f w=>aFm=some R/\aI G K (L) w) eB ?_)))))));obtain ⟨e0,b9,ho⟩:=aC hm
 refine fA [0,1,2,3,4,5,6] b9 (fun k f w=>f 15=i64 k/\aI G K (L) w) eB ?_
 ·rintro k a8 f e1 hm hr ⟨V,r⟩
  unfold tJ at hm
  refine aO (aK (bC V (aF (v:=cC a1 g) (aD (cA rfl e) (aD (bS (k':=g+3) cM rfl e rfl) (aD (bE (t:=3) eK r e rfl rfl) (aD (bX (len:=a.E.length) cK rfl) (aD (cV rfl rfl) (aG ?_)))))))))
  rcases aH hm with ⟨a9,hm⟩|⟨a9,hm⟩
  ·refine aL a9 rfl (aW (aB (aO (aX [0,1,2,3,4,5,6,15] (fun f w=>aAL k=some a8/\aI G K (L) w) ?_ ?_))))
   ·rintro f e2 ⟨hm,c0⟩
    unfold aAL at hm
    exact aB (aQ (bC V (aD (cL rfl rfl) (aE (v:=i64 (wr (k+1))) (aG ⟨_,(zI hm).symm,aM,rfl,c0⟩)))))
   refine aK (aF (v:=cC a1 g) (aD (cA rfl e) (aD (bS (k':=g+3) cM rfl e rfl) (aD (bE (t:=3) eK r e rfl rfl) (bC V ?_)))));obtain ⟨c,b0,hm⟩:=aC hm
   refine aD (cO cK rfl h9 rfl rfl rfl b0) ?_;obtain ⟨e3,c1,c2⟩:=bW.el (sz:=3) rfl h9 b0
   cases c2
   refine aD (gC (t:=0) (vs:=[i64 c.F,i64 c.B,i64 c.To]) oX r c1 rfl rfl rfl) (cI (vs:=[i64 0,i64 0,i64 0]) zeroValue66 r rfl (fun l e4 c3=>(cG (i:=0) (ns:=[i64 c.F,i64 c.B,i64 c.To]) (us:=[i64 c.F,i64 c.B,i64 c.To]) sizeOf66 c3 rfl rfl rfl rfl rfl (dN rfl) rfl rfl (fun c4 (d:aI G K (box l 66 [i64 c.F,i64 c.B,i64 c.To]::L) c4)=>(aG (aO (aK (aD (bH (t':=0) iY rfl rfl) (aD (cR cE d (i:=0) rfl rfl rfl) (aF (v:=i64 z) (aD (aDz rfl rfl) (aG ?_))))))))))))
   rcases aH hm with ⟨b1,hm⟩|⟨b1,hm⟩
   ·exact eB
   ·refine aJ b1 rfl (aW (aB (aO (dR (C:=fun w'=>aI G K (box l 66 [i64 c.F,i64 c.B,i64 c.To]::L) w') Tryz_mixed (by kernel_rfl) (aI.mono d (dQ.drew _)) (aU (fun _ d=>aT (v:=cC a10 h) rfl) (aU (fun _ d=>cA rfl q) (aU (fun _ d=>bS (k':=h+2) fF rfl q rfl) (aU (fun _ d=>bE (t:=2) oF d q rfl rfl) (aU (fun _ d=>aT (v:=cC a1 g) rfl) (aU (fun _ d=>cA rfl e) (aU (fun _ d=>bS (k':=g+2) fF rfl e rfl) (aU (fun _ d=>bE (t:=2) oF d e rfl rfl) (aU (fun _ d=>bH (t':=1) iR rfl rfl) (aU (fun _ d=>cR cE d (i:=0) rfl rfl rfl) ?_))))))))))))))
    obtain ⟨c6,b2,hm⟩:=aC hm
    refine aU (fun _ d=>cO dE rfl h6 rfl rfl rfl b2) ?_;obtain ⟨e5,c7,c9⟩:=bW.el (sz:=1) rfl h6 b2
    cases c9
    refine aU (fun _ d=>bE (t:=0) aAU d c7 rfl rfl) ?_;obtain ⟨m,d0,hm⟩:=aC hm
    refine kN (vs:=[zS a13 b.L.length c14,str c6]) (v:=i64 m) call68 rfl (fun _ d=>(aBz d0 d a6)) (aU (fun _ d=>gR (v:=i64 m) rfl) (dU (fun e6 d1=>(aB (aO (aK (aF (v:=i64 m) (aD (cV rfl rfl) (aG ?_)))))))))
    rcases aH hm with ⟨b3,hm⟩|⟨b3,hm⟩
    ·exact eB
    ·refine aJ b3 rfl (aW (aB (aK (aF (v:=cC a10 h) (aF (v:=zS a19 j.length c20) (aF (v:=i64 y) (aF (v:=i64 m) ?_)))))));obtain ⟨n,d2,hm⟩:=aC hm
     refine aP (vs:=[cC a10 h,zS a19 j.length c20,i64 y,i64 m]) call94 rfl (aEL d2 d1 q a6 b7 b8) ?_
     rintro _ e7 ⟨u,x,rfl,e8⟩
     refine aE (v:=zS u n.length x) (aG (aK (aE (v:=zB false) (aG (aO (aK (aE (v:=i64 0) (aG (aX [0,1,2,3,4,5,6,15] (fun f w=>∃ b4,aCX k b4=some a8/\f 19=zB b4/\aI G K (L) w) eB ?_)))))))));obtain ⟨e9,d3,ho⟩:=aC hm
     refine cP [0,1,2,3,4,5,6,15,16,18] d3 (fun Z o f w=>f 19=zB Z/\f 20=i64 o/\aI G K (aN 4 K u x n::box l 66 [i64 c.F,i64 c.B,i64 c.To]::L) w) eB ?_
     ·rintro Z o b5 f f0 hm hr ⟨f1,d4,f2⟩
      unfold aAO at hm
      refine aO (aO (cH [0,1,2,3,4,5,6,15,16,18,19,20] (fun f w=>∃ a0,aAN p J c n Z o a0=some b5/\f 70=zB a0/\aI G K (aN 4 K u x n::box l 66 [i64 c.F,i64 c.B,i64 c.To]::L) w) ?_ ?_))
      ·rintro f f3 ⟨a0,hm,d5,f4⟩
       unfold aAN at hm
       refine aB ?_
       rcases aH hm with ⟨b6,hm⟩|⟨b6,hm⟩
       ·refine aL b6 d5 (aW (aB (aO (aX [0,1,2,3,4,5,6,15,16,18,20] (fun f w=>∃ a2,aAM o a2=some b5/\f 19=zB a2/\aI G K (aN 4 K u x n::box l 66 [i64 c.F,i64 c.B,i64 c.To]::L) w) ?_ ?_))))
        ·rintro f f5 ⟨a2,hm,d6,d7⟩
         unfold aAM at hm
         exact aB (aQ (bC d4 (aD (cL rfl rfl) (aE (v:=i64 (wr (o+1))) (aG ⟨_,(zI hm).symm,aM,d6,rfl,d7⟩)))))
        exact eB
       ·exact eB
      exact eB
  ·exact eB
theorem aDH {a:cB} {l:Nat} {b:cB} {m:Nat} {k:(List (List Int))} {R:Bool} (hm:wT a b k=some R) (e:aI G K (L) w) (n:dT K a1 l (zC a a4 c5 a7 c8)) (h6:bW K a4 c5 a.L) (h9:bW K a7 c8 a.E) (o:dT K a10 m (zC b a13 c14 a16 c17)) (a5:bW K a13 c14 b.L) (a6:bW K a16 c17 b.E) (p:bW K a19 c20 k):
  Calls prog 16 ([cC a1 l,cC a10 m,zS a19 k.length c20]:List Value).toArray w (eV fun v w'=>v=zB R/\aI G K (L) w'):=by
 refine aR func16 rfl (by kernel_rfl) (by show (3:Nat)<=82;decide) ?_;unfold wT at hm
 refine aK (aE (v:=zB false) (aG (aO (aO (cH [0,1,2] (fun f w=>∃ a8,nB a b k a8=some R/\f 33=zB a8/\aI G K (L) w) ?_ ?_)))))
 ·rintro f f5 ⟨a8,hm,c7,c9⟩
  unfold nB at hm
  refine aB ?_
  rcases aH hm with ⟨b5,hm⟩|⟨b5,hm⟩
  ·exact eB
  ·refine aJ b5 c7 (aW (aB (aK (aF (v:=cC a1 l) ?_))));obtain ⟨r,d0,hm⟩:=aC hm
   refine aP (vs:=[cC a1 l]) call46 rfl (aAj d0 c9 n h6 h9) ?_
   rintro _ f6 ⟨u,x,rfl,d1⟩
   refine aE (v:=zS u r.length x) (aG (aK (aF (v:=cC a10 m) ?_)));obtain ⟨y,d2,hm⟩:=aC hm
   refine aP (vs:=[cC a10 m]) call46 rfl (aAj d2 d1 o a5 a6) ?_
   rintro _ f7 ⟨z,J,rfl,f8⟩
   refine aE (v:=zS z y.length J) (aG (aO (aK (aE (v:=i64 0) (aG (aX [] (fun f w=>vM=some R/\aI G K (L) w) eB ?_))))));obtain ⟨f9,d3,ho⟩:=aC hm
   refine fA [0,1,2,7,8] d3 (fun a9 f w=>f 9=i64 a9/\aI G K (aN 4 K z J y::aN 4 K u x r::L) w) eB ?_
   ·rintro a9 d4 f g0 hm hr ⟨V,b6⟩
    unfold jA at hm
    refine aO (aK (bC V (aF (v:=zS a19 k.length c20) (aD (bX (len:=k.length) eL rfl) (aD (cV rfl rfl) (aG ?_))))))
    rcases aH hm with ⟨b0,hm⟩|⟨b0,hm⟩
    ·refine aL b0 rfl (aW (aB (aO (dA (aO (cH [0,1,2,7,8,9] (fun f w=>∃ b7,qZ a9 b7=some d4/\f 81=zB b7/\aI G K (aN 4 K z J y::aN 4 K u x r::L) w) eB ?_))))));obtain ⟨g1,h,d5,d6,b8⟩:=aI.lendSp b6 (Hp.le_refl _) .head
     obtain ⟨d7,i,d8,c,b9⟩:=aI.lendSp d6 h .head
     refine dR (C:=fun w'=>aI G d7 (L) w') Tryz_mixed (by kernel_rfl) (aI.mono c (dQ.drew _)) (aU (fun _ c=>aT (v:=cC a1 l) rfl) (aU (fun _ c=>aT (v:=cC a10 m) rfl) (aU (fun _ c=>aT (v:=zS z y.length J) rfl) (aU (fun _ c=>aT (v:=zS a19 k.length c20) rfl) (aU (fun _ c=>aT V) ?_)))));obtain ⟨g2,Z,hm⟩:=aC hm
     refine aU (fun _ c=>cO eL rfl (p.mono (zL h i)) rfl rfl rfl Z) ?_;obtain ⟨g3,a0,d9⟩:=bW.el (sz:=1) rfl p Z
     obtain ⟨g4,g5,rfl,q⟩:=d9
     refine aU (fun _ c=>bE (t:=0) vT c (a0.mono (zL h i)) rfl rfl) ?_;obtain ⟨c0,b1,hm⟩:=aC hm
     refine aU (fun _ c=>cO bV rfl (q.mono (zL h i)) rfl rfl rfl b1) ?_;obtain ⟨g6,c1,e0⟩:=bW.el (sz:=1) rfl q b1
     cases e0
     refine aU (fun _ c=>bE (t:=0) cE c (c1.mono (zL h i)) rfl rfl) (aU (fun _ c=>aT (v:=zS a19 k.length c20) rfl) (aU (fun _ c=>aT V) (aU (fun _ c=>cO eL rfl (p.mono (zL h i)) rfl rfl rfl Z) (aU (fun _ c=>bE (t:=0) vT c (a0.mono (zL h i)) rfl rfl) ?_))));obtain ⟨c2,b2,hm⟩:=aC hm
     refine aU (fun _ c=>cO bV rfl (q.mono (zL h i)) rfl rfl rfl b2) ?_;obtain ⟨g7,c3,e1⟩:=bW.el (sz:=1) rfl q b2
     cases e1
     refine aU (fun _ c=>bE (t:=0) cE c (c3.mono (zL h i)) rfl rfl) (aU (fun _ c=>aT (v:=zS a19 k.length c20) rfl) ?_);obtain ⟨c4,e2,hm⟩:=aC hm
     refine kN (vs:=[cC a1 l,cC a10 m,zS z y.length J,i64 c0,i64 c2,zS a19 k.length c20,zB false]) (v:=zB c4) call47 rfl (fun _ c=>(aFM e2 c (n.mono (zL h i)) (h6.mono (zL h i)) (h9.mono (zL h i)) (o.mono (zL h i)) (a5.mono (zL h i)) (a6.mono (zL h i)) (d5.mono i) (p.mono (zL h i)))) (aU (fun _ c=>eC rfl) (aU (fun _ c=>aT (v:=zB (!c4)) rfl) ?_))
     rcases aH hm with ⟨d,hm⟩|⟨d,hm⟩
     ·refine aV (g:=62) rfl rfl (bU d) (aV (g:=62) rfl rfl (bU d) (aV (g:=62) rfl rfl (bU d) (aV (g:=62) rfl rfl (bU d) (aV (g:=62) rfl rfl (bU d) (aV (g:=62) rfl rfl (bU d) (aV (g:=62) rfl rfl (bU d) (aV (g:=62) rfl rfl (bU d) (aV (g:=62) rfl rfl (bU d) (aV (g:=62) rfl rfl (bU d) (aV (g:=62) rfl rfl (bU d) (aV (g:=62) rfl rfl (bU d) (aV (g:=62) rfl rfl (bU d) (aV (g:=62) rfl rfl (bU d) (aV (g:=62) rfl rfl (bU d) (aV (g:=62) rfl rfl (bU d) (aV (g:=62) rfl rfl (bU d) (aV (g:=62) rfl rfl (bU d) (aU (fun _ c=>bJ (v:=zB true) d rfl rfl) (dU (fun g8 e3=>?_))))))))))))))))))))
      have e4:=b9 _ _ e3
      have e5:=b8 _ _ e4
      exact aB ⟨aM,true,hm,rfl,e5⟩
     ·refine bO (g:=62) rfl rfl (bY d) (aU (fun _ c=>aT (v:=cC a10 m) rfl) (bO (g:=62) rfl rfl (bY d) (aU (fun _ c=>aT (v:=cC a1 l) rfl) (bO (g:=62) rfl rfl (bY d) (aU (fun _ c=>aT (v:=zS u r.length x) rfl) (bO (g:=62) rfl rfl (bY d) (aU (fun _ c=>aT (v:=zS a19 k.length c20) rfl) (bO (g:=62) rfl rfl (bY d) (aU (fun _ c=>aT V) (bO (g:=62) rfl rfl (bY d) (aU (fun _ c=>cO eL rfl (p.mono (zL h i)) rfl rfl rfl Z) (bO (g:=62) rfl rfl (bY d) (aU (fun _ c=>bE (t:=0) vT c (a0.mono (zL h i)) rfl rfl) (bO (g:=62) rfl rfl (bY d) (aU (fun _ c=>cO bV rfl (q.mono (zL h i)) rfl rfl rfl b2) (bO (g:=62) rfl rfl (bY d) (aU (fun _ c=>bE (t:=0) cE c (c3.mono (zL h i)) rfl rfl) (bO (g:=62) rfl rfl (bY d) (aU (fun _ c=>aT (v:=zS a19 k.length c20) rfl) (bO (g:=62) rfl rfl (bY d) (aU (fun _ c=>aT V) (bO (g:=62) rfl rfl (bY d) (aU (fun _ c=>cO eL rfl (p.mono (zL h i)) rfl rfl rfl Z) ?_)))))))))))))))))))))))
      refine bO (g:=62) rfl rfl (bY d) (aU (fun _ c=>bE (t:=0) vT c (a0.mono (zL h i)) rfl rfl) (bO (g:=62) rfl rfl (bY d) (aU (fun _ c=>cO bV rfl (q.mono (zL h i)) rfl rfl rfl b1) (bO (g:=62) rfl rfl (bY d) (aU (fun _ c=>bE (t:=0) cE c (c1.mono (zL h i)) rfl rfl) (bO (g:=62) rfl rfl (bY d) (aU (fun _ c=>aT (v:=zS a19 k.length c20) rfl) (bO (g:=62) rfl rfl (bY d) ?_))))))));obtain ⟨b3,e6,hm⟩:=aC hm
      refine kN (vs:=[cC a10 m,cC a1 l,zS u r.length x,i64 c2,i64 c0,zS a19 k.length c20,zB true]) (v:=zB b3) call47 rfl (fun _ c=>(aFM e6 c (o.mono (zL h i)) (a5.mono (zL h i)) (a6.mono (zL h i)) (n.mono (zL h i)) (h6.mono (zL h i)) (h9.mono (zL h i)) d8 (p.mono (zL h i)))) (bO (g:=62) rfl rfl (bY d) (aU (fun _ c=>eC rfl) (aU (fun _ c=>bN (v:=zB (!b3)) d rfl rfl) (dU (fun g9 e7=>?_)))))
      have e8:=b9 _ _ e7
      have e9:=b8 _ _ e8
      exact aB ⟨aM,!b3,hm,rfl,e9⟩
    ·refine aJ b0 rfl (cJ (bB (bB ?_)))
     have f0:=hr _ (zI hm).symm
     subst f0
     have hm:(vM)=some R:=ho
     clear hr ho
     exact bP (aB ⟨aM,hm,(aI.arr 2 [] b6 rfl)⟩)
 refine dR (C:=fun w'=>aI G K (L) w') Tryz_mixed (by kernel_rfl) (aI.mono e (dQ.drew _)) (aU (fun _ e=>aT (v:=zS a19 k.length c20) rfl) (aU (fun _ e=>aT (v:=cC a1 l) rfl) (aU (fun _ e=>cA rfl n) (aU (fun _ e=>bS (k':=l+0) cT rfl n rfl) (aU (fun _ e=>bE (t:=0) cE e n rfl rfl) (aU (fun _ e=>aT (v:=cC a10 m) rfl) (aU (fun _ e=>cA rfl o) (aU (fun _ e=>bS (k':=m+0) cT rfl o rfl) (aU (fun _ e=>bE (t:=0) cE e o rfl rfl) ?_)))))))))
 obtain ⟨c6,f1,hm⟩:=aC hm
 refine kN (vs:=[zS a19 k.length c20,i64 a.N,i64 b.N]) (v:=zB c6) call44 rfl (fun _ e=>(aHc f1 e p)) (aU (fun _ e=>eC rfl) (aU (fun _ e=>aT (v:=zB (!c6)) rfl) ?_))
 rcases aH hm with ⟨j,hm⟩|⟨j,hm⟩
 ·exact aV (g:=21) rfl rfl (bU j) (aV (g:=21) rfl rfl (bU j) (aV (g:=21) rfl rfl (bU j) (aV (g:=21) rfl rfl (bU j) (aV (g:=21) rfl rfl (bU j) (aV (g:=21) rfl rfl (bU j) (aV (g:=21) rfl rfl (bU j) (aV (g:=21) rfl rfl (bU j) (aV (g:=21) rfl rfl (bU j) (aV (g:=21) rfl rfl (bU j) (aV (g:=21) rfl rfl (bU j) (aU (fun _ e=>bJ (v:=zB true) j rfl rfl) (dU (fun h0 f2=>(aB ⟨aM,true,hm,rfl,f2⟩))))))))))))))
 ·refine bO (g:=21) rfl rfl (bY j) (aU (fun _ e=>aT (v:=zS a19 k.length c20) rfl) (bO (g:=21) rfl rfl (bY j) (aU (fun _ e=>aT (v:=cC a1 l) rfl) (bO (g:=21) rfl rfl (bY j) (aU (fun _ e=>cA rfl n) (bO (g:=21) rfl rfl (bY j) (aU (fun _ e=>bS (k':=l+1) oC rfl n rfl) (bO (g:=21) rfl rfl (bY j) (aU (fun _ e=>bE (t:=1) cE e n rfl rfl) (bO (g:=21) rfl rfl (bY j) (aU (fun _ e=>aT (v:=cC a10 m) rfl) (bO (g:=21) rfl rfl (bY j) (aU (fun _ e=>cA rfl o) (bO (g:=21) rfl rfl (bY j) (aU (fun _ e=>bS (k':=m+1) oC rfl o rfl) (bO (g:=21) rfl rfl (bY j) (aU (fun _ e=>bE (t:=1) cE e o rfl rfl) (bO (g:=21) rfl rfl (bY j) ?_))))))))))))))))))
  obtain ⟨b4,f3,hm⟩:=aC hm
  exact kN (vs:=[zS a19 k.length c20,i64 a.I,i64 b.I]) (v:=zB b4) call45 rfl (fun _ e=>(vQ f3 e p)) (bO (g:=21) rfl rfl (bY j) (aU (fun _ e=>eC rfl) (aU (fun _ e=>bN (v:=zB (!b4)) j rfl rfl) (dU (fun h1 f4=>(aB ⟨aM,!b4,hm,rfl,f4⟩))))))
theorem aKj {a b:cB} {d:(List (List Int))} {R:Bool} (hm:aCe a b d=some R) (t:aI G K (L) w) (i:bW K a1 c2 a.L) (j:bW K a4 c5 a.E) (k:bW K a7 c8 b.L) (l:bW K a10 c11 b.E) (u:bW K a13 c14 d):
  Calls prog 7 ([zA (zCa a a1 c2 a4 c5),zA (zCa b a7 c8 a10 c11),zS a13 d.length c14]:List Value).toArray w (eV fun v w'=>v=zB R/\aI G K (L) w'):=by
 refine aR func7 rfl (by kernel_rfl) (by show (3:Nat)<=15;decide) ?_;unfold aCe at hm
 refine aK (fO (v:=zA (zCa a a1 c2 a4 c5)) (vs:=(zC a a1 c2 a4 c5)) t rfl rfl (fun m b7 x=>(fO (v:=zA (zCa b a7 c8 a10 c11)) (vs:=(zC b a7 c8 a10 c11)) x rfl rfl (fun n b8 y=>(aE (v:=zB false) (aG (aO (cH [] (fun f w=>∃ o,zO o=some R/\f 6=zB o/\aI G K (L) w) eB (aQ ?_)))))))));obtain ⟨b9,p,z,J,V⟩:=aI.lendBp y zt1
 obtain ⟨Z,a0,hm⟩:=aC hm
 refine aP (vs:=[cC (some ⟨m,0,none⟩) 0]) call15 rfl (lB a0 J z (i.mono p) (j.mono p)) ?_
 rintro _ c0 ⟨rfl,a2⟩
 have a3:=V _ _ a2
 refine aF (v:=zB Z) ?_
 rcases aH hm with ⟨h,hm⟩|⟨h,hm⟩
 ·refine bK h rfl rfl ?_;obtain ⟨c1,q,a5,a6,a8⟩:=aI.lendBp a3 zt1
  obtain ⟨r,a9,hm⟩:=aC hm
  refine aP (vs:=[cC (some ⟨n,0,none⟩) 0]) call15 rfl (lB a9 a6 a5 (k.mono q) (l.mono q)) ?_
  rintro _ c3 ⟨rfl,b0⟩
  have b1:=a8 _ _ b0
  refine aD (bJ (v:=zB r) h rfl rfl) (aF (v:=zB r) ?_)
  rcases aH hm with ⟨c48,hm⟩|⟨c48,hm⟩
  ·refine bK c48 rfl rfl (aF (v:=zS a13 d.length c14) (bK c48 rfl rfl ?_));obtain ⟨c4,e,b2,b3,c6⟩:=aI.lendBp b1 zt1
   obtain ⟨c7,c,b4,b5,c9⟩:=aI.lendBp b3 .head
   obtain ⟨d0,b6,hm⟩:=aC hm
   exact aP (vs:=[cC (some ⟨m,0,none⟩) 0,cC (some ⟨n,0,none⟩) 0,zS a13 d.length c14]) call16 rfl (aDH b6 b5 (b2.mono c) (i.mono (zL e c)) (j.mono (zL e c)) b4 (k.mono (zL e c)) (l.mono (zL e c)) (u.mono (zL e c))) eB
  ·exact eB
 ·exact eB
theorem aDI {a R:aY} (hm:tC a=some R) (b:aI G K (L) w):
  Calls prog 125 ([str a]:List Value).toArray w (eV fun v w'=>v=str R/\aI G K (L) w'):=by
 exact eB
theorem aHd {kind R:Int} (hm:tR kind=some R) (e:aI G K (L) w):
  Calls prog 96 ([i64 kind]:List Value).toArray w (eV fun v w'=>v=i64 R/\aI G K (L) w'):=by
 refine aR func96 rfl (by kernel_rfl) (by show (1:Nat)<=11;decide) ?_;unfold tR at hm
 refine aK (aE (v:=i64 0) (aG (aO (aK (aF (v:=i64 kind) (aG (dA (iQ [3] (fun f w=>∃ a,oK kind a=some R/\f 4=zB a/\aI G K (L) w) ?_ ?_))))))))
 ·rintro f g ⟨a,hm,d,h⟩
  unfold oK at hm
  rcases aH hm with ⟨b,hm⟩|⟨b,hm⟩
  ·exact eB
  ·exact aJ b d (iQ [] (fun f w=>∃ c,vA c=some R/\f 8=zB c/\aI G K (L) w) eB eB)
 exact eB
theorem aBR {b:(List UInt8)} {d e:Int} {c:(List aY)} {R:(aY × Int × Int)} (hm:tD b d e c=some R) (l:aI G K (box b1 56 [zS a2 b.length c3,i64 d,Value.int .u64 e]::L) w) (g:bW K a2 c3 b) (m:bW K a5 c6 c):
  Calls prog 95 ([zP (some ⟨b1,0,none⟩),zS a5 c.length c6]:List Value).toArray w (eV fun v w'=>v=str R.1/\aI G K (box b1 56 [zS a2 b.length c3,i64 R.2.1,Value.int .u64 R.2.2]::L) w'):=by
 refine aR func95 rfl (by kernel_rfl) (by show (2:Nat)<=26;decide) ?_;unfold tD at hm
 refine aK (aE (v:=str ([]:aY)) (aG (aK (aF (v:=zP (some ⟨b1,0,none⟩)) (aF (v:=zS a5 c.length c6) ?_)))));obtain ⟨h,n,hm⟩:=aC hm
 refine aP (vs:=[zP (some ⟨b1,0,none⟩),zS a5 c.length c6]) call72 rfl (pQ n l g m) ?_
 rintro _ x ⟨rfl,o⟩
 refine aE (v:=str h.1) (aG (aO (aK (aF (v:=zP (some ⟨b1,0,none⟩)) ?_))));obtain ⟨a,p,hm⟩:=aC hm
 refine aP (vs:=[zP (some ⟨b1,0,none⟩),i64 8]) call23 rfl (bQ p o g) ?_
 rintro _ y ⟨rfl,q⟩
 refine aG (aX [5] (fun f w=>nZ h a=some R/\aI G K (box b1 56 [zS a2 b.length c3,i64 a.2.1,Value.int .u64 a.2.2]::L) w) eB (aK (aD (dM rfl rfl) (aE (v:=zB (a.1 == 0)) (aG ?_)))))
 rcases aH hm with ⟨i,hm⟩|⟨i,hm⟩
 ·exact eB
 ·refine aJ i rfl (aK (aD (dM rfl rfl) (aE (v:=zB (a.1 == 1)) (aG ?_))))
  rcases aH hm with ⟨j,hm⟩|⟨j,hm⟩
  ·exact eB
  ·refine aJ j rfl (aK (aD (dM rfl rfl) (aE (v:=zB (a.1 == 2)) (aG ?_))))
   rcases aH hm with ⟨k,hm⟩|⟨k,hm⟩
   ·refine aL k rfl (aK (aF (v:=zP (some ⟨b1,0,none⟩)) (bT (Kt:=K) (xs:=([([]:aY),([116,97,117]:aY),([97,42]:aY),([98]:aY),([99,40,49,41]:aY),([115,101,110,100,40,49,44,50,41]:aY),([122,122]:aY)]:List aY)) (cs:=[str ([]:aY),str ([116,97,117]:aY),str ([97,42]:aY),str ([98]:aY),str ([99,40,49,41]:aY),str ([115,101,110,100,40,49,44,50,41]:aY),str ([122,122]:aY)]) (vs:=[(0,str ([]:aY)),(1,str ([116,97,117]:aY)),(2,str ([97,42]:aY)),(3,str ([98]:aY)),(4,str ([99,40,49,41]:aY)),(5,str ([115,101,110,100,40,49,44,50,41]:aY)),(6,str ([122,122]:aY))]) dE oM rfl rfl q rfl (by kernel_rfl) rfl rfl rfl ⟨rfl,rfl,rfl,rfl,rfl,rfl,rfl,trivial⟩ (fun r t (u:aI G K (aN 9 K r 7 ([([]:aY),([116,97,117]:aY),([97,42]:aY),([98]:aY),([99,40,49,41]:aY),([115,101,110,100,40,49,44,50,41]:aY),([122,122]:aY)]:List aY)::box b1 56 [zS a2 b.length c3,i64 a.2.1,Value.int .u64 a.2.2]::L) t)=>?_))))
    obtain ⟨z,J,V,Z,a0⟩:=aI.lendSp u (Hp.le_refl _) .head
    exact eB
   ·exact eB
theorem aDd {rec_:(List UInt8)->Int->Int->(List aY)->Int->Option ((List dD) × Int × Int)} (ih:∀ {G:uK} {K:Hp} {L:List gQ} {w:World} {b1:Nat} {a:(List UInt8)} {a2:Option Addr} {c3:Nat} {h:Int} {j:Int} {c:(List aY)} {a5:Option Addr} {c6:Nat} {d:Int} {R:((List dD) × Int × Int)} (hm:rec_ a h j c d=some R) (V:aI G K (box b1 56 [zS a2 a.length c3,i64 h,Value.int .u64 j]::L) w) (x:bW K a2 c3 a) (Z:bW K a5 c6 c),
  Calls prog 48 ([zP (some ⟨b1,0,none⟩),zS a5 c.length c6,i64 d]:List Value).toArray w (eV fun v w'=>∃ m n,v=zS m R.1.length n/\aI G K (aN 93 K m n R.1::box b1 56 [zS a2 a.length c3,i64 R.2.1,Value.int .u64 R.2.2]::L) w'))
  {G:uK} {K:Hp} {L:List gQ} {w:World} {b1:Nat} {a:(List UInt8)} {a2:Option Addr} {c3:Nat} {h:Int} {j:Int} {c:(List aY)} {a5:Option Addr} {c6:Nat} {d:Int} {R:((List dD) × Int × Int)} (hm:nT rec_ a h j c d=some R) (V:aI G K (box b1 56 [zS a2 a.length c3,i64 h,Value.int .u64 j]::L) w) (x:bW K a2 c3 a) (Z:bW K a5 c6 c):
  Calls prog 48 ([zP (some ⟨b1,0,none⟩),zS a5 c.length c6,i64 d]:List Value).toArray w (eV fun v w'=>∃ m n,v=zS m R.1.length n/\aI G K (aN 93 K m n R.1::box b1 56 [zS a2 a.length c3,i64 R.2.1,Value.int .u64 R.2.2]::L) w'):=by
 refine aR func48 rfl (by kernel_rfl) (by show (3:Nat)<=49;decide) ?_;unfold nT at hm
 refine aK (aE (v:=zS none 0 0) (aG (aK (aF (v:=zP (some ⟨b1,0,none⟩)) (bT (Kt:=K) (xs:=([0,1,2,3,4,4,5,5]:List Int)) (cs:=[i64 0,i64 1,i64 2,i64 3,i64 4,i64 4,i64 5,i64 5]) (vs:=[(0,i64 0),(1,i64 1),(2,i64 2),(3,i64 3),(4,i64 4),(5,i64 4),(6,i64 5),(7,i64 5)]) bV iD rfl rfl V rfl (by kernel_rfl) rfl rfl rfl ⟨rfl,rfl,rfl,rfl,rfl,rfl,rfl,rfl,trivial⟩ (fun a8 w9 (b6:aI G K (aN 2 K a8 8 ([0,1,2,3,4,4,5,5]:List Int)::box b1 56 [zS a2 a.length c3,i64 h,Value.int .u64 j]::L) w9)=>?_))))))
 obtain ⟨e0,b7,b8,b9,c0⟩:=aI.lendSp b6 (Hp.le_refl _) .head
 obtain ⟨c1,c2,hm⟩:=aC hm
 refine aP (vs:=[zP (some ⟨b1,0,none⟩),zS a8 ([0,1,2,3,4,4,5,5]:List Int).length 8]) call71 rfl (iW c2 b9 (x.mono b7) b8) ?_
 rintro _ e1 ⟨rfl,c4⟩
 have e2:=c0 _ _ c4
 refine aE (v:=i64 c1.1) (aG (iQ [0,1,2] (fun f w=>∃ k l b,oU rec_ a c d k l b=some R/\f 7=i64 b/\aI G K (box b1 56 [zS a2 a.length c3,i64 k,Value.int .u64 l]::L) w) ?_ ?_))
 ·rintro f e3 ⟨k,l,b,hm,a1,c5⟩
  unfold oU at hm
  refine aK (bC a1 (aD (gW (vs:=[(0,i64 b)]) (cs:=[i64 b,i64 0,str ([]:aY),zB false]) bs_93 rfl (by kernel_rfl)) (cI (vs:=[i64 0,i64 0,str ([]:aY),zB false]) zeroValue93 c5 rfl (fun o e4 c7=>(cG (i:=0) (ns:=[i64 b,i64 0,str ([]:aY),zB false]) (us:=[i64 b,i64 0,str ([]:aY),zB false]) sizeOf93 c7 rfl rfl rfl rfl rfl (dN rfl) rfl rfl (fun c8 (e5:aI G K (box o 93 [i64 b,i64 0,str ([]:aY),zB false]::box b1 56 [zS a2 a.length c3,i64 k,Value.int .u64 l]::L) c8)=>(aG (iQ [0,1,2,7,8] (fun f w=>∃ p q e g,oT rec_ a c d b p q e g=some R/\aI G K (box o 93 [i64 b,i64 0,str e,zB g]::box b1 56 [zS a2 a.length c3,i64 p,Value.int .u64 q]::L) w) ?_ ?_))))))))
  ·rintro f e6 ⟨p,q,e,g,hm,a3⟩
   unfold oT at hm
   refine aK (aD (eJ (us:=[i64 b,i64 0,str e,zB g]) aGR a3 (i:=0) rfl rfl rfl rfl) (bT (Kt:=K) (xs:=([⟨b,0,e,g⟩]:List dD)) (cs:=[i64 b,i64 0,str e,zB g]) (vs:=[(0,zA #[i64 b,i64 0,str e,zB g])]) aHr ez_93 rfl rfl a3 rfl (by kernel_rfl) rfl rfl rfl ⟨rfl,trivial⟩ (fun a4 c9 (d0:aI G K (aN 93 K a4 1 ([⟨b,0,e,g⟩]:List dD)::box o 93 [i64 b,i64 0,str e,zB g]::box b1 56 [zS a2 a.length c3,i64 p,Value.int .u64 q]::L) c9)=>(aE (v:=zS a4 ([⟨b,0,e,g⟩]:List dD).length 1) (aG (aO (aK (bC a1 ?_))))))))
   obtain ⟨d1,d2,hm⟩:=aC hm
   refine aP (vs:=[i64 b]) call96 rfl (aHd d2 d0) ?_
   rintro _ e7 ⟨rfl,e8⟩
   refine aE (v:=i64 d1) (aG (aX [] (fun f w=>∃ y a6 a7 a9 c48,xZ y a6 a7=some R/\f 9=zS a9 y.length c48/\aI G K (aN 93 K a9 c48 y::box b1 56 [zS a2 a.length c3,i64 a6,Value.int .u64 a7]::L) w) eB ?_));obtain ⟨e9,d3,ho⟩:=aC hm
   refine tZ [0,1,2] d3 (fun z J r b0 f w=>∃ t u,f 9=zS t r.length u/\f 10=i64 b0/\aI G K (aN 93 K t u r::box b1 56 [zS a2 a.length c3,i64 z,Value.int .u64 J]::L) w) eB ?_
   ·rintro z J r b0 f0 f d4 hm hr ⟨t,u,d5,d6,d7⟩
    unfold kF at hm
    refine aO (aK (bC d6 (aD (jU rfl rfl) (aG ?_))))
    rcases aH hm with ⟨b2,hm⟩|⟨b2,hm⟩
    ·refine aL b2 rfl (aW (aB (aO (dA (aQ (bC d5 (aF (v:=zP (some ⟨b1,0,none⟩)) (aF (v:=zS a5 c.length c6) (aF (v:=i64 d) (aD (kT rfl rfl) ?_))))))))))
     have d8:aI G K (box b1 56 [zS a2 a.length c3,i64 z,Value.int .u64 J]::aN 93 K t u r::L) d4:=(aI.arr 2 [1,0] d7 rfl)
     obtain ⟨f1,d9,hm⟩:=aC hm
     exact aP (vs:=[zP (some ⟨b1,0,none⟩),zS a5 c.length c6,i64 (wr (d - 1))]) call48 rfl (ih d9 d8 x Z) eB
    ·exact eB
  exact aO (cH [0,1,2,7,8] (fun f w=>∃ b3,kG rec_ a c d k l b b3=some R/\f 25=zB b3/\aI G K (box o 93 [i64 b,i64 0,str ([]:aY),zB false]::box b1 56 [zS a2 a.length c3,i64 k,Value.int .u64 l]::L) w) eB eB)
 exact eB
theorem aDe (n:Nat):∀ {G:uK} {K:Hp} {L:List gQ} {w:World} {b1:Nat} {a:(List UInt8)} {a2:Option Addr} {c3:Nat} {g:Int} {h:Int} {b:(List aY)} {a5:Option Addr} {c6:Nat} {i:Int} {R:((List dD) × Int × Int)} (hm:gU n a g h b i=some R) (c:aI G K (box b1 56 [zS a2 a.length c3,i64 g,Value.int .u64 h]::L) w) (d:bW K a2 c3 a) (e:bW K a5 c6 b),
  Calls prog 48 ([zP (some ⟨b1,0,none⟩),zS a5 b.length c6,i64 i]:List Value).toArray w (eV fun v w'=>∃ j k,v=zS j R.1.length k/\aI G K (aN 93 K j k R.1::box b1 56 [zS a2 a.length c3,i64 R.2.1,Value.int .u64 R.2.2]::L) w'):=by
 induction n with
 |zero=>
  intro G K L w b1 a a2 c3 g h b a5 c6 i R hm c d e
  unfold gU at hm
  cases hm
 |succ n ih=>
  intro G K L w b1 a a2 c3 g h b a5 c6 i R hm c d e
  exact aDd (rec_:=gU n) (fun hm c d e=>ih hm c d e) hm c d e
theorem aES {s0_:(List UInt8)} {s1_ s2_:Int} {labels:(List aY)} {deep:Int} {R:((List dD) × Int × Int)} (hm:aFH s0_ s1_ s2_ labels deep=some R) (hs:aI G K (box b1 56 [zS a2 s0_.length c3,i64 s1_,Value.int .u64 s2_]::L) w) (h4:bW K a2 c3 s0_) (h7:bW K a5 c6 labels):
  Calls prog 48 ([zP (some ⟨b1,0,none⟩),zS a5 labels.length c6,i64 deep]:List Value).toArray w (eV fun v w'=>∃ ra0 rc0,v=zS ra0 R.1.length rc0/\aI G K (aN 93 K ra0 rc0 R.1::box b1 56 [zS a2 s0_.length c3,i64 R.2.1,Value.int .u64 R.2.2]::L) w'):=aDe 100000 hm hs h4 h7
theorem aGo {a:(List UInt8)} {c d:Int} {b:(List aY)} {R:((List dD) × Int × Int)} (hm:aFn a c d b=some R) (h:aI G K (box b1 56 [zS a2 a.length c3,i64 c,Value.int .u64 d]::L) w) (i:bW K a2 c3 a) (j:bW K a5 c6 b):
  Calls prog 17 ([zP (some ⟨b1,0,none⟩),zS a5 b.length c6]:List Value).toArray w (eV fun v w'=>∃ e g,v=zS e R.1.length g/\aI G K (aN 93 K e g R.1::box b1 56 [zS a2 a.length c3,i64 R.2.1,Value.int .u64 R.2.2]::L) w'):=by
 exact eB
theorem aHe {a:(List UInt8)} {t:cB} {R:(List dD)} (hm:aCf a t=some R) (d:aI G K (L) w) (e:bW K a1 c2 a) (g:bW K a4 c5 t.L) (h:bW K a7 c8 t.E):
  Calls prog 8 ([zS a1 a.length c2,zA (zCa t a4 c5 a7 c8)]:List Value).toArray w (eV fun v w'=>∃ b c,v=zS b R.length c/\aI G K (aN 93 K b c R::L) w'):=by
 exact eB
theorem wY {n:dD} {R:Int} (hm:lO n=some R) (d:aI G K (L) w):
  Calls prog 102 ([zA #[i64 n.Kind,i64 n.Variable,str n.B,zB n.Not]]:List Value).toArray w (eV fun v w'=>v=i64 R/\aI G K (L) w'):=by
 refine aR func102 rfl (by kernel_rfl) (by show (1:Nat)<=13;decide) ?_;unfold lO at hm
 refine aK (fO (v:=zA #[i64 n.Kind,i64 n.Variable,str n.B,zB n.Not]) (vs:=[i64 n.Kind,i64 n.Variable,str n.B,zB n.Not]) d rfl rfl (fun h j e=>(aE (v:=i64 0) (aG (aO (aK (aD (bH (t':=0) aCo rfl rfl) (aD (cR cE e (i:=0) rfl rfl rfl) (aG (dA (iQ [4] (fun f w=>∃ a,pG n a=some R/\f 5=zB a/\aI G K (L) w) ?_ ?_)))))))))))
 ·rintro f k ⟨a,hm,g,l⟩
  unfold pG at hm
  rcases aH hm with ⟨b,hm⟩|⟨b,hm⟩
  ·exact eB
  ·exact aJ b g (iQ [] (fun f w=>∃ c,jP c=some R/\f 8=zB c/\aI G K (L) w) eB eB)
 exact eB
end Gv
namespace Gv
open Gv.Hp renaming le_refl→zR
open Go.Value renaming slice→zS,bool→zB,pointer→zP,agg→zA,tuple→zT
open Option.some renaming inj→zI
open Gv.Hp renaming le_trans→zL
open Go Go.Proofs Go.Proofs.Tryz
set_option maxRecDepth 20000
set_option maxHeartbeats 40000000
variable {G:uK} {K:Hp} {L:List gQ} {w:World} {a1 a4 a7 a10 a3 a6:Option Addr} {c2 c5 c8 c11 c4 c7:Nat}
theorem aHN {a:(List dD)} {R:Bool} (hm:aGe a=some R) (g:aI G K (L) w) (h:bW K a1 c2 a):
  Calls prog 97 ([zS a1 a.length c2]:List Value).toArray w (eV fun v w'=>v=zB R/\aI G K (L) w'):=by
 refine aR func97 rfl (by kernel_rfl) (by show (1:Nat)<=22;decide) ?_;unfold aGe at hm
 refine aK (aE (v:=zB false) (aG (aK (aE (v:=i64 1) (aG (aO (aK (aF (v:=zS a1 a.length c2) (aD (bX (len:=a.length) aHr rfl) (aF (v:=i64 0) (aG (aX [] (fun f w=>∃ b,aDY b=some R/\f 3=i64 b/\aI G K (L) w) eB ?_))))))))))));obtain ⟨i,c,ho⟩:=aC hm
 exact cP [6,7] c (fun d e f w=>f 3=i64 d/\f 8=i64 e/\aI G K (L) w) eB eB
theorem tW {n:dD} {R:Bool} (hm:nC n=some R) (b:aI G K (L) w):
  Calls prog 52 ([zA #[i64 n.Kind,i64 n.Variable,str n.B,zB n.Not]]:List Value).toArray w (eV fun v w'=>v=zB R/\aI G K (L) w'):=by
 refine aR func52 rfl (by kernel_rfl) (by show (1:Nat)<=11;decide) ?_;unfold nC at hm
 exact aK (fO (v:=zA #[i64 n.Kind,i64 n.Variable,str n.B,zB n.Not]) (vs:=[i64 n.Kind,i64 n.Variable,str n.B,zB n.Not]) b rfl rfl (fun c d e=>(aE (v:=zB false) (aG (aO (cH [] (fun f w=>∃ a,mS a=some R/\f 2=zB a/\aI G K (L) w) eB eB))))))
theorem nE {a b:aY} {R:(aY × Bool)} (hm:hY a b=some R) (c:aI G K (L) w):
  Calls prog 152 ([str a,str b]:List Value).toArray w (eV fun v w'=>v=zT #[str R.1,zB R.2]/\aI G K (L) w'):=by
 exact eB
theorem rS {a b:aY} {R:(aY × Bool)} (hm:lG a b=some R) (c:aI G K (L) w):
  Calls prog 128 ([str a,str b]:List Value).toArray w (eV fun v w'=>v=zT #[str R.1,zB R.2]/\aI G K (L) w'):=by
 exact eB
theorem aGp {a:aY} {R:Bool} (hm:aAP a=some R) (d:aI G K (L) w) (g:G.lo=0):
  Calls prog 127 ([str a]:List Value).toArray w (eV fun v w'=>v=zB R/\aI G K (L) w'):=by
 refine aR func127 rfl (by kernel_rfl) (by show (1:Nat)<=23;decide) ?_;unfold aAP at hm
 refine aK (aE (v:=zB false) (aG (aK (aF (v:=str a) ?_))));obtain ⟨b,e,hm⟩:=aC hm
 refine aP (vs:=[str a,str ([42]:aY)]) call128 rfl (rS e d) ?_
 rintro _ h ⟨rfl,i⟩
 exact aF (v:=zT #[str b.1,zB b.2]) (aD (dC rfl rfl) (aD (dC rfl rfl) (aE (v:=str b.1) (aE (v:=zB b.2) (aG (aO (cH [] (fun f w=>∃ c,pH c=some R/\f 2=zB c/\aI G K (L) w) eB eB)))))))
theorem aDf {n:dD} {R:Bool} (hm:qH n=some R) (e:aI G K (L) w) (h:G.lo=0):
  Calls prog 100 ([zA #[i64 n.Kind,i64 n.Variable,str n.B,zB n.Not]]:List Value).toArray w (eV fun v w'=>v=zB R/\aI G K (L) w'):=by
 let a:=[i64 n.Kind,i64 n.Variable,str n.B,zB n.Not]
 refine aR func100 rfl (by kernel_rfl) (by show (1:Nat)<=16;decide) ?_;unfold qH at hm
 refine aK (fO (v:=zA #[i64 n.Kind,i64 n.Variable,str n.B,zB n.Not]) (vs:=a) e rfl rfl (fun j k b=>(aE (v:=zB false) (aG (aO (aK (aD (eJ (us:=a) aGR b (i:=0) rfl rfl rfl rfl) ?_)))))));obtain ⟨l,g,hm⟩:=aC hm
 refine aP (vs:=[zA #[i64 n.Kind,i64 n.Variable,str n.B,zB n.Not]]) call52 rfl (tW g b) ?_
 rintro _ m ⟨rfl,o⟩
 refine aG ?_
 rcases aH hm with ⟨c,hm⟩|⟨c,hm⟩
 ·exact eB
 ·exact aJ c rfl (aW (aB (aO (cH [] (fun f w=>∃ d,mD d=some R/\f 2=zB d/\aI G K (L) w) eB eB))))
theorem aDg {n:dD} {R:Bool} (hm:nU n=some R) (b:aI G K (L) w) (c:G.lo=0):
  Calls prog 99 ([zA #[i64 n.Kind,i64 n.Variable,str n.B,zB n.Not]]:List Value).toArray w (eV fun v w'=>v=zB R/\aI G K (L) w'):=by
 refine aR func99 rfl (by kernel_rfl) (by show (1:Nat)<=17;decide) ?_;unfold nU at hm
 exact aK (fO (v:=zA #[i64 n.Kind,i64 n.Variable,str n.B,zB n.Not]) (vs:=[i64 n.Kind,i64 n.Variable,str n.B,zB n.Not]) b rfl rfl (fun d e g=>(aE (v:=zB false) (aG (aO (cH [] (fun f w=>∃ a,iJ a=some R/\f 2=zB a/\aI G K (L) w) eB eB))))))
theorem jD {b:(List dD)} {R:Int} (hm:eY b=some R) (o:aI G K (L) w) (j:G.lo=0) (d:bW K a1 c2 b):
  Calls prog 126 ([zS a1 b.length c2,Value.func (.func 99) #[] #[]]:List Value).toArray w (eV fun v w'=>v=i64 R/\aI G K (L) w'):=by
 refine aR func126 rfl (by kernel_rfl) (by show (2:Nat)<=19;decide) ?_;unfold eY at hm
 refine aK (aE (v:=i64 0) (aG (aO (aK (aF (v:=zS a1 b.length c2) (aD (bX (len:=b.length) aHr rfl) (aF (v:=i64 0) (aG (aX [] (fun f w=>eP=some R/\aI G K (L) w) eB ?_)))))))));obtain ⟨p,k,ho⟩:=aC hm
 refine fA [0,1,7] k (fun c f w=>f 8=i64 c/\aI G K (L) w) eB ?_
 ·rintro c q f r hm hr ⟨e,g⟩
  unfold cX at hm
  refine aK (aD (cV e rfl) (aG (aO ?_)))
  rcases aH hm with ⟨h,hm⟩|⟨h,hm⟩
  ·refine aL h rfl (aW (aB (aO (dA (aK (bC e (aE (v:=i64 c) (aG (aK (aF (v:=Value.func (.func 99) #[] #[]) (aF (v:=zS a1 b.length c2) (aF (v:=i64 c) ?_))))))))))));obtain ⟨a,i,hm⟩:=aC hm
   refine aD (cO aHr rfl d rfl rfl rfl i) ?_;obtain ⟨u,l,m⟩:=bW.el (sz:=4) rfl d i
   cases m
   refine aD (gC (t:=0) (vs:=[i64 a.Kind,i64 a.Variable,str a.B,zB a.Not]) aGR g l rfl rfl rfl) ?_;obtain ⟨x,n,hm⟩:=aC hm
   exact vS (vs:=[zA #[i64 a.Kind,i64 a.Variable,str a.B,zB a.Not]]) (caps:=[]) (us:=[zA #[i64 a.Kind,i64 a.Variable,str a.B,zB a.Not]]) rfl call99 rfl rfl (aDg n g j) eB
  ·exact eB
theorem iP {a:(List dD)} {R:Bool} (hm:eQ a=some R) (b:aI G K (L) w) (c:G.lo=0) (d:bW K a1 c2 a):
  Calls prog 98 ([zS a1 a.length c2,Value.func (.func 99) #[] #[]]:List Value).toArray w (eV fun v w'=>v=zB R/\aI G K (L) w'):=by
 exact eB
theorem aFv {a:(List dD)} {R:Bool} (hm:aBy a=some R) (c:aI G K (L) w) (d:G.lo=0) (e:bW K a1 c2 a):
  Calls prog 49 ([zS a1 a.length c2]:List Value).toArray w (eV fun v w'=>v=zB R/\aI G K (L) w'):=by
 refine aR func49 rfl (by kernel_rfl) (by show (1:Nat)<=15;decide) ?_;unfold aBy at hm
 exact aK (aE (v:=zB false) (aG (aO (aO (cH [0] (fun f w=>∃ b,uG a b=some R/\f 11=zB b/\aI G K (L) w) eB eB)))))
theorem aDh {k:Int} {p:cB} {a:Nat} {R:Bool} (hm:aAg k p=some R) (b:aI G K (L) w) (c:dT K a1 a (zC p a4 c5 a7 c8)) (d:bW K a4 c5 p.L) (e:bW K a7 c8 p.E):
  Calls prog 101 ([i64 k,cC a1 a]:List Value).toArray w (eV fun v w'=>v=zB R/\aI G K (L) w'):=by
 exact eB
theorem lR {b:(List Int)} {a:cB} {c:Nat} {R:Int} (hm:gB b a=some R) (u:aI G K (L) w) (e:bW K a1 c2 b) (l:dT K a4 c (zC a a7 c8 a10 c11)) (m:bW K a7 c8 a.L) (n:bW K a10 c11 a.E):
  Calls prog 88 ([zS a1 b.length c2,Value.func (.func 101) #[] #[cC a4 c]]:List Value).toArray w (eV fun v w'=>v=i64 R/\aI G K (L) w'):=by
 refine aR func88 rfl (by kernel_rfl) (by show (2:Nat)<=19;decide) ?_;unfold gB at hm
 refine aK (aE (v:=i64 0) (aG (aO (aK (aF (v:=zS a1 b.length c2) (aD (bX (len:=b.length) bV rfl) (aF (v:=i64 0) (aG (aX [] (fun f w=>fM=some R/\aI G K (L) w) eB ?_)))))))));obtain ⟨x,o,ho⟩:=aC hm
 refine fA [0,1,7] o (fun d f w=>f 8=i64 d/\aI G K (L) w) eB ?_
 ·rintro d y f z hm hr ⟨g,h⟩
  unfold fN at hm
  refine aK (aD (cV g rfl) (aG (aO ?_)))
  rcases aH hm with ⟨i,hm⟩|⟨i,hm⟩
  ·refine aL i rfl (aW (aB (aO (dA (aK (bC g (aE (v:=i64 d) (aG (aK (aF (v:=Value.func (.func 101) #[] #[cC a4 c]) (aF (v:=zS a1 b.length c2) (aF (v:=i64 d) ?_))))))))))));obtain ⟨j,k,hm⟩:=aC hm
   refine aD (cO bV rfl e rfl rfl rfl k) ?_;obtain ⟨J,p,q⟩:=bW.el (sz:=1) rfl e k
   cases q
   refine aD (bE (t:=0) cE h p rfl rfl) ?_;obtain ⟨V,r,hm⟩:=aC hm
   exact vS (vs:=[i64 j]) (caps:=[cC a4 c]) (us:=[i64 j,cC a4 c]) rfl call101 rfl rfl (aDh r h l m n) eB
  ·exact eB
theorem kM {b:(List Int)} {a:cB} {c:Nat} {R:Bool} (hm:eG b a=some R) (d:aI G K (L) w) (e:bW K a1 c2 b) (g:dT K a4 c (zC a a7 c8 a10 c11)) (h:bW K a7 c8 a.L) (i:bW K a10 c11 a.E):
  Calls prog 38 ([zS a1 b.length c2,Value.func (.func 101) #[] #[cC a4 c]]:List Value).toArray w (eV fun v w'=>v=zB R/\aI G K (L) w'):=by
 exact eB
theorem aFw {t:cB} {a:(List Int)} {R:Int} (hm:aDZ t a=some R) (k:aI G K (L) w) (l:G.lo=0) (c:bW K a1 c2 t.L) (d:bW K a4 c5 t.E) (m:bW K a7 c8 a):
  Calls prog 50 ([zA (zCa t a1 c2 a4 c5),zS a7 a.length c8]:List Value).toArray w (eV fun v w'=>v=i64 R/\aI G K (L) w'):=by
 let e:=(zC t a1 c2 a4 c5)
 refine aR func50 rfl (by kernel_rfl) (by show (2:Nat)<=13;decide) ?_;unfold aDZ at hm
 refine aK (fO (v:=zA (zCa t a1 c2 a4 c5)) (vs:=e) k rfl rfl (fun g x h=>(aE (v:=i64 0) (aG (aO (dA (aK (aD (eJ (us:=e) eS h (i:=0) rfl rfl rfl rfl) ?_))))))));obtain ⟨n,o,hm⟩:=aC hm
 refine aP (vs:=[zA (zCa t a1 c2 a4 c5)]) call33 rfl (aAk o h l c d) ?_
 rintro _ y ⟨rfl,p⟩
 refine aD (eC rfl) (aE (v:=zB (!n)) (aG ?_))
 rcases aH hm with ⟨j,hm⟩|⟨j,hm⟩
 ·exact eB
 ·refine aJ j rfl (aK (aF (v:=zS a7 a.length c8) (aD (aAn (vs:=[zP (some ⟨g,0,none⟩)]) rfl) ?_)));obtain ⟨z,b,q,r,J⟩:=aI.lendBp p .head
  obtain ⟨V,u,hm⟩:=aC hm
  exact aP (vs:=[zS a7 a.length c8,Value.func (.func 101) #[] #[cC (some ⟨g,0,none⟩) 0]]) call38 rfl (kM u r (m.mono b) q (c.mono b) (d.mono b)) eB
theorem aGq {a:(List dD)} {t:cB} {b:(List Int)} {R:Int} (hm:aFo a t b=some R) (c:aI G K (L) w) (d:G.lo=0) (e:bW K a1 c2 a) (g:bW K a4 c5 t.L) (h:bW K a7 c8 t.E) (i:bW K a10 c11 b):
  Calls prog 18 ([zS a1 a.length c2,zA (zCa t a4 c5 a7 c8),zS a10 b.length c11]:List Value).toArray w (eV fun v w'=>v=i64 R/\aI G K (L) w'):=by
 exact eB
theorem aDi {rec_:(List dD)->Option ((Tr dD) × (List dD))} (ih:∀ {G:uK} {K:Hp} {L:List gQ} {w:World} {c:(List dD)} {a1:Option Addr} {c2:Nat} {R:((Tr dD) × (List dD))} (hm:rec_ c=some R) (hs:aI G K (L) w) (g:bW K a1 c2 c),
  Calls prog 51 ([zS a1 c.length c2]:List Value).toArray w (eV fun v w'=>∃ d r u x,v=zT #[cC r 0,zS u R.2.length x]/\Hp.le K d/\trd d R.1 r/\bW d u x R.2/\aI G d (L) w'))
  {G:uK} {K:Hp} {L:List gQ} {w:World} {c:(List dD)} {a1:Option Addr} {c2:Nat} {R:((Tr dD) × (List dD))} (hm:jL rec_ c=some R) (hs:aI G K (L) w) (g:bW K a1 c2 c):
  Calls prog 51 ([zS a1 c.length c2]:List Value).toArray w (eV fun v w'=>∃ d r u x,v=zT #[cC r 0,zS u R.2.length x]/\Hp.le K d/\trd d R.1 r/\bW d u x R.2/\aI G d (L) w'):=by
 refine aR func51 rfl (by kernel_rfl) (by show (1:Nat)<=38;decide) ?_;unfold jL at hm
 refine aK (aE (v:=zP none) (aE (v:=zS none 0 0) (aG (aK (aF (v:=zS a1 c.length c2) ?_)))));obtain ⟨a,q5,hm⟩:=aC hm
 refine aD (cO aHr rfl g rfl rfl rfl q5) ?_;obtain ⟨g1,b6,c9⟩:=bW.el (sz:=4) rfl g q5
 cases c9
 refine aD (gC (t:=0) (vs:=[i64 a.Kind,i64 a.Variable,str a.B,zB a.Not]) aGR hs b6 rfl rfl rfl) (aD (gW (vs:=[(0,zA #[i64 a.Kind,i64 a.Variable,str a.B,zB a.Not])]) (cs:=[i64 a.Kind,i64 a.Variable,str a.B,zB a.Not,zS none 0 0]) bs_96 rfl (by kernel_rfl)) (fO (v:=zA #[i64 a.Kind,i64 a.Variable,str a.B,zB a.Not,zS none 0 0]) (vs:=[i64 a.Kind,i64 a.Variable,str a.B,zB a.Not,zS none 0 0]) hs rfl rfl (fun b g2 b7=>(aE (v:=zP (some ⟨b,0,none⟩)) (aG (aK (aF (v:=zS a1 c.length c2) ?_)))))))
 obtain ⟨d0,b8,hm⟩:=aC hm
 obtain ⟨d1,d2,c0⟩:=Cut.ex 4 a1 c2 1
 have g3:=bW.cut' g b8 c0
 refine aD (aIB aHr g.room c0 rfl rfl rfl b8) (aE (v:=zS d1 d0.length d2) (aG (aO (aK (aF (v:=zS a1 c.length c2) (aD (cO aHr rfl g rfl rfl rfl q5) (aD (gC (t:=0) (vs:=[i64 a.Kind,i64 a.Variable,str a.B,zB a.Not]) aGR b7 b6 rfl rfl rfl) ?_)))))));obtain ⟨g4,d3,hm⟩:=aC hm
 refine aP (vs:=[zA #[i64 a.Kind,i64 a.Variable,str a.B,zB a.Not]]) call102 rfl (wY d3 b7) ?_
 rintro _ g5 ⟨rfl,d4⟩
 refine aF (v:=i64 0) (aG (aX [4] (fun f w=>∃ y j z a0 a2 J V,Hp.le K y/\yA a j z=some R/\f 5=zS J z.length V/\bW y J V z/\aI G y (aN 50 y a0 a2 j::box b 96 [i64 a.Kind,i64 a.Variable,str a.B,zB a.Not,zS a0 j.length a2]::L) w) ?_ ?_))
 ·rintro f c1 ⟨y,j,z,a0,a2,J,V,d5,hm,d6,d7,d8⟩
  unfold yA at hm
  refine aB (aK (aF (v:=zP (some ⟨b,0,none⟩)) (bC d6 (aE (v:=zP (some ⟨b,0,none⟩)) (aE (v:=zS J z.length V) (aG ?_))))));obtain ⟨d9,c3,e0,a9⟩:=aI.giveSp d8 (zR _) .head
  replace a9:aI G d9 (box b 96 [i64 a.Kind,i64 a.Variable,str a.B,zB a.Not,zS a0 j.length a2]::L) c1:=a9
  obtain ⟨b0,b1,e1,b2,_⟩:=aI.lendBp a9 .head
  replace b2:aI G b0 (L) c1:=b2
  have e2:trd b0 (Tr.mk a j) (some ⟨b,0,none⟩):=trd_mk e1 (e0.mono b1)
  obtain rfl:=zI hm
  exact bM (vR results51 rfl rfl ⟨b0,(some ⟨b,0,none⟩),J,V,(tp2 (aLY rfl) rfl),(zL (zL d5 c3) b1),e2,(d7.mono (zL c3 b1)),b2⟩)
 have g6:=aI.nil (α:=(Tr dD)) d4 50 K
 obtain ⟨g7,e5,ho⟩:=aC hm
 refine yL [4,17] e5 (fun k a3 b3 f w=>∃ l m n a4 a5,Hp.le K l/\f 5=zS a4 a3.length a5/\f 18=i64 b3/\bW l a4 a5 a3/\aI G l (aN 50 l m n k::box b 96 [i64 a.Kind,i64 a.Variable,str a.B,zB a.Not,zS m k.length n]::L) w) eB ?_
 ·rintro k a3 b3 g8 f g9 hm hr ⟨l,m,n,a4,a5,e6,e7,c4,e8,e9⟩
  unfold kH at hm
  refine aK (aD (cV c4 rfl) (aG (aO ?_)))
  rcases aH hm with ⟨c5,hm⟩|⟨c5,hm⟩
  ·refine aL c5 rfl (aW (aB (aO (dA (aK (aE (v:=zP none) (aG (aK (bC e7 ?_)))))))));obtain ⟨a6,f0,hm⟩:=aC hm
   refine aP (vs:=[zS a4 a3.length a5]) call51 rfl (ih f0 e9 e8) ?_
   rintro _ h0 ⟨e,o,b4,b5,rfl,c6,f1,f2,c7⟩
   refine aF (v:=zT #[cC o 0,zS b4 a6.2.length b5]) (aD (dC rfl rfl) (aD (dC rfl rfl) (aE (v:=cC o 0) (aE (v:=zS b4 a6.2.length b5) (aG (aQ (aF (v:=zP (some ⟨b,0,none⟩)) (aF (v:=zP (some ⟨b,0,none⟩)) (aD (nF rfl) (aD (bH (t':=4) aKt rfl rfl) (aD (cR sc_94 c7 (i:=1) rfl rfl rfl) (aF (v:=cC o 0) (bT (Kt:=e) (xs:=([a6.1]:List (Tr dD))) (cs:=[cC o 0]) (vs:=[(0,cC o 0)]) sl_94 ez_50 rfl rfl c7 rfl (by kernel_rfl) rfl rfl rfl ⟨⟨o,rfl,f1⟩,trivial⟩ (fun f3 f4 (f5:aI G e (aN 50 e f3 1 ([a6.1]:List (Tr dD))::aN 50 l m n k::box b 96 [i64 a.Kind,i64 a.Variable,str a.B,zB a.Not,zS m k.length n]::L) f4)=>?_))))))))))))))
   obtain ⟨Z,f6,hm⟩:=aC hm
   exact aIQ (i:=0) e sl_94 underlying94 ez_50 rfl rfl f5 rfl c6 (zR _) f6 rfl rfl rfl rfl (fun _ _ _ h=>El.one h) (fun p q f7 (f8:aI G e (aN 50 e p q Z::box b 96 [i64 a.Kind,i64 a.Variable,str a.B,zB a.Not,zS m k.length n]::L) f7)=>(aD (nF rfl) (aD (bH (t':=4) aKt rfl rfl) (cG (i:=1) (ns:=[zS p Z.length q]) (us:=[i64 a.Kind,i64 a.Variable,str a.B,zB a.Not,zS p Z.length q]) sizeOf94 f8 rfl rfl rfl rfl rfl (dN rfl) rfl rfl (fun f9 (g0:aI G e (aN 50 e p q Z::box b 96 [i64 a.Kind,i64 a.Variable,str a.B,zB a.Not,zS p Z.length q]::L) f9)=>(bF (bA (aB (aQ (aD (cL c4 rfl) (aF (v:=i64 (wr (b3+1))) (aG ⟨_,(zI hm).symm,aM,e,p,q,b4,b5,(zL e6 c6),rfl,rfl,f2,g0⟩))))))))))))
  ·exact eB
theorem aDj (n:Nat):∀ {G:uK} {K:Hp} {L:List gQ} {w:World} {a:(List dD)} {a1:Option Addr} {c2:Nat} {R:((Tr dD) × (List dD))} (hm:jM n a=some R) (b:aI G K (L) w) (c:bW K a1 c2 a),
  Calls prog 51 ([zS a1 a.length c2]:List Value).toArray w (eV fun v w'=>∃ d e g h,v=zT #[cC e 0,zS g R.2.length h]/\Hp.le K d/\trd d R.1 e/\bW d g h R.2/\aI G d (L) w'):=by
 induction n with
 |zero=>
  intro G K L w a a1 c2 R hm b c
  unfold jM at hm
  cases hm
 |succ n ih=>
  intro G K L w a a1 c2 R hm b c
  exact aDi (rec_:=jM n) (fun hm b c=>ih hm b c) hm b c
theorem aET {f_:(List dD)} {R:((Tr dD) × (List dD))} (hm:aFI f_=some R) (hs:aI G K (L) w) (h3:bW K a1 c2 f_):
  Calls prog 51 ([zS a1 f_.length c2]:List Value).toArray w (eV fun v w'=>∃ K' ra1 ra2 rc2,v=zT #[cC ra1 0,zS ra2 R.2.length rc2]/\Hp.le K K'/\trd K' R.1 ra1/\bW K' ra2 rc2 R.2/\aI G K' (L) w'):=aDj 100000 hm hs h3
theorem aGr {a:(List dD)} {R:(Tr dD)} (hm:aCY a=some R) (d:aI G K (L) w) (e:bW K a1 c2 a):
  Calls prog 19 ([zS a1 a.length c2]:List Value).toArray w (eV fun v w'=>∃ b c,v=cC c 0/\Hp.le K b/\trd b R c/\aI G b (L) w'):=by
 exact eB
theorem aGs {a R:aY} (hm:aCZ a=some R) (b:aI G K (L) w) (c:G.lo=0):
  Calls prog 129 ([str a]:List Value).toArray w (eV fun v w'=>v=str R/\aI G K (L) w'):=by
 exact eB
theorem aDJ {n:dD} {b:aY} {R:Bool} (hm:pI n b=some R) (g:aI G K (L) w) (k:G.lo=0):
  Calls prog 103 ([zA #[i64 n.Kind,i64 n.Variable,str n.B,zB n.Not],str b]:List Value).toArray w (eV fun v w'=>v=zB R/\aI G K (L) w'):=by
 let c:=[i64 n.Kind,i64 n.Variable,str n.B,zB n.Not]
 refine aR func103 rfl (by kernel_rfl) (by show (2:Nat)<=36;decide) ?_;unfold pI at hm
 refine aK (fO (v:=zA #[i64 n.Kind,i64 n.Variable,str n.B,zB n.Not]) (vs:=c) g rfl rfl (fun h l d=>(aE (v:=zB false) (aG (aK (aD (bH (t':=2) aGG rfl rfl) (aD (cR aAU d (i:=0) rfl rfl rfl) ?_)))))));obtain ⟨a,j,hm⟩:=aC hm
 refine aP (vs:=[str n.B,str ([42]:aY)]) call128 rfl (rS j d) ?_
 rintro _ m ⟨rfl,o⟩
 exact aF (v:=zT #[str a.1,zB a.2]) (aD (dC rfl rfl) (aD (dC rfl rfl) (aE (v:=str a.1) (aE (v:=zB a.2) (aG (aO (cH [2] (fun f w=>∃ e,kZ n e=some R/\f 7=zB e/\aI G K (box h 93 c::L) w) eB eB)))))))
theorem kR {d:(List Bool)} {j:Int} {R:(List Bool)} (hm:fQ d j=some R) (hs:aI G K (L) w) (h3:bW K a1 c2 d):
  Calls prog 54 ([zS a1 d.length c2,i64 j]:List Value).toArray w (eV fun v w'=>∃ u x,v=zS u R.length x/\aI G K (aN 4 K u x R::L) w'):=by
 refine aR func54 rfl (by kernel_rfl) (by show (2:Nat)<=48;decide) ?_;unfold fQ at hm
 refine aK (aE (v:=zS none 0 0) (aG (iQ [0,1] (fun f w=>iH d j=some R/\aI G K (L) w) ?_ ?_)))
 ·rintro f w4 ⟨hm,a9⟩
  unfold iH at hm
  refine aK (aF (v:=zS a1 d.length c2) (aD (bX (len:=d.length) fU rfl) (aD (aFP runUnderlying138 rfl ⟨_,runUnderlying3⟩) (aF (v:=i64 j) (aD (aFP runUnderlying138 rfl ⟨_,runUnderlying3⟩) ?_)))));obtain ⟨c,q7,hm⟩:=aC hm
  refine aP (vs:=[Value.int .u64 (gG (d.length:Int)),Value.int .u64 (gG j)]) call104 rfl (lib_Mul a9 q7) ?_
  rintro _ w8 ⟨rfl,y⟩
  refine aF (v:=zT #[Value.int .u64 c.1,Value.int .u64 c.2]) (aD (dC rfl rfl) (aD (dC rfl rfl) (aE (v:=Value.int .u64 c.1) (aE (v:=Value.int .u64 c.2) (aG (iQ [0,6] (fun f w=>iG d c=some R/\aI G K (L) w) ?_ ?_))))))
  ·rintro f d5 ⟨hm,b1⟩
   unfold iG at hm
   refine aK (aF (v:=Value.int .u64 c.2) (aD (aEo runUnderlying3 rfl ⟨_,runUnderlying138⟩) ?_));obtain ⟨a,b2,hm⟩:=aC hm
   refine aHl (e:=(false:Bool)) fU ez_4 rfl rfl b1 rfl rfl rfl b2 rfl (fun b b3 (z:aI G K (aN 4 K b a.length a::L) b3)=>(aE (v:=zS b a.length a.length) (aG (aK (aF (v:=zS b a.length a.length) (aF (v:=zS a1 d.length c2) ?_))))));obtain ⟨b4,J,hm⟩:=aC hm
   refine aNN fU rfl z (i:=0) rfl Cut.whole rfl rfl rfl (aMc _ _ _) aKI (aNO rfl z h3) J (fun b5 (b6:aI G K (aN 4 K b a.length b4::L) b5)=>(aE (v:=i64 ((Nat.min d.length a.length):Int)) (aG (aO (aX [] (fun f w=>∃ k,iE k=some R/\f 7=zS b k.length a.length/\aI G K (aN 4 K b a.length k::L) w) ?_ ?_)))))
   ·rintro f d6 ⟨k,hm,b7,b8⟩
    unfold iE at hm
    refine aB (aK (bC b7 (aE (v:=zS b k.length a.length) (aG ?_))));obtain rfl:=zI hm
    exact bM (bI results54 rfl ⟨b,a.length,rfl,b8⟩)
   obtain ⟨d7,c0,ho⟩:=aC hm
   refine cP [] c0 (fun l m f w=>f 7=zS b l.length a.length/\f 8=i64 m/\aI G K (aN 4 K b a.length l::L) w) ?_ ?_
   ·exact ⟨(Eq.trans rfl (congrArg (fun n=>zS b n a.length) (aMI J))),rfl,b6⟩
   ·rintro l m d8 f d9 hm hr ⟨o,p,V⟩
    unfold iF at hm
    refine aO (aK (bC p (bC o (aD (bX (len:=l.length) fU rfl) (aD (cV rfl rfl) (aG ?_))))))
    rcases aH hm with ⟨r,hm⟩|⟨r,hm⟩
    ·refine aL r rfl (aW (aB (dA (dI (C:=fun w'=>∃ L',aI G K L' w') [(0,0),(1,0),(2,0),(3,0),(4,0),(5,0),(6,0),(7,1),(8,0),(9,0)] Tryz_mixed (by kernel_rfl) (fun _ hg=>⟨_,aI.mono V hg⟩) (fun e0 c1=>?_)))))
     have q:=aI.mono V c1
     refine bL rfl (fun _ _=>aT p) (bL rfl (fun _ _=>aT o) (bL rfl (fun _ _=>aT p) ?_));obtain ⟨c3,c4,hm⟩:=aC hm
     have c5:=aFi q (i:=0) rfl
     obtain ⟨e1,e2,Z⟩:=Cut.ex 1 b a.length m
     refine bL rfl (fun _ _=>aIB fU c5 Z rfl rfl rfl c4) (bL rfl (fun _ _=>aT o) (bL rfl (fun _ _=>aT p) ?_));obtain ⟨c6,a0,hm⟩:=aC hm
     have c7:=aFi q (i:=0) rfl
     obtain ⟨e3,e4,a2⟩:=Cut.ex 1 b a.length 0
     refine bL rfl (fun _ _=>aIC fU c7 a2 rfl rfl rfl a0) (fT rfl ?_);obtain ⟨c8,a3,hm⟩:=aC hm
     refine aNN fU rfl q (i:=0) rfl Z rfl rfl rfl (aMc _ _ _) aKI (aPd rfl q (i:=0) rfl a0 a2) a3 (fun c9 (a4:aI G K (aN 4 K b a.length c8::L) c9)=>(bF (aB ⟨⟨_,a4⟩,?_⟩)))
     exact bL rfl (fun _ _=>cL rfl rfl) (bL rfl (fun _ _=>gR (v:=i64 (wr (m+((Nat.min c6.length c3.length):Int)))) rfl) (gD (bA (aB ⟨_,(zI hm).symm,aM,(Eq.trans o (congrArg (fun n=>zS b n a.length) (aMI a3))),rfl,a4⟩))))
    ·refine aJ r rfl (cJ (bB (bB ?_)))
     have d0:=hr _ (zI hm).symm
     subst d0
     have hm:(iE l)=some R:=ho
     exact eB
  refine aO (cH [0,6] (fun f w=>∃ t,fX d c t=some R/\f 26=zB t/\aI G K (L) w) ?_ ?_)
  ·rintro f e5 ⟨t,hm,d1,d2⟩
   unfold fX at hm
   refine aB ?_
   rcases aH hm with ⟨a5,hm⟩|⟨a5,hm⟩
   ·exact eB
   ·exact aJ a5 d1 (aW (aB ⟨aM,hm,d2⟩))
  refine aQ (aF (v:=Value.int .u64 c.1) (aD (jU rfl rfl) (aF (v:=zB (decide (0 < c.1))) ?_)))
  rcases aH hm with ⟨h,hm⟩|⟨h,hm⟩
  ·exact aS h rfl rfl (aS h rfl rfl (aD (bJ (v:=zB true) h rfl rfl) (aG ⟨aM,true,hm,rfl,y⟩)))
  ·exact bG h rfl rfl (aF (v:=Value.int .u64 c.2) (bG h rfl rfl (aD (jU rfl rfl) (aD (bN (v:=zB (decide (9223372036854775807 < c.2))) h rfl rfl) (aG ⟨aM,decide (9223372036854775807 < c.2),hm,rfl,y⟩)))))
 refine aK (aF (v:=i64 j) (aD (cV rfl rfl) (aG ?_)))
 rcases aH hm with ⟨a6,hm⟩|⟨a6,hm⟩
 ·exact eB
 ·exact aJ a6 rfl (aW (aB ⟨aM,hm,hs⟩))
theorem aDK {t:cB} {n:dD} {p R:(List Bool)} (hm:wU t n p=some R) (hs:aI G K (L) w) (hG:G.lo=0) (h3:bW K a1 c2 t.L) (z:bW K a4 c5 t.E) (h9:bW K a7 c8 p):
  Calls prog 53 ([zA (zCa t a1 c2 a4 c5),zA #[i64 n.Kind,i64 n.Variable,str n.B,zB n.Not],zS a7 p.length c8]:List Value).toArray w (eV fun v w'=>∃ J V,v=zS J R.length V/\aI G K (aN 4 K J V R::L) w'):=by
 let d:=(zC t a1 c2 a4 c5)
 let e:=[i64 n.Kind,i64 n.Variable,str n.B,zB n.Not]
 refine aR func53 rfl (by kernel_rfl) (by show (3:Nat)<=52;decide) ?_;unfold wU at hm
 refine aK (fO (v:=zA (zCa t a1 c2 a4 c5)) (vs:=d) hs rfl rfl (fun g e0 b4=>(fO (v:=zA #[i64 n.Kind,i64 n.Variable,str n.B,zB n.Not]) (vs:=e) b4 rfl rfl (fun j e1 Z=>(aE (v:=zS none 0 0) (aG (aK (aD (bH (t':=0) aCo rfl rfl) (aD (cR cE Z (i:=0) rfl rfl rfl) (aD (dM rfl rfl) (bT (Kt:=K) (xs:=([n.Kind == 5]:List Bool)) (cs:=[zB (n.Kind == 5)]) (vs:=[(0,zB (n.Kind == 5))]) fU ez_4 rfl rfl Z rfl (by kernel_rfl) rfl rfl rfl ⟨rfl,trivial⟩ (fun a0 b5 (a2:aI G K (aN 4 K a0 1 ([n.Kind == 5]:List Bool)::box j 93 e::box g 27 d::L) b5)=>(aD (bH (t':=0) cT rfl rfl) (aD (cR cE a2 (i:=2) rfl rfl rfl) ?_))))))))))))))
 obtain ⟨e2,e3,b6,b7,b8⟩:=aI.lendSp a2 (zR _) .head
 obtain ⟨b9,c0,hm⟩:=aC hm
 refine aP (vs:=[zS a0 ([n.Kind == 5]:List Bool).length 1,i64 t.N]) call54 rfl (kR c0 b7 b6) ?_
 rintro _ e4 ⟨b,c,rfl,c1⟩
 have c3:=b8 _ _ c1
 refine aE (v:=zS b b9.length c) (aG (aO (aK (aD (bH (t':=3) cM rfl rfl) (aD (cR eK c3 (i:=3) rfl rfl rfl) (aD (bX (len:=t.E.length) cK rfl) (aF (v:=i64 0) (aG (aX [] (fun f w=>∃ q,vN q=some R/\f 7=zS b q.length c/\aI G K (aN 4 K b c q::L) w) eB ?_)))))))));obtain ⟨e5,c4,ho⟩:=aC hm
 refine cP [2,3,4,18,19] c4 (fun k l f w=>f 7=zS b k.length c/\f 20=i64 l/\aI G K (aN 4 K b c k::box j 93 e::box g 27 d::L) w) eB ?_
 ·rintro k l a3 f e6 hm hr ⟨a5,r,a6⟩
  unfold lA at hm
  refine aK (aD (cV r rfl) (aG (aO ?_)))
  rcases aH hm with ⟨a8,hm⟩|⟨a8,hm⟩
  ·refine aL a8 rfl (aW (aB (aO (aX [2,3,4,18,19,20] (fun f w=>∃ m,rA l m=some a3/\f 7=zS b m.length c/\aI G K (aN 4 K b c m::box j 93 e::box g 27 d::L) w) ?_ ?_))))
   ·rintro f e7 ⟨m,hm,c6,c7⟩
    unfold rA at hm
    exact aB (aQ (aD (cL r rfl) (aF (v:=i64 (wr (l+1))) (aG ⟨_,(zI hm).symm,aM,c6,rfl,c7⟩))))
   refine aK ?_;obtain ⟨a,a9,hm⟩:=aC hm
   refine aD (cO cK rfl z rfl rfl r a9) ?_;obtain ⟨e8,c9,d0⟩:=bW.el (sz:=3) rfl z a9
   cases d0
   refine aD (gC (t:=0) (vs:=[i64 a.F,i64 a.B,i64 a.To]) oX a6 c9 rfl rfl rfl) (cI (vs:=[i64 0,i64 0,i64 0]) zeroValue66 a6 rfl (fun u e9 d1=>(cG (i:=0) (ns:=[i64 a.F,i64 a.B,i64 a.To]) (us:=[i64 a.F,i64 a.B,i64 a.To]) sizeOf66 d1 rfl rfl rfl rfl rfl (dN rfl) rfl rfl (fun d2 (f0:aI G K (box u 66 [i64 a.F,i64 a.B,i64 a.To]::aN 4 K b c k::box j 93 e::box g 27 d::L) d2)=>(aG (aO (cH [2,3,4,7,9,18,19,20] (fun f w=>∃ x,rB n k l a x=some a3/\f 42=zB x/\aI G K (box u 66 [i64 a.F,i64 a.B,i64 a.To]::aN 4 K b c k::box j 93 e::box g 27 d::L) w) ?_ ?_)))))))
   ·rintro f f1 ⟨x,hm,d3,o⟩
    unfold rB at hm
    refine aB ?_
    rcases aH hm with ⟨b0,hm⟩|⟨b0,hm⟩
    ·refine aL b0 d3 (aQ (bC a5 (aD (bH (t':=0) iY rfl rfl) (aD (cR cE o (i:=0) rfl rfl rfl) (aD (bH (t':=0) aCo rfl rfl) (aD (cR cE o (i:=2) rfl rfl rfl) (aD (dM rfl rfl) ?_)))))));obtain ⟨f2,y,hm⟩:=aC hm
     have d4:=cQ o (i:=1) rfl y
     refine aD (dL fU rfl d4 rfl rfl rfl y) ?_;obtain ⟨b1,b2,hm⟩:=aC hm
     exact kU (i:=1) (t:=0) (ns:=[zB (n.Kind == 4)]) (e':=(n.Kind == 4:Bool)) sizeOf4 o rfl (zR _) rfl rfl rfl y b2 rfl rfl (dN rfl) rfl (fun cs h=>by cases h;rfl) (fun d5 (d6:aI G K (box u 66 [i64 a.F,i64 a.B,i64 a.To]::aN 4 K b c b1::box j 93 e::box g 27 d::L) d5)=>(bF (bA (aB ⟨aM,b1,hm,(Eq.trans a5 (congrArg (fun n=>zS b n c) (iC b2))),(aI.arr 1 [] d6 rfl)⟩))))
    ·exact eB
   exact eB
  ·exact eB
theorem aBH {rec_:(Tr dD)->cB->Option (List Bool)} (ih:∀ {G:uK} {K:Hp} {L:List gQ} {w:World} {a:(Tr dD)} {a1:Option Addr} {t:cB} {a3:Option Addr} {c4:Nat} {a6:Option Addr} {c7:Nat} {R:(List Bool)} (hm:rec_ a t=some R) (hs:aI G K (L) w) (hG:G.lo=0) (h2:trd K a a1) (h5:bW K a3 c4 t.L) (h8:bW K a6 c7 t.E),
  Calls prog 20 ([cC a1 0,zA (zCa t a3 c4 a6 c7)]:List Value).toArray w (eV fun v w'=>∃ a5 a7,v=zS a5 R.length a7/\aI G K (aN 4 K a5 a7 R::L) w'))
  {G:uK} {K:Hp} {L:List gQ} {w:World} {a:(Tr dD)} {a1:Option Addr} {t:cB} {a3:Option Addr} {c4:Nat} {a6:Option Addr} {c7:Nat} {R:(List Bool)} (hm:iA rec_ a t=some R) (hs:aI G K (L) w) (hG:G.lo=0) (h2:trd K a a1) (h5:bW K a3 c4 t.L) (h8:bW K a6 c7 t.E):
  Calls prog 20 ([cC a1 0,zA (zCa t a3 c4 a6 c7)]:List Value).toArray w (eV fun v w'=>∃ a5 a7,v=zS a5 R.length a7/\aI G K (aN 4 K a5 a7 R::L) w'):=by
 let J:=(zC t a3 c4 a6 c7)
 refine aR func20 rfl (by kernel_rfl) (by show (2:Nat)<=100;decide) ?_;unfold iA at hm
 refine aK (fO (v:=zA (zCa t a3 c4 a6 c7)) (vs:=J) hs rfl rfl (fun V j2 f8=>(aE (v:=zS none 0 0) (aG (aK (aE (v:=zS none 0 0) (aG (aO (aK (aF (v:=cC a1 0) ?_))))))))));obtain ⟨f9,g0,k,j3⟩:=trd.el h2
 replace k:dT K a1 0 [i64 a.val.Kind,i64 a.val.Variable,str a.val.B,zB a.val.Not,zS f9 a.kids.length g0]:=k
 refine aD (cA rfl k) (aD (bS (k':=0+4) aKt rfl k rfl) (aD (bE (t:=4) sc_94 f8 k rfl rfl) (aD (bX (len:=a.kids.length) sl_94 rfl) (aF (v:=i64 0) (aG (aX [0,3] (fun f w=>∃ b p q d,jR a t b=some R/\f 5=zS p b.length q/\List.length d=List.length b/\aI G K (aN 49 K p q (dZ d b)::rows [4] d b::box V 27 J::L) w) ?_ ?_))))))
 ·rintro f o3 ⟨b,p,q,d,hm,b4,u,g1⟩
  unfold jR at hm
  refine aB (aO (aK (aF (v:=cC a1 0) (aD (cA rfl k) (aD (bS (k':=0+0) aIZ rfl k rfl) (aD (gC (t:=0) (vs:=[i64 a.val.Kind,i64 a.val.Variable,str a.val.B,zB a.val.Not]) aGR g1 k rfl rfl rfl) ?_))))));obtain ⟨o4,j4,hm⟩:=aC hm
  refine aP (vs:=[zA #[i64 a.val.Kind,i64 a.val.Variable,str a.val.B,zB a.val.Not]]) call52 rfl (tW j4 g1) ?_
  rintro _ o5 ⟨rfl,g2⟩
  refine aG ?_
  rcases aH hm with ⟨c1,hm⟩|⟨c1,hm⟩
  ·refine aL c1 rfl (aO ?_);obtain ⟨o6,o7,o8,o9,j5,p0⟩:=aI.lendD' (i:=0) g2 u rfl rfl
   obtain ⟨j6,p1,p2,g3,p3⟩:=aI.lendBp j5 .head
   refine dI (C:=fun w'=>∃ L',aI G j6 L' w') [(0,0),(1,0),(2,0),(3,0),(4,0),(5,0),(6,0),(7,0),(8,1),(9,0)] Tryz_mixed (by kernel_rfl) (fun _ hg=>⟨_,aI.mono g3 hg⟩) (fun p4 j7=>?_)
   have p5:=aI.mono g3 j7
   exact eB
  ·refine aJ c1 rfl (aW (aB (aO ?_)));obtain ⟨g4,a8,j8,g5,j9⟩:=aI.lendBp g2 zt2
   refine dI (C:=fun w'=>∃ L',aI G g4 L' w') [(0,0),(1,0),(2,0),(3,0),(4,0),(5,0),(7,0),(8,0),(6,1),(9,1),(10,0)] Tryz_mixed (by kernel_rfl) (fun _ hg=>⟨_,aI.mono g5 hg⟩) (fun p6 k0=>?_)
   have a9:=aI.mono g5 k0
   refine bL rfl (fun _ _=>aT (v:=cC a1 0) rfl) (bL rfl (fun _ _=>cA rfl (k.mono a8)) (bL rfl (fun _ _=>bS (k':=0+0) aIZ rfl (k.mono a8) rfl) (bL rfl (fun _ _=>bS (k':=0+0) aCo rfl (k.mono a8) rfl) (bL rfl (fun _ ⟨_,a9⟩=>bE (t:=0) cE a9 (k.mono a8) rfl rfl) (bL rfl (fun _ _=>dM rfl rfl) (bL rfl (fun _ _=>bH (t':=0) cT rfl rfl) (bL rfl (fun _ ⟨_,a9⟩=>bE (t:=0) cE a9 j8 rfl rfl) (fT rfl (bT (Kt:=K) (xs:=([a.val.Kind == 0]:List Bool)) (cs:=[zB (a.val.Kind == 0)]) (vs:=[(0,zB (a.val.Kind == 0))]) fU ez_4 rfl rfl a9 rfl (by kernel_rfl) rfl rfl rfl ⟨rfl,trivial⟩ (fun g6 k1 (g7:aI G g4 (aN 4 K g6 1 ([a.val.Kind == 0]:List Bool)::aN 49 K p q (dZ d b)::rows [4] d b::L) k1)=>(bF (aB ⟨⟨_,g7⟩,?_⟩))))))))))))
   refine fT rfl ?_;obtain ⟨p7,p8,k2,k3,k4⟩:=aI.lendSp g7 a8 .head
   obtain ⟨c2,k5,hm⟩:=aC hm
   refine aP (vs:=[zS g6 ([a.val.Kind == 0]:List Bool).length 1,i64 t.N]) call54 rfl (kR k5 k3 k2) ?_
   rintro _ p9 ⟨e,j,rfl,k6⟩
   have g8:=k4 _ _ k6
   refine bF (aB ⟨⟨_,g8⟩,?_⟩)
   refine bL rfl (fun _ _=>gR (v:=zS e c2.length j) rfl) (gD ?_)
   have q0:=j9 _ _ g8
   refine aB (aO (aK (aF (v:=zS e c2.length j) (aD (bX (len:=c2.length) fU rfl) (aF (v:=i64 0) (aG (aX [] (fun f w=>∃ c3,mE c3=some R/\f 8=zS e c3.length j/\aI G K (aN 4 K e j c3::L) w) eB ?_)))))));obtain ⟨q1,k7,ho⟩:=aC hm
   refine cP [0,5,51] k7 (fun c5 o f w=>f 8=zS e c5.length j/\f 52=i64 o/\aI G K (aN 4 K e j c5::aN 49 K p q (dZ d b)::rows [4] d b::L) w) eB ?_
   ·rintro c5 o c6 f q2 hm hr ⟨Z,c8,c⟩
    unfold dX at hm
    refine aK (aD (cV c8 rfl) (aG (aO ?_)))
    rcases aH hm with ⟨g9,hm⟩|⟨g9,hm⟩
    ·refine aL g9 rfl (aW (aB (aO (dA (aK (bC c8 (aE (v:=i64 o) (aG (aK (aF (v:=cC a1 0) (aD (cA rfl k) (aD (bS (k':=0+0) aIZ rfl k rfl) (aD (bS (k':=0+0) aCo rfl k rfl) (aD (bE (t:=0) cE c k rfl rfl) (aG (aX [0,5,51,52] (fun f w=>∃ b5,jQ o b5=some c6/\f 8=zS e b5.length j/\aI G K (aN 4 K e j b5::aN 49 K p q (dZ d b)::rows [4] d b::L) w) ?_ ?_))))))))))))))))
     ·rintro f q3 ⟨b5,hm,k8,k9⟩
      unfold jQ at hm
      exact bA (aB (aQ (aD (cL c8 rfl) (aF (v:=i64 (wr (o+1))) (aG ⟨_,(zI hm).symm,aM,k8,rfl,k9⟩)))))
     refine aK (aD (dM rfl rfl) (aE (v:=zB (a.val.Kind == 2)) (aG ?_)))
     rcases aH hm with ⟨c9,hm⟩|⟨c9,hm⟩
     ·refine aL c9 rfl (cH [0,5,51,52] (fun f w=>∃ d0,pJ o d0=some c6/\f 8=zS e d0.length j/\aI G K (aN 4 K e j d0::aN 49 K p q (dZ d b)::rows [4] d b::L) w) eB (aQ (bC Z (aF (v:=i64 o) (bC b4 ?_)))));obtain ⟨q4,a0,hm⟩:=aC hm
      obtain ⟨⟨q5,q6⟩,b6⟩:=aMT u a0
      have h0:=cQ c (i:=1) rfl (aEp u a0 b6)
      refine aD (dL aFR rfl h0 rfl rfl rfl a0) (aD (jV (t:=0) aJV c (i:=1) rfl (aEp u a0 b6) rfl rfl rfl) (aF (v:=i64 o) ?_));obtain ⟨l0,d1,hm⟩:=aC hm
      have l1:=cQ (aI.rowOut (i:=2) c rfl b6 (aJQ a0)) (i:=0) rfl d1
      refine aD (dL fU rfl l1 rfl rfl rfl d1) (aD (jV (t:=0) aCH (aI.rowOut (i:=2) c rfl b6 (aJQ a0)) (i:=0) rfl d1 rfl rfl rfl) (aF (v:=zB l0) ?_))
      rcases aH hm with ⟨l,hm⟩|⟨l,hm⟩
      ·refine bK l rfl rfl (bC b4 (bK l rfl rfl ?_));obtain ⟨q7,b0,hm⟩:=aC hm
       refine aD (dL aFR rfl h0 rfl rfl rfl b0) (bK l rfl rfl ?_);obtain ⟨⟨q8,q9⟩,d2⟩:=aMT u b0
       refine aD (jV (t:=0) aJV c (i:=1) rfl (aEp u b0 d2) rfl rfl rfl) (bK l rfl rfl (aF (v:=i64 o) (bK l rfl rfl ?_)));obtain ⟨d3,d4,hm⟩:=aC hm
       have l2:=cQ (aI.rowOut (i:=2) c rfl d2 (aJQ b0)) (i:=0) rfl d4
       refine aD (dL fU rfl l2 rfl rfl rfl d4) (bK l rfl rfl (aD (jV (t:=0) aCH (aI.rowOut (i:=2) c rfl d2 (aJQ b0)) (i:=0) rfl d4 rfl rfl rfl) (aD (bJ (v:=zB d3) l rfl rfl) ?_)));obtain ⟨r0,d5,hm⟩:=aC hm
       have l3:=cQ c (i:=0) rfl d5
       refine aD (dL fU rfl l3 rfl rfl rfl d5) ?_;obtain ⟨h1,h3,hm⟩:=aC hm
       exact kU (i:=0) (t:=0) (ns:=[zB d3]) (e':=(d3:Bool)) sizeOf4 c rfl (zR _) rfl rfl rfl d5 h3 rfl rfl (dN rfl) rfl (fun cs h=>by cases h;rfl) (fun l4 (l5:aI G K (aN 4 K e j h1::aN 49 K p q (dZ d b)::rows [4] d b::L) l4)=>(aG ⟨aM,h1,hm,(Eq.trans Z (congrArg (fun n=>zS e n j) (iC h3))),l5⟩))
      ·refine bD l rfl rfl (bD l rfl rfl (bD l rfl rfl (bD l rfl rfl (bD l rfl rfl (bD l rfl rfl (aD (bN (v:=zB false) l rfl rfl) ?_))))));obtain ⟨r1,d6,hm⟩:=aC hm
       have l6:=cQ c (i:=0) rfl d6
       refine aD (dL fU rfl l6 rfl rfl rfl d6) ?_;obtain ⟨h4,h6,hm⟩:=aC hm
       exact kU (i:=0) (t:=0) (ns:=[zB false]) (e':=(false:Bool)) sizeOf4 c rfl (zR _) rfl rfl rfl d6 h6 rfl rfl (dN rfl) rfl (fun cs h=>by cases h;rfl) (fun l7 (l8:aI G K (aN 4 K e j h4::aN 49 K p q (dZ d b)::rows [4] d b::L) l7)=>(aG ⟨aM,h4,hm,(Eq.trans Z (congrArg (fun n=>zS e n j) (iC h6))),l8⟩))
     ·refine aJ c9 rfl (aK (aD (dM rfl rfl) (aE (v:=zB (a.val.Kind == 3)) (aG ?_))))
      rcases aH hm with ⟨h7,hm⟩|⟨h7,hm⟩
      ·refine aL h7 rfl (cH [0,5,51,52] (fun f w=>∃ d7,pK o d7=some c6/\f 8=zS e d7.length j/\aI G K (aN 4 K e j d7::aN 49 K p q (dZ d b)::rows [4] d b::L) w) eB (aQ (bC Z (aF (v:=i64 o) (bC b4 ?_)))));obtain ⟨r2,a2,hm⟩:=aC hm
       obtain ⟨⟨r3,r4⟩,b7⟩:=aMT u a2
       have h9:=cQ c (i:=1) rfl (aEp u a2 b7)
       refine aD (dL aFR rfl h9 rfl rfl rfl a2) (aD (jV (t:=0) aJV c (i:=1) rfl (aEp u a2 b7) rfl rfl rfl) (aF (v:=i64 o) ?_));obtain ⟨l9,d8,hm⟩:=aC hm
       have m0:=cQ (aI.rowOut (i:=2) c rfl b7 (aJQ a2)) (i:=0) rfl d8
       refine aD (dL fU rfl m0 rfl rfl rfl d8) (aD (jV (t:=0) aCH (aI.rowOut (i:=2) c rfl b7 (aJQ a2)) (i:=0) rfl d8 rfl rfl rfl) (aF (v:=zB l9) ?_))
       rcases aH hm with ⟨m,hm⟩|⟨m,hm⟩
       ·refine aS m rfl rfl (aS m rfl rfl (aS m rfl rfl (aS m rfl rfl (aS m rfl rfl (aS m rfl rfl (aD (bJ (v:=zB true) m rfl rfl) ?_))))));obtain ⟨r5,d9,hm⟩:=aC hm
        have m1:=cQ c (i:=0) rfl d9
        refine aD (dL fU rfl m1 rfl rfl rfl d9) ?_;obtain ⟨i0,i1,hm⟩:=aC hm
        exact kU (i:=0) (t:=0) (ns:=[zB true]) (e':=(true:Bool)) sizeOf4 c rfl (zR _) rfl rfl rfl d9 i1 rfl rfl (dN rfl) rfl (fun cs h=>by cases h;rfl) (fun m2 (m3:aI G K (aN 4 K e j i0::aN 49 K p q (dZ d b)::rows [4] d b::L) m2)=>(aG ⟨aM,i0,hm,(Eq.trans Z (congrArg (fun n=>zS e n j) (iC i1))),m3⟩))
       ·refine bG m rfl rfl (bC b4 (bG m rfl rfl ?_));obtain ⟨r6,b1,hm⟩:=aC hm
        refine aD (dL aFR rfl h9 rfl rfl rfl b1) (bG m rfl rfl ?_);obtain ⟨⟨r7,r8⟩,e0⟩:=aMT u b1
        refine aD (jV (t:=0) aJV c (i:=1) rfl (aEp u b1 e0) rfl rfl rfl) (bG m rfl rfl (aF (v:=i64 o) (bG m rfl rfl ?_)));obtain ⟨e1,e2,hm⟩:=aC hm
        have m4:=cQ (aI.rowOut (i:=2) c rfl e0 (aJQ b1)) (i:=0) rfl e2
        refine aD (dL fU rfl m4 rfl rfl rfl e2) (bG m rfl rfl (aD (jV (t:=0) aCH (aI.rowOut (i:=2) c rfl e0 (aJQ b1)) (i:=0) rfl e2 rfl rfl rfl) (aD (bN (v:=zB e1) m rfl rfl) ?_)));obtain ⟨r9,e3,hm⟩:=aC hm
        have m5:=cQ c (i:=0) rfl e3
        refine aD (dL fU rfl m5 rfl rfl rfl e3) ?_;obtain ⟨i2,i3,hm⟩:=aC hm
        exact kU (i:=0) (t:=0) (ns:=[zB e1]) (e':=(e1:Bool)) sizeOf4 c rfl (zR _) rfl rfl rfl e3 i3 rfl rfl (dN rfl) rfl (fun cs h=>by cases h;rfl) (fun m6 (m7:aI G K (aN 4 K e j i2::aN 49 K p q (dZ d b)::rows [4] d b::L) m6)=>(aG ⟨aM,i2,hm,(Eq.trans Z (congrArg (fun n=>zS e n j) (iC i3))),m7⟩))
      ·exact eB
    ·exact eB
 have m8:aI G K (aN 49 K none 0 (dZ ([]:List (Dp.Hd (List Bool))) ([]:List (List Bool)))::rows [4] ([]:List (Dp.Hd (List Bool))) ([]:List (List Bool))::box V 27 J::L) j2:=aI.nil (α:=Cells _) (aI.rowsNil (α:=(List Bool)) (tys:=[4]) f8) 49 K
 obtain ⟨s0,m9,ho⟩:=aC hm
 refine tZ [0,3] m9 (fun z e4 i4 e5 f w=>∃ b2 b3 r b8 c0,f 5=zS b2 z.length b3/\f 13=zS b8 e4.length c0/\f 14=i64 i4/\f 15=i64 e5/\List.length r=List.length z/\bW K b8 c0 e4/\aI G K (aN 49 K b2 b3 (dZ r z)::rows [4] r z::box V 27 J::L) w) ?_ ?_
 ·exact ⟨none,0,[],f9,g0,rfl,rfl,rfl,rfl,rfl,j3,m8⟩
 ·rintro z e4 i4 e5 s1 f s2 hm hr ⟨b2,b3,r,b8,c0,n0,i5,i6,e6,i7,e7,e8⟩
  unfold iK at hm
  refine aK (aD (cV e6 i6) (aG (aO ?_)))
  rcases aH hm with ⟨i8,hm⟩|⟨i8,hm⟩
  ·refine aL i8 rfl (aW (aB (aO (dA (aK ?_)))));obtain ⟨s3,i9,hm⟩:=aC hm
   refine aD (cO sl_94 rfl e7 i5 rfl e6 i9) ?_;obtain ⟨s4,n1,n2⟩:=bW.el (sz:=1) rfl e7 i9
   obtain ⟨e9,rfl,n3⟩:=n2
   refine aD (bE (t:=0) sc_50 e8 n1 rfl rfl) (aE (v:=cC e9 0) (aG (aQ (bC n0 (aF (v:=cC e9 0) (aD (eJ (us:=J) eS e8 (i:=2) rfl rfl rfl rfl) ?_))))));obtain ⟨a4,n4,hm⟩:=aC hm
   refine aP (vs:=[cC e9 0,zA (zCa t a3 c4 a6 c7)]) call20 rfl (ih n4 e8 hG n3 h5 h8) ?_
   rintro _ n5 ⟨x,y,rfl,n6⟩
   have n7:aI G K (rows [4] ([(x,y)]:List (Dp.Hd (List Bool))) [a4]::aN 49 K b2 b3 (dZ r z)::rows [4] r z::box V 27 J::L) n5:=aI.rowsOne n6
   refine bT (Kt:=K) (xs:=dZ ([(x,y)]:List (Dp.Hd (List Bool))) ([a4]:List (List Bool))) (cs:=[zS x a4.length y]) (vs:=[(0,zS x a4.length y)]) aFR aMg rfl rfl n7 rfl (by kernel_rfl) rfl rfl rfl ⟨rfl,trivial⟩ ?_
   intro n8 n9 (o0:aI G K (aN 49 K n8 1 (dZ ([(x,y)]:List (Dp.Hd (List Bool))) ([a4]:List (List Bool)))::rows [4] ([(x,y)]:List (Dp.Hd (List Bool))) ([a4]:List (List Bool))::aN 49 K b2 b3 (dZ r z)::rows [4] r z::box V 27 J::L) n9)
   obtain ⟨f0,j0,hm⟩:=aC hm
   refine WO_appD (i:=0) (tys:=[4]) (hds:=r) (hds2:=([(x,y)]:List (Dp.Hd (List Bool)))) aFR underlying91 aMg rfl rfl o0 i7 rfl rfl rfl j0 rfl rfl rfl rfl ?_
   intro f1 f2 o1 (o2:aI G K (aN 49 K f1 f2 (dZ (r++([(x,y)]:List (Dp.Hd (List Bool)))) f0)::rows [4] (r++([(x,y)]:List (Dp.Hd (List Bool)))) f0::box V 27 J::L) o1)
   exact aE (v:=zS f1 f0.length f2) (bF (bA (aB (aQ (aD (cL e6 rfl) (aF (v:=i64 (wr (e5+1))) (aG ⟨_,(zI hm).symm,aM,f1,f2,(r++([(x,y)]:List (Dp.Hd (List Bool)))),b8,c0,rfl,i5,i6,rfl,(app_len i7 rfl j0),e7,o2⟩)))))))
  ·exact eB
theorem aBI (n:Nat):∀ {G:uK} {K:Hp} {L:List gQ} {w:World} {g:(Tr dD)} {a1:Option Addr} {t:cB} {a3:Option Addr} {c4:Nat} {a6:Option Addr} {c7:Nat} {R:(List Bool)} (hm:iB n g t=some R) (a:aI G K (L) w) (b:G.lo=0) (c:trd K g a1) (d:bW K a3 c4 t.L) (e:bW K a6 c7 t.E),
  Calls prog 20 ([cC a1 0,zA (zCa t a3 c4 a6 c7)]:List Value).toArray w (eV fun v w'=>∃ h i,v=zS h R.length i/\aI G K (aN 4 K h i R::L) w'):=by
 induction n with
 |zero=>
  intro G K L w g a1 t a3 c4 a6 c7 R hm a b c d e
  unfold iB at hm
  cases hm
 |succ n ih=>
  intro G K L w g a1 t a3 c4 a6 c7 R hm a b c d e
  exact aBH (rec_:=iB n) (fun hm a b c d e=>ih hm a b c d e) hm a b c d e
theorem aDk {x_:(Tr dD)} {t:cB} {R:(List Bool)} (hm:aDr x_ t=some R) (hs:aI G K (L) w) (hG:G.lo=0) (h2:trd K x_ a1) (h5:bW K a3 c4 t.L) (h8:bW K a6 c7 t.E):
  Calls prog 20 ([cC a1 0,zA (zCa t a3 c4 a6 c7)]:List Value).toArray w (eV fun v w'=>∃ ra0 rc0,v=zS ra0 R.length rc0/\aI G K (aN 4 K ra0 rc0 R::L) w'):=aBI 100000 hm hs hG h2 h5 h8
theorem iX {a R:(List aY)} (hm:fY a=some R) (j:aI G K (L) w) (d:bW K a1 c2 a):
  Calls prog 55 ([zS a1 a.length c2]:List Value).toArray w (eV fun v w'=>∃ e g,v=zS e R.length g/\aI G K (aN 9 K e g R::L) w'):=by
 refine aR func55 rfl (by kernel_rfl) (by show (1:Nat)<=8;decide) ?_;unfold fY at hm
 refine aK (aE (v:=zS none 0 0) (aG (aO (aK (aF (v:=zS a1 a.length c2) (aD (aMU dE rfl rfl) (aG ?_)))))))
 rcases aMd d with ⟨k,l,m⟩|n
 ·subst k;subst l;subst m
  refine aNz rfl ?_
  replace hm:(some [])=some R:=hm
  exact eB
 ·refine aNA (Eq.trans rfl (congrArg zB n)) (aW (aB (aK (bT (Kt:=K) (xs:=([]:List aY)) (cs:=[]) (vs:=[]) dE oM rfl rfl j rfl (by kernel_rfl) rfl rfl rfl trivial (fun o p (q:aI G K (aN 9 K o 0 ([]:List aY)::L) p)=>(aF (v:=zS a1 a.length c2) ?_))))));obtain ⟨h,r,hm⟩:=aC hm
  refine nG (i:=0) dE underlying24 oM rfl rfl q rfl (zR _) d r rfl rfl rfl rfl (fun b c t (u:aI G K (aN 9 K b c h::L) t)=>(aE (v:=zS b h.length c) (aG ?_)));obtain rfl:=zI hm
  exact bM (bI results55 rfl ⟨b,c,rfl,u⟩)
theorem aDl {t R:cB} (hm:uH t=some R) (hs:aI G K (L) w) (y:bW K a1 c2 t.L) (h6:bW K a4 c5 t.E):
  Calls prog 21 ([zA (zCa t a1 c2 a4 c5)]:List Value).toArray w (eV fun v w'=>∃ c1 c3 c4 c6,v=zA (zCa R c1 c3 c4 c6)/\aI G K (aN 9 K c1 c3 R.L::aN 66 K c4 c6 R.E::L) w'):=by
 let g:=(zC t a1 c2 a4 c5)
 let d:=zG
 refine aR func21 rfl (by kernel_rfl) (by show (1:Nat)<=52;decide) ?_;unfold uH at hm
 refine aK (fO (v:=zA (zCa t a1 c2 a4 c5)) (vs:=g) hs rfl rfl (fun l w8 e9=>(cI (vs:=d) zeroValue27 e9 rfl (fun h h7 f0=>(aG (aO (cH [1,2] (fun f w=>∃ a k b c,tV t a=some R/\f 3=zP (some ⟨k,0,none⟩)/\aI G K (aN 9 K b c a::box k 27 [i64 t.N,i64 t.I,zS b a.length c,zS none 0 0]::box h 27 d::box l 27 g::L) w) ?_ ?_)))))))
 ·rintro f h8 ⟨a,k,b,c,hm,h9,c7⟩
  unfold tV at hm
  refine aB (aO (aK (aD (bH (t':=0) cT rfl rfl) (aD (cR cE c7 (i:=3) rfl rfl rfl) (aF (v:=i64 0) (aG (aX [2,3] (fun f w=>∃ a5 c8 c9,tS t a a5=some R/\aI G K (aN 66 K c8 c9 a5::aN 9 K b c a::box k 27 [i64 t.N,i64 t.I,zS b a.length c,zS c8 a5.length c9]::box h 27 d::L) w) eB ?_)))))))
  have i0:=aI.nil (α:=Edge) c7 66 K
  obtain ⟨i1,f1,ho⟩:=aC hm
  refine cP [1,2,3,18] f1 (fun a6 m f w=>∃ a7 a8,f 19=i64 m/\aI G K (aN 66 K a7 a8 a6::aN 9 K b c a::box k 27 [i64 t.N,i64 t.I,zS b a.length c,zS a7 a6.length a8]::box h 27 d::box l 27 g::L) w) eB ?_
  ·rintro a6 m d0 f i2 hm hr ⟨a7,a8,a9,f2⟩
   unfold jS at hm
   refine aK (aD (cV a9 rfl) (aG (aO ?_)))
   rcases aH hm with ⟨d1,hm⟩|⟨d1,hm⟩
   ·refine aL d1 rfl (aW (aB (aO (aX [1,2,3,18,19] (fun f w=>∃ z J V,tT m z=some d0/\aI G K (aN 66 K J V z::aN 9 K b c a::box k 27 [i64 t.N,i64 t.I,zS b a.length c,zS J z.length V]::box h 27 d::box l 27 g::L) w) ?_ ?_))))
    ·rintro f i3 ⟨z,J,V,hm,f3⟩
     unfold tT at hm
     exact aB (aQ (aD (cL a9 rfl) (aF (v:=i64 (wr (m+1))) (aG ⟨_,(zI hm).symm,aM,J,V,rfl,f3⟩))))
    refine aK (bC a9 (aE (v:=i64 m) (aG (aK (aD (bH (t':=2) fF rfl rfl) (aD (cR oF f2 (i:=4) rfl rfl rfl) (aD (bX (len:=t.L.length) dE rfl) (aF (v:=i64 0) (aG (aX [1,2,3,18,19] (fun f w=>∃ b0 d2 d3,pL m b0=some d0/\aI G K (aN 66 K d2 d3 b0::aN 9 K b c a::box k 27 [i64 t.N,i64 t.I,zS b a.length c,zS d2 b0.length d3]::box h 27 d::box l 27 g::L) w) eB ?_))))))))));obtain ⟨i4,f4,ho⟩:=aC hm
    refine cP [1,2,3,4,18,19,23,24] f4 (fun b1 n f w=>∃ b2 b3,f 25=i64 n/\aI G K (aN 66 K b2 b3 b1::aN 9 K b c a::box k 27 [i64 t.N,i64 t.I,zS b a.length c,zS b2 b1.length b3]::box h 27 d::box l 27 g::L) w) eB ?_
    ·rintro b1 n d4 f i5 hm hr ⟨b2,b3,Z,b4⟩
     unfold mG at hm
     refine aK (aD (cV Z rfl) (aG (aO ?_)))
     rcases aH hm with ⟨d5,hm⟩|⟨d5,hm⟩
     ·refine aL d5 rfl (aW (aB (aO (aX [1,2,3,4,18,19,23,24,25] (fun f w=>∃ a0 a2 a3,tU n a0=some d4/\aI G K (aN 66 K a2 a3 a0::aN 9 K b c a::box k 27 [i64 t.N,i64 t.I,zS b a.length c,zS a2 a0.length a3]::box h 27 d::box l 27 g::L) w) ?_ ?_))))
      ·rintro f i6 ⟨a0,a2,a3,hm,f5⟩
       unfold tU at hm
       exact aB (aQ (aD (cL Z rfl) (aF (v:=i64 (wr (n+1))) (aG ⟨_,(zI hm).symm,aM,a2,a3,rfl,f5⟩))))
      refine aK (bC Z ?_);obtain ⟨b5,d6,hm⟩:=aC hm
      refine aD (cO dE rfl y rfl rfl Z d6) ?_;obtain ⟨i7,f6,f7⟩:=bW.el (sz:=1) rfl y d6
      cases f7
      refine aD (bE (t:=0) aAU b4 f6 rfl rfl) (aE (v:=i64 n) (aE (v:=str b5) (aG (aK (aD (eJ (us:=g) eS b4 (i:=4) rfl rfl rfl rfl) (aF (v:=i64 m) (aF (v:=str b5) ?_)))))));obtain ⟨d7,f8,hm⟩:=aC hm
      refine aP (vs:=[zA (zCa t a1 c2 a4 c5),i64 m,str b5]) call39 rfl (vO f8 b4 y h6) ?_
      rintro _ i8 ⟨f9,g0,rfl,i9⟩
      refine aD (bX (len:=d7.length) bV rfl) (aF (v:=i64 0) (aG (aX [1,2,3,4,18,19,23,24,25] (fun f w=>∃ b6 d8 d9,pM n b6=some d4/\aI G K (aN 66 K d8 d9 b6::aN 9 K b c a::box k 27 [i64 t.N,i64 t.I,zS b a.length c,zS d8 b6.length d9]::box h 27 d::box l 27 g::L) w) eB ?_)));obtain ⟨j0,g1,ho⟩:=aC hm
      exact cP [1,2,3,4,5,18,19,23,24,25,33,34] g1 (fun e0 g2 f w=>∃ e1 e2,f 35=i64 g2/\aI G K (aN 2 K f9 g0 d7::aN 66 K e1 e2 e0::aN 9 K b c a::box k 27 [i64 t.N,i64 t.I,zS b a.length c,zS e1 e0.length e2]::box h 27 d::box l 27 g::L) w) eB eB
     ·exact eB
   ·exact eB
 obtain ⟨g3,e3,b8,g4,e4⟩:=aI.lendBp f0 zt1
 refine aMa (C:=fun w'=>∃ L',aI G g3 L' w') [9] Tryz_mixed (by kernel_rfl) (fun j1 g5=>?_)
 have e:=aI.mono g4 g5
 refine yN (i:=0) rfl (by kernel_rfl) ⟨_,e⟩ (fun _ _=>bH (t':=0) cT rfl rfl) (yN (i:=1) rfl (by kernel_rfl) ⟨_,e⟩ (fun _ ⟨_,e⟩=>bE (t:=0) cE e b8 rfl rfl) (yN (i:=2) rfl (by kernel_rfl) ⟨_,e⟩ (fun _ _=>bH (t':=1) oC rfl rfl) (yN (i:=3) rfl (by kernel_rfl) ⟨_,e⟩ (fun _ ⟨_,e⟩=>bE (t:=1) cE e b8 rfl rfl) (yN (i:=4) rfl (by kernel_rfl) ⟨_,e⟩ (fun _ _=>bH (t':=2) fF rfl rfl) (yN (i:=5) rfl (by kernel_rfl) ⟨_,e⟩ (fun _ ⟨_,e⟩=>bE (t:=2) oF e b8 rfl rfl) (aFh (i:=6) (j:=8) (by kernel_rfl) rfl rfl ?_ ?_))))))
 ·obtain ⟨o,g6,hm⟩:=aC hm
  refine aP (vs:=[zS a1 t.L.length c2]) call55 rfl (iX g6 e (y.mono e3)) ?_
  rintro _ j2 ⟨p,q,rfl,b9⟩
  refine bF (aB ⟨fun _=>⟨_,b9⟩,?_⟩)
  refine yN (i:=7) rfl (by kernel_rfl) ⟨_,b9⟩ (fun _ _=>gW (vs:=[(0,i64 t.N),(1,i64 t.I),(2,zS p o.length q)]) (cs:=[i64 t.N,i64 t.I,zS p o.length q,zS none 0 0]) aCG rfl (by kernel_rfl)) (gX (i:=8) (by kernel_rfl) rfl (cI (vs:=d) zeroValue27 b9 rfl (fun g7 j3 e5=>(bF (aB ⟨fun _=>⟨_,e5⟩,?_⟩)))))
  refine gX (i:=9) (by kernel_rfl) rfl ?_
  have g8:=e4 _ _ e5
  refine cG (i:=1) (ns:=[i64 t.N,i64 t.I,zS p o.length q,zS none 0 0]) (us:=[i64 t.N,i64 t.I,zS p o.length q,zS none 0 0]) sizeOf27 g8 rfl rfl rfl rfl rfl (dN rfl) rfl rfl (fun g9 (j4:aI G K (box l 27 g::box g7 27 [i64 t.N,i64 t.I,zS p o.length q,zS none 0 0]::aN 9 K p q o::box h 27 d::L) g9)=>(bF (aB ⟨aIV rfl,?_⟩)))
  exact vG (by kernel_rfl) eB
 ·refine cI (vs:=d) zeroValue27 e rfl (fun h0 j5 e6=>(bF (aB ⟨fun _=>⟨_,e6⟩,?_⟩)))
  refine gX (i:=6) (by kernel_rfl) rfl ?_;obtain ⟨r,h1,hm⟩:=aC hm
  refine aP (vs:=[zS a1 t.L.length c2]) call55 rfl (iX h1 e6 (y.mono e3)) ?_
  rintro _ j6 ⟨u,x,rfl,c0⟩
  refine bF (aB ⟨fun _=>⟨_,c0⟩,?_⟩)
  refine yN (i:=7) rfl (by kernel_rfl) ⟨_,c0⟩ (fun _ _=>gW (vs:=[(0,i64 t.N),(1,i64 t.I),(2,zS u r.length x)]) (cs:=[i64 t.N,i64 t.I,zS u r.length x,zS none 0 0]) aCG rfl (by kernel_rfl)) (gX (i:=9) (by kernel_rfl) rfl ?_)
  have h2:=e4 _ _ c0
  refine cG (i:=2) (ns:=[i64 t.N,i64 t.I,zS u r.length x,zS none 0 0]) (us:=[i64 t.N,i64 t.I,zS u r.length x,zS none 0 0]) sizeOf27 h2 rfl rfl rfl rfl rfl (dN rfl) rfl rfl (fun h4 (j7:aI G K (box l 27 g::aN 9 K u x r::box h0 27 [i64 t.N,i64 t.I,zS u r.length x,zS none 0 0]::box h 27 d::L) h4)=>(bF (aB ⟨aIV rfl,?_⟩)))
  exact vG (by kernel_rfl) eB
theorem aAw {c:(List dD)} {t:cB} {a:Int} {R:(Bool × Int)} (hm:oL c t a=some R) (hs:aI G K (L) w) (o:G.lo=0) (p:bW K a1 c2 c) (q:bW K a4 c5 t.L) (r:bW K a7 c8 t.E):
  Calls prog 9 ([zS a1 c.length c2,zA (zCa t a4 c5 a7 c8),i64 a]:List Value).toArray w (eV fun v w'=>v=zT #[zB R.1,i64 R.2]/\aI G K (L) w'):=by
 let g:=(zC t a4 c5 a7 c8)
 refine aR func9 rfl (by kernel_rfl) (by show (3:Nat)<=25;decide) ?_;unfold oL at hm
 refine aK (fO (v:=zA (zCa t a4 c5 a7 c8)) (vs:=g) hs rfl rfl (fun a3 e0 u=>(aE (v:=zB false) (aE (v:=i64 0) (aG (aO (aK (aF (v:=zS a1 c.length c2) (aD (eJ (us:=g) eS u (i:=0) rfl rfl rfl rfl) (aF (v:=i64 a) (bT (Kt:=K) (xs:=([a]:List Int)) (cs:=[i64 a]) (vs:=[(0,i64 a)]) bV iD rfl rfl u rfl (by kernel_rfl) rfl rfl rfl ⟨rfl,trivial⟩ (fun k a5 (a6:aI G K (aN 2 K k 1 ([a]:List Int)::box a3 27 g::L) a5)=>?_))))))))))))
 obtain ⟨e1,l,a8,a9,b0⟩:=aI.lendSp a6 (zR _) .head
 obtain ⟨x,b1,hm⟩:=aC hm
 refine aP (vs:=[zS a1 c.length c2,zA (zCa t a4 c5 a7 c8),zS k ([a]:List Int).length 1]) call18 rfl (aGq b1 a9 o (p.mono l) (q.mono l) (r.mono l) a8) ?_
 rintro _ b2 ⟨rfl,b3⟩
 have b4:=b0 _ _ b3
 refine aE (v:=i64 x) (aG (aK (aF (v:=i64 x) (aD (aDz rfl rfl) (aG ?_)))))
 rcases aH hm with ⟨y,hm⟩|⟨y,hm⟩
 ·exact eB
 ·refine aJ y rfl (aW (aB (aO ?_)));obtain ⟨z,d,b5,h,_⟩:=aI.lendBp b4 zt1
  replace h:aI G z (aN 2 K k 1 ([a]:List Int)::L) b2:=h
  refine dI (C:=fun w'=>∃ L',aI G z L' w') [(0,0),(2,0),(5,0),(1,1),(3,1),(4,1),(6,0),(7,1),(8,0),(9,0)] Tryz_mixed (by kernel_rfl) (fun _ hg=>⟨_,aI.mono h hg⟩) (fun e2 b6=>?_)
  have m:=aI.mono h b6
  refine bL rfl (fun _ _=>aT (v:=zS a1 c.length c2) rfl) (bL rfl (fun _ ⟨_,m⟩=>gC (t:=0) (vs:=g) eS m b5 (aLY rfl) rfl rfl) (bL rfl (fun _ _=>aT (v:=i64 a) rfl) (fT rfl ?_)));obtain ⟨e3,b7,hm⟩:=aC hm
  refine aP (vs:=[zS a1 c.length c2]) call19 rfl (aGr b7 m (p.mono d)) ?_
  rintro _ e4 ⟨e5,b8,rfl,b,b9,J⟩
  refine bF (aB ⟨⟨_,(aI.weakK J b)⟩,?_⟩)
  refine fT rfl ?_;obtain ⟨j,c0,hm⟩:=aC hm
  refine aP (vs:=[zA (zCa t a4 c5 a7 c8)]) call21 rfl (aDl c0 J (q.mono (zL d b)) (r.mono (zL d b))) ?_
  rintro _ e6 ⟨c1,c3,c4,c6,rfl,V⟩
  refine bF (aB ⟨⟨_,(aI.weakK V b)⟩,?_⟩)
  refine fT rfl ?_;obtain ⟨e7,Z,c7,c9,d0⟩:=aI.lendSp V (zL d b) .head
  obtain ⟨e8,a0,d1,d2,d3⟩:=aI.lendSp c9 (zL (zL d b) Z) .head
  obtain ⟨e9,d4,hm⟩:=aC hm
  refine aP (vs:=[cC b8 0,zA (zCa j c1 c3 c4 c6)]) call20 rfl (aDk d4 d2 o (b9.mono (zL Z a0)) (c7.mono a0) d1) ?_
  rintro _ f0 ⟨f1,f2,rfl,d5⟩
  have d6:=d3 _ _ d5
  have e:=d0 _ _ d6
  refine bF (aB ⟨⟨_,(aI.weakK e b)⟩,?_⟩)
  obtain ⟨d7,n,hm⟩:=aC hm
  have d8:=cQ e (i:=2) rfl n
  refine bL rfl (fun _ _=>dL fU rfl d8 rfl rfl rfl n) (fT rfl (aD (jV (t:=0) aCH e (i:=2) rfl n rfl rfl rfl) (bF (aB ⟨⟨_,(aI.weakK e b)⟩,?_⟩))))
  refine bL rfl (fun _ _=>gR (v:=zB d7) rfl) (bL rfl (fun _ _=>gR (v:=i64 0) rfl) (gD (aB ?_)));obtain rfl:=zI hm
  exact bM (vR results9 rfl rfl ⟨rfl,(aI.weakK (aI.arr 4 [] e rfl) (zL d b))⟩)
end Gv
