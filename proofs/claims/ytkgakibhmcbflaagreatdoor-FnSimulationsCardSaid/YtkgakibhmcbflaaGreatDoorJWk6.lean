/- Walks, printed by program. -/
import Derived.Test.YtkgakibhmcbflaaGreatDoorJWk5
set_option linter.all false
namespace Gv
open Go.Value renaming slice→zS,bool→zB,pointer→zP,agg→zA,tuple→zT,map→zM
open Option.some renaming inj→zI
open Gv.Hp renaming le_trans→zL
open Go Go.Proofs
set_option maxRecDepth 20000
set_option maxHeartbeats 40000000
variable {G:Env} {K:Hp} {L:List nG} {w:World} {a1 a4 a7 a10 a13 a16 a21 a19 a24:Option Addr} {c2 c5 c8 c11 c14 c17:Nat}
theorem aBS {r_a r_b:cD} {j:Nat} {p:(List ((Int × Int) × Bool))} {r16:Nat} {g y:Int} {R:Bool} (hs:aI G K (L) w) (m:bX K a1 c2 r_a.L) (h6:bX K a4 c5 r_a.E) (h9:bX K a7 c8 r_b.L) (c0:bX K a10 c11 r_b.E) (c1:fP K a13 j [zM (some r16)]) (c3:rdM K r16 p) (b:kI r_a r_b p g y=some R):
  Calls Tryz.prog 63 ([zA #[i64 r_a.N,i64 r_a.I,zS a1 r_a.L.length c2,zS a4 r_a.E.length c5,i64 r_b.N,i64 r_b.I,zS a7 r_b.L.length c8,zS a10 r_b.E.length c11,Value.func (.func 50) #[] #[cP a13 j]],i64 g,i64 y,Value.func (.func 64) #[] #[]]:List Value).toArray w (gQ fun v w'=>v=zB R∧aI G K (L) w'):=by
 let n:=[i64 r_a.N,i64 r_a.I,zS a1 r_a.L.length c2,zS a4 r_a.E.length c5,i64 r_b.N,i64 r_b.I,zS a7 r_b.L.length c8,zS a10 r_b.E.length c11,Value.func (.func 50) #[] #[cP a13 j]]
 refine aS Tryz.func63 rfl (by kernel_rfl) (by show (4:Nat)≤36;decide) ?_
 unfold kI at b
 refine aK (eA (v:=zA #[i64 r_a.N,i64 r_a.I,zS a1 r_a.L.length c2,zS a4 r_a.E.length c5,i64 r_b.N,i64 r_b.I,zS a7 r_b.L.length c8,zS a10 r_b.E.length c11,Value.func (.func 50) #[] #[cP a13 j]]) (vs:=n) hs rfl rfl (fun q e9 a2=>(aF (v:=zB false) (aG (aO (aK (aD (bL (t':=0) yY rfl rfl) (aD (cS (us:=(zC r_a a1 c2 a4 c5)) dB a2 (i:=0) rfl rfl rfl rfl) (aL (v:=i64 g) ?_)))))))))
 obtain ⟨k,c4,b⟩:=aC b
 refine aQ (vs:=[zA (zCa r_a a1 c2 a4 c5),i64 g]) Tryz.call79 rfl (tJ a2 m h6 c4) ?_
 rintro _ f0 ⟨r,u,rfl,c6⟩
 refine aD (bT (len:=k.length) cN rfl) (aL (v:=i64 0) (aG (aZ (fun f w=>lY=some R∧aI G K (L) w) ?_ ?_)))
 ·rintro f f1 ⟨b,c7⟩
  unfold lY at b
  refine aA (aK (aF (v:=zB true) (aG ?_)))
  obtain rfl:=zI b
  exact bK (bE Tryz.results63 rfl ⟨rfl,c7⟩)
 obtain ⟨f2,d0,b⟩:=aC b
 refine cC d0 (fun (l:Int) f w=>f 1=i64 g∧f 2=i64 y∧f 3=Value.func (.func 64) #[] #[]∧f 4=zP (some ⟨q,0,none⟩)∧f 14=zS r k.length u∧f 15=i64 (k.length:Int)∧f 16=i64 l∧aI G K (aR 51 K r u k::box q 69 n::L) w) ?_ ?_
 ·exact ⟨rfl,rfl,rfl,rfl,rfl,rfl,rfl,c6⟩
 ·rintro l d1 f f3 a a3 ⟨a5,a6,a8,x,a9,b0,z,o⟩
  replace a:iN r_a r_b p g y k l=some d1:=a
  unfold iN at a
  refine aK (aD (cT z b0) (aG (aO ?_)))
  rcases aH a with ⟨J,a⟩|⟨J,a⟩
  ·refine aM J rfl (aY (aA (aO (cI (aK ?_)))))
   obtain ⟨c,V,a⟩:=aC a
   have d2:=dZ o (i:=0) rfl V
   refine aD (eM cN rfl d2 a9 rfl z V) (aD (wZ (t:=0) (vs:=[i64 c.F,i64 c.B,i64 c.To]) kW o (i:=0) rfl V rfl rfl rfl rfl) (cQ (vs:=[i64 0,i64 0,i64 0]) Tryz.zeroValue51 o rfl (fun d3 f4 d4=>(cZ (i:=0) (ns:=[i64 c.F,i64 c.B,i64 c.To]) (us:=[i64 c.F,i64 c.B,i64 c.To]) Tryz.sizeOf51 d4 rfl rfl rfl rfl rfl (fO rfl) rfl rfl (fun d5 (d6:aI G K (box d3 51 [i64 c.F,i64 c.B,i64 c.To]::aR 51 K r u k::box q 69 n::L) d5)=>(aG (aO ?_)))))))
   obtain ⟨f5,h,b1,d7,d8⟩:=aI.lendB (i:=0) d6 rfl
   obtain ⟨d9,e,b2,b3,e0⟩:=aI.lendB (i:=1) d7 rfl
   refine dQ (C:=fun w'=>∃ L',aI G d9 L' w') [(0,0),(1,0),(2,0),(3,0),(4,0),(5,0),(6,0),(7,0),(8,0),(9,0),(10,0),(11,0),(12,0),(13,1),(14,0)] bP (by kernel_rfl) (fun _ hg=>⟨_,aI.mono b3 hg⟩) (fun f6 e1=>?_)
   have d:=aI.mono b3 e1
   refine bJ rfl (fun _ _=>aW a8) (bJ rfl (fun _ ⟨_,d⟩=>iD (t:=0) (vs:=n) aEe d b2 x rfl rfl) (bJ rfl (fun _ _=>aW a5) (bJ rfl (fun _ _=>aW a6) (bJ rfl (fun _ _=>bL (t':=0) yY x rfl) (bJ rfl (fun _ _=>bL (t':=2) gV rfl rfl) (bJ rfl (fun _ ⟨_,d⟩=>bG (t:=2) oC d b2 rfl rfl) (bJ rfl (fun _ _=>bL (t':=1) iZ rfl rfl) (bJ rfl (fun _ ⟨_,d⟩=>bG (t:=1) bY d (b1.mono e) rfl rfl) ?_))))))))
   obtain ⟨b4,b5,a⟩:=aC a
   refine bJ rfl (fun _ _=>cU dM rfl (m.mono (zL h e)) rfl rfl rfl b5) ?_
   obtain ⟨f7,e2,e3⟩:=bX.el (sz:=1) rfl m b5
   cases e3
   refine bJ rfl (fun _ ⟨_,d⟩=>bG (t:=0) yF d (e2.mono (zL h e)) rfl rfl) (bJ rfl (fun _ _=>bL (t':=2) iC rfl rfl) (bJ rfl (fun _ ⟨_,d⟩=>bG (t:=2) bY d (b1.mono e) rfl rfl) (gZ rfl ?_)))
   obtain ⟨f8,e4,a⟩:=aC a
   refine mS (vs:=[zA #[i64 r_a.N,i64 r_a.I,zS a1 r_a.L.length c2,zS a4 r_a.E.length c5,i64 r_b.N,i64 r_b.I,zS a7 r_b.L.length c8,zS a10 r_b.E.length c11,Value.func (.func 50) #[] #[cP a13 j]],i64 g,i64 y,str b4,i64 c.To]) (caps:=[]) (us:=[zA #[i64 r_a.N,i64 r_a.I,zS a1 r_a.L.length c2,zS a4 r_a.E.length c5,i64 r_b.N,i64 r_b.I,zS a7 r_b.L.length c8,zS a10 r_b.E.length c11,Value.func (.func 50) #[] #[cP a13 j]],i64 g,i64 y,str b4,i64 c.To]) rfl Tryz.call64 rfl rfl (aFi (r_a:=⟨r_a.N,r_a.I,r_a.L,r_a.E⟩) (r_b:=⟨r_b.N,r_b.I,r_b.L,r_b.E⟩) d (m.mono (zL h e)) (h6.mono (zL h e)) (h9.mono (zL h e)) (c0.mono (zL h e)) (c1.mono (zL h e)) (c3.mono (zL h e)) e4) ?_
   rintro _ f9 ⟨rfl,b6⟩
   refine bM (aA ⟨⟨_,b6⟩,?_⟩)
   refine bJ rfl (fun _ _=>eR rfl) (gR ?_)
   have e5:=e0 _ _ b6
   have b7:=d8 _ _ e5
   refine aA ?_
   rcases aH a with ⟨Z,a⟩|⟨Z,a⟩
   ·refine aM Z rfl (aK (aF (v:=zB false) (aG (bK (bS (aX (aX ?_)))))))
    have e6:=a3 _ (zI a).symm
    subst e6
    have b:(some false)=some R:=b
    obtain rfl:=zI b
    exact bS (aX (aX (bE Tryz.results63 rfl ⟨rfl,(aI.arr 3 [] b7 rfl)⟩)))
   ·exact aJ Z rfl (aY (bA (aA (aP (aD (cK z rfl) (aL (v:=i64 (wr (l+1))) (aG ⟨wr (l+1),(zI a).symm,a5,a6,a8,x,a9,b0,rfl,(aI.arr 3 [2,1] b7 rfl)⟩)))))))
  ·refine aJ J rfl (cA (aV (aV ?_)))
   have e8:=a3 _ (zI a).symm
   subst e8
   have b:(lY)=some R:=b
   exact bN (aA ⟨b,(aI.arr 2 [] o rfl)⟩)
theorem aEA {a:Int} {d:Nat} {k l:Int} {e:(List bI)} {g:(List Edge)} {m n:Int} {h:(List bI)} {i:(List Edge)} {b:Nat} {o:(List ((Int × Int) × Bool))} {r19:Nat} {p:Int} {q:Nat} {R:Bool} (j:aI G K (L) w) (r:fP K a1 d [i64 k,i64 l,zS a4 e.length c5,zS a7 g.length c8,i64 m,i64 n,zS a10 h.length c11,zS a13 i.length c14,Value.func (.func 50) #[] #[cP a16 b]]) (h6:bX K a4 c5 e) (h9:bX K a7 c8 g) (a3:bX K a10 c11 h) (a5:bX K a13 c14 i) (u:fP K a16 b [zM (some r19)]) (x:rdM K r19 o) (y:fP K a21 q [i64 p]) (c:zO a k l e g m n h i o p=some R):
  Calls Tryz.prog 98 ([i64 a,cP a1 d,cP a21 q]:List Value).toArray w (gQ fun v w'=>v=zB R∧aI G K (L) w'):=by
 refine aS Tryz.func98 rfl (by kernel_rfl) (by show (3:Nat)≤10;decide) ?_
 unfold zO at c
 refine aK (aF (v:=zB false) (aG (aK (aD (cG (k':=d+8) aGJ rfl r rfl) (aD (bG (t:=8) sc_67 j r rfl rfl) (aD (bG (t:=0) bY j y rfl rfl) (aL (v:=i64 a) ?_)))))))
 obtain ⟨z,J,c⟩:=aC c
 refine mS (vs:=[i64 p,i64 a]) (caps:=[cP a16 b]) (us:=[i64 p,i64 a,cP a16 b]) rfl Tryz.call50 rfl rfl (aAp j u x J) ?_
 rintro _ a6 ⟨rfl,V⟩
 refine aF (v:=zB z) (aG ?_)
 obtain rfl:=zI c
 exact bK (bE Tryz.results98 rfl ⟨rfl,V⟩)
theorem rJ {d:(List Int)} {e:Nat} {l m:Int} {h:(List bI)} {i:(List Edge)} {n o:Int} {j:(List bI)} {k:(List Edge)} {z:Nat} {p:(List ((Int × Int) × Bool))} {J:Nat} {q:Int} {g:Nat} {R:Int} (hs:aI G K (L) w) (V:bX K a1 c2 d) (h6:fP K a4 e [i64 l,i64 m,zS a7 h.length c8,zS a10 i.length c11,i64 n,i64 o,zS a13 j.length c14,zS a16 k.length c17,Value.func (.func 50) #[] #[cP a19 z]]) (h9:bX K a7 c8 h) (b2:bX K a10 c11 i) (b3:bX K a13 c14 j) (b4:bX K a16 c17 k) (b5:fP K a19 z [zM (some J)]) (b6:rdM K J p) (b7:fP K a24 g [i64 q]) (b:fZ d l m h i n o j k p q=some R):
  Calls Tryz.prog 127 ([zS a1 d.length c2,Value.func (.func 98) #[] #[cP a4 e,cP a24 g]]:List Value).toArray w (gQ fun v w'=>v=i64 R∧aI G K (L) w'):=by
 refine aS Tryz.func127 rfl (by kernel_rfl) (by show (2:Nat)≤19;decide) ?_
 unfold fZ at b
 refine aK (aF (v:=i64 0) (aG (aO (aK (aL (v:=zS a1 d.length c2) (aD (bT (len:=d.length) bO rfl) (aL (v:=i64 0) (aG (aZ (fun f w=>fL=some R∧aI G K (L) w) ?_ ?_)))))))))
 ·rintro f d0 ⟨b,b8⟩
  unfold fL at b
  refine aA (aK (aF (v:=i64 (-1)) (aG ?_)))
  obtain rfl:=zI b
  exact bK (bE Tryz.results127 rfl ⟨rfl,b8⟩)
 obtain ⟨d1,c0,b⟩:=aC b
 refine cC c0 (fun (c:Int) f w=>f 0=zS a1 d.length c2∧f 1=Value.func (.func 98) #[] #[cP a4 e,cP a24 g]∧f 7=i64 (d.length:Int)∧f 8=i64 c∧aI G K (L) w) ?_ ?_
 ·exact ⟨rfl,rfl,rfl,rfl,hs⟩
 ·rintro c c1 f d2 a Z ⟨a0,a2,a3,r,u⟩
  replace a:dK d l m h i n o j k p q c=some c1:=a
  unfold dK at a
  refine aK (aD (cT r a3) (aG (aO ?_)))
  rcases aH a with ⟨x,a⟩|⟨x,a⟩
  ·refine aM x rfl (aY (aA (aO (cI (aK (aN r (aF (v:=i64 c) (aG (aK (aN a2 (aN a0 (aL (v:=i64 c) ?_))))))))))))
   obtain ⟨a5,a6,a⟩:=aC a
   refine aD (cU bO rfl V rfl rfl rfl a6) ?_
   obtain ⟨d3,c3,c4⟩:=bX.el (sz:=1) rfl V a6
   cases c4
   refine aD (bG (t:=0) bY u c3 rfl rfl) ?_
   obtain ⟨d4,c5,a⟩:=aC a
   refine mS (vs:=[i64 a5]) (caps:=[cP a4 e,cP a24 g]) (us:=[i64 a5,cP a4 e,cP a24 g]) rfl Tryz.call98 rfl rfl (aEA u h6 h9 b2 b3 b4 b5 b6 b7 c5) ?_
   rintro _ d5 ⟨rfl,a8⟩
   refine aG ?_
   rcases aH a with ⟨y,a⟩|⟨y,a⟩
   ·refine aM y rfl (aK (aL (v:=i64 c) (aF (v:=i64 c) (aG (bK (bS (aX (aX ?_))))))))
    have c6:=Z _ (zI a).symm
    subst c6
    have b:(some c)=some R:=b
    obtain rfl:=zI b
    exact bS (aX (aX (bE Tryz.results127 rfl ⟨rfl,a8⟩)))
   ·exact aJ y rfl (aY (bA (aA (aP (aD (cK r rfl) (aL (v:=i64 (wr (c+1))) (aG ⟨wr (c+1),(zI a).symm,a0,a2,a3,rfl,a8⟩)))))))
  ·refine aJ x rfl (cA (aV (aV ?_)))
   have c9:=Z _ (zI a).symm
   subst c9
   have b:(fL)=some R:=b
   exact bN (aA ⟨b,u⟩)
theorem pX {a:(List Int)} {b:Nat} {j k:Int} {e:(List bI)} {g:(List Edge)} {l m:Int} {h:(List bI)} {i:(List Edge)} {n:Nat} {o:(List ((Int × Int) × Bool))} {p:Nat} {q:Int} {c:Nat} {R:Bool} (r:aI G K (L) w) (t:bX K a1 c2 a) (u:fP K a4 b [i64 j,i64 k,zS a7 e.length c8,zS a10 g.length c11,i64 l,i64 m,zS a13 h.length c14,zS a16 i.length c17,Value.func (.func 50) #[] #[cP a19 n]]) (x:bX K a7 c8 e) (y:bX K a10 c11 g) (z:bX K a13 c14 h) (J:bX K a16 c17 i) (V:fP K a19 n [zM (some p)]) (Z:rdM K p o) (a0:fP K a24 c [i64 q]) (d:eG a j k e g l m h i o q=some R):
  Calls Tryz.prog 94 ([zS a1 a.length c2,Value.func (.func 98) #[] #[cP a4 b,cP a24 c]]:List Value).toArray w (gQ fun v w'=>v=zB R∧aI G K (L) w'):=by
 refine aS Tryz.func94 rfl (by kernel_rfl) (by show (2:Nat)≤9;decide) ?_
 unfold eG at d
 refine aK (aF (v:=zB false) (aG (aK (aL (v:=zS a1 a.length c2) (aL (v:=Value.func (.func 98) #[] #[cP a4 b,cP a24 c]) ?_)))))
 obtain ⟨a2,a3,d⟩:=aC d
 refine aQ (vs:=[zS a1 a.length c2,Value.func (.func 98) #[] #[cP a4 b,cP a24 c]]) Tryz.call127 rfl (rJ r t u x y z J V Z a0 a3) ?_
 rintro _ a8 ⟨rfl,a5⟩
 refine aD (uJ rfl rfl) (aF (v:=zB (decide (0≤a2))) (aG ?_))
 obtain rfl:=zI d
 exact bK (bE Tryz.results94 rfl ⟨rfl,a5⟩)
theorem aEB {r_a r_b:cD} {g:Nat} {l:(List ((Int × Int) × Bool))} {r16:Nat} {m y:Int} {h:bI} {e:Int} {R:Bool} (u:aI G K (L) w) (x:bX K a1 c2 r_a.L) (z:bX K a4 c5 r_a.E) (n:bX K a7 c8 r_b.L) (o:bX K a10 c11 r_b.E) (J:fP K a13 g [zM (some r16)]) (V:rdM K r16 l) (c:rX r_a r_b l m y h e=some R):
  Calls Tryz.prog 65 ([zA #[i64 r_a.N,i64 r_a.I,zS a1 r_a.L.length c2,zS a4 r_a.E.length c5,i64 r_b.N,i64 r_b.I,zS a7 r_b.L.length c8,zS a10 r_b.E.length c11,Value.func (.func 50) #[] #[cP a13 g]],i64 m,i64 y,str h,i64 e]:List Value).toArray w (gQ fun v w'=>v=zB R∧aI G K (L) w'):=by
 let p:=[i64 r_a.N,i64 r_a.I,zS a1 r_a.L.length c2,zS a4 r_a.E.length c5,i64 r_b.N,i64 r_b.I,zS a7 r_b.L.length c8,zS a10 r_b.E.length c11,Value.func (.func 50) #[] #[cP a13 g]]
 refine aS Tryz.func65 rfl (by kernel_rfl) (by show (5:Nat)≤19;decide) ?_
 unfold rX at c
 refine aK (eA (v:=zA #[i64 r_a.N,i64 r_a.I,zS a1 r_a.L.length c2,zS a4 r_a.E.length c5,i64 r_b.N,i64 r_b.I,zS a7 r_b.L.length c8,zS a10 r_b.E.length c11,Value.func (.func 50) #[] #[cP a13 g]]) (vs:=p) u rfl rfl (fun j d3 Z=>(eA (v:=i64 e) (vs:=[i64 e]) Z rfl rfl (fun k d4 q=>(aF (v:=zB false) (aG (aK (aD (bL (t':=4) aDC rfl rfl) (aD (cS (us:=(zC r_b a7 c8 a10 c11)) dB q (i:=1) rfl rfl rfl rfl) (aL (v:=i64 y) (cJ (Kt:=K) (xs:=([y]:List Int)) (cs:=[i64 y]) (vs:=[(0,i64 y)]) bO jU rfl rfl q rfl (by kernel_rfl) rfl rfl rfl ⟨rfl,trivial⟩ (fun r a0 (a2:aI G K (aR 2 K r 1 ([y]:List Int)::box k 2 [i64 e]::box j 69 p::L) a0)=>(aL (v:=str h) ?_)))))))))))))
 obtain ⟨d5,t,a3,a5,a6⟩:=aI.lendS (i:=0) a2 (Hp.le_refl _) rfl
 obtain ⟨a8,a9,c⟩:=aC c
 refine aQ (vs:=[zA (zCa r_b a7 c8 a10 c11),zS r ([y]:List Int).length 1,str h]) Tryz.call97 rfl (sG a5 (n.mono t) (o.mono t) a3 a9) ?_
 rintro _ d6 ⟨b0,b1,rfl,b2⟩
 have b3:=a6 _ _ b2
 refine aD (vW (vs:=[zP (some ⟨j,0,none⟩),zP (some ⟨k,0,none⟩)]) rfl) ?_
 obtain ⟨d7,d,b4,b5,b6⟩:=aI.lendS (i:=1) b3 (Hp.le_refl _) rfl
 obtain ⟨d8,b,b7,b8,b9⟩:=aI.lendB (i:=2) b5 rfl
 obtain ⟨d9,a,c0,c1,c3⟩:=aI.lendB (i:=1) b8 rfl
 obtain ⟨c4,c6,c⟩:=aC c
 refine aQ (vs:=[zS b0 a8.length b1,Value.func (.func 98) #[] #[cP (some ⟨j,0,none⟩) 0,cP (some ⟨k,0,none⟩) 0]]) Tryz.call94 rfl (pX c1 (b4.mono (zL b a)) (b7.mono a) (x.mono (zL (zL d b) a)) (z.mono (zL (zL d b) a)) (n.mono (zL (zL d b) a)) (o.mono (zL (zL d b) a)) (J.mono (zL (zL d b) a)) (V.mono (zL (zL d b) a)) c0 c6) ?_
 rintro _ e0 ⟨rfl,c7⟩
 have c9:=c3 _ _ c7
 have d0:=b9 _ _ c9
 have d1:=b6 _ _ d0
 refine aF (v:=zB c4) (aG ?_)
 obtain rfl:=zI c
 exact bK (bE Tryz.results65 rfl ⟨rfl,(aI.arr 4 [] d1 rfl)⟩)
theorem aAQ {r_a r_b:cD} {j:Nat} {p:(List ((Int × Int) × Bool))} {r16:Nat} {g y:Int} {R:Bool} (hs:aI G K (L) w) (m:bX K a1 c2 r_a.L) (h6:bX K a4 c5 r_a.E) (h9:bX K a7 c8 r_b.L) (c0:bX K a10 c11 r_b.E) (c1:fP K a13 j [zM (some r16)]) (c3:rdM K r16 p) (b:iO r_a r_b p g y=some R):
  Calls Tryz.prog 63 ([zA #[i64 r_a.N,i64 r_a.I,zS a1 r_a.L.length c2,zS a4 r_a.E.length c5,i64 r_b.N,i64 r_b.I,zS a7 r_b.L.length c8,zS a10 r_b.E.length c11,Value.func (.func 50) #[] #[cP a13 j]],i64 g,i64 y,Value.func (.func 65) #[] #[]]:List Value).toArray w (gQ fun v w'=>v=zB R∧aI G K (L) w'):=by
 let n:=[i64 r_a.N,i64 r_a.I,zS a1 r_a.L.length c2,zS a4 r_a.E.length c5,i64 r_b.N,i64 r_b.I,zS a7 r_b.L.length c8,zS a10 r_b.E.length c11,Value.func (.func 50) #[] #[cP a13 j]]
 refine aS Tryz.func63 rfl (by kernel_rfl) (by show (4:Nat)≤36;decide) ?_
 unfold iO at b
 refine aK (eA (v:=zA #[i64 r_a.N,i64 r_a.I,zS a1 r_a.L.length c2,zS a4 r_a.E.length c5,i64 r_b.N,i64 r_b.I,zS a7 r_b.L.length c8,zS a10 r_b.E.length c11,Value.func (.func 50) #[] #[cP a13 j]]) (vs:=n) hs rfl rfl (fun q e9 a2=>(aF (v:=zB false) (aG (aO (aK (aD (bL (t':=0) yY rfl rfl) (aD (cS (us:=(zC r_a a1 c2 a4 c5)) dB a2 (i:=0) rfl rfl rfl rfl) (aL (v:=i64 g) ?_)))))))))
 obtain ⟨k,c4,b⟩:=aC b
 refine aQ (vs:=[zA (zCa r_a a1 c2 a4 c5),i64 g]) Tryz.call79 rfl (tJ a2 m h6 c4) ?_
 rintro _ f0 ⟨r,u,rfl,c6⟩
 refine aD (bT (len:=k.length) cN rfl) (aL (v:=i64 0) (aG (aZ (fun f w=>kN=some R∧aI G K (L) w) ?_ ?_)))
 ·rintro f f1 ⟨b,c7⟩
  unfold kN at b
  refine aA (aK (aF (v:=zB true) (aG ?_)))
  obtain rfl:=zI b
  exact bK (bE Tryz.results63 rfl ⟨rfl,c7⟩)
 obtain ⟨f2,d0,b⟩:=aC b
 refine cC d0 (fun (l:Int) f w=>f 1=i64 g∧f 2=i64 y∧f 3=Value.func (.func 65) #[] #[]∧f 4=zP (some ⟨q,0,none⟩)∧f 14=zS r k.length u∧f 15=i64 (k.length:Int)∧f 16=i64 l∧aI G K (aR 51 K r u k::box q 69 n::L) w) ?_ ?_
 ·exact ⟨rfl,rfl,rfl,rfl,rfl,rfl,rfl,c6⟩
 ·rintro l d1 f f3 a a3 ⟨a5,a6,a8,x,a9,b0,z,o⟩
  replace a:gH r_a r_b p g y k l=some d1:=a
  unfold gH at a
  refine aK (aD (cT z b0) (aG (aO ?_)))
  rcases aH a with ⟨J,a⟩|⟨J,a⟩
  ·refine aM J rfl (aY (aA (aO (cI (aK ?_)))))
   obtain ⟨c,V,a⟩:=aC a
   have d2:=dZ o (i:=0) rfl V
   refine aD (eM cN rfl d2 a9 rfl z V) (aD (wZ (t:=0) (vs:=[i64 c.F,i64 c.B,i64 c.To]) kW o (i:=0) rfl V rfl rfl rfl rfl) (cQ (vs:=[i64 0,i64 0,i64 0]) Tryz.zeroValue51 o rfl (fun d3 f4 d4=>(cZ (i:=0) (ns:=[i64 c.F,i64 c.B,i64 c.To]) (us:=[i64 c.F,i64 c.B,i64 c.To]) Tryz.sizeOf51 d4 rfl rfl rfl rfl rfl (fO rfl) rfl rfl (fun d5 (d6:aI G K (box d3 51 [i64 c.F,i64 c.B,i64 c.To]::aR 51 K r u k::box q 69 n::L) d5)=>(aG (aO ?_)))))))
   obtain ⟨f5,h,b1,d7,d8⟩:=aI.lendB (i:=0) d6 rfl
   obtain ⟨d9,e,b2,b3,e0⟩:=aI.lendB (i:=1) d7 rfl
   refine dQ (C:=fun w'=>∃ L',aI G d9 L' w') [(0,0),(1,0),(2,0),(3,0),(4,0),(5,0),(6,0),(7,0),(8,0),(9,0),(10,0),(11,0),(12,0),(13,1),(14,0)] bP (by kernel_rfl) (fun _ hg=>⟨_,aI.mono b3 hg⟩) (fun f6 e1=>?_)
   have d:=aI.mono b3 e1
   refine bJ rfl (fun _ _=>aW a8) (bJ rfl (fun _ ⟨_,d⟩=>iD (t:=0) (vs:=n) aEe d b2 x rfl rfl) (bJ rfl (fun _ _=>aW a5) (bJ rfl (fun _ _=>aW a6) (bJ rfl (fun _ _=>bL (t':=0) yY x rfl) (bJ rfl (fun _ _=>bL (t':=2) gV rfl rfl) (bJ rfl (fun _ ⟨_,d⟩=>bG (t:=2) oC d b2 rfl rfl) (bJ rfl (fun _ _=>bL (t':=1) iZ rfl rfl) (bJ rfl (fun _ ⟨_,d⟩=>bG (t:=1) bY d (b1.mono e) rfl rfl) ?_))))))))
   obtain ⟨b4,b5,a⟩:=aC a
   refine bJ rfl (fun _ _=>cU dM rfl (m.mono (zL h e)) rfl rfl rfl b5) ?_
   obtain ⟨f7,e2,e3⟩:=bX.el (sz:=1) rfl m b5
   cases e3
   refine bJ rfl (fun _ ⟨_,d⟩=>bG (t:=0) yF d (e2.mono (zL h e)) rfl rfl) (bJ rfl (fun _ _=>bL (t':=2) iC rfl rfl) (bJ rfl (fun _ ⟨_,d⟩=>bG (t:=2) bY d (b1.mono e) rfl rfl) (gZ rfl ?_)))
   obtain ⟨f8,e4,a⟩:=aC a
   refine mS (vs:=[zA #[i64 r_a.N,i64 r_a.I,zS a1 r_a.L.length c2,zS a4 r_a.E.length c5,i64 r_b.N,i64 r_b.I,zS a7 r_b.L.length c8,zS a10 r_b.E.length c11,Value.func (.func 50) #[] #[cP a13 j]],i64 g,i64 y,str b4,i64 c.To]) (caps:=[]) (us:=[zA #[i64 r_a.N,i64 r_a.I,zS a1 r_a.L.length c2,zS a4 r_a.E.length c5,i64 r_b.N,i64 r_b.I,zS a7 r_b.L.length c8,zS a10 r_b.E.length c11,Value.func (.func 50) #[] #[cP a13 j]],i64 g,i64 y,str b4,i64 c.To]) rfl Tryz.call65 rfl rfl (aEB (r_a:=⟨r_a.N,r_a.I,r_a.L,r_a.E⟩) (r_b:=⟨r_b.N,r_b.I,r_b.L,r_b.E⟩) d (m.mono (zL h e)) (h6.mono (zL h e)) (h9.mono (zL h e)) (c0.mono (zL h e)) (c1.mono (zL h e)) (c3.mono (zL h e)) e4) ?_
   rintro _ f9 ⟨rfl,b6⟩
   refine bM (aA ⟨⟨_,b6⟩,?_⟩)
   refine bJ rfl (fun _ _=>eR rfl) (gR ?_)
   have e5:=e0 _ _ b6
   have b7:=d8 _ _ e5
   refine aA ?_
   rcases aH a with ⟨Z,a⟩|⟨Z,a⟩
   ·refine aM Z rfl (aK (aF (v:=zB false) (aG (bK (bS (aX (aX ?_)))))))
    have e6:=a3 _ (zI a).symm
    subst e6
    have b:(some false)=some R:=b
    obtain rfl:=zI b
    exact bS (aX (aX (bE Tryz.results63 rfl ⟨rfl,(aI.arr 3 [] b7 rfl)⟩)))
   ·exact aJ Z rfl (aY (bA (aA (aP (aD (cK z rfl) (aL (v:=i64 (wr (l+1))) (aG ⟨wr (l+1),(zI a).symm,a5,a6,a8,x,a9,b0,rfl,(aI.arr 3 [2,1] b7 rfl)⟩)))))))
  ·refine aJ J rfl (cA (aV (aV ?_)))
   have e8:=a3 _ (zI a).symm
   subst e8
   have b:(kN)=some R:=b
   exact bN (aA ⟨b,(aI.arr 2 [] o rfl)⟩)
theorem aAv {r_a r_b:cD} {e:Nat} {l:(List ((Int × Int) × Bool))} {r16:Nat} {kind d y:Int} {R:Bool} (hs:aI G K (L) w) (m:bX K a1 c2 r_a.L) (n:bX K a4 c5 r_a.E) (o:bX K a7 c8 r_b.L) (p:bX K a10 c11 r_b.E) (x:fP K a13 e [zM (some r16)]) (z:rdM K r16 l) (a:fI r_a r_b l kind d y=some R):
  Calls Tryz.prog 31 ([zA #[i64 r_a.N,i64 r_a.I,zS a1 r_a.L.length c2,zS a4 r_a.E.length c5,i64 r_b.N,i64 r_b.I,zS a7 r_b.L.length c8,zS a10 r_b.E.length c11,Value.func (.func 50) #[] #[cP a13 e]],i64 kind,i64 d,i64 y]:List Value).toArray w (gQ fun v w'=>v=zB R∧aI G K (L) w'):=by
 let k:=[i64 r_a.N,i64 r_a.I,zS a1 r_a.L.length c2,zS a4 r_a.E.length c5,i64 r_b.N,i64 r_b.I,zS a7 r_b.L.length c8,zS a10 r_b.E.length c11,Value.func (.func 50) #[] #[cP a13 e]]
 refine aS Tryz.func31 rfl (by kernel_rfl) (by show (4:Nat)≤33;decide) ?_
 unfold fI at a
 refine aK (eA (v:=zA #[i64 r_a.N,i64 r_a.I,zS a1 r_a.L.length c2,zS a4 r_a.E.length c5,i64 r_b.N,i64 r_b.I,zS a7 r_b.L.length c8,zS a10 r_b.E.length c11,Value.func (.func 50) #[] #[cP a13 e]]) (vs:=k) hs rfl rfl (fun J f0 b3=>(aF (v:=zB false) (aG (aO (aO (dO (fun f w=>∃ (q:Bool),gC r_a r_b l kind d y q=some R∧f 1=i64 kind∧f 2=i64 d∧f 3=i64 y∧f 4=zP (some ⟨J,0,none⟩)∧f 22=zB q∧aI G K (box J 69 k::L) w) ?_ ?_)))))))
 ·rintro f f1 ⟨q,a,b4,V,Z,a0,a2,j⟩
  unfold gC at a
  refine aA ?_
  rcases aH a with ⟨r,a⟩|⟨r,a⟩
  ·refine aM r a2 (aK (aF (v:=zB false) (aG ?_)))
   obtain rfl:=zI a
   exact bK (aX (bE Tryz.results31 rfl ⟨rfl,(aI.arr 1 [] j rfl)⟩))
  ·refine aJ r a2 (aY (aA (aO (aK (aN b4 (aD (lA rfl rfl) (aG ?_)))))))
   rcases aH a with ⟨u,a⟩|⟨u,a⟩
   ·refine aM u rfl (aK (aD (cS (us:=k) aEe j (i:=0) rfl a0 rfl rfl) (aN V (aN Z ?_))))
    obtain ⟨b6,b7,a⟩:=aC a
    refine aQ (vs:=[zA #[i64 r_a.N,i64 r_a.I,zS a1 r_a.L.length c2,zS a4 r_a.E.length c5,i64 r_b.N,i64 r_b.I,zS a7 r_b.L.length c8,zS a10 r_b.E.length c11,Value.func (.func 50) #[] #[cP a13 e]],i64 d,i64 y,Value.func (.func 64) #[] #[]]) Tryz.call63 rfl (aBS (r_a:=⟨r_a.N,r_a.I,r_a.L,r_a.E⟩) (r_b:=⟨r_b.N,r_b.I,r_b.L,r_b.E⟩) j m n o p x z b7) ?_
    rintro _ f2 ⟨rfl,b8⟩
    refine aF (v:=zB b6) (aG ?_)
    obtain rfl:=zI a
    exact bK (aX (bE Tryz.results31 rfl ⟨rfl,(aI.arr 1 [] b8 rfl)⟩))
   ·refine aJ u rfl (aY (aA (aK (aD (cS (us:=k) aEe j (i:=0) rfl a0 rfl rfl) (aN V (aN Z ?_))))))
    obtain ⟨c0,c1,a⟩:=aC a
    refine aQ (vs:=[zA #[i64 r_a.N,i64 r_a.I,zS a1 r_a.L.length c2,zS a4 r_a.E.length c5,i64 r_b.N,i64 r_b.I,zS a7 r_b.L.length c8,zS a10 r_b.E.length c11,Value.func (.func 50) #[] #[cP a13 e]],i64 d,i64 y,Value.func (.func 65) #[] #[]]) Tryz.call63 rfl (aAQ (r_a:=⟨r_a.N,r_a.I,r_a.L,r_a.E⟩) (r_b:=⟨r_b.N,r_b.I,r_b.L,r_b.E⟩) j m n o p x z c1) ?_
    rintro _ f3 ⟨rfl,c3⟩
    refine aF (v:=zB c0) (aG ?_)
    obtain rfl:=zI a
    exact bK (bE Tryz.results31 rfl ⟨rfl,(aI.arr 1 [] c3 rfl)⟩)
 obtain ⟨c6,h,a3,a5,a6⟩:=aI.lendB (i:=0) b3 rfl
 refine dQ (C:=fun w'=>∃ L',aI G c6 L' w') [(0,0),(1,0),(2,0),(3,0),(4,0),(5,0),(7,0),(8,0),(9,0),(6,1),(10,1),(11,1),(12,0),(13,0)] bP (by kernel_rfl) (fun _ hg=>⟨_,aI.mono a5 hg⟩) (fun f4 c7=>?_)
 have c:=aI.mono a5 c7
 refine bJ rfl (fun _ _=>aW (v:=i64 kind) rfl) (bJ rfl (fun _ _=>lA rfl rfl) (bJ rfl (fun _ _=>aW (v:=zB (kind == 1)) rfl) ?_))
 rcases aH a with ⟨b,a⟩|⟨b,a⟩
 ·refine mA rfl rfl rfl b (fun _ _=>bL (t':=0) yY rfl rfl) (mA rfl rfl rfl b (fun _ ⟨_,c⟩=>iD (t:=0) (vs:=(zC r_a a1 c2 a4 c5)) dB c a3 rfl rfl rfl) (mA rfl rfl rfl b (fun _ _=>aW (v:=i64 d) rfl) (mA rfl rfl rfl b (fun _ _=>bL (t':=4) aDC rfl rfl) (mA rfl rfl rfl b (fun _ ⟨_,c⟩=>iD (t:=4) (vs:=(zC r_b a7 c8 a10 c11)) dB c a3 rfl rfl rfl) (mA rfl rfl rfl b (fun _ _=>aW (v:=i64 y) rfl) (gZ rfl (bB b rfl rfl ?_)))))))
  obtain ⟨c9,d0,a⟩:=aC a
  refine aQ (vs:=[zA (zCa r_a a1 c2 a4 c5),i64 d]) Tryz.call49 rfl (iP c (m.mono h) (n.mono h) d0) ?_
  rintro _ f5 ⟨d1,d2,rfl,a8⟩
  refine bM (aA ⟨⟨_,a8⟩,?_⟩)
  refine gZ rfl (bB b rfl rfl ?_)
  obtain ⟨d3,d4,a⟩:=aC a
  refine aQ (vs:=[zA (zCa r_b a7 c8 a10 c11),i64 y]) Tryz.call49 rfl (iP a8 (o.mono h) (p.mono h) d4) ?_
  rintro _ f6 ⟨d5,d6,rfl,a9⟩
  refine bM (aA ⟨⟨_,a9⟩,?_⟩)
  refine gZ rfl (bB b rfl rfl ?_)
  obtain ⟨f7,d7,d8,d9,e0⟩:=aI.lendS (i:=1) a9 h rfl
  obtain ⟨f8,e1,e2,e3,e4⟩:=aI.lendS (i:=0) d9 (zL h d7) rfl
  obtain ⟨b0,e5,a⟩:=aC a
  refine aQ (vs:=[zS d1 c9.length d2,zS d5 d3.length d6]) Tryz.call48 rfl (iW e3 (d8.mono e1) e2 e5) ?_
  rintro _ f9 ⟨rfl,e6⟩
  have e7:=e4 _ _ e6
  have b1:=e0 _ _ e7
  refine bM (aA ⟨⟨_,b1⟩,?_⟩)
  refine mA rfl rfl rfl b (fun _ _=>eR rfl) (bJ rfl (fun _ _=>bF (v:=zB (!b0)) b rfl rfl) (gR ?_))
  have e8:=a6 _ _ b1
  exact aA ⟨!b0,a,rfl,rfl,rfl,rfl,rfl,(aI.arr 3 [0] e8 rfl)⟩
 ·refine iR rfl rfl rfl (dC b) (iR rfl rfl rfl (dC b) (iR rfl rfl rfl (dC b) (iR rfl rfl rfl (dC b) (iR rfl rfl rfl (dC b) (iR rfl rfl rfl (dC b) (gZ rfl (aU (g:=11) b (by exact rfl) rfl (bM (aA ⟨⟨_,c⟩,?_⟩)))))))))
  refine gZ rfl (aU (g:=11) b (by exact rfl) rfl (bM (aA ⟨⟨_,c⟩,?_⟩)))
  refine gZ rfl (aU (g:=11) b (by exact rfl) rfl (bM (aA ⟨⟨_,c⟩,?_⟩)))
  refine iR rfl rfl rfl (dC b) (bJ rfl (fun _ _=>bH (v:=zB false) b rfl rfl) (gR ?_))
  have e9:=a6 _ _ c
  exact aA ⟨false,a,rfl,rfl,rfl,rfl,rfl,e9⟩
theorem aBJ {a b:cD} {kind:Int} {R:((List ((Int × Int) × Bool)) × Int)} (hs:aI G K (L) w) (h3:bX K a1 c2 a.L) (h6:bX K a4 c5 a.E) (h9:bX K a7 c8 b.L) (j3:bX K a10 c11 b.E) (hm:uB a b kind=some R):
  Calls Tryz.prog 23 ([zA (zCa a a1 c2 a4 c5),zA (zCa b a7 c8 a10 c11),i64 kind]:List Value).toArray w (gQ fun v w'=>∃ (j4:Nat),v=zT #[zM (some j4),i64 R.2]∧aI G K (sC j4 R.1::L) w'):=by
 let o:=(zC b a7 c8 a10 c11)
 let p:=(zC a a1 c2 a4 c5)
 refine aS Tryz.func23 rfl (by kernel_rfl) (by show (3:Nat)≤89;decide) ?_
 unfold uB at hm
 refine aK (eA (v:=zA (zCa a a1 c2 a4 c5)) (vs:=p) hs rfl rfl (fun d w14 o5=>(eA (v:=zA (zCa b a7 c8 a10 c11)) (vs:=o) o5 rfl rfl (fun e w17 o6=>(aF (v:=zM none) (aF (v:=i64 0) (aG (aK (aES (Int × Int) Bool o6 ?_)))))))))
 intro r o7 (o8:aI G K (sC r ([]:(List ((Int × Int) × Bool)))::box e 27 o::box d 27 p::L) o7)
 refine cQ (vs:=[zM none]) Tryz.zeroValue56 o8 rfl (fun c w23 o9=>(cZ (i:=0) (ns:=[zM (some r)]) (us:=[zM (some r)]) Tryz.sizeOf56 o9 rfl rfl rfl rfl rfl (fO rfl) rfl rfl ?_))
 intro p0 (j5:aI G K (box c 56 [zM (some r)]::sC r ([]:(List ((Int × Int) × Bool)))::box e 27 o::box d 27 p::L) p0)
 refine aG (aO (aK (aD (bL (t':=0) dP rfl rfl) (aD (dG bY j5 (i:=3) rfl rfl rfl) (aL (v:=i64 0) (aG (aZ (fun f w=>∃ (d5:(List ((Int × Int) × Bool))),qW a b kind d5=some R∧f 2=i64 kind∧f 3=zP (some ⟨d,0,none⟩)∧f 4=zP (some ⟨e,0,none⟩)∧f 8=zP (some ⟨c,0,none⟩)∧aI G K (box c 56 [zM (some r)]::sC r d5::box e 27 o::box d 27 p::L) w) ?_ ?_)))))))
 ·rintro f w32 ⟨d5,hm,p1,j6,j7,p2,f7⟩
  unfold qW at hm
  refine aA (aK (aD (bL (t':=1) oV j6 rfl) (aD (dG bY f7 (i:=3) rfl rfl rfl) (aD (bL (t':=1) oV j7 rfl) (aD (dG bY f7 (i:=2) rfl rfl rfl) (aD (aBZ (vs:=[(0,i64 a.I),(1,i64 b.I)]) (cs:=[i64 a.I,i64 b.I]) aCD aIK rfl (by kernel_rfl)) (cQ (vs:=[i64 0,i64 0]) Tryz.zeroValue66 f7 rfl (fun u w35 p3=>(cZ (i:=0) (ns:=[i64 a.I,i64 b.I]) (us:=[i64 a.I,i64 b.I]) Tryz.sizeOf66 p3 rfl rfl rfl rfl rfl (fO rfl) rfl rfl (fun p4 (p5:aI G K (box u 66 [i64 a.I,i64 b.I]::box c 56 [zM (some r)]::sC r d5::box e 27 o::box d 27 p::L) p4)=>(aG (aK (aF (v:=i64 (-1)) (aG (aK (aF (v:=i64 0) (aG (cI ?_))))))))))))))))))
  obtain ⟨a15,p6,hm⟩:=aC hm
  refine cC p6 (fun (s:((List ((Int × Int) × Bool)) × Int × Int)) f w=>match s with|(h,b4,a0)=>∃ (l:Nat),f 2=i64 kind∧f 3=zP (some ⟨d,0,none⟩)∧f 4=zP (some ⟨e,0,none⟩)∧f 8=zP (some ⟨c,0,none⟩)∧f 11=zP (some ⟨u,0,none⟩)∧f 12=i64 b4∧f 13=i64 a0∧aI G K (box u 66 [i64 a.I,i64 b.I]::box c 56 [zM (some l)]::sC l h::box e 27 o::box d 27 p::L) w) ?_ ?_
  ·exact ⟨r,p1,j6,j7,p2,rfl,rfl,rfl,p5⟩
  ·rintro ⟨h,b4,a0⟩ c0 f w72 m p7 ⟨l,j8,j9,k0,f8,f9,g0,k1,c1⟩
   replace m:nW a b kind h b4 a0=some c0:=m
   unfold nW at m
   refine aO (aZ (fun f w=>∃ (d6:(List ((Int × Int) × Bool))) (d7:Int) (d8:Nat),vJ a0 d6 d7=some c0∧f 2=i64 kind∧f 3=zP (some ⟨d,0,none⟩)∧f 4=zP (some ⟨e,0,none⟩)∧f 8=zP (some ⟨c,0,none⟩)∧f 11=zP (some ⟨u,0,none⟩)∧f 12=i64 d7∧f 13=i64 a0∧aI G K (sC d8 d6::box u 66 [i64 a.I,i64 b.I]::box c 56 [zM (some d8)]::box e 27 o::box d 27 p::L) w) ?_ ?_)
   ·rintro f a17 ⟨d6,d7,d8,m,p8,p9,q0,q1,q2,q3,q4,q5⟩
    unfold vJ at m
    exact aA (aP (aN q4 (aD (cK rfl rfl) (aF (v:=i64 (wr (a0+1))) (aG ⟨(d6,d7,wr (a0+1)),(zI m).symm,d8,p8,p9,q0,q1,q2,q3,rfl,(aI.arr 3 [1,2,0] q5 rfl)⟩)))))
   refine lV (fun f w=>∃ (a9:Int),nV a b kind h a0 a9=some c0∧f 2=i64 kind∧f 3=zP (some ⟨d,0,none⟩)∧f 4=zP (some ⟨e,0,none⟩)∧f 8=zP (some ⟨c,0,none⟩)∧f 11=zP (some ⟨u,0,none⟩)∧f 12=i64 a9∧f 13=i64 a0∧aI G K (box u 66 [i64 a.I,i64 b.I]::box c 56 [zM (some l)]::sC l h::box e 27 o::box d 27 p::L) w) ?_ ?_
   ·rintro f a18 ⟨a9,m,q6,k2,k3,g1,q7,q8,q9,g2⟩
    unfold nV at m
    refine aK (aD (cS (us:=p) dB g2 (i:=4) rfl k2 rfl rfl) (aD (cS (us:=o) dB g2 (i:=3) rfl k3 rfl rfl) (aD (vW (vs:=[zP (some ⟨c,0,none⟩)]) (lst1 g1)) (aD (nH (vs:=[(0,zA (zCa a a1 c2 a4 c5)),(1,zA (zCa b a7 c8 a10 c11)),(2,Value.func (.func 50) #[] #[zP (some ⟨c,0,none⟩)])]) (cs:=[i64 a.N,i64 a.I,zS a1 a.L.length c2,zS a4 a.E.length c5,i64 b.N,i64 b.I,zS a7 b.L.length c8,zS a10 b.E.length c11,Value.func (.func 50) #[] #[zP (some ⟨c,0,none⟩)]]) bs_69 rfl (by kernel_rfl)) (cQ (vs:=[i64 0,i64 0,zS none 0 0,zS none 0 0,i64 0,i64 0,zS none 0 0,zS none 0 0,Value.nilFunc]) Tryz.zeroValue69 g2 rfl (fun a5 a19 r0=>(cZ (i:=0) (ns:=[i64 a.N,i64 a.I,zS a1 a.L.length c2,zS a4 a.E.length c5,i64 b.N,i64 b.I,zS a7 b.L.length c8,zS a10 b.E.length c11,Value.func (.func 50) #[] #[zP (some ⟨c,0,none⟩)]]) (us:=[i64 a.N,i64 a.I,zS a1 a.L.length c2,zS a4 a.E.length c5,i64 b.N,i64 b.I,zS a7 b.L.length c8,zS a10 b.E.length c11,Value.func (.func 50) #[] #[zP (some ⟨c,0,none⟩)]]) Tryz.sizeOf69 r0 rfl rfl rfl rfl rfl (fO rfl) rfl rfl (fun r1 (r2:aI G K (box a5 69 [i64 a.N,i64 a.I,zS a1 a.L.length c2,zS a4 a.E.length c5,i64 b.N,i64 b.I,zS a7 b.L.length c8,zS a10 b.E.length c11,Value.func (.func 50) #[] #[zP (some ⟨c,0,none⟩)]]::box u 66 [i64 a.I,i64 b.I]::box c 56 [zM (some l)]::sC l h::box e 27 o::box d 27 p::L) r1)=>(aG (aK (aES (Int × Int) Bool r2 ?_)))))))))))
    intro J r3 (k4:aI G K (sC J ([]:(List ((Int × Int) × Bool)))::box a5 69 [i64 a.N,i64 a.I,zS a1 a.L.length c2,zS a4 a.E.length c5,i64 b.N,i64 b.I,zS a7 b.L.length c8,zS a10 b.E.length c11,Value.func (.func 50) #[] #[zP (some ⟨c,0,none⟩)]]::box u 66 [i64 a.I,i64 b.I]::box c 56 [zM (some l)]::sC l h::box e 27 o::box d 27 p::L) r3)
    refine aF (v:=zM (some J)) (aG (aO (aK (aD (dG aFa k4 (i:=3) rfl g1 rfl) (aHc (i:=4) Tryz.runUnderlying56 k4 rfl rfl ?_)))))
    intro b1 r4 (k5:aI G K (sC J ([]:(List ((Int × Int) × Bool)))::box a5 69 [i64 a.N,i64 a.I,zS a1 a.L.length c2,zS a4 a.E.length c5,i64 b.N,i64 b.I,zS a7 b.L.length c8,zS a10 b.E.length c11,Value.func (.func 50) #[] #[zP (some ⟨c,0,none⟩)]]::box u 66 [i64 a.I,i64 b.I]::box c 56 [zM (some l)]::mpi b1 l h (List.map Prod.fst h) none::box e 27 o::box d 27 p::L) r4)
    refine aG (aZ (fun f w=>∃ (c3:(List ((Int × Int) × Bool))),vK h a0 a9 c3=some c0∧f 2=i64 kind∧f 3=zP (some ⟨d,0,none⟩)∧f 4=zP (some ⟨e,0,none⟩)∧f 8=zP (some ⟨c,0,none⟩)∧f 11=zP (some ⟨u,0,none⟩)∧f 12=i64 a9∧f 13=i64 a0∧f 15=zM (some J)∧aI G K (sC J c3::box u 66 [i64 a.I,i64 b.I]::box c 56 [zM (some l)]::sC l h::box e 27 o::box d 27 p::L) w) ?_ ?_)
    ·rintro f a20 ⟨c3,m,r5,r6,r7,d9,r8,k6,r9,k7,b6⟩
     unfold vK at m
     refine aA (aO (aK (aN k7 (aD (R_lenM Tryz.runUnderlying56 b6 (i:=0) rfl rfl) (aD (dG aFa b6 (i:=2) rfl d9 rfl) (aD (R_lenM Tryz.runUnderlying56 b6 (i:=3) rfl rfl) (aD (lA rfl rfl) (aG ?_))))))))
     rcases aH m with ⟨g3,m⟩|⟨g3,m⟩
     ·refine aM g3 rfl (aK (aD (dG aFa b6 (i:=2) rfl d9 rfl) (aN k6 (aF (v:=zM (some l)) (aF (v:=i64 a9) (aG (bK (aX (bS (aX (aX (aX ?_))))))))))))
      have s0:=p7 _ (zI m).symm
      subst s0
      have hm:(some (h,a9))=some R:=hm
      obtain rfl:=zI hm
      exact bS (sA Tryz.results23 rfl rfl ⟨l,rfl,(aI.arr 6 [3] b6 rfl)⟩)
     ·exact aJ g3 rfl (aY (aA (aP (aN k7 (cZ (i:=2) (ns:=[zM (some J)]) (us:=[zM (some J)]) Tryz.sizeOf56 b6 rfl d9 rfl rfl rfl (fO rfl) rfl rfl (fun s2 (s3:aI G K (sC J c3::box u 66 [i64 a.I,i64 b.I]::box c 56 [zM (some J)]::sC l h::box e 27 o::box d 27 p::L) s2)=>(bM (bA (aA ⟨c3,a9,J,m,r5,r6,r7,d9,r8,k6,r9,(aI.arr 4 [0,1,2] s3 rfl)⟩)))))))))
    have s4:=aI.keysM (i:=0) k5 rfl
    obtain ⟨a21,k8,m⟩:=aC m
    obtain ⟨k9,s5,m⟩:=aC m
    refine aJx (fun (n:Nat) f w=>∃ (a6:List (Int × Int)) (b7:List (Int × Int)) (g4:Option ((Int × Int) × Bool)),List.Perm (a6++b7) (List.map Prod.fst h)∧b7.length=n∧f 2=i64 kind∧f 3=zP (some ⟨d,0,none⟩)∧f 4=zP (some ⟨e,0,none⟩)∧f 8=zP (some ⟨c,0,none⟩)∧f 11=zP (some ⟨u,0,none⟩)∧f 12=i64 a9∧f 13=i64 a0∧f 14=zP (some ⟨a5,0,none⟩)∧f 15=zM (some J)∧f 67=zP (some ⟨b1,0,none⟩)∧aI G K (sC J (aEW (gA a b kind h) ([]:(List ((Int × Int) × Bool))) true a6)::box a5 69 [i64 a.N,i64 a.I,zS a1 a.L.length c2,zS a4 a.E.length c5,i64 b.N,i64 b.I,zS a7 b.L.length c8,zS a10 b.E.length c11,Value.func (.func 50) #[] #[zP (some ⟨c,0,none⟩)]]::box u 66 [i64 a.I,i64 b.I]::box c 56 [zM (some l)]::mpi b1 l h b7 g4::box e 27 o::box d 27 p::L) w) (List.length (List.map Prod.fst h)) ⟨[],_,_,List.Perm.refl _,rfl,q6,k2,k3,g1,q7,q8,q9,rfl,rfl,rfl,k5⟩ ?_ ?_
    ·rintro f l0 ⟨a6,b7,g4,c4,c6,c7,e0,e1,e2,e3,e4,e5,e6,c9,b8,l1⟩
     obtain rfl:=List.length_eq_zero_iff.1 c6
     refine aK (aD (aJv l1 (i:=4) rfl b8) (aD (cH rfl rfl) (aG (aO (aJ (by decide:¬ false=true) rfl (cA (aV (aV ?_))))))))
     have s6:aI G K (sC J (aEW (gA a b kind h) ([]:(List ((Int × Int) × Bool))) true a6)::box a5 69 [i64 a.N,i64 a.I,zS a1 a.L.length c2,zS a4 a.E.length c5,i64 b.N,i64 b.I,zS a7 b.L.length c8,zS a10 b.E.length c11,Value.func (.func 50) #[] #[zP (some ⟨c,0,none⟩)]]::box u 66 [i64 a.I,i64 b.I]::box c 56 [zM (some l)]::sC l h::box e 27 o::box d 27 p::L) l0:=aI.endI (i:=4) l1 rfl
     have s7:aI G K (sC J k9::box a5 69 [i64 a.N,i64 a.I,zS a1 a.L.length c2,zS a4 a.E.length c5,i64 b.N,i64 b.I,zS a7 b.L.length c8,zS a10 b.E.length c11,Value.func (.func 50) #[] #[zP (some ⟨c,0,none⟩)]]::box u 66 [i64 a.I,i64 b.I]::box c 56 [zM (some l)]::sC l h::box e 27 o::box d 27 p::L) l0:=aI.permM (i:=0) s6 rfl (accS_end s4 k8 s5 c4)
     exact bN (aA ⟨k9,m,c7,e0,e1,e2,e3,e4,e5,c9,(aI.arr 2 [0] s7 rfl)⟩)
    ·rintro j f l2 ⟨a6,b7,g4,c4,c6,c7,e0,e1,e2,e3,e4,e5,e6,c9,b8,s8⟩
     have s9:b7≠[]:=by rintro rfl;cases c6
     refine aK (aHd s8 (i:=4) rfl s9 b8 ?_)
     intro x d0 d1 t0 d2 a22 (l3:aI G K (sC J (aEW (gA a b kind h) ([]:(List ((Int × Int) × Bool))) true a6)::box a5 69 [i64 a.N,i64 a.I,zS a1 a.L.length c2,zS a4 a.E.length c5,i64 b.N,i64 b.I,zS a7 b.L.length c8,zS a10 b.E.length c11,Value.func (.func 50) #[] #[zP (some ⟨c,0,none⟩)]]::box u 66 [i64 a.I,i64 b.I]::box c 56 [zM (some l)]::mpi b1 l h d1 (some (x,d0))::box e 27 o::box d 27 p::L) t0)
     obtain ⟨t1,g5⟩:=mfil_at k8 c4 d2
     have b2:(gA a b kind h) x=some t1:=g5
     unfold gA at b2
     refine aD (cH rfl rfl) (aG (aO (aM (rfl:true=true) rfl (aY (aA (cI (aK (aD (aJw l3 (i:=4) rfl b8) (aD (cH rfl rfl) (cQ (vs:=[i64 0,i64 0]) Tryz.zeroValue66 l3 rfl (fun l4 a23 t2=>(cZ (i:=0) (ns:=[i64 x.1,i64 x.2]) (us:=[i64 x.1,i64 x.2]) Tryz.sizeOf66 t2 rfl rfl rfl rfl rfl (fO rfl) rfl rfl ?_))))))))))))
     intro t3 (e7:aI G K (box l4 66 [i64 x.1,i64 x.2]::sC J (aEW (gA a b kind h) ([]:(List ((Int × Int) × Bool))) true a6)::box a5 69 [i64 a.N,i64 a.I,zS a1 a.L.length c2,zS a4 a.E.length c5,i64 b.N,i64 b.I,zS a7 b.L.length c8,zS a10 b.E.length c11,Value.func (.func 50) #[] #[zP (some ⟨c,0,none⟩)]]::box u 66 [i64 a.I,i64 b.I]::box c 56 [zM (some l)]::mpi b1 l h d1 (some (x,d0))::box e 27 o::box d 27 p::L) t3)
     refine aG (aK (aD (cS (us:=[i64 a.N,i64 a.I,zS a1 a.L.length c2,zS a4 a.E.length c5,i64 b.N,i64 b.I,zS a7 b.L.length c8,zS a10 b.E.length c11,Value.func (.func 50) #[] #[zP (some ⟨c,0,none⟩)]]) aEe e7 (i:=2) rfl e6 rfl rfl) (aN c7 (aD (aIG (t':=0) (j:=0) aCD rfl rfl (by decide) (by decide) rfl) (aD (dG bY e7 (i:=0) rfl rfl rfl) (aD (aIG (t':=1) (j:=1) aCD rfl rfl (by decide) (by decide) rfl) (aD (dG bY e7 (i:=0) rfl rfl rfl) ?_)))))))
     obtain ⟨a24,e8,t4,t5,t6⟩:=aI.lendI (i:=5) e7 rfl
     obtain ⟨a25,d3,t7,t8,t9⟩:=aI.lendB (i:=4) t5 rfl
     obtain ⟨a26,u0,b2⟩:=aC b2
     refine aQ (vs:=[zA #[i64 a.N,i64 a.I,zS a1 a.L.length c2,zS a4 a.E.length c5,i64 b.N,i64 b.I,zS a7 b.L.length c8,zS a10 b.E.length c11,Value.func (.func 50) #[] #[cP (some ⟨c,0,none⟩) 0]],i64 kind,i64 x.1,i64 x.2]) Tryz.call31 rfl (aAv (r_a:=⟨a.N,a.I,a.L,a.E⟩) (r_b:=⟨b.N,b.I,b.L,b.E⟩) t8 (h3.mono (zL e8 d3)) (h6.mono (zL e8 d3)) (h9.mono (zL e8 d3)) (j3.mono (zL e8 d3)) t7 (t4.mono d3) u0) ?_
     rintro _ l2 ⟨rfl,u1⟩
     have u2:=t9 _ _ u1
     have g6:=t6 _ _ u2
     refine aG ?_
     rcases aH b2 with ⟨g7,b2⟩|⟨g7,b2⟩
     ·refine aM g7 rfl (aP (aN c9 (aD (cS (us:=[i64 x.1,i64 x.2]) ag_66 g6 (i:=2) rfl rfl rfl rfl) (aET (i:=3) (k:=x) (v:=true) Tryz.runUnderlying56 aHg g6 rfl rfl rfl rfl rfl ?_))))
      intro l5 (u3:aI G K (mpi b1 l h d1 (some (x,d0))::box c 56 [zM (some l)]::box l4 66 [i64 x.1,i64 x.2]::sC J (uN (aEW (gA a b kind h) ([]:(List ((Int × Int) × Bool))) true a6) x true)::box a5 69 [i64 a.N,i64 a.I,zS a1 a.L.length c2,zS a4 a.E.length c5,i64 b.N,i64 b.I,zS a7 b.L.length c8,zS a10 b.E.length c11,Value.func (.func 50) #[] #[zP (some ⟨c,0,none⟩)]]::box u 66 [i64 a.I,i64 b.I]::box e 27 o::box d 27 p::L) l5)
      refine bM (bA (aA ?_))
      obtain rfl:=zI b2
      have u4:aI G K (sC J (aEW (gA a b kind h) ([]:(List ((Int × Int) × Bool))) true (a6++[x]))::box a5 69 [i64 a.N,i64 a.I,zS a1 a.L.length c2,zS a4 a.E.length c5,i64 b.N,i64 b.I,zS a7 b.L.length c8,zS a10 b.E.length c11,Value.func (.func 50) #[] #[zP (some ⟨c,0,none⟩)]]::box u 66 [i64 a.I,i64 b.I]::box c 56 [zM (some l)]::mpi b1 l h d1 (some (x,d0))::box e 27 o::box d 27 p::L) l5:=by rw [accS_t g5];exact (aI.arr 6 [3,4,5,1,0] u3 rfl)
      exact ⟨a6++[x],_,_,aDz c4 d2,aEX d2 c6,c7,e0,e1,e2,e3,e4,e5,e6,c9,b8,u4⟩
     ·refine aJ g7 rfl (aY (bA (aA ?_)))
      obtain rfl:=zI b2
      have u5:aI G K (sC J (aEW (gA a b kind h) ([]:(List ((Int × Int) × Bool))) true (a6++[x]))::box a5 69 [i64 a.N,i64 a.I,zS a1 a.L.length c2,zS a4 a.E.length c5,i64 b.N,i64 b.I,zS a7 b.L.length c8,zS a10 b.E.length c11,Value.func (.func 50) #[] #[zP (some ⟨c,0,none⟩)]]::box u 66 [i64 a.I,i64 b.I]::box c 56 [zM (some l)]::mpi b1 l h d1 (some (x,d0))::box e 27 o::box d 27 p::L) l2:=by rw [accS_f g5];exact (aI.arr 6 [3,4,5,1,0] g6 rfl)
      exact ⟨a6++[x],_,_,aDz c4 d2,aEX d2 c6,c7,e0,e1,e2,e3,e4,e5,e6,c9,b8,u5⟩
   refine aO (dO (fun f w=>∃ (g8:Bool),lS a b kind h b4 a0 g8=some c0∧f 2=i64 kind∧f 3=zP (some ⟨d,0,none⟩)∧f 4=zP (some ⟨e,0,none⟩)∧f 8=zP (some ⟨c,0,none⟩)∧f 11=zP (some ⟨u,0,none⟩)∧f 12=i64 b4∧f 13=i64 a0∧f 59=zB g8∧aI G K (box u 66 [i64 a.I,i64 b.I]::box c 56 [zM (some l)]::sC l h::box e 27 o::box d 27 p::L) w) ?_ ?_)
   ·rintro f a27 ⟨g8,m,l6,l7,l8,l9,m0,u6,g9,m1,m2⟩
    unfold lS at m
    refine aA ?_
    rcases aH m with ⟨h0,m⟩|⟨h0,m⟩
    ·exact aM h0 m1 (aP (aN g9 (aF (v:=i64 a0) (aG ⟨a0,m,l6,l7,l8,l9,m0,rfl,g9,m2⟩))))
    ·exact aJ h0 m1 (aY (aA ⟨b4,m,l6,l7,l8,l9,m0,u6,g9,m2⟩))
   refine aP (aN g0 (aD (cT rfl rfl) (aL (v:=zB (decide (b4 < 0))) ?_)))
   rcases aH m with ⟨a8,m⟩|⟨a8,m⟩
   ·exact bB a8 rfl rfl (aD (dG aFa c1 (i:=1) rfl f8 rfl) (bB a8 rfl rfl (aD (cS (us:=[i64 a.I,i64 b.I]) ag_66 c1 (i:=0) rfl f9 rfl rfl) (bB a8 rfl rfl (aD (R_look1 (kv:=h) (k:=⟨a.I,b.I⟩) (z:=(false:Bool)) Tryz.runUnderlying56 aHg Tryz.zeroValue4 c1 (i:=2) rfl rfl rfl) (bB a8 rfl rfl (aD (eR rfl) (aD (bF (v:=zB (!((kZ h ⟨a.I,b.I⟩).getD false))) a8 rfl rfl) (aG ⟨!((kZ h ⟨a.I,b.I⟩).getD false),m,j8,j9,k0,f8,f9,g0,k1,rfl,c1⟩)))))))))
   ·exact aU a8 rfl rfl (aU a8 rfl rfl (aU a8 rfl rfl (aU a8 rfl rfl (aD (bH (v:=zB false) a8 rfl rfl) (aG ⟨false,m,j8,j9,k0,f8,f9,g0,k1,rfl,c1⟩)))))
 obtain ⟨a28,u7,hm⟩:=aC hm
 refine cC u7 (fun (s:((List ((Int × Int) × Bool)) × Int)) f w=>match s with|(d4,y)=>f 2=i64 kind∧f 3=zP (some ⟨d,0,none⟩)∧f 4=zP (some ⟨e,0,none⟩)∧f 8=zP (some ⟨c,0,none⟩)∧f 19=i64 a.N∧f 20=i64 y∧aI G K (box c 56 [zM (some r)]::sC r d4::box e 27 o::box d 27 p::L) w) ?_ ?_
 ·exact ⟨rfl,rfl,rfl,rfl,rfl,rfl,j5⟩
 ·rintro ⟨d4,y⟩ e9 f a29 V u8 ⟨m3,m4,h1,m5,m6,h2,h4⟩
  replace V:jT a b kind d4 y=some e9:=V
  unfold jT at V
  refine aK (aD (cT h2 m6) (aG (aO ?_)))
  rcases aH V with ⟨h5,V⟩|⟨h5,V⟩
  ·refine aM h5 rfl (aY (aA (aO (aZ (fun f w=>∃ (f0:(List ((Int × Int) × Bool))),vL y f0=some e9∧f 2=i64 kind∧f 3=zP (some ⟨d,0,none⟩)∧f 4=zP (some ⟨e,0,none⟩)∧f 8=zP (some ⟨c,0,none⟩)∧f 19=i64 a.N∧f 20=i64 y∧aI G K (box c 56 [zM (some r)]::sC r f0::box e 27 o::box d 27 p::L) w) ?_ ?_))))
   ·rintro f a30 ⟨f0,V,u9,v0,v1,v2,v3,v4,v5⟩
    unfold vL at V
    exact aA (aP (aD (cK v4 rfl) (aL (v:=i64 (wr (y+1))) (aG ⟨(f0,wr (y+1)),(zI V).symm,u9,v0,v1,v2,v3,rfl,v5⟩))))
   refine aK (aN h2 (aF (v:=i64 y) (aG (aK (aD (bL (t':=0) dP h1 rfl) (aD (dG bY h4 (i:=2) rfl rfl rfl) (aL (v:=i64 0) (aG (aZ (fun f w=>∃ (f1:(List ((Int × Int) × Bool))),qX y f1=some e9∧f 2=i64 kind∧f 3=zP (some ⟨d,0,none⟩)∧f 4=zP (some ⟨e,0,none⟩)∧f 8=zP (some ⟨c,0,none⟩)∧f 19=i64 a.N∧f 20=i64 y∧aI G K (box c 56 [zM (some r)]::sC r f1::box e 27 o::box d 27 p::L) w) ?_ ?_)))))))))
   ·rintro f a31 ⟨f1,V,v6,v7,v8,v9,w0,w1,w2⟩
    unfold qX at V
    exact bA (aA ⟨f1,V,v6,v7,v8,v9,w0,w1,w2⟩)
   obtain ⟨a32,w3,V⟩:=aC V
   refine cC w3 (fun (s:((List ((Int × Int) × Bool)) × Int)) f w=>match s with|(b3,a2)=>f 2=i64 kind∧f 3=zP (some ⟨d,0,none⟩)∧f 4=zP (some ⟨e,0,none⟩)∧f 8=zP (some ⟨c,0,none⟩)∧f 9=i64 y∧f 19=i64 a.N∧f 20=i64 y∧f 24=i64 b.N∧f 25=i64 a2∧aI G K (box c 56 [zM (some r)]::sC r b3::box e 27 o::box d 27 p::L) w) ?_ ?_
   ·exact ⟨m3,m4,h1,m5,rfl,m6,h2,rfl,rfl,h4⟩
   ·rintro ⟨b3,a2⟩ h7 f a33 q w4 ⟨f2,f3,f4,h8,i0,i1,i2,i3,f5,m7⟩
    replace q:jS a b kind y b3 a2=some h7:=q
    unfold jS at q
    refine aK (aD (cT f5 i3) (aG (aO ?_)))
    rcases aH q with ⟨i4,q⟩|⟨i4,q⟩
    ·refine aM i4 rfl (aY (aA (aO (aZ (fun f w=>∃ (f6:(List ((Int × Int) × Bool))),pR a2 f6=some h7∧f 2=i64 kind∧f 3=zP (some ⟨d,0,none⟩)∧f 4=zP (some ⟨e,0,none⟩)∧f 8=zP (some ⟨c,0,none⟩)∧f 9=i64 y∧f 19=i64 a.N∧f 20=i64 y∧f 24=i64 b.N∧f 25=i64 a2∧aI G K (box c 56 [zM (some r)]::sC r f6::box e 27 o::box d 27 p::L) w) ?_ ?_))))
     ·rintro f a34 ⟨f6,q,w5,w6,w7,w8,w9,x0,x1,x2,x3,x4⟩
      unfold pR at q
      exact aA (aP (aD (cK x3 rfl) (aL (v:=i64 (wr (a2+1))) (aG ⟨(f6,wr (a2+1)),(zI q).symm,w5,w6,w7,w8,w9,x0,x1,x2,rfl,x4⟩))))
     refine aK (aN f5 (aF (v:=i64 a2) (aG (aO (dO (fun f w=>∃ (i5:Bool),mQ y b3 a2 i5=some h7∧f 2=i64 kind∧f 3=zP (some ⟨d,0,none⟩)∧f 4=zP (some ⟨e,0,none⟩)∧f 8=zP (some ⟨c,0,none⟩)∧f 9=i64 y∧f 10=i64 a2∧f 19=i64 a.N∧f 20=i64 y∧f 24=i64 b.N∧f 25=i64 a2∧f 38=zB i5∧aI G K (box c 56 [zM (some r)]::sC r b3::box e 27 o::box d 27 p::L) w) ?_ ?_)))))
     ·rintro f a35 ⟨i5,q,m8,m9,n0,i6,i7,x5,n1,n2,n3,n4,n5,i8⟩
      unfold mQ at q
      refine aA ?_
      rcases aH q with ⟨i9,q⟩|⟨i9,q⟩
      ·refine aM i9 n5 (aP (aD (dG aFa i8 (i:=0) rfl i6 rfl) (aN i7 (aN x5 (aD (aBZ (vs:=[(0,i64 y),(1,i64 a2)]) (cs:=[i64 y,i64 a2]) aCD aIK rfl (by kernel_rfl)) ?_)))))
       obtain ⟨n6,x6,q⟩:=aC q
       exact aET (i:=1) (k:=⟨y,a2⟩) (v:=true) Tryz.runUnderlying56 aHg i8 rfl rfl rfl rfl x6 (fun x7 (x8:aI G K (box c 56 [zM (some r)]::sC r n6::box e 27 o::box d 27 p::L) x7)=>(bM (bA (aA ⟨n6,q,m8,m9,n0,i6,i7,n1,n2,n3,n4,x8⟩))))
      ·exact aJ i9 n5 (aY (bA (aA ⟨b3,q,m8,m9,n0,i6,i7,n1,n2,n3,n4,i8⟩)))
     obtain ⟨a36,b9,x9,y0,n7⟩:=aI.lendB (i:=2) m7 rfl
     obtain ⟨y1,b5,y2,n8,n9⟩:=aI.lendB (i:=2) y0 rfl
     refine dQ (C:=fun w'=>∃ L',aI G y1 L' w') [(0,0),(1,0),(2,0),(3,0),(4,0),(6,0),(7,0),(5,1),(8,1),(9,1),(10,0)] bP (by kernel_rfl) (fun _ hg=>⟨_,aI.mono n8 hg⟩) (fun a37 y3=>?_)
     have b0:=aI.mono n8 y3
     refine bJ rfl (fun _ _=>aW f2) (bJ rfl (fun _ _=>uK rfl rfl) (bJ rfl (fun _ _=>aW (v:=zB (kind != 1)) rfl) ?_))
     rcases aH q with ⟨Z,q⟩|⟨Z,q⟩
     ·refine iR rfl rfl rfl (eZ Z) (iR rfl rfl rfl (eZ Z) (iR rfl rfl rfl (eZ Z) (iR rfl rfl rfl (eZ Z) (gZ rfl (aT (g:=30) Z (by exact rfl) rfl (bM (aA ⟨⟨_,b0⟩,?_⟩)))))))
      refine gZ rfl (aT (g:=30) Z (by exact rfl) rfl (bM (aA ⟨⟨_,b0⟩,?_⟩)))
      refine gZ rfl (aT (g:=30) Z (by exact rfl) rfl (bM (aA ⟨⟨_,b0⟩,?_⟩)))
      refine bJ rfl (fun _ _=>bF (v:=zB true) Z rfl rfl) (gR ?_)
      have y4:=n9 _ _ b0
      have y5:=n7 _ _ y4
      exact aA ⟨true,q,f2,f3,f4,h8,i0,rfl,i1,i2,i3,f5,rfl,(aI.arr 4 [2,3,0,1] y5 rfl)⟩
     ·refine mA rfl rfl rfl (gF Z) (fun _ ⟨_,b0⟩=>iD (t:=0) (vs:=p) dB b0 y2 f3 rfl rfl) (mA rfl rfl rfl (gF Z) (fun _ _=>aW i0) (mA rfl rfl rfl (gF Z) (fun _ ⟨_,b0⟩=>iD (t:=0) (vs:=o) dB b0 (x9.mono b5) f4 rfl rfl) (mA rfl rfl rfl (gF Z) (fun _ _=>aW (v:=i64 a2) rfl) (gZ rfl (bD Z rfl rfl ?_)))))
      obtain ⟨y6,y7,q⟩:=aC q
      refine aQ (vs:=[zA (zCa a a1 c2 a4 c5),i64 y]) Tryz.call49 rfl (iP b0 (h3.mono (zL b9 b5)) (h6.mono (zL b9 b5)) y7) ?_
      rintro _ a38 ⟨y8,y9,rfl,o0⟩
      refine bM (aA ⟨⟨_,o0⟩,?_⟩)
      refine gZ rfl (bD Z rfl rfl ?_)
      obtain ⟨z0,z1,q⟩:=aC q
      refine aQ (vs:=[zA (zCa b a7 c8 a10 c11),i64 a2]) Tryz.call49 rfl (iP o0 (h9.mono (zL b9 b5)) (j3.mono (zL b9 b5)) z1) ?_
      rintro _ a39 ⟨z2,z3,rfl,o1⟩
      refine bM (aA ⟨⟨_,o1⟩,?_⟩)
      refine gZ rfl (bD Z rfl rfl ?_)
      obtain ⟨a40,z4,z5,z6,z7⟩:=aI.lendS (i:=1) o1 (zL b9 b5) rfl
      obtain ⟨a41,z8,z9,a00,a01⟩:=aI.lendS (i:=0) z6 (zL (zL b9 b5) z4) rfl
      obtain ⟨o2,a02,q⟩:=aC q
      refine aQ (vs:=[zS y8 y6.length y9,zS z2 z0.length z3]) Tryz.call48 rfl (iW a00 (z5.mono z8) z9 a02) ?_
      rintro _ a42 ⟨rfl,a03⟩
      have a04:=a01 _ _ a03
      have o3:=z7 _ _ a04
      refine bM (aA ⟨⟨_,o3⟩,?_⟩)
      refine bJ rfl (fun _ _=>bH (v:=zB o2) Z rfl rfl) (gR ?_)
      have a05:=n9 _ _ o3
      have a06:=n7 _ _ a05
      exact aA ⟨o2,q,f2,f3,f4,h8,i0,rfl,i1,i2,i3,f5,rfl,(aI.arr 6 [4,5,0,1] a06 rfl)⟩
    ·refine aJ i4 rfl (cA (aV (aV ?_)))
     have a07:=w4 _ (zI q).symm
     subst a07
     have V:(qX y b3)=some e9:=V
     exact bN (aA ⟨b3,V,f2,f3,f4,h8,i1,i2,m7⟩)
  ·refine aJ h5 rfl (cA (aV (aV ?_)))
   have a08:=u8 _ (zI V).symm
   subst a08
   have hm:(qW a b kind d4)=some R:=hm
   exact bN (aA ⟨d4,hm,m3,m4,h1,m5,h4⟩)
theorem aFU {a b:cD} {kind:Int} {R:Bool} (k:aI G K (L) w) (l:bX K a1 c2 a.L) (m:bX K a4 c5 a.E) (n:bX K a7 c8 b.L) (o:bX K a10 c11 b.E) (c:aBE a b kind=some R):
  Calls Tryz.prog 22 ([zA (zCa a a1 c2 a4 c5),zA (zCa b a7 c8 a10 c11),i64 kind]:List Value).toArray w (gQ fun v w'=>v=zB R∧aI G K (L) w'):=by
 let g:=(zC b a7 c8 a10 c11)
 let h:=(zC a a1 c2 a4 c5)
 refine aS Tryz.func22 rfl (by kernel_rfl) (by show (3:Nat)≤18;decide) ?_
 unfold aBE at c
 refine aK (eA (v:=zA (zCa a a1 c2 a4 c5)) (vs:=h) k rfl rfl (fun u x p=>(eA (v:=zA (zCa b a7 c8 a10 c11)) (vs:=g) p rfl rfl (fun y z e=>(aF (v:=zB false) (aG (aK (aD (cS (us:=h) dB e (i:=1) rfl rfl rfl rfl) (aD (cS (us:=g) dB e (i:=0) rfl rfl rfl rfl) (aL (v:=i64 kind) ?_))))))))))
 obtain ⟨d,q,c⟩:=aC c
 refine aQ (vs:=[zA (zCa a a1 c2 a4 c5),zA (zCa b a7 c8 a10 c11),i64 kind]) Tryz.call23 rfl (aBJ e l m n o q) ?_
 rintro _ J ⟨j,rfl,r⟩
 refine aL (v:=zT #[zM (some j),i64 d.2]) (aD (cH rfl rfl) (aD (cH rfl rfl) (aF (v:=zM (some j)) (aF (v:=i64 d.2) (aG (aK (aL (v:=i64 d.2) (aD (cT rfl rfl) (aF (v:=zB (decide (d.2 < 0))) (aG ?_))))))))))
 obtain rfl:=zI c
 exact bK (bE Tryz.results22 rfl ⟨rfl,(aI.arr 3 [] r rfl)⟩)
theorem pY {a b:cD} {kind:Int} {R:(Bool × Int)} (q:aI G K (L) w) (r:G.lo=0) (l:bX K a1 c2 a.L) (m:bX K a4 c5 a.E) (n:bX K a7 c8 b.L) (o:bX K a10 c11 b.E) (c:jB a b kind=some R):
  Calls Tryz.prog 7 ([zA (zCa a a1 c2 a4 c5),zA (zCa b a7 c8 a10 c11),i64 kind]:List Value).toArray w (gQ fun v w'=>v=zT #[zB R.1,i64 R.2]∧aI G K (L) w'):=by
 let p:=[zA (zCa a a1 c2 a4 c5),zA (zCa b a7 c8 a10 c11),i64 kind]
 let g:=(zC b a7 c8 a10 c11)
 let h:=(zC a a1 c2 a4 c5)
 refine aS Tryz.func7 rfl (by kernel_rfl) (by show (3:Nat)≤20;decide) ?_
 unfold jB at c
 refine aK (eA (v:=zA (zCa a a1 c2 a4 c5)) (vs:=h) q rfl rfl (fun Z a0 t=>(eA (v:=zA (zCa b a7 c8 a10 c11)) (vs:=g) t rfl rfl (fun a2 a3 j=>(aF (v:=zB false) (aF (v:=i64 0) (aG (aO (aK (aD (cS (us:=h) dB j (i:=1) rfl rfl rfl rfl) (aD (cS (us:=g) dB j (i:=0) rfl rfl rfl rfl) (aL (v:=i64 kind) ?_))))))))))))
 obtain ⟨d,u,c⟩:=aC c
 refine aQ (vs:=p) Tryz.call21 rfl (yG j r l m n o u) ?_
 rintro _ a5 ⟨rfl,e⟩
 refine aF (v:=i64 d) (aG (aK (aL (v:=i64 d) (aD (uK rfl rfl) (aG ?_)))))
 rcases aH c with ⟨k,c⟩|⟨k,c⟩
 ·refine aM k rfl (aK (aL (v:=i64 d) (aF (v:=zB false) (aF (v:=i64 d) (aG ?_)))))
  obtain rfl:=zI c
  exact bK (aX (sA Tryz.results7 rfl rfl ⟨rfl,(aI.arr 2 [] e rfl)⟩))
 ·refine aJ k rfl (aY (aA (aK (aD (cS (us:=h) dB e (i:=1) rfl rfl rfl rfl) (aD (cS (us:=g) dB e (i:=0) rfl rfl rfl rfl) (aL (v:=i64 kind) ?_))))))
  obtain ⟨y,z,c⟩:=aC c
  refine aQ (vs:=p) Tryz.call22 rfl (aFU e l m n o z) ?_
  rintro _ a6 ⟨rfl,J⟩
  refine aF (v:=zB y) (aF (v:=i64 0) (aG ?_))
  obtain rfl:=zI c
  exact bK (sA Tryz.results7 rfl rfl ⟨rfl,(aI.arr 2 [] J rfl)⟩)
theorem aDT {d:(List ((Int × Int) × Bool))} {e:Nat} {R:((List (List Int)) × (List ((Int × Int) × Bool)))} (hs:aI G K (sC e d::L) w) (g:xS d=some R):
  Calls Tryz.prog 24 ([zM (some e)]:List Value).toArray w (gQ fun v w'=>∃ (b2:Option Addr) (b3:Nat) (a2:List (Dp.Hd (List Int))),v=zS b2 R.1.length b3∧List.length a2=List.length R.1∧aI G K (aR 40 K b2 b3 (bU a2 R.1)::rows [2] a2 R.1::sC e R.2::L) w'):=by
 refine aS Tryz.func24 rfl (by kernel_rfl) (by show (1:Nat)≤22;decide) ?_
 unfold xS at g
 refine aK (aF (v:=zS none 0 0) (aG (aK (aF (v:=zS none 0 0) (aG (aO (aK (aL (v:=zM (some e)) (aHc (i:=0) Tryz.runUnderlying56 hs rfl rfl (fun m w3 (c4:aI G K (mpi m e d (List.map Prod.fst d) none::L) w3)=>(aG (aZ (fun f w=>∃ (q:List (List Int)) (o:Option Addr) (p:Nat) (V:List (Dp.Hd (List Int))),lK d q=some R∧f 3=zS o q.length p∧List.length V=List.length q∧aI G K (aR 40 K o p (bU V q)::rows [2] V q::sC e d::L) w) ?_ ?_))))))))))))
 ·rintro f e8 ⟨q,o,p,V,g,b5,c5,c6⟩
  unfold lK at g
  refine aA (aK (aN b5 ?_))
  obtain ⟨b6,c8,g⟩:=aC g
  refine aQ (vs:=[zS o q.length p,Value.func (.func 52) #[] #[]]) Tryz.call51 rfl (lib_SortRows c6 c5 c8) ?_
  rintro _ e9 ⟨c9,rfl,d0,d1,d2⟩
  refine aG (aK (aN (v:=zS o b6.length p) (Eq.trans b5 (congrArg (fun n=>zS o n p) d0)) (aF (v:=zS o b6.length p) (aG ?_))))
  obtain rfl:=zI g
  exact bK (bE Tryz.results24 rfl ⟨o,p,c9,rfl,d1,d2⟩)
 have d4:aI G K (aR 40 K none 0 (bU ([]:List (Dp.Hd (List Int))) ([]:List (List Int)))::rows [2] ([]:List (Dp.Hd (List Int))) ([]:List (List Int))::mpi m e d (List.map Prod.fst d) none::L) w3:=aI.nil (α:=Cells _) (aI.rowsNil (α:=(List Int)) (tys:=[2]) c4) 40 K
 obtain ⟨f0,b7,g⟩:=aC g
 refine aJx (fun (n:Nat) f w=>∃ (r:List (Int × Int)) (t:List (Int × Int)) (a3:Option ((Int × Int) × Bool)) (b:List (List Int)) (h:Option Addr) (k:Nat) (c:List (Dp.Hd (List Int))),List.Perm (r++t) (List.map Prod.fst d)∧t.length=n∧b=List.map (fun (a:(Int × Int))=>([a.1,a.2]:List Int)) r∧List.length c=List.length b∧f 3=zS h b.length k∧f 6=zP (some ⟨m,0,none⟩)∧aI G K (aR 40 K h k (bU c b)::rows [2] c b::mpi m e d t a3::L) w) (List.length (List.map Prod.fst d)) ⟨[],_,_,[],_,_,_,List.Perm.refl _,rfl,rfl,rfl,rfl,rfl,d4⟩ ?_ ?_
 ·rintro f d5 ⟨r,t,a3,b,h,k,c,Z,a0,a4,a1,a5,y,b8⟩
  obtain rfl:=List.length_eq_zero_iff.1 a0
  replace g:(lK d b)=some R:=by unfold lK at g ⊢;rw [aIh (mapp_perm b7 Z a4)];exact g
  refine aK (aD (aJv b8 (i:=2) rfl y) (aD (cH rfl rfl) (aG (aO (aJ (by decide:¬ false=true) rfl (cA (aV (aV ?_))))))))
  have d6:aI G K (aR 40 K h k (bU c b)::rows [2] c b::sC e d::L) d5:=aI.endI (i:=2) b8 rfl
  exact bN (aA ⟨b,h,k,c,g,a5,a1,d6⟩)
 ·rintro j f b9 ⟨r,t,a3,b,h,k,c,Z,a0,a4,a1,a5,y,d7⟩
  have d8:t≠[]:=by rintro rfl;cases a0
  refine aK (aHd d7 (i:=2) rfl d8 y (fun a u x d9 a7 f1 (c0:aI G K (aR 40 K h k (bU c b)::rows [2] c b::mpi m e d x (some (a,u))::L) d9)=>?_))
  have a8:(ob (sI b ([([a.1,a.2]:List Int)]:List (List Int))) fun z=>some z)=some (List.map (fun (a:(Int × Int))=>([a.1,a.2]:List Int)) (r++[a])):=mapp_at b7 Z a7 a4
  refine aD (cH rfl rfl) (aG (aO (aM (rfl:true=true) rfl (aY (aA (cI (aK (aD (aJw c0 (i:=2) rfl y) (aD (cH rfl rfl) (cQ (vs:=[i64 0,i64 0]) Tryz.zeroValue66 c0 rfl (fun J f2 e0=>(cZ (i:=0) (ns:=[i64 a.1,i64 a.2]) (us:=[i64 a.1,i64 a.2]) Tryz.sizeOf66 e0 rfl rfl rfl rfl rfl (fO rfl) rfl rfl (fun e1 (a9:aI G K (box J 66 [i64 a.1,i64 a.2]::aR 40 K h k (bU c b)::rows [2] c b::mpi m e d x (some (a,u))::L) e1)=>(aG (aP (aN a5 (aD (aIG (t':=0) (j:=0) aCD rfl rfl (by decide) (by decide) rfl) (aD (dG bY a9 (i:=0) rfl rfl rfl) (aD (aIG (t':=1) (j:=1) aCD rfl rfl (by decide) (by decide) rfl) (aD (dG bY a9 (i:=0) rfl rfl rfl) (cJ (Kt:=K) (xs:=([a.1,a.2]:List Int)) (cs:=[i64 a.1,i64 a.2]) (vs:=[(0,i64 a.1),(1,i64 a.2)]) bO jU rfl rfl a9 rfl (by kernel_rfl) rfl rfl rfl ⟨rfl,rfl,trivial⟩ (fun l c1 (e2:aI G K (aR 2 K l 2 ([a.1,a.2]:List Int)::box J 66 [i64 a.1,i64 a.2]::aR 40 K h k (bU c b)::rows [2] c b::mpi m e d x (some (a,u))::L) c1)=>?_))))))))))))))))))))))
  have e3:aI G K (rows [2] ([(l,2)]:List (Dp.Hd (List Int))) [([a.1,a.2]:List Int)]::box J 66 [i64 a.1,i64 a.2]::aR 40 K h k (bU c b)::rows [2] c b::mpi m e d x (some (a,u))::L) c1:=aI.rowsOne e2
  refine cJ (Kt:=K) (xs:=bU ([(l,2)]:List (Dp.Hd (List Int))) ([([a.1,a.2]:List Int)]:List (List Int))) (cs:=[zS l ([a.1,a.2]:List Int).length 2]) (vs:=[(0,zS l ([a.1,a.2]:List Int).length 2)]) fD qD rfl rfl e3 rfl (by kernel_rfl) rfl rfl rfl ⟨rfl,trivial⟩ ?_
  intro e4 e5 (e6:aI G K (aR 40 K e4 1 (bU ([(l,2)]:List (Dp.Hd (List Int))) ([([a.1,a.2]:List Int)]:List (List Int)))::rows [2] ([(l,2)]:List (Dp.Hd (List Int))) ([([a.1,a.2]:List Int)]:List (List Int))::box J 66 [i64 a.1,i64 a.2]::aR 40 K h k (bU c b)::rows [2] c b::mpi m e d x (some (a,u))::L) e5)
  obtain ⟨z,c2,a8⟩:=aC a8
  refine WO_appD (i:=1) (tys:=[2]) (hds:=c) (hds2:=([(l,2)]:List (Dp.Hd (List Int)))) fD Tryz.underlying33 qD rfl rfl e6 a1 rfl rfl rfl c2 rfl rfl rfl rfl ?_
  intro b0 b1 b9 (e7:aI G K (aR 40 K b0 b1 (bU (c++([(l,2)]:List (Dp.Hd (List Int)))) z)::rows [2] (c++([(l,2)]:List (Dp.Hd (List Int)))) z::box J 66 [i64 a.1,i64 a.2]::mpi m e d x (some (a,u))::L) b9)
  refine aF (v:=zS b0 z.length b1) (bM (bA (aA ?_)))
  obtain rfl:=zI a8
  exact ⟨r++[a],_,_,_,b0,b1,(c++([(l,2)]:List (Dp.Hd (List Int)))),aDz Z a7,aEX a7 a0,rfl,(aJt a1 rfl c2),rfl,y,(aI.arr 3 [0,1] e7 rfl)⟩
theorem aDU {a b:cD} {kind:Int} {R:((List (List Int)) × Int)} (hs:aI G K (L) w) (hG:G.lo=0) (p:bX K a1 c2 a.L) (q:bX K a4 c5 a.E) (r:bX K a7 c8 b.L) (t:bX K a10 c11 b.E) (c:pS a b kind=some R):
  Calls Tryz.prog 8 ([zA (zCa a a1 c2 a4 c5),zA (zCa b a7 c8 a10 c11),i64 kind]:List Value).toArray w (gQ fun v w'=>∃ (u:Option Addr) (x:Nat) (l:List (Dp.Hd (List Int))),v=zT #[zS u R.1.length x,i64 R.2]∧List.length l=List.length R.1∧aI G K (aR 40 K u x (bU l R.1)::rows [2] l R.1::L) w'):=by
 let d:=(zC b a7 c8 a10 c11)
 let e:=(zC a a1 c2 a4 c5)
 let y:=[zA (zCa a a1 c2 a4 c5),zA (zCa b a7 c8 a10 c11),i64 kind]
 let z:=aR 40 K none 0 (bU ([]:List (Dp.Hd (List Int))) ([]:List (List Int)))
 refine aS Tryz.func8 rfl (by kernel_rfl) (by show (3:Nat)≤29;decide) ?_
 unfold pS at c
 refine aK (eA (v:=zA (zCa a a1 c2 a4 c5)) (vs:=e) hs rfl rfl (fun J c3 a6=>(eA (v:=zA (zCa b a7 c8 a10 c11)) (vs:=d) a6 rfl rfl (fun V c4 m=>(aF (v:=zS none 0 0) (aF (v:=i64 0) (aG (aO (aK (aD (cS (us:=e) dB m (i:=1) rfl rfl rfl rfl) (aD (cS (us:=d) dB m (i:=0) rfl rfl rfl rfl) (aL (v:=i64 kind) ?_))))))))))))
 obtain ⟨h,a8,c⟩:=aC c
 refine aQ (vs:=y) Tryz.call21 rfl (yG m hG p q r t a8) ?_
 rintro _ a9 ⟨rfl,j⟩
 refine aF (v:=i64 h) (aG (aK (aL (v:=i64 h) (aD (uK rfl rfl) (aG ?_)))))
 rcases aH c with ⟨n,c⟩|⟨n,c⟩
 ·refine aM n rfl (aK (aL (v:=i64 h) (aF (v:=zS none 0 0) (aF (v:=i64 h) (aG ?_)))))
  have b0:aI G K (z::rows [2] ([]:List (Dp.Hd (List Int))) ([]:List (List Int))::box V 27 d::box J 27 e::L) a9:=aI.nil (α:=Cells _) (aI.rowsNil (α:=(List Int)) (tys:=[2]) j) 40 K
  obtain rfl:=zI c
  exact bK (aX (sA Tryz.results8 rfl rfl ⟨none,0,([]:List (Dp.Hd (List Int))),rfl,rfl,(aI.arr 4 [0,1] b0 rfl)⟩))
 ·refine aJ n rfl (aY (aA (aK (aD (cS (us:=e) dB j (i:=1) rfl rfl rfl rfl) (aD (cS (us:=d) dB j (i:=0) rfl rfl rfl rfl) (aL (v:=i64 kind) ?_))))))
  obtain ⟨k,b2,c⟩:=aC c
  refine aQ (vs:=y) Tryz.call23 rfl (aBJ j p q r t b2) ?_
  rintro _ b3 ⟨g,rfl,Z⟩
  refine aL (v:=zT #[zM (some g),i64 k.2]) (aD (cH rfl rfl) (aD (cH rfl rfl) (aF (v:=zM (some g)) (aF (v:=i64 k.2) (aG (aO (aK (aL (v:=i64 k.2) (aD (uJ rfl rfl) (aG ?_))))))))))
  rcases aH c with ⟨o,c⟩|⟨o,c⟩
  ·refine aM o rfl (aK (aF (v:=zS none 0 0) (aF (v:=i64 3) (aG ?_))))
   have b4:aI G K (z::rows [2] ([]:List (Dp.Hd (List Int))) ([]:List (List Int))::sC g k.1::box V 27 d::box J 27 e::L) b3:=aI.nil (α:=Cells _) (aI.rowsNil (α:=(List Int)) (tys:=[2]) Z) 40 K
   obtain rfl:=zI c
   exact bK (aX (sA Tryz.results8 rfl rfl ⟨none,0,([]:List (Dp.Hd (List Int))),rfl,rfl,(aI.arr 5 [0,1] b4 rfl)⟩))
  ·refine aJ o rfl (aY (aA (aK (aL (v:=zM (some g)) ?_))))
   obtain ⟨b6,b7,c⟩:=aC c
   refine aQ (vs:=[zM (some g)]) Tryz.call24 rfl (aDT Z b7) ?_
   rintro _ c6 ⟨a0,a2,b8,rfl,b9,c0⟩
   refine aF (v:=zS a0 b6.1.length a2) (aF (v:=i64 0) (aG ?_))
   obtain rfl:=zI c
   exact bK (sA Tryz.results8 rfl rfl ⟨a0,a2,b8,rfl,b9,(aI.arr 5 [0,1] c0 rfl)⟩)
theorem aCy {a b:cD} {p:(List Int)} {R:Bool} (l:aI G K (L) w) (Z:bX K a1 c2 a.L) (h6:bX K a4 c5 a.E) (h9:bX K a7 c8 b.L) (a3:bX K a10 c11 b.E) (e:bX K a13 c14 p) (d:sF a b p=some R):
  Calls Tryz.prog 53 ([zA (zCa a a1 c2 a4 c5),zA (zCa b a7 c8 a10 c11),zS a13 p.length c14]:List Value).toArray w (gQ fun v w'=>v=zB R∧aI G K (L) w'):=by
 let g:=(zC b a7 c8 a10 c11)
 let h:=(zC a a1 c2 a4 c5)
 refine aS Tryz.func53 rfl (by kernel_rfl) (by show (3:Nat)≤21;decide) ?_
 unfold sF at d
 refine aK (eA (v:=zA (zCa a a1 c2 a4 c5)) (vs:=h) l rfl rfl (fun m a5 n=>(eA (v:=zA (zCa b a7 c8 a10 c11)) (vs:=g) n rfl rfl (fun o a6 c=>(aF (v:=zB false) (aG (aO (eL (C:=fun w'=>aI G K (box o 27 g::box m 27 h::L) w') bP (by kernel_rfl) (aI.mono c (dN.drew _)) (bC (fun _ c=>aW (v:=zS a13 p.length c14) rfl) (bC (fun _ c=>bL (t':=1) oV rfl rfl) (bC (fun _ c=>dG bY c (i:=1) rfl rfl rfl) ?_)))))))))))
 obtain ⟨q,j,d⟩:=aC d
 refine bC (fun _ c=>cU bO rfl e rfl rfl rfl j) ?_
 obtain ⟨a8,r,u⟩:=bX.el (sz:=1) rfl e j
 cases u
 refine bC (fun _ c=>bG (t:=0) bY c r rfl rfl) (bC (fun _ c=>aW (v:=zS a13 p.length c14) rfl) (bC (fun _ c=>bL (t':=0) dP rfl rfl) (bC (fun _ c=>dG bY c (i:=1) rfl rfl rfl) (bC (fun _ c=>bL (t':=1) oV rfl rfl) (bC (fun _ c=>dG bY c (i:=0) rfl rfl rfl) (bC (fun _ c=>cK rfl rfl) ?_))))))
 obtain ⟨x,k,d⟩:=aC d
 refine bC (fun _ c=>cU bO rfl e rfl rfl rfl k) ?_
 obtain ⟨a9,y,z⟩:=bX.el (sz:=1) rfl e k
 cases z
 refine bC (fun _ c=>bG (t:=0) bY c y rfl rfl) (bC (fun _ c=>lA rfl rfl) (bC (fun _ c=>gB (v:=zB (q == x)) rfl) (fT (fun b0 J=>(aA ?_)))))
 obtain rfl:=zI d
 exact bK (bE Tryz.results53 rfl ⟨rfl,(aI.arr 2 [] J rfl)⟩)
theorem aCF {t:cD} {R:(List Arc)} (hs:aI G K (L) w) (h3:bX K a1 c2 t.L) (h6:bX K a4 c5 t.E) (d:yO t=some R):
  Calls Tryz.prog 115 ([zA (zCa t a1 c2 a4 c5)]:List Value).toArray w (gQ fun v w'=>∃ (a6:Option Addr) (a7:Nat),v=zS a6 R.length a7∧aI G K (aR 149 K a6 a7 R::L) w'):=by
 let r:=(zC t a1 c2 a4 c5)
 refine aS Tryz.func115 rfl (by kernel_rfl) (by show (1:Nat)≤29;decide) ?_
 unfold yO at d
 refine aK (eA (v:=zA (zCa t a1 c2 a4 c5)) (vs:=r) hs rfl rfl (fun u w8 a8=>(aF (v:=zS none 0 0) (aG (aK (aF (v:=zS none 0 0) (aG (aO (aK (aD (bL (t':=3) dY rfl rfl) (aD (dG jR a8 (i:=0) rfl rfl rfl) (aD (bT (len:=t.E.length) cN rfl) (aL (v:=i64 0) (aG (aZ (fun f w=>∃ (m:List Arc) (n:Option Addr) (o:Nat),zQ m=some R∧f 3=zS n m.length o∧aI G K (aR 149 K n o m::L) w) ?_ ?_)))))))))))))))
 ·rintro f f0 ⟨m,n,o,d,c0,c1⟩
  unfold zQ at d
  refine aA (aK (aN c0 (aF (v:=zS n m.length o) (aG ?_))))
  obtain rfl:=zI d
  exact bK (bE Tryz.results115 rfl ⟨n,o,rfl,c1⟩)
 have c4:=aI.nil (α:=Arc) a8 149 K
 obtain ⟨f1,c6,d⟩:=aC d
 refine cC c6 (fun (s:(List Arc × Int)) f w=>match s with|(e,p)=>∃ (j:Option Addr) (k:Nat),f 1=zP (some ⟨u,0,none⟩)∧f 3=zS j e.length k∧f 7=zS a4 t.E.length c5∧f 8=i64 (t.E.length:Int)∧f 9=i64 p∧aI G K (aR 149 K j k e::box u 27 r::L) w) ?_ ?_
 ·exact ⟨none,0,rfl,rfl,rfl,rfl,rfl,c4⟩
 ·rintro ⟨e,p⟩ c7 f f2 b c8 ⟨j,k,a9,b0,b1,b2,x,y⟩
  replace b:rY t e p=some c7:=b
  unfold rY at b
  refine aK (aD (cT x b2) (aG (aO ?_)))
  rcases aH b with ⟨z,b⟩|⟨z,b⟩
  ·refine aM z rfl (aY (aA (aO (cI (aK ?_)))))
   obtain ⟨a,b3,b⟩:=aC b
   refine aD (cU cN rfl h6 b1 rfl x b3) ?_
   obtain ⟨f3,c9,d0⟩:=bX.el (sz:=3) rfl h6 b3
   cases d0
   refine aD (iD (t:=0) (vs:=[i64 a.F,i64 a.B,i64 a.To]) kW y c9 rfl rfl rfl) (cQ (vs:=[i64 0,i64 0,i64 0]) Tryz.zeroValue51 y rfl (fun d1 f4 d2=>(cZ (i:=0) (ns:=[i64 a.F,i64 a.B,i64 a.To]) (us:=[i64 a.F,i64 a.B,i64 a.To]) Tryz.sizeOf51 d2 rfl rfl rfl rfl rfl (fO rfl) rfl rfl (fun d3 (d4:aI G K (box d1 51 [i64 a.F,i64 a.B,i64 a.To]::aR 149 K j k e::box u 27 r::L) d3)=>(aG ?_)))))
   obtain ⟨f5,q,J,d5,d6⟩:=aI.lendB (i:=0) d4 rfl
   obtain ⟨V,g,d7,b4,d8⟩:=aI.lendB (i:=1) d5 rfl
   refine dQ (C:=fun w'=>∃ L',aI G V L' w') [(0,0),(1,0),(2,0),(3,0),(4,0),(5,0),(6,0),(7,0),(8,0),(9,0),(10,0),(11,0),(12,1),(13,1),(14,0)] bP (by kernel_rfl) (fun _ hg=>⟨_,aI.mono b4 hg⟩) (fun f6 d9=>?_)
   have c:=aI.mono b4 d9
   refine bJ rfl (fun _ _=>aW b0) (bJ rfl (fun _ _=>bL (t':=0) iY rfl rfl) (bJ rfl (fun _ ⟨_,c⟩=>bG (t:=0) bY c (J.mono g) rfl rfl) (bJ rfl (fun _ _=>bL (t':=2) gV a9 rfl) (bJ rfl (fun _ ⟨_,c⟩=>bG (t:=2) oC c d7 rfl rfl) (bJ rfl (fun _ _=>bL (t':=1) iZ rfl rfl) (bJ rfl (fun _ ⟨_,c⟩=>bG (t:=1) bY c (J.mono g) rfl rfl) ?_))))))
   obtain ⟨l,b5,b⟩:=aC b
   refine bJ rfl (fun _ _=>cU dM rfl (h3.mono (zL q g)) rfl rfl rfl b5) ?_
   obtain ⟨f7,e0,e1⟩:=bX.el (sz:=1) rfl h3 b5
   cases e1
   refine bJ rfl (fun _ ⟨_,c⟩=>bG (t:=0) yF c (e0.mono (zL q g)) rfl rfl) (bJ rfl (fun _ _=>bL (t':=2) iC rfl rfl) (bJ rfl (fun _ ⟨_,c⟩=>bG (t:=2) bY c (J.mono g) rfl rfl) (bJ rfl (fun _ _=>nH (vs:=[(0,i64 a.F),(1,str l),(2,i64 a.To)]) (cs:=[i64 a.F,str l,i64 a.To]) bs_149 rfl (by kernel_rfl)) (gZ rfl (cJ (Kt:=K) (xs:=([⟨a.F,l,a.To⟩]:List Arc)) (cs:=[i64 a.F,str l,i64 a.To]) (vs:=[(0,zA #[i64 a.F,str l,i64 a.To])]) aCU aJC rfl rfl c rfl (by kernel_rfl) rfl rfl rfl ⟨rfl,trivial⟩ (fun e2 e3 (b6:aI G V (aR 149 K e2 1 ([⟨a.F,l,a.To⟩]:List Arc)::aR 149 K j k e::L) e3)=>(bM (aA ⟨⟨_,b6⟩,?_⟩))))))))
   refine gZ rfl ?_
   obtain ⟨Z,e4,b⟩:=aC b
   refine eK (i:=0) aCU Tryz.underlying146 aJC rfl rfl b6 rfl (zL q g) (zL q g) e4 rfl rfl rfl rfl (fun _ h=>h) (fun a0 a2 e5 (b8:aI G V (aR 149 K a0 a2 Z::L) e5)=>(bM (aA ⟨⟨_,b8⟩,?_⟩)))
   refine bJ rfl (fun _ _=>gB (v:=zS a0 Z.length a2) rfl) (gR ?_)
   have e6:=d8 _ _ b8
   have e7:=d6 _ _ e6
   exact bA (aA (aP (aD (cK x rfl) (aL (v:=i64 (wr (p+1))) (aG ⟨(Z,wr (p+1)),(zI b).symm,a0,a2,a9,rfl,b1,b2,rfl,(aI.arr 3 [2,1] e7 rfl)⟩)))))
  ·refine aJ z rfl (cA (aV (aV ?_)))
   have e8:=c8 _ (zI b).symm
   subst e8
   have d:(zQ e)=some R:=d
   exact bN (aA ⟨e,j,k,d,b0,(aI.arr 2 [0] y rfl)⟩)
theorem pZ {c R:(List Edge)} (hs:aI G K (aR 51 K a1 c2 c::L) w) (d:eH c=some R):
  Calls Tryz.prog 149 ([zS a1 c.length c2]:List Value).toArray w (gQ fun v w'=>∃ (c7:Option Addr) (c8:Nat),v=zS c7 R.length c8∧aI G K (aR 51 K c7 c8 R::L) w'):=by
 refine aS Tryz.func149 rfl (by kernel_rfl) (by show (1:Nat)≤61;decide) ?_
 unfold eH at d
 refine aK (aF (v:=zS none 0 0) (aG (aO (aK (aL (v:=zS a1 c.length c2) (aD (bT (len:=c.length) cN rfl) (aD (cT rfl rfl) (aG ?_))))))))
 rcases aH d with ⟨c3,d⟩|⟨c3,d⟩
 ·refine aM c3 rfl (aK (aL (v:=zS a1 c.length c2) (aF (v:=zS a1 c.length c2) (aG ?_))))
  obtain rfl:=zI d
  exact bK (aX (bE Tryz.results149 rfl ⟨a1,c2,rfl,hs⟩))
 ·refine aJ c3 rfl (aY (aA (aO (aK (aF (v:=i64 1) (aG (aZ (fun f w=>eV c=some R∧f 0=zS a1 c.length c2∧aI G K (aR 51 K a1 c2 c::L) w) ?_ ?_)))))))
  ·rintro f w6 ⟨d,e5,f0⟩
   unfold eV at d
   refine aA (aK (aN e5 (aF (v:=zS a1 c.length c2) (aG ?_))))
   obtain rfl:=zI d
   exact bK (bE Tryz.results149 rfl ⟨a1,c2,rfl,f0⟩)
  obtain ⟨h6,f2,d⟩:=aC d
  refine cC f2 (fun (k:Int) f w=>f 0=zS a1 c.length c2∧f 3=i64 k∧aI G K (aR 51 K a1 c2 c::L) w) ?_ ?_
  ·exact ⟨rfl,rfl,hs⟩
  ·rintro k Z f h7 a c9 ⟨o,q,e⟩
   replace a:dF c k=some Z:=a
   unfold dF at a
   refine aO (aK (aN q (aN o (aD (bT (len:=c.length) cN rfl) (aD (cT rfl rfl) (aG ?_))))))
   rcases aH a with ⟨b3,a⟩|⟨b3,a⟩
   ·refine aM b3 rfl (aY (aA (aO (aZ (fun f w=>eW k=some Z∧f 0=zS a1 c.length c2∧f 3=i64 k∧aI G K (aR 51 K a1 c2 c::L) w) ?_ ?_))))
    ·rintro f h8 ⟨a,f3,f4,f5⟩
     unfold eW at a
     exact aA (aP (aN f4 (aD (cK rfl rfl) (aF (v:=i64 (wr (k+1))) (aG ⟨wr (k+1),(zI a).symm,f3,rfl,f5⟩)))))
    refine aO (eL (C:=fun w'=>aI G K (aR 51 K a1 c2 c::L) w') bP (by kernel_rfl) (aI.mono e (dN.drew _)) (bC (fun _ e=>aW o) (bC (fun _ e=>aW q) ?_)))
    obtain ⟨a0,b4,a⟩:=aC a
    have r:=dZ e (i:=0) rfl b4
    refine bC (fun _ e=>eM cN rfl r rfl rfl rfl b4) (bC (fun _ e=>wZ (t:=0) (vs:=[i64 a0.F,i64 a0.B,i64 a0.To]) kW e (i:=0) rfl b4 rfl rfl rfl rfl) (bC (fun _ e=>aW o) (bC (fun _ e=>aW q) (bC (fun _ e=>nI rfl rfl) ?_))))
    obtain ⟨a2,d0,a⟩:=aC a
    refine bC (fun _ e=>eM cN rfl r rfl rfl rfl d0) (bC (fun _ e=>wZ (t:=0) (vs:=[i64 a2.F,i64 a2.B,i64 a2.To]) kW e (i:=0) rfl d0 rfl rfl rfl rfl) (bC (fun _ e=>R_eqlG (eq_51 (x:=a0) (y:=a2)) rfl rfl) (fT (fun h9 b5=>(aA ?_)))))
    rcases aH a with ⟨c45,a⟩|⟨c45,a⟩
    ·refine aM c45 rfl (aK (aN o (aN q ?_)))
     obtain ⟨J,a3,a⟩:=aC a
     have a4:=yX b5 (i:=0) rfl
     obtain ⟨b6,b7,a5⟩:=Cut.ex 3 a1 c2 k
     refine aD (aFN cN a4 a5 rfl rfl rfl a3) (aF (v:=zS b6 J.length b7) (aG (aO (aK (aF (v:=i64 1) (aG (aZ (fun f w=>∃ (a6:List Edge) (a7:Int),eX a6 a7=some Z∧f 0=zS a1 a6.length c2∧f 3=i64 a7∧aI G K (aR 51 K a1 c2 a6::L) w) ?_ ?_)))))))
     ·rintro f i0 ⟨a6,a7,a,d1,d2,d3⟩
      unfold eX at a
      refine aA (aK (aN d1 (aN d2 ?_)))
      obtain ⟨i1,f6,a⟩:=aC a
      have f7:=yX d3 (i:=0) rfl
      obtain ⟨i2,i3,d4⟩:=Cut.ex 3 a1 c2 a7
      refine aD (aFN cN f7 d4 rfl rfl rfl f6) ?_
      obtain ⟨d5,d6,a⟩:=aC a
      refine aFM cN jD rfl d3 (i:=0) rfl d4 rfl rfl d6 (fun d7 (d8:aI G K (aR 51 K a1 c2 d5::L) d7)=>(aG (aK (aN (v:=zS a1 d5.length c2) (Eq.trans d1 (congrArg (fun n=>zS a1 n c2) (aJl d6))) (aN d2 ?_)))))
      obtain ⟨b8,d9,a⟩:=aC a
      have f8:=yX d8 (i:=0) rfl
      obtain ⟨b9,c0,e0⟩:=Cut.ex 3 a1 c2 0
      refine aD (aJu cN f8 e0 rfl rfl rfl d9) (aF (v:=zS b9 b8.length c0) (aG (bK (bS (aX (aX (aX ?_)))))))
      have f9:=c9 _ (zI a).symm
      subst f9
      have d:(some b8)=some R:=d
      have g0:aI G K (aR 51 K b9 c0 b8::L) d7:=aI.cutP d8 (i:=0) rfl d9 e0
      obtain rfl:=zI d
      exact bS (aX (aX (bE Tryz.results149 rfl ⟨b9,c0,rfl,g0⟩)))
     obtain ⟨i4,g2,a⟩:=aC a
     refine cC g2 (fun (s:(List Edge × Int × Int)) f w=>match s with|(l,m,p)=>f 0=zS a1 l.length c2∧f 3=i64 m∧f 4=zS b6 J.length b7∧f 5=i64 p∧aI G K (aR 51 K a1 c2 l::L) w) ?_ ?_
     ·exact ⟨o,q,rfl,rfl,b5⟩
     ·rintro ⟨l,m,p⟩ e1 f i5 b g3 ⟨a8,a9,u,z,g⟩
      replace b:gN k J l m p=some e1:=b
      unfold gN at b
      refine aO (aK (aN z (aN u (aD (bT (len:=J.length) cN rfl) (aD (cT rfl rfl) (aG ?_))))))
      rcases aH b with ⟨c1,b⟩|⟨c1,b⟩
      ·refine aM c1 rfl (aY (aA (aO (aZ (fun f w=>∃ (V:List Edge) (b0:Int),eY p V b0=some e1∧f 0=zS a1 V.length c2∧f 3=i64 b0∧f 4=zS b6 J.length b7∧f 5=i64 p∧aI G K (aR 51 K a1 c2 V::L) w) ?_ ?_))))
       ·rintro f i6 ⟨V,b0,b,g4,g5,g6,g7,g8⟩
        unfold eY at b
        exact aA (aP (aN g7 (aD (cK rfl rfl) (aF (v:=i64 (wr (p+1))) (aG ⟨(V,b0,wr (p+1)),(zI b).symm,g4,g5,g6,rfl,g8⟩)))))
       refine aO (eL (C:=fun w'=>aI G K (aR 51 K a1 c2 l::L) w') bP (by kernel_rfl) (aI.mono g (dN.drew _)) (bC (fun _ g=>aW u) (bC (fun _ g=>aW z) ?_)))
       obtain ⟨i7,e2,b⟩:=aC b
       obtain ⟨j,e3,b⟩:=aC b
       refine bC (fun _ g=>aEU cN r a5 a3 a4 rfl rfl rfl e2 rfl) (bC (fun _ g=>wZ (t:=0) (vs:=[i64 j.F,i64 j.B,i64 j.To]) kW g (i:=0) rfl e3 rfl rfl rfl rfl) (bC (fun _ g=>aW u) (bC (fun _ g=>aW z) (bC (fun _ g=>nI rfl rfl) ?_))))
       obtain ⟨i8,g9,b⟩:=aC b
       obtain ⟨b1,h0,b⟩:=aC b
       refine bC (fun _ g=>aEU cN r a5 a3 a4 rfl rfl rfl g9 rfl) (bC (fun _ g=>wZ (t:=0) (vs:=[i64 b1.F,i64 b1.B,i64 b1.To]) kW g (i:=0) rfl h0 rfl rfl rfl rfl) (bC (fun _ g=>R_neqG (eq_51 (x:=j) (y:=b1)) rfl rfl) (fT (fun i9 c4=>(aA ?_)))))
       rcases aH b with ⟨c5,b⟩|⟨c5,b⟩
       ·refine aM c5 rfl (aK (aN a8 (aN a9 (aN u (aN z (aD (aEU cN r a5 a3 a4 rfl rfl rfl e2 rfl) (aD (wZ (t:=0) (vs:=[i64 j.F,i64 j.B,i64 j.To]) kW c4 (i:=0) rfl e3 rfl rfl rfl rfl) ?_)))))))
        obtain ⟨j0,e4,b⟩:=aC b
        refine aD (eM cN rfl r rfl rfl rfl e4) ?_
        obtain ⟨e6,e7,b⟩:=aC b
        exact sM (i:=0) (t:=0) (ns:=[i64 j.F,i64 j.B,i64 j.To]) (e':=(⟨j.F,j.B,j.To⟩:Edge)) Tryz.sizeOf51 c4 rfl (Hp.le_refl _) rfl rfl rfl e4 e7 rfl rfl (fO rfl) rfl (fun cs h=>by cases h;rfl) (fun h1 (h2:aI G K (aR 51 K a1 c2 e6::L) h1)=>(aG (aP (aN a9 (aD (cK rfl rfl) (aF (v:=i64 (wr (m+1))) (bM (bA (aA ⟨e6,wr (m+1),b,(Eq.trans a8 (congrArg (fun n=>zS a1 n c2) (oY e7))),rfl,u,z,h2⟩)))))))))
       ·exact aJ c5 rfl (aY (bA (aA ⟨l,m,b,a8,a9,u,z,c4⟩)))
      ·refine aJ c1 rfl (cA (aV (aV ?_)))
       have h3:=g3 _ (zI b).symm
       subst h3
       have a:(eX l m)=some Z:=a
       exact bN (aA ⟨l,m,a,a8,a9,g⟩)
    ·exact aJ c45 rfl (aY (bA (aA ⟨a,o,q,b5⟩)))
   ·refine aJ b3 rfl (cA (aV (aV ?_)))
    have h4:=c9 _ (zI a).symm
    subst h4
    have d:(eV c)=some R:=d
    exact bN (aA ⟨d,o,e⟩)
theorem uL {d:(List bI)} {e:bI} {R:Int} (q:aI G K (L) w) (k:bX K a1 c2 d) (b:fS d e=some R):
  Calls Tryz.prog 147 ([zS a1 d.length c2,str e]:List Value).toArray w (gQ fun v w'=>v=i64 R∧aI G K (L) w'):=by
 refine aS Tryz.func147 rfl (by kernel_rfl) (by show (2:Nat)≤19;decide) ?_
 unfold fS at b
 refine aK (aF (v:=i64 0) (aG (aO (aK (aL (v:=zS a1 d.length c2) (aD (bT (len:=d.length) dM rfl) (aL (v:=i64 0) (aG (aZ (fun f w=>gO=some R∧aI G K (L) w) ?_ ?_)))))))))
 ·rintro f w4 ⟨b,r⟩
  unfold gO at b
  refine aA (aK (aF (v:=i64 (-1)) (aG ?_)))
  obtain rfl:=zI b
  exact bK (bE Tryz.results147 rfl ⟨rfl,r⟩)
 obtain ⟨a3,x,b⟩:=aC b
 refine cC x (fun (c:Int) f w=>f 0=zS a1 d.length c2∧f 1=str e∧f 7=i64 (d.length:Int)∧f 8=i64 c∧aI G K (L) w) ?_ ?_
 ·exact ⟨rfl,rfl,rfl,rfl,q⟩
 ·rintro c y f a4 a l ⟨m,n,o,h,g⟩
  replace a:eE d e c=some y:=a
  unfold eE at a
  refine aK (aD (cT h o) (aG (aO ?_)))
  rcases aH a with ⟨i,a⟩|⟨i,a⟩
  ·refine aM i rfl (aY (aA (aO (cI (aK (aN h (aF (v:=i64 c) (aG (aK (aN n (aN m (aL (v:=i64 c) ?_))))))))))))
   obtain ⟨a5,p,a⟩:=aC a
   refine aD (cU dM rfl k rfl rfl rfl p) ?_
   obtain ⟨a6,z,J⟩:=bX.el (sz:=1) rfl k p
   cases J
   refine aD (bG (t:=0) yF g z rfl rfl) (aD (aBd rfl rfl) (aG ?_))
   rcases aH a with ⟨j,a⟩|⟨j,a⟩
   ·refine aM j rfl (aK (aL (v:=i64 c) (aF (v:=i64 c) (aG (bK (bS (aX (aX ?_))))))))
    have V:=l _ (zI a).symm
    subst V
    have b:(some c)=some R:=b
    obtain rfl:=zI b
    exact bS (aX (aX (bE Tryz.results147 rfl ⟨rfl,g⟩)))
   ·exact aJ j rfl (aY (bA (aA (aP (aD (cK h rfl) (aL (v:=i64 (wr (c+1))) (aG ⟨wr (c+1),(zI a).symm,m,n,o,rfl,g⟩)))))))
  ·refine aJ i rfl (cA (aV (aV ?_)))
   have a0:=l _ (zI a).symm
   subst a0
   have b:(gO)=some R:=b
   exact bN (aA ⟨b,g⟩)
end Gv
