/- Walks, printed by program. -/
import Derived.Test.YtkgakibhmcbflaaGreatDoorJWk5
import Derived.Test.YtkgakibhmcbflaaGreatDoorJWk6
set_option linter.all false
namespace Gv
open Go.Value renaming slice→zS,bool→zB,pointer→zP,agg→zA
open Option.some renaming inj→zI
open Gv.Hp renaming le_trans→zL,le_refl→zR
open Go Go.Proofs
set_option maxRecDepth 20000
set_option maxHeartbeats 40000000
variable {G:Env} {K Kf:Hp} {L:List nG} {w:World} {a1 a4 a7 a10:Option Addr} {c2 c5 c8 c11:Nat}
theorem aLK {d e:Int} {b2:(List bI)} {J:(List Arc)} {R:cD} (hs:aI G K (L) w) (h3:bX K a1 c2 b2) (h6:bX K a4 c5 J) (j:i_lts d e b2 J=some R):
  Calls Tryz.prog 116 ([i64 d,i64 e,zS a1 b2.length c2,zS a4 J.length c5]:List Value).toArray w (gQ fun v w'=>∃ (c6:Option Addr) (c7:Nat) (c8:Option Addr) (c9:Nat),v=zA (zCa R c6 c7 c8 c9)∧aI G K (aR 9 K c6 c7 R.L::aR 51 K c8 c9 R.E::L) w'):=by
 let l:=zG
 refine aS Tryz.func116 rfl (by kernel_rfl) (by show (4:Nat)≤55;decide) ?_
 unfold i_lts at j
 refine aK (cQ (vs:=l) Tryz.zeroValue27 hs rfl (fun k w8 f0=>(aG (aK (aL (v:=i64 d) (aL (v:=i64 e) (cJ (Kt:=K) (xs:=([([116,97,117]:bI)]:List bI)) (cs:=[str ([116,97,117]:bI)]) (vs:=[(0,str ([116,97,117]:bI))]) dM aBx rfl rfl f0 rfl (by kernel_rfl) rfl rfl rfl ⟨rfl,trivial⟩ (fun f1 f2 (f3:aI G K (aR 9 K f1 1 ([([116,97,117]:bI)]:List bI)::box k 27 l::L) f2)=>(aL (v:=zS a1 b2.length c2) ?_)))))))))
 obtain ⟨y,f4,j⟩:=aC j
 refine aAr (i:=0) dM Tryz.underlying24 aBx rfl rfl f3 rfl (zR _) h3 f4 rfl rfl rfl rfl (fun n o f5 (f6:aI G K (aR 9 K n o y::box k 27 l::L) f5)=>(aD (nH (vs:=[(0,i64 d),(1,i64 e),(2,zS n y.length o)]) (cs:=[i64 d,i64 e,zS n y.length o,zS none 0 0]) bs_27 rfl (by kernel_rfl)) (cQ (vs:=l) Tryz.zeroValue27 f6 rfl (fun p k6 f7=>(cZ (i:=0) (ns:=[i64 d,i64 e,zS n y.length o,zS none 0 0]) (us:=[i64 d,i64 e,zS n y.length o,zS none 0 0]) Tryz.sizeOf27 f7 rfl rfl rfl rfl rfl (fO rfl) rfl rfl (fun d0 (d1:aI G K (box p 27 [i64 d,i64 e,zS n y.length o,zS none 0 0]::aR 9 K n o y::box k 27 l::L) d0)=>(aG (aK (aD (bL (t':=2) gV rfl rfl) (aD (dG oC d1 (i:=0) rfl rfl rfl) ?_))))))))))
 have f8:aI G K (aR 9 K n o y::box p 27 [i64 d,i64 e,zS n y.length o,zS none 0 0]::box k 27 l::L) d0:=(aI.arr 2 [1,0] d1 rfl)
 obtain ⟨b4,f9,j⟩:=aC j
 refine aQ (vs:=[zS n y.length o,Value.func (.func 81) #[] #[]]) Tryz.call80 rfl (lib_SortStr f8 f9) ?_
 rintro _ g0 ⟨rfl,g1,g2⟩
 have d2:aI G K (aR 9 K n o b4::box p 27 [i64 d,i64 e,zS n b4.length o,zS none 0 0]::box k 27 l::L) g0:=by rw [←g1];exact g2
 refine aG (aK (aD (bL (t':=2) gV rfl rfl) (aD (dG oC d2 (i:=1) rfl rfl rfl) ?_)))
 obtain ⟨a,g3,j⟩:=aC j
 refine aQ (vs:=[zS n b4.length o]) Tryz.call82 rfl (lG d2 g3) ?_
 rintro _ k7 ⟨b,c,rfl,g4⟩
 refine aD (bL (t':=2) gV rfl rfl) (cZ (i:=1) (ns:=[zS b a.length c]) (us:=[i64 d,i64 e,zS b a.length c,zS none 0 0]) Tryz.sizeOf24 g4 rfl rfl rfl rfl rfl (fO rfl) rfl rfl (fun g5 (g6:aI G K (aR 9 K b c a::box p 27 [i64 d,i64 e,zS b a.length c,zS none 0 0]::box k 27 l::L) g5)=>(aG (aO (aK (aL (v:=zS a4 J.length c5) (aD (bT (len:=J.length) aCU rfl) (aL (v:=i64 0) (aG (aZ (fun f w=>∃ (a9:List Edge) (V:Option Addr) (Z:Nat),aDa d e a a9=some R∧f 8=zP (some ⟨k,0,none⟩)∧f 9=zP (some ⟨p,0,none⟩)∧aI G K (aR 51 K V Z a9::aR 9 K b c a::box p 27 [i64 d,i64 e,zS b a.length c,zS V a9.length Z]::box k 27 l::L) w) ?_ ?_))))))))))
 ·rintro f k8 ⟨a9,V,Z,j,d3,b3,d4⟩
  unfold aDa at j
  refine aA (aK (aD (bL (t':=3) dY b3 rfl) (aD (dG jR d4 (i:=2) rfl rfl rfl) ?_)))
  obtain ⟨b5,g7,j⟩:=aC j
  refine aQ (vs:=[zS V a9.length Z,Value.func (.func 62) #[] #[]]) Tryz.call148 rfl (lib_SortEdge d4 g7) ?_
  rintro _ g8 ⟨rfl,g9,h0⟩
  have d5:aI G K (aR 51 K V Z b5::aR 9 K b c a::box p 27 [i64 d,i64 e,zS b a.length c,zS V b5.length Z]::box k 27 l::L) g8:=by rw [←g9];exact h0
  refine aG (aK (aD (bL (t':=3) dY b3 rfl) (aD (dG jR d5 (i:=2) rfl rfl rfl) ?_)))
  obtain ⟨u,h1,j⟩:=aC j
  refine aQ (vs:=[zS V b5.length Z]) Tryz.call149 rfl (pZ d5 h1) ?_
  rintro _ k9 ⟨q,r,rfl,h2⟩
  refine aD (bL (t':=3) dY b3 rfl) (cZ (i:=2) (ns:=[zS q u.length r]) (us:=[i64 d,i64 e,zS b a.length c,zS q u.length r]) Tryz.sizeOf25 h2 rfl rfl rfl rfl rfl (fO rfl) rfl rfl (fun h4 (d6:aI G K (aR 51 K q r u::aR 9 K b c a::box p 27 [i64 d,i64 e,zS b a.length c,zS q u.length r]::box k 27 l::L) h4)=>(aG (aK (aD (cS (us:=[i64 d,i64 e,zS b a.length c,zS q u.length r]) dB d6 (i:=2) rfl b3 rfl rfl) (cZ (i:=3) (ns:=[i64 d,i64 e,zS b a.length c,zS q u.length r]) (us:=[i64 d,i64 e,zS b a.length c,zS q u.length r]) Tryz.sizeOf27 d6 rfl d3 rfl rfl rfl (fO rfl) rfl rfl (fun h5 (d7:aI G K (aR 51 K q r u::aR 9 K b c a::box p 27 [i64 d,i64 e,zS b a.length c,zS q u.length r]::box k 27 [i64 d,i64 e,zS b a.length c,zS q u.length r]::L) h5)=>(aG ?_))))))))
  obtain rfl:=zI j
  exact bK (vF Tryz.results116 (oB (vs:=[i64 d,i64 e,zS b a.length c,zS q u.length r]) rfl dB d7 (i:=3) rfl d3 rfl) ⟨b,c,q,r,rfl,(aI.arr 4 [1,0] d7 rfl)⟩)
 have h8:=aI.nil (α:=Edge) g6 51 K
 obtain ⟨l0,h9,j⟩:=aC j
 refine cC h9 (fun (s:(List Edge × Int)) f w=>match s with|(z,b0)=>∃ (a0:Option Addr) (a2:Nat),f 8=zP (some ⟨k,0,none⟩)∧f 9=zP (some ⟨p,0,none⟩)∧f 25=zS a4 J.length c5∧f 26=i64 (J.length:Int)∧f 27=i64 b0∧aI G K (aR 51 K a0 a2 z::aR 9 K b c a::box p 27 [i64 d,i64 e,zS b a.length c,zS a0 z.length a2]::box k 27 l::L) w) ?_ ?_
 ·exact ⟨none,0,rfl,rfl,rfl,rfl,rfl,h8⟩
 ·rintro ⟨z,b0⟩ i0 f l1 m i1 ⟨a0,a2,d8,b1,d9,e0,b6,b8⟩
  replace m:aCk J a z b0=some i0:=m
  unfold aCk at m
  refine aK (aD (cT b6 e0) (aG (aO ?_)))
  rcases aH m with ⟨b9,m⟩|⟨b9,m⟩
  ·refine aM b9 rfl (aY (aA (aO (cI (aK ?_)))))
   obtain ⟨g,e1,m⟩:=aC m
   refine aD (cU aCU rfl h6 d9 rfl b6 e1) ?_
   obtain ⟨l2,i2,i3⟩:=bX.el (sz:=3) rfl h6 e1
   cases i3
   refine aD (iD (t:=0) (vs:=[i64 g.from_,str g.label,i64 g.to_]) ag_149 b8 i2 rfl rfl rfl) (cQ (vs:=[i64 0,str ([]:bI),i64 0]) Tryz.zeroValue149 b8 rfl (fun e2 l3 i4=>(cZ (i:=0) (ns:=[i64 g.from_,str g.label,i64 g.to_]) (us:=[i64 g.from_,str g.label,i64 g.to_]) Tryz.sizeOf149 i4 rfl rfl rfl rfl rfl (fO rfl) rfl rfl (fun i5 (i6:aI G K (box e2 149 [i64 g.from_,str g.label,i64 g.to_]::aR 51 K a0 a2 z::aR 9 K b c a::box p 27 [i64 d,i64 e,zS b a.length c,zS a0 z.length a2]::box k 27 l::L) i5)=>(aG ?_)))))
   obtain ⟨l4,c0,c1,i7,i8⟩:=aI.lendB (i:=0) i6 rfl
   obtain ⟨c3,a3,e3,e4,i9⟩:=aI.lendB (i:=2) i7 rfl
   refine dQ (C:=fun w'=>∃ L',aI G c3 L' w') [(0,0),(1,0),(2,0),(3,0),(4,0),(5,0),(6,0),(7,0),(9,0),(10,0),(8,1),(11,0),(12,1),(13,1),(14,0),(15,2)] bP (by kernel_rfl) (fun _ hg=>⟨_,aI.mono e4 hg⟩) (fun l5 j0=>?_)
   have x:=aI.mono e4 j0
   refine bJ rfl (fun _ _=>bL (t':=3) dY b1 rfl) (bJ rfl (fun _ ⟨_,x⟩=>bG (t:=3) jR x e3 rfl rfl) (bJ rfl (fun _ _=>bL (t':=0) aKz rfl rfl) (bJ rfl (fun _ ⟨_,x⟩=>bG (t:=0) bY x (c1.mono a3) rfl rfl) (bJ rfl (fun _ _=>bL (t':=2) gV b1 rfl) (bJ rfl (fun _ ⟨_,x⟩=>bG (t:=2) oC x e3 rfl rfl) (bJ rfl (fun _ _=>bL (t':=1) aKA rfl rfl) (bJ rfl (fun _ ⟨_,x⟩=>bG (t:=1) yF x (c1.mono a3) rfl rfl) (bJ rfl (fun _ _=>bL (t':=2) aKB rfl rfl) (bJ rfl (fun _ ⟨_,x⟩=>bG (t:=2) bY x (c1.mono a3) rfl rfl) (gZ rfl ?_))))))))))
   obtain ⟨l6,l7,j1,j2,j3⟩:=aI.lendS (i:=1) x (zL c0 a3) rfl
   obtain ⟨a5,j4,m⟩:=aC m
   refine aQ (vs:=[zS b a.length c,str g.label]) Tryz.call147 rfl (uL j2 j1 j4) ?_
   rintro _ l8 ⟨rfl,j5⟩
   have e5:=j3 _ _ j5
   refine bM (aA ⟨⟨_,e5⟩,?_⟩)
   refine bJ rfl (fun _ _=>nH (vs:=[(0,i64 g.from_),(1,i64 a5),(2,i64 g.to_)]) (cs:=[i64 g.from_,i64 a5,i64 g.to_]) aEd rfl (by kernel_rfl)) (gZ rfl (cJ (Kt:=K) (xs:=([⟨g.from_,a5,g.to_⟩]:List Edge)) (cs:=[i64 g.from_,i64 a5,i64 g.to_]) (vs:=[(0,zA #[i64 g.from_,i64 a5,i64 g.to_])]) cN jD rfl rfl e5 rfl (by kernel_rfl) rfl rfl rfl ⟨rfl,trivial⟩ (fun j6 j7 (e6:aI G c3 (aR 51 K j6 1 ([⟨g.from_,a5,g.to_⟩]:List Edge)::aR 9 K b c a::aR 51 K a0 a2 z::box k 27 l::L) j7)=>(bM (aA ⟨⟨_,e6⟩,?_⟩)))))
   refine gZ rfl ?_
   obtain ⟨a6,j8,m⟩:=aC m
   refine eK (i:=1) cN Tryz.underlying25 jD rfl rfl e6 rfl (zL c0 a3) (zL c0 a3) j8 rfl rfl rfl rfl (fun _ h=>h) (fun a7 a8 j9 (e7:aI G c3 (aR 9 K b c a::aR 51 K a7 a8 a6::box k 27 l::L) j9)=>(bM (aA ⟨⟨_,e7⟩,?_⟩)))
   refine bJ rfl (fun _ _=>bL (t':=3) dY b1 rfl) ?_
   have k0:=i9 _ _ e7
   have k1:=i8 _ _ k0
   exact aGr rfl (cZ (i:=1) (ns:=[zS a7 a6.length a8]) (us:=[i64 d,i64 e,zS b a.length c,zS a7 a6.length a8]) Tryz.sizeOf25 k1 rfl rfl rfl rfl rfl (fO rfl) rfl rfl (fun k2 (k3:aI G K (box e2 149 [i64 g.from_,str g.label,i64 g.to_]::box p 27 [i64 d,i64 e,zS b a.length c,zS a7 a6.length a8]::aR 9 K b c a::aR 51 K a7 a8 a6::box k 27 l::L) k2)=>(aG (gR (bA (aA (aP (aD (cK b6 rfl) (aL (v:=i64 (wr (b0+1))) (aG ⟨(a6,wr (b0+1)),(zI m).symm,a7,a8,d8,b1,d9,e0,rfl,(aI.arr 4 [3,2,1] k3 rfl)⟩))))))))))
  ·refine aJ b9 rfl (cA (aV (aV ?_)))
   have k4:=i1 _ (zI m).symm
   subst k4
   have j:(aDa d e a z)=some R:=j
   exact bN (aA ⟨z,a0,a2,j,d8,b1,b8⟩)
theorem uG {a:(List (List bI))} {R:(List bI)} (hs:aI G K (L) w) (o:bX K a1 c2 a) (b:fQ a=some R):
  Calls Tryz.prog 117 ([zS a1 a.length c2]:List Value).toArray w (gQ fun v w'=>∃ (a5:Option Addr) (a6:Nat),v=zS a5 R.length a6∧aI G K (aR 9 K a5 a6 R::L) w'):=by
 refine aS Tryz.func117 rfl (by kernel_rfl) (by show (1:Nat)≤36;decide) ?_
 unfold fQ at b
 refine aK (aF (v:=zS none 0 0) (aG (aK (aF (v:=i64 0) (aG (aO (aK (aL (v:=zS a1 a.length c2) (aD (bT (len:=a.length) aHh rfl) (aL (v:=i64 0) (aG (aZ (fun f w=>∃ (p:Int),fB a p=some R∧f 0=zS a1 a.length c2∧f 3=i64 p∧aI G K (L) w) ?_ ?_))))))))))))
 ·rintro f w7 ⟨p,b,e5,e6,c8⟩
  unfold fB at b
  refine aA (aK (aN e6 ?_))
  obtain ⟨r9,d0,b⟩:=aC b
  refine aQ (vs:=[zS none 0 0,i64 p]) Tryz.call150 rfl (lib_GrowStr c8 (aGE (α:=bI) _) d0) ?_
  rintro _ f9 ⟨a7,a8,rfl,d1⟩
  refine aF (v:=zS a7 r9.length a8) (aG (aO (aK (aN e5 (aD (bT (len:=a.length) aHh rfl) (aL (v:=i64 0) (aG (aZ (fun f w=>∃ (k:List bI) (l:Option Addr) (m:Nat),gE k=some R∧f 6=zS l k.length m∧aI G K (aR 9 K l m k::L) w) ?_ ?_))))))))
  ·rintro f g0 ⟨k,l,m,b,d2,d3⟩
   unfold gE at b
   refine aA (aK (aN d2 (aF (v:=zS l k.length m) (aG ?_))))
   obtain rfl:=zI b
   exact bK (bE Tryz.results117 rfl ⟨l,m,rfl,d3⟩)
  obtain ⟨g1,d5,b⟩:=aC b
  refine cC d5 (fun (s:(List bI × Int)) f w=>match s with|(h,n)=>∃ (q:Option Addr) (r:Nat),f 6=zS q h.length r∧f 25=zS a1 a.length c2∧f 26=i64 (a.length:Int)∧f 27=i64 n∧aI G K (aR 9 K q r h::L) w) ?_ ?_
  ·exact ⟨a7,a8,rfl,rfl,rfl,rfl,d1⟩
  ·rintro ⟨h,n⟩ d6 f g2 d d7 ⟨q,r,a9,b0,b1,x,y⟩
   replace d:bZ a h n=some d6:=d
   unfold bZ at d
   refine aK (aD (cT x b1) (aG (aO ?_)))
   rcases aH d with ⟨z,d⟩|⟨z,d⟩
   ·refine aM z rfl (aY (aA (aO (cI (aK ?_)))))
    obtain ⟨b2,b3,d⟩:=aC d
    refine aD (cU aHh rfl o b0 rfl x b3) ?_
    obtain ⟨g3,d8,d9⟩:=bX.el (sz:=1) rfl o b3
    obtain ⟨b4,b5,rfl,e0⟩:=d9
    refine aD (bG (t:=0) oC y d8 rfl rfl) (aF (v:=zS b4 b2.length b5) (aG (aP (aN a9 (aL (v:=zS b4 b2.length b5) ?_)))))
    obtain ⟨J,e1,d⟩:=aC d
    exact aAr (i:=0) dM Tryz.underlying24 aBx rfl rfl y rfl (zR _) e0 e1 rfl rfl rfl rfl (fun V Z e2 (e3:aI G K (aR 9 K V Z J::L) e2)=>(aF (v:=zS V J.length Z) (bM (bA (aA (aP (aD (cK x rfl) (aL (v:=i64 (wr (n+1))) (aG ⟨(J,wr (n+1)),(zI d).symm,V,Z,rfl,b0,b1,rfl,e3⟩)))))))))
   ·refine aJ z rfl (cA (aV (aV ?_)))
    have e4:=d7 _ (zI d).symm
    subst e4
    have b:(gE h)=some R:=b
    exact bN (aA ⟨h,q,r,b,a9,y⟩)
 obtain ⟨g4,e7,b⟩:=aC b
 refine cC e7 (fun (s:(Int × Int)) f w=>match s with|(e,g)=>f 0=zS a1 a.length c2∧f 3=i64 e∧f 9=zS a1 a.length c2∧f 10=i64 (a.length:Int)∧f 11=i64 g∧aI G K (L) w) ?_ ?_
 ·exact ⟨rfl,rfl,rfl,rfl,rfl,hs⟩
 ·rintro ⟨e,g⟩ b6 f g5 c e8 ⟨b7,b8,b9,c0,a0,a2⟩
  replace c:bW a e g=some b6:=c
  unfold bW at c
  refine aK (aD (cT a0 c0) (aG (aO ?_)))
  rcases aH c with ⟨a3,c⟩|⟨a3,c⟩
  ·refine aM a3 rfl (aY (aA (aO (aZ (fun f w=>∃ (u:Int),fC g u=some b6∧f 0=zS a1 a.length c2∧f 3=i64 u∧f 9=zS a1 a.length c2∧f 10=i64 (a.length:Int)∧f 11=i64 g∧aI G K (L) w) ?_ ?_))))
   ·rintro f g6 ⟨u,c,e9,f0,f1,f2,f3,f4⟩
    unfold fC at c
    exact aA (aP (aD (cK f3 rfl) (aL (v:=i64 (wr (g+1))) (aG ⟨(u,wr (g+1)),(zI c).symm,e9,f0,f1,f2,rfl,f4⟩))))
   refine aK ?_
   obtain ⟨j,c1,c⟩:=aC c
   refine aD (cU aHh rfl o b9 rfl a0 c1) ?_
   obtain ⟨g7,f5,f6⟩:=bX.el (sz:=1) rfl o c1
   obtain ⟨c3,c4,rfl,g8⟩:=f6
   refine aD (bG (t:=0) oC a2 f5 rfl rfl) (aF (v:=zS c3 j.length c4) (aG (aK (aN b8 (aL (v:=zS c3 j.length c4) (aD (bT (len:=j.length) dM rfl) (aD (cK rfl rfl) (aF (v:=i64 (wr (e+(j.length:Int)))) (aG (aK (aL (v:=i64 (wr (e+(j.length:Int)))) (aD (cT rfl rfl) (aG ?_)))))))))))))
   rcases aH c with ⟨a4,c⟩|⟨a4,c⟩
   ·refine aM a4 rfl (aP ?_)
    cases c
   ·exact aJ a4 rfl (aY (bA (aA ⟨wr (e+(j.length:Int)),c,b7,rfl,b9,c0,a0,a2⟩)))
  ·refine aJ a3 rfl (cA (aV (aV ?_)))
   have f7:=e8 _ (zI c).symm
   subst f7
   have b:(fB a e)=some R:=b
   exact bN (aA ⟨e,b,b7,b8,a2⟩)
theorem aJG {a b R:cD} (hs:aI G K (L) w) (h3:bX K a1 c2 a.L) (h6:bX K a4 c5 a.E) (h9:bX K a7 c8 b.L) (f5:bX K a10 c11 b.E) (e:aFe a b=some R):
  Calls Tryz.prog 86 ([zA (zCa a a1 c2 a4 c5),zA (zCa b a7 c8 a10 c11)]:List Value).toArray w (gQ fun v w'=>∃ (c7:Option Addr) (c9:Nat) (d0:Option Addr) (d1:Nat),v=zA (zCa R c7 c9 d0 d1)∧aI G K (aR 9 K c7 c9 R.L::aR 51 K d0 d1 R.E::L) w'):=by
 let l:=(zC b a7 c8 a10 c11)
 let m:=(zC a a1 c2 a4 c5)
 let r:=zG
 refine aS Tryz.func86 rfl (by kernel_rfl) (by show (2:Nat)≤49;decide) ?_
 unfold aFe at e
 refine aK (eA (v:=zA (zCa a a1 c2 a4 c5)) (vs:=m) hs rfl rfl (fun n k5 f6=>(eA (v:=zA (zCa b a7 c8 a10 c11)) (vs:=l) f6 rfl rfl (fun o k6 f7=>(cQ (vs:=r) Tryz.zeroValue27 f7 rfl (fun k k7 d2=>(aG (aK (aD (cS (us:=m) dB d2 (i:=2) rfl rfl rfl rfl) ?_)))))))))
 obtain ⟨f8,f9,e⟩:=aC e
 refine aQ (vs:=[zA (zCa a a1 c2 a4 c5)]) Tryz.call115 rfl (aCF d2 h3 h6 f9) ?_
 rintro _ k8 ⟨d3,d4,rfl,d5⟩
 refine aF (v:=zS d3 f8.length d4) (aG (aO (aK (aD (cS (us:=l) dB d5 (i:=2) rfl rfl rfl rfl) ?_))))
 obtain ⟨p,g0,e⟩:=aC e
 refine aQ (vs:=[zA (zCa b a7 c8 a10 c11)]) Tryz.call115 rfl (aCF d5 h9 f5 g0) ?_
 rintro _ k9 ⟨a5,a6,rfl,g1⟩
 refine aD (bT (len:=p.length) aCU rfl) (aL (v:=i64 0) (aG (aZ (fun f w=>∃ (u:List Arc) (x:Option Addr) (y:Nat),aBp a b u=some R∧f 2=zP (some ⟨n,0,none⟩)∧f 3=zP (some ⟨o,0,none⟩)∧f 4=zP (some ⟨k,0,none⟩)∧f 5=zS x u.length y∧aI G K (aR 149 K x y u::box k 27 r::box o 27 l::box n 27 m::L) w) ?_ ?_)))
 ·rintro f l0 ⟨u,x,y,e,b2,d6,d7,g2,g3⟩
  unfold aBp at e
  refine aA (aO ?_)
  obtain ⟨l1,b3,d8,g4,g5⟩:=aI.lendB (i:=2) g3 rfl
  obtain ⟨d9,a8,b4,e0,g6⟩:=aI.lendB (i:=2) g4 rfl
  refine dQ (C:=fun w'=>∃ L',aI G d9 L' w') [(0,0),(1,0),(2,0),(3,0),(4,0),(5,0),(6,0),(7,0),(8,0),(9,0),(10,0),(13,0),(11,1),(12,1),(14,1),(15,2)] bP (by kernel_rfl) (fun _ hg=>⟨_,aI.mono e0 hg⟩) (fun l2 g7=>?_)
  have j:=aI.mono e0 g7
  refine bJ rfl (fun _ _=>bL (t':=0) dP b2 rfl) (bJ rfl (fun _ ⟨_,j⟩=>bG (t:=0) bY j b4 rfl rfl) (bJ rfl (fun _ _=>bL (t':=0) dP d6 rfl) (bJ rfl (fun _ ⟨_,j⟩=>bG (t:=0) bY j (d8.mono a8) rfl rfl) (bJ rfl (fun _ _=>cK rfl rfl) (bJ rfl (fun _ _=>bL (t':=1) oV b2 rfl) (bJ rfl (fun _ ⟨_,j⟩=>bG (t:=1) bY j b4 rfl rfl) (bJ rfl (fun _ _=>bL (t':=2) gV b2 rfl) (bJ rfl (fun _ ⟨_,j⟩=>bG (t:=2) oC j b4 rfl rfl) (bJ rfl (fun _ _=>bL (t':=2) gV d6 rfl) (bJ rfl (fun _ ⟨_,j⟩=>bG (t:=2) oC j (d8.mono a8) rfl rfl) (bJ rfl (fun _ _=>aW g2) (gZ rfl (cJ (Kt:=K) (xs:=([a.L,b.L]:List (List bI))) (cs:=[zS a1 a.L.length c2,zS a7 b.L.length c8]) (vs:=[(0,zS a1 a.L.length c2),(1,zS a7 b.L.length c8)]) aHh ez_24 rfl rfl j rfl (by kernel_rfl) rfl rfl rfl ⟨⟨a1,c2,rfl,h3⟩,⟨a7,c8,rfl,h9⟩,trivial⟩ (fun b5 g8 (e1:aI G d9 (aR 24 K b5 2 ([a.L,b.L]:List (List bI))::aR 149 K x y u::box k 27 r::L) g8)=>(bM (aA ⟨⟨_,e1⟩,?_⟩))))))))))))))))
  refine gZ rfl ?_
  obtain ⟨l3,l4,g9,h0,h1⟩:=aI.lendS (i:=0) e1 (zL b3 a8) rfl
  obtain ⟨e2,h2,e⟩:=aC e
  refine aQ (vs:=[zS b5 ([a.L,b.L]:List (List bI)).length 2]) Tryz.call117 rfl (uG h0 g9 h2) ?_
  rintro _ l5 ⟨e3,e4,rfl,h4⟩
  have e5:=h1 _ _ h4
  refine bM (aA ⟨⟨_,e5⟩,?_⟩)
  refine gZ rfl ?_
  obtain ⟨l6,h5,h7,h8,i0⟩:=aI.lendS (i:=1) e5 (zL b3 a8) rfl
  obtain ⟨l7,i1,i2,i3,i4⟩:=aI.lendS (i:=1) h8 (zL (zL b3 a8) h5) rfl
  obtain ⟨d,i5,e⟩:=aC e
  refine aQ (vs:=[i64 (wr (a.N+b.N)),i64 a.I,zS e3 e2.length e4,zS x u.length y]) Tryz.call116 rfl (aLK i3 (h7.mono i1) i2 i5) ?_
  rintro _ l8 ⟨z,J,V,Z,rfl,i6⟩
  have i7:=i4 _ _ i6
  have e6:=i0 _ _ i7
  refine bM (aA ⟨⟨_,e6⟩,?_⟩)
  have i8:=g6 _ _ e6
  have i9:=g5 _ _ i8
  refine aGr rfl (cZ (i:=7) (ns:=(zC d z J V Z)) (us:=(zC d z J V Z)) Tryz.sizeOf27 i9 rfl d7 rfl rfl rfl (fO rfl) rfl rfl (fun j0 (e7:aI G K (box o 27 l::box n 27 m::aR 9 K e3 e4 e2::aR 149 K x y u::aR 9 K z J d.L::aR 51 K V Z d.E::aR 24 K b5 2 ([a.L,b.L]:List (List bI))::box k 27 (zC d z J V Z)::L) j0)=>(aG (gR (aA ?_)))))
  obtain rfl:=zI e
  exact bK (vF Tryz.results86 (oB (vs:=(zC d z J V Z)) rfl dB e7 (i:=7) rfl d7 rfl) ⟨z,J,V,Z,rfl,(aI.arr 8 [4,5] e7 rfl)⟩)
 obtain ⟨l9,j2,e⟩:=aC e
 refine cC j2 (fun (s:(List Arc × Int)) f w=>match s with|(q,a9)=>∃ (a0:Option Addr) (a2:Nat),f 2=zP (some ⟨n,0,none⟩)∧f 3=zP (some ⟨o,0,none⟩)∧f 4=zP (some ⟨k,0,none⟩)∧f 5=zS a0 q.length a2∧f 11=zS a5 p.length a6∧f 12=i64 (p.length:Int)∧f 13=i64 a9∧aI G K (aR 149 K a5 a6 p::aR 149 K a0 a2 q::box k 27 r::box o 27 l::box n 27 m::L) w) ?_ ?_
 ·exact ⟨d3,d4,rfl,rfl,rfl,rfl,rfl,rfl,rfl,g1⟩
 ·rintro ⟨q,a9⟩ j3 f m0 g j4 ⟨a0,a2,b0,e8,e9,f0,f1,f2,b6,b1⟩
  replace g:wB a p q a9=some j3:=g
  unfold wB at g
  refine aK (aD (cT b6 f2) (aG (aO ?_)))
  rcases aH g with ⟨b7,g⟩|⟨b7,g⟩
  ·refine aM b7 rfl (aY (aA (aO (cI (aK ?_)))))
   obtain ⟨c,b8,g⟩:=aC g
   have j5:=dZ b1 (i:=0) rfl b8
   refine aD (eM aCU rfl j5 f1 rfl b6 b8) (aD (wZ (t:=0) (vs:=[i64 c.from_,str c.label,i64 c.to_]) ag_149 b1 (i:=0) rfl b8 rfl rfl rfl rfl) (cQ (vs:=[i64 0,str ([]:bI),i64 0]) Tryz.zeroValue149 b1 rfl (fun b9 m1 j6=>(cZ (i:=0) (ns:=[i64 c.from_,str c.label,i64 c.to_]) (us:=[i64 c.from_,str c.label,i64 c.to_]) Tryz.sizeOf149 j6 rfl rfl rfl rfl rfl (fO rfl) rfl rfl (fun j7 (a3:aI G K (box b9 149 [i64 c.from_,str c.label,i64 c.to_]::aR 149 K a5 a6 p::aR 149 K a0 a2 q::box k 27 r::box o 27 l::box n 27 m::L) j7)=>(aG (aP (aN f0 (aD (bL (t':=0) aKz rfl rfl) (aD (dG bY a3 (i:=0) rfl rfl rfl) (aD (bL (t':=0) dP b0 rfl) (aD (dG bY a3 (i:=5) rfl rfl rfl) (aD (cK rfl rfl) (aD (bL (t':=1) aKA rfl rfl) (aD (dG yF a3 (i:=0) rfl rfl rfl) (aD (bL (t':=2) aKB rfl rfl) (aD (dG bY a3 (i:=0) rfl rfl rfl) (aD (bL (t':=0) dP b0 rfl) (aD (dG bY a3 (i:=5) rfl rfl rfl) (aD (cK rfl rfl) (aD (nH (vs:=[(0,i64 (wr (c.from_+a.N))),(1,str c.label),(2,i64 (wr (c.to_+a.N)))]) (cs:=[i64 (wr (c.from_+a.N)),str c.label,i64 (wr (c.to_+a.N))]) bs_149 rfl (by kernel_rfl)) (cJ (Kt:=K) (xs:=([⟨wr (c.from_+a.N),c.label,wr (c.to_+a.N)⟩]:List Arc)) (cs:=[i64 (wr (c.from_+a.N)),str c.label,i64 (wr (c.to_+a.N))]) (vs:=[(0,zA #[i64 (wr (c.from_+a.N)),str c.label,i64 (wr (c.to_+a.N))])]) aCU aJC rfl rfl a3 rfl (by kernel_rfl) rfl rfl rfl ⟨rfl,trivial⟩ (fun j8 j9 (k0:aI G K (aR 149 K j8 1 ([⟨wr (c.from_+a.N),c.label,wr (c.to_+a.N)⟩]:List Arc)::box b9 149 [i64 c.from_,str c.label,i64 c.to_]::aR 149 K a5 a6 p::aR 149 K a0 a2 q::box k 27 r::box o 27 l::box n 27 m::L) j9)=>?_)))))))))))))))))))))))
   obtain ⟨c0,k1,g⟩:=aC g
   exact eK (i:=2) aCU Tryz.underlying146 aJC rfl rfl k0 rfl (zR _) (zR _) k1 rfl rfl rfl rfl (fun _ h=>h) (fun c1 c3 k2 (k3:aI G K (box b9 149 [i64 c.from_,str c.label,i64 c.to_]::aR 149 K a5 a6 p::aR 149 K c1 c3 c0::box k 27 r::box o 27 l::box n 27 m::L) k2)=>(aF (v:=zS c1 c0.length c3) (bM (bA (aA (aP (aD (cK b6 rfl) (aL (v:=i64 (wr (a9+1))) (aG ⟨(c0,wr (a9+1)),(zI g).symm,c1,c3,b0,e8,e9,rfl,f1,f2,rfl,(aI.arr 1 [] k3 rfl)⟩)))))))))
  ·refine aJ b7 rfl (cA (aV (aV ?_)))
   have k4:=j4 _ (zI g).symm
   subst k4
   have e:(aBp a b q)=some R:=e
   exact bN (aA ⟨q,a0,a2,e,b0,e8,e9,f0,(aI.arr 1 [] b1 rfl)⟩)
theorem aDk {a:(List (List Int))} {R:(List Int)} (c:aI G K (L) w) (d:Hp.le Kf K) (e:bX Kf a1 c2 a) (b:vM a=some R):
  Calls Tryz.prog 55 ([zS a1 a.length c2]:List Value).toArray w (gQ fun v w'=>∃ (g:Option Addr) (h:Nat),v=zS g R.length h∧bX Kf g h R∧aI G K (L) w'):=by
 refine aS Tryz.func55 rfl (by kernel_rfl) (by show (1:Nat)≤9;decide) ?_
 unfold vM at b
 refine aK (aF (v:=zS none 0 0) (aG (aK (aL (v:=zS a1 a.length c2) (aL (v:=zS a1 a.length c2) (aD (bT (len:=a.length) fD rfl) (aD (nI rfl rfl) ?_)))))))
 obtain ⟨l,i,b⟩:=aC b
 refine aD (cU fD rfl (e.mono d) rfl rfl rfl i) ?_
 obtain ⟨q,m,n⟩:=bX.el (sz:=1) rfl e i
 obtain ⟨j,k,rfl,o⟩:=n
 refine aD (bG (t:=0) sD c (m.mono d) rfl rfl) (aF (v:=zS j l.length k) (aG ?_))
 obtain rfl:=zI b
 exact bK (bE Tryz.results55 rfl ⟨j,k,rfl,o,c⟩)
theorem aIp {n:Int} {R:(List Int)} (h:aI G K (L) w) (b:aFf n=some R):
  Calls Tryz.prog 87 ([i64 n]:List Value).toArray w (gQ fun v w'=>∃ (d:Option Addr) (g:Nat),v=zS d R.length g∧aI G K (aR 2 K d g R::L) w'):=by
 refine aS Tryz.func87 rfl (by kernel_rfl) (by show (1:Nat)≤5;decide) ?_
 unfold aFf at b
 refine aK (aF (v:=zS none 0 0) (aG (aK (aL (v:=i64 n) ?_))))
 obtain ⟨a,i,b⟩:=aC b
 refine aDY (e:=(0:Int)) bO jU rfl rfl h rfl rfl rfl i rfl (fun c j (k:aI G K (aR 2 K c a.length a::L) j)=>(aF (v:=zS c a.length a.length) (aG ?_)))
 obtain rfl:=zI b
 exact bK (bE Tryz.results87 rfl ⟨c,a.length,rfl,k⟩)
theorem aIq {g R:(List Int)} (hs:aI G K (L) w) (h3:bX K a1 c2 g) (j:aDb g=some R):
  Calls Tryz.prog 121 ([zS a1 g.length c2]:List Value).toArray w (gQ fun v w'=>∃ (a6:Option Addr) (a7:Nat),v=zS a6 R.length a7∧aI G K (aR 2 K a6 a7 R::L) w'):=by
 refine aS Tryz.func121 rfl (by kernel_rfl) (by show (1:Nat)≤39;decide) ?_
 unfold aDb at j
 refine aK (aF (v:=zS none 0 0) (aG (aK (aES Int Int hs ?_))))
 intro o w5 (b8:aI G K (sC o ([]:(List (Int × Int)))::L) w5)
 refine aF (v:=Value.map (some o)) (aG (aK (aL (v:=zS a1 g.length c2) (aD (bT (len:=g.length) bO rfl) ?_))))
 obtain ⟨b,q8,j⟩:=aC j
 refine aDY (e:=(0:Int)) bO jU rfl rfl b8 rfl rfl rfl q8 rfl ?_
 intro d c0 (c1:aI G K (aR 2 K d b.length b::sC o ([]:(List (Int × Int)))::L) c0)
 refine aF (v:=zS d b.length b.length) (aG (aO (aK (aL (v:=zS a1 g.length c2) (aD (bT (len:=g.length) bO rfl) (aL (v:=i64 0) (aG (aZ (fun f w=>∃ (r:List Int),aBF r=some R∧f 4=zS d r.length b.length∧aI G K (aR 2 K d b.length r::L) w) ?_ ?_))))))))
 ·rintro f e3 ⟨r,j,c3,c4⟩
  unfold aBF at j
  refine aA (aK (aN c3 (aF (v:=zS d r.length b.length) (aG ?_))))
  obtain rfl:=zI j
  exact bK (bE Tryz.results121 rfl ⟨d,b.length,rfl,c4⟩)
 obtain ⟨e4,c6,j⟩:=aC j
 refine cC c6 (fun (s:((List (Int × Int)) × List Int × Int)) f w=>match s with|(c,m,p)=>f 3=Value.map (some o)∧f 4=zS d m.length b.length∧f 13=zS a1 g.length c2∧f 14=i64 (g.length:Int)∧f 15=i64 p∧aI G K (aR 2 K d b.length m::sC o c::L) w) ?_ ?_
 ·exact ⟨rfl,rfl,rfl,rfl,rfl,c1⟩
 ·rintro ⟨c,m,p⟩ a8 f e5 a c7 ⟨u,V,Z,a0,x,q⟩
  replace a:oK g c m p=some a8:=a
  unfold oK at a
  refine aK (aD (cT x a0) (aG (aO ?_)))
  rcases aH a with ⟨a2,a⟩|⟨a2,a⟩
  ·refine aM a2 rfl (aY (aA (aO (cI (aK (aN x ?_))))))
   obtain ⟨l,b0,a⟩:=aC a
   refine aD (cU bO rfl h3 Z rfl x b0) ?_
   obtain ⟨e6,c8,c9⟩:=bX.el (sz:=1) rfl h3 b0
   cases c9
   refine aD (bG (t:=0) bY q c8 rfl rfl) (aF (v:=i64 p) (aF (v:=i64 l) (aG (aK (aN u (aL (v:=i64 l) (aD (R_look (kv:=c) (k:=l) (z:=(0:Int)) Tryz.runUnderlying189 ko_2 Tryz.zeroValue2 q (i:=1) rfl rfl rfl) (aL (v:=Value.tuple #[i64 ((kZ c l).getD 0),zB ((kZ c l).isSome)]) (aD (cH rfl rfl) (aD (cH rfl rfl) (aF (v:=i64 ((kZ c l).getD 0)) (aF (v:=zB ((kZ c l).isSome)) (aG (lV (fun f w=>∃ (y:(List (Int × Int))) (J:Int),aAn m p y J=some a8∧f 3=Value.map (some o)∧f 4=zS d m.length b.length∧f 5=i64 p∧f 7=i64 J∧f 13=zS a1 g.length c2∧f 14=i64 (g.length:Int)∧f 15=i64 p∧aI G K (aR 2 K d b.length m::sC o y::L) w) ?_ ?_))))))))))))))
   ·rintro f e7 ⟨y,J,a,d0,b1,d1,d2,d3,d4,d5,b2⟩
    unfold aAn at a
    refine aP (aN b1 (aN d1 (aN d2 ?_)))
    obtain ⟨e8,a3,a⟩:=aC a
    have d6:=dZ b2 (i:=0) rfl a3
    refine aD (eM bO rfl d6 rfl rfl rfl a3) ?_
    obtain ⟨b3,b4,a⟩:=aC a
    exact sM (i:=0) (t:=0) (ns:=[i64 J]) (e':=(J:Int)) Tryz.sizeOf2 b2 rfl (zR _) rfl rfl rfl a3 b4 rfl rfl (fO rfl) rfl (fun cs h=>by cases h;rfl) (fun d7 (d8:aI G K (aR 2 K d b.length b3::sC o y::L) d7)=>(bM (bA (aA (aP (aD (cK d5 rfl) (aL (v:=i64 (wr (p+1))) (aG ⟨(y,b3,wr (p+1)),(zI a).symm,d0,(Eq.trans b1 (congrArg (fun n=>zS d n b.length) (oY b4))),d3,d4,rfl,d8⟩))))))))
   refine aK (aL (v:=zB ((kZ c l).isSome)) (aD (eR rfl) (aG ?_)))
   rcases aH a with ⟨a4,a⟩|⟨a4,a⟩
   ·refine aM a4 rfl (aK (aN u (aD (R_lenM Tryz.runUnderlying189 q (i:=1) rfl rfl) (aF (v:=i64 (c.length:Int)) (aG (aP (aN u (aL (v:=i64 l) (aL (v:=i64 (c.length:Int)) ?_)))))))))
    obtain ⟨b5,d9,a⟩:=aC a
    exact aET (i:=1) (k:=l) (v:=(c.length:Int)) Tryz.runUnderlying189 ko_2 q rfl rfl rfl rfl d9 (fun e0 (e1:aI G K (aR 2 K d b.length m::sC o b5::L) e0)=>(aG ⟨b5,(c.length:Int),a,u,V,rfl,rfl,Z,a0,x,e1⟩))
   ·exact aJ a4 rfl (aY (aA ⟨c,((kZ c l).getD 0),a,u,V,rfl,rfl,Z,a0,x,q⟩))
  ·refine aJ a2 rfl (cA (aV (aV ?_)))
   have e2:=c7 _ (zI a).symm
   subst e2
   have j:(aBF m)=some R:=j
   exact bN (aA ⟨m,j,V,(aI.arr 2 [0] q rfl)⟩)
theorem nE {d g:(List Int)} {R:Bool} (l:aI G K (L) w) (m:bX K a1 c2 d) (n:bX K a4 c5 g) (a:fJ d g=some R):
  Calls Tryz.prog 88 ([zS a1 d.length c2,zS a4 g.length c5]:List Value).toArray w (gQ fun v w'=>v=zB R∧aI G K (L) w'):=by
 refine aS Tryz.func88 rfl (by kernel_rfl) (by show (2:Nat)≤26;decide) ?_
 unfold fJ at a
 refine aK (aF (v:=zB false) (aG (aO (aK (aL (v:=zS a1 d.length c2) (aD (bT (len:=d.length) bO rfl) (aL (v:=zS a4 g.length c5) (aD (bT (len:=g.length) bO rfl) (aD (uK rfl rfl) (aG ?_))))))))))
 rcases aH a with ⟨h,a⟩|⟨h,a⟩
 ·refine aM h rfl (aK (aF (v:=zB false) (aG ?_)))
  obtain rfl:=zI a
  exact bK (aX (bE Tryz.results88 rfl ⟨rfl,l⟩))
 ·refine aJ h rfl (aY (aA (aO (aK (aL (v:=zS a1 d.length c2) (aD (bT (len:=d.length) bO rfl) (aL (v:=i64 0) (aG (aZ (fun f w=>gY=some R∧aI G K (L) w) ?_ ?_)))))))))
  ·rintro f w9 ⟨a,J⟩
   unfold gY at a
   refine aA (aK (aF (v:=zB true) (aG ?_)))
   obtain rfl:=zI a
   exact bK (bE Tryz.results88 rfl ⟨rfl,J⟩)
  obtain ⟨b1,Z,a⟩:=aC a
  refine cC Z (fun (e:Int) f w=>f 0=zS a1 d.length c2∧f 1=zS a4 g.length c5∧f 12=i64 (d.length:Int)∧f 13=i64 e∧aI G K (L) w) ?_ ?_
  ·exact ⟨rfl,rfl,rfl,rfl,l⟩
  ·rintro e a0 f b2 b o ⟨p,q,r,i,c⟩
   replace b:eP d g e=some a0:=b
   unfold eP at b
   refine aK (aD (cT i r) (aG (aO ?_)))
   rcases aH b with ⟨j,b⟩|⟨j,b⟩
   ·refine aM j rfl (aY (aA (aO (cI (aK (aN i (aF (v:=i64 e) (aG (aO (eL (C:=fun w'=>aI G K (L) w') bP (by kernel_rfl) (aI.mono c (dN.drew _)) (bC (fun _ c=>aW p) (bC (fun _ c=>aW (v:=i64 e) rfl) ?_))))))))))))
    obtain ⟨b3,u,b⟩:=aC b
    refine bC (fun _ c=>cU bO rfl m rfl rfl rfl u) ?_
    obtain ⟨b4,a2,a3⟩:=bX.el (sz:=1) rfl m u
    cases a3
    refine bC (fun _ c=>bG (t:=0) bY c a2 rfl rfl) (bC (fun _ c=>aW q) (bC (fun _ c=>aW (v:=i64 e) rfl) ?_))
    obtain ⟨b5,x,b⟩:=aC b
    refine bC (fun _ c=>cU bO rfl n rfl rfl rfl x) ?_
    obtain ⟨b6,a5,a6⟩:=bX.el (sz:=1) rfl n x
    cases a6
    refine bC (fun _ c=>bG (t:=0) bY c a5 rfl rfl) (bC (fun _ c=>uK rfl rfl) (fT (fun b7 y=>(aA ?_))))
    rcases aH b with ⟨k,b⟩|⟨k,b⟩
    ·refine aM k rfl (aK (aF (v:=zB false) (aG (bK (bS (aX (aX ?_)))))))
     have a7:=o _ (zI b).symm
     subst a7
     have a:(some false)=some R:=a
     obtain rfl:=zI a
     exact bS (aX (aX (bE Tryz.results88 rfl ⟨rfl,y⟩)))
    ·exact aJ k rfl (aY (bA (aA (aP (aD (cK i rfl) (aL (v:=i64 (wr (e+1))) (aG ⟨wr (e+1),(zI b).symm,p,q,r,rfl,y⟩)))))))
   ·refine aJ j rfl (cA (aV (aV ?_)))
    have a9:=o _ (zI b).symm
    subst a9
    have a:(gY)=some R:=a
    exact bN (aA ⟨a,c⟩)
theorem aDl {k p:(List Int)} {b:Nat} {R:Bool} (c:aI G K (L) w) (d:bX K a1 c2 k) (e:fP K a4 b [zS a7 p.length c8]) (g:bX K a7 c8 p) (a:vN k p=some R):
  Calls Tryz.prog 120 ([zS a1 k.length c2,cP a4 b]:List Value).toArray w (gQ fun v w'=>v=zB R∧aI G K (L) w'):=by
 refine aS Tryz.func120 rfl (by kernel_rfl) (by show (2:Nat)≤7;decide) ?_
 unfold vN at a
 refine aK (aF (v:=zB false) (aG (aK (aL (v:=zS a1 k.length c2) (aD (bG (t:=0) sD c e rfl rfl) ?_)))))
 obtain ⟨h,i,a⟩:=aC a
 refine aQ (vs:=[zS a1 k.length c2,zS a7 p.length c8]) Tryz.call88 rfl (nE c d g i) ?_
 rintro _ m ⟨rfl,j⟩
 refine aF (v:=zB h) (aG ?_)
 obtain rfl:=zI a
 exact bK (bE Tryz.results120 rfl ⟨rfl,j⟩)
theorem qP {d:(List (List Int))} {g:(List Int)} {e:Nat} {R:Int} (z:aI G K (L) w) (l:bX K a1 c2 d) (J:fP K a4 e [zS a7 g.length c8]) (V:bX K a7 c8 g) (b:eQ d g=some R):
  Calls Tryz.prog 119 ([zS a1 d.length c2,Value.func (.func 120) #[] #[cP a4 e]]:List Value).toArray w (gQ fun v w'=>v=i64 R∧aI G K (L) w'):=by
 refine aS Tryz.func119 rfl (by kernel_rfl) (by show (2:Nat)≤19;decide) ?_
 unfold eQ at b
 refine aK (aF (v:=i64 0) (aG (aO (aK (aL (v:=zS a1 d.length c2) (aD (bT (len:=d.length) fD rfl) (aL (v:=i64 0) (aG (aZ (fun f w=>fG=some R∧aI G K (L) w) ?_ ?_)))))))))
 ·rintro f b3 ⟨b,Z⟩
  unfold fG at b
  refine aA (aK (aF (v:=i64 (-1)) (aG ?_)))
  obtain rfl:=zI b
  exact bK (bE Tryz.results119 rfl ⟨rfl,Z⟩)
 obtain ⟨b4,a2,b⟩:=aC b
 refine cC a2 (fun (c:Int) f w=>f 0=zS a1 d.length c2∧f 1=Value.func (.func 120) #[] #[cP a4 e]∧f 7=i64 (d.length:Int)∧f 8=i64 c∧aI G K (L) w) ?_ ?_
 ·exact ⟨rfl,rfl,rfl,rfl,z⟩
 ·rintro c a3 f b5 a m ⟨n,o,p,h,i⟩
  replace a:cR d g c=some a3:=a
  unfold cR at a
  refine aK (aD (cT h p) (aG (aO ?_)))
  rcases aH a with ⟨j,a⟩|⟨j,a⟩
  ·refine aM j rfl (aY (aA (aO (cI (aK (aN h (aF (v:=i64 c) (aG (aK (aN o (aN n (aL (v:=i64 c) ?_))))))))))))
   obtain ⟨q,r,a⟩:=aC a
   refine aD (cU fD rfl l rfl rfl rfl r) ?_
   obtain ⟨b6,a5,a6⟩:=bX.el (sz:=1) rfl l r
   obtain ⟨u,x,rfl,a8⟩:=a6
   refine aD (bG (t:=0) sD i a5 rfl rfl) ?_
   obtain ⟨b7,a9,a⟩:=aC a
   refine mS (vs:=[zS u q.length x]) (caps:=[cP a4 e]) (us:=[zS u q.length x,cP a4 e]) rfl Tryz.call120 rfl rfl (aDl i a8 J V a9) ?_
   rintro _ b8 ⟨rfl,y⟩
   refine aG ?_
   rcases aH a with ⟨k,a⟩|⟨k,a⟩
   ·refine aM k rfl (aK (aL (v:=i64 c) (aF (v:=i64 c) (aG (bK (bS (aX (aX ?_))))))))
    have b0:=m _ (zI a).symm
    subst b0
    have b:(some c)=some R:=b
    obtain rfl:=zI b
    exact bS (aX (aX (bE Tryz.results119 rfl ⟨rfl,y⟩)))
   ·exact aJ k rfl (aY (bA (aA (aP (aD (cK h rfl) (aL (v:=i64 (wr (c+1))) (aG ⟨wr (c+1),(zI a).symm,n,o,p,rfl,y⟩)))))))
  ·refine aJ j rfl (cA (aV (aV ?_)))
   have b2:=m _ (zI a).symm
   subst b2
   have b:(fG)=some R:=b
   exact bN (aA ⟨b,i⟩)
theorem aFj {b:(List (List Int))} {R:(List Int)} (hs:aI G K (L) w) (n:bX K a1 c2 b) (d:xT b=some R):
  Calls Tryz.prog 91 ([zS a1 b.length c2]:List Value).toArray w (gQ fun v w'=>∃ (a8:Option Addr) (a9:Nat),v=zS a8 R.length a9∧aI G K (aR 2 K a8 a9 R::L) w'):=by
 refine aS Tryz.func91 rfl (by kernel_rfl) (by show (1:Nat)≤29;decide) ?_
 unfold xT at d
 refine aK (aF (v:=zS none 0 0) (aG (aK (aF (v:=zS none 0 0) (aG (aO (aK (aL (v:=zS a1 b.length c2) (aD (bT (len:=b.length) fD rfl) (aL (v:=i64 0) (aG (aZ (fun f w=>∃ (l:List Int) (o:Option Addr) (p:Nat),qY l=some R∧f 3=zS o l.length p∧aI G K (aR 2 K o p l::L) w) ?_ ?_))))))))))))
 ·rintro f w8 ⟨l,o,p,d,e7,c0⟩
  unfold qY at d
  refine aA (aK (aN e7 ?_))
  obtain ⟨g5,g6,c1,c3,c4⟩:=aI.lendS (i:=0) c0 (zR _) rfl
  obtain ⟨c5,c7,d⟩:=aC d
  refine aQ (vs:=[zS o l.length p]) Tryz.call121 rfl (aIq c3 c1 c7) ?_
  rintro _ g7 ⟨b0,b1,rfl,c8⟩
  have c9:=c4 _ _ c8
  refine aF (v:=zS b0 c5.length b1) (aG ?_)
  obtain rfl:=zI d
  exact bK (bE Tryz.results91 rfl ⟨b0,b1,rfl,(aI.arr 1 [] c9 rfl)⟩)
 have d1:=aI.nil (α:=Int) hs 2 K
 obtain ⟨g8,d2,d⟩:=aC d
 refine cC d2 (fun (s:(List Int × Int)) f w=>match s with|(e,c)=>∃ (g:Option Addr) (j:Nat),f 0=zS a1 b.length c2∧f 3=zS g e.length j∧f 7=zS a1 b.length c2∧f 8=i64 (b.length:Int)∧f 9=i64 c∧aI G K (aR 2 K g j e::L) w) ?_ ?_
 ·exact ⟨none,0,rfl,rfl,rfl,rfl,rfl,d1⟩
 ·rintro ⟨e,c⟩ b2 f g9 a d3 ⟨g,j,q,r,u,x,m,y⟩
  replace a:jJ b e c=some b2:=a
  unfold jJ at a
  refine aK (aD (cT m x) (aG (aO ?_)))
  rcases aH a with ⟨z,a⟩|⟨z,a⟩
  ·refine aM z rfl (aY (aA (aO (cI (aK (aN m ?_))))))
   obtain ⟨J,b3,a⟩:=aC a
   refine aD (cU fD rfl n u rfl m b3) ?_
   obtain ⟨h0,d4,d5⟩:=bX.el (sz:=1) rfl n b3
   obtain ⟨V,Z,rfl,d6⟩:=d5
   refine aD (bG (t:=0) sD y d4 rfl rfl) (cQ (vs:=[zS none 0 0]) Tryz.zeroValue40 y rfl (fun a0 h1 d7=>(aF (v:=i64 c) (cZ (i:=0) (ns:=[zS V J.length Z]) (us:=[zS V J.length Z]) Tryz.sizeOf40 d7 rfl rfl rfl rfl rfl (fO rfl) rfl rfl (fun d8 (d9:aI G K (box a0 40 [zS V J.length Z]::aR 2 K g j e::L) d8)=>(aG (aK (aN q (aL (v:=i64 c) ?_)))))))))
   obtain ⟨e0,b4,a⟩:=aC a
   obtain ⟨e1,e2,b5⟩:=Cut.ex 1 a1 c2 0
   have e3:=bX.cut' n b4 b5
   refine aD (aJu fD n.room b5 rfl rfl rfl b4) (aD (vW (vs:=[zP (some ⟨a0,0,none⟩)]) rfl) ?_)
   obtain ⟨h2,b6,e4,e5,e6⟩:=aI.lendB (i:=0) d9 rfl
   obtain ⟨a2,e8,a⟩:=aC a
   refine aQ (vs:=[zS e1 e0.length e2,Value.func (.func 120) #[] #[cP (some ⟨a0,0,none⟩) 0]]) Tryz.call119 rfl (qP e5 (e3.mono b6) e4 (d6.mono b6) e8) ?_
   rintro _ h4 ⟨rfl,e9⟩
   have b7:=e6 _ _ e9
   refine aF (v:=i64 a2) (aG (lV (fun f w=>∃ (k:Int),qZ e c k=some b2∧f 0=zS a1 b.length c2∧f 3=zS g e.length j∧f 6=i64 k∧f 7=zS a1 b.length c2∧f 8=i64 (b.length:Int)∧f 9=i64 c∧aI G K (aR 2 K g j e::L) w) ?_ ?_))
   ·rintro f h5 ⟨k,a,f0,f1,f2,f3,f4,f5,f6⟩
    unfold qZ at a
    refine aP (aN f1 (aN f2 (cJ (Kt:=K) (xs:=([k]:List Int)) (cs:=[i64 k]) (vs:=[(0,i64 k)]) bO jU rfl rfl f6 rfl (by kernel_rfl) rfl rfl rfl ⟨rfl,trivial⟩ (fun f7 f8 (f9:aI G K (aR 2 K f7 1 ([k]:List Int)::aR 2 K g j e::L) f8)=>?_))))
    obtain ⟨a3,g0,a⟩:=aC a
    exact eK (i:=0) bO Tryz.underlying40 jU rfl rfl f9 rfl (zR _) (zR _) g0 rfl rfl rfl rfl (fun _ h=>h) (fun a4 a6 g1 (g2:aI G K (aR 2 K a4 a6 a3::L) g1)=>(aF (v:=zS a4 a3.length a6) (bM (bA (aA (aP (aD (cK f5 rfl) (aL (v:=i64 (wr (c+1))) (aG ⟨(a3,wr (c+1)),(zI a).symm,a4,a6,f0,rfl,f3,f4,rfl,g2⟩)))))))))
   refine aK (aL (v:=i64 a2) (aD (cT rfl rfl) (aG ?_)))
   rcases aH a with ⟨a7,a⟩|⟨a7,a⟩
   ·exact aM a7 rfl (aP (aL (v:=i64 c) (aF (v:=i64 c) (aG ⟨c,a,q,r,rfl,u,x,m,(aI.arr 1 [] b7 rfl)⟩))))
   ·exact aJ a7 rfl (aY (aA ⟨a2,a,q,r,rfl,u,x,m,(aI.arr 1 [] b7 rfl)⟩))
  ·refine aJ z rfl (cA (aV (aV ?_)))
   have g3:=d3 _ (zI a).symm
   subst g3
   have d:(qY e)=some R:=d
   exact bN (aA ⟨e,g,j,d,r,y⟩)
theorem aFk {t:cD} {p R:(List Int)} (hs:aI G K (L) w) (h3:bX K a1 c2 t.L) (h6:bX K a4 c5 t.E) (h9:bX K a7 c8 p) (J:xU t p=some R):
  Calls Tryz.prog 57 ([zA (zCa t a1 c2 a4 c5),zS a7 p.length c8]:List Value).toArray w (gQ fun v w'=>∃ (l0:Option Addr) (l1:Nat),v=zS l0 R.length l1∧aI G K (aR 2 K l0 l1 R::L) w'):=by
 let a3:=(zC t a1 c2 a4 c5)
 refine aS Tryz.func57 rfl (by kernel_rfl) (by show (2:Nat)≤84;decide) ?_
 unfold xU at J
 refine aK (eA (v:=zA (zCa t a1 c2 a4 c5)) (vs:=a3) hs rfl rfl (fun a2 y8 l2=>(aF (v:=zS none 0 0) (aG (aK (aD (bL (t':=0) dP rfl rfl) (aD (dG bY l2 (i:=0) rfl rfl rfl) ?_)))))))
 obtain ⟨b,l3,J⟩:=aC J
 refine WO_mkD (tys:=[2]) (hd:=((none,0):Dp.Hd (List Int))) fD qD rfl rfl l2 rfl rfl rfl l3 rfl (pcs_nil _) ?_
 intro c o7 (o8:aI G K (aR 40 K c b.length (bU (List.replicate t.N.toNat ((none,0):Dp.Hd (List Int))) b)::rows [2] (List.replicate t.N.toNat ((none,0):Dp.Hd (List Int))) b::box a2 27 a3::L) o7)
 refine aF (v:=zS c b.length b.length) (aG (aO (aK (aL (v:=zS a7 p.length c8) (aD (bT (len:=p.length) bO rfl) (aL (v:=i64 0) (aG (aZ (fun f w=>∃ (d:List (List Int)) (k:List (Dp.Hd (List Int))),rC t p d=some R∧f 1=zS a7 p.length c8∧f 2=zP (some ⟨a2,0,none⟩)∧f 5=zS c d.length b.length∧List.length k=List.length d∧aI G K (aR 40 K c b.length (bU k d)::rows [2] k d::box a2 27 a3::L) w) ?_ ?_))))))))
 ·rintro f y9 ⟨d,k,J,o9,g6,p0,p1,l4⟩
  unfold rC at J
  refine aA (aK (aD (bL (t':=0) dP g6 rfl) (aD (dG bY l4 (i:=2) rfl rfl rfl) ?_)))
  obtain ⟨e,l5,J⟩:=aC J
  refine WO_mkD (tys:=[2]) (hd:=((none,0):Dp.Hd (List Int))) fD qD rfl rfl l4 rfl rfl rfl l5 rfl (pcs_nil _) ?_
  intro l p2 (l6:aI G K (aR 40 K l e.length (bU (List.replicate t.N.toNat ((none,0):Dp.Hd (List Int))) e)::rows [2] (List.replicate t.N.toNat ((none,0):Dp.Hd (List Int))) e::aR 40 K c b.length (bU k d)::rows [2] k d::box a2 27 a3::L) p2)
  refine aF (v:=zS l e.length e.length) (aG (aO (aK (aD (bL (t':=3) dY g6 rfl) (aD (dG jR l6 (i:=4) rfl rfl rfl) (aD (bT (len:=t.E.length) cN rfl) (aL (v:=i64 0) (aG (aZ (fun f w=>∃ (m:List (List Int)) (y:List (Dp.Hd (List Int))),rB d m=some R∧f 5=zS c d.length b.length∧f 8=zS l m.length e.length∧List.length y=List.length m∧aI G K (aR 40 K l e.length (bU y m)::rows [2] y m::aR 40 K c b.length (bU k d)::rows [2] k d::L) w) ?_ ?_)))))))))
  ·rintro f z0 ⟨m,y,J,p3,p4,f0,p5⟩
   unfold rB at J
   refine aA (aO (aK (aN p4 (aD (bT (len:=m.length) fD rfl) (aL (v:=i64 0) (aG (aZ (fun f w=>∃ (c0:List (List Int)) (f1:List (Dp.Hd (List Int))),rA c0=some R∧f 5=zS c c0.length b.length∧List.length f1=List.length c0∧aI G K (aR 40 K c b.length (bU f1 c0)::rows [2] f1 c0::L) w) ?_ ?_)))))))
   ·rintro f z1 ⟨c0,f1,J,p6,p7,p8⟩
    unfold rA at J
    refine aA (aK (aN p6 ?_))
    obtain ⟨z2,z3,p9,z4,q0,q1⟩:=aI.lendD' (i:=0) p8 p7 rfl rfl
    obtain ⟨q2,q3,J⟩:=aC J
    refine aQ (vs:=[zS c c0.length b.length]) Tryz.call91 rfl (aFj q0 p9 q3) ?_
    rintro _ z5 ⟨l7,l8,rfl,q4⟩
    have q5:=q1 _ _ q4
    refine aF (v:=zS l7 q2.length l8) (aG ?_)
    obtain rfl:=zI J
    exact bK (bE Tryz.results57 rfl ⟨l7,l8,rfl,(aI.arr 2 [] q5 rfl)⟩)
   obtain ⟨z6,q7,J⟩:=aC J
   refine cC q7 (fun (s:(List (List Int) × Nat × Int)) f w=>match s with|(V,e0,r)=>∃ (x:List (Dp.Hd (List Int))),f 5=zS c V.length b.length∧f 62=zS l m.length e.length∧f 63=i64 (m.length:Int)∧f 64=i64 r∧List.length x=List.length V∧aI G K (aR 40 K l e.length (bU y m)::rows [2] (List.drop e0 y) (List.drop e0 m)::aR 40 K c b.length (bU x V)::rows [2] x V::L) w) ?_ ?_
   ·exact ⟨k,p3,rfl,rfl,rfl,p1,p5⟩
   ·rintro ⟨V,e0,r⟩ l9 f q8 u q9 ⟨x,e1,g7,g8,e2,b5,f2⟩
    replace u:jK m V e0 r=some l9:=u
    unfold jK at u
    refine aK (aD (cT e2 g8) (aG (aO ?_)))
    rcases aH u with ⟨g9,u⟩|⟨g9,u⟩
    ·refine aM g9 rfl (aY (aA (aO (cI (aK (aN e2 ?_))))))
     obtain ⟨f3,e3,u⟩:=aC u
     obtain ⟨⟨b8,b9⟩,h0⟩:=aGZ f0 e3
     have r0:=dZ f2 (i:=0) rfl (pA f0 e3 h0)
     refine aD (eM fD rfl r0 g7 rfl e2 e3) (aD (lB (t:=0) sD f2 (i:=0) rfl (pA f0 e3 h0) rfl rfl rfl) ?_)
     obtain ⟨Z,r1,u⟩:=aC u
     have r2:aI G K (aR 2 K b8 b9 f3::aR 40 K l e.length (bU y m)::rows [2] (List.drop Z y) (List.drop Z m)::aR 40 K c b.length (bU x V)::rows [2] x V::L) q8:=aI.eatR (i:=0) (g:=e0) f2 rfl rfl f0 h0 e3 r1
     refine aF (v:=i64 r) (aF (v:=zS b8 f3.length b9) (aG (aK (aL (v:=zS b8 f3.length b9) ?_))))
     obtain ⟨h1,r3,u⟩:=aC u
     refine aQ (vs:=[zS b8 f3.length b9]) Tryz.call89 rfl (aDd r2 r3) ?_
     rintro _ z7 ⟨rfl,r4,r5⟩
     refine aG (dO (fun f w=>∃ (c1:List (List Int)) (e4:List (Dp.Hd (List Int))),vO r Z c1=some l9∧f 5=zS c c1.length b.length∧f 62=zS l m.length e.length∧f 63=i64 (m.length:Int)∧f 64=i64 r∧List.length e4=List.length c1∧aI G K (aR 40 K l e.length (bU y m)::rows [2] (List.drop Z y) (List.drop Z m)::aR 40 K c b.length (bU e4 c1)::rows [2] e4 c1::L) w) ?_ ?_)
     ·rintro f z8 ⟨c1,e4,u,r6,r7,r8,r9,s0,s1⟩
      unfold vO at u
      exact bA (aA (aP (aD (cK r9 rfl) (aL (v:=i64 (wr (r+1))) (aG ⟨(c1,Z,wr (r+1)),(zI u).symm,e4,r6,r7,r8,rfl,s0,s1⟩)))))
     refine aID (C:=fun w'=>∃ L',aI G K L' w') [10] bP (by kernel_rfl) (fun z9 s2=>?_)
     have a8:=aI.mono r5 s2
     refine yE (i:=0) rfl (by kernel_rfl) ⟨_,a8⟩ (fun _ _=>aW e1) (yE (i:=1) rfl (by kernel_rfl) ⟨_,a8⟩ (fun _ _=>aW (v:=i64 r) rfl) (yE (i:=2) rfl (by kernel_rfl) ⟨_,a8⟩ (fun _ _=>aW e1) (yE (i:=3) rfl (by kernel_rfl) ⟨_,a8⟩ (fun _ _=>aW (v:=i64 r) rfl) ?_)))
     obtain ⟨f4,a9,u⟩:=aC u
     obtain ⟨⟨f5,f6⟩,c3⟩:=aGZ b5 a9
     have h2:=dZ a8 (i:=3) rfl (pA b5 a9 c3)
     refine yE (i:=4) rfl (by kernel_rfl) ⟨_,a8⟩ (fun _ _=>eM fD rfl h2 rfl rfl rfl a9) (yE (i:=6) rfl (by kernel_rfl) ⟨_,a8⟩ (fun _ _=>aW (v:=zS b8 h1.length b9) (Eq.trans rfl (congrArg (fun n=>zS b8 n b9) r4))) (WA_act2 (i:=5) (j:=7) (by kernel_rfl) rfl rfl ?_ ?_))
     ·refine aD (lB (t:=0) sD a8 (i:=3) rfl (pA b5 a9 c3) rfl rfl rfl) (bM (aA ⟨fun _=>⟨_,a8⟩,?_⟩))
      refine vG (i:=7) (by kernel_rfl) rfl ?_
      obtain ⟨m0,s3,u⟩:=aC u
      refine aQ (vs:=[zS b8 h1.length b9]) Tryz.call90 rfl (iV a8 s3) ?_
      rintro _ m1 ⟨m2,m3,rfl,m4⟩
      refine bM (aA ⟨fun _=>⟨_,m4⟩,?_⟩)
      refine vG (i:=8) (by kernel_rfl) rfl ?_
      have s4:aI G K (aR 40 K c b.length (bU x V)::rows [2] ((x).eraseIdx r.toNat) ((V).eraseIdx r.toNat)::aR 2 K f5 f6 f4::aR 2 K m2 m3 m0::aR 40 K l e.length (bU y m)::rows [2] (List.drop Z y) (List.drop Z m)::L) m1:=aI.focusR (i:=3) m4 rfl rfl c3 a9
      obtain ⟨h4,s5,u⟩:=aC u
      have s6:aI G K (aR 2 K m2 m3 m0::aR 40 K c b.length (bU x V)::rows [2] ((x).eraseIdx r.toNat) ((V).eraseIdx r.toNat)::aR 2 K f5 f6 f4::aR 40 K l e.length (bU y m)::rows [2] (List.drop Z y) (List.drop Z m)::L) m1:=(aI.arr 4 [3,0,1,2] s4 rfl)
      refine eK (i:=2) bO Tryz.underlying40 jU rfl rfl s6 rfl (zR _) (zR _) s5 rfl rfl rfl rfl (fun _ h=>h) (fun c4 c6 m5 (h5:aI G K (aR 40 K c b.length (bU x V)::rows [2] ((x).eraseIdx r.toNat) ((V).eraseIdx r.toNat)::aR 2 K c4 c6 h4::aR 40 K l e.length (bU y m)::rows [2] (List.drop Z y) (List.drop Z m)::L) m5)=>(bM (aA ⟨fun _=>⟨_,h5⟩,?_⟩)))
      refine yE (i:=9) rfl (by kernel_rfl) ⟨_,h5⟩ (fun _ _=>eM fD rfl h2 rfl rfl rfl a9) (vG (i:=10) (by kernel_rfl) rfl ?_)
      have s7:aI G K (aR 2 K c4 c6 h4::aR 40 K c b.length (bU x V)::rows [2] ((x).eraseIdx r.toNat) ((V).eraseIdx r.toNat)::aR 40 K l e.length (bU y m)::rows [2] (List.drop Z y) (List.drop Z m)::L) m5:=(aI.arr 3 [2,0,1] h5 rfl)
      obtain ⟨h7,h8,u⟩:=aC u
      refine aJz (i:=0) (tys:=[2]) (hd':=(c4,c6)) (e':=h4) (hds:=x) Tryz.sizeOf40 s7 b5 rfl rfl rfl rfl rfl a9 c3 h8 rfl ?_
      intro s8 (s9:aI G K (aR 40 K c b.length (bU (List.set x r.toNat (c4,c6)) h7)::rows [2] (List.set x r.toNat (c4,c6)) h7::aR 40 K l e.length (bU y m)::rows [2] (List.drop Z y) (List.drop Z m)::L) s8)
      refine bM (aA ⟨no_c rfl,?_⟩)
      exact aGI (by kernel_rfl) (aA ⟨h7,(List.set x r.toNat (c4,c6)),u,(Eq.trans e1 (congrArg (fun n=>zS c n b.length) (oY h8))),g7,g8,e2,(aEP (hd:=((c4,c6):Dp.Hd (List Int))) b5 h8),(aI.arr 4 [2,3,0,1] s9 rfl)⟩)
     ·obtain ⟨m6,t0,u⟩:=aC u
      refine aQ (vs:=[zS b8 h1.length b9]) Tryz.call90 rfl (iV a8 t0) ?_
      rintro _ m7 ⟨m8,m9,rfl,f7⟩
      refine bM (aA ⟨fun _=>⟨_,f7⟩,?_⟩)
      refine vG (i:=5) (by kernel_rfl) rfl (aD (lB (t:=0) sD f7 (i:=3) rfl (pA b5 a9 c3) rfl rfl rfl) (bM (aA ⟨fun _=>⟨_,f7⟩,?_⟩)))
      refine vG (i:=8) (by kernel_rfl) rfl ?_
      have t1:aI G K (aR 40 K c b.length (bU x V)::rows [2] ((x).eraseIdx r.toNat) ((V).eraseIdx r.toNat)::aR 2 K f5 f6 f4::aR 2 K m8 m9 m6::aR 40 K l e.length (bU y m)::rows [2] (List.drop Z y) (List.drop Z m)::L) m7:=aI.focusR (i:=3) f7 rfl rfl c3 a9
      obtain ⟨i0,t2,u⟩:=aC u
      have t3:aI G K (aR 2 K m8 m9 m6::aR 40 K c b.length (bU x V)::rows [2] ((x).eraseIdx r.toNat) ((V).eraseIdx r.toNat)::aR 2 K f5 f6 f4::aR 40 K l e.length (bU y m)::rows [2] (List.drop Z y) (List.drop Z m)::L) m7:=(aI.arr 4 [3,0,1,2] t1 rfl)
      refine eK (i:=2) bO Tryz.underlying40 jU rfl rfl t3 rfl (zR _) (zR _) t2 rfl rfl rfl rfl (fun _ h=>h) (fun c7 c9 n0 (i1:aI G K (aR 40 K c b.length (bU x V)::rows [2] ((x).eraseIdx r.toNat) ((V).eraseIdx r.toNat)::aR 2 K c7 c9 i0::aR 40 K l e.length (bU y m)::rows [2] (List.drop Z y) (List.drop Z m)::L) n0)=>(bM (aA ⟨fun _=>⟨_,i1⟩,?_⟩)))
      refine yE (i:=9) rfl (by kernel_rfl) ⟨_,i1⟩ (fun _ _=>eM fD rfl h2 rfl rfl rfl a9) (vG (i:=10) (by kernel_rfl) rfl ?_)
      have t4:aI G K (aR 2 K c7 c9 i0::aR 40 K c b.length (bU x V)::rows [2] ((x).eraseIdx r.toNat) ((V).eraseIdx r.toNat)::aR 40 K l e.length (bU y m)::rows [2] (List.drop Z y) (List.drop Z m)::L) n0:=(aI.arr 3 [2,0,1] i1 rfl)
      obtain ⟨i2,i3,u⟩:=aC u
      refine aJz (i:=0) (tys:=[2]) (hd':=(c7,c9)) (e':=i0) (hds:=x) Tryz.sizeOf40 t4 b5 rfl rfl rfl rfl rfl a9 c3 i3 rfl ?_
      intro t5 (t6:aI G K (aR 40 K c b.length (bU (List.set x r.toNat (c7,c9)) i2)::rows [2] (List.set x r.toNat (c7,c9)) i2::aR 40 K l e.length (bU y m)::rows [2] (List.drop Z y) (List.drop Z m)::L) t5)
      refine bM (aA ⟨no_c rfl,?_⟩)
      exact aGI (by kernel_rfl) (aA ⟨i2,(List.set x r.toNat (c7,c9)),u,(Eq.trans e1 (congrArg (fun n=>zS c n b.length) (oY i3))),g7,g8,e2,(aEP (hd:=((c7,c9):Dp.Hd (List Int))) b5 i3),(aI.arr 4 [2,3,0,1] t6 rfl)⟩)
    ·refine aJ g9 rfl (cA (aV (aV ?_)))
     have t7:=q9 _ (zI u).symm
     subst t7
     have J:(rA V)=some R:=J
     exact bN (aA ⟨V,x,J,e1,b5,(aI.arr 2 [] f2 rfl)⟩)
  obtain ⟨a00,t8,J⟩:=aC J
  refine cC t8 (fun (s:(List (List Int) × Int)) f w=>match s with|(z,d0)=>∃ (o:List (Dp.Hd (List Int))),f 1=zS a7 p.length c8∧f 2=zP (some ⟨a2,0,none⟩)∧f 5=zS c d.length b.length∧f 8=zS l z.length e.length∧f 33=zS a4 t.E.length c5∧f 34=i64 (t.E.length:Int)∧f 35=i64 d0∧List.length o=List.length z∧aI G K (aR 40 K l e.length (bU o z)::rows [2] o z::aR 40 K c b.length (bU k d)::rows [2] k d::box a2 27 a3::L) w) ?_ ?_
  ·exact ⟨(List.replicate t.N.toNat ((none,0):Dp.Hd (List Int))),o9,g6,p0,rfl,rfl,rfl,rfl,(aFJ (hd:=((none,0):Dp.Hd (List Int))) l5).2.1,l6⟩
  ·rintro ⟨z,d0⟩ n1 f a01 a0 t9 ⟨o,i4,i5,i6,e5,i7,i8,f8,b6,i9⟩
   replace a0:jL t p z d0=some n1:=a0
   unfold jL at a0
   refine aK (aD (cT f8 i8) (aG (aO ?_)))
   rcases aH a0 with ⟨j0,a0⟩|⟨j0,a0⟩
   ·refine aM j0 rfl (aY (aA (aO (cI (aK ?_)))))
    obtain ⟨a,n2,a0⟩:=aC a0
    refine aD (cU cN rfl h6 i7 rfl f8 n2) ?_
    obtain ⟨a02,u0,u1⟩:=bX.el (sz:=3) rfl h6 n2
    cases u1
    refine aD (iD (t:=0) (vs:=[i64 a.F,i64 a.B,i64 a.To]) kW i9 u0 rfl rfl rfl) (cQ (vs:=[i64 0,i64 0,i64 0]) Tryz.zeroValue51 i9 rfl (fun e6 a03 u2=>(cZ (i:=0) (ns:=[i64 a.F,i64 a.B,i64 a.To]) (us:=[i64 a.F,i64 a.B,i64 a.To]) Tryz.sizeOf51 u2 rfl rfl rfl rfl rfl (fO rfl) rfl rfl (fun u3 (u4:aI G K (box e6 51 [i64 a.F,i64 a.B,i64 a.To]::aR 40 K l e.length (bU o z)::rows [2] o z::aR 40 K c b.length (bU k d)::rows [2] k d::box a2 27 a3::L) u3)=>(aG (dO (fun f w=>∃ (d1:List (List Int)) (e7:List (Dp.Hd (List Int))),vP d0 d1=some n1∧f 1=zS a7 p.length c8∧f 2=zP (some ⟨a2,0,none⟩)∧f 5=zS c d.length b.length∧f 8=zS l d1.length e.length∧f 33=zS a4 t.E.length c5∧f 34=i64 (t.E.length:Int)∧f 35=i64 d0∧List.length e7=List.length d1∧aI G K (aR 40 K l e.length (bU e7 d1)::rows [2] e7 d1::aR 40 K c b.length (bU k d)::rows [2] k d::box a2 27 a3::L) w) ?_ ?_))))))
    ·rintro f a04 ⟨d1,e7,a0,u5,u6,u7,u8,u9,v0,v1,v2,v3⟩
     unfold vP at a0
     exact bA (aA (aP (aD (cK v1 rfl) (aL (v:=i64 (wr (d0+1))) (aG ⟨(d1,wr (d0+1)),(zI a0).symm,e7,u5,u6,u7,u8,u9,v0,rfl,v2,v3⟩)))))
    obtain ⟨a05,d8,f9,v4,n3⟩:=aI.lendB (i:=0) u4 rfl
    obtain ⟨b7,b2,v5,v6,n4⟩:=aI.lendB (i:=4) v4 rfl
    refine aID (C:=fun w'=>∃ L',aI G b7 L' w') [22] bP (by kernel_rfl) (fun a06 v7=>?_)
    have q:=aI.mono v6 v7
    refine yE (i:=0) rfl (by kernel_rfl) ⟨_,q⟩ (fun _ _=>aW e5) (yE (i:=1) rfl (by kernel_rfl) ⟨_,q⟩ (fun _ _=>bL (t':=0) iY rfl rfl) (yE (i:=2) rfl (by kernel_rfl) ⟨_,q⟩ (fun _ ⟨_,q⟩=>bG (t:=0) bY q (f9.mono b2) rfl rfl) (yE (i:=3) rfl (by kernel_rfl) ⟨_,q⟩ (fun _ _=>aW e5) (yE (i:=4) rfl (by kernel_rfl) ⟨_,q⟩ (fun _ _=>bL (t':=0) iY rfl rfl) (yE (i:=5) rfl (by kernel_rfl) ⟨_,q⟩ (fun _ ⟨_,q⟩=>bG (t:=0) bY q (f9.mono b2) rfl rfl) ?_)))))
    obtain ⟨g0,b0,a0⟩:=aC a0
    obtain ⟨⟨g1,g2⟩,d2⟩:=aGZ b6 b0
    have j1:=dZ q (i:=0) rfl (pA b6 b0 d2)
    refine yE (i:=6) rfl (by kernel_rfl) ⟨_,q⟩ (fun _ _=>eM fD rfl j1 rfl rfl rfl b0) (yE (i:=8) rfl (by kernel_rfl) ⟨_,q⟩ (fun _ _=>bL (t':=1) iZ rfl rfl) (yE (i:=9) rfl (by kernel_rfl) ⟨_,q⟩ (fun _ ⟨_,q⟩=>bG (t:=1) bY q (f9.mono b2) rfl rfl) (yE (i:=10) rfl (by kernel_rfl) ⟨_,q⟩ (fun _ _=>bL (t':=0) dP i5 rfl) (yE (i:=11) rfl (by kernel_rfl) ⟨_,q⟩ (fun _ ⟨_,q⟩=>bG (t:=0) bY q v5 rfl rfl) (yE (i:=12) rfl (by kernel_rfl) ⟨_,q⟩ (fun _ _=>R_mul rfl rfl) (yE (i:=13) rfl (by kernel_rfl) ⟨_,q⟩ (fun _ _=>aW i4) (yE (i:=14) rfl (by kernel_rfl) ⟨_,q⟩ (fun _ _=>bL (t':=2) iC rfl rfl) (yE (i:=15) rfl (by kernel_rfl) ⟨_,q⟩ (fun _ ⟨_,q⟩=>bG (t:=2) bY q (f9.mono b2) rfl rfl) ?_))))))))
    obtain ⟨a6,n5,a0⟩:=aC a0
    refine yE (i:=16) rfl (by kernel_rfl) ⟨_,q⟩ (fun _ _=>cU bO rfl (h9.mono (zL d8 b2)) rfl rfl rfl n5) ?_
    obtain ⟨a07,v8,v9⟩:=bX.el (sz:=1) rfl h9 n5
    cases v9
    refine yE (i:=17) rfl (by kernel_rfl) ⟨_,q⟩ (fun _ ⟨_,q⟩=>bG (t:=0) bY q (v8.mono (zL d8 b2)) rfl rfl) (yE (i:=18) rfl (by kernel_rfl) ⟨_,q⟩ (fun _ _=>cK rfl rfl) (WA_act2 (i:=7) (j:=19) (by kernel_rfl) rfl rfl ?_ ?_))
    ·refine aD (lB (t:=0) sD q (i:=0) rfl (pA b6 b0 d2) rfl rfl rfl) (bM (aA ⟨fun _=>⟨_,q⟩,?_⟩))
     refine vG (i:=19) (by kernel_rfl) rfl (cJ (Kt:=K) (xs:=([wr ((wr (a.B * t.N))+a6)]:List Int)) (cs:=[i64 (wr ((wr (a.B * t.N))+a6))]) (vs:=[(0,i64 (wr ((wr (a.B * t.N))+a6)))]) bO jU rfl rfl q rfl (by kernel_rfl) rfl rfl rfl ⟨rfl,trivial⟩ ?_)
     intro j2 j3 (n6:aI G b7 (aR 2 K j2 1 ([wr ((wr (a.B * t.N))+a6)]:List Int)::aR 40 K l e.length (bU o z)::rows [2] o z::aR 40 K c b.length (bU k d)::rows [2] k d::L) j3)
     refine bM (aA ⟨fun _=>⟨_,n6⟩,?_⟩)
     refine vG (i:=20) (by kernel_rfl) rfl ?_
     have w0:aI G b7 (aR 40 K l e.length (bU o z)::rows [2] ((o).eraseIdx a.F.toNat) ((z).eraseIdx a.F.toNat)::aR 2 K g1 g2 g0::aR 2 K j2 1 ([wr ((wr (a.B * t.N))+a6)]:List Int)::aR 40 K c b.length (bU k d)::rows [2] k d::L) j3:=aI.focusR (i:=1) n6 rfl rfl d2 b0
     obtain ⟨j4,w1,a0⟩:=aC a0
     have w2:aI G b7 (aR 2 K j2 1 ([wr ((wr (a.B * t.N))+a6)]:List Int)::aR 40 K l e.length (bU o z)::rows [2] ((o).eraseIdx a.F.toNat) ((z).eraseIdx a.F.toNat)::aR 2 K g1 g2 g0::aR 40 K c b.length (bU k d)::rows [2] k d::L) j3:=(aI.arr 4 [3,0,1,2] w0 rfl)
     refine eK (i:=2) bO Tryz.underlying40 jU rfl rfl w2 rfl (zL d8 b2) (zL d8 b2) w1 rfl rfl rfl rfl (fun _ h=>h) (fun d3 d4 n7 (j5:aI G b7 (aR 40 K l e.length (bU o z)::rows [2] ((o).eraseIdx a.F.toNat) ((z).eraseIdx a.F.toNat)::aR 2 K d3 d4 j4::aR 40 K c b.length (bU k d)::rows [2] k d::L) n7)=>(bM (aA ⟨fun _=>⟨_,j5⟩,?_⟩)))
     refine yE (i:=21) rfl (by kernel_rfl) ⟨_,j5⟩ (fun _ _=>eM fD rfl j1 rfl rfl rfl b0) (vG (i:=22) (by kernel_rfl) rfl ?_)
     have w3:=n4 _ _ j5
     have w4:=n3 _ _ w3
     have w5:aI G K (aR 2 K d3 d4 j4::box e6 51 [i64 a.F,i64 a.B,i64 a.To]::box a2 27 a3::aR 40 K l e.length (bU o z)::rows [2] ((o).eraseIdx a.F.toNat) ((z).eraseIdx a.F.toNat)::aR 40 K c b.length (bU k d)::rows [2] k d::L) n7:=(aI.arr 5 [4,0,1,2,3] w4 rfl)
     obtain ⟨j6,j7,a0⟩:=aC a0
     refine aJz (i:=2) (tys:=[2]) (hd':=(d3,d4)) (e':=j4) (hds:=o) Tryz.sizeOf40 w5 b6 rfl rfl rfl rfl rfl b0 d2 j7 rfl ?_
     intro w6 (w7:aI G K (aR 40 K l e.length (bU (List.set o a.F.toNat (d3,d4)) j6)::rows [2] (List.set o a.F.toNat (d3,d4)) j6::box e6 51 [i64 a.F,i64 a.B,i64 a.To]::box a2 27 a3::aR 40 K c b.length (bU k d)::rows [2] k d::L) w6)
     refine bM (aA ⟨no_c rfl,?_⟩)
     exact aGI (by kernel_rfl) (aA ⟨j6,(List.set o a.F.toNat (d3,d4)),a0,i4,i5,i6,(Eq.trans e5 (congrArg (fun n=>zS l n e.length) (oY j7))),i7,i8,f8,(aEP (hd:=((d3,d4):Dp.Hd (List Int))) b6 j7),(aI.arr 6 [0,1,4,5,3] w7 rfl)⟩)
    ·refine cJ (Kt:=K) (xs:=([wr ((wr (a.B * t.N))+a6)]:List Int)) (cs:=[i64 (wr ((wr (a.B * t.N))+a6))]) (vs:=[(0,i64 (wr ((wr (a.B * t.N))+a6)))]) bO jU rfl rfl q rfl (by kernel_rfl) rfl rfl rfl ⟨rfl,trivial⟩ ?_
     intro j8 j9 (g3:aI G b7 (aR 2 K j8 1 ([wr ((wr (a.B * t.N))+a6)]:List Int)::aR 40 K l e.length (bU o z)::rows [2] o z::aR 40 K c b.length (bU k d)::rows [2] k d::L) j9)
     refine bM (aA ⟨fun _=>⟨_,g3⟩,?_⟩)
     refine vG (i:=7) (by kernel_rfl) rfl (aD (lB (t:=0) sD g3 (i:=1) rfl (pA b6 b0 d2) rfl rfl rfl) (bM (aA ⟨fun _=>⟨_,g3⟩,?_⟩)))
     refine vG (i:=20) (by kernel_rfl) rfl ?_
     have w8:aI G b7 (aR 40 K l e.length (bU o z)::rows [2] ((o).eraseIdx a.F.toNat) ((z).eraseIdx a.F.toNat)::aR 2 K g1 g2 g0::aR 2 K j8 1 ([wr ((wr (a.B * t.N))+a6)]:List Int)::aR 40 K c b.length (bU k d)::rows [2] k d::L) j9:=aI.focusR (i:=1) g3 rfl rfl d2 b0
     obtain ⟨k0,w9,a0⟩:=aC a0
     have x0:aI G b7 (aR 2 K j8 1 ([wr ((wr (a.B * t.N))+a6)]:List Int)::aR 40 K l e.length (bU o z)::rows [2] ((o).eraseIdx a.F.toNat) ((z).eraseIdx a.F.toNat)::aR 2 K g1 g2 g0::aR 40 K c b.length (bU k d)::rows [2] k d::L) j9:=(aI.arr 4 [3,0,1,2] w8 rfl)
     refine eK (i:=2) bO Tryz.underlying40 jU rfl rfl x0 rfl (zL d8 b2) (zL d8 b2) w9 rfl rfl rfl rfl (fun _ h=>h) (fun d5 d6 n8 (k1:aI G b7 (aR 40 K l e.length (bU o z)::rows [2] ((o).eraseIdx a.F.toNat) ((z).eraseIdx a.F.toNat)::aR 2 K d5 d6 k0::aR 40 K c b.length (bU k d)::rows [2] k d::L) n8)=>(bM (aA ⟨fun _=>⟨_,k1⟩,?_⟩)))
     refine yE (i:=21) rfl (by kernel_rfl) ⟨_,k1⟩ (fun _ _=>eM fD rfl j1 rfl rfl rfl b0) (vG (i:=22) (by kernel_rfl) rfl ?_)
     have x1:=n4 _ _ k1
     have x2:=n3 _ _ x1
     have x3:aI G K (aR 2 K d5 d6 k0::box e6 51 [i64 a.F,i64 a.B,i64 a.To]::box a2 27 a3::aR 40 K l e.length (bU o z)::rows [2] ((o).eraseIdx a.F.toNat) ((z).eraseIdx a.F.toNat)::aR 40 K c b.length (bU k d)::rows [2] k d::L) n8:=(aI.arr 5 [4,0,1,2,3] x2 rfl)
     obtain ⟨k2,k3,a0⟩:=aC a0
     refine aJz (i:=2) (tys:=[2]) (hd':=(d5,d6)) (e':=k0) (hds:=o) Tryz.sizeOf40 x3 b6 rfl rfl rfl rfl rfl b0 d2 k3 rfl ?_
     intro x4 (x5:aI G K (aR 40 K l e.length (bU (List.set o a.F.toNat (d5,d6)) k2)::rows [2] (List.set o a.F.toNat (d5,d6)) k2::box e6 51 [i64 a.F,i64 a.B,i64 a.To]::box a2 27 a3::aR 40 K c b.length (bU k d)::rows [2] k d::L) x4)
     refine bM (aA ⟨no_c rfl,?_⟩)
     exact aGI (by kernel_rfl) (aA ⟨k2,(List.set o a.F.toNat (d5,d6)),a0,i4,i5,i6,(Eq.trans e5 (congrArg (fun n=>zS l n e.length) (oY k3))),i7,i8,f8,(aEP (hd:=((d5,d6):Dp.Hd (List Int))) b6 k3),(aI.arr 6 [0,1,4,5,3] x5 rfl)⟩)
   ·refine aJ j0 rfl (cA (aV (aV ?_)))
    have x6:=t9 _ (zI a0).symm
    subst x6
    have J:(rB d z)=some R:=J
    exact bN (aA ⟨z,o,J,i6,e5,b6,(aI.arr 5 [0,1,2,3] i9 rfl)⟩)
 obtain ⟨a08,x7,J⟩:=aC J
 refine cC x7 (fun (s:(List (List Int) × Int)) f w=>match s with|(b3,b4)=>∃ (b1:List (Dp.Hd (List Int))),f 1=zS a7 p.length c8∧f 2=zP (some ⟨a2,0,none⟩)∧f 5=zS c b3.length b.length∧f 16=zS a7 p.length c8∧f 17=i64 (p.length:Int)∧f 18=i64 b4∧List.length b1=List.length b3∧aI G K (aR 40 K c b.length (bU b1 b3)::rows [2] b1 b3::box a2 27 a3::L) w) ?_ ?_
 ·exact ⟨(List.replicate t.N.toNat ((none,0):Dp.Hd (List Int))),rfl,rfl,rfl,rfl,rfl,rfl,(aFJ (hd:=((none,0):Dp.Hd (List Int))) l3).2.1,o8⟩
 ·rintro ⟨b3,b4⟩ x8 f a09 a5 x9 ⟨b1,n9,o0,k4,o1,o2,g4,e8,k5⟩
  replace a5:jM p b3 b4=some x8:=a5
  unfold jM at a5
  refine aK (aD (cT g4 o2) (aG (aO ?_)))
  rcases aH a5 with ⟨k6,a5⟩|⟨k6,a5⟩
  ·refine aM k6 rfl (aY (aA (aO (cI (aK (aN g4 ?_))))))
   obtain ⟨d7,o3,a5⟩:=aC a5
   refine aD (cU bO rfl h9 o1 rfl g4 o3) ?_
   obtain ⟨a10,y0,y1⟩:=bX.el (sz:=1) rfl h9 o3
   cases y1
   refine aD (bG (t:=0) bY k5 y0 rfl rfl) (aF (v:=i64 b4) (aF (v:=i64 d7) (aG (aP (aN k4 (aL (v:=i64 b4) (aL (v:=i64 d7) (cJ (Kt:=K) (xs:=([d7]:List Int)) (cs:=[i64 d7]) (vs:=[(0,i64 d7)]) bO jU rfl rfl k5 rfl (by kernel_rfl) rfl rfl rfl ⟨rfl,trivial⟩ (fun d9 y2 (o4:aI G K (aR 2 K d9 1 ([d7]:List Int)::aR 40 K c b.length (bU b1 b3)::rows [2] b1 b3::box a2 27 a3::L) y2)=>?_)))))))))
   obtain ⟨a11,g5,a5⟩:=aC a5
   obtain ⟨⟨a12,a13⟩,o5⟩:=aGZ e8 g5
   have y3:=dZ o4 (i:=1) rfl (pA e8 g5 o5)
   refine aD (eM fD rfl y3 rfl rfl rfl g5) ?_
   obtain ⟨k7,k8,a5⟩:=aC a5
   refine WO_stD (i:=0) (tys:=[2]) (hd':=(d9,1)) (e':=([d7]:List Int)) (hds:=b1) Tryz.sizeOf40 o4 e8 rfl rfl rfl rfl rfl g5 o5 k8 rfl ?_
   intro y4 (y5:aI G K (aR 40 K c b.length (bU (List.set b1 b4.toNat (d9,1)) k7)::rows [2] (List.set b1 b4.toNat (d9,1)) k7::box a2 27 a3::L) y4)
   exact bM (bA (aA (aP (aD (cK g4 rfl) (aL (v:=i64 (wr (b4+1))) (aG ⟨(k7,wr (b4+1)),(zI a5).symm,(List.set b1 b4.toNat (d9,1)),n9,o0,(Eq.trans k4 (congrArg (fun n=>zS c n b.length) (oY k8))),o1,o2,rfl,(aEP (hd:=((d9,1):Dp.Hd (List Int))) e8 k8),y5⟩))))))
  ·refine aJ k6 rfl (cA (aV (aV ?_)))
   have y6:=x9 _ (zI a5).symm
   subst y6
   have J:(rC t p b3)=some R:=J
   exact bN (aA ⟨b3,b1,J,n9,o0,k4,e8,k5⟩)
theorem aIr {n:Int} {a:cD} {R:(List (List Int))} (hs:aI G K (L) w) (h3:bX K a1 c2 a.L) (h6:bX K a4 c5 a.E) (j:aFg n a=some R):
  Calls Tryz.prog 56 ([i64 n,Value.func (.func 57) #[zA (zCa a a1 c2 a4 c5)] #[]]:List Value).toArray w (gQ fun v w'=>∃ (a7:Option Addr) (a8:Nat) (Z:List (Dp.Hd (List Int))),v=zS a7 R.length a8∧List.length Z=List.length R∧aI G K (aR 40 K a7 a8 (bU Z R)::rows [2] Z R::L) w'):=by
 refine aS Tryz.func56 rfl (by kernel_rfl) (by show (2:Nat)≤28;decide) ?_
 unfold aFg at j
 refine aK (aF (v:=zS none 0 0) (aG (aK (aL (v:=i64 n) ?_))))
 obtain ⟨o,q8,j⟩:=aC j
 refine aQ (vs:=[i64 n]) Tryz.call87 rfl (aIp hs q8) ?_
 rintro _ b9 ⟨p,q,rfl,c0⟩
 have c1:aI G K (rows [2] ([(p,q)]:List (Dp.Hd (List Int))) [o]::L) b9:=aI.rowsOne c0
 refine cJ (Kt:=K) (xs:=bU ([(p,q)]:List (Dp.Hd (List Int))) ([o]:List (List Int))) (cs:=[zS p o.length q]) (vs:=[(0,zS p o.length q)]) fD qD rfl rfl c1 rfl (by kernel_rfl) rfl rfl rfl ⟨rfl,trivial⟩ ?_
 intro a0 c3 (c4:aI G K (aR 40 K a0 1 (bU ([(p,q)]:List (Dp.Hd (List Int))) ([o]:List (List Int)))::rows [2] ([(p,q)]:List (Dp.Hd (List Int))) ([o]:List (List Int))::L) c3)
 refine aF (v:=zS a0 ([o]:List (List Int)).length 1) (aG (cI ?_))
 obtain ⟨f6,c6,j⟩:=aC j
 refine cC c6 (fun (c:List (List Int)) f w=>∃ (k:Option Addr) (l:Nat) (d:List (Dp.Hd (List Int))),f 1=Value.func (.func 57) #[zA (zCa a a1 c2 a4 c5)] #[]∧f 5=zS k c.length l∧List.length d=List.length c∧aI G K (aR 40 K k l (bU d c)::rows [2] d c::L) w) ?_ ?_
 ·exact ⟨a0,1,([(p,q)]:List (Dp.Hd (List Int))),rfl,rfl,rfl,c4⟩
 ·rintro c c7 f f7 b c8 ⟨k,l,d,b0,z,m,a2⟩
  replace b:wS a c=some c7:=b
  unfold wS at b
  refine cI (aK (aN z (aN z (aD (bT (len:=c.length) fD rfl) (aD (nI rfl rfl) ?_)))))
  obtain ⟨r,u,b⟩:=aC b
  obtain ⟨⟨x,y⟩,J⟩:=aGZ m u
  have c9:=dZ a2 (i:=0) rfl (pA m u J)
  refine aD (eM fD rfl c9 rfl rfl rfl u) (aD (lB (t:=0) sD a2 (i:=0) rfl (pA m u J) rfl rfl rfl) (aF (v:=zS x r.length y) (aG (aK (aN b0 (aL (v:=zS x r.length y) ?_))))))
  obtain ⟨f8,b1,f9,d0,d1,d2⟩:=aI.lendD' (i:=0) a2 m rfl rfl
  obtain ⟨h,d3,b⟩:=aC b
  refine WO_callvB (bs:=[zA (zCa a a1 c2 a4 c5)]) (vs:=[zS x r.length y]) (caps:=[]) (us:=[zA (zCa a a1 c2 a4 c5),zS x r.length y]) rfl Tryz.call57 rfl rfl (aFk d1 (h3.mono b1) (h6.mono b1) (rd_row (d0 _ _ _ J (ix_at u))) d3) ?_
  rintro _ g0 ⟨e,g,rfl,d4⟩
  have d5:=d2 _ _ d4
  refine aF (v:=zS e h.length g) (aG (aO (aK (aL (v:=zS x r.length y) (aL (v:=zS e h.length g) ?_)))))
  obtain ⟨g1,d6,g2,d7,d8,d9⟩:=aI.lendD' (i:=0) d5 m rfl rfl
  obtain ⟨g3,e0,e1,e2,e3⟩:=aI.lendS (i:=0) d8 d6 rfl
  obtain ⟨g4,e4,b⟩:=aC b
  refine aQ (vs:=[zS x r.length y,zS e h.length g]) Tryz.call88 rfl (nE e2 ((rd_row (d7 _ _ _ J (ix_at u))).mono e0) e1 e4) ?_
  rintro _ b2 ⟨rfl,e5⟩
  have e6:=e3 _ _ e5
  have b3:=d9 _ _ e6
  refine aG ?_
  rcases aH b with ⟨a3,b⟩|⟨a3,b⟩
  ·refine aM a3 rfl (aK (aN z (aF (v:=zS k c.length l) (aG (bK (aX (bS (aX ?_))))))))
   have e7:=c8 _ (zI b).symm
   subst e7
   have j:(some c)=some R:=j
   obtain rfl:=zI j
   exact bS (bE Tryz.results56 rfl ⟨k,l,d,rfl,m,(aI.arr 3 [0,1] b3 rfl)⟩)
  ·refine aJ a3 rfl (aY (aA (aP (aN z (aL (v:=zS e h.length g) ?_)))))
   have e9:aI G K (aR 2 K e g h::aR 40 K k l (bU d c)::rows [2] d c::L) b2:=(aI.arr 3 [2,0,1] b3 rfl)
   have f0:aI G K (rows [2] ([(e,g)]:List (Dp.Hd (List Int))) [h]::aR 40 K k l (bU d c)::rows [2] d c::L) b2:=aI.rowsOne e9
   refine cJ (Kt:=K) (xs:=bU ([(e,g)]:List (Dp.Hd (List Int))) ([h]:List (List Int))) (cs:=[zS e h.length g]) (vs:=[(0,zS e h.length g)]) fD qD rfl rfl f0 rfl (by kernel_rfl) rfl rfl rfl ⟨rfl,trivial⟩ ?_
   intro f1 f2 (f3:aI G K (aR 40 K f1 1 (bU ([(e,g)]:List (Dp.Hd (List Int))) ([h]:List (List Int)))::rows [2] ([(e,g)]:List (Dp.Hd (List Int))) ([h]:List (List Int))::aR 40 K k l (bU d c)::rows [2] d c::L) f2)
   obtain ⟨V,b4,b⟩:=aC b
   refine WO_appD (i:=0) (tys:=[2]) (hds:=d) (hds2:=([(e,g)]:List (Dp.Hd (List Int)))) fD Tryz.underlying33 qD rfl rfl f3 m rfl rfl rfl b4 rfl rfl rfl rfl ?_
   intro a5 a6 f4 (f5:aI G K (aR 40 K a5 a6 (bU (d++([(e,g)]:List (Dp.Hd (List Int)))) V)::rows [2] (d++([(e,g)]:List (Dp.Hd (List Int)))) V::L) f4)
   exact aF (v:=zS a5 V.length a6) (bM (bA (aA ⟨V,(zI b).symm,a5,a6,(d++([(e,g)]:List (Dp.Hd (List Int)))),b0,rfl,(aJt m rfl b4),f5⟩)))
theorem aFl {t:cD} {R:(List Int)} (m:aI G K (L) w) (n:bX K a1 c2 t.L) (o:bX K a4 c5 t.E) (a:uC t=some R):
  Calls Tryz.prog 26 ([zA (zCa t a1 c2 a4 c5)]:List Value).toArray w (gQ fun v w'=>∃ (b:Hp) (h:Option Addr) (j:Nat),v=zS h R.length j∧Hp.le K b∧bX b h j R∧aI G b (L) w'):=by
 let c:=(zC t a1 c2 a4 c5)
 refine aS Tryz.func26 rfl (by kernel_rfl) (by show (1:Nat)≤9;decide) ?_
 unfold uC at a
 refine aK (eA (v:=zA (zCa t a1 c2 a4 c5)) (vs:=c) m rfl rfl (fun p w8 d=>(aF (v:=zS none 0 0) (aG (aK (aD (bL (t':=0) dP rfl rfl) (aD (dG bY d (i:=0) rfl rfl rfl) (aD (cS (us:=c) dB d (i:=0) rfl rfl rfl rfl) (aD (aKx (bs:=[zA (zCa t a1 c2 a4 c5)]) (vs:=[]) rfl rfl) ?_)))))))))
 obtain ⟨q,r,a⟩:=aC a
 refine aQ (vs:=[i64 t.N,Value.func (.func 57) #[zA (zCa t a1 c2 a4 c5)] #[]]) Tryz.call56 rfl (aIr d n o r) ?_
 rintro _ u ⟨x,y,a8,rfl,z,J⟩
 obtain ⟨e,V,Z,_,g,_⟩:=aI.lendD' (i:=0) J z rfl rfl
 replace g:aI G e (box p 27 c::L) u:=g
 obtain ⟨a0,a2,a⟩:=aC a
 refine aQ (vs:=[zS x q.length y]) Tryz.call55 rfl (aDk (Kf:=e) g (zR _) Z a2) ?_
 rintro _ a9 ⟨k,l,rfl,a3,a5⟩
 refine aF (v:=zS k a0.length l) (aG ?_)
 obtain rfl:=zI a
 exact bK (bE Tryz.results26 rfl ⟨e,k,l,rfl,V,a3,(aI.arr 1 [] a5 rfl)⟩)
theorem aKJ {a b:cD} {R:(List Int)} (hs:aI G K (L) w) (h3:bX K a1 c2 a.L) (h6:bX K a4 c5 a.E) (h9:bX K a7 c8 b.L) (a6:bX K a10 c11 b.E) (d:aJD a b=some R):
  Calls Tryz.prog 54 ([zA (zCa a a1 c2 a4 c5),zA (zCa b a7 c8 a10 c11),Value.func (.func 26) #[] #[]]:List Value).toArray w (gQ fun v w'=>∃ (h:Hp) (o:Option Addr) (p:Nat),v=zS o R.length p∧Hp.le K h∧bX h o p R∧aI G h (L) w'):=by
 let e:=(zC b a7 c8 a10 c11)
 let g:=(zC a a1 c2 a4 c5)
 refine aS Tryz.func54 rfl (by kernel_rfl) (by show (3:Nat)≤12;decide) ?_
 unfold aJD at d
 refine aK (eA (v:=zA (zCa a a1 c2 a4 c5)) (vs:=g) hs rfl rfl (fun q c3 a8=>(eA (v:=zA (zCa b a7 c8 a10 c11)) (vs:=e) a8 rfl rfl (fun r c4 j=>(aF (v:=zS none 0 0) (aG (aK (aL (v:=Value.func (.func 26) #[] #[]) (aD (cS (us:=g) dB j (i:=1) rfl rfl rfl rfl) (aD (cS (us:=e) dB j (i:=0) rfl rfl rfl rfl) ?_))))))))))
 obtain ⟨c,a9,d⟩:=aC d
 refine aQ (vs:=[zA (zCa a a1 c2 a4 c5),zA (zCa b a7 c8 a10 c11)]) Tryz.call86 rfl (aJG j h3 h6 h9 a6 a9) ?_
 rintro _ u ⟨x,y,k,l,rfl,b0⟩
 obtain ⟨b1,z,b2,m⟩:=aI.giveS (i:=0) b0 (zR _) rfl
 replace m:aI G b1 (aR 51 K k l c.E::box r 27 e::box q 27 g::L) u:=m
 obtain ⟨b3,J,b4,n⟩:=aI.giveS (i:=0) m z rfl
 replace n:aI G b3 (box r 27 e::box q 27 g::L) u:=n
 obtain ⟨b5,b6,d⟩:=aC d
 refine mS (vs:=[zA (zCa c x y k l)]) (caps:=[]) (us:=[zA (zCa c x y k l)]) rfl Tryz.call26 rfl rfl (aFl (t:=⟨c.N,c.I,c.L,c.E⟩) n (b2.mono J) b4 b6) ?_
 rintro _ c6 ⟨b7,V,Z,rfl,b8,b9,c0⟩
 refine aF (v:=zS V b5.length Z) (aG ?_)
 obtain rfl:=zI d
 exact bK (bE Tryz.results54 rfl ⟨b7,V,Z,rfl,(zL (zL z J) b8),b9,(aI.arr 2 [] c0 rfl)⟩)
theorem aGx {a b:cD} {R:(Bool × Int)} (hs:aI G K (L) w) (V:G.lo=0) (o:bX K a1 c2 a.L) (p:bX K a4 c5 a.E) (q:bX K a7 c8 b.L) (r:bX K a10 c11 b.E) (c:aCv a b=some R):
  Calls Tryz.prog 25 ([zA (zCa a a1 c2 a4 c5),zA (zCa b a7 c8 a10 c11),Value.func (.func 26) #[] #[]]:List Value).toArray w (gQ fun v w'=>v=Value.tuple #[zB R.1,i64 R.2]∧aI G K (L) w'):=by
 let l:=(zC a a1 c2 a4 c5)
 let m:=(zC b a7 c8 a10 c11)
 refine aS Tryz.func25 rfl (by kernel_rfl) (by show (3:Nat)≤23;decide) ?_
 unfold aCv at c
 refine aK (eA (v:=zA (zCa a a1 c2 a4 c5)) (vs:=l) hs rfl rfl (fun u d5 b6=>(eA (v:=zA (zCa b a7 c8 a10 c11)) (vs:=m) b6 rfl rfl (fun Z d6 a0=>(aF (v:=zB false) (aF (v:=i64 0) (aG (aO (aO (dO (fun f w=>∃ (x:Bool),vB a b x=some R∧f 2=Value.func (.func 26) #[] #[]∧f 3=zP (some ⟨u,0,none⟩)∧f 4=zP (some ⟨Z,0,none⟩)∧f 15=zB x∧aI G K (box Z 27 m::box u 27 l::L) w) ?_ ?_))))))))))
 ·rintro f a2 ⟨x,c,b7,a3,a5,a6,a8⟩
  unfold vB at c
  refine aA ?_
  rcases aH c with ⟨y,c⟩|⟨y,c⟩
  ·refine aM y a6 (aK (aF (v:=zB false) (aF (v:=i64 1) (aG ?_))))
   obtain rfl:=zI c
   exact bK (aX (sA Tryz.results25 rfl rfl ⟨rfl,(aI.arr 2 [] a8 rfl)⟩))
  ·refine aJ y a6 (aY (aA (aO ?_)))
   obtain ⟨b9,e,a9,z,_⟩:=aI.lendB (i:=0) a8 rfl
   replace z:aI G b9 (box u 27 l::L) a2:=z
   obtain ⟨b0,d,b1,n,_⟩:=aI.lendB (i:=0) z rfl
   replace n:aI G b0 (L) a2:=n
   refine dQ (C:=fun w'=>∃ L',aI G b0 L' w') [(0,0),(1,0),(2,0),(3,0),(4,0),(5,1),(6,1),(7,0),(8,0)] bP (by kernel_rfl) (fun _ hg=>⟨_,aI.mono n hg⟩) (fun d7 c0=>?_)
   have h:=aI.mono n c0
   refine bJ rfl (fun _ ⟨_,h⟩=>iD (t:=0) (vs:=l) dB h b1 (aGj a3) rfl rfl) (bJ rfl (fun _ ⟨_,h⟩=>iD (t:=0) (vs:=m) dB h (a9.mono d) (aGj a5) rfl rfl) (bJ rfl (fun _ ⟨_,h⟩=>iD (t:=0) (vs:=l) dB h b1 (aGj a3) rfl rfl) (bJ rfl (fun _ ⟨_,h⟩=>iD (t:=0) (vs:=m) dB h (a9.mono d) (aGj a5) rfl rfl) (bJ rfl (fun _ _=>aW b7) (gZ rfl ?_)))))
   obtain ⟨c1,c3,c⟩:=aC c
   refine aQ (vs:=[zA (zCa a a1 c2 a4 c5),zA (zCa b a7 c8 a10 c11),Value.func (.func 26) #[] #[]]) Tryz.call54 rfl (aKJ h (o.mono (zL e d)) (p.mono (zL e d)) (q.mono (zL e d)) (r.mono (zL e d)) c3) ?_
   rintro _ d8 ⟨d9,c4,c45,rfl,k,c6,b2⟩
   refine bM (aA ⟨⟨_,(aI.weakK b2 k)⟩,?_⟩)
   refine gZ rfl ?_
   obtain ⟨c7,c9,c⟩:=aC c
   refine aQ (vs:=[zA (zCa a a1 c2 a4 c5),zA (zCa b a7 c8 a10 c11),zS c4 c1.length c45]) Tryz.call53 rfl (aCy b2 (o.mono (zL (zL e d) k)) (p.mono (zL (zL e d) k)) (q.mono (zL (zL e d) k)) (r.mono (zL (zL e d) k)) c6 c9) ?_
   rintro _ e0 ⟨rfl,b3⟩
   refine bM (aA ⟨⟨_,(aI.weakK b3 k)⟩,?_⟩)
   refine bJ rfl (fun _ _=>gB (v:=zB c7) rfl) (bJ rfl (fun _ _=>gB (v:=i64 0) rfl) (gR (aA ?_)))
   obtain rfl:=zI c
   exact bK (sA Tryz.results25 rfl rfl ⟨rfl,(aI.weakK b3 (zL (zL e d) k))⟩)
 refine aP (aD (cS (us:=l) dB a0 (i:=1) rfl rfl rfl rfl) ?_)
 obtain ⟨d1,d2,c⟩:=aC c
 refine aQ (vs:=[zA (zCa a a1 c2 a4 c5)]) Tryz.call27 rfl (oA a0 V o p d2) ?_
 rintro _ e1 ⟨rfl,J⟩
 refine aD (eR rfl) (aL (v:=zB (!d1)) ?_)
 rcases aH c with ⟨j,c⟩|⟨j,c⟩
 ·exact aT j rfl rfl (aT j rfl rfl (aT j rfl rfl (aD (bF (v:=zB true) j rfl rfl) (aG ⟨true,c,rfl,rfl,rfl,rfl,J⟩))))
 ·refine bD j rfl rfl (aD (cS (us:=m) dB J (i:=0) rfl rfl rfl rfl) (bD j rfl rfl ?_))
  obtain ⟨b4,d3,c⟩:=aC c
  refine aQ (vs:=[zA (zCa b a7 c8 a10 c11)]) Tryz.call27 rfl (oA J V q r d3) ?_
  rintro _ e2 ⟨rfl,d4⟩
  exact bD j rfl rfl (aD (eR rfl) (aD (bH (v:=zB (!b4)) j rfl rfl) (aG ⟨!b4,c,rfl,rfl,rfl,rfl,d4⟩)))
theorem aDV {a b:cD} {R:(Bool × Int)} (j:aI G K (L) w) (k:G.lo=0) (l:bX K a1 c2 a.L) (m:bX K a4 c5 a.E) (n:bX K a7 c8 b.L) (o:bX K a10 c11 b.E) (c:pT a b=some R):
  Calls Tryz.prog 9 ([zA (zCa a a1 c2 a4 c5),zA (zCa b a7 c8 a10 c11)]:List Value).toArray w (gQ fun v w'=>v=Value.tuple #[zB R.1,i64 R.2]∧aI G K (L) w'):=by
 let e:=(zC b a7 c8 a10 c11)
 let g:=(zC a a1 c2 a4 c5)
 refine aS Tryz.func9 rfl (by kernel_rfl) (by show (2:Nat)≤11;decide) ?_
 unfold pT at c
 refine aK (eA (v:=zA (zCa a a1 c2 a4 c5)) (vs:=g) j rfl rfl (fun u x p=>(eA (v:=zA (zCa b a7 c8 a10 c11)) (vs:=e) p rfl rfl (fun y z d=>(aF (v:=zB false) (aF (v:=i64 0) (aG (aK (aD (cS (us:=g) dB d (i:=1) rfl rfl rfl rfl) (aD (cS (us:=e) dB d (i:=0) rfl rfl rfl rfl) ?_))))))))))
 obtain ⟨h,q,c⟩:=aC c
 refine aQ (vs:=[zA (zCa a a1 c2 a4 c5),zA (zCa b a7 c8 a10 c11),Value.func (.func 26) #[] #[]]) Tryz.call25 rfl (aGx d k l m n o q) ?_
 rintro _ J ⟨rfl,r⟩
 refine aD (cH rfl rfl) (aD (cH rfl rfl) (aF (v:=zB h.1) (aF (v:=i64 h.2) (aG ?_))))
 obtain rfl:=zI c
 exact bK (sA Tryz.results9 rfl rfl ⟨rfl,(aI.arr 2 [] r rfl)⟩)
end Gv
