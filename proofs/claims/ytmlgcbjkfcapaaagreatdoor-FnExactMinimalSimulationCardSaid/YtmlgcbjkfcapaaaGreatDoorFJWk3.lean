/- Walks, printed by program. -/
import Derived.Test.YtmlgcbjkfcapaaaGreatDoorFJWk2
set_option linter.all false
namespace Gv
open Go.Value renaming slice→zS,bool→zB,pointer→zP
open Option.some renaming inj→zI
open Gv.Hp renaming le_trans→zL,le_refl→zR
open Go Go.Proofs
set_option maxRecDepth 20000
set_option maxHeartbeats 40000000
variable {G:Env} {K Kf:Hp} {L:List oT} {w:World} {a1 a4 a7 a10 a13 a16 a2 a5 a8 a11 a14 a17 a20:Option Addr} {c5 c8 c14 c17 c11 b1 c6 c9 c15 c18 c21:Nat}
theorem aBM {t:cH} {e:Nat} {k:Int} {R:(List bH)} (hs:aK G K (L) w) (g:fV K a1 e (zC t a4 c5 a7 c8)) (J:cL K a4 c5 t.L) (h9:cL K a7 c8 t.E) (b:aBy t k=some R):
  Calls Tryz.prog 214 ([bV a1 e,i64 k]:List Value).toArray w (gO fun v w'=>∃ (b1:Option Addr) (b2:Nat),v=zS b1 R.length b2∧aK G K (aV 9 K b1 b2 R::L) w'):=by
 refine aS Tryz.func214 rfl (by kernel_rfl) (by show (2:Nat)≤34;decide) ?_
 unfold aBy at b
 refine aI (aF (v:=zS none 0 0) (aG (aI (dJ (Kt:=K) (xs:=([]:List bH)) (cs:=[]) (vs:=[]) cO aAo rfl rfl hs rfl (by kernel_rfl) rfl rfl rfl trivial (fun V b9 (c0:aK G K (aV 9 K V 0 ([]:List bH)::L) b9)=>(aF (v:=zS V ([]:List bH).length 0) (aG (aN (aI (aF (v:=i64 0) (aG (bC (fun f w=>∃ (m:List bH) (n:Option Addr) (o:Nat),wK m=some R∧f 5=zS n m.length o∧aK G K (aV 9 K n o m::L) w) ?_ ?_))))))))))))
 ·rintro f e3 ⟨m,n,o,b,c1,c2⟩
  unfold wK at b
  refine aA (aI (aO c1 (aF (v:=zS n m.length o) (aG ?_))))
  obtain rfl:=zI b
  exact bF (bB Tryz.results214 rfl ⟨n,o,rfl,c2⟩)
 obtain ⟨e4,c4,b⟩:=aB b
 refine cA c4 (fun (s:(List bH × Int)) f w=>match s with|(c,d)=>∃ (j:Option Addr) (l:Nat),f 0=bV a1 e∧f 1=i64 k∧f 5=zS j c.length l∧f 6=i64 d∧aK G K (aV 9 K j l c::L) w) ?_ ?_
 ·exact ⟨V,0,rfl,rfl,rfl,rfl,c0⟩
 ·rintro ⟨c,d⟩ b3 f e5 a c6 ⟨j,l,p,Z,a0,q,a2⟩
  replace a:aAK t k c d=some b3:=a
  unfold aAK at a
  refine aN (aI (aO q (aO p (aC (cS rfl g) (aC (cC (k':=e+2) gI rfl g rfl) (aC (bJ (t:=2) mG a2 g rfl rfl) (aC (bT (len:=t.L.length) cO rfl) (aC (cJ rfl rfl) (aG ?_)))))))))
  rcases aH a with ⟨a3,a⟩|⟨a3,a⟩
  ·refine aL a3 rfl (aY (aA (aN (bC (fun f w=>∃ (r:List bH) (u:Option Addr) (x:Nat),wL d r=some b3∧f 0=bV a1 e∧f 1=i64 k∧f 5=zS u r.length x∧f 6=i64 d∧aK G K (aV 9 K u x r::L) w) ?_ ?_))))
   ·rintro f e6 ⟨r,u,x,a,c7,c9,d0,d1,d2⟩
    unfold wL at a
    exact aA (aP (aO d1 (aC (cM rfl rfl) (aF (v:=i64 (wr (d+1))) (aG ⟨(r,wr (d+1)),(zI a).symm,u,x,c7,c9,d0,rfl,d2⟩)))))
   refine aI (aO p (aO Z (aO q ?_)))
   obtain ⟨a5,d3,a⟩:=aB a
   refine aU (vs:=[bV a1 e,i64 k,i64 d]) Tryz.call196 rfl (aFU a2 g J h9 d3) ?_
   rintro _ e7 ⟨b4,b5,rfl,y⟩
   refine aC (bT (len:=a5.length) cG rfl) (aC (qC rfl rfl) (aG ?_))
   rcases aH a with ⟨a6,a⟩|⟨a6,a⟩
   ·refine aL a6 rfl (aP (aO a0 (aO p (aC (cS rfl g) (aC (cC (k':=e+2) gI rfl g rfl) (aC (bJ (t:=2) mG y g rfl rfl) (aO q ?_)))))))
    obtain ⟨z,b6,a⟩:=aB a
    refine aC (cT cO rfl J rfl rfl rfl b6) ?_
    obtain ⟨e8,d4,d5⟩:=cL.el (sz:=1) rfl J b6
    cases d5
    refine aC (bJ (t:=0) pU y d4 rfl rfl) (dJ (Kt:=K) (xs:=([z]:List bH)) (cs:=[str z]) (vs:=[(0,str z)]) cO aAo rfl rfl y rfl (by kernel_rfl) rfl rfl rfl ⟨rfl,trivial⟩ (fun d6 d7 (d8:aK G K (aV 9 K d6 1 ([z]:List bH)::aV 2 K b4 b5 a5::aV 9 K j l c::L) d7)=>?_))
    obtain ⟨a8,d9,a⟩:=aB a
    exact iA (i:=1) cO Tryz.underlying22 aAo rfl rfl d8 rfl (zR _) (zR _) d9 rfl rfl rfl rfl (fun _ h=>h) (fun a9 b0 e0 (e1:aK G K (aV 2 K b4 b5 a5::aV 9 K a9 b0 a8::L) e0)=>(aF (v:=zS a9 a8.length b0) (bK (bE (aA ⟨a8,a9,b0,a,p,Z,rfl,q,(aK.arr 1 [] e1 rfl)⟩)))))
   ·exact aJ a6 rfl (aY (bE (aA ⟨c,j,l,a,p,Z,a0,q,(aK.arr 1 [] y rfl)⟩)))
  ·refine aJ a3 rfl (bZ (aW (aW ?_)))
   have e2:=c6 _ (zI a).symm
   subst e2
   have b:(wK c)=some R:=b
   exact bO (aA ⟨c,j,l,b,a0,a2⟩)
theorem aFf {a:cH} {d:Nat} {b:cH} {e:Nat} {c:Int} {R:(List (List Bool))} (hs:aK G K (L) w) (h3:fV K a1 d (zC a a4 c5 a7 c8)) (h6:cL K a4 c5 a.L) (h9:cL K a7 c8 a.E) (b6:fV K a10 e (zC b a13 c14 a16 c17)) (g5:cL K a13 c14 b.L) (g6:cL K a16 c17 b.E) (y:aAf a b c=some R):
  Calls Tryz.prog 159 ([bV a1 d,bV a10 e,i64 c]:List Value).toArray w (gO fun v w'=>∃ (K':Hp) (f2:Option Addr) (f3:Nat) (f4:Nat),v=zP (some ⟨f4,0,none⟩)∧Hp.le K K'∧aK G K' (aV 87 K' f2 f3 R::box f4 107 [bV a1 d,bV a10 e,i64 c,zS f2 R.length f3]::L) w'):=by
 refine aS Tryz.func159 rfl (by kernel_rfl) (by show (3:Nat)≤58;decide) ?_
 unfold aAf at y
 refine aI (aF (v:=zP none) (aG (aI (aM (v:=bV a1 d) (aM (v:=bV a10 e) (aM (v:=i64 c) (aC (kA (vs:=[(0,bV a1 d),(1,bV a10 e),(2,i64 c)]) (cs:=[bV a1 d,bV a10 e,i64 c,zS none 0 0]) bs_107 rfl (by kernel_rfl)) (eE (v:=Value.agg #[bV a1 d,bV a10 e,i64 c,zS none 0 0]) (vs:=[bV a1 d,bV a10 e,i64 c,zS none 0 0]) hs rfl rfl (fun n o5 g7=>(aF (v:=zP (some ⟨n,0,none⟩)) (aG (aN (aI (aF (v:=i64 0) (aG (bC (fun f w=>∃ (a9:Hp) (b7:List (List Bool)) (b8:Option Addr) (b9:Nat),Hp.le K a9∧wM b7=some R∧f 7=zP (some ⟨n,0,none⟩)∧aK G a9 (aV 87 a9 b8 b9 b7::box n 107 [bV a1 d,bV a10 e,i64 c,zS b8 b7.length b9]::L) w) ?_ ?_))))))))))))))))
 ·rintro f o6 ⟨a9,b7,b8,b9,g8,y,g9,h0⟩
  unfold wM at y
  refine aA (aI (aO g9 (aF (v:=zP (some ⟨n,0,none⟩)) (aG ?_))))
  obtain rfl:=zI y
  exact bF (bB Tryz.results159 rfl ⟨a9,b8,b9,n,rfl,g8,h0⟩)
 have h2:=aK.nil (α:=(List Bool)) g7 87 K
 obtain ⟨o7,h4,y⟩:=aB y
 refine cA h4 (fun (s:(List (List Bool) × Int)) f w=>match s with|(j,u)=>∃ (o:Hp) (k:Option Addr) (l:Nat),Hp.le K o∧f 0=bV a1 d∧f 1=bV a10 e∧f 2=i64 c∧f 7=zP (some ⟨n,0,none⟩)∧f 8=i64 u∧aK G o (aV 87 o k l j::box n 107 [bV a1 d,bV a10 e,i64 c,zS k j.length l]::L) w) ?_ ?_
 ·exact ⟨K,none,0,(zR _),rfl,rfl,rfl,rfl,rfl,h2⟩
 ·rintro ⟨j,u⟩ c0 f o8 q h5 ⟨o,k,l,p,f5,h7,h8,f6,f7,d3⟩
  replace q:mU a b c j u=some c0:=q
  unfold mU at q
  refine aN (aI (aO f7 (aO f5 (aC (cS rfl (h3.mono p)) (aC (cC (k':=d+0) iM rfl (h3.mono p) rfl) (aC (bJ (t:=0) cE d3 (h3.mono p) rfl rfl) (aC (cJ rfl rfl) (aG ?_))))))))
  rcases aH q with ⟨d4,q⟩|⟨d4,q⟩
  ·refine aL d4 rfl (aY (aA (aN (bC (fun f w=>∃ (b0:Hp) (b1:List (List Bool)) (c1:Option Addr) (c2:Nat),Hp.le o b0∧wN u b1=some c0∧f 0=bV a1 d∧f 1=bV a10 e∧f 2=i64 c∧f 7=zP (some ⟨n,0,none⟩)∧f 8=i64 u∧aK G b0 (aV 87 b0 c1 c2 b1::box n 107 [bV a1 d,bV a10 e,i64 c,zS c1 b1.length c2]::L) w) ?_ ?_))))
   ·rintro f o9 ⟨b0,b1,c1,c2,i0,q,i1,i2,i3,i4,i5,i6⟩
    unfold wN at q
    exact aA (aP (aO i5 (aC (cM rfl rfl) (aF (v:=i64 (wr (u+1))) (aG ⟨(b1,wr (u+1)),(zI q).symm,b0,c1,c2,(zL p i0),i1,i2,i3,i4,rfl,i6⟩)))))
   refine aI (dJ (Kt:=K) (xs:=([]:List Bool)) (cs:=[]) (vs:=[]) jN ez_4 rfl rfl d3 rfl (by kernel_rfl) rfl rfl rfl trivial (fun d5 i7 (i8:aK G o (aV 4 K d5 0 ([]:List Bool)::aV 87 o k l j::box n 107 [bV a1 d,bV a10 e,i64 c,zS k j.length l]::L) i7)=>(aF (v:=zS d5 ([]:List Bool).length 0) (aG (aN (aI (aF (v:=i64 0) (aG (bC (fun f w=>∃ (z:List Bool) (Z:Option Addr) (a0:Nat),sG j u z=some c0∧f 0=bV a1 d∧f 1=bV a10 e∧f 2=i64 c∧f 7=zP (some ⟨n,0,none⟩)∧f 8=i64 u∧f 9=zS Z z.length a0∧aK G o (aV 4 K Z a0 z::aV 87 o k l j::box n 107 [bV a1 d,bV a10 e,i64 c,zS k j.length l]::L) w) ?_ ?_)))))))))
   ·rintro f i9 ⟨z,Z,a0,q,j0,j1,j2,d6,j3,j4,f8⟩
    unfold sG at q
    refine aA (aP (aO d6 (aO d6 (aC (mO rfl) (aC (bG (t':=3) qF rfl rfl) (aC (cF aBt f8 (i:=2) rfl rfl rfl) (aO j4 ?_)))))))
    obtain ⟨x,f9,j5,d7⟩:=aK.giveS (i:=0) f8 p rfl
    replace d7:aK G x (aV 87 o k l j::box n 107 [bV a1 d,bV a10 e,i64 c,zS k j.length l]::L) i9:=d7
    refine dJ (Kt:=x) (xs:=([z]:List (List Bool))) (cs:=[zS Z z.length a0]) (vs:=[(0,zS Z z.length a0)]) uK ez_87 rfl rfl d7 rfl (by kernel_rfl) rfl rfl rfl ⟨⟨Z,a0,rfl,j5⟩,trivial⟩ (fun j6 j7 (j8:aK G x (aV 87 x j6 1 ([z]:List (List Bool))::aV 87 o k l j::box n 107 [bV a1 d,bV a10 e,i64 c,zS k j.length l]::L) j7)=>?_)
    obtain ⟨a2,j9,q⟩:=aB q
    exact WO_appO (i:=0) x uK Tryz.underlying105 ez_87 rfl rfl j8 rfl f9 (zR _) j9 rfl rfl rfl rfl (fun _ _ _ h=>El.one h) (fun a3 a5 k0 (k1:aK G x (aV 87 x a3 a5 a2::box n 107 [bV a1 d,bV a10 e,i64 c,zS k j.length l]::L) k0)=>(aC (mO rfl) (aC (bG (t':=3) qF rfl rfl) (cD (i:=1) (ns:=[zS a3 a2.length a5]) (us:=[bV a1 d,bV a10 e,i64 c,zS a3 a2.length a5]) Tryz.sizeOf105 k1 rfl rfl rfl rfl rfl (dK rfl) rfl rfl (fun k3 (k4:aK G x (aV 87 x a3 a5 a2::box n 107 [bV a1 d,bV a10 e,i64 c,zS a3 a2.length a5]::L) k3)=>(bK (bE (aA ⟨x,a2,a3,a5,f9,q,j0,j1,j2,d6,j3,k4⟩))))))))
   obtain ⟨p0,k5,q⟩:=aB q
   refine cA k5 (fun (s:(List Bool × Int)) f w=>match s with|(J,V)=>∃ (a6:Option Addr) (a8:Nat),f 0=bV a1 d∧f 1=bV a10 e∧f 2=i64 c∧f 7=zP (some ⟨n,0,none⟩)∧f 8=i64 u∧f 9=zS a6 J.length a8∧f 10=i64 V∧aK G o (aV 4 K a6 a8 J::aV 87 o k l j::box n 107 [bV a1 d,bV a10 e,i64 c,zS k j.length l]::L) w) ?_ ?_
   ·exact ⟨d5,0,f5,h7,h8,f6,f7,rfl,rfl,i8⟩
   ·rintro ⟨J,V⟩ g0 f p1 m k6 ⟨a6,a8,c3,b2,c4,d8,c6,g1,c7,c9⟩
    replace m:lE a b c u J V=some g0:=m
    unfold lE at m
    refine aN (aI (aO c7 (aO b2 (aC (cS rfl (b6.mono p)) (aC (cC (k':=e+0) iM rfl (b6.mono p) rfl) (aC (bJ (t:=0) cE c9 (b6.mono p) rfl rfl) (aC (cJ rfl rfl) (aG ?_))))))))
    rcases aH m with ⟨d9,m⟩|⟨d9,m⟩
    ·refine aL d9 rfl (aY (aA (aN (cP (cN (fun f w=>∃ (b3:List Bool) (d0:Option Addr) (d1:Nat),sH V b3=some g0∧f 0=bV a1 d∧f 1=bV a10 e∧f 2=i64 c∧f 7=zP (some ⟨n,0,none⟩)∧f 8=i64 u∧f 9=zS d0 b3.length d1∧f 10=i64 V∧aK G o (aV 4 K d0 d1 b3::aV 87 o k l j::box n 107 [bV a1 d,bV a10 e,i64 c,zS k j.length l]::L) w) ?_ ?_)))))
     ·rintro f p2 ⟨b3,d0,d1,m,k7,k8,k9,l0,l1,l2,l3,l4⟩
      unfold sH at m
      exact bE (aA (aP (aO l3 (aC (cM rfl rfl) (aF (v:=i64 (wr (V+1))) (aG ⟨(b3,wr (V+1)),(zI m).symm,d0,d1,k7,k8,k9,l0,l1,l2,rfl,l4⟩))))))
     refine aP (aO g1 (aO c4 (aC (oC rfl rfl) (aM (v:=zB (c != 1)) ?_))))
     rcases aH m with ⟨r,m⟩|⟨r,m⟩
     ·refine aZ r rfl rfl (aZ r rfl rfl (aZ r rfl rfl (aZ r rfl rfl (aZ r rfl rfl (aZ r rfl rfl (aZ r rfl rfl (aC (bI (v:=zB true) r rfl rfl) (dJ (Kt:=K) (xs:=([true]:List Bool)) (cs:=[zB true]) (vs:=[(0,zB true)]) jN ez_4 rfl rfl c9 rfl (by kernel_rfl) rfl rfl rfl ⟨rfl,trivial⟩ (fun l5 l6 (l7:aK G o (aV 4 K l5 1 ([true]:List Bool)::aV 4 K a6 a8 J::aV 87 o k l j::box n 107 [bV a1 d,bV a10 e,i64 c,zS k j.length l]::L) l6)=>?_)))))))))
      obtain ⟨e0,l8,m⟩:=aB m
      exact iA (i:=0) jN Tryz.underlying87 ez_4 rfl rfl l7 rfl p p l8 rfl rfl rfl rfl (fun _ h=>h) (fun e1 e2 l9 (m0:aK G o (aV 4 K e1 e2 e0::aV 87 o k l j::box n 107 [bV a1 d,bV a10 e,i64 c,zS k j.length l]::L) l9)=>(aF (v:=zS e1 e0.length e2) (aG ⟨e0,e1,e2,m,c3,b2,c4,d8,c6,rfl,c7,m0⟩)))
     ·refine bN r rfl rfl (aO c3 (bN r rfl rfl (aO c6 (bN r rfl rfl ?_))))
      obtain ⟨e3,m1,m⟩:=aB m
      refine aU (vs:=[bV a1 d,i64 u]) Tryz.call214 rfl (aBM c9 (h3.mono p) (h6.mono p) (h9.mono p) m1) ?_
      rintro _ p3 ⟨e4,e5,rfl,m2⟩
      refine bN r rfl rfl (aO b2 (bN r rfl rfl (aO c7 (bN r rfl rfl ?_))))
      obtain ⟨e6,m3,m⟩:=aB m
      refine aU (vs:=[bV a10 e,i64 V]) Tryz.call214 rfl (aBM m2 (b6.mono p) (g5.mono p) (g6.mono p) m3) ?_
      rintro _ p4 ⟨e7,e8,rfl,m4⟩
      refine bN r rfl rfl ?_
      obtain ⟨p5,m5,m6,m7,m8⟩:=aK.lendS (i:=1) m4 p rfl
      obtain ⟨p6,m9,n0,n1,n2⟩:=aK.lendS (i:=0) m7 (zL p m5) rfl
      obtain ⟨b4,n3,m⟩:=aB m
      refine aU (vs:=[zS e4 e3.length e5,zS e7 e6.length e8]) Tryz.call213 rfl (aFe n1 (m6.mono m9) n0 n3) ?_
      rintro _ p7 ⟨rfl,n4⟩
      have n5:=n2 _ _ n4
      have n6:=m8 _ _ n5
      refine aC (bL (v:=zB b4) r rfl rfl) (dJ (Kt:=K) (xs:=([b4]:List Bool)) (cs:=[zB b4]) (vs:=[(0,zB b4)]) jN ez_4 rfl rfl n6 rfl (by kernel_rfl) rfl rfl rfl ⟨rfl,trivial⟩ (fun n7 n8 (n9:aK G o (aV 4 K n7 1 ([b4]:List Bool)::aV 9 K e4 e5 e3::aV 9 K e7 e8 e6::aV 4 K a6 a8 J::aV 87 o k l j::box n 107 [bV a1 d,bV a10 e,i64 c,zS k j.length l]::L) n8)=>?_))
      obtain ⟨e9,o0,m⟩:=aB m
      exact iA (i:=2) jN Tryz.underlying87 ez_4 rfl rfl n9 rfl p p o0 rfl rfl rfl rfl (fun _ h=>h) (fun f0 f1 o1 (o2:aK G o (aV 9 K e4 e5 e3::aV 9 K e7 e8 e6::aV 4 K f0 f1 e9::aV 87 o k l j::box n 107 [bV a1 d,bV a10 e,i64 c,zS k j.length l]::L) o1)=>(aF (v:=zS f0 e9.length f1) (aG ⟨e9,f0,f1,m,c3,b2,c4,d8,c6,rfl,c7,(aK.arr 2 [] o2 rfl)⟩)))
    ·refine aJ d9 rfl (bZ (aW (aW ?_)))
     have o3:=k6 _ (zI m).symm
     subst o3
     have q:(sG j u J)=some c0:=q
     exact bO (aA ⟨J,a6,a8,q,c3,b2,c4,d8,c6,g1,c9⟩)
  ·refine aJ d4 rfl (bZ (aW (aW ?_)))
   have o4:=h5 _ (zI q).symm
   subst o4
   have y:(wM j)=some R:=y
   exact bO (aA ⟨o,j,k,l,p,y,f6,d3⟩)
theorem aGM {t:cH} {l:Nat} {k:Int} {R:(List Edge)} (hs:aK G K (L) w) (c:fV K a1 l (zC t a4 c5 a7 c8)) (h6:cL K a4 c5 t.L) (J:cL K a7 c8 t.E) (d:aCf t k=some R):
  Calls Tryz.prog 131 ([bV a1 l,i64 k]:List Value).toArray w (gO fun v w'=>∃ (b1:Option Addr) (b2:Nat),v=zS b1 R.length b2∧aK G K (aV 63 K b1 b2 R::L) w'):=by
 refine aS Tryz.func131 rfl (by kernel_rfl) (by show (2:Nat)≤38;decide) ?_
 unfold aCf at d
 refine aI (aF (v:=zS none 0 0) (aG (aI (dJ (Kt:=K) (xs:=([]:List Edge)) (cs:=[]) (vs:=[]) bY lD rfl rfl hs rfl (by kernel_rfl) rfl rfl rfl trivial (fun V b5 (b6:aK G K (aV 63 K V 0 ([]:List Edge)::L) b5)=>(aF (v:=zS V ([]:List Edge).length 0) (aG (aN (aI (aF (v:=i64 0) (aG (bC (fun f w=>∃ (o:List Edge) (p:Option Addr) (q:Nat),xH o=some R∧f 5=zS p o.length q∧aK G K (aV 63 K p q o::L) w) ?_ ?_))))))))))))
 ·rintro f d8 ⟨o,p,q,d,b7,b8⟩
  unfold xH at d
  refine aA (aI (aO b7 (aF (v:=zS p o.length q) (aG ?_))))
  obtain rfl:=zI d
  exact bF (bB Tryz.results131 rfl ⟨p,q,rfl,b8⟩)
 obtain ⟨d9,c0,d⟩:=aB d
 refine cA c0 (fun (s:(List Edge × Int)) f w=>match s with|(e,g)=>∃ (m:Option Addr) (n:Nat),f 0=bV a1 l∧f 1=i64 k∧f 5=zS m e.length n∧f 6=i64 g∧aK G K (aV 63 K m n e::L) w) ?_ ?_
 ·exact ⟨V,0,rfl,rfl,rfl,rfl,b6⟩
 ·rintro ⟨e,g⟩ b3 f e0 a c1 ⟨m,n,r,Z,a0,u,j⟩
  replace a:uB t k e g=some b3:=a
  unfold uB at a
  refine aN (aI (aO u (aO r (aC (cS rfl c) (aC (cC (k':=l+3) cK rfl c rfl) (aC (bJ (t:=3) fS j c rfl rfl) (aC (bT (len:=t.E.length) bY rfl) (aC (cJ rfl rfl) (aG ?_)))))))))
  rcases aH a with ⟨a2,a⟩|⟨a2,a⟩
  ·refine aL a2 rfl (aY (aA (aN (bC (fun f w=>∃ (x:List Edge) (y:Option Addr) (z:Nat),xI g x=some b3∧f 0=bV a1 l∧f 1=i64 k∧f 5=zS y x.length z∧f 6=i64 g∧aK G K (aV 63 K y z x::L) w) ?_ ?_))))
   ·rintro f e1 ⟨x,y,z,a,c2,c3,c4,c6,c7⟩
    unfold xI at a
    exact aA (aP (aO c6 (aC (cM rfl rfl) (aF (v:=i64 (wr (g+1))) (aG ⟨(x,wr (g+1)),(zI a).symm,y,z,c2,c3,c4,rfl,c7⟩)))))
   refine aI (aO r (aC (cS rfl c) (aC (cC (k':=l+3) cK rfl c rfl) (aC (bJ (t:=3) fS j c rfl rfl) (aO u ?_)))))
   obtain ⟨b,a3,a⟩:=aB a
   refine aC (cT bY rfl J rfl rfl rfl a3) ?_
   obtain ⟨e2,a5,c9⟩:=cL.el (sz:=3) rfl J a3
   cases c9
   refine aC (cC (k':=g.toNat * 3+0) fJ rfl a5 rfl) (aC (bJ (t:=0) cE j a5 rfl rfl) (aO Z (aC (lC rfl rfl) (aG ?_))))
   rcases aH a with ⟨a6,a⟩|⟨a6,a⟩
   ·refine aL a6 rfl (aP (aO a0 (aO r (aC (cS rfl c) (aC (cC (k':=l+3) cK rfl c rfl) (aC (bJ (t:=3) fS j c rfl rfl) (aO u (aC (cT bY rfl J rfl rfl rfl a3) (aC (gG (t:=0) (vs:=[i64 b.F,i64 b.B,i64 b.To]) iJ j a5 rfl rfl rfl) (dJ (Kt:=K) (xs:=([b]:List Edge)) (cs:=[i64 b.F,i64 b.B,i64 b.To]) (vs:=[(0,Value.agg #[i64 b.F,i64 b.B,i64 b.To])]) bY lD rfl rfl j rfl (by kernel_rfl) rfl rfl rfl ⟨rfl,trivial⟩ (fun d0 d1 (d2:aK G K (aV 63 K d0 1 ([b]:List Edge)::aV 63 K m n e::L) d1)=>?_)))))))))))
    obtain ⟨a8,d3,a⟩:=aB a
    exact iA (i:=0) bY Tryz.underlying27 lD rfl rfl d2 rfl (zR _) (zR _) d3 rfl rfl rfl rfl (fun _ h=>h) (fun a9 b0 d4 (d5:aK G K (aV 63 K a9 b0 a8::L) d4)=>(aF (v:=zS a9 a8.length b0) (bK (bE (aA ⟨a8,a9,b0,a,r,Z,rfl,u,d5⟩)))))
   ·exact aJ a6 rfl (aY (bE (aA ⟨e,m,n,a,r,Z,a0,u,j⟩)))
  ·refine aJ a2 rfl (bZ (aW (aW ?_)))
   have d6:=c1 _ (zI a).symm
   subst d6
   have d:(xH e)=some R:=d
   exact bO (aA ⟨e,m,n,d,a0,j⟩)
theorem aFg {e:Edge} {h:Nat} {p:(List Int)} {R:Bool} (b:aK G K (L) w) (d:fV K a1 h [i64 e.F,i64 e.B,i64 e.To]) (i:cL K a4 c5 p) (c:aDa e p=some R):
  Calls Tryz.prog 353 ([bV a1 h,zS a4 p.length c5]:List Value).toArray w (gO fun v w'=>v=zB R∧aK G K (L) w'):=by
 refine aS Tryz.func353 rfl (by kernel_rfl) (by show (2:Nat)≤27;decide) ?_
 unfold aDa at c
 refine aI (aF (v:=zB false) (aG (aN (cN (fun f w=>∃ (j:Bool),wO j=some R∧f 4=zB j∧aK G K (L) w) ?_ ?_))))
 ·rintro f Z ⟨j,c,o,q⟩
  unfold wO at c
  refine aA ?_
  obtain rfl:=zI c
  exact bF (bB Tryz.results353 rfl ⟨o,q⟩)
 refine eK (C:=fun w'=>aK G K (L) w') bU (by kernel_rfl) (aK.mono b (dQ.drew _)) (aX (fun _ b=>bD (v:=bV a1 h) rfl) (aX (fun _ b=>cS rfl d) (aX (fun _ b=>cC (k':=h+1) gB rfl d rfl) (aX (fun _ b=>bJ (t:=1) cE b d rfl rfl) (aX (fun _ b=>lC rfl rfl) (aX (fun _ b=>bD (v:=zB (e.B == 0)) rfl) ?_))))))
 rcases aH c with ⟨a,c⟩|⟨a,c⟩
 ·refine bM (g:=10) rfl rfl a (aX (fun _ b=>bD (v:=zS a4 p.length c5) rfl) (bM (g:=10) rfl rfl a (aX (fun _ b=>bD (v:=bV a1 h) rfl) (bM (g:=10) rfl rfl a (aX (fun _ b=>cS rfl d) (bM (g:=10) rfl rfl a (aX (fun _ b=>cC (k':=h+0) fJ rfl d rfl) (bM (g:=10) rfl rfl a (aX (fun _ b=>bJ (t:=0) cE b d rfl rfl) (bM (g:=10) rfl rfl a ?_))))))))))
  obtain ⟨k,m,c⟩:=aB c
  refine aX (fun _ b=>cT cG rfl i rfl rfl rfl m) ?_
  obtain ⟨a0,u,x⟩:=cL.el (sz:=1) rfl i m
  cases x
  refine bM (g:=10) rfl rfl a (aX (fun _ b=>bJ (t:=0) cE b u rfl rfl) (bM (g:=10) rfl rfl a (aX (fun _ b=>bD (v:=zS a4 p.length c5) rfl) (bM (g:=10) rfl rfl a (aX (fun _ b=>bD (v:=bV a1 h) rfl) (bM (g:=10) rfl rfl a (aX (fun _ b=>cS rfl d) (bM (g:=10) rfl rfl a (aX (fun _ b=>cC (k':=h+2) eM rfl d rfl) (bM (g:=10) rfl rfl a (aX (fun _ b=>bJ (t:=2) cE b d rfl rfl) (bM (g:=10) rfl rfl a ?_))))))))))))
  obtain ⟨l,n,c⟩:=aB c
  refine aX (fun _ b=>cT cG rfl i rfl rfl rfl n) ?_
  obtain ⟨a2,y,z⟩:=cL.el (sz:=1) rfl i n
  cases z
  exact bM (g:=10) rfl rfl a (aX (fun _ b=>bJ (t:=0) cE b y rfl rfl) (bM (g:=10) rfl rfl a (aX (fun _ b=>lC rfl rfl) (aX (fun _ b=>bI (v:=zB (k == l)) a rfl rfl) (aX (fun _ b=>gF (v:=zB (k == l)) rfl) (eG (fun a3 J=>(aA ⟨k == l,c,rfl,J⟩))))))))
 ·exact aT (g:=10) rfl rfl (cB a) (aT (g:=10) rfl rfl (cB a) (aT (g:=10) rfl rfl (cB a) (aT (g:=10) rfl rfl (cB a) (aT (g:=10) rfl rfl (cB a) (aT (g:=10) rfl rfl (cB a) (aT (g:=10) rfl rfl (cB a) (aT (g:=10) rfl rfl (cB a) (aT (g:=10) rfl rfl (cB a) (aT (g:=10) rfl rfl (cB a) (aT (g:=10) rfl rfl (cB a) (aT (g:=10) rfl rfl (cB a) (aT (g:=10) rfl rfl (cB a) (aT (g:=10) rfl rfl (cB a) (aT (g:=10) rfl rfl (cB a) (aX (fun _ b=>bL (v:=zB false) a rfl rfl) (aX (fun _ b=>gF (v:=zB false) rfl) (eG (fun a5 V=>(aA ⟨false,c,rfl,V⟩)))))))))))))))))))
theorem aBN {t:cH} {o:Nat} {p:(List Int)} {k:Int} {R:(List Bool)} (hs:aK G K (L) w) (r:fV K a1 o (zC t a4 c5 a7 c8)) (h6:cL K a4 c5 t.L) (h9:cL K a7 c8 t.E) (e8:cL K a10 c11 p) (l:aBz t p k=some R):
  Calls Tryz.prog 322 ([bV a1 o,zS a10 p.length c11,i64 k]:List Value).toArray w (gO fun v w'=>∃ (d0:Option Addr) (d1:Nat),v=zS d0 R.length d1∧aK G K (aV 4 K d0 d1 R::L) w'):=by
 refine aS Tryz.func322 rfl (by kernel_rfl) (by show (3:Nat)≤58;decide) ?_
 unfold aBz at l
 refine aI (aF (v:=zS none 0 0) (aG (aI (aM (v:=bV a1 o) (aC (cS rfl r) (aC (cC (k':=o+0) iM rfl r rfl) (aC (bJ (t:=0) cE hs r rfl rfl) ?_)))))))
 obtain ⟨b,e9,l⟩:=aB l
 refine aDv (e:=(false:Bool)) jN ez_4 rfl rfl hs rfl rfl rfl e9 rfl (fun c f0 (d2:aK G K (aV 4 K c b.length b::L) f0)=>(aF (v:=zS c b.length b.length) (aG (aI (aM (v:=zS c b.length b.length) (aM (v:=i64 k) ?_))))))
 obtain ⟨k3,b7,l⟩:=aB l
 have b1:=dM d2 (i:=0) rfl b7
 refine aC (eB jN rfl b1 rfl rfl rfl b7) ?_
 obtain ⟨f1,d3,l⟩:=aB l
 refine jW (i:=0) (t:=0) (ns:=[zB true]) (e':=(true:Bool)) Tryz.sizeOf4 d2 rfl (zR _) rfl rfl rfl b7 d3 rfl rfl (dK rfl) rfl (fun cs h=>by cases h;rfl) (fun f2 (f3:aK G K (aV 4 K c b.length f1::L) f2)=>(aG (aN (aI (aF (v:=zB true) (aG (bC (fun f w=>∃ (a0:List Bool),wP a0=some R∧f 7=zS c a0.length b.length∧aK G K (aV 4 K c b.length a0::L) w) ?_ ?_)))))))
 ·rintro f k4 ⟨a0,l,f4,f5⟩
  unfold wP at l
  refine aA (aI (aO f4 (aF (v:=zS c a0.length b.length) (aG ?_))))
  obtain rfl:=zI l
  exact bF (bB Tryz.results322 rfl ⟨c,b.length,rfl,f5⟩)
 obtain ⟨k5,f7,l⟩:=aB l
 refine cA f7 (fun (s:(List Bool × Bool)) f w=>match s with|(J,b8)=>f 0=bV a1 o∧f 1=zS a10 p.length c11∧f 7=zS c J.length b.length∧f 8=zB b8∧aK G K (aV 4 K c b.length J::L) w) ?_ ?_
 ·exact ⟨rfl,rfl,(Eq.trans rfl (congrArg (fun n=>zS c n b.length) (iE d3))),rfl,f3⟩
 ·rintro ⟨J,b8⟩ b2 f k6 j f8 ⟨f9,g0,d4,g1,d5⟩
  replace j:aAN t p J b8=some b2:=j
  unfold aAN at j
  refine aN (aI (aO g1 (aG ?_)))
  rcases aH j with ⟨b9,j⟩|⟨b9,j⟩
  ·refine aL b9 rfl (aY (aA (bC (fun f w=>∃ (a2:List Bool) (b3:Bool),aAL a2 b3=some b2∧f 0=bV a1 o∧f 1=zS a10 p.length c11∧f 7=zS c a2.length b.length∧f 8=zB b3∧aK G K (aV 4 K c b.length a2::L) w) ?_ ?_)))
   ·rintro f k7 ⟨a2,b3,j,g2,g3,g4,g5,g6⟩
    unfold aAL at j
    exact aA ⟨(a2,b3),(zI j).symm,g2,g3,g4,g5,g6⟩
   refine aI (aF (v:=zB false) (aG (aI (aF (v:=i64 0) (aG (bC (fun f w=>∃ (a3:List Bool) (b4:Bool),wQ a3 b4=some b2∧f 0=bV a1 o∧f 1=zS a10 p.length c11∧f 7=zS c a3.length b.length∧f 8=zB b4∧aK G K (aV 4 K c b.length a3::L) w) ?_ ?_))))))
   ·rintro f k8 ⟨a3,b4,j,g7,g8,g9,h0,h1⟩
    unfold wQ at j
    exact bE (aA ⟨a3,b4,j,g7,g8,g9,h0,h1⟩)
   obtain ⟨k9,h2,j⟩:=aB j
   refine cA h2 (fun (s:(List Bool × Bool × Int)) f w=>match s with|(q,x,u)=>f 0=bV a1 o∧f 1=zS a10 p.length c11∧f 7=zS c q.length b.length∧f 8=zB x∧f 9=i64 u∧aK G K (aV 4 K c b.length q::L) w) ?_ ?_
   ·exact ⟨f9,g0,d4,rfl,rfl,d5⟩
   ·rintro ⟨q,x,u⟩ c0 f l0 a h4 ⟨V,a5,Z,b5,a6,a8⟩
    replace a:aAM t p q x u=some c0:=a
    unfold aAM at a
    refine aN (aI (aO a6 (aO V (aC (cS rfl r) (aC (cC (k':=o+3) cK rfl r rfl) (aC (bJ (t:=3) fS a8 r rfl rfl) (aC (bT (len:=t.E.length) bY rfl) (aC (cJ rfl rfl) (aG ?_)))))))))
    rcases aH a with ⟨c1,a⟩|⟨c1,a⟩
    ·refine aL c1 rfl (aY (aA (aN (bC (fun f w=>∃ (a9:List Bool) (b6:Bool),wR u a9 b6=some c0∧f 0=bV a1 o∧f 1=zS a10 p.length c11∧f 7=zS c a9.length b.length∧f 8=zB b6∧f 9=i64 u∧aK G K (aV 4 K c b.length a9::L) w) ?_ ?_))))
     ·rintro f l1 ⟨a9,b6,a,h5,h7,h8,i0,i1,i2⟩
      unfold wR at a
      exact aA (aP (aO i1 (aC (cM rfl rfl) (aF (v:=i64 (wr (u+1))) (aG ⟨(a9,b6,wr (u+1)),(zI a).symm,h5,h7,h8,i0,rfl,i2⟩)))))
     refine aI (aO V (aC (cS rfl r) (aC (cC (k':=o+3) cK rfl r rfl) (aC (bJ (t:=3) fS a8 r rfl rfl) (aO a6 ?_)))))
     obtain ⟨d,d6,a⟩:=aB a
     refine aC (cT bY rfl h9 rfl rfl rfl d6) ?_
     obtain ⟨l2,i3,i4⟩:=cL.el (sz:=3) rfl h9 d6
     cases i4
     refine aC (gG (t:=0) (vs:=[i64 d.F,i64 d.B,i64 d.To]) iJ a8 i3 rfl rfl rfl) (bW (vs:=[i64 0,i64 0,i64 0]) Tryz.zeroValue63 a8 rfl (fun b0 l3 i5=>(cD (i:=0) (ns:=[i64 d.F,i64 d.B,i64 d.To]) (us:=[i64 d.F,i64 d.B,i64 d.To]) Tryz.sizeOf63 i5 rfl rfl rfl rfl rfl (dK rfl) rfl rfl (fun i6 (y:aK G K (box b0 63 [i64 d.F,i64 d.B,i64 d.To]::aV 4 K c b.length q::L) i6)=>(aG (aN (cN (fun f w=>∃ (c2:Bool),sI q x u d c2=some c0∧f 0=bV a1 o∧f 1=zS a10 p.length c11∧f 7=zS c q.length b.length∧f 8=zB x∧f 9=i64 u∧f 10=zP (some ⟨b0,0,none⟩)∧f 52=zB c2∧aK G K (box b0 63 [i64 d.F,i64 d.B,i64 d.To]::aV 4 K c b.length q::L) w) ?_ ?_)))))))
     ·rintro f l4 ⟨c2,a,d7,d8,c3,i7,d9,i8,e0,c4⟩
      unfold sI at a
      refine aA ?_
      rcases aH a with ⟨c6,a⟩|⟨c6,a⟩
      ·refine aL c6 e0 (aI (aO c3 (aC (bG (t':=2) eM i8 rfl) (aC (cF cE c4 (i:=0) rfl rfl rfl) ?_))))
       obtain ⟨l5,e1,a⟩:=aB a
       refine aC (eB jN rfl b1 rfl rfl rfl e1) ?_
       obtain ⟨e2,e3,a⟩:=aB a
       exact jW (i:=1) (t:=0) (ns:=[zB true]) (e':=(true:Bool)) Tryz.sizeOf4 c4 rfl (zR _) rfl rfl rfl e1 e3 rfl rfl (dK rfl) rfl (fun cs h=>by cases h;rfl) (fun i9 (j0:aK G K (box b0 63 [i64 d.F,i64 d.B,i64 d.To]::aV 4 K c b.length e2::L) i9)=>(aG (aP (aF (v:=zB true) (bK (bE (aA ⟨e2,true,a,d7,d8,(Eq.trans c3 (congrArg (fun n=>zS c n b.length) (iE e3))),rfl,d9,(aK.arr 1 [] j0 rfl)⟩)))))))
      ·exact aJ c6 e0 (aY (bE (aA ⟨q,x,a,d7,d8,c3,i7,d9,(aK.arr 1 [] c4 rfl)⟩)))
     refine aP (aO Z (aC (bG (t':=0) fJ rfl rfl) (aC (cF cE y (i:=0) rfl rfl rfl) ?_)))
     obtain ⟨j1,e4,a⟩:=aB a
     refine aC (eB jN rfl b1 rfl rfl rfl e4) (aC (lX (t:=0) aCD y (i:=1) rfl e4 rfl rfl rfl) (aM (v:=zB j1) ?_))
     rcases aH a with ⟨m,a⟩|⟨m,a⟩
     ·refine bA m rfl rfl (aO Z (bA m rfl rfl (aC (bG (t':=2) eM rfl rfl) (bA m rfl rfl (aC (cF cE y (i:=0) rfl rfl rfl) (bA m rfl rfl ?_))))))
      obtain ⟨e5,e6,a⟩:=aB a
      refine aC (eB jN rfl b1 rfl rfl rfl e6) (bA m rfl rfl (aC (lX (t:=0) aCD y (i:=1) rfl e6 rfl rfl rfl) (bA m rfl rfl (aC (fH rfl) (aC (bI (v:=zB (!e5)) m rfl rfl) (aM (v:=zB (!e5)) ?_))))))
      rcases aH a with ⟨z,a⟩|⟨z,a⟩
      ·refine bA z rfl rfl (aO a5 (bA z rfl rfl ?_))
       obtain ⟨l6,j2,j3,j4,j5⟩:=aK.lendB (i:=0) y rfl
       obtain ⟨e7,j6,a⟩:=aB a
       refine aU (vs:=[bV (some ⟨b0,0,none⟩) 0,zS a10 p.length c11]) Tryz.call353 rfl (aFg j4 j3 (e8.mono j2) j6) ?_
       rintro _ l7 ⟨rfl,j7⟩
       have j8:=j5 _ _ j7
       exact aC (bI (v:=zB e7) z rfl rfl) (aG ⟨e7,a,V,a5,Z,b5,a6,rfl,rfl,j8⟩)
      ·exact aQ z rfl rfl (aQ z rfl rfl (aC (bL (v:=zB false) z rfl rfl) (aG ⟨false,a,V,a5,Z,b5,a6,rfl,rfl,y⟩)))
     ·exact aQ m rfl rfl (aQ m rfl rfl (aQ m rfl rfl (aQ m rfl rfl (aQ m rfl rfl (aQ m rfl rfl (aC (bL (v:=zB false) m rfl rfl) (aM (v:=zB false) (aQ (by decide:¬ false=true) rfl rfl (aQ (by decide:¬ false=true) rfl rfl (aC (bL (v:=zB false) (by decide:¬ false=true) rfl rfl) (aG ⟨false,a,V,a5,Z,b5,a6,rfl,rfl,y⟩)))))))))))
    ·refine aJ c1 rfl (bZ (aW (aW ?_)))
     have j9:=h4 _ (zI a).symm
     subst j9
     have j:(wQ q x)=some b2:=j
     exact bO (aA ⟨q,x,j,V,a5,Z,b5,a8⟩)
  ·refine aJ b9 rfl (bZ (aW (aW ?_)))
   have k0:=f8 _ (zI j).symm
   subst k0
   have l:(wP J)=some R:=l
   exact bO (aA ⟨J,l,d4,d5⟩)
theorem aDH {t:cH} {m:Nat} {y:Int} {Z:bH} {e0:Int} {R:(List Bool)} (hs:aK G K (L) w) (j:fV K a1 m (zC t a4 c5 a7 c8)) (h6:cL K a4 c5 t.L) (h9:cL K a7 c8 t.E) (k:uX t y Z e0=some R):
  Calls Tryz.prog 274 ([bV a1 m,i64 y,str Z,i64 e0]:List Value).toArray w (gO fun v w'=>∃ (i1:Option Addr) (i2:Nat),v=zS i1 R.length i2∧aK G K (aV 4 K i1 i2 R::L) w'):=by
 refine aS Tryz.func274 rfl (by kernel_rfl) (by show (4:Nat)≤144;decide) ?_
 unfold uX at k
 refine aI (aF (v:=zS none 0 0) (aG (aI (aM (v:=bV a1 m) (aC (cS rfl j) (aC (cC (k':=m+0) iM rfl j rfl) (aC (bJ (t:=0) cE hs j rfl rfl) ?_)))))))
 obtain ⟨b,k6,k⟩:=aB k
 refine aDv (e:=(false:Bool)) jN ez_4 rfl rfl hs rfl rfl rfl k6 rfl (fun c k7 (d5:aK G K (aV 4 K c b.length b::L) k7)=>(aF (v:=zS c b.length b.length) (aG (aN (aI (aM (v:=i64 e0) (aC (oC rfl rfl) (aG ?_))))))))
 rcases aH k with ⟨e1,k⟩|⟨e1,k⟩
 ·refine aL e1 rfl (aI (aM (v:=bV a1 m) (aC (cS rfl j) (aC (cC (k':=m+2) gI rfl j rfl) (aC (bJ (t:=2) mG d5 j rfl rfl) (aM (v:=str Z) ?_))))))
  obtain ⟨b1,k8,k⟩:=aB k
  refine aU (vs:=[zS a4 t.L.length c5,str Z]) Tryz.call105 rfl (aAi d5 h6 k8) ?_
  rintro _ t1 ⟨rfl,k9⟩
  refine aF (v:=i64 b1) (aG (aN (aI (aF (v:=i64 0) (aG (bC (fun f w=>∃ (c0:List Bool),sY c0=some R∧f 9=zS c c0.length b.length∧aK G K (aV 4 K c b.length c0::L) w) ?_ ?_))))))
  ·rintro f t2 ⟨c0,k,l0,l1⟩
   unfold sY at k
   refine aA (aI (aO l0 (aF (v:=zS c c0.length b.length) (aG ?_))))
   obtain rfl:=zI k
   exact bF (aR (bB Tryz.results274 rfl ⟨c,b.length,rfl,l1⟩))
  obtain ⟨t3,l3,k⟩:=aB k
  refine cA l3 (fun (s:(List Bool × Int)) f w=>match s with|(a6,a2)=>f 0=bV a1 m∧f 1=i64 y∧f 9=zS c a6.length b.length∧f 10=i64 b1∧f 11=i64 a2∧aK G K (aV 4 K c b.length a6::L) w) ?_ ?_
  ·exact ⟨rfl,rfl,rfl,rfl,rfl,k9⟩
  ·rintro ⟨a6,a2⟩ e2 f t4 l l4 ⟨c1,e3,e4,e5,c2,b0⟩
   replace l:kH t y b1 a6 a2=some e2:=l
   unfold kH at l
   refine aN (aI (aO c2 (aO c1 (aC (cS rfl j) (aC (cC (k':=m+3) cK rfl j rfl) (aC (bJ (t:=3) fS b0 j rfl rfl) (aC (bT (len:=t.E.length) bY rfl) (aC (cJ rfl rfl) (aG ?_)))))))))
   rcases aH l with ⟨e6,l⟩|⟨e6,l⟩
   ·refine aL e6 rfl (aY (aA (aN (bC (fun f w=>∃ (c3:List Bool),kF a2 c3=some e2∧f 0=bV a1 m∧f 1=i64 y∧f 9=zS c c3.length b.length∧f 10=i64 b1∧f 11=i64 a2∧aK G K (aV 4 K c b.length c3::L) w) ?_ ?_))))
    ·rintro f t5 ⟨c3,l,l5,l6,l7,l8,l9,m0⟩
     unfold kF at l
     exact aA (aP (aO l9 (aC (cM rfl rfl) (aF (v:=i64 (wr (a2+1))) (aG ⟨(c3,wr (a2+1)),(zI l).symm,l5,l6,l7,l8,rfl,m0⟩)))))
    refine aN (cN (fun f w=>∃ (e7:Bool),kG t a6 a2 e7=some e2∧f 0=bV a1 m∧f 1=i64 y∧f 9=zS c a6.length b.length∧f 10=i64 b1∧f 11=i64 a2∧f 61=zB e7∧aK G K (aV 4 K c b.length a6::L) w) ?_ ?_)
    ·rintro f t6 ⟨e7,l,e8,i3,e9,i4,f0,i5,c4⟩
     unfold kG at l
     refine aA ?_
     rcases aH l with ⟨f1,l⟩|⟨f1,l⟩
     ·refine aL f1 i5 (aP (aO e9 (aO e8 (aC (cS rfl j) (aC (cC (k':=m+3) cK rfl j rfl) (aC (bJ (t:=3) fS c4 j rfl rfl) (aO f0 ?_)))))))
      obtain ⟨t7,i6,l⟩:=aB l
      refine aC (cT bY rfl h9 rfl rfl rfl i6) ?_
      obtain ⟨t8,i7,m1⟩:=cL.el (sz:=3) rfl h9 i6
      cases m1
      refine aC (cC (k':=a2.toNat * 3+2) eM rfl i7 rfl) (aC (bJ (t:=2) cE c4 i7 rfl rfl) ?_)
      obtain ⟨t9,f2,l⟩:=aB l
      have m2:=dM c4 (i:=0) rfl f2
      refine aC (eB jN rfl m2 rfl rfl rfl f2) ?_
      obtain ⟨i8,i9,l⟩:=aB l
      exact jW (i:=0) (t:=0) (ns:=[zB true]) (e':=(true:Bool)) Tryz.sizeOf4 c4 rfl (zR _) rfl rfl rfl f2 i9 rfl rfl (dK rfl) rfl (fun cs h=>by cases h;rfl) (fun m3 (m4:aK G K (aV 4 K c b.length i8::L) m3)=>(bK (bE (aA ⟨i8,l,e8,i3,(Eq.trans e9 (congrArg (fun n=>zS c n b.length) (iE i9))),i4,f0,m4⟩))))
     ·exact aJ f1 i5 (aY (bE (aA ⟨a6,l,e8,i3,e9,i4,f0,c4⟩)))
    refine aP (aO c1 (aC (cS rfl j) (aC (cC (k':=m+3) cK rfl j rfl) (aC (bJ (t:=3) fS b0 j rfl rfl) (aO c2 ?_)))))
    obtain ⟨f3,f4,l⟩:=aB l
    refine aC (cT bY rfl h9 rfl rfl rfl f4) ?_
    obtain ⟨u0,d6,m5⟩:=cL.el (sz:=3) rfl h9 f4
    cases m5
    refine aC (cC (k':=a2.toNat * 3+0) fJ rfl d6 rfl) (aC (bJ (t:=0) cE b0 d6 rfl rfl) (aO e3 (aC (lC rfl rfl) (aM (v:=zB (f3.F == y)) ?_))))
    rcases aH l with ⟨p,l⟩|⟨p,l⟩
    ·exact bA p rfl rfl (aO c1 (bA p rfl rfl (aC (cS rfl j) (bA p rfl rfl (aC (cC (k':=m+3) cK rfl j rfl) (bA p rfl rfl (aC (bJ (t:=3) fS b0 j rfl rfl) (bA p rfl rfl (aO c2 (bA p rfl rfl (aC (cT bY rfl h9 rfl rfl rfl f4) (bA p rfl rfl (aC (cC (k':=a2.toNat * 3+1) gB rfl d6 rfl) (bA p rfl rfl (aC (bJ (t:=1) cE b0 d6 rfl rfl) (bA p rfl rfl (aO e5 (bA p rfl rfl (aC (lC rfl rfl) (aC (bI (v:=zB (f3.B == b1)) p rfl rfl) (aG ⟨f3.B == b1,l,c1,e3,e4,e5,c2,rfl,b0⟩)))))))))))))))))))))
    ·exact aQ p rfl rfl (aQ p rfl rfl (aQ p rfl rfl (aQ p rfl rfl (aQ p rfl rfl (aQ p rfl rfl (aQ p rfl rfl (aQ p rfl rfl (aQ p rfl rfl (aQ p rfl rfl (aC (bL (v:=zB false) p rfl rfl) (aG ⟨false,l,c1,e3,e4,e5,c2,rfl,b0⟩)))))))))))
   ·refine aJ e6 rfl (bZ (aW (aW ?_)))
    have m6:=l4 _ (zI l).symm
    subst m6
    have k:(sY a6)=some R:=k
    exact bO (aA ⟨a6,k,e4,b0⟩)
 ·refine aJ e1 rfl (aY (aA (aI (aM (v:=bV a1 m) (aC (cS rfl j) (aC (cC (k':=m+0) iM rfl j rfl) (aC (bJ (t:=0) cE d5 j rfl rfl) ?_)))))))
  obtain ⟨a,m7,k⟩:=aB k
  refine aDv (e:=(0:Int)) cG qE rfl rfl d5 rfl rfl rfl m7 rfl (fun u m8 (m9:aK G K (aV 2 K u a.length a::aV 4 K c b.length b::L) m8)=>(aF (v:=zS u a.length a.length) (aG (aI (aM (v:=bV a1 m) (aM (v:=zS u a.length a.length) (aM (v:=i64 y) ?_)))))))
  obtain ⟨u1,f5,n0,n1,n2⟩:=aK.lendS (i:=0) m9 (zR _) rfl
  obtain ⟨x,n3,k⟩:=aB k
  refine aU (vs:=[bV a1 m,zS u a.length a.length,i64 y]) Tryz.call322 rfl (aBN n1 (j.mono f5) (h6.mono f5) (h9.mono f5) n0 n3) ?_
  rintro _ u2 ⟨z,J,rfl,n4⟩
  have j0:=n2 _ _ n4
  refine aF (v:=zS z x.length J) (aG (aN (aI (aM (v:=str Z) (aC (vR rfl rfl) (aG ?_))))))
  rcases aH k with ⟨f6,k⟩|⟨f6,k⟩
  ·refine aL f6 rfl (aI (aM (v:=zS z x.length J) (aF (v:=zS z x.length J) (aG ?_))))
   obtain rfl:=zI k
   exact bF (aR (bB Tryz.results274 rfl ⟨z,J,rfl,(aK.arr 3 [1] j0 rfl)⟩))
  ·refine aJ f6 rfl (aY (aA (aN (aI (aF (v:=i64 0) (aG (bC (fun f w=>∃ (c6:List Bool),sZ c6=some R∧f 9=zS c c6.length b.length∧aK G K (aV 4 K c b.length c6::L) w) ?_ ?_)))))))
   ·rintro f u3 ⟨c6,k,n6,n7⟩
    unfold sZ at k
    refine aA (aI (aO n6 (aF (v:=zS c c6.length b.length) (aG ?_))))
    obtain rfl:=zI k
    exact bF (bB Tryz.results274 rfl ⟨c,b.length,rfl,n7⟩)
   obtain ⟨u4,n9,k⟩:=aB k
   refine cA n9 (fun (s:(List Bool × Int)) f w=>match s with|(a3,a0)=>f 0=bV a1 m∧f 2=str Z∧f 9=zS c a3.length b.length∧f 12=zS u a.length a.length∧f 13=zS z x.length J∧f 14=i64 a0∧aK G K (aV 2 K u a.length a::aV 4 K z J x::aV 4 K c b.length a3::L) w) ?_ ?_
   ·exact ⟨rfl,rfl,rfl,rfl,rfl,rfl,j0⟩
   ·rintro ⟨a3,a0⟩ c7 f u5 d o0 ⟨c9,f7,f8,j1,f9,d7,d0⟩
    replace d:vV t Z a x a3 a0=some c7:=d
    unfold vV at d
    refine aN (aI (aO d7 (aO c9 (aC (cS rfl j) (aC (cC (k':=m+3) cK rfl j rfl) (aC (bJ (t:=3) fS d0 j rfl rfl) (aC (bT (len:=t.E.length) bY rfl) (aC (cJ rfl rfl) (aG ?_)))))))))
    rcases aH d with ⟨g0,d⟩|⟨g0,d⟩
    ·refine aL g0 rfl (aY (aA (aN (bC (fun f w=>∃ (d1:List Bool),tA a0 d1=some c7∧f 0=bV a1 m∧f 2=str Z∧f 9=zS c d1.length b.length∧f 12=zS u a.length a.length∧f 13=zS z x.length J∧f 14=i64 a0∧aK G K (aV 2 K u a.length a::aV 4 K z J x::aV 4 K c b.length d1::L) w) ?_ ?_))))
     ·rintro f u6 ⟨d1,d,o1,o2,o3,o4,o5,o6,o7⟩
      unfold tA at d
      exact aA (aP (aO o6 (aC (cM rfl rfl) (aF (v:=i64 (wr (a0+1))) (aG ⟨(d1,wr (a0+1)),(zI d).symm,o1,o2,o3,o4,o5,rfl,o7⟩)))))
     refine aI (aO c9 (aC (cS rfl j) (aC (cC (k':=m+3) cK rfl j rfl) (aC (bJ (t:=3) fS d0 j rfl rfl) (aO d7 ?_)))))
     obtain ⟨V,j2,d⟩:=aB d
     refine aC (cT bY rfl h9 rfl rfl rfl j2) ?_
     obtain ⟨u7,o8,o9⟩:=cL.el (sz:=3) rfl h9 j2
     cases o9
     refine aC (gG (t:=0) (vs:=[i64 V.F,i64 V.B,i64 V.To]) iJ d0 o8 rfl rfl rfl) (bW (vs:=[i64 0,i64 0,i64 0]) Tryz.zeroValue63 d0 rfl (fun d8 u8 p0=>(cD (i:=0) (ns:=[i64 V.F,i64 V.B,i64 V.To]) (us:=[i64 V.F,i64 V.B,i64 V.To]) Tryz.sizeOf63 p0 rfl rfl rfl rfl rfl (dK rfl) rfl rfl (fun p1 (o:aK G K (box d8 63 [i64 V.F,i64 V.B,i64 V.To]::aV 2 K u a.length a::aV 4 K z J x::aV 4 K c b.length a3::L) p1)=>(aG (aN (aN (cN (fun f w=>∃ (g1:Bool),rI t a a3 a0 V g1=some c7∧f 0=bV a1 m∧f 2=str Z∧f 9=zS c a3.length b.length∧f 12=zS u a.length a.length∧f 13=zS z x.length J∧f 14=i64 a0∧f 15=zP (some ⟨d8,0,none⟩)∧f 118=zB g1∧aK G K (box d8 63 [i64 V.F,i64 V.B,i64 V.To]::aV 2 K u a.length a::aV 4 K z J x::aV 4 K c b.length a3::L) w) ?_ ?_))))))))
     ·rintro f u9 ⟨g1,d,g2,j3,j4,g3,j5,j6,p2,j7,g4⟩
      unfold rI at d
      refine aA ?_
      rcases aH d with ⟨g5,d⟩|⟨g5,d⟩
      ·exact aL g5 j7 (bZ (aW (bO (aA ⟨a3,d,g2,j3,j4,g3,j5,j6,(aK.arr 1 [] g4 rfl)⟩))))
      ·refine aJ g5 j7 (aY (aA (aI (aO g2 (aO g3 (aC (bG (t':=2) eM p2 rfl) (aC (cF cE g4 (i:=0) rfl rfl rfl) ?_)))))))
       obtain ⟨v0,g6,p3,p4,p5⟩:=aK.lendS (i:=1) g4 (zR _) rfl
       obtain ⟨a9,p6,d⟩:=aB d
       refine aU (vs:=[bV a1 m,zS u a.length a.length,i64 V.To]) Tryz.call322 rfl (aBN p4 (j.mono g6) (h6.mono g6) (h9.mono g6) p3 p6) ?_
       rintro _ v1 ⟨b2,b3,rfl,p7⟩
       have p8:=p5 _ _ p7
       refine aF (v:=zS b2 a9.length b3) (aG (aI (aF (v:=i64 0) (aG (bC (fun f w=>∃ (d2:List Bool),tB a0 d2=some c7∧f 0=bV a1 m∧f 2=str Z∧f 9=zS c d2.length b.length∧f 12=zS u a.length a.length∧f 13=zS z x.length J∧f 14=i64 a0∧aK G K (aV 2 K u a.length a::aV 4 K z J x::aV 4 K c b.length d2::L) w) ?_ ?_)))))
       ·rintro f v2 ⟨d2,d,p9,q0,q1,q2,q3,q4,q5⟩
        unfold tB at d
        exact bE (aA ⟨d2,d,p9,q0,q1,q2,q3,q4,q5⟩)
       obtain ⟨v3,q6,d⟩:=aB d
       refine cA q6 (fun (s:(List Bool × Int)) f w=>match s with|(b7,b4)=>f 0=bV a1 m∧f 2=str Z∧f 9=zS c b7.length b.length∧f 12=zS u a.length a.length∧f 13=zS z x.length J∧f 14=i64 a0∧f 16=zS b2 a9.length b3∧f 17=i64 b4∧aK G K (aV 2 K u a.length a::aV 4 K b2 b3 a9::aV 4 K z J x::aV 4 K c b.length b7::L) w) ?_ ?_
       ·exact ⟨g2,j3,j4,g3,j5,j6,rfl,rfl,(aK.arr 3 [0,1] p8 rfl)⟩
       ·rintro ⟨b7,b4⟩ j8 f v4 q q7 ⟨g7,g8,d3,g9,h0,h1,d9,b8,b5⟩
        replace q:xS a9 b7 b4=some j8:=q
        unfold xS at q
        refine aN (aI (aO b8 (aO d9 (aC (bT (len:=a9.length) jN rfl) (aC (cJ rfl rfl) (aG ?_))))))
        rcases aH q with ⟨h2,q⟩|⟨h2,q⟩
        ·refine aL h2 rfl (aY (aA (aN (cP (cN (fun f w=>∃ (d4:List Bool),tC b4 d4=some j8∧f 0=bV a1 m∧f 2=str Z∧f 9=zS c d4.length b.length∧f 12=zS u a.length a.length∧f 13=zS z x.length J∧f 14=i64 a0∧f 16=zS b2 a9.length b3∧f 17=i64 b4∧aK G K (aV 2 K u a.length a::aV 4 K b2 b3 a9::aV 4 K z J x::aV 4 K c b.length d4::L) w) ?_ ?_)))))
         ·rintro f v5 ⟨d4,q,q8,q9,r0,r1,r2,r3,r4,r5,r6⟩
          unfold tC at q
          exact bE (aA (aP (aO r5 (aC (cM rfl rfl) (aF (v:=i64 (wr (b4+1))) (aG ⟨(d4,wr (b4+1)),(zI q).symm,q8,q9,r0,r1,r2,r3,r4,rfl,r6⟩))))))
         refine aP (aO d3 (aO b8 (aO d3 (aO b8 ?_))))
         obtain ⟨r7,b6,q⟩:=aB q
         have h4:=dM b5 (i:=3) rfl b6
         refine aC (eB jN rfl h4 rfl rfl rfl b6) (aC (lX (t:=0) aCD b5 (i:=3) rfl b6 rfl rfl rfl) (aM (v:=zB r7) ?_))
         rcases aH q with ⟨a5,q⟩|⟨a5,q⟩
         ·refine aZ a5 rfl rfl (aZ a5 rfl rfl (aZ a5 rfl rfl (aZ a5 rfl rfl (aC (bI (v:=zB true) a5 rfl rfl) (aC (eB jN rfl h4 rfl rfl rfl b6) ?_)))))
          obtain ⟨j9,k0,q⟩:=aB q
          exact jW (i:=3) (t:=0) (ns:=[zB true]) (e':=(true:Bool)) Tryz.sizeOf4 b5 rfl (zR _) rfl rfl rfl b6 k0 rfl rfl (dK rfl) rfl (fun cs h=>by cases h;rfl) (fun r8 (r9:aK G K (aV 2 K u a.length a::aV 4 K b2 b3 a9::aV 4 K z J x::aV 4 K c b.length j9::L) r8)=>(aG ⟨j9,q,g7,g8,(Eq.trans d3 (congrArg (fun n=>zS c n b.length) (iE k0))),g9,h0,h1,d9,b8,r9⟩))
         ·refine bN a5 rfl rfl (aO d9 (bN a5 rfl rfl (aO b8 (bN a5 rfl rfl ?_))))
          obtain ⟨h5,h7,q⟩:=aB q
          have s0:=dM b5 (i:=1) rfl h7
          refine aC (eB jN rfl s0 rfl rfl rfl h7) (bN a5 rfl rfl (aC (lX (t:=0) aCD b5 (i:=1) rfl h7 rfl rfl rfl) (aC (bL (v:=zB h5) a5 rfl rfl) (aC (eB jN rfl h4 rfl rfl rfl b6) ?_))))
          obtain ⟨k1,k3,q⟩:=aB q
          exact jW (i:=3) (t:=0) (ns:=[zB h5]) (e':=(h5:Bool)) Tryz.sizeOf4 b5 rfl (zR _) rfl rfl rfl b6 k3 rfl rfl (dK rfl) rfl (fun cs h=>by cases h;rfl) (fun s1 (s2:aK G K (aV 2 K u a.length a::aV 4 K b2 b3 a9::aV 4 K z J x::aV 4 K c b.length k1::L) s1)=>(aG ⟨k1,q,g7,g8,(Eq.trans d3 (congrArg (fun n=>zS c n b.length) (iE k3))),g9,h0,h1,d9,b8,s2⟩))
        ·refine aJ h2 rfl (bZ (aW (aW ?_)))
         have s3:=q7 _ (zI q).symm
         subst s3
         have d:(tB a0 b7)=some c7:=d
         exact bO (aA ⟨b7,d,g7,g8,d3,g9,h0,h1,(aK.arr 2 [0] b5 rfl)⟩)
     refine eK (C:=fun w'=>aK G K (box d8 63 [i64 V.F,i64 V.B,i64 V.To]::aV 2 K u a.length a::aV 4 K z J x::aV 4 K c b.length a3::L) w') bU (by kernel_rfl) (aK.mono o (dQ.drew _)) (aX (fun _ o=>bD f9) (aX (fun _ o=>bG (t':=0) fJ rfl rfl) (aX (fun _ o=>cF cE o (i:=0) rfl rfl rfl) ?_)))
     obtain ⟨s4,h8,d⟩:=aB d
     have s5:=dM o (i:=2) rfl h8
     refine aX (fun _ o=>eB jN rfl s5 rfl rfl rfl h8) (aX (fun _ o=>lX (t:=0) aCD o (i:=2) rfl h8 rfl rfl rfl) (aX (fun _ o=>fH rfl) (aX (fun _ o=>bD (v:=zB (!s4)) rfl) ?_)))
     rcases aH d with ⟨r,d⟩|⟨r,d⟩
     ·exact aT (g:=107) rfl rfl (bS r) (aT (g:=107) rfl rfl (bS r) (aT (g:=107) rfl rfl (bS r) (aT (g:=107) rfl rfl (bS r) (aT (g:=107) rfl rfl (bS r) (aT (g:=107) rfl rfl (bS r) (aT (g:=107) rfl rfl (bS r) (aT (g:=107) rfl rfl (bS r) (aT (g:=107) rfl rfl (bS r) (aT (g:=107) rfl rfl (bS r) (aX (fun _ o=>bI (v:=zB true) r rfl rfl) (eG (fun v6 s6=>(aA ⟨true,d,c9,f7,f8,j1,f9,d7,rfl,rfl,s6⟩)))))))))))))
     ·refine bM (g:=107) rfl rfl (bR r) (aX (fun _ o=>bD c9) (bM (g:=107) rfl rfl (bR r) (aX (fun _ o=>cS rfl j) (bM (g:=107) rfl rfl (bR r) (aX (fun _ o=>cC (k':=m+2) gI rfl j rfl) (bM (g:=107) rfl rfl (bR r) (aX (fun _ o=>bJ (t:=2) mG o j rfl rfl) (bM (g:=107) rfl rfl (bR r) (aX (fun _ o=>bG (t':=1) gB rfl rfl) (bM (g:=107) rfl rfl (bR r) (aX (fun _ o=>cF cE o (i:=0) rfl rfl rfl) (bM (g:=107) rfl rfl (bR r) ?_))))))))))))
      obtain ⟨k4,k5,d⟩:=aB d
      refine aX (fun _ o=>cT cO rfl h6 rfl rfl rfl k5) ?_
      obtain ⟨v7,s7,s8⟩:=cL.el (sz:=1) rfl h6 k5
      cases s8
      exact bM (g:=107) rfl rfl (bR r) (aX (fun _ o=>bJ (t:=0) pU o s7 rfl rfl) (bM (g:=107) rfl rfl (bR r) (aX (fun _ o=>bD f7) (bM (g:=107) rfl rfl (bR r) (aX (fun _ o=>aAG rfl rfl) (aX (fun _ o=>bL (v:=zB (!(k4 == Z))) r rfl rfl) (eG (fun v8 s9=>(aA ⟨!(k4 == Z),d,c9,f7,f8,j1,f9,d7,rfl,rfl,s9⟩)))))))))
    ·refine aJ g0 rfl (bZ (aW (aW ?_)))
     have t0:=o0 _ (zI d).symm
     subst t0
     have k:(sZ a3)=some R:=k
     exact bO (aA ⟨a3,k,f8,(aK.arr 2 [] d0 rfl)⟩)
theorem aAP {q:cH} {V:Nat} {r:cH} {a7:Nat} {Z:Int} {p:(List (List Bool))} {x_ y:Int} {R:Bool} (hs:aK G K (aV 87 Kf a20 c21 p::box b1 107 [bV a2 V,bV a11 a7,i64 Z,zS a20 p.length c21]::L) w) (f1:Hp.le Kf K) (h4:fV K a2 V (zC q a5 c6 a8 c9)) (h7:cL K a5 c6 q.L) (f2:cL K a8 c9 q.E) (f3:fV K a11 a7 (zC r a14 c15 a17 c18)) (f4:cL K a14 c15 r.L) (f5:cL K a17 c18 r.E) (h:kR q r Z p x_ y=some R):
  Calls Tryz.prog 215 ([zP (some ⟨b1,0,none⟩),i64 x_,i64 y]:List Value).toArray w (gO fun v w'=>v=zB R∧aK G K (aV 87 Kf a20 c21 p::box b1 107 [bV a2 V,bV a11 a7,i64 Z,zS a20 p.length c21]::L) w'):=by
 let z:=box b1 107 [bV a2 V,bV a11 a7,i64 Z,zS a20 p.length c21]
 let a0:=aV 87 Kf a20 c21 p
 refine aS Tryz.func215 rfl (by kernel_rfl) (by show (3:Nat)≤79;decide) ?_
 unfold kR at h
 refine aI (aF (v:=zB false) (aG (aI (aM (v:=zP (some ⟨b1,0,none⟩)) (aC (mO rfl) (aC (bG (t':=0) aFI rfl rfl) (aC (cF sc_52 hs (i:=1) rfl rfl rfl) (aM (v:=i64 x_) ?_))))))))
 obtain ⟨j,f6,h⟩:=aB h
 refine aU (vs:=[bV a2 V,i64 x_]) Tryz.call131 rfl (aGM hs h4 h7 f2 f6) ?_
 rintro _ l6 ⟨m,n,rfl,f7⟩
 refine aF (v:=zS m j.length n) (aG (aN (aI (aF (v:=i64 0) (aG (bC (fun f w=>kV=some R∧aK G K (a0::z::L) w) ?_ ?_))))))
 ·rintro f l7 ⟨h,f8⟩
  unfold kV at h
  refine aA (aI (aF (v:=zB true) (aG ?_)))
  obtain rfl:=zI h
  exact bF (bB Tryz.results215 rfl ⟨rfl,f8⟩)
 obtain ⟨l8,g0,h⟩:=aB h
 refine cA g0 (fun (k:Int) f w=>f 0=zP (some ⟨b1,0,none⟩)∧f 2=i64 y∧f 7=zS m j.length n∧f 8=i64 k∧aK G K (aV 63 K m n j::a0::z::L) w) ?_ ?_
 ·exact ⟨rfl,rfl,rfl,rfl,f7⟩
 ·rintro k b7 f l9 c d7 ⟨b8,d8,c4,c5,d9⟩
  replace c:iC q r Z p y j k=some b7:=c
  unfold iC at c
  refine aN (aI (aO c5 (aO c4 (aC (bT (len:=j.length) bY rfl) (aC (cJ rfl rfl) (aG ?_))))))
  rcases aH c with ⟨c7,c⟩|⟨c7,c⟩
  ·refine aL c7 rfl (aY (aA (aN (bC (fun f w=>kW k=some b7∧f 0=zP (some ⟨b1,0,none⟩)∧f 2=i64 y∧f 7=zS m j.length n∧f 8=i64 k∧aK G K (aV 63 K m n j::a0::z::L) w) ?_ ?_))))
   ·rintro f m0 ⟨c,g1,g2,g3,g4,g5⟩
    unfold kW at c
    exact aA (aP (aO g4 (aC (cM rfl rfl) (aF (v:=i64 (wr (k+1))) (aG ⟨wr (k+1),(zI c).symm,g1,g2,g3,rfl,g5⟩)))))
   refine aN ?_
   obtain ⟨m1,u,e0,g6,g7⟩:=aK.lendS (i:=0) d9 (zR _) rfl
   obtain ⟨g8,o,c8,e1,g9⟩:=aK.lendB (i:=1) g6 rfl
   refine iB (C:=fun w'=>∃ L',aK G g8 L' w') [(0,0),(1,0),(2,0),(3,0),(4,0),(5,0),(6,0),(7,0),(8,0),(9,0),(10,0),(11,0),(12,0),(13,0),(14,0),(15,0),(16,0),(17,0),(18,0),(19,0),(20,0),(21,0),(22,0),(23,1),(24,0)] bU (by kernel_rfl) (fun _ hg=>⟨_,aK.mono e1 hg⟩) (fun m2 h0=>?_)
   have l:=aK.mono e1 h0
   refine bX rfl (fun _ _=>bD b8) (bX rfl (fun _ _=>mO rfl) (bX rfl (fun _ _=>bG (t':=1) aIX rfl rfl) (bX rfl (fun _ ⟨_,l⟩=>bJ (t:=1) sc_52 l c8 rfl rfl) (bX rfl (fun _ _=>bD d8) (bX rfl (fun _ _=>bD b8) (bX rfl (fun _ _=>mO rfl) (bX rfl (fun _ _=>bG (t':=0) aFI rfl rfl) (bX rfl (fun _ ⟨_,l⟩=>bJ (t:=0) sc_52 l c8 rfl rfl) (bX rfl (fun _ _=>cS rfl (h4.mono (zL u o))) (bX rfl (fun _ _=>cC (k':=V+2) gI rfl (h4.mono (zL u o)) rfl) (bX rfl (fun _ ⟨_,l⟩=>bJ (t:=2) mG l (h4.mono (zL u o)) rfl rfl) (bX rfl (fun _ _=>bD c4) (bX rfl (fun _ _=>bD c5) ?_)))))))))))))
   obtain ⟨h1,a9,c⟩:=aB c
   have b9:=aFm (e0.mono o) a9
   refine bX rfl (fun _ _=>eB bY rfl b9 rfl rfl rfl a9) (bX rfl (fun _ _=>aFx (k':=k.toNat * 3+1) gB b9 rfl rfl) ?_)
   obtain ⟨m3,h2,h3⟩:=cL.el (sz:=3) rfl (e0.mono o) a9
   cases h3
   refine bX rfl (fun _ ⟨_,l⟩=>bJ (t:=1) cE l h2 rfl rfl) ?_
   obtain ⟨h5,e2,c⟩:=aB c
   refine bX rfl (fun _ _=>cT cO rfl (h7.mono (zL u o)) rfl rfl rfl e2) ?_
   obtain ⟨m4,h6,h8⟩:=cL.el (sz:=1) rfl h7 e2
   cases h8
   refine bX rfl (fun _ ⟨_,l⟩=>bJ (t:=0) pU l (h6.mono (zL u o)) rfl rfl) (bX rfl (fun _ _=>bD b8) (bX rfl (fun _ _=>mO rfl) (bX rfl (fun _ _=>bG (t':=2) aIY rfl rfl) (bX rfl (fun _ ⟨_,l⟩=>bJ (t:=2) cE l c8 rfl rfl) (nD rfl ?_)))))
   obtain ⟨x,h9,c⟩:=aB c
   refine aU (vs:=[bV a11 a7,i64 y,str h5,i64 Z]) Tryz.call274 rfl (aDH l (f3.mono (zL u o)) (f4.mono (zL u o)) (f5.mono (zL u o)) h9) ?_
   rintro _ m5 ⟨a1,a3,rfl,e3⟩
   refine bK (aA ⟨⟨_,e3⟩,?_⟩)
   refine bX rfl (fun _ _=>gF (v:=zS a1 x.length a3) rfl) (mP ?_)
   have i0:=g9 _ _ e3
   have i1:=g7 _ _ i0
   refine aA (aI (aF (v:=zB false) (aG (aN (aI (aF (v:=i64 0) (aG (bC (fun f w=>∃ (d0:Bool),jC k d0=some b7∧f 0=zP (some ⟨b1,0,none⟩)∧f 2=i64 y∧f 7=zS m j.length n∧f 8=i64 k∧f 10=zB d0∧aK G K (aV 63 K m n j::z::a0::L) w) ?_ ?_))))))))
   ·rintro f m6 ⟨d0,c,i2,i3,i4,i5,i6,e4⟩
    unfold jC at c
    refine aA (aI (aO i6 (aC (fH rfl) (aG ?_))))
    rcases aH c with ⟨d1,c⟩|⟨d1,c⟩
    ·refine aL d1 rfl (aI (aF (v:=zB false) (aG (bF (bQ (aR (aR (aR ?_))))))))
     have i7:=d7 _ (zI c).symm
     subst i7
     have h:(some false)=some R:=h
     obtain rfl:=zI h
     exact bQ (aR (aR (bB Tryz.results215 rfl ⟨rfl,(aK.arr 3 [2,1] e4 rfl)⟩)))
    ·exact aJ d1 rfl (aY (bE (aA ⟨c,i2,i3,i4,i5,(aK.arr 3 [0,2,1] e4 rfl)⟩)))
   obtain ⟨m7,i9,c⟩:=aB c
   refine cA i9 (fun (s:(Bool × Int)) f w=>match s with|(a4,J)=>f 0=zP (some ⟨b1,0,none⟩)∧f 2=i64 y∧f 7=zS m j.length n∧f 8=i64 k∧f 9=zS a1 x.length a3∧f 10=zB a4∧f 11=i64 J∧aK G K (aV 63 K m n j::z::aV 4 K a1 a3 x::a0::L) w) ?_ ?_
   ·exact ⟨b8,d8,c4,c5,rfl,rfl,rfl,i1⟩
   ·rintro ⟨a4,J⟩ e5 f m8 d j0 ⟨b0,c0,b2,b3,b4,e6,a6,e7⟩
    replace d:fE p h1 x a4 J=some e5:=d
    unfold fE at d
    refine aN (aI (aO a6 (aO b4 (aC (bT (len:=x.length) jN rfl) (aC (cJ rfl rfl) (aG ?_))))))
    rcases aH d with ⟨d2,d⟩|⟨d2,d⟩
    ·refine aL d2 rfl (aY (aA (aN (cP (cN (fun f w=>∃ (c1:Bool),fD J c1=some e5∧f 0=zP (some ⟨b1,0,none⟩)∧f 2=i64 y∧f 7=zS m j.length n∧f 8=i64 k∧f 9=zS a1 x.length a3∧f 10=zB c1∧f 11=i64 J∧aK G K (aV 63 K m n j::z::aV 4 K a1 a3 x::a0::L) w) ?_ ?_)))))
     ·rintro f m9 ⟨c1,d,j1,j2,j3,j4,j5,j6,j7,j8⟩
      unfold fD at d
      exact bE (aA (aP (aO j7 (aC (cM rfl rfl) (aF (v:=i64 (wr (J+1))) (aG ⟨(c1,wr (J+1)),(zI d).symm,j1,j2,j3,j4,j5,j6,rfl,j8⟩))))))
     obtain ⟨j9,n0,e8,a,d3⟩:=aK.lendS (i:=3) e7 f1 rfl
     refine eK (C:=fun w'=>aK G j9 (aV 63 K m n j::z::aV 4 K a1 a3 x::L) w') bU (by kernel_rfl) (aK.mono a (dQ.drew _)) (aX (fun _ a=>bD e6) (aX (fun _ a=>bD (v:=zB a4) rfl) ?_))
     rcases aH d with ⟨e,d⟩|⟨e,d⟩
     ·refine aT (g:=55) rfl rfl (bS e) (aT (g:=55) rfl rfl (bS e) (aT (g:=55) rfl rfl (bS e) (aT (g:=55) rfl rfl (bS e) (aT (g:=55) rfl rfl (bS e) (bP (g:=60) rfl rfl (bP (g:=60) rfl rfl (bP (g:=60) rfl rfl (bP (g:=60) rfl rfl (bP (g:=60) rfl rfl (bP (g:=60) rfl rfl (bP (g:=60) rfl rfl (bP (g:=60) rfl rfl (bP (g:=60) rfl rfl (bP (g:=60) rfl rfl (bP (g:=60) rfl rfl (bP (g:=60) rfl rfl (bP (g:=60) rfl rfl (bP (g:=60) rfl rfl (aT (g:=55) rfl rfl (bS e) (aX (fun _ a=>bI (v:=zB true) e rfl rfl) (aX (fun _ a=>gF (v:=zB true) rfl) (eG (fun n1 k0=>?_)))))))))))))))))))))))
      have k1:=d3 _ _ k0
      exact aA ⟨true,d,b0,c0,b2,b3,b4,rfl,a6,(aK.arr 4 [1,2,3,0] k1 rfl)⟩
     ·refine bM (g:=55) rfl rfl (bR e) (aX (fun _ a=>bD b4) (bM (g:=55) rfl rfl (bR e) (aX (fun _ a=>bD a6) (bM (g:=55) rfl rfl (bR e) ?_))))
      obtain ⟨k2,d4,d⟩:=aB d
      have k4:=dM a (i:=2) rfl d4
      refine aX (fun _ a=>eB jN rfl k4 rfl rfl rfl d4) (bM (g:=55) rfl rfl (bR e) (aX (fun _ a=>lX (t:=0) aCD a (i:=2) rfl d4 rfl rfl rfl) (bM (g:=55) rfl rfl (bR e) (aX (fun _ a=>bD (v:=zB k2) rfl) ?_))))
      rcases aH d with ⟨b,d⟩|⟨b,d⟩
      ·refine bM (g:=60) rfl rfl b (aX (fun _ a=>bD b0) (bM (g:=60) rfl rfl b (aX (fun _ a=>mO rfl) (bM (g:=60) rfl rfl b (aX (fun _ a=>bG (t':=3) qF rfl rfl) (bM (g:=60) rfl rfl b (aX (fun _ a=>cF aBt a (i:=1) rfl rfl rfl) (bM (g:=60) rfl rfl b (aX (fun _ a=>bD b2) (bM (g:=60) rfl rfl b (aX (fun _ a=>bD b3) (bM (g:=60) rfl rfl b (aX (fun _ a=>eB bY rfl b9 rfl rfl rfl a9) (bM (g:=60) rfl rfl b (aX (fun _ a=>aFx (k':=k.toNat * 3+2) eM b9 rfl rfl) (bM (g:=60) rfl rfl b (aX (fun _ a=>lX (t:=2) cE a (i:=0) rfl a9 rfl rfl rfl) (bM (g:=60) rfl rfl b ?_))))))))))))))))))
       obtain ⟨n2,d5,d⟩:=aB d
       have k5:=aFm e8 d5
       refine aX (fun _ a=>eB uK rfl k5 rfl rfl rfl d5) (bM (g:=60) rfl rfl b ?_)
       obtain ⟨n3,k6,k7⟩:=cL.el (sz:=1) rfl e8 d5
       obtain ⟨n4,n5,rfl,e9⟩:=k7
       refine aX (fun _ a=>bJ (t:=0) aEM a k6 rfl rfl) (bM (g:=60) rfl rfl b (aX (fun _ a=>bD a6) (bM (g:=60) rfl rfl b ?_)))
       obtain ⟨c2,f0,d⟩:=aB d
       refine aX (fun _ a=>cT jN rfl e9 rfl rfl rfl f0) ?_
       obtain ⟨n6,k8,k9⟩:=cL.el (sz:=1) rfl e9 f0
       cases k9
       refine bM (g:=60) rfl rfl b (aX (fun _ a=>bJ (t:=0) aCD a k8 rfl rfl) (bM (g:=55) rfl rfl (bR e) (aX (fun _ a=>bI (v:=zB c2) b rfl rfl) (aX (fun _ a=>bL (v:=zB c2) e rfl rfl) (aX (fun _ a=>gF (v:=zB c2) rfl) (eG (fun n7 l0=>?_)))))))
       have l1:=d3 _ _ l0
       exact aA ⟨c2,d,b0,c0,b2,b3,b4,rfl,a6,(aK.arr 4 [1,2,3,0] l1 rfl)⟩
      ·refine aT (g:=60) rfl rfl (cB b) (aT (g:=60) rfl rfl (cB b) (aT (g:=60) rfl rfl (cB b) (aT (g:=60) rfl rfl (cB b) (aT (g:=60) rfl rfl (cB b) (aT (g:=60) rfl rfl (cB b) (aT (g:=60) rfl rfl (cB b) (aT (g:=60) rfl rfl (cB b) (aT (g:=60) rfl rfl (cB b) (aT (g:=60) rfl rfl (cB b) (aT (g:=60) rfl rfl (cB b) (aT (g:=60) rfl rfl (cB b) (aT (g:=60) rfl rfl (cB b) (aT (g:=60) rfl rfl (cB b) (bM (g:=55) rfl rfl (bR e) (aX (fun _ a=>bL (v:=zB false) b rfl rfl) (aX (fun _ a=>bL (v:=zB false) e rfl rfl) (aX (fun _ a=>gF (v:=zB false) rfl) (eG (fun n8 l2=>?_)))))))))))))))))))
       have l3:=d3 _ _ l2
       exact aA ⟨false,d,b0,c0,b2,b3,b4,rfl,a6,(aK.arr 4 [1,2,3,0] l3 rfl)⟩
    ·refine aJ d2 rfl (bZ (aW (aW ?_)))
     have l4:=j0 _ (zI d).symm
     subst l4
     have c:(jC k a4)=some b7:=c
     exact bO (aA ⟨a4,c,b0,c0,b2,b3,e6,(aK.arr 3 [0,1] e7 rfl)⟩)
  ·refine aJ c7 rfl (bZ (aW (aW ?_)))
   have l5:=d7 _ (zI c).symm
   subst l5
   have h:(kV)=some R:=h
   exact bO (aA ⟨h,(aK.arr 1 [] d9 rfl)⟩)
theorem aBg {a1:cH} {e:Nat} {a3:cH} {j:Nat} {c:Int} {m:(List (List Bool))} {R:((List (List Bool)) × Bool)} (hs:aK G K (aV 87 Kf a20 c21 m::box b1 107 [bV a2 e,bV a11 j,i64 c,zS a20 m.length c21]::L) w) (i2:Hp.le Kf K) (h4:fV K a2 e (zC a1 a5 c6 a8 c9)) (h7:cL K a5 c6 a1.L) (i5:cL K a8 c9 a1.E) (i6:fV K a11 j (zC a3 a14 c15 a17 c18)) (i7:cL K a14 c15 a3.L) (i8:cL K a17 c18 a3.E) (hm:lM a1 a3 c m=some R):
  Calls Tryz.prog 160 ([zP (some ⟨b1,0,none⟩)]:List Value).toArray w (gO fun v w'=>∃ (K':Hp) (g1:Option Addr) (g2:Nat) (g3:Nat),v=Value.tuple #[zP (some ⟨g3,0,none⟩),zB R.2]∧Hp.le K K'∧aK G K' (aV 87 K' g1 g2 R.1::box g3 107 [bV a2 e,bV a11 j,i64 c,zS g1 R.1.length g2]::aV 87 K' a20 c21 m::box b1 107 [bV a2 e,bV a11 j,i64 c,zS a20 m.length c21]::L) w'):=by
 let q:=box b1 107 [bV a2 e,bV a11 j,i64 c,zS a20 m.length c21]
 refine aS Tryz.func160 rfl (by kernel_rfl) (by show (1:Nat)≤93;decide) ?_
 unfold lM at hm
 refine aI (aF (v:=zP none) (aF (v:=zB false) (aG (aN ?_))))
 obtain ⟨i9,q7,e0,g4,j0⟩:=aK.lendB (i:=1) hs rfl
 refine iB (C:=fun w'=>∃ L',aK G i9 L' w') [(0,0),(1,0),(2,0),(3,0),(4,0),(5,0),(6,0),(7,0),(8,0),(9,0),(10,0),(11,0),(12,0),(13,1),(14,0)] bU (by kernel_rfl) (fun _ hg=>⟨_,aK.mono g4 hg⟩) (fun q8 j1=>?_)
 have b2:=aK.mono g4 j1
 refine bX rfl (fun _ _=>bD (v:=zP (some ⟨b1,0,none⟩)) rfl) (bX rfl (fun _ _=>mO rfl) (bX rfl (fun _ _=>bG (t':=0) aFI rfl rfl) (bX rfl (fun _ ⟨_,b2⟩=>bJ (t:=0) sc_52 b2 e0 rfl rfl) (bX rfl (fun _ _=>bD (v:=zP (some ⟨b1,0,none⟩)) rfl) (bX rfl (fun _ _=>mO rfl) (bX rfl (fun _ _=>bG (t':=1) aIX rfl rfl) (bX rfl (fun _ ⟨_,b2⟩=>bJ (t:=1) sc_52 b2 e0 rfl rfl) (bX rfl (fun _ _=>bD (v:=zP (some ⟨b1,0,none⟩)) rfl) (bX rfl (fun _ _=>mO rfl) (bX rfl (fun _ _=>bG (t':=2) aIY rfl rfl) (bX rfl (fun _ ⟨_,b2⟩=>bJ (t:=2) cE b2 e0 rfl rfl) (bX rfl (fun _ _=>kA (vs:=[(0,bV a2 e),(1,bV a11 j),(2,i64 c)]) (cs:=[bV a2 e,bV a11 j,i64 c,zS none 0 0]) bs_107 rfl (by kernel_rfl)) (nD rfl (eE (v:=Value.agg #[bV a2 e,bV a11 j,i64 c,zS none 0 0]) (vs:=[bV a2 e,bV a11 j,i64 c,zS none 0 0]) b2 rfl rfl (fun k j2 g5=>(bK (aA ⟨⟨_,g5⟩,?_⟩)))))))))))))))))
 refine bX rfl (fun _ _=>gF (v:=zP (some ⟨k,0,none⟩)) rfl) (mP ?_)
 have j3:=j0 _ _ g5
 refine aA (aI (aF (v:=zB false) (aG (aN (aI (aF (v:=i64 0) (aG (bC (fun f w=>∃ (b5:Hp) (d2:List (List Bool)) (d3:Bool) (d4:Option Addr) (d5:Nat),Hp.le K b5∧lU d2 d3=some R∧f 4=zP (some ⟨k,0,none⟩)∧f 5=zB d3∧aK G b5 (aV 87 b5 d4 d5 d2::q::box k 107 [bV a2 e,bV a11 j,i64 c,zS d4 d2.length d5]::aV 87 b5 a20 c21 m::L) w) ?_ ?_))))))))
 ·rintro f q9 ⟨b5,d2,d3,d4,d5,j4,hm,j5,j6,j7⟩
  unfold lU at hm
  refine aA (aI (aO j5 (aO j6 (aF (v:=zP (some ⟨k,0,none⟩)) (aF (v:=zB d3) (aG ?_))))))
  obtain rfl:=zI hm
  exact bF (rS Tryz.results160 rfl rfl ⟨b5,d4,d5,k,rfl,j4,(aK.arr 4 [0,2,3,1] j7 rfl)⟩)
 have j9:aK G K (q::box k 107 [bV a2 e,bV a11 j,i64 c,zS none 0 0]::aV 87 K a20 c21 m::L) j2:=aK.weak (i:=2) j3 rfl (fun _ h=>aV.mono i2 h)
 have k0:=aK.nil (α:=(List Bool)) j9 87 K
 obtain ⟨r0,k1,hm⟩:=aB hm
 refine cA k1 (fun (s:(List (List Bool) × Bool × Int)) f w=>match s with|(d,c5,r)=>∃ (a:Hp) (n:Option Addr) (o:Nat),Hp.le K a∧f 0=zP (some ⟨b1,0,none⟩)∧f 4=zP (some ⟨k,0,none⟩)∧f 5=zB c5∧f 6=i64 r∧aK G a (aV 87 a n o d::q::box k 107 [bV a2 e,bV a11 j,i64 c,zS n d.length o]::aV 87 a a20 c21 m::L) w) ?_ ?_
 ·exact ⟨K,none,0,(zR _),rfl,rfl,rfl,rfl,k0⟩
 ·rintro ⟨d,c5,r⟩ d6 f r1 p k2 ⟨a,n,o,y,g6,g7,g8,g9,e1⟩
  replace p:gQ a1 a3 c m d c5 r=some d6:=p
  unfold gQ at p
  refine aN (aI (aO g9 (aO g6 (aC (mO rfl) (aC (bG (t':=3) qF rfl rfl) (aC (cF aBt e1 (i:=1) rfl rfl rfl) (aC (bT (len:=m.length) uK rfl) (aC (cJ rfl rfl) (aG ?_)))))))))
  rcases aH p with ⟨e2,p⟩|⟨e2,p⟩
  ·refine aL e2 rfl (aY (aA (aN (bC (fun f w=>∃ (a7:Hp) (b3:List (List Bool)) (d7:Bool) (b6:Option Addr) (b7:Nat),Hp.le a a7∧lV r b3 d7=some d6∧f 0=zP (some ⟨b1,0,none⟩)∧f 4=zP (some ⟨k,0,none⟩)∧f 5=zB d7∧f 6=i64 r∧aK G a7 (aV 87 a7 b6 b7 b3::q::box k 107 [bV a2 e,bV a11 j,i64 c,zS b6 b3.length b7]::aV 87 a a20 c21 m::L) w) ?_ ?_))))
   ·rintro f k4 ⟨a7,b3,d7,b6,b7,h0,p,k5,k6,k7,k8,k9⟩
    unfold lV at p
    refine aA (aP (aO k8 (aC (cM rfl rfl) (aF (v:=i64 (wr (r+1))) ?_))))
    have l0:aK G a7 (aV 87 a7 b6 b7 b3::q::box k 107 [bV a2 e,bV a11 j,i64 c,zS b6 b3.length b7]::aV 87 a7 a20 c21 m::L) k4:=aK.weak (i:=3) k9 rfl (fun _ h=>aV.mono h0 h)
    exact aG ⟨(b3,d7,wr (r+1)),(zI p).symm,a7,b6,b7,(zL y h0),k5,k6,k7,rfl,l0⟩
   refine aI (dJ (Kt:=K) (xs:=([]:List Bool)) (cs:=[]) (vs:=[]) jN ez_4 rfl rfl e1 rfl (by kernel_rfl) rfl rfl rfl trivial (fun e3 l1 (l2:aK G a (aV 4 K e3 0 ([]:List Bool)::aV 87 a n o d::q::box k 107 [bV a2 e,bV a11 j,i64 c,zS n d.length o]::aV 87 a a20 c21 m::L) l1)=>(aF (v:=zS e3 ([]:List Bool).length 0) (aG (aN (aI (aF (v:=i64 0) (aG (bC (fun f w=>∃ (d8:Bool) (a9:List Bool) (b8:Option Addr) (b9:Nat),jO d r d8 a9=some d6∧f 0=zP (some ⟨b1,0,none⟩)∧f 4=zP (some ⟨k,0,none⟩)∧f 5=zB d8∧f 6=i64 r∧f 7=zS b8 a9.length b9∧aK G a (aV 4 K b8 b9 a9::aV 87 a n o d::q::box k 107 [bV a2 e,bV a11 j,i64 c,zS n d.length o]::aV 87 a a20 c21 m::L) w) ?_ ?_)))))))))
   ·rintro f l3 ⟨d8,a9,b8,b9,p,l4,e4,l5,l6,l7,h1⟩
    unfold jO at p
    refine aA (aP (aO e4 (aO e4 (aC (mO rfl) (aC (bG (t':=3) qF rfl rfl) (aC (cF aBt h1 (i:=3) rfl rfl rfl) (aO l7 ?_)))))))
    obtain ⟨J,h2,l8,e5⟩:=aK.giveS (i:=0) h1 y rfl
    replace e5:aK G J (aV 87 a n o d::q::box k 107 [bV a2 e,bV a11 j,i64 c,zS n d.length o]::aV 87 a a20 c21 m::L) l3:=e5
    refine dJ (Kt:=J) (xs:=([a9]:List (List Bool))) (cs:=[zS b8 a9.length b9]) (vs:=[(0,zS b8 a9.length b9)]) uK ez_87 rfl rfl e5 rfl (by kernel_rfl) rfl rfl rfl ⟨⟨b8,b9,rfl,l8⟩,trivial⟩ (fun l9 m0 (m1:aK G J (aV 87 J l9 1 ([a9]:List (List Bool))::aV 87 a n o d::q::box k 107 [bV a2 e,bV a11 j,i64 c,zS n d.length o]::aV 87 a a20 c21 m::L) m0)=>?_)
    obtain ⟨c0,m2,p⟩:=aB p
    exact WO_appO (i:=0) J uK Tryz.underlying105 ez_87 rfl rfl m1 rfl h2 (zR _) m2 rfl rfl rfl rfl (fun _ _ _ h=>El.one h) (fun c1 c2 m3 (m4:aK G J (aV 87 J c1 c2 c0::q::box k 107 [bV a2 e,bV a11 j,i64 c,zS n d.length o]::aV 87 a a20 c21 m::L) m3)=>(aC (mO rfl) (aC (bG (t':=3) qF rfl rfl) (cD (i:=2) (ns:=[zS c1 c0.length c2]) (us:=[bV a2 e,bV a11 j,i64 c,zS c1 c0.length c2]) Tryz.sizeOf105 m4 rfl rfl rfl rfl rfl (dK rfl) rfl rfl (fun m5 (m6:aK G J (aV 87 J c1 c2 c0::q::box k 107 [bV a2 e,bV a11 j,i64 c,zS c1 c0.length c2]::aV 87 a a20 c21 m::L) m5)=>(bK (bE (aA ⟨J,c0,d8,c1,c2,h2,p,l4,e4,l5,l6,m6⟩))))))))
   obtain ⟨r2,m7,p⟩:=aB p
   refine cA m7 (fun (s:(Bool × List Bool × Int)) f w=>match s with|(b0,u,V)=>∃ (Z:Option Addr) (a0:Nat),f 0=zP (some ⟨b1,0,none⟩)∧f 4=zP (some ⟨k,0,none⟩)∧f 5=zB b0∧f 6=i64 r∧f 7=zS Z u.length a0∧f 8=i64 V∧aK G a (aV 4 K Z a0 u::aV 87 a n o d::q::box k 107 [bV a2 e,bV a11 j,i64 c,zS n d.length o]::aV 87 a a20 c21 m::L) w) ?_ ?_
   ·exact ⟨e3,0,g6,g7,g8,g9,rfl,rfl,l2⟩
   ·rintro ⟨b0,u,V⟩ e6 f m8 b m9 ⟨Z,a0,c3,e7,e8,c4,e9,c7,a6⟩
    replace b:fI a1 a3 c m r b0 u V=some e6:=b
    unfold fI at b
    refine aN (aI (aO c7 (aO c3 (aC (mO rfl) (aC (bG (t':=3) qF rfl rfl) (aC (cF aBt a6 (i:=2) rfl rfl rfl) (aO c4 ?_)))))))
    obtain ⟨c8,b4,b⟩:=aB b
    have f0:=dM a6 (i:=4) rfl b4
    refine aC (eB uK rfl f0 rfl rfl rfl b4) ?_
    obtain ⟨r3,n0,n1⟩:=aFy (sz:=1) rfl a6 (i:=4) rfl b4
    obtain ⟨n2,n3,rfl,r4⟩:=n1
    refine aC (R_ldC (t:=0) (v:=zS n2 c8.length n3) aEM n0 rfl rfl) (aC (bT (len:=c8.length) jN rfl) (aC (cJ rfl rfl) (aG ?_)))
    rcases aH b with ⟨f1,b⟩|⟨f1,b⟩
    ·refine aL f1 rfl (aY (aA (aN (cP (aN (cN (fun f w=>∃ (x:Bool),iL b0 u V c8 x=some e6∧f 0=zP (some ⟨b1,0,none⟩)∧f 4=zP (some ⟨k,0,none⟩)∧f 5=zB b0∧f 6=i64 r∧f 7=zS Z u.length a0∧f 8=i64 V∧f 9=zB x∧aK G a (aV 4 K Z a0 u::aV 87 a n o d::q::box k 107 [bV a2 e,bV a11 j,i64 c,zS n d.length o]::aV 87 a a20 c21 m::L) w) ?_ ?_))))))
     ·rintro f r5 ⟨x,b,f2,h3,n4,f3,h5,f4,f5,d0⟩
      unfold iL at b
      refine aA (aN (cN (fun f w=>∃ (d9:Bool),iK u V x d9=some e6∧f 0=zP (some ⟨b1,0,none⟩)∧f 4=zP (some ⟨k,0,none⟩)∧f 5=zB d9∧f 6=i64 r∧f 7=zS Z u.length a0∧f 8=i64 V∧f 9=zB x∧aK G a (aV 4 K Z a0 u::aV 87 a n o d::q::box k 107 [bV a2 e,bV a11 j,i64 c,zS n d.length o]::aV 87 a a20 c21 m::L) w) ?_ ?_))
      ·rintro f r6 ⟨d9,b,n5,n6,n7,n8,n9,o0,o1,o2⟩
       unfold iK at b
       refine aA (aP (aO n9 (aO o1 (dJ (Kt:=K) (xs:=([x]:List Bool)) (cs:=[zB x]) (vs:=[(0,zB x)]) jN ez_4 rfl rfl o2 rfl (by kernel_rfl) rfl rfl rfl ⟨rfl,trivial⟩ (fun o3 o4 (o5:aK G a (aV 4 K o3 1 ([x]:List Bool)::aV 4 K Z a0 u::aV 87 a n o d::q::box k 107 [bV a2 e,bV a11 j,i64 c,zS n d.length o]::aV 87 a a20 c21 m::L) o4)=>?_)))))
       obtain ⟨f6,o6,b⟩:=aB b
       exact iA (i:=0) jN Tryz.underlying87 ez_4 rfl rfl o5 rfl y y o6 rfl rfl rfl rfl (fun _ h=>h) (fun f7 f8 o7 (o8:aK G a (aV 4 K f7 f8 f6::aV 87 a n o d::q::box k 107 [bV a2 e,bV a11 j,i64 c,zS n d.length o]::aV 87 a a20 c21 m::L) o7)=>(aF (v:=zS f7 f6.length f8) (bK (bE (aA (aP (aO o0 (aC (cM rfl rfl) (aF (v:=i64 (wr (V+1))) (aG ⟨(d9,f6,wr (V+1)),(zI b).symm,f7,f8,n5,n6,n7,n8,rfl,rfl,o8⟩))))))))))
      refine aP (aO n4 (aM (v:=zB b0) ?_))
      rcases aH b with ⟨l,b⟩|⟨l,b⟩
      ·exact aZ l rfl rfl (aZ l rfl rfl (aZ l rfl rfl (aZ l rfl rfl (aZ l rfl rfl (aZ l rfl rfl (aZ l rfl rfl (aZ l rfl rfl (aZ l rfl rfl (aZ l rfl rfl (aZ l rfl rfl (aZ l rfl rfl (aC (bI (v:=zB true) l rfl rfl) (aF (v:=zB true) (aG ⟨true,b,f2,h3,rfl,f3,h5,f4,f5,d0⟩))))))))))))))
      ·refine bN l rfl rfl (aO f5 (bN l rfl rfl (aO f2 (bN l rfl rfl (aC (mO rfl) (bN l rfl rfl (aC (bG (t':=3) qF rfl rfl) (bN l rfl rfl (aC (cF aBt d0 (i:=2) rfl rfl rfl) (bN l rfl rfl (aO f3 (bN l rfl rfl (aC (eB uK rfl f0 rfl rfl rfl b4) (bN l rfl rfl ?_))))))))))))))
       obtain ⟨r7,o9,p0⟩:=aFy (sz:=1) rfl d0 (i:=4) rfl b4
       obtain ⟨p1,p2,rfl,h6⟩:=p0
       refine aC (R_ldC (t:=0) (v:=zS p1 c8.length p2) aEM o9 rfl rfl) (bN l rfl rfl (aO f4 (bN l rfl rfl ?_)))
       obtain ⟨f9,h8,b⟩:=aB b
       refine aC (cT jN rfl h6 rfl rfl rfl h8) ?_
       obtain ⟨r8,p3,p4⟩:=cL.el (sz:=1) rfl h6 h8
       cases p4
       exact bN l rfl rfl (aC (bJ (t:=0) aCD d0 p3 rfl rfl) (bN l rfl rfl (aC (R_neqB Tryz.runUnderlying4 rfl rfl) (aC (bL (v:=zB (x != f9)) l rfl rfl) (aF (v:=zB (x != f9)) (aG ⟨x != f9,b,f2,h3,rfl,f3,h5,f4,f5,d0⟩))))))
     refine aP (aO c3 (aC (mO rfl) (aC (bG (t':=3) qF rfl rfl) (aC (cF aBt a6 (i:=2) rfl rfl rfl) (aO c4 (aC (eB uK rfl f0 rfl rfl rfl b4) ?_))))))
     obtain ⟨r9,p5,p6⟩:=aFy (sz:=1) rfl a6 (i:=4) rfl b4
     obtain ⟨p7,p8,rfl,h9⟩:=p6
     refine aC (R_ldC (t:=0) (v:=zS p7 c8.length p8) aEM p5 rfl rfl) (aO c7 ?_)
     obtain ⟨p9,i0,b⟩:=aB b
     refine aC (cT jN rfl h9 rfl rfl rfl i0) ?_
     obtain ⟨s0,q0,q1⟩:=cL.el (sz:=1) rfl h9 i0
     cases q1
     refine aC (bJ (t:=0) aCD a6 q0 rfl rfl) (aM (v:=zB p9) ?_)
     rcases aH b with ⟨z,b⟩|⟨z,b⟩
     ·refine bA z rfl rfl (aO c3 (bA z rfl rfl (aO c4 (bA z rfl rfl (aO c7 (bA z rfl rfl ?_))))))
      have q2:aK G a (aV 87 a a20 c21 m::q::aV 4 K Z a0 u::aV 87 a n o d::box k 107 [bV a2 e,bV a11 j,i64 c,zS n d.length o]::L) m8:=(aK.arr 5 [4,2,0,1,3] a6 rfl)
      obtain ⟨g0,q3,b⟩:=aB b
      refine aU (vs:=[zP (some ⟨b1,0,none⟩),i64 r,i64 V]) Tryz.call215 rfl (aAP (Kf:=a) q2 (zR _) (h4.mono y) (h7.mono y) (i5.mono y) (i6.mono y) (i7.mono y) (i8.mono y) q3) ?_
      rintro _ s1 ⟨rfl,q4⟩
      exact aC (bI (v:=zB g0) z rfl rfl) (aF (v:=zB g0) (aG ⟨g0,b,c3,e7,e8,c4,e9,c7,rfl,(aK.arr 5 [2,3,1,4,0] q4 rfl)⟩))
     ·exact aQ z rfl rfl (aQ z rfl rfl (aQ z rfl rfl (aQ z rfl rfl (aC (bL (v:=zB false) z rfl rfl) (aF (v:=zB false) (aG ⟨false,b,c3,e7,e8,c4,e9,c7,rfl,a6⟩))))))
    ·refine aJ f1 rfl (bZ (aW (aW ?_)))
     have q5:=m9 _ (zI b).symm
     subst q5
     have p:(jO d r b0 u)=some d6:=p
     exact bO (aA ⟨b0,u,Z,a0,p,c3,e7,e8,c4,e9,a6⟩)
  ·refine aJ e2 rfl (bZ (aW (aW ?_)))
   have q6:=k2 _ (zI p).symm
   subst q6
   have hm:(lU d c5)=some R:=hm
   exact bO (aA ⟨a,d,c5,n,o,y,hm,g7,g8,e1⟩)
theorem aAj {a:cH} {i:Nat} {b:cH} {j:Nat} {g:Int} {R:(List (List Bool))} (hs:aK G K (L) w) (t:fV K a1 i (zC a a4 c5 a7 c8)) (u:cL K a4 c5 a.L) (x:cL K a7 c8 a.E) (y:fV K a10 j (zC b a13 c14 a16 c17)) (z:cL K a13 c14 b.L) (J:cL K a16 c17 b.E) (d:pP a b g=some R):
  Calls Tryz.prog 73 ([bV a1 i,bV a10 j,i64 g]:List Value).toArray w (gO fun v w'=>∃ (q:Hp) (V:Option Addr) (Z:Nat) (a0:Nat),v=zP (some ⟨a0,0,none⟩)∧Hp.le K q∧aK G q (aV 87 q V Z R::box a0 107 [bV a1 i,bV a10 j,i64 g,zS V R.length Z]::L) w'):=by
 refine aS Tryz.func73 rfl (by kernel_rfl) (by show (3:Nat)≤23;decide) ?_
 unfold pP at d
 refine aI (aF (v:=zP none) (aG (aI (aM (v:=bV a1 i) (aM (v:=bV a10 j) (aM (v:=i64 g) ?_))))))
 obtain ⟨c4,b1,d⟩:=aB d
 refine aU (vs:=[bV a1 i,bV a10 j,i64 g]) Tryz.call159 rfl (aFf hs t u x y z J b1) ?_
 rintro _ c6 ⟨a2,b2,b3,a3,rfl,h,b4⟩
 refine aF (v:=zP (some ⟨a3,0,none⟩)) (aG (cP ?_))
 obtain ⟨c7,b5,d⟩:=aB d
 refine cA b5 (fun (l:List (List Bool)) f w=>∃ (m:Hp) (k:Nat) (o:Option Addr) (c45:Nat),Hp.le a2 m∧f 7=zP (some ⟨k,0,none⟩)∧aK G m (aV 87 m o c45 l::box k 107 [bV a1 i,bV a10 j,i64 g,zS o l.length c45]::L) w) ?_ ?_
 ·exact ⟨a2,a3,b2,b3,(zR _),rfl,b4⟩
 ·rintro l b6 f c9 c b7 ⟨m,k,o,c45,e,a5,b8⟩
  replace c:lI a b g l=some b6:=c
  unfold lI at c
  refine cP (aI (aO a5 ?_))
  obtain ⟨p,b9,c⟩:=aB c
  refine aU (vs:=[zP (some ⟨k,0,none⟩)]) Tryz.call160 rfl (aBg (Kf:=m) b8 (zR _) (t.mono (zL h e)) (u.mono (zL h e)) (x.mono (zL h e)) (y.mono (zL h e)) (z.mono (zL h e)) (J.mono (zL h e)) b9) ?_
  rintro _ d0 ⟨a6,c0,c1,n,rfl,a8,a9⟩
  refine aM (v:=Value.tuple #[zP (some ⟨n,0,none⟩),zB p.2]) (aC (dE rfl rfl) (aC (dE rfl rfl) (aF (v:=zP (some ⟨n,0,none⟩)) (aF (v:=zB p.2) (aG (aN (aI (aM (v:=zB p.2) (aC (fH rfl) (aG ?_))))))))))
  rcases aH c with ⟨r,c⟩|⟨r,c⟩
  ·refine aL r rfl (aI (aO a5 (aF (v:=zP (some ⟨k,0,none⟩)) (aG (bF (aR (bQ (aR ?_))))))))
   have c2:=b7 _ (zI c).symm
   subst c2
   have d:(some l)=some R:=d
   obtain rfl:=zI d
   exact bQ (bB Tryz.results73 rfl ⟨a6,o,c45,k,rfl,(zL (zL h e) a8),(aK.arr 2 [] a9 rfl)⟩)
  ·exact aJ r rfl (aY (aA (aP (aM (v:=zP (some ⟨n,0,none⟩)) (aF (v:=zP (some ⟨n,0,none⟩)) (bK (bE (aA ⟨p.1,(zI c).symm,a6,n,c0,c1,(zL e a8),rfl,(aK.arr 4 [0,1] a9 rfl)⟩))))))))
theorem aDI {t:cH} {u:Nat} {R:(List Int)} (hs:aK G K (L) w) (h3:fV K a1 u (zC t a4 c5 a7 c8)) (h6:cL K a4 c5 t.L) (h9:cL K a7 c8 t.E) (r:uY t=some R):
  Calls Tryz.prog 27 ([bV a1 u]:List Value).toArray w (gO fun v w'=>∃ (e3:Option Addr) (e4:Nat),v=zS e3 R.length e4∧aK G K (aV 2 K e3 e4 R::L) w'):=by
 refine aS Tryz.func27 rfl (by kernel_rfl) (by show (1:Nat)≤61;decide) ?_
 unfold uY at r
 refine aI (aF (v:=zS none 0 0) (aG (aI (aM (v:=bV a1 u) (aM (v:=bV a1 u) ?_)))))
 obtain ⟨c,h4,r⟩:=aB r
 refine aU (vs:=[bV a1 u,bV a1 u,i64 0]) Tryz.call73 rfl (aAj hs h3 h6 h9 h3 h6 h9 h4) ?_
 rintro _ n2 ⟨e,j,k,h5,rfl,b6,e5⟩
 refine aC (mO rfl) (aC (bG (t':=3) qF rfl rfl) (aC (cF aBt e5 (i:=1) rfl rfl rfl) (aF (v:=zS j c.length k) (aG (aI (dJ (Kt:=K) (xs:=([]:List Int)) (cs:=[]) (vs:=[]) cG qE rfl rfl e5 rfl (by kernel_rfl) rfl rfl rfl trivial (fun b7 h7 (h8:aK G e (aV 2 K b7 0 ([]:List Int)::aV 87 e j k c::box h5 107 [bV a1 u,bV a1 u,i64 0,zS j c.length k]::L) h7)=>(aF (v:=zS b7 ([]:List Int).length 0) (aG (aI (aF (v:=i64 0) (aG (aN (aI (aF (v:=i64 0) (aG (bC (fun f w=>∃ (J:List Int) (V:Option Addr) (Z:Nat),tD J=some R∧f 4=zS V J.length Z∧aK G e (aV 2 K V Z J::L) w) ?_ ?_)))))))))))))))))
 ·rintro f n3 ⟨J,V,Z,r,i0,i1⟩
  unfold tD at r
  refine aA (aI (aO i0 (aF (v:=zS V J.length Z) (aG ?_))))
  obtain rfl:=zI r
  exact bF (bB Tryz.results27 rfl ⟨V,Z,rfl,(aK.weakK i1 b6)⟩)
 obtain ⟨n4,i3,r⟩:=aB r
 refine cA i3 (fun (s:(List Int × Int × Int)) f w=>match s with|(d,o,l)=>∃ (m:Option Addr) (c48:Nat),f 3=zS j c.length k∧f 4=zS m d.length c48∧f 5=i64 o∧f 6=i64 l∧aK G e (aV 2 K m c48 d::aV 87 e j k c::L) w) ?_ ?_
 ·exact ⟨b7,0,rfl,rfl,rfl,rfl,(aK.arr 3 [0,1] h8 rfl)⟩
 ·rintro ⟨d,o,l⟩ a0 f n5 b i4 ⟨m,c48,e6,e7,i5,e8,e9⟩
  replace b:kL c d o l=some a0:=b
  unfold kL at b
  refine aN (aI (aO e8 (aO e6 (aC (bT (len:=c.length) uK rfl) (aC (cJ rfl rfl) (aG ?_))))))
  rcases aH b with ⟨b8,b⟩|⟨b8,b⟩
  ·refine aL b8 rfl (aY (aA (aN (bC (fun f w=>∃ (a2:List Int) (a6:Int) (a8:Option Addr) (a9:Nat),oU l a2 a6=some a0∧f 3=zS j c.length k∧f 4=zS a8 a2.length a9∧f 5=i64 a6∧f 6=i64 l∧aK G e (aV 2 K a8 a9 a2::aV 87 e j k c::L) w) ?_ ?_))))
   ·rintro f n6 ⟨a2,a6,a8,a9,b,i6,i7,i8,i9,j0⟩
    unfold oU at b
    exact aA (aP (aO i9 (aC (cM rfl rfl) (aF (v:=i64 (wr (l+1))) (aG ⟨(a2,a6,wr (l+1)),(zI b).symm,a8,a9,i6,i7,i8,rfl,j0⟩)))))
   refine aI (aF (v:=i64 (-1)) (aG (aN (aI (aF (v:=i64 0) (aG (bC (fun f w=>∃ (b0:Int),oV d o l b0=some a0∧f 3=zS j c.length k∧f 4=zS m d.length c48∧f 5=i64 o∧f 6=i64 l∧f 7=i64 b0∧aK G e (aV 2 K m c48 d::aV 87 e j k c::L) w) ?_ ?_)))))))
   ·rintro f n7 ⟨b0,b,f0,f1,b9,f2,f3,f4⟩
    unfold oV at b
    refine aA (aAF (fun f w=>∃ (b1:Int) (y:Int),lZ d l b1 y=some a0∧f 3=zS j c.length k∧f 4=zS m d.length c48∧f 5=i64 b1∧f 6=i64 l∧f 7=i64 y∧aK G e (aV 2 K m c48 d::aV 87 e j k c::L) w) ?_ ?_)
    ·rintro f n8 ⟨b1,y,b,j1,j2,j3,j4,j5,j6⟩
     unfold lZ at b
     refine aP (aO j2 (aO j5 (dJ (Kt:=K) (xs:=([y]:List Int)) (cs:=[i64 y]) (vs:=[(0,i64 y)]) cG qE rfl rfl j6 rfl (by kernel_rfl) rfl rfl rfl ⟨rfl,trivial⟩ (fun j7 j8 (j9:aK G e (aV 2 K j7 1 ([y]:List Int)::aV 2 K m c48 d::aV 87 e j k c::L) j8)=>?_))))
     obtain ⟨c0,k0,b⟩:=aB b
     exact iA (i:=0) cG Tryz.underlying38 qE rfl rfl j9 rfl b6 b6 k0 rfl rfl rfl rfl (fun _ h=>h) (fun c1 c2 k1 (k3:aK G e (aV 2 K c1 c2 c0::aV 87 e j k c::L) k1)=>(aF (v:=zS c1 c0.length c2) (bK (bE (aA ⟨c0,b1,c1,c2,b,j1,rfl,j3,j4,k3⟩)))))
    refine aI (aO f3 (aC (cJ rfl rfl) (aG ?_)))
    rcases aH b with ⟨c3,b⟩|⟨c3,b⟩
    ·exact aL c3 rfl (aI (aO b9 (aF (v:=i64 o) (aG (aP (aO b9 (aC (cM rfl rfl) (aF (v:=i64 (wr (o+1))) (aG ⟨wr (o+1),o,b,f0,f1,rfl,f2,rfl,f4⟩)))))))))
    ·exact aJ c3 rfl (aY (aA ⟨o,b0,b,f0,f1,b9,f2,f3,f4⟩))
   obtain ⟨n9,k4,b⟩:=aB b
   refine cA k4 (fun (s:(Int × Int)) f w=>match s with|(p,q)=>f 3=zS j c.length k∧f 4=zS m d.length c48∧f 5=i64 o∧f 6=i64 l∧f 7=i64 p∧f 8=i64 q∧aK G e (aV 2 K m c48 d::aV 87 e j k c::L) w) ?_ ?_
   ·exact ⟨e6,e7,i5,e8,rfl,rfl,e9⟩
   ·rintro ⟨p,q⟩ b2 f o0 a k5 ⟨f5,f6,f7,c4,c6,c7,f8⟩
    replace a:jL c d l p q=some b2:=a
    unfold jL at a
    refine aN (aN (cN (fun f w=>∃ (c9:Bool),kK c d l p q c9=some b2∧f 3=zS j c.length k∧f 4=zS m d.length c48∧f 5=i64 o∧f 6=i64 l∧f 7=i64 p∧f 8=i64 q∧f 28=zB c9∧aK G e (aV 2 K m c48 d::aV 87 e j k c::L) w) ?_ ?_))
    ·rintro f o1 ⟨c9,a,a3,d0,d1,a5,d2,b3,f9,x⟩
     unfold kK at a
     refine aA ?_
     rcases aH a with ⟨d3,a⟩|⟨d3,a⟩
     ·refine aL d3 f9 (aY (aA (aN (bC (fun f w=>∃ (b4:Int),kI q b4=some b2∧f 3=zS j c.length k∧f 4=zS m d.length c48∧f 5=i64 o∧f 6=i64 l∧f 7=i64 b4∧f 8=i64 q∧aK G e (aV 2 K m c48 d::aV 87 e j k c::L) w) ?_ ?_))))
      ·rintro f o2 ⟨b4,a,k6,k7,k8,k9,l0,l1,l2⟩
       unfold kI at a
       exact aA (aP (aO l1 (aC (cM rfl rfl) (aF (v:=i64 (wr (q+1))) (aG ⟨(b4,wr (q+1)),(zI a).symm,k6,k7,k8,k9,l0,rfl,l2⟩)))))
      refine aN (cN (fun f w=>∃ (d4:Bool),kJ d p q d4=some b2∧f 3=zS j c.length k∧f 4=zS m d.length c48∧f 5=i64 o∧f 6=i64 l∧f 7=i64 p∧f 8=i64 q∧f 46=zB d4∧aK G e (aV 2 K m c48 d::aV 87 e j k c::L) w) ?_ ?_)
      ·rintro f o3 ⟨d4,a,g0,d5,g1,g2,l3,d6,g3,b5⟩
       unfold kJ at a
       refine aA ?_
       rcases aH a with ⟨d7,a⟩|⟨d7,a⟩
       ·refine aL d7 g3 (aP (aO d5 (aO d6 ?_)))
        obtain ⟨g4,d8,a⟩:=aB a
        have l4:=dM b5 (i:=0) rfl d8
        exact aC (eB cG rfl l4 rfl rfl rfl d8) (aC (lX (t:=0) cE b5 (i:=0) rfl d8 rfl rfl rfl) (aF (v:=i64 g4) (bK (bE (aA ⟨g4,a,g0,d5,g1,g2,rfl,d6,b5⟩)))))
       ·exact aJ d7 g3 (aY (bE (aA ⟨p,a,g0,d5,g1,g2,l3,d6,b5⟩)))
      refine aP (aO a3 (aO a5 ?_))
      obtain ⟨l5,d9,a⟩:=aB a
      have g5:=dM x (i:=1) rfl d9
      refine aC (eB uK rfl g5 rfl rfl rfl d9) ?_
      obtain ⟨o4,l6,l7⟩:=aFy (sz:=1) rfl x (i:=1) rfl d9
      obtain ⟨l8,l9,rfl,g6⟩:=l7
      refine aC (R_ldC (t:=0) (v:=zS l8 l5.length l9) aEM l6 rfl rfl) (aO b3 ?_)
      obtain ⟨m0,g7,a⟩:=aB a
      refine aC (cT jN rfl g6 rfl rfl rfl g7) ?_
      obtain ⟨o5,m1,m2⟩:=cL.el (sz:=1) rfl g6 g7
      cases m2
      refine aC (bJ (t:=0) aCD x m1 rfl rfl) (aM (v:=zB m0) ?_)
      rcases aH a with ⟨n,a⟩|⟨n,a⟩
      ·refine bA n rfl rfl (aO a3 (bA n rfl rfl (aO b3 (bA n rfl rfl ?_))))
       obtain ⟨m3,g8,a⟩:=aB a
       refine aC (eB uK rfl g5 rfl rfl rfl g8) (bA n rfl rfl ?_)
       obtain ⟨o6,m4,m5⟩:=aFy (sz:=1) rfl x (i:=1) rfl g8
       obtain ⟨m6,m7,rfl,g9⟩:=m5
       refine aC (R_ldC (t:=0) (v:=zS m6 m3.length m7) aEM m4 rfl rfl) (bA n rfl rfl (aO a5 (bA n rfl rfl ?_)))
       obtain ⟨h0,h1,a⟩:=aB a
       refine aC (cT jN rfl g9 rfl rfl rfl h1) ?_
       obtain ⟨o7,m8,m9⟩:=cL.el (sz:=1) rfl g9 h1
       cases m9
       exact bA n rfl rfl (aC (bJ (t:=0) aCD x m8 rfl rfl) (aC (bI (v:=zB h0) n rfl rfl) (aG ⟨h0,a,a3,d0,d1,a5,d2,b3,rfl,x⟩)))
      ·exact aQ n rfl rfl (aQ n rfl rfl (aQ n rfl rfl (aQ n rfl rfl (aQ n rfl rfl (aQ n rfl rfl (aQ n rfl rfl (aC (bL (v:=zB false) n rfl rfl) (aG ⟨false,a,a3,d0,d1,a5,d2,b3,rfl,x⟩))))))))
     ·refine aJ d3 f9 (bZ (aW (aW ?_)))
      have n0:=k5 _ (zI a).symm
      subst n0
      have b:(oV d o l p)=some a0:=b
      exact bO (aA ⟨p,b,a3,d0,d1,a5,d2,x⟩)
    refine aP (aO c7 (aO c4 (aC (cJ rfl rfl) (aM (v:=zB (decide (q < l))) ?_))))
    rcases aH a with ⟨z,a⟩|⟨z,a⟩
    ·exact bA z rfl rfl (aO c6 (bA z rfl rfl (aC (cJ rfl rfl) (aC (bI (v:=zB (decide (p < 0))) z rfl rfl) (aG ⟨decide (p < 0),a,f5,f6,f7,c4,c6,c7,rfl,f8⟩)))))
    ·exact aQ z rfl rfl (aQ z rfl rfl (aC (bL (v:=zB false) z rfl rfl) (aG ⟨false,a,f5,f6,f7,c4,c6,c7,rfl,f8⟩)))
  ·refine aJ b8 rfl (bZ (aW (aW ?_)))
   have n1:=i4 _ (zI b).symm
   subst n1
   have r:(tD d)=some R:=r
   exact bO (aA ⟨d,m,c48,r,e7,(aK.arr 2 [0] e9 rfl)⟩)
end Gv
