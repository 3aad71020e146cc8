/- Walks, printed by program. -/
import Derived.Test.YtmlgcbjkfcapaaaGreatDoorFJWk1
import Derived.Test.YtmlgcbjkfcapaaaGreatDoorFJWk2
import Derived.Test.YtmlgcbjkfcapaaaGreatDoorFJWk3
set_option linter.all false
namespace Gv
open Go.Value renaming slice→zS,bool→zB,pointer→zP,agg→zA
open Option.some renaming inj→zI
open Gv.Hp renaming le_trans→zL,le_refl→zR
open Go Go.Proofs
set_option maxRecDepth 20000
set_option maxHeartbeats 40000000
variable {G:Env} {K:Hp} {L:List oT} {w:World} {a1 a4 a7:Option Addr} {c5 c8 c2:Nat}
theorem aGN {t:cH} {j:Nat} {R:cH} (hs:aK G K (L) w) (g:fV K a1 j (zC t a4 c5 a7 c8)) (h6:cL K a4 c5 t.L) (h9:cL K a7 c8 t.E) (n:aDE t=some R):
  Calls Tryz.prog 74 ([bV a1 j]:List Value).toArray w (gO fun v w'=>∃ (q:Option Addr) (r:Nat) (u:Option Addr) (x:Nat),v=zA (zCa R q r u x)∧aK G K (aV 9 K q r R.L::aV 63 K u x R.E::L) w'):=by
 let k:=zG
 let o:=[i64 t.N,i64 t.I,zS none 0 0,zS none 0 0]
 refine aS Tryz.func74 rfl (by kernel_rfl) (by show (1:Nat)≤28;decide) ?_
 unfold aDE at n
 refine aI (bW (vs:=k) Tryz.zeroValue29 hs rfl (fun l c6 y=>(aG (aN (iB (C:=fun w'=>∃ L',aK G K L' w') [(0,0),(1,0),(2,0),(3,0),(4,0),(5,0),(6,0),(7,0),(8,0),(9,1),(10,2)] bU (by kernel_rfl) (fun _ hg=>⟨_,aK.mono y hg⟩) (fun c7 a6=>?_))))))
 have p:=aK.mono y a6
 refine bX rfl (fun _ _=>bD (v:=bV a1 j) rfl) (bX rfl (fun _ _=>cS rfl g) (bX rfl (fun _ _=>cC (k':=j+0) iM rfl g rfl) (bX rfl (fun _ ⟨_,p⟩=>bJ (t:=0) cE p g rfl rfl) (bX rfl (fun _ _=>bD (v:=bV a1 j) rfl) (bX rfl (fun _ _=>cS rfl g) (bX rfl (fun _ _=>cC (k':=j+1) nE rfl g rfl) (bX rfl (fun _ ⟨_,p⟩=>bJ (t:=1) cE p g rfl rfl) (bX rfl (fun _ _=>kA (vs:=[(0,i64 t.N),(1,i64 t.I)]) (cs:=o) aAX rfl (by kernel_rfl)) (nD rfl (bW (vs:=k) Tryz.zeroValue29 p rfl (fun m c9 z=>(bK (aA ⟨⟨_,z⟩,?_⟩)))))))))))))
 refine WE_s rfl (cD (i:=0) (ns:=o) (us:=o) Tryz.sizeOf29 z rfl rfl rfl rfl rfl (dK rfl) rfl rfl (fun a8 (a9:aK G K (box m 29 o::box l 29 k::L) a8)=>(aG (mP (aA (aI (dJ (Kt:=K) (xs:=([]:List bH)) (cs:=[]) (vs:=[]) cO aAo rfl rfl a9 rfl (by kernel_rfl) rfl rfl rfl trivial (fun b0 b1 (J:aK G K (aV 9 K b0 0 ([]:List bH)::box m 29 o::box l 29 k::L) b1)=>(aM (v:=bV a1 j) (aC (cS rfl g) (aC (cC (k':=j+2) gI rfl g rfl) (aC (bJ (t:=2) mG J g rfl rfl) ?_))))))))))))
 obtain ⟨c,b2,n⟩:=aB n
 refine aCS (i:=0) cO Tryz.underlying22 aAo rfl rfl J rfl (zR _) h6 b2 rfl rfl rfl rfl (fun a b b3 (b4:aK G K (aV 9 K a b c::box m 29 o::box l 29 k::L) b3)=>(aC (bG (t':=2) gI rfl rfl) (cD (i:=1) (ns:=[zS a c.length b]) (us:=[i64 t.N,i64 t.I,zS a c.length b,zS none 0 0]) Tryz.sizeOf22 b4 rfl rfl rfl rfl rfl (dK rfl) rfl rfl (fun b5 (b6:aK G K (aV 9 K a b c::box m 29 [i64 t.N,i64 t.I,zS a c.length b,zS none 0 0]::box l 29 k::L) b5)=>(aG (aI (dJ (Kt:=K) (xs:=([]:List Edge)) (cs:=[]) (vs:=[]) bY lD rfl rfl b6 rfl (by kernel_rfl) rfl rfl rfl trivial (fun b7 b8 (V:aK G K (aV 63 K b7 0 ([]:List Edge)::aV 9 K a b c::box m 29 [i64 t.N,i64 t.I,zS a c.length b,zS none 0 0]::box l 29 k::L) b8)=>(aM (v:=bV a1 j) (aC (cS rfl g) (aC (cC (k':=j+3) cK rfl g rfl) (aC (bJ (t:=3) fS V g rfl rfl) ?_))))))))))))
 obtain ⟨h,b9,n⟩:=aB n
 refine aCS (i:=0) bY Tryz.underlying27 lD rfl rfl V rfl (zR _) h9 b9 rfl rfl rfl rfl (fun d e c0 (c1:aK G K (aV 63 K d e h::aV 9 K a b c::box m 29 [i64 t.N,i64 t.I,zS a c.length b,zS none 0 0]::box l 29 k::L) c0)=>(aC (bG (t':=3) cK rfl rfl) (cD (i:=2) (ns:=[zS d h.length e]) (us:=[i64 t.N,i64 t.I,zS a c.length b,zS d h.length e]) Tryz.sizeOf27 c1 rfl rfl rfl rfl rfl (dK rfl) rfl rfl (fun c2 (Z:aK G K (aV 63 K d e h::aV 9 K a b c::box m 29 [i64 t.N,i64 t.I,zS a c.length b,zS d h.length e]::box l 29 k::L) c2)=>(aG (aI (aC (dF (us:=[i64 t.N,i64 t.I,zS a c.length b,zS d h.length e]) eC Z (i:=2) rfl rfl rfl rfl) (cD (i:=3) (ns:=[i64 t.N,i64 t.I,zS a c.length b,zS d h.length e]) (us:=[i64 t.N,i64 t.I,zS a c.length b,zS d h.length e]) Tryz.sizeOf29 Z rfl rfl rfl rfl rfl (dK rfl) rfl rfl (fun c3 (a0:aK G K (aV 63 K d e h::aV 9 K a b c::box m 29 [i64 t.N,i64 t.I,zS a c.length b,zS d h.length e]::box l 29 [i64 t.N,i64 t.I,zS a c.length b,zS d h.length e]::L) c3)=>(aG ?_))))))))))
 obtain rfl:=zI n
 exact bF (sX Tryz.results74 (kQ (vs:=[i64 t.N,i64 t.I,zS a c.length b,zS d h.length e]) rfl eC a0 (i:=3) rfl rfl rfl) ⟨a,b,d,e,rfl,(aK.arr 4 [1,0] a0 rfl)⟩)
theorem aDe {t:cH} {u:Nat} {R:((List Edge) × (List Edge))} (hs:aK G K (L) w) (Z:fV K a1 u (zC t a4 c5 a7 c8)) (h6:cL K a4 c5 t.L) (h9:cL K a7 c8 t.E) (hm:wS t=some R):
  Calls Tryz.prog 75 ([bV a1 u]:List Value).toArray w (gO fun v w'=>∃ (f5:Option Addr) (f6:Nat) (f7:Option Addr) (f8:Nat),v=Value.tuple #[zS f5 R.1.length f6,zS f7 R.2.length f8]∧aK G K (aV 63 K f5 f6 R.1::aV 63 K f7 f8 R.2::L) w'):=by
 refine aS Tryz.func75 rfl (by kernel_rfl) (by show (1:Nat)≤101;decide) ?_
 unfold wS at hm
 refine aI (aF (v:=zS none 0 0) (aF (v:=zS none 0 0) (aG (aI (aM (v:=bV a1 u) (aM (v:=bV a1 u) ?_))))))
 obtain ⟨k,i5,hm⟩:=aB hm
 refine aU (vs:=[bV a1 u,bV a1 u,i64 0]) Tryz.call73 rfl (aAj hs Z h6 h9 Z h6 h9 i5) ?_
 rintro _ p9 ⟨j,m,n,f9,rfl,o,g0⟩
 refine aC (mO rfl) (aC (bG (t':=3) qF rfl rfl) (aC (cF aBt g0 (i:=1) rfl rfl rfl) (aF (v:=zS m k.length n) (aG (aI (dJ (Kt:=K) (xs:=([]:List Edge)) (cs:=[]) (vs:=[]) bY lD rfl rfl g0 rfl (by kernel_rfl) rfl rfl rfl trivial (fun d0 i6 (i7:aK G j (aV 63 K d0 0 ([]:List Edge)::aV 87 j m n k::box f9 107 [bV a1 u,bV a1 u,i64 0,zS m k.length n]::L) i6)=>(aF (v:=zS d0 ([]:List Edge).length 0) (aG (aI (dJ (Kt:=K) (xs:=([]:List Edge)) (cs:=[]) (vs:=[]) bY lD rfl rfl i7 rfl (by kernel_rfl) rfl rfl rfl trivial (fun d9 i8 (i9:aK G j (aV 63 K d9 0 ([]:List Edge)::aV 63 K d0 0 ([]:List Edge)::aV 87 j m n k::box f9 107 [bV a1 u,bV a1 u,i64 0,zS m k.length n]::L) i8)=>(aF (v:=zS d9 ([]:List Edge).length 0) (aG (aN (aI (aF (v:=i64 0) (aG (bC (fun f w=>∃ (b7:List Edge) (b8:List Edge) (b9:Option Addr) (c0:Nat) (c1:Option Addr) (c2:Nat),nM b7 b8=some R∧f 5=zS b9 b7.length c0∧f 6=zS c1 b8.length c2∧aK G j (aV 63 K c1 c2 b8::aV 63 K b9 c0 b7::L) w) ?_ ?_)))))))))))))))))))
 ·rintro f q0 ⟨b7,b8,b9,c0,c1,c2,hm,j0,j1,j2⟩
  unfold nM at hm
  refine aA (aI (aO j0 (aO j1 (aF (v:=zS b9 b7.length c0) (aF (v:=zS c1 b8.length c2) (aG ?_))))))
  obtain rfl:=zI hm
  exact bF (rS Tryz.results75 rfl rfl ⟨b9,c0,c1,c2,rfl,(aK.weakK (aK.arr 2 [1,0] j2 rfl) o)⟩)
 obtain ⟨q1,j4,hm⟩:=aB hm
 refine cA j4 (fun (s:(List Edge × List Edge × Int)) f w=>match s with|(p,q,a3)=>∃ (y:Option Addr) (z:Nat) (J:Option Addr) (V:Nat),f 0=bV a1 u∧f 4=zS m k.length n∧f 5=zS y p.length z∧f 6=zS J q.length V∧f 7=i64 a3∧aK G j (aV 63 K J V q::aV 63 K y z p::aV 87 j m n k::L) w) ?_ ?_
 ·exact ⟨d0,0,d9,0,rfl,rfl,rfl,rfl,rfl,(aK.arr 4 [0,1,2] i9 rfl)⟩
 ·rintro ⟨p,q,a3⟩ d1 f q2 e j5 ⟨y,z,J,V,e0,j6,g1,g2,e1,c3⟩
  replace e:jP t k p q a3=some d1:=e
  unfold jP at e
  refine aN (aI (aO e1 (aO e0 (aC (cS rfl (Z.mono o)) (aC (cC (k':=u+3) cK rfl (Z.mono o) rfl) (aC (bJ (t:=3) fS c3 (Z.mono o) rfl rfl) (aC (bT (len:=t.E.length) bY rfl) (aC (cJ rfl rfl) (aG ?_)))))))))
  rcases aH e with ⟨e2,e⟩|⟨e2,e⟩
  ·refine aL e2 rfl (aY (aA (aN (bC (fun f w=>∃ (c4:List Edge) (c6:List Edge) (d2:Option Addr) (d3:Nat) (d4:Option Addr) (d5:Nat),nN a3 c4 c6=some d1∧f 0=bV a1 u∧f 4=zS m k.length n∧f 5=zS d2 c4.length d3∧f 6=zS d4 c6.length d5∧f 7=i64 a3∧aK G j (aV 63 K d2 d3 c4::aV 63 K d4 d5 c6::aV 87 j m n k::L) w) ?_ ?_))))
   ·rintro f q3 ⟨c4,c6,d2,d3,d4,d5,e,j7,j8,j9,k0,k1,k3⟩
    unfold nN at e
    exact aA (aP (aO k1 (aC (cM rfl rfl) (aF (v:=i64 (wr (a3+1))) (aG ⟨(c4,c6,wr (a3+1)),(zI e).symm,d2,d3,d4,d5,j7,j8,j9,k0,rfl,(aK.arr 2 [1,0] k3 rfl)⟩)))))
   refine aI (aO e0 (aC (cS rfl (Z.mono o)) (aC (cC (k':=u+3) cK rfl (Z.mono o) rfl) (aC (bJ (t:=3) fS c3 (Z.mono o) rfl rfl) (aO e1 ?_)))))
   obtain ⟨b,g3,e⟩:=aB e
   refine aC (cT bY rfl (h9.mono o) rfl rfl rfl g3) ?_
   obtain ⟨q4,k4,k5⟩:=cL.el (sz:=3) rfl h9 g3
   cases k5
   refine aC (gG (t:=0) (vs:=[i64 b.F,i64 b.B,i64 b.To]) iJ c3 (k4.mono o) rfl rfl rfl) (bW (vs:=[i64 0,i64 0,i64 0]) Tryz.zeroValue63 c3 rfl (fun a0 q5 k6=>(cD (i:=0) (ns:=[i64 b.F,i64 b.B,i64 b.To]) (us:=[i64 b.F,i64 b.B,i64 b.To]) Tryz.sizeOf63 k6 rfl rfl rfl rfl rfl (dK rfl) rfl rfl (fun k7 (k8:aK G j (box a0 63 [i64 b.F,i64 b.B,i64 b.To]::aV 63 K J V q::aV 63 K y z p::aV 87 j m n k::L) k7)=>(aG (aI (aF (v:=zB false) (aG (aN (aI (aF (v:=i64 0) (aG (bC (fun f w=>∃ (e3:Bool),nO p q a3 b e3=some d1∧f 0=bV a1 u∧f 4=zS m k.length n∧f 5=zS y p.length z∧f 6=zS J q.length V∧f 7=i64 a3∧f 8=zP (some ⟨a0,0,none⟩)∧f 9=zB e3∧aK G j (box a0 63 [i64 b.F,i64 b.B,i64 b.To]::aV 63 K J V q::aV 63 K y z p::aV 87 j m n k::L) w) ?_ ?_)))))))))))))
   ·rintro f q6 ⟨e3,e,g4,g5,g6,g7,g8,g9,k9,d6⟩
    unfold nO at e
    refine aA (aI (aO k9 (aG ?_)))
    rcases aH e with ⟨e4,e⟩|⟨e4,e⟩
    ·refine aL e4 rfl (aP (aO g6 (aC (dF (us:=[i64 b.F,i64 b.B,i64 b.To]) iJ d6 (i:=0) rfl g9 rfl rfl) (dJ (Kt:=K) (xs:=([b]:List Edge)) (cs:=[i64 b.F,i64 b.B,i64 b.To]) (vs:=[(0,zA #[i64 b.F,i64 b.B,i64 b.To])]) bY lD rfl rfl d6 rfl (by kernel_rfl) rfl rfl rfl ⟨rfl,trivial⟩ (fun l0 l1 (l2:aK G j (aV 63 K l0 1 ([b]:List Edge)::box a0 63 [i64 b.F,i64 b.B,i64 b.To]::aV 63 K J V q::aV 63 K y z p::aV 87 j m n k::L) l1)=>?_)))))
     obtain ⟨e5,l3,e⟩:=aB e
     exact iA (i:=2) bY Tryz.underlying27 lD rfl rfl l2 rfl o o l3 rfl rfl rfl rfl (fun _ h=>h) (fun e6 e7 l4 (l5:aK G j (box a0 63 [i64 b.F,i64 b.B,i64 b.To]::aV 63 K J V q::aV 63 K e6 e7 e5::aV 87 j m n k::L) l4)=>(aF (v:=zS e6 e5.length e7) (bK (bE (aA ⟨e5,q,e6,e7,J,V,e,g4,g5,rfl,g7,g8,(aK.arr 3 [2,1] l5 rfl)⟩)))))
    ·refine aJ e4 rfl (aP (aO g7 (aC (dF (us:=[i64 b.F,i64 b.B,i64 b.To]) iJ d6 (i:=0) rfl g9 rfl rfl) (dJ (Kt:=K) (xs:=([b]:List Edge)) (cs:=[i64 b.F,i64 b.B,i64 b.To]) (vs:=[(0,zA #[i64 b.F,i64 b.B,i64 b.To])]) bY lD rfl rfl d6 rfl (by kernel_rfl) rfl rfl rfl ⟨rfl,trivial⟩ (fun l6 l7 (l8:aK G j (aV 63 K l6 1 ([b]:List Edge)::box a0 63 [i64 b.F,i64 b.B,i64 b.To]::aV 63 K J V q::aV 63 K y z p::aV 87 j m n k::L) l7)=>?_)))))
     obtain ⟨e8,l9,e⟩:=aB e
     exact iA (i:=1) bY Tryz.underlying27 lD rfl rfl l8 rfl o o l9 rfl rfl rfl rfl (fun _ h=>h) (fun e9 f0 m0 (m1:aK G j (box a0 63 [i64 b.F,i64 b.B,i64 b.To]::aV 63 K e9 f0 e8::aV 63 K y z p::aV 87 j m n k::L) m0)=>(aF (v:=zS e9 e8.length f0) (bK (bE (aA ⟨p,e8,y,z,e9,f0,e,g4,g5,g6,rfl,g8,(aK.arr 3 [2,1] m1 rfl)⟩)))))
   obtain ⟨q7,m2,e⟩:=aB e
   refine cA m2 (fun (s:(Bool × Int)) f w=>match s with|(b3,b0)=>f 0=bV a1 u∧f 4=zS m k.length n∧f 5=zS y p.length z∧f 6=zS J q.length V∧f 7=i64 a3∧f 8=zP (some ⟨a0,0,none⟩)∧f 9=zB b3∧f 10=i64 b0∧aK G j (box a0 63 [i64 b.F,i64 b.B,i64 b.To]::aV 63 K J V q::aV 63 K y z p::aV 87 j m n k::L) w) ?_ ?_
   ·exact ⟨e0,j6,g1,g2,e1,rfl,rfl,rfl,k8⟩
   ·rintro ⟨b3,b0⟩ h0 f q8 c m3 ⟨a8,a9,b4,b5,b6,a6,h1,b1,c7⟩
    replace c:iT t k b b3 b0=some h0:=c
    unfold iT at c
    refine aN (aI (aO b1 (aO a8 (aC (cS rfl (Z.mono o)) (aC (cC (k':=u+3) cK rfl (Z.mono o) rfl) (aC (bJ (t:=3) fS c7 (Z.mono o) rfl rfl) (aC (bT (len:=t.E.length) bY rfl) (aC (cJ rfl rfl) (aG ?_)))))))))
    rcases aH c with ⟨f1,c⟩|⟨f1,c⟩
    ·refine aL f1 rfl (aY (aA (aN (cP (aI (aO a8 (aC (cS rfl (Z.mono o)) (aC (cC (k':=u+3) cK rfl (Z.mono o) rfl) (aC (bJ (t:=3) fS c7 (Z.mono o) rfl rfl) (aO b1 ?_))))))))))
     obtain ⟨x,h2,c⟩:=aB c
     refine aC (cT bY rfl (h9.mono o) rfl rfl rfl h2) ?_
     obtain ⟨q9,m4,m5⟩:=cL.el (sz:=3) rfl h9 h2
     cases m5
     refine aC (gG (t:=0) (vs:=[i64 x.F,i64 x.B,i64 x.To]) iJ c7 (m4.mono o) rfl rfl rfl) (bW (vs:=[i64 0,i64 0,i64 0]) Tryz.zeroValue63 c7 rfl (fun h4 r0 m6=>(cD (i:=0) (ns:=[i64 x.F,i64 x.B,i64 x.To]) (us:=[i64 x.F,i64 x.B,i64 x.To]) Tryz.sizeOf63 m6 rfl rfl rfl rfl rfl (dK rfl) rfl rfl (fun m7 (m8:aK G j (box h4 63 [i64 x.F,i64 x.B,i64 x.To]::box a0 63 [i64 b.F,i64 b.B,i64 b.To]::aV 63 K J V q::aV 63 K y z p::aV 87 j m n k::L) m7)=>(aG (cN (fun f w=>∃ (d7:Bool),iS b0 d7=some h0∧f 0=bV a1 u∧f 4=zS m k.length n∧f 5=zS y p.length z∧f 6=zS J q.length V∧f 7=i64 a3∧f 8=zP (some ⟨a0,0,none⟩)∧f 9=zB d7∧f 10=i64 b0∧aK G j (box a0 63 [i64 b.F,i64 b.B,i64 b.To]::aV 63 K J V q::aV 63 K y z p::aV 87 j m n k::L) w) ?_ ?_))))))
     ·rintro f r1 ⟨d7,c,m9,n0,n1,n2,n3,n4,n5,n6,n7⟩
      unfold iS at c
      exact bE (aA (aP (aO n6 (aC (cM rfl rfl) (aF (v:=i64 (wr (b0+1))) (aG ⟨(d7,wr (b0+1)),(zI c).symm,m9,n0,n1,n2,n3,n4,n5,rfl,n7⟩))))))
     obtain ⟨n8,r2,f2,a,c9⟩:=aK.lendS (i:=4) m8 (zR _) rfl
     refine eK (C:=fun w'=>aK G n8 (box h4 63 [i64 x.F,i64 x.B,i64 x.To]::box a0 63 [i64 b.F,i64 b.B,i64 b.To]::aV 63 K J V q::aV 63 K y z p::L) w') bU (by kernel_rfl) (aK.mono a (dQ.drew _)) (aX (fun _ a=>bD h1) (aX (fun _ a=>bD (v:=zB b3) rfl) ?_))
     rcases aH c with ⟨d,c⟩|⟨d,c⟩
     ·refine aT (g:=53) rfl rfl (bS d) (aT (g:=53) rfl rfl (bS d) (aT (g:=53) rfl rfl (bS d) (aT (g:=53) rfl rfl (bS d) (aT (g:=53) rfl rfl (bS d) (aT (g:=53) rfl rfl (bS d) (bP (g:=59) rfl rfl (bP (g:=59) rfl rfl (bP (g:=59) rfl rfl (bP (g:=59) rfl rfl (bP (g:=59) rfl rfl (aT (g:=53) rfl rfl (bS d) (aT (g:=53) rfl rfl (bS d) (bP (g:=66) rfl rfl (bP (g:=66) rfl rfl (bP (g:=66) rfl rfl (bP (g:=66) rfl rfl (bP (g:=66) rfl rfl (bP (g:=66) rfl rfl (bP (g:=66) rfl rfl (bP (g:=66) rfl rfl (bP (g:=66) rfl rfl (aT (g:=53) rfl rfl (bS d) (aT (g:=53) rfl rfl (bS d) ?_)))))))))))))))))))))))
      refine bP (g:=77) rfl rfl (bP (g:=77) rfl rfl (bP (g:=77) rfl rfl (bP (g:=77) rfl rfl (bP (g:=77) rfl rfl (bP (g:=77) rfl rfl (bP (g:=77) rfl rfl (bP (g:=77) rfl rfl (bP (g:=77) rfl rfl (bP (g:=77) rfl rfl (aT (g:=53) rfl rfl (bS d) (aX (fun _ a=>bI (v:=zB true) d rfl rfl) (aX (fun _ a=>gF (v:=zB true) rfl) (eG (fun r3 n9=>?_))))))))))))))
      have o0:=c9 _ _ n9
      exact aA ⟨true,c,a8,a9,b4,b5,b6,a6,rfl,b1,(aK.arr 5 [2,3,4,0] o0 rfl)⟩
     ·refine bM (g:=53) rfl rfl (bR d) (aX (fun _ a=>bG (t':=0) fJ rfl rfl) (bM (g:=53) rfl rfl (bR d) (aX (fun _ a=>cF cE a (i:=0) rfl rfl rfl) (bM (g:=53) rfl rfl (bR d) (aX (fun _ a=>bG (t':=0) fJ a6 rfl) (bM (g:=53) rfl rfl (bR d) (aX (fun _ a=>cF cE a (i:=1) rfl rfl rfl) (bM (g:=53) rfl rfl (bR d) (aX (fun _ a=>lC rfl rfl) (bM (g:=53) rfl rfl (bR d) (aX (fun _ a=>bD (v:=zB (x.F == b.F)) rfl) ?_)))))))))))
      rcases aH c with ⟨a2,c⟩|⟨a2,c⟩
      ·refine bM (g:=59) rfl rfl a2 (aX (fun _ a=>bG (t':=1) gB rfl rfl) (bM (g:=59) rfl rfl a2 (aX (fun _ a=>cF cE a (i:=0) rfl rfl rfl) (bM (g:=59) rfl rfl a2 (aX (fun _ a=>bG (t':=1) gB a6 rfl) (bM (g:=59) rfl rfl a2 (aX (fun _ a=>cF cE a (i:=1) rfl rfl rfl) (bM (g:=59) rfl rfl a2 (aX (fun _ a=>lC rfl rfl) (bM (g:=53) rfl rfl (bR d) (aX (fun _ a=>bI (v:=zB (x.B == b.B)) a2 rfl rfl) (bM (g:=53) rfl rfl (bR d) (aX (fun _ a=>bD (v:=zB (x.B == b.B)) rfl) ?_)))))))))))))
       rcases aH c with ⟨r,c⟩|⟨r,c⟩
       ·refine bM (g:=66) rfl rfl r (aX (fun _ a=>bD a9) (bM (g:=66) rfl rfl r (aX (fun _ a=>bG (t':=2) eM a6 rfl) (bM (g:=66) rfl rfl r (aX (fun _ a=>cF cE a (i:=1) rfl rfl rfl) (bM (g:=66) rfl rfl r ?_))))))
        obtain ⟨r4,f3,c⟩:=aB c
        have h5:=aFm f2 f3
        refine aX (fun _ a=>eB uK rfl h5 rfl rfl rfl f3) (bM (g:=66) rfl rfl r ?_)
        obtain ⟨r5,o1,o2⟩:=cL.el (sz:=1) rfl f2 f3
        obtain ⟨r6,r7,rfl,h7⟩:=o2
        refine aX (fun _ a=>bJ (t:=0) aEM a o1 rfl rfl) (bM (g:=66) rfl rfl r (aX (fun _ a=>bG (t':=2) eM rfl rfl) (bM (g:=66) rfl rfl r (aX (fun _ a=>cF cE a (i:=0) rfl rfl rfl) (bM (g:=66) rfl rfl r ?_)))))
        obtain ⟨h8,i0,c⟩:=aB c
        refine aX (fun _ a=>cT jN rfl h7 rfl rfl rfl i0) ?_
        obtain ⟨r8,o3,o4⟩:=cL.el (sz:=1) rfl h7 i0
        cases o4
        refine bM (g:=66) rfl rfl r (aX (fun _ a=>bJ (t:=0) aCD a o3 rfl rfl) (bM (g:=53) rfl rfl (bR d) (aX (fun _ a=>bI (v:=zB h8) r rfl rfl) (bM (g:=53) rfl rfl (bR d) (aX (fun _ a=>bD (v:=zB h8) rfl) ?_)))))
        rcases aH c with ⟨l,c⟩|⟨l,c⟩
        ·refine bM (g:=77) rfl rfl l (aX (fun _ a=>bD a9) (bM (g:=77) rfl rfl l (aX (fun _ a=>bG (t':=2) eM rfl rfl) (bM (g:=77) rfl rfl l (aX (fun _ a=>cF cE a (i:=0) rfl rfl rfl) (bM (g:=77) rfl rfl l ?_))))))
         obtain ⟨r9,i1,c⟩:=aB c
         refine aX (fun _ a=>eB uK rfl h5 rfl rfl rfl i1) (bM (g:=77) rfl rfl l ?_)
         obtain ⟨s0,o5,o6⟩:=cL.el (sz:=1) rfl f2 i1
         obtain ⟨s1,s2,rfl,i2⟩:=o6
         refine aX (fun _ a=>bJ (t:=0) aEM a o5 rfl rfl) (bM (g:=77) rfl rfl l (aX (fun _ a=>bG (t':=2) eM a6 rfl) (bM (g:=77) rfl rfl l (aX (fun _ a=>cF cE a (i:=1) rfl rfl rfl) (bM (g:=77) rfl rfl l ?_)))))
         obtain ⟨d8,i3,c⟩:=aB c
         refine aX (fun _ a=>cT jN rfl i2 rfl rfl rfl i3) ?_
         obtain ⟨s3,o7,o8⟩:=cL.el (sz:=1) rfl i2 i3
         cases o8
         refine bM (g:=77) rfl rfl l (aX (fun _ a=>bJ (t:=0) aCD a o7 rfl rfl) (bM (g:=77) rfl rfl l (aX (fun _ a=>fH rfl) (bM (g:=53) rfl rfl (bR d) (aX (fun _ a=>bI (v:=zB (!d8)) l rfl rfl) (aX (fun _ a=>bL (v:=zB (!d8)) d rfl rfl) (aX (fun _ a=>gF (v:=zB (!d8)) rfl) (eG (fun s4 o9=>?_)))))))))
         have p0:=c9 _ _ o9
         exact aA ⟨!d8,c,a8,a9,b4,b5,b6,a6,rfl,b1,(aK.arr 5 [2,3,4,0] p0 rfl)⟩
        ·refine aT (g:=77) rfl rfl (cB l) (aT (g:=77) rfl rfl (cB l) (aT (g:=77) rfl rfl (cB l) (aT (g:=77) rfl rfl (cB l) (aT (g:=77) rfl rfl (cB l) (aT (g:=77) rfl rfl (cB l) (aT (g:=77) rfl rfl (cB l) (aT (g:=77) rfl rfl (cB l) (aT (g:=77) rfl rfl (cB l) (aT (g:=77) rfl rfl (cB l) (bM (g:=53) rfl rfl (bR d) (aX (fun _ a=>bL (v:=zB false) l rfl rfl) (aX (fun _ a=>bL (v:=zB false) d rfl rfl) (aX (fun _ a=>gF (v:=zB false) rfl) (eG (fun s5 p1=>?_)))))))))))))))
         have p2:=c9 _ _ p1
         exact aA ⟨false,c,a8,a9,b4,b5,b6,a6,rfl,b1,(aK.arr 5 [2,3,4,0] p2 rfl)⟩
       ·refine aT (g:=66) rfl rfl (cB r) (aT (g:=66) rfl rfl (cB r) (aT (g:=66) rfl rfl (cB r) (aT (g:=66) rfl rfl (cB r) (aT (g:=66) rfl rfl (cB r) (aT (g:=66) rfl rfl (cB r) (aT (g:=66) rfl rfl (cB r) (aT (g:=66) rfl rfl (cB r) (aT (g:=66) rfl rfl (cB r) (bM (g:=53) rfl rfl (bR d) (aX (fun _ a=>bL (v:=zB false) r rfl rfl) (bM (g:=53) rfl rfl (bR d) (aX (fun _ a=>bD (v:=zB false) rfl) (aT (g:=77) rfl rfl (cB (by decide:¬ false=true)) (aT (g:=77) rfl rfl (cB (by decide:¬ false=true)) (aT (g:=77) rfl rfl (cB (by decide:¬ false=true)) (aT (g:=77) rfl rfl (cB (by decide:¬ false=true)) (aT (g:=77) rfl rfl (cB (by decide:¬ false=true)) (aT (g:=77) rfl rfl (cB (by decide:¬ false=true)) (aT (g:=77) rfl rfl (cB (by decide:¬ false=true)) (aT (g:=77) rfl rfl (cB (by decide:¬ false=true)) (aT (g:=77) rfl rfl (cB (by decide:¬ false=true)) (aT (g:=77) rfl rfl (cB (by decide:¬ false=true)) (bM (g:=53) rfl rfl (bR d) ?_)))))))))))))))))))))))
        refine aX (fun _ a=>bL (v:=zB false) (by decide:¬ false=true) rfl rfl) (aX (fun _ a=>bL (v:=zB false) d rfl rfl) (aX (fun _ a=>gF (v:=zB false) rfl) (eG (fun s6 p3=>?_))))
        have p4:=c9 _ _ p3
        exact aA ⟨false,c,a8,a9,b4,b5,b6,a6,rfl,b1,(aK.arr 5 [2,3,4,0] p4 rfl)⟩
      ·refine aT (g:=59) rfl rfl (cB a2) (aT (g:=59) rfl rfl (cB a2) (aT (g:=59) rfl rfl (cB a2) (aT (g:=59) rfl rfl (cB a2) (aT (g:=59) rfl rfl (cB a2) (bM (g:=53) rfl rfl (bR d) (aX (fun _ a=>bL (v:=zB false) a2 rfl rfl) (bM (g:=53) rfl rfl (bR d) (aX (fun _ a=>bD (v:=zB false) rfl) (aT (g:=66) rfl rfl (cB (by decide:¬ false=true)) (aT (g:=66) rfl rfl (cB (by decide:¬ false=true)) (aT (g:=66) rfl rfl (cB (by decide:¬ false=true)) (aT (g:=66) rfl rfl (cB (by decide:¬ false=true)) (aT (g:=66) rfl rfl (cB (by decide:¬ false=true)) (aT (g:=66) rfl rfl (cB (by decide:¬ false=true)) (aT (g:=66) rfl rfl (cB (by decide:¬ false=true)) (aT (g:=66) rfl rfl (cB (by decide:¬ false=true)) (aT (g:=66) rfl rfl (cB (by decide:¬ false=true)) (bM (g:=53) rfl rfl (bR d) (aX (fun _ a=>bL (v:=zB false) (by decide:¬ false=true) rfl rfl) (bM (g:=53) rfl rfl (bR d) (aX (fun _ a=>bD (v:=zB false) rfl) (aT (g:=77) rfl rfl (cB (by decide:¬ false=true)) (aT (g:=77) rfl rfl (cB (by decide:¬ false=true)) ?_)))))))))))))))))))))))
       refine aT (g:=77) rfl rfl (cB (by decide:¬ false=true)) (aT (g:=77) rfl rfl (cB (by decide:¬ false=true)) (aT (g:=77) rfl rfl (cB (by decide:¬ false=true)) (aT (g:=77) rfl rfl (cB (by decide:¬ false=true)) (aT (g:=77) rfl rfl (cB (by decide:¬ false=true)) (aT (g:=77) rfl rfl (cB (by decide:¬ false=true)) (aT (g:=77) rfl rfl (cB (by decide:¬ false=true)) (aT (g:=77) rfl rfl (cB (by decide:¬ false=true)) (bM (g:=53) rfl rfl (bR d) (aX (fun _ a=>bL (v:=zB false) (by decide:¬ false=true) rfl rfl) (aX (fun _ a=>bL (v:=zB false) d rfl rfl) (aX (fun _ a=>gF (v:=zB false) rfl) (eG (fun s7 p5=>?_)))))))))))))
       have p6:=c9 _ _ p5
       exact aA ⟨false,c,a8,a9,b4,b5,b6,a6,rfl,b1,(aK.arr 5 [2,3,4,0] p6 rfl)⟩
    ·refine aJ f1 rfl (bZ (aW (aW ?_)))
     have p7:=m3 _ (zI c).symm
     subst p7
     have e:(nO p q a3 b b3)=some d1:=e
     exact bO (aA ⟨b3,e,a8,a9,b4,b5,b6,a6,h1,c7⟩)
  ·refine aJ e2 rfl (bZ (aW (aW ?_)))
   have p8:=j5 _ (zI e).symm
   subst p8
   have hm:(nM p q)=some R:=hm
   exact bO (aA ⟨p,q,y,z,J,V,hm,g1,g2,(aK.arr 3 [0,1] c3 rfl)⟩)
theorem aFh {t:cH} {h:Nat} {R:cH} (hs:aK G K (L) w) (r:fV K a1 h (zC t a4 c5 a7 c8)) (u:cL K a4 c5 t.L) (x:cL K a7 c8 t.E) (j:aAg t=some R):
  Calls Tryz.prog 28 ([bV a1 h]:List Value).toArray w (gO fun v w'=>∃ (y:Option Addr) (z:Nat) (J:Option Addr) (V:Nat),v=zA (zCa R y z J V)∧aK G K (aV 9 K y z R.L::aV 63 K J V R.E::L) w'):=by
 let m:=zG
 refine aS Tryz.func28 rfl (by kernel_rfl) (by show (1:Nat)≤16;decide) ?_
 unfold aAg at j
 refine aI (bW (vs:=m) Tryz.zeroValue29 hs rfl (fun p b6 a3=>(aG (aI (aM (v:=bV a1 h) ?_)))))
 obtain ⟨a,a5,j⟩:=aB j
 refine aU (vs:=[bV a1 h]) Tryz.call74 rfl (aGN a3 r u x a5) ?_
 rintro _ b7 ⟨c,d,k,l,rfl,a6⟩
 refine bW (vs:=m) Tryz.zeroValue29 a6 rfl (fun q b8 a8=>(cD (i:=0) (ns:=(zC a c d k l)) (us:=(zC a c d k l)) Tryz.sizeOf29 a8 rfl rfl rfl rfl rfl (dK rfl) rfl rfl (fun a9 (b0:aK G K (box q 29 (zC a c d k l)::aV 9 K c d a.L::aV 63 K k l a.E::box p 29 m::L) a9)=>(aG (aI (aM (v:=bV a1 h) ?_))))))
 obtain ⟨b,b1,j⟩:=aB j
 refine aU (vs:=[bV a1 h]) Tryz.call75 rfl (aDe b0 r u x b1) ?_
 rintro _ b9 ⟨n,o,e,g,rfl,b2⟩
 refine aM (v:=Value.tuple #[zS n b.1.length o,zS e b.2.length g]) (aC (dE rfl rfl) (aC (dE rfl rfl) (aF (v:=zS n b.1.length o) (aF (v:=zS e b.2.length g) (aG (aI (aM (v:=zS e b.2.length g) (aC (bG (t':=3) cK rfl rfl) (cD (i:=2) (ns:=[zS e b.2.length g]) (us:=[i64 a.N,i64 a.I,zS c a.L.length d,zS e b.2.length g]) Tryz.sizeOf27 b2 rfl rfl rfl rfl rfl (dK rfl) rfl rfl (fun b3 (Z:aK G K (aV 63 K n o b.1::aV 63 K e g b.2::box q 29 [i64 a.N,i64 a.I,zS c a.L.length d,zS e b.2.length g]::aV 9 K c d a.L::aV 63 K k l a.E::box p 29 m::L) b3)=>(aG (aI (aC (dF (us:=[i64 a.N,i64 a.I,zS c a.L.length d,zS e b.2.length g]) eC Z (i:=2) rfl rfl rfl rfl) (cD (i:=5) (ns:=[i64 a.N,i64 a.I,zS c a.L.length d,zS e b.2.length g]) (us:=[i64 a.N,i64 a.I,zS c a.L.length d,zS e b.2.length g]) Tryz.sizeOf29 Z rfl rfl rfl rfl rfl (dK rfl) rfl rfl (fun b4 (a0:aK G K (aV 63 K n o b.1::aV 63 K e g b.2::box q 29 [i64 a.N,i64 a.I,zS c a.L.length d,zS e b.2.length g]::aV 9 K c d a.L::aV 63 K k l a.E::box p 29 [i64 a.N,i64 a.I,zS c a.L.length d,zS e b.2.length g]::L) b4)=>(aG ?_))))))))))))))))
 obtain rfl:=zI j
 exact bF (sX Tryz.results28 (kQ (vs:=[i64 a.N,i64 a.I,zS c a.L.length d,zS e b.2.length g]) rfl eC a0 (i:=5) rfl rfl rfl) ⟨c,d,e,g,rfl,(aK.arr 6 [3,1] a0 rfl)⟩)
theorem aAQ {t:cH} {R:(cH × Int)} (hs:aK G K (L) w) (h3:cL K a1 c2 t.L) (h6:cL K a4 c5 t.E) (c:kS t=some R):
  Calls Tryz.prog 7 ([zA (zCa t a1 c2 a4 c5)]:List Value).toArray w (gO fun v w'=>∃ (c4:Option Addr) (c6:Nat) (c7:Option Addr) (c8:Nat),v=Value.tuple #[zA (zCa R.1 c4 c6 c7 c8),i64 R.2]∧aK G K (aV 9 K c4 c6 R.1.L::aV 63 K c7 c8 R.1.E::L) w'):=by
 let g:=zG
 let r:=(zC t a1 c2 a4 c5)
 refine aS Tryz.func7 rfl (by kernel_rfl) (by show (1:Nat)≤17;decide) ?_
 unfold kS at c
 refine aI (eE (v:=zA (zCa t a1 c2 a4 c5)) (vs:=r) hs rfl rfl (fun m w8 e5=>(bW (vs:=g) Tryz.zeroValue29 e5 rfl (fun a3 r0 e6=>(aF (v:=i64 0) (aG (aN (aI ?_))))))))
 obtain ⟨r1,c9,e7,e8,e9⟩:=aK.lendB (i:=1) e6 rfl
 obtain ⟨r2,f0,c⟩:=aB c
 refine aU (vs:=[bV (some ⟨m,0,none⟩) 0]) Tryz.call23 rfl (aHR e8 e7 (h3.mono c9) (h6.mono c9) f0) ?_
 rintro _ r3 ⟨rfl,f1⟩
 have d0:=e9 _ _ f1
 refine aC (fH rfl) (aG ?_)
 rcases aH c with ⟨b5,c⟩|⟨b5,c⟩
 ·refine aL b5 rfl (aI (aC (kA (vs:=[]) (cs:=g) aAX rfl (by kernel_rfl)) (cD (i:=1) (ns:=g) (us:=g) Tryz.sizeOf29 d0 rfl rfl rfl rfl rfl (dK rfl) rfl rfl (fun f2 (f3:aK G K (box m 29 r::box a3 29 g::L) f2)=>(aF (v:=i64 1) (aG ?_))))))
  have f4:=aK.nil (α:=bH) f3 9 K
  have d1:=aK.nil (α:=Edge) f4 63 K
  obtain rfl:=zI c
  exact bF (aR (aFl Tryz.results7 (kQ (vs:=g) rfl eC d1 (i:=3) rfl rfl rfl) (aHL rfl rfl) ⟨none,0,none,0,rfl,(aK.arr 4 [1,0] d1 rfl)⟩))
 ·refine aJ b5 rfl (aY (aA (aI ?_)))
  obtain ⟨r4,d2,f6,f7,f8⟩:=aK.lendB (i:=0) d0 rfl
  obtain ⟨a5,f9,c⟩:=aB c
  refine aU (vs:=[bV (some ⟨m,0,none⟩) 0]) Tryz.call25 rfl (aBL f7 f6 (h3.mono d2) (h6.mono d2) f9) ?_
  rintro _ r5 ⟨a6,a7,rfl,g0⟩
  have g1:=f8 _ _ g0
  obtain ⟨r6,b6,g2,g3,g4⟩:=aK.lendB (i:=0) g1 rfl
  obtain ⟨r7,b8,g5,g6,g7⟩:=aK.lendS (i:=0) g3 b6 rfl
  obtain ⟨a,g8,c⟩:=aB c
  refine aU (vs:=[bV (some ⟨m,0,none⟩) 0,zS a6 a5.length a7]) Tryz.call24 rfl (aCm g6 (g2.mono b8) (h3.mono (zL b6 b8)) (h6.mono (zL b6 b8)) g5 g8) ?_
  rintro _ r8 ⟨h,j,k,l,rfl,g9⟩
  have h0:=g7 _ _ g9
  have h1:=g4 _ _ h0
  refine bW (vs:=g) Tryz.zeroValue29 h1 rfl (fun u r9 h2=>(cD (i:=0) (ns:=(zC a h j k l)) (us:=(zC a h j k l)) Tryz.sizeOf29 h2 rfl rfl rfl rfl rfl (dK rfl) rfl rfl (fun h4 (h5:aK G K (box u 29 (zC a h j k l)::box m 29 r::aV 2 K a6 a7 a5::aV 9 K h j a.L::aV 63 K k l a.E::box a3 29 g::L) h4)=>(aG (aI ?_)))))
  obtain ⟨s0,h7,h8,h9,i0⟩:=aK.lendS (i:=3) h5 (zR _) rfl
  obtain ⟨s1,i1,i2,i3,i4⟩:=aK.lendS (i:=3) h9 h7 rfl
  obtain ⟨s2,d3,i5,i6,i7⟩:=aK.lendB (i:=0) i3 rfl
  obtain ⟨a8,i8,c⟩:=aB c
  refine aU (vs:=[bV (some ⟨u,0,none⟩) 0]) Tryz.call27 rfl (aDI i6 i5 (h8.mono (zL i1 d3)) (i2.mono d3) i8) ?_
  rintro _ s3 ⟨a9,b0,rfl,i9⟩
  have j0:=i7 _ _ i9
  have j1:=i4 _ _ j0
  have j2:=i0 _ _ j1
  obtain ⟨s4,d4,j3,j4,j5⟩:=aK.lendS (i:=0) j2 (zR _) rfl
  obtain ⟨s5,d5,j6,j7,j8⟩:=aK.lendS (i:=0) j4 d4 rfl
  obtain ⟨s6,b9,j9,k0,k1⟩:=aK.lendB (i:=0) j7 rfl
  obtain ⟨s7,c0,k2,k3,k4⟩:=aK.lendS (i:=0) k0 (zL (zL d4 d5) b9) rfl
  obtain ⟨b,k5,c⟩:=aB c
  refine aU (vs:=[bV (some ⟨u,0,none⟩) 0,zS a9 a8.length b0]) Tryz.call26 rfl (aDd k3 (j9.mono c0) (j3.mono (zL (zL d5 b9) c0)) (j6.mono (zL b9 c0)) k2 k5) ?_
  rintro _ s8 ⟨n,o,p,q,rfl,k6⟩
  have k7:=k4 _ _ k6
  have k8:=k1 _ _ k7
  have k9:=j8 _ _ k8
  have l0:=j5 _ _ k9
  refine bW (vs:=g) Tryz.zeroValue29 l0 rfl (fun b1 s9 l1=>(cD (i:=0) (ns:=(zC b n o p q)) (us:=(zC b n o p q)) Tryz.sizeOf29 l1 rfl rfl rfl rfl rfl (dK rfl) rfl rfl (fun l2 (l3:aK G K (box b1 29 (zC b n o p q)::aV 9 K h j a.L::aV 63 K k l a.E::box u 29 (zC a h j k l)::aV 2 K a9 b0 a8::aV 9 K n o b.L::aV 63 K p q b.E::box m 29 r::aV 2 K a6 a7 a5::box a3 29 g::L) l2)=>(aG (aI ?_)))))
  obtain ⟨t0,l4,l5,l6,l7⟩:=aK.lendS (i:=5) l3 (zR _) rfl
  obtain ⟨t1,l8,l9,m0,m1⟩:=aK.lendS (i:=5) l6 l4 rfl
  obtain ⟨t2,d6,m2,m3,m4⟩:=aK.lendB (i:=0) m0 rfl
  obtain ⟨d,m5,c⟩:=aB c
  refine aU (vs:=[bV (some ⟨b1,0,none⟩) 0]) Tryz.call28 rfl (aFh m3 m2 (l5.mono (zL l8 d6)) (l9.mono d6) m5) ?_
  rintro _ t3 ⟨x,y,z,J,rfl,m6⟩
  have m7:=m4 _ _ m6
  have m8:=m1 _ _ m7
  have m9:=l7 _ _ m8
  refine bW (vs:=g) Tryz.zeroValue29 m9 rfl (fun b2 t4 n0=>(cD (i:=0) (ns:=(zC d x y z J)) (us:=(zC d x y z J)) Tryz.sizeOf29 n0 rfl rfl rfl rfl rfl (dK rfl) rfl rfl (fun n1 (n2:aK G K (box b2 29 (zC d x y z J)::aV 9 K n o b.L::aV 63 K p q b.E::box b1 29 (zC b n o p q)::aV 9 K x y d.L::aV 63 K z J d.E::aV 9 K h j a.L::aV 63 K k l a.E::box u 29 (zC a h j k l)::aV 2 K a9 b0 a8::box m 29 r::aV 2 K a6 a7 a5::box a3 29 g::L) n1)=>(aG (aI ?_)))))
  obtain ⟨t5,n3,n4,n5,n6⟩:=aK.lendS (i:=4) n2 (zR _) rfl
  obtain ⟨t6,n7,n8,n9,o0⟩:=aK.lendS (i:=4) n5 n3 rfl
  obtain ⟨t7,d7,o1,o2,o3⟩:=aK.lendB (i:=0) n9 rfl
  obtain ⟨d8,o4,c⟩:=aB c
  refine aU (vs:=[bV (some ⟨b2,0,none⟩) 0]) Tryz.call25 rfl (aBL o2 o1 (n4.mono (zL n7 d7)) (n8.mono d7) o4) ?_
  rintro _ t8 ⟨d9,e0,rfl,o5⟩
  have o6:=o3 _ _ o5
  have o7:=o0 _ _ o6
  have o8:=n6 _ _ o7
  obtain ⟨t9,e1,o9,p0,p1⟩:=aK.lendS (i:=0) o8 (zR _) rfl
  obtain ⟨u0,e2,p2,p3,p4⟩:=aK.lendS (i:=0) p0 e1 rfl
  obtain ⟨u1,c1,p5,p6,p7⟩:=aK.lendB (i:=0) p3 rfl
  obtain ⟨u2,c3,p8,p9,q0⟩:=aK.lendS (i:=0) p6 (zL (zL e1 e2) c1) rfl
  obtain ⟨e,q1,c⟩:=aB c
  refine aU (vs:=[bV (some ⟨b2,0,none⟩) 0,zS d9 d8.length e0]) Tryz.call24 rfl (aCm p9 (p5.mono c3) (o9.mono (zL (zL e2 c1) c3)) (p2.mono (zL c1 c3)) p8 q1) ?_
  rintro _ u3 ⟨V,Z,a0,a2,rfl,q2⟩
  have q3:=q0 _ _ q2
  have q4:=p7 _ _ q3
  have q5:=p4 _ _ q4
  have q6:=p1 _ _ q5
  refine cD (i:=15) (ns:=(zC e V Z a0 a2)) (us:=(zC e V Z a0 a2)) Tryz.sizeOf29 q6 rfl rfl rfl rfl rfl (dK rfl) rfl rfl (fun q7 (e3:aK G K (aV 9 K x y d.L::aV 63 K z J d.E::box b2 29 (zC d x y z J)::aV 2 K d9 e0 d8::aV 9 K V Z e.L::aV 63 K a0 a2 e.E::aV 9 K n o b.L::aV 63 K p q b.E::box b1 29 (zC b n o p q)::aV 9 K h j a.L::aV 63 K k l a.E::box u 29 (zC a h j k l)::aV 2 K a9 b0 a8::box m 29 r::aV 2 K a6 a7 a5::box a3 29 (zC e V Z a0 a2)::L) q7)=>(aF (v:=i64 0) (aG ?_)))
  obtain rfl:=zI c
  exact bF (aFl Tryz.results7 (kQ (vs:=(zC e V Z a0 a2)) rfl eC e3 (i:=15) rfl rfl rfl) (aHL rfl rfl) ⟨V,Z,a0,a2,rfl,(aK.arr 16 [4,5] e3 rfl)⟩)
theorem aEt {a R:(List bH)} (hs:aK G K (L) w) (x:cL K a1 c2 a) (d:xJ a=some R):
  Calls Tryz.prog 29 ([zS a1 a.length c2]:List Value).toArray w (gO fun v w'=>∃ (y:Option Addr) (z:Nat),v=zS y R.length z∧aK G K (aV 9 K y z R::L) w'):=by
 refine aS Tryz.func29 rfl (by kernel_rfl) (by show (1:Nat)≤22;decide) ?_
 unfold xJ at d
 refine aI (aF (v:=zS none 0 0) (aG (aI (aM (v:=zS a1 a.length c2) (aC (bT (len:=a.length) cO rfl) ?_)))))
 obtain ⟨c,q5,d⟩:=aB d
 refine aDv (e:=([]:bH)) cO aAo rfl rfl hs rfl rfl rfl q5 rfl (fun g w7 (a5:aK G K (aV 9 K g c.length c::L) w7)=>(aF (v:=zS g c.length c.length) (aG (aN (aI (aF (v:=i64 0) (aG (bC (fun f w=>∃ (k:List bH),uZ k=some R∧f 3=zS g k.length c.length∧aK G K (aV 9 K g c.length k::L) w) ?_ ?_))))))))
 ·rintro f b9 ⟨k,d,a7,a8⟩
  unfold uZ at d
  refine aA (aI (aO a7 (aF (v:=zS g k.length c.length) (aG ?_))))
  obtain rfl:=zI d
  exact bF (bB Tryz.results29 rfl ⟨g,c.length,rfl,a8⟩)
 obtain ⟨c0,b0,d⟩:=aB d
 refine cA b0 (fun (s:(List bH × Int)) f w=>match s with|(j,l)=>f 0=zS a1 a.length c2∧f 3=zS g j.length c.length∧f 4=i64 l∧aK G K (aV 9 K g c.length j::L) w) ?_ ?_
 ·exact ⟨rfl,rfl,rfl,a5⟩
 ·rintro ⟨j,l⟩ b1 f c1 b b2 ⟨p,q,m,o⟩
  replace b:qN a j l=some b1:=b
  unfold qN at b
  refine aN (aI (aO m (aO p (aC (bT (len:=a.length) cO rfl) (aC (cJ rfl rfl) (aG ?_))))))
  rcases aH b with ⟨r,b⟩|⟨r,b⟩
  ·refine aL r rfl (aY (aA (aN (cP (aP (aO q (aO m (aO p (aO m ?_)))))))))
   obtain ⟨J,V,b⟩:=aB b
   refine aC (cT cO rfl x rfl rfl rfl V) ?_
   obtain ⟨c3,b3,b4⟩:=cL.el (sz:=1) rfl x V
   cases b4
   refine aC (bJ (t:=0) pU o b3 rfl rfl) ?_
   obtain ⟨c4,u,b⟩:=aB b
   have b5:=dM o (i:=0) rfl u
   refine aC (eB cO rfl b5 rfl rfl rfl u) ?_
   obtain ⟨Z,a0,b⟩:=aB b
   exact jW (i:=0) (t:=0) (ns:=[str J]) (e':=(J:bH)) Tryz.sizeOf9 o rfl (zR _) rfl rfl rfl u a0 rfl rfl (dK rfl) rfl (fun cs h=>by cases h;rfl) (fun b6 (b7:aK G K (aV 9 K g c.length Z::L) b6)=>(bK (bE (aA (aP (aO m (aC (cM rfl rfl) (aF (v:=i64 (wr (l+1))) (aG ⟨(Z,wr (l+1)),(zI b).symm,p,(Eq.trans q (congrArg (fun n=>zS g n c.length) (iE a0))),rfl,b7⟩)))))))))
  ·refine aJ r rfl (bZ (aW (aW ?_)))
   have b8:=b2 _ (zI b).symm
   subst b8
   have d:(uZ j)=some R:=d
   exact bO (aA ⟨j,d,q,o⟩)
theorem aGO {a R:Edge} (n:aK G K (L) w) (g:aDF a=some R):
  Calls Tryz.prog 76 ([zA #[i64 a.F,i64 a.B,i64 a.To]]:List Value).toArray w (gO fun v w'=>v=zA #[i64 R.F,i64 R.B,i64 R.To]∧aK G K (L) w'):=by
 let b:=[i64 a.F,i64 a.B,i64 a.To]
 refine aS Tryz.func76 rfl (by kernel_rfl) (by show (1:Nat)≤14;decide) ?_
 unfold aDF at g
 refine aI (eE (v:=zA #[i64 a.F,i64 a.B,i64 a.To]) (vs:=b) n rfl rfl (fun c y o=>(bW (vs:=[i64 0,i64 0,i64 0]) Tryz.zeroValue63 o rfl (fun d z p=>(aG (aI (bW (vs:=[i64 0,i64 0,i64 0]) Tryz.zeroValue63 p rfl (fun e J h=>(aG (aI (aC (bG (t':=0) fa_113_0 rfl rfl) (aC (cF cE h (i:=2) rfl rfl rfl) (aC (bG (t':=0) fJ rfl rfl) (cD (i:=0) (ns:=[i64 a.F]) (us:=[i64 a.F,i64 0,i64 0]) Tryz.sizeOf2 h rfl rfl rfl rfl rfl (dK rfl) rfl rfl (fun q (j:aK G K (box e 63 [i64 a.F,i64 0,i64 0]::box d 63 [i64 0,i64 0,i64 0]::box c 113 b::L) q)=>(aG (aI (aC (bG (t':=1) fa_113_1 rfl rfl) (aC (cF cE j (i:=2) rfl rfl rfl) (aC (bG (t':=1) gB rfl rfl) (cD (i:=0) (ns:=[i64 a.B]) (us:=[i64 a.F,i64 a.B,i64 0]) Tryz.sizeOf2 j rfl rfl rfl rfl rfl (dK rfl) rfl rfl (fun r (k:aK G K (box e 63 [i64 a.F,i64 a.B,i64 0]::box d 63 [i64 0,i64 0,i64 0]::box c 113 b::L) r)=>(aG ?_)))))))))))))))))))))))
 refine aI (aC (bG (t':=2) fa_113_2 rfl rfl) (aC (cF cE k (i:=2) rfl rfl rfl) (aC (bG (t':=2) eM rfl rfl) (cD (i:=0) (ns:=[i64 a.To]) (us:=b) Tryz.sizeOf2 k rfl rfl rfl rfl rfl (dK rfl) rfl rfl (fun t (l:aK G K (box e 63 b::box d 63 [i64 0,i64 0,i64 0]::box c 113 b::L) t)=>(aG (aI (aC (dF (us:=b) iJ l (i:=0) rfl rfl rfl rfl) (cD (i:=1) (ns:=b) (us:=b) Tryz.sizeOf63 l rfl rfl rfl rfl rfl (dK rfl) rfl rfl (fun u (m:aK G K (box e 63 b::box d 63 b::box c 113 b::L) u)=>(aG ?_)))))))))))
 obtain rfl:=zI g
 exact bF (sX Tryz.results76 (kQ (vs:=b) rfl iJ m (i:=1) rfl rfl rfl) ⟨rfl,(aK.arr 3 [] m rfl)⟩)
theorem aFV {a R:(List Edge)} (hs:aK G K (L) w) (z:cL K a1 c2 a) (d:aBe a=some R):
  Calls Tryz.prog 30 ([zS a1 a.length c2]:List Value).toArray w (gO fun v w'=>∃ (J:Option Addr) (V:Nat),v=zS J R.length V∧aK G K (aV 63 K J V R::L) w'):=by
 refine aS Tryz.func30 rfl (by kernel_rfl) (by show (1:Nat)≤23;decide) ?_
 unfold aBe at d
 refine aI (aF (v:=zS none 0 0) (aG (aI (aM (v:=zS a1 a.length c2) (aC (bT (len:=a.length) sl_23 rfl) ?_)))))
 obtain ⟨c,q5,d⟩:=aB d
 refine aDv (e:=(⟨0,0,0⟩:Edge)) bY lD rfl rfl hs rfl rfl rfl q5 rfl (fun g w7 (a8:aK G K (aV 63 K g c.length c::L) w7)=>(aF (v:=zS g c.length c.length) (aG (aN (aI (aF (v:=i64 0) (aG (bC (fun f w=>∃ (m:List Edge),yP m=some R∧f 3=zS g m.length c.length∧aK G K (aV 63 K g c.length m::L) w) ?_ ?_))))))))
 ·rintro f c3 ⟨m,d,a9,b0⟩
  unfold yP at d
  refine aA (aI (aO a9 (aF (v:=zS g m.length c.length) (aG ?_))))
  obtain rfl:=zI d
  exact bF (bB Tryz.results30 rfl ⟨g,c.length,rfl,b0⟩)
 obtain ⟨c4,b2,d⟩:=aB d
 refine cA b2 (fun (s:(List Edge × Int)) f w=>match s with|(j,o)=>f 0=zS a1 a.length c2∧f 3=zS g j.length c.length∧f 4=i64 o∧aK G K (aV 63 K g c.length j::L) w) ?_ ?_
 ·exact ⟨rfl,rfl,rfl,a8⟩
 ·rintro ⟨j,o⟩ b3 f c5 b b4 ⟨q,r,p,u⟩
  replace b:vA a j o=some b3:=b
  unfold vA at b
  refine aN (aI (aO p (aO q (aC (bT (len:=a.length) sl_23 rfl) (aC (cJ rfl rfl) (aG ?_))))))
  rcases aH b with ⟨x,b⟩|⟨x,b⟩
  ·refine aL x rfl (aY (aA (aN (cP (aP (aO r (aO p (aO q (aO p ?_)))))))))
   obtain ⟨k,Z,b⟩:=aB b
   refine aC (cT sl_23 rfl z rfl rfl rfl Z) ?_
   obtain ⟨c6,b5,b6⟩:=cL.el (sz:=3) rfl z Z
   cases b6
   refine aC (gG (t:=0) (vs:=[i64 k.F,i64 k.B,i64 k.To]) ag_113 u b5 rfl rfl rfl) ?_
   obtain ⟨l,b7,b⟩:=aB b
   refine aU (vs:=[zA #[i64 k.F,i64 k.B,i64 k.To]]) Tryz.call76 rfl (aGO u b7) ?_
   rintro _ c7 ⟨rfl,a0⟩
   obtain ⟨c8,y,b⟩:=aB b
   have b8:=dM a0 (i:=0) rfl y
   refine aC (eB bY rfl b8 rfl rfl rfl y) ?_
   obtain ⟨a2,a3,b⟩:=aB b
   exact jW (i:=0) (t:=0) (ns:=[i64 l.F,i64 l.B,i64 l.To]) (e':=(⟨l.F,l.B,l.To⟩:Edge)) Tryz.sizeOf63 a0 rfl (zR _) rfl rfl rfl y a3 rfl rfl (dK rfl) rfl (fun cs h=>by cases h;rfl) (fun b9 (c0:aK G K (aV 63 K g c.length a2::L) b9)=>(bK (bE (aA (aP (aO p (aC (cM rfl rfl) (aF (v:=i64 (wr (o+1))) (aG ⟨(a2,wr (o+1)),(zI b).symm,q,(Eq.trans r (congrArg (fun n=>zS g n c.length) (iE a3))),rfl,c0⟩)))))))))
  ·refine aJ x rfl (bZ (aW (aW ?_)))
   have c1:=b4 _ (zI b).symm
   subst c1
   have d:(yP j)=some R:=d
   exact bO (aA ⟨j,d,r,u⟩)
theorem yS {a R:cH} (hs:aK G K (L) w) (h3:cL K a1 c2 a.L) (h6:cL K a4 c5 a.E) (j:aAx a=some R):
  Calls Tryz.prog 8 ([zA (zCa a a1 c2 a4 c5)]:List Value).toArray w (gO fun v w'=>∃ (p:Option Addr) (q:Nat) (r:Option Addr) (t:Nat),v=zA (zCa R p q r t)∧aK G K (aV 9 K p q R.L::aV 63 K r t R.E::L) w'):=by
 let k:=(zC a a1 c2 a4 c5)
 let l:=zG
 let u:=[i64 a.N,i64 a.I,zS none 0 0,zS none 0 0]
 let x:=[i64 a.N,i64 0,zS none 0 0,zS none 0 0]
 refine aS Tryz.func8 rfl (by kernel_rfl) (by show (1:Nat)≤19;decide) ?_
 unfold aAx at j
 refine aI (eE (v:=zA (zCa a a1 c2 a4 c5)) (vs:=k) hs rfl rfl (fun m w8 a6=>(bW (vs:=l) Tryz.zeroValue29 a6 rfl (fun n c0 a7=>(aG (aI (bW (vs:=l) Tryz.zeroValue29 a7 rfl (fun o c1 y=>(aG (aI (aC (bG (t':=0) fa_25_0 rfl rfl) (aC (cF cE y (i:=2) rfl rfl rfl) (aC (bG (t':=0) iM rfl rfl) (cD (i:=0) (ns:=[i64 a.N]) (us:=x) Tryz.sizeOf2 y rfl rfl rfl rfl rfl (dK rfl) rfl rfl (fun a8 (z:aK G K (box o 29 x::box n 29 l::box m 25 k::L) a8)=>(aG (aI (aC (bG (t':=1) fa_25_1 rfl rfl) (aC (cF cE z (i:=2) rfl rfl rfl) (aC (bG (t':=1) nE rfl rfl) (cD (i:=0) (ns:=[i64 a.I]) (us:=u) Tryz.sizeOf2 z rfl rfl rfl rfl rfl (dK rfl) rfl rfl (fun a9 (J:aK G K (box o 29 u::box n 29 l::box m 25 k::L) a9)=>(aG ?_)))))))))))))))))))))))
 refine aI (aC (bG (t':=2) fa_25_2 rfl rfl) (aC (cF mG J (i:=2) rfl rfl rfl) ?_))
 obtain ⟨d,b0,j⟩:=aB j
 refine aU (vs:=[zS a1 a.L.length c2]) Tryz.call29 rfl (aEt J h3 b0) ?_
 rintro _ c3 ⟨b,c,rfl,b1⟩
 refine aC (bG (t':=2) gI rfl rfl) (cD (i:=1) (ns:=[zS b d.length c]) (us:=[i64 a.N,i64 a.I,zS b d.length c,zS none 0 0]) Tryz.sizeOf22 b1 rfl rfl rfl rfl rfl (dK rfl) rfl rfl (fun b2 (V:aK G K (aV 9 K b c d::box o 29 [i64 a.N,i64 a.I,zS b d.length c,zS none 0 0]::box n 29 l::box m 25 k::L) b2)=>(aG (aI (aC (bG (t':=3) fa_25_3 rfl rfl) (aC (cF sc_23 V (i:=3) rfl rfl rfl) ?_))))))
 obtain ⟨h,b3,j⟩:=aB j
 refine aU (vs:=[zS a4 a.E.length c5]) Tryz.call30 rfl (aFV V h6 b3) ?_
 rintro _ c4 ⟨e,g,rfl,b4⟩
 refine aC (bG (t':=3) cK rfl rfl) (cD (i:=2) (ns:=[zS e h.length g]) (us:=[i64 a.N,i64 a.I,zS b d.length c,zS e h.length g]) Tryz.sizeOf27 b4 rfl rfl rfl rfl rfl (dK rfl) rfl rfl (fun b5 (Z:aK G K (aV 63 K e g h::aV 9 K b c d::box o 29 [i64 a.N,i64 a.I,zS b d.length c,zS e h.length g]::box n 29 l::box m 25 k::L) b5)=>(aG (aI (aC (dF (us:=[i64 a.N,i64 a.I,zS b d.length c,zS e h.length g]) eC Z (i:=2) rfl rfl rfl rfl) (cD (i:=3) (ns:=[i64 a.N,i64 a.I,zS b d.length c,zS e h.length g]) (us:=[i64 a.N,i64 a.I,zS b d.length c,zS e h.length g]) Tryz.sizeOf29 Z rfl rfl rfl rfl rfl (dK rfl) rfl rfl (fun b6 (a0:aK G K (aV 63 K e g h::aV 9 K b c d::box o 29 [i64 a.N,i64 a.I,zS b d.length c,zS e h.length g]::box n 29 [i64 a.N,i64 a.I,zS b d.length c,zS e h.length g]::box m 25 k::L) b6)=>(aG ?_))))))))
 obtain rfl:=zI j
 exact bF (sX Tryz.results8 (kQ (vs:=[i64 a.N,i64 a.I,zS b d.length c,zS e h.length g]) rfl eC a0 (i:=3) rfl rfl rfl) ⟨b,c,e,g,rfl,(aK.arr 5 [1,0] a0 rfl)⟩)
theorem tP {t:cH} {k:Int} {R:Bool} (c:aK G K (L) w) (j:cL K a1 c2 t.L) (l:cL K a4 c5 t.E) (a:mV t k=some R):
  Calls Tryz.prog 78 ([zA (zCa t a1 c2 a4 c5),i64 k]:List Value).toArray w (gO fun v w'=>v=zB R∧aK G K (L) w'):=by
 refine aS Tryz.func78 rfl (by kernel_rfl) (by show (2:Nat)≤10;decide) ?_
 unfold mV at a
 refine aI (eE (v:=zA (zCa t a1 c2 a4 c5)) (vs:=(zC t a1 c2 a4 c5)) c rfl rfl (fun m n b=>(aF (v:=zB false) (aG (aI (aM (v:=i64 k) (aC (bG (t':=0) iM rfl rfl) (aC (cF cE b (i:=0) rfl rfl rfl) (aC (kO rfl rfl) ?_)))))))))
 obtain ⟨d,e,a⟩:=aB a
 refine aU (vs:=[i64 k,i64 0,i64 (wr (t.N - 1))]) Tryz.call77 rfl (sU b e) ?_
 rintro _ o ⟨rfl,g⟩
 refine aF (v:=zB d) (aG ?_)
 obtain rfl:=zI a
 exact bF (bB Tryz.results78 rfl ⟨rfl,(aK.arr 1 [] g rfl)⟩)
theorem aHS {i many:Int} {R:Bool} (b:aK G K (L) w) (a:aDG i many=some R):
  Calls Tryz.prog 80 ([i64 i,i64 many]:List Value).toArray w (gO fun v w'=>v=zB R∧aK G K (L) w'):=by
 refine aS Tryz.func80 rfl (by kernel_rfl) (by show (2:Nat)≤9;decide) ?_
 unfold aDG at a
 refine aI (aF (v:=zB false) (aG (aI (aM (v:=i64 i) (aM (v:=i64 many) (aC (kO rfl rfl) ?_))))))
 obtain ⟨c,d,a⟩:=aB a
 refine aU (vs:=[i64 i,i64 0,i64 (wr (many - 1))]) Tryz.call77 rfl (sU b d) ?_
 rintro _ h ⟨rfl,e⟩
 refine aF (v:=zB c) (aG ?_)
 obtain rfl:=zI a
 exact bF (bB Tryz.results80 rfl ⟨rfl,e⟩)
theorem aFi {t:cH} {R:Bool} (hs:aK G K (L) w) (hG:G.lo=0) (h3:cL K a1 c2 t.L) (h6:cL K a4 c5 t.E) (b:aAh t=some R):
  Calls Tryz.prog 31 ([zA (zCa t a1 c2 a4 c5)]:List Value).toArray w (gO fun v w'=>v=zB R∧aK G K (L) w'):=by
 let y:=(zC t a1 c2 a4 c5)
 refine aS Tryz.func31 rfl (by kernel_rfl) (by show (1:Nat)≤109;decide) ?_
 unfold aAh at b
 refine aI (eE (v:=zA (zCa t a1 c2 a4 c5)) (vs:=y) hs rfl rfl (fun l w8 d3=>(aF (v:=zB false) (aG (aN (aN (cN (fun f w=>∃ (b5:Bool),mX t b5=some R∧f 1=zP (some ⟨l,0,none⟩)∧f 30=zB b5∧aK G K (box l 29 y::L) w) ?_ ?_)))))))
 ·rintro f k3 ⟨b5,b,d4,d5,b6⟩
  unfold mX at b
  refine aA ?_
  rcases aH b with ⟨b8,b⟩|⟨b8,b⟩
  ·refine aL b8 d5 (aI (aF (v:=zB false) (aG ?_)))
   obtain rfl:=zI b
   exact bF (aR (bB Tryz.results31 rfl ⟨rfl,(aK.arr 1 [] b6 rfl)⟩))
  ·refine aJ b8 d5 (aY (aA (aN (aI (aC (bG (t':=2) gI d4 rfl) (aC (cF mG b6 (i:=0) rfl rfl rfl) (aC (bT (len:=t.L.length) cO rfl) (aM (v:=i64 0) (aG (bC (fun f w=>sK t=some R∧f 1=zP (some ⟨l,0,none⟩)∧aK G K (box l 29 y::L) w) ?_ ?_))))))))))
   ·rintro f k4 ⟨b,d6,d7⟩
    unfold sK at b
    refine aA (aN (aI (aC (bG (t':=3) cK d6 rfl) (aC (cF fS d7 (i:=0) rfl rfl rfl) (aC (bT (len:=t.E.length) bY rfl) (aM (v:=i64 0) (aG (bC (fun f w=>wT=some R∧aK G K (L) w) ?_ ?_))))))))
    ·rintro f k5 ⟨b,f7⟩
     unfold wT at b
     refine aA (aI (aF (v:=zB true) (aG ?_)))
     obtain rfl:=zI b
     exact bF (bB Tryz.results31 rfl ⟨rfl,f7⟩)
    obtain ⟨k6,f9,b⟩:=aB b
    refine cA f9 (fun (z:Int) f w=>f 1=zP (some ⟨l,0,none⟩)∧f 65=zS a4 t.E.length c5∧f 66=i64 (t.E.length:Int)∧f 67=i64 z∧aK G K (box l 29 y::L) w) ?_ ?_
    ·exact ⟨d6,rfl,rfl,rfl,d7⟩
    ·rintro z d8 f k7 c d9 ⟨V,a5,a6,Z,b9⟩
     replace c:pQ t z=some d8:=c
     unfold pQ at c
     refine aI (aC (cJ Z a6) (aG (aN ?_)))
     rcases aH c with ⟨c0,c⟩|⟨c0,c⟩
     ·refine aL c0 rfl (aY (aA (aN (cP (aI (aO Z ?_))))))
      obtain ⟨e,e0,c⟩:=aB c
      refine aC (cT bY rfl h6 a5 rfl Z e0) ?_
      obtain ⟨k8,g0,g1⟩:=cL.el (sz:=3) rfl h6 e0
      cases g1
      refine aC (gG (t:=0) (vs:=[i64 e.F,i64 e.B,i64 e.To]) iJ b9 g0 rfl rfl rfl) (bW (vs:=[i64 0,i64 0,i64 0]) Tryz.zeroValue63 b9 rfl (fun e1 k9 g2=>(aF (v:=i64 z) (cD (i:=0) (ns:=[i64 e.F,i64 e.B,i64 e.To]) (us:=[i64 e.F,i64 e.B,i64 e.To]) Tryz.sizeOf63 g2 rfl rfl rfl rfl rfl (dK rfl) rfl rfl (fun g3 (a:aK G K (box e1 63 [i64 e.F,i64 e.B,i64 e.To]::box l 29 y::L) g3)=>(aG (aN (cN (fun f w=>∃ (c1:Bool),lF z c1=some d8∧f 1=zP (some ⟨l,0,none⟩)∧f 65=zS a4 t.E.length c5∧f 66=i64 (t.E.length:Int)∧f 67=i64 z∧f 107=zB c1∧aK G K (box l 29 y::L) w) ?_ ?_))))))))
      ·rintro f l0 ⟨c1,c,g4,g5,g6,g7,e2,e3⟩
       unfold lF at c
       refine aA ?_
       rcases aH c with ⟨c3,c⟩|⟨c3,c⟩
       ·refine aL c3 e2 (aI (aF (v:=zB false) (aG (bF (bQ (aR (aR ?_)))))))
        have g8:=d9 _ (zI c).symm
        subst g8
        have b:(some false)=some R:=b
        obtain rfl:=zI b
        exact bQ (aR (aR (bB Tryz.results31 rfl ⟨rfl,(aK.arr 1 [] e3 rfl)⟩)))
       ·exact aJ c3 e2 (aY (bE (aA (aP (aC (cM g7 rfl) (aM (v:=i64 (wr (z+1))) (aG ⟨wr (z+1),(zI c).symm,g4,g5,g6,rfl,e3⟩)))))))
      refine eK (C:=fun w'=>aK G K (box e1 63 [i64 e.F,i64 e.B,i64 e.To]::box l 29 y::L) w') bU (by kernel_rfl) (aK.mono a (dQ.drew _)) (aX (fun _ a=>dF (us:=y) eC a (i:=1) rfl V rfl rfl) (aX (fun _ a=>bG (t':=0) fJ rfl rfl) (aX (fun _ a=>cF cE a (i:=0) rfl rfl rfl) ?_)))
      obtain ⟨e4,h0,c⟩:=aB c
      refine rA (vs:=[zA (zCa t a1 c2 a4 c5),i64 e.F]) (v:=zB e4) Tryz.call78 rfl (fun _ a=>(tP a h3 h6 h0)) (aX (fun _ a=>fH rfl) (aX (fun _ a=>bD (v:=zB (!e4)) rfl) ?_))
      rcases aH c with ⟨n,c⟩|⟨n,c⟩
      ·refine aT (g:=77) rfl rfl (bS n) (aT (g:=77) rfl rfl (bS n) (aT (g:=77) rfl rfl (bS n) (aT (g:=77) rfl rfl (bS n) (aT (g:=77) rfl rfl (bS n) (aX (fun _ a=>bI (v:=zB true) n rfl rfl) (aX (fun _ a=>bD (v:=zB true) rfl) (aT (g:=84) rfl rfl (bS (rfl:true=true)) (aT (g:=84) rfl rfl (bS (rfl:true=true)) (aT (g:=84) rfl rfl (bS (rfl:true=true)) (aT (g:=84) rfl rfl (bS (rfl:true=true)) (aT (g:=84) rfl rfl (bS (rfl:true=true)) (aT (g:=84) rfl rfl (bS (rfl:true=true)) (aT (g:=84) rfl rfl (bS (rfl:true=true)) (aX (fun _ a=>bI (v:=zB true) (rfl:true=true) rfl rfl) (aX (fun _ a=>bD (v:=zB true) rfl) (aT (g:=93) rfl rfl (bS (rfl:true=true)) (aT (g:=93) rfl rfl (bS (rfl:true=true)) (aT (g:=93) rfl rfl (bS (rfl:true=true)) (bP (g:=96) rfl rfl (bP (g:=96) rfl rfl (bP (g:=96) rfl rfl (bP (g:=96) rfl rfl (bP (g:=96) rfl rfl ?_)))))))))))))))))))))))
       exact bP (g:=96) rfl rfl (bP (g:=96) rfl rfl (bP (g:=96) rfl rfl (bP (g:=96) rfl rfl (aT (g:=93) rfl rfl (bS (rfl:true=true)) (aX (fun _ a=>bI (v:=zB true) (rfl:true=true) rfl rfl) (eG (fun l1 h1=>(aA ⟨true,c,V,a5,a6,Z,rfl,(aK.arr 1 [] h1 rfl)⟩))))))))
      ·refine bM (g:=77) rfl rfl (bR n) (aX (fun _ a=>dF (us:=y) eC a (i:=1) rfl V rfl rfl) (bM (g:=77) rfl rfl (bR n) (aX (fun _ a=>bG (t':=2) eM rfl rfl) (bM (g:=77) rfl rfl (bR n) (aX (fun _ a=>cF cE a (i:=0) rfl rfl rfl) (bM (g:=77) rfl rfl (bR n) ?_))))))
       obtain ⟨c4,h2,c⟩:=aB c
       refine rA (vs:=[zA (zCa t a1 c2 a4 c5),i64 e.To]) (v:=zB c4) Tryz.call78 rfl (fun _ a=>(tP a h3 h6 h2)) (bM (g:=77) rfl rfl (bR n) (aX (fun _ a=>fH rfl) (aX (fun _ a=>bL (v:=zB (!c4)) n rfl rfl) (aX (fun _ a=>bD (v:=zB (!c4)) rfl) ?_))))
       rcases aH c with ⟨k,c⟩|⟨k,c⟩
       ·refine aT (g:=84) rfl rfl (bS k) (aT (g:=84) rfl rfl (bS k) (aT (g:=84) rfl rfl (bS k) (aT (g:=84) rfl rfl (bS k) (aT (g:=84) rfl rfl (bS k) (aT (g:=84) rfl rfl (bS k) (aT (g:=84) rfl rfl (bS k) (aX (fun _ a=>bI (v:=zB true) k rfl rfl) (aX (fun _ a=>bD (v:=zB true) rfl) (aT (g:=93) rfl rfl (bS (rfl:true=true)) (aT (g:=93) rfl rfl (bS (rfl:true=true)) (aT (g:=93) rfl rfl (bS (rfl:true=true)) (bP (g:=96) rfl rfl (bP (g:=96) rfl rfl (bP (g:=96) rfl rfl (bP (g:=96) rfl rfl (bP (g:=96) rfl rfl (bP (g:=96) rfl rfl (bP (g:=96) rfl rfl (bP (g:=96) rfl rfl (bP (g:=96) rfl rfl (aT (g:=93) rfl rfl (bS (rfl:true=true)) (aX (fun _ a=>bI (v:=zB true) (rfl:true=true) rfl rfl) (eG ?_)))))))))))))))))))))))
        intro l2 h4
        exact aA ⟨true,c,V,a5,a6,Z,rfl,(aK.arr 1 [] h4 rfl)⟩
       ·refine bM (g:=84) rfl rfl (bR k) (aX (fun _ a=>bG (t':=1) gB rfl rfl) (bM (g:=84) rfl rfl (bR k) (aX (fun _ a=>cF cE a (i:=0) rfl rfl rfl) (bM (g:=84) rfl rfl (bR k) (aX (fun _ a=>bG (t':=2) gI V rfl) (bM (g:=84) rfl rfl (bR k) (aX (fun _ a=>cF mG a (i:=1) rfl rfl rfl) (bM (g:=84) rfl rfl (bR k) (aX (fun _ a=>bT (len:=t.L.length) cO rfl) (bM (g:=84) rfl rfl (bR k) ?_))))))))))
        obtain ⟨c6,h5,c⟩:=aB c
        refine rA (vs:=[i64 e.B,i64 (t.L.length:Int)]) (v:=zB c6) Tryz.call80 rfl (fun _ a=>(aHS a h5)) (bM (g:=84) rfl rfl (bR k) (aX (fun _ a=>fH rfl) (aX (fun _ a=>bL (v:=zB (!c6)) k rfl rfl) (aX (fun _ a=>bD (v:=zB (!c6)) rfl) ?_))))
        rcases aH c with ⟨o,c⟩|⟨o,c⟩
        ·exact aT (g:=93) rfl rfl (bS o) (aT (g:=93) rfl rfl (bS o) (aT (g:=93) rfl rfl (bS o) (bP (g:=96) rfl rfl (bP (g:=96) rfl rfl (bP (g:=96) rfl rfl (bP (g:=96) rfl rfl (bP (g:=96) rfl rfl (bP (g:=96) rfl rfl (bP (g:=96) rfl rfl (bP (g:=96) rfl rfl (bP (g:=96) rfl rfl (aT (g:=93) rfl rfl (bS o) (aX (fun _ a=>bI (v:=zB true) o rfl rfl) (eG (fun l3 h7=>(aA ⟨true,c,V,a5,a6,Z,rfl,(aK.arr 1 [] h7 rfl)⟩))))))))))))))))
        ·refine bM (g:=93) rfl rfl (bR o) (aX (fun _ a=>bD (v:=i64 z) rfl) (bM (g:=93) rfl rfl (bR o) (aX (fun _ a=>qC rfl rfl) (bM (g:=93) rfl rfl (bR o) (aX (fun _ a=>bD (v:=zB (decide (0 < z))) rfl) ?_)))))
         rcases aH c with ⟨h,c⟩|⟨h,c⟩
         ·refine bM (g:=96) rfl rfl h (aX (fun _ a=>bG (t':=3) cK V rfl) (bM (g:=96) rfl rfl h (aX (fun _ a=>cF fS a (i:=1) rfl rfl rfl) (bM (g:=96) rfl rfl h (aX (fun _ a=>bD (v:=i64 z) rfl) (bM (g:=96) rfl rfl h (aX (fun _ a=>kO rfl rfl) (bM (g:=96) rfl rfl h ?_))))))))
          obtain ⟨a7,e5,c⟩:=aB c
          refine aX (fun _ a=>cT bY rfl h6 rfl rfl rfl e5) ?_
          obtain ⟨l4,h8,h9⟩:=cL.el (sz:=3) rfl h6 e5
          cases h9
          refine bM (g:=96) rfl rfl h (aX (fun _ a=>gG (t:=0) (vs:=[i64 a7.F,i64 a7.B,i64 a7.To]) iJ a h8 rfl rfl rfl) (bM (g:=96) rfl rfl h (aX (fun _ a=>dF (us:=[i64 e.F,i64 e.B,i64 e.To]) iJ a (i:=0) rfl rfl rfl rfl) (bM (g:=96) rfl rfl h ?_))))
          obtain ⟨b3,i0,c⟩:=aB c
          exact rA (vs:=[zA #[i64 a7.F,i64 a7.B,i64 a7.To],zA #[i64 e.F,i64 e.B,i64 e.To]]) (v:=i64 b3) Tryz.call81 rfl (fun _ a=>(yA a i0)) (bM (g:=96) rfl rfl h (aX (fun _ a=>uI rfl rfl) (bM (g:=93) rfl rfl (bR o) (aX (fun _ a=>bI (v:=zB (decide (0≤b3))) h rfl rfl) (aX (fun _ a=>bL (v:=zB (decide (0≤b3))) o rfl rfl) (eG (fun l5 i1=>(aA ⟨decide (0≤b3),c,V,a5,a6,Z,rfl,(aK.arr 1 [] i1 rfl)⟩))))))))
         ·exact aT (g:=96) rfl rfl (cB h) (aT (g:=96) rfl rfl (cB h) (aT (g:=96) rfl rfl (cB h) (aT (g:=96) rfl rfl (cB h) (aT (g:=96) rfl rfl (cB h) (aT (g:=96) rfl rfl (cB h) (aT (g:=96) rfl rfl (cB h) (aT (g:=96) rfl rfl (cB h) (aT (g:=96) rfl rfl (cB h) (bM (g:=93) rfl rfl (bR o) (aX (fun _ a=>bL (v:=zB false) h rfl rfl) (aX (fun _ a=>bL (v:=zB false) o rfl rfl) (eG (fun l6 i2=>(aA ⟨false,c,V,a5,a6,Z,rfl,(aK.arr 1 [] i2 rfl)⟩))))))))))))))
     ·refine aJ c0 rfl (bZ (aW (aW ?_)))
      have i3:=d9 _ (zI c).symm
      subst i3
      have b:(wT)=some R:=b
      exact bO (aA ⟨b,(aK.arr 1 [] b9 rfl)⟩)
   obtain ⟨l7,i4,b⟩:=aB b
   refine cA i4 (fun (m:Int) f w=>f 1=zP (some ⟨l,0,none⟩)∧f 32=zS a1 t.L.length c2∧f 33=i64 (t.L.length:Int)∧f 34=i64 m∧aK G K (box l 29 y::L) w) ?_ ?_
   ·exact ⟨d4,rfl,rfl,rfl,b6⟩
   ·rintro m e6 f l8 d e7 ⟨a8,b1,b2,a3,c7⟩
    replace d:pR t m=some e6:=d
    unfold pR at d
    refine aI (aC (cJ a3 b2) (aG (aN ?_)))
    rcases aH d with ⟨c8,d⟩|⟨c8,d⟩
    ·refine aL c8 rfl (aY (aA (aN (cP (aI (aO a3 ?_))))))
     obtain ⟨p,e8,d⟩:=aB d
     refine aC (cT cO rfl h3 b1 rfl a3 e8) ?_
     obtain ⟨l9,i5,i6⟩:=cL.el (sz:=1) rfl h3 e8
     cases i6
     refine aC (bJ (t:=0) pU c7 i5 rfl rfl) (aF (v:=i64 m) (aF (v:=str p) (aG (aN (cN (fun f w=>∃ (c9:Bool),mW m c9=some e6∧f 1=zP (some ⟨l,0,none⟩)∧f 32=zS a1 t.L.length c2∧f 33=i64 (t.L.length:Int)∧f 34=i64 m∧f 62=zB c9∧aK G K (box l 29 y::L) w) ?_ ?_)))))
     ·rintro f m0 ⟨c9,d,i7,i8,i9,j0,e9,f0⟩
      unfold mW at d
      refine aA ?_
      rcases aH d with ⟨d0,d⟩|⟨d0,d⟩
      ·refine aL d0 e9 (aI (aF (v:=zB false) (aG (bF (bQ (aR (aR ?_)))))))
       have j1:=e7 _ (zI d).symm
       subst j1
       have b:(some false)=some R:=b
       obtain rfl:=zI b
       exact bQ (aR (aR (bB Tryz.results31 rfl ⟨rfl,(aK.arr 1 [] f0 rfl)⟩)))
      ·exact aJ d0 e9 (aY (bE (aA (aP (aC (cM j0 rfl) (aM (v:=i64 (wr (m+1))) (aG ⟨wr (m+1),(zI d).symm,i7,i8,i9,rfl,f0⟩)))))))
     refine aP (aM (v:=str p) ?_)
     obtain ⟨j3,j4,d⟩:=aB d
     refine aU (vs:=[str p]) Tryz.call79 rfl (aFP c7 hG j4) ?_
     rintro _ m1 ⟨rfl,a9⟩
     refine aC (fH rfl) (aM (v:=zB (!j3)) ?_)
     rcases aH d with ⟨q,d⟩|⟨q,d⟩
     ·exact aZ q rfl rfl (aZ q rfl rfl (aZ q rfl rfl (aZ q rfl rfl (aZ q rfl rfl (aC (bI (v:=zB true) q rfl rfl) (aM (v:=zB true) (aZ (rfl:true=true) rfl rfl (aZ (rfl:true=true) rfl rfl (aZ (rfl:true=true) rfl rfl (fR (g:=52) rfl rfl (fR (g:=52) rfl rfl (fR (g:=52) rfl rfl (fR (g:=52) rfl rfl (fR (g:=52) rfl rfl (fR (g:=52) rfl rfl (fR (g:=52) rfl rfl (fR (g:=52) rfl rfl (aZ (rfl:true=true) rfl rfl (aC (bI (v:=zB true) (rfl:true=true) rfl rfl) (aG ⟨true,d,a8,b1,b2,a3,rfl,a9⟩))))))))))))))))))))
     ·refine bN q rfl rfl (aM (v:=str p) (bN q rfl rfl (aC (vR rfl rfl) (bN q rfl rfl (aM (v:=i64 m) (bN q rfl rfl (aC (lC rfl rfl) (bN q rfl rfl (aC (R_neqB Tryz.runUnderlying4 rfl rfl) (aC (bL (v:=zB ((p == ([116,97,117]:bH)) != (m == 0))) q rfl rfl) (aM (v:=zB ((p == ([116,97,117]:bH)) != (m == 0))) ?_)))))))))))
      rcases aH d with ⟨r,d⟩|⟨r,d⟩
      ·exact aZ r rfl rfl (aZ r rfl rfl (aZ r rfl rfl (fR (g:=52) rfl rfl (fR (g:=52) rfl rfl (fR (g:=52) rfl rfl (fR (g:=52) rfl rfl (fR (g:=52) rfl rfl (fR (g:=52) rfl rfl (fR (g:=52) rfl rfl (fR (g:=52) rfl rfl (aZ r rfl rfl (aC (bI (v:=zB true) r rfl rfl) (aG ⟨true,d,a8,b1,b2,a3,rfl,a9⟩)))))))))))))
      ·refine bN r rfl rfl (aM (v:=i64 m) (bN r rfl rfl (aC (qC rfl rfl) (bN r rfl rfl (aM (v:=zB (decide (1 < m))) ?_)))))
       rcases aH d with ⟨j,d⟩|⟨j,d⟩
       ·refine bA j rfl rfl (aM (v:=str p) (bA j rfl rfl (aC (bG (t':=2) gI a8 rfl) (bA j rfl rfl (aC (cF mG a9 (i:=0) rfl rfl rfl) (bA j rfl rfl (aM (v:=i64 m) (bA j rfl rfl (aC (kO rfl rfl) (bA j rfl rfl ?_))))))))))
        obtain ⟨b0,f1,d⟩:=aB d
        refine aC (cT cO rfl h3 rfl rfl rfl f1) ?_
        obtain ⟨m2,j5,j6⟩:=cL.el (sz:=1) rfl h3 f1
        cases j6
        exact bA j rfl rfl (aC (bJ (t:=0) pU a9 j5 rfl rfl) (bA j rfl rfl (aC (R_leqS rfl rfl) (bN r rfl rfl (aC (bI (v:=zB (xY p b0||p == b0)) j rfl rfl) (aC (bL (v:=zB (xY p b0||p == b0)) r rfl rfl) (aG ⟨(xY p b0||p == b0),d,a8,b1,b2,a3,rfl,a9⟩)))))))
       ·exact aQ j rfl rfl (aQ j rfl rfl (aQ j rfl rfl (aQ j rfl rfl (aQ j rfl rfl (aQ j rfl rfl (aQ j rfl rfl (aQ j rfl rfl (bN r rfl rfl (aC (bL (v:=zB false) j rfl rfl) (aC (bL (v:=zB false) r rfl rfl) (aG ⟨false,d,a8,b1,b2,a3,rfl,a9⟩)))))))))))
    ·refine aJ c8 rfl (bZ (aW (aW ?_)))
     have j7:=e7 _ (zI d).symm
     subst j7
     have b:(sK t)=some R:=b
     exact bO (aA ⟨b,a8,c7⟩)
 refine aP (aC (bG (t':=0) iM rfl rfl) (aC (cF cE d3 (i:=0) rfl rfl rfl) ?_))
 obtain ⟨j8,j9,b⟩:=aB b
 refine aU (vs:=[i64 t.N,i64 1,i64 40]) Tryz.call77 rfl (sU d3 j9) ?_
 rintro _ m3 ⟨rfl,b4⟩
 refine aC (fH rfl) (aM (v:=zB (!j8)) ?_)
 rcases aH b with ⟨u,b⟩|⟨u,b⟩
 ·exact aZ u rfl rfl (aZ u rfl rfl (aZ u rfl rfl (aZ u rfl rfl (aZ u rfl rfl (aC (bI (v:=zB true) u rfl rfl) (aM (v:=zB true) (aZ (rfl:true=true) rfl rfl (aZ (rfl:true=true) rfl rfl (aZ (rfl:true=true) rfl rfl (aZ (rfl:true=true) rfl rfl (aZ (rfl:true=true) rfl rfl (aC (bI (v:=zB true) (rfl:true=true) rfl rfl) (aM (v:=zB true) (aZ (rfl:true=true) rfl rfl (aZ (rfl:true=true) rfl rfl (aZ (rfl:true=true) rfl rfl (aZ (rfl:true=true) rfl rfl (aC (bI (v:=zB true) (rfl:true=true) rfl rfl) (aG ⟨true,b,rfl,rfl,b4⟩)))))))))))))))))))
 ·refine bN u rfl rfl (aC (dF (us:=y) eC b4 (i:=0) rfl rfl rfl rfl) (bN u rfl rfl (aC (bG (t':=1) nE rfl rfl) (bN u rfl rfl (aC (cF cE b4 (i:=0) rfl rfl rfl) (bN u rfl rfl ?_))))))
  obtain ⟨f2,k0,b⟩:=aB b
  refine aU (vs:=[zA (zCa t a1 c2 a4 c5),i64 t.I]) Tryz.call78 rfl (tP b4 h3 h6 k0) ?_
  rintro _ m4 ⟨rfl,d1⟩
  refine bN u rfl rfl (aC (fH rfl) (aC (bL (v:=zB (!f2)) u rfl rfl) (aM (v:=zB (!f2)) ?_)))
  rcases aH b with ⟨x,b⟩|⟨x,b⟩
  ·exact aZ x rfl rfl (aZ x rfl rfl (aZ x rfl rfl (aZ x rfl rfl (aZ x rfl rfl (aC (bI (v:=zB true) x rfl rfl) (aM (v:=zB true) (aZ (rfl:true=true) rfl rfl (aZ (rfl:true=true) rfl rfl (aZ (rfl:true=true) rfl rfl (aZ (rfl:true=true) rfl rfl (aC (bI (v:=zB true) (rfl:true=true) rfl rfl) (aG ⟨true,b,rfl,rfl,d1⟩))))))))))))
  ·refine bN x rfl rfl (aC (bG (t':=2) gI rfl rfl) (bN x rfl rfl (aC (cF mG d1 (i:=0) rfl rfl rfl) (bN x rfl rfl (aC (bT (len:=t.L.length) cO rfl) (bN x rfl rfl ?_))))))
   obtain ⟨f3,k1,b⟩:=aB b
   refine aU (vs:=[i64 (t.L.length:Int),i64 1,i64 12]) Tryz.call77 rfl (sU d1 k1) ?_
   rintro _ m5 ⟨rfl,d2⟩
   refine bN x rfl rfl (aC (fH rfl) (aC (bL (v:=zB (!f3)) x rfl rfl) (aM (v:=zB (!f3)) ?_)))
   rcases aH b with ⟨J,b⟩|⟨J,b⟩
   ·exact aZ J rfl rfl (aZ J rfl rfl (aZ J rfl rfl (aZ J rfl rfl (aC (bI (v:=zB true) J rfl rfl) (aG ⟨true,b,rfl,rfl,d2⟩)))))
   ·exact bN J rfl rfl (aC (bG (t':=3) cK rfl rfl) (bN J rfl rfl (aC (cF fS d2 (i:=0) rfl rfl rfl) (bN J rfl rfl (aC (bT (len:=t.E.length) bY rfl) (bN J rfl rfl (aC (qC rfl rfl) (aC (bL (v:=zB (decide (300 < (t.E.length:Int)))) J rfl rfl) (aG ⟨decide (300 < (t.E.length:Int)),b,rfl,rfl,d2⟩)))))))))
theorem lR {d:(List Int)} {e R:Int} (q:aK G K (L) w) (k:cL K a1 c2 d) (b:eV d e=some R):
  Calls Tryz.prog 83 ([zS a1 d.length c2,i64 e]:List Value).toArray w (gO fun v w'=>v=i64 R∧aK G K (L) w'):=by
 refine aS Tryz.func83 rfl (by kernel_rfl) (by show (2:Nat)≤19;decide) ?_
 unfold eV at b
 refine aI (aF (v:=i64 0) (aG (aN (aI (aM (v:=zS a1 d.length c2) (aC (bT (len:=d.length) cG rfl) (aM (v:=i64 0) (aG (bC (fun f w=>gS=some R∧aK G K (L) w) ?_ ?_)))))))))
 ·rintro f w4 ⟨b,r⟩
  unfold gS at b
  refine aA (aI (aF (v:=i64 (-1)) (aG ?_)))
  obtain rfl:=zI b
  exact bF (bB Tryz.results83 rfl ⟨rfl,r⟩)
 obtain ⟨a3,x,b⟩:=aB b
 refine cA x (fun (c:Int) f w=>f 0=zS a1 d.length c2∧f 1=i64 e∧f 7=i64 (d.length:Int)∧f 8=i64 c∧aK G K (L) w) ?_ ?_
 ·exact ⟨rfl,rfl,rfl,rfl,q⟩
 ·rintro c y f a4 a l ⟨m,n,o,h,g⟩
  replace a:dV d e c=some y:=a
  unfold dV at a
  refine aI (aC (cJ h o) (aG (aN ?_)))
  rcases aH a with ⟨i,a⟩|⟨i,a⟩
  ·refine aL i rfl (aY (aA (aN (cP (aI (aO h (aF (v:=i64 c) (aG (aI (aO n (aO m (aM (v:=i64 c) ?_))))))))))))
   obtain ⟨a5,p,a⟩:=aB a
   refine aC (cT cG rfl k rfl rfl rfl p) ?_
   obtain ⟨a6,z,J⟩:=cL.el (sz:=1) rfl k p
   cases J
   refine aC (bJ (t:=0) cE g z rfl rfl) (aC (lC rfl rfl) (aG ?_))
   rcases aH a with ⟨j,a⟩|⟨j,a⟩
   ·refine aL j rfl (aI (aM (v:=i64 c) (aF (v:=i64 c) (aG (bF (bQ (aR (aR ?_))))))))
    have V:=l _ (zI a).symm
    subst V
    have b:(some c)=some R:=b
    obtain rfl:=zI b
    exact bQ (aR (aR (bB Tryz.results83 rfl ⟨rfl,g⟩)))
   ·exact aJ j rfl (aY (bE (aA (aP (aC (cM h rfl) (aM (v:=i64 (wr (c+1))) (aG ⟨wr (c+1),(zI a).symm,m,n,o,rfl,g⟩)))))))
  ·refine aJ i rfl (bZ (aW (aW ?_)))
   have a0:=l _ (zI a).symm
   subst a0
   have b:(gS)=some R:=b
   exact bO (aA ⟨b,g⟩)
theorem oP {k:Int} {p:(List Int)} {b:Nat} {R:Int} (c:aK G K (L) w) (d:fV K a1 b [zS a4 p.length c5]) (e:cL K a4 c5 p) (a:mY k p=some R):
  Calls Tryz.prog 82 ([i64 k,bV a1 b]:List Value).toArray w (gO fun v w'=>v=i64 R∧aK G K (L) w'):=by
 refine aS Tryz.func82 rfl (by kernel_rfl) (by show (2:Nat)≤7;decide) ?_
 unfold mY at a
 refine aI (aF (v:=i64 0) (aG (aI (aC (bJ (t:=0) sc_38 c d rfl rfl) (aM (v:=i64 k) ?_)))))
 obtain ⟨g,h,a⟩:=aB a
 refine aU (vs:=[zS a4 p.length c5,i64 k]) Tryz.call83 rfl (lR c e h) ?_
 rintro _ l ⟨rfl,i⟩
 refine aF (v:=i64 g) (aG ?_)
 obtain rfl:=zI a
 exact bF (bB Tryz.results82 rfl ⟨rfl,i⟩)
theorem cZ {b R:(List bH)} (e:aK G K (L) w) (g:cL K a1 c2 b) (a:dL b=some R):
  Calls Tryz.prog 84 ([zS a1 b.length c2]:List Value).toArray w (gO fun v w'=>∃ (h:Option Addr) (j:Nat),v=zS h R.length j∧aK G K (aV 9 K h j R::L) w'):=by
 refine aS Tryz.func84 rfl (by kernel_rfl) (by show (1:Nat)≤8;decide) ?_
 unfold dL at a
 refine aI (aF (v:=zS none 0 0) (aG (aN (aI (aM (v:=zS a1 b.length c2) (aC (aHO cO rfl rfl) (aG ?_)))))))
 rcases aEi g with ⟨l,m,n⟩|o
 ·subst l;subst m;subst n
  refine aFs rfl ?_
  replace a:(some [])=some R:=a
  refine aI (aF (v:=zS none 0 0) (aG ?_))
  have p:=aK.nil (α:=bH) e 9 K
  obtain rfl:=zI a
  exact bF (aR (bB Tryz.results84 rfl ⟨none,0,rfl,p⟩))
 ·refine aFt (Eq.trans rfl (congrArg zB o)) (aY (aA (aI (dJ (Kt:=K) (xs:=([]:List bH)) (cs:=[]) (vs:=[]) cO aAo rfl rfl e rfl (by kernel_rfl) rfl rfl rfl trivial (fun r t (u:aK G K (aV 9 K r 0 ([]:List bH)::L) t)=>(aM (v:=zS a1 b.length c2) ?_))))))
  obtain ⟨k,x,a⟩:=aB a
  refine aCS (i:=0) cO Tryz.underlying22 aAo rfl rfl u rfl (zR _) g x rfl rfl rfl rfl (fun c d y (z:aK G K (aV 9 K c d k::L) y)=>(aF (v:=zS c k.length d) (aG ?_)))
  obtain rfl:=zI a
  exact bF (bB Tryz.results84 rfl ⟨c,d,rfl,z⟩)
end Gv
