/- Walks, printed by program. -/
import Derived.Test.YtcoeckcjdpbbkaaGreatDoorJWk5
set_option linter.all false
namespace Gv
open Go.Value renaming slice→zS,pointer→zP,agg→zA,tuple→zT,map→zM
open Option.some renaming inj→zI
open Gv.Hp renaming le_trans→zL,le_refl→zR
open Go Go.Proofs Go.Proofs.Tryz
set_option maxRecDepth 20000
set_option maxHeartbeats 40000000
variable {G:Env} {K Kf:Hp} {L:List gV} {w:World} {a1 a4 a6 a9 a12 a15 a18 a21 a24 a27 a29 a2 a5 a8 a11 a14 a17 a20 a23 a25 a28 a32 a7 a10 a13 a16:Option Addr} {c2 c5 b4 b5 c7 c10 c13 c16 c19 c22 c25 c28 b1 c3 c6 c9 c12 c15 c18 c21 c24 c26 b31 c8 c11 c14 c17:Nat}
theorem aLB {t:aP} {k:Int} {a:aH} {R:Int} (hm:aEC t k a=some R) (d:aD G K (L) w) (e:aN K a1 c2 t.L) (g:aN K a4 c5 t.E):
  Calls prog 122 ([zA (zCa t a1 c2 a4 c5),i64 k,str a]:List Value).toArray w (dS fun v w'=>v=i64 R/\aD G K (L) w'):=by
 refine cH func122 ?_;unfold aEC at hm
 refine aC ?_;refine oZ fun h i j=>?_
 refine aC ?_
 rcases aI hm with ⟨b,hm⟩|⟨b,hm⟩
 ·exact aJ
 ·refine aC ?_;refine nW ([k]:List Int) fun l m c=>?_
  refine aC ?_;obtain ⟨n,o,p,q,r⟩:=aD.lendSp c (zR _) .head
  exact aJ
theorem oP {a:(List aH)} {b:aH} {R:Int} (hm:dL a b=some R) (e:aD G K (L) w) (g:aN K a1 c2 a):
  Calls prog 117 ([zS a1 a.length c2,str b]:List Value).toArray w (dS fun v w'=>v=i64 R/\aD G K (L) w'):=by
 refine cH func117 ?_;unfold dL at hm
 refine aC ?_;refine aK [] (fun f w=>pN=some R/\aD G K (L) w) aJ ?_
 obtain ⟨h,c,ho⟩:=aB hm
 exact bY [0,1,7] c (fun d f w=>f 8=i64 d/\aD G K (L) w) aJ aJ
theorem wX {a:(List aH)} {b:aH} {R:Bool} (hm:dX a b=some R) (c:aD G K (L) w) (d:aN K a1 c2 a):
  Calls prog 107 ([zS a1 a.length c2,str b]:List Value).toArray w (dS fun v w'=>v=Value.bool R/\aD G K (L) w'):=by
 exact aJ
theorem mE {t:aP} {k:Int} {a:aH} {R:(Int × Bool)} (hm:jT t k a=some R) (b:aD G K (L) w) (c:aN K a1 c2 t.L) (d:aN K a4 c5 t.E):
  Calls prog 76 ([zA (zCa t a1 c2 a4 c5),i64 k,str a]:List Value).toArray w (dS fun v w'=>v=zT #[i64 R.1,Value.bool R.2]/\aD G K (L) w'):=by
 exact aJ
theorem iD {pair:(Int × Int)} {path:(List aH)} {V Z:Int} {o:(List aH)} {p:(List Edge)} {q:(List Int)} {r:(List aH)} {a0 a2:Int} {u:(List aH)} {x:(List Edge)} {p10_:(List (List Int))} {y:(List ((Int × Int) × Int))} {a:Nat} {p12_:(List (List aH))} {R:((List (List Int)) × (List ((Int × Int) × Int)) × (List (List aH)))} (hm:oB pair path V Z o p q r a0 a2 u x p10_ y p12_=some R) (hs:aD G K (aF 28 Kf a24 c25 p10_::cZ a y::aF 24 Kf a27 c28 p12_::box b5 77 [i64 V,i64 Z,zS a6 o.length c7,zS a9 p.length c10,zS a12 q.length c13,zS a15 r.length c16,i64 a0,i64 a2,zS a18 u.length c19,zS a21 x.length c22,zS a24 p10_.length c25,zM (some a),zS a27 p12_.length c28]::box b4 55 [zP (some ⟨b5,0,none⟩)]::L) w) (a3:Hp.le Kf K) (h3:aN K a1 c2 path) (h8:aN K a6 c7 o) (h6:aN K a9 c10 p) (h7:aN K a12 c13 q) (h9:aN K a15 c16 r) (i0:aN K a18 c19 u) (i1:aN K a21 c22 x):
  Calls prog 51 ([zA #[i64 pair.1,i64 pair.2],zS a1 path.length c2,zP (some ⟨b4,0,none⟩)]:List Value).toArray w (dS fun v w'=>∃ K' b6 b7 b8 b9,v=zT #[]/\Hp.le K K'/\aD G K' (aF 28 K' b6 b7 R.1::cZ a R.2.1::aF 24 K' b8 b9 R.2.2::box b5 77 [i64 V,i64 Z,zS a6 o.length c7,zS a9 p.length c10,zS a12 q.length c13,zS a15 r.length c16,i64 a0,i64 a2,zS a18 u.length c19,zS a21 x.length c22,zS b6 R.1.length b7,zM (some a),zS b8 R.2.2.length b9]::box b4 55 [zP (some ⟨b5,0,none⟩)]::L) w'):=by
 let c:=[i64 V,i64 Z,zS a6 o.length c7,zS a9 p.length c10,zS a12 q.length c13,zS a15 r.length c16,i64 a0,i64 a2,zS a18 u.length c19,zS a21 x.length c22,zS a24 p10_.length c25,zM (some a),zS a27 p12_.length c28]
 let d:=[zP (some ⟨b5,0,none⟩)]
 let l:=aF 24 Kf a27 c28 p12_
 let J:=aF 28 Kf a24 c25 p10_
 refine cH func51 ?_;unfold oB at hm
 refine aC ?_;refine oZ fun b i2 c0=>?_
 refine aC ?_;refine aEi ?_
 refine aC ?_;refine jN (fun _ c0=>R_look (kv:=y) (k:=pair) (z:=(0:Int)) runUnderlying74 aEj zeroValue2 c0 (i:=2) rfl rfl rfl) (aC ?_)
 refine oS (fun c1 c3=>(aC ?_))
 rcases aI hm with ⟨d4,hm⟩|⟨d4,hm⟩
 ·refine aC ?_;obtain ⟨i3,i4,d5,d6,d7⟩:=aD.lendBp c3 .head
  obtain ⟨i5,d8,c4,d9,e0⟩:=aD.lendBp d6 zt3
  obtain ⟨i6,a8,e1,i7,e2⟩:=aD.lendBp d9 zt3
  refine wW [(0,0),(1,0),(2,0),(3,0),(4,0),(5,0),(6,0),(7,0),(8,0),(9,0),(10,2)] fun i8 e=>?_;refine aC ?_
  refine bN rfl (fun _ ⟨_,e⟩=>dQ (t:=11) sc_74 e (c4.mono a8) rfl rfl) (bN rfl (fun _ ⟨_,e⟩=>sX (t:=0) (vs:=[i64 pair.1,i64 pair.2]) aKp e (d5.mono (zL d8 a8)) rfl rfl rfl) (bN rfl (fun _ ⟨_,e⟩=>dQ (t:=0) aJJ e e1 rfl rfl) (bN rfl (fun _ _=>qD rfl) (bN rfl (fun _ _=>cE (t':=10) aJK rfl rfl) (bN rfl (fun _ ⟨_,e⟩=>dQ (t:=10) aFX e (c4.mono a8) rfl rfl) (bN rfl (fun _ _=>mV (len:=p10_.length) jO rfl) ?_))))))
  have e3:=e2 _ _ e
  have e4:=e0 _ _ e3
  have e5:=d7 _ _ e4
  refine aFR rfl ?_;obtain ⟨m,e6,hm⟩:=aB hm
  refine aHD (i:=4) (k:=pair) (v:=(p10_.length:Int)) runUnderlying74 aEj e5 rfl rfl rfl rfl e6 (fun c5 (e7:aD G K (box b 102 [i64 pair.1,i64 pair.2]::box b5 77 c::box b4 55 d::J::cZ a m::l::L) c5)=>(aC ?_));refine jE (aC ?_)
  have c6:aD G K (box b 102 [i64 pair.1,i64 pair.2]::box b5 77 c::box b4 55 d::J::cZ a m::l::L) c5:=e7
  refine aCm (C:=fun w'=>∃ L',aD G K (box b 102 [i64 pair.1,i64 pair.2]::box b5 77 c::box b4 55 d::L') w') [(0,0),(1,0),(2,0),(3,0),(4,0),(5,0),(6,0),(7,1),(8,1),(9,1),(10,1),(11,1),(12,2),(13,2),(14,2)] Tryz_mixed (by kernel_rfl) (fun _ hg=>⟨_,aD.mono c6 hg⟩) (fun i9 e8=>?_)
  have c8:=aD.mono c6 e8
  refine aC ?_;refine bN rfl (fun _ _=>aKV (t':=0) (j:=0) aBo rfl rfl (by decide) (by decide) rfl) (aC ?_)
  refine fF rfl (aL (aKV (t':=1) (j:=1) aBo rfl rfl (by decide) (by decide) rfl) (aM (aG ⟨⟨_,c8⟩,?_⟩)))
  refine fF rfl ?_
  iterate 1 refine cO ?_
  refine aM (aG ⟨⟨_,c8⟩,?_⟩)
  refine fF rfl (nW ([pair.1,pair.2]:List Int) fun n e9 f0=>?_);refine aM (aG ⟨⟨_,lI⟩,?_⟩)
  refine fF rfl ?_
  have f1:aD G K (rows [2] ([(n,2)]:List (Dp.Hd (List Int))) [([pair.1,pair.2]:List Int)]::box b 102 [i64 pair.1,i64 pair.2]::box b5 77 c::box b4 55 d::J::cZ a m::l::L) e9:=aD.rowsOne f0
  refine iG (Kt:=K) (xs:=aY ([(n,2)]:List (Dp.Hd (List Int))) ([([pair.1,pair.2]:List Int)]:List (List Int))) (cs:=[zS n ([pair.1,pair.2]:List Int).length 2]) (vs:=[(0,zS n ([pair.1,pair.2]:List Int).length 2)]) jO aDu rfl rfl f1 rfl (by kernel_rfl) rfl rfl rfl ⟨rfl,trivial⟩ ?_
  intro f2 c9 (f3:aD G K (aF 28 K f2 1 (aY ([(n,2)]:List (Dp.Hd (List Int))) ([([pair.1,pair.2]:List Int)]:List (List Int)))::rows [2] ([(n,2)]:List (Dp.Hd (List Int))) ([([pair.1,pair.2]:List Int)]:List (List Int))::box b 102 [i64 pair.1,i64 pair.2]::box b5 77 c::box b4 55 d::J::cZ a m::l::L) c9)
  refine aM (aG ⟨⟨_,lI⟩,?_⟩)
  refine fF rfl ?_;obtain ⟨g,a5,f4,_,b0,_⟩:=aD.lendD' (i:=0) f3 rfl rfl rfl
  replace b0:aD G g (box b 102 [i64 pair.1,i64 pair.2]::box b5 77 c::box b4 55 d::J::cZ a m::l::L) c9:=b0
  obtain ⟨b1,f5,hm⟩:=aB hm
  refine aGA (i:=3) jO underlying36 aDu rfl rfl b0 rfl (zL a3 a5) f4 f5 rfl rfl rfl rfl (fun b2 b3 f6 (f7:aD G g (box b 102 [i64 pair.1,i64 pair.2]::box b5 77 c::box b4 55 d::aF 28 g b2 b3 b1::cZ a m::l::L) f6)=>(aM (aG ⟨⟨_,(aD.weakK f7 a5)⟩,?_⟩)))
  refine aFR rfl (aC ?_);refine aFR rfl (aC ?_)
  refine aFR rfl (kZ fun j0 f8=>?_);refine aC ?_
  refine jE (aC ?_);obtain ⟨j1,j2,f9,g0,g1⟩:=aD.lendBp f8 zt1
  obtain ⟨d0,g2,j3,j4,g3⟩:=aD.lendBp g0 zt1
  refine wW [(0,0),(1,0),(2,0),(3,0),(4,0),(5,1),(6,1),(7,1),(8,2),(9,2),(10,2)] fun j5 a7=>?_;refine aC ?_
  refine bN rfl (fun _ ⟨_,a7⟩=>dQ (t:=12) sc_75 a7 (f9.mono g2) rfl rfl) (fF rfl ?_)
  iterate 1 refine cO ?_
  refine aM (aG ⟨⟨_,a7⟩,?_⟩)
  refine fF rfl (iG (Kt:=g) (xs:=([path]:List (List aH))) (cs:=[zS a1 path.length c2]) (vs:=[(0,zS a1 path.length c2)]) aOF ez_24 rfl rfl a7 rfl (by kernel_rfl) rfl rfl rfl ⟨⟨a1,c2,rfl,(h3.mono a5)⟩,trivial⟩ (fun g4 g5 (d1:aD G d0 (aF 24 g g4 1 ([path]:List (List aH))::box b 102 [i64 pair.1,i64 pair.2]::aF 28 g b2 b3 b1::cZ a m::l::L) g5)=>(aM (aG ⟨⟨_,d1⟩,?_⟩))))
  refine fF rfl ?_;obtain ⟨g6,g7,hm⟩:=aB hm
  refine aJu (i:=3) g aOF underlying75 ez_24 rfl rfl d1 rfl (zL a3 a5) (zR _) g7 rfl rfl rfl rfl (fun _ _ _ h=>El.one h) (fun g8 g9 h0 (d2:aD G d0 (box b 102 [i64 pair.1,i64 pair.2]::aF 28 g b2 b3 b1::cZ a m::aF 24 g g8 g9 g6::L) h0)=>(aM (aG ⟨⟨_,d2⟩,?_⟩)))
  have h1:=g3 _ _ d2
  have j6:=g1 _ _ h1
  exact aJ
 ·refine aC ?_
  have h2:aD G K (box b 102 [i64 pair.1,i64 pair.2]::aF 28 K a24 c25 p10_::cZ a y::l::box b5 77 c::box b4 55 d::L) c1:=aD.weak (i:=1) c3 rfl (fun _ h=>aF.mono a3 h)
  have j7:aD G K (box b 102 [i64 pair.1,i64 pair.2]::aF 28 K a24 c25 p10_::cZ a y::aF 24 K a27 c28 p12_::box b5 77 c::box b4 55 d::L) c1:=aD.weak (i:=3) h2 rfl (fun _ h=>aF.mono a3 h)
  exact aJ
theorem aZ {a R:(List aH)} (hm:bT a=some R) (t:aD G K (L) w) (b:aN K a1 c2 a):
  Calls prog 30 ([zS a1 a.length c2]:List Value).toArray w (dS fun v w'=>∃ c d,v=zS c R.length d/\aD G K (aF 9 K c d R::L) w'):=by
 refine cH func30 ?_;unfold bT at hm
 iterate 9 refine cO ?_
 refine aL (aLK qX rfl rfl) (aC ?_)
 rcases aKo b with ⟨h,j,k⟩|l
 ·subst h;subst j;subst k
  refine aMa rfl ?_
  replace hm:(some [])=some R:=hm
  exact aJ
 ·refine aMb (Eq.trans rfl (congrArg Value.bool l)) (aC ?_);refine nW ([]:List aH) fun u x m=>?_
  refine aC ?_;obtain ⟨n,o,hm⟩:=aB hm
  refine aGA (i:=0) qX underlying24 ez_9 rfl rfl m rfl (zR _) b o rfl rfl rfl rfl (fun e g p (q:aD G K (aF 9 K e g n::L) p)=>(aC ?_));obtain rfl:=zI hm
  exact st_E results30 ⟨e,g,rfl,q⟩
theorem aDc {l:aH} {to_:(Int × Int)} {k2:Nat} {b6 b7:Int} {a5:(List aH)} {a7:(List Edge)} {a8:(List Int)} {b0:(List aH)} {b8 b9:Int} {b1:(List aH)} {b2:(List Edge)} {e:(List (List Int))} {d2:(List ((Int × Int) × Int))} {y:Nat} {m:(List (List aH))} {p:Int} {f4:Nat} {R:((List (List Int)) × (List ((Int × Int) × Int)) × (List (List aH)))} (hm:aAu l to_ b6 b7 a5 a7 a8 b0 b8 b9 b1 b2 e d2 m p=some R) (hs:aD G K (aF 28 Kf a24 c25 e::cZ y d2::aF 24 Kf a27 c28 m::box b5 77 [i64 b6,i64 b7,zS a6 a5.length c7,zS a9 a7.length c10,zS a12 a8.length c13,zS a15 b0.length c16,i64 b8,i64 b9,zS a18 b1.length c19,zS a21 b2.length c22,zS a24 e.length c25,zM (some y),zS a27 m.length c28]::box b4 55 [zP (some ⟨b5,0,none⟩)]::L) w) (g:Hp.le Kf K) (h3:bZ K a1 k2 [Value.func (.func 51) #[] #[zP (some ⟨b4,0,none⟩)]]) (h8:aN K a6 c7 a5) (c1:aN K a9 c10 a7) (c2:aN K a12 c13 a8) (c3:aN K a15 c16 b0) (c4:aN K a18 c19 b1) (c5:aN K a21 c22 b2) (u5:bZ K a29 f4 [i64 p]):
  Calls prog 53 ([str l,zA #[i64 to_.1,i64 to_.2],bR a1 k2,zP (some ⟨b4,0,none⟩),bR a29 f4]:List Value).toArray w (dS fun v w'=>∃ K' f5 f6 f7 f8,v=zT #[]/\Hp.le K K'/\aD G K' (aF 28 K' f5 f6 R.1::cZ y R.2.1::aF 24 K' f7 f8 R.2.2::box b5 77 [i64 b6,i64 b7,zS a6 a5.length c7,zS a9 a7.length c10,zS a12 a8.length c13,zS a15 b0.length c16,i64 b8,i64 b9,zS a18 b1.length c19,zS a21 b2.length c22,zS f5 R.1.length f6,zM (some y),zS f7 R.2.2.length f8]::box b4 55 [zP (some ⟨b5,0,none⟩)]::L) w'):=by
 let c:=[i64 b6,i64 b7,zS a6 a5.length c7,zS a9 a7.length c10,zS a12 a8.length c13,zS a15 b0.length c16,i64 b8,i64 b9,zS a18 b1.length c19,zS a21 b2.length c22,zS a24 e.length c25,zM (some y),zS a27 m.length c28]
 let b:=[zP (some ⟨b5,0,none⟩)]
 let c6:=[zP (some ⟨b4,0,none⟩)]
 let k:=aF 24 Kf a27 c28 m
 let d:=cZ y d2
 let n:=aF 28 Kf a24 c25 e
 refine cH func53 ?_;unfold aAu at hm
 refine aC ?_;refine oZ fun u6 j4 j5=>?_
 refine aC ?_;refine aW [] (fun f w=>∃ (c9:Hp) (d3:List (List Int)) (f9:(List ((Int × Int) × Int))) (d4:List (List aH)) (g0:Option Addr) (g1:Nat) (g2:Option Addr) (g3:Nat),Hp.le K c9/\aAK d3 f9 d4=some R/\aD G c9 (aF 24 c9 g2 g3 d4::aF 28 c9 g0 g1 d3::cZ y f9::box b5 77 [i64 b6,i64 b7,zS a6 a5.length c7,zS a9 a7.length c10,zS a12 a8.length c13,zS a15 b0.length c16,i64 b8,i64 b9,zS a18 b1.length c19,zS a21 b2.length c22,zS g0 d3.length g1,zM (some y),zS g2 d4.length g3]::box b4 55 b::L) w) aJ ?_
 obtain ⟨b3,a,u7,d5,_⟩:=aD.lendBp j5 .head
 replace d5:aD G b3 (n::d::k::box b5 77 c::box b4 55 b::L) j4:=d5
 refine aDR (C:=fun w'=>∃ L',aD G b3 L' w') [] Tryz_mixed (by kernel_rfl) (fun u8 j6=>?_)
 have J:=aD.mono d5 j6
 refine aEW 0 ?_;refine aEW 1 ?_
 refine aEW 6 ?_;refine aEW 10 ?_
 refine aBn (i:=2) (j:=11) (by kernel_rfl) rfl rfl ?_ ?_
 ·iterate 1 refine cO ?_
  refine aM (aG ⟨fun _=>⟨_,J⟩,?_⟩)
  refine aEW 3 ?_;refine aEW 4 ?_
  refine aBn (i:=5) (j:=11) (by kernel_rfl) rfl rfl ?_ ?_
  ·iterate 1 refine cO ?_
   refine aM (aG ⟨fun _=>⟨_,J⟩,?_⟩)
   obtain ⟨g4,d0,hm⟩:=aB hm
   have j7:=bC J (i:=2) rfl d0
   refine wE (i:=7) rfl (by kernel_rfl) ⟨_,J⟩ (fun _ _=>bV aOF rfl j7 rfl rfl rfl d0) (aBn (i:=8) (j:=11) (by kernel_rfl) rfl rfl ?_ ?_)
   ·obtain ⟨u9,j8,j9⟩:=aDh (sz:=1) rfl J (i:=2) rfl d0
    obtain ⟨k0,k1,rfl,g5⟩:=j9
    refine aL (aHf (t:=0) (v:=zS k0 g4.length k1) aHg j8 rfl rfl) (aM (aG ⟨fun _=>⟨_,J⟩,?_⟩))
    refine aBn (i:=9) (j:=11) (by kernel_rfl) rfl rfl ?_ ?_
    ·obtain ⟨v0,k3,hm⟩:=aB hm
     refine cG call30 (aZ k3 J (g5.mono (zL g a))) ?_
     rintro _ v1 ⟨v2,v3,rfl,k4⟩
     refine aM (aG ⟨fun _=>⟨_,k4⟩,?_⟩)
     refine cA (i:=11) (by kernel_rfl) rfl (nW ([l]:List aH) fun v4 v5 k5=>?_);refine aM (aG ⟨fun _=>⟨_,k5⟩,?_⟩)
     refine cA (i:=12) (by kernel_rfl) rfl ?_;obtain ⟨g6,v6,hm⟩:=aB hm
     refine aIw fun g7 g8 d6 g9=>?_;refine aM (aG ⟨fun _=>⟨_,g9⟩,?_⟩)
     refine cA (i:=13) (by kernel_rfl) rfl ?_;obtain ⟨V,o,k6,d7⟩:=aD.giveSp g9 a .head
     replace d7:aD G V (n::d::k::box b5 77 c::box b4 55 b::L) d6:=d7
     have k7:aD G V (aF 28 V a24 c25 e::d::k::box b5 77 c::box b4 55 b::L) d6:=aD.weak (i:=0) d7 rfl (fun _ h=>aF.mono (zL (zL g a) o) h)
     have k8:aD G V (aF 28 V a24 c25 e::d::aF 24 V a27 c28 m::box b5 77 c::box b4 55 b::L) d6:=aD.weak (i:=2) k7 rfl (fun _ h=>aF.mono (zL (zL g a) o) h)
     obtain ⟨d8,k9,hm⟩:=aB hm
     refine eR (vs:=[zA #[i64 to_.1,i64 to_.2],zS g7 g6.length g8]) (caps:=c6) (us:=[zA #[i64 to_.1,i64 to_.2],zS g7 g6.length g8,zP (some ⟨b4,0,none⟩)]) rfl call51 rfl rfl (iD (Kf:=V) k9 k8 (zR _) k6 (h8.mono (zL a o)) (c1.mono (zL a o)) (c2.mono (zL a o)) (c3.mono (zL a o)) (c4.mono (zL a o)) (c5.mono (zL a o))) ?_
     rintro _ v7 ⟨l0,l1,l2,l3,l4,rfl,h0,l5⟩
     refine aM (aG ⟨fun _=>⟨_,(aD.weakK l5 (zL o h0))⟩,?_⟩)
     refine pZ (by kernel_rfl) (aC ?_);exact ⟨aR,l0,d8.1,d8.2.1,d8.2.2,l1,l2,l3,l4,(zL (zL a o) h0),hm,lI⟩
    ·refine nW ([l]:List aH) fun l6 v8 h1=>?_;refine aM (aG ⟨fun _=>⟨_,h1⟩,?_⟩)
     refine cA (i:=9) (by kernel_rfl) rfl ?_;obtain ⟨l7,l8,hm⟩:=aB hm
     refine cG call30 (aZ l8 h1 (g5.mono (zL g a))) ?_
     rintro _ l9 ⟨m0,m1,rfl,m2⟩
     refine aM (aG ⟨fun _=>⟨_,m2⟩,?_⟩)
     refine cA (i:=12) (by kernel_rfl) rfl ?_;obtain ⟨h2,v9,hm⟩:=aB hm
     have w0:aD G b3 (aF 9 K l6 1 ([l]:List aH)::aF 9 K m0 m1 l7::n::d::k::box b5 77 c::box b4 55 b::L) l9:=lI
     refine aIw fun h4 h5 d9 h6=>?_;refine aM (aG ⟨fun _=>⟨_,h6⟩,?_⟩)
     refine cA (i:=13) (by kernel_rfl) rfl ?_;obtain ⟨Z,q,m3,e0⟩:=aD.giveSp h6 a .head
     replace e0:aD G Z (n::d::k::box b5 77 c::box b4 55 b::L) d9:=e0
     have m4:aD G Z (aF 28 Z a24 c25 e::d::k::box b5 77 c::box b4 55 b::L) d9:=aD.weak (i:=0) e0 rfl (fun _ h=>aF.mono (zL (zL g a) q) h)
     have m5:aD G Z (aF 28 Z a24 c25 e::d::aF 24 Z a27 c28 m::box b5 77 c::box b4 55 b::L) d9:=aD.weak (i:=2) m4 rfl (fun _ h=>aF.mono (zL (zL g a) q) h)
     obtain ⟨e1,m6,hm⟩:=aB hm
     refine eR (vs:=[zA #[i64 to_.1,i64 to_.2],zS h4 h2.length h5]) (caps:=c6) (us:=[zA #[i64 to_.1,i64 to_.2],zS h4 h2.length h5,zP (some ⟨b4,0,none⟩)]) rfl call51 rfl rfl (iD (Kf:=Z) m6 m5 (zR _) m3 (h8.mono (zL a q)) (c1.mono (zL a q)) (c2.mono (zL a q)) (c3.mono (zL a q)) (c4.mono (zL a q)) (c5.mono (zL a q))) ?_
     rintro _ w1 ⟨m7,m8,m9,n0,n1,rfl,h7,n2⟩
     refine aM (aG ⟨fun _=>⟨_,(aD.weakK n2 (zL q h7))⟩,?_⟩)
     refine pZ (by kernel_rfl) (aC ?_);exact ⟨aR,m7,e1.1,e1.2.1,e1.2.2,m8,m9,n0,n1,(zL (zL a q) h7),hm,lI⟩
   ·refine nW ([l]:List aH) fun n3 w2 d1=>?_;refine aM (aG ⟨fun _=>⟨_,d1⟩,?_⟩)
    refine cA (i:=8) (by kernel_rfl) rfl ?_;obtain ⟨w3,n4,n5⟩:=aDh (sz:=1) rfl d1 (i:=3) rfl d0
    obtain ⟨n6,n7,rfl,n8⟩:=n5
    refine aL (aHf (t:=0) (v:=zS n6 g4.length n7) aHg n4 rfl rfl) (aM (aG ⟨fun _=>⟨_,d1⟩,?_⟩))
    refine cA (i:=9) (by kernel_rfl) rfl ?_;obtain ⟨n9,o0,hm⟩:=aB hm
    refine cG call30 (aZ o0 d1 (n8.mono (zL g a))) ?_
    rintro _ o1 ⟨o2,o3,rfl,o4⟩
    refine aM (aG ⟨fun _=>⟨_,o4⟩,?_⟩)
    refine cA (i:=12) (by kernel_rfl) rfl ?_;obtain ⟨h9,w4,hm⟩:=aB hm
    have w5:aD G b3 (aF 9 K n3 1 ([l]:List aH)::aF 9 K o2 o3 n9::n::d::k::box b5 77 c::box b4 55 b::L) o1:=lI
    refine aIw fun i0 i1 e2 i2=>?_;refine aM (aG ⟨fun _=>⟨_,i2⟩,?_⟩)
    refine cA (i:=13) (by kernel_rfl) rfl ?_;obtain ⟨a0,r,o5,e3⟩:=aD.giveSp i2 a .head
    replace e3:aD G a0 (n::d::k::box b5 77 c::box b4 55 b::L) e2:=e3
    have o6:aD G a0 (aF 28 a0 a24 c25 e::d::k::box b5 77 c::box b4 55 b::L) e2:=aD.weak (i:=0) e3 rfl (fun _ h=>aF.mono (zL (zL g a) r) h)
    have o7:aD G a0 (aF 28 a0 a24 c25 e::d::aF 24 a0 a27 c28 m::box b5 77 c::box b4 55 b::L) e2:=aD.weak (i:=2) o6 rfl (fun _ h=>aF.mono (zL (zL g a) r) h)
    obtain ⟨e4,o8,hm⟩:=aB hm
    refine eR (vs:=[zA #[i64 to_.1,i64 to_.2],zS i0 h9.length i1]) (caps:=c6) (us:=[zA #[i64 to_.1,i64 to_.2],zS i0 h9.length i1,zP (some ⟨b4,0,none⟩)]) rfl call51 rfl rfl (iD (Kf:=a0) o8 o7 (zR _) o5 (h8.mono (zL a r)) (c1.mono (zL a r)) (c2.mono (zL a r)) (c3.mono (zL a r)) (c4.mono (zL a r)) (c5.mono (zL a r))) ?_
    rintro _ w6 ⟨o9,p0,p1,p2,p3,rfl,i3,p4⟩
    refine aM (aG ⟨fun _=>⟨_,(aD.weakK p4 (zL r i3))⟩,?_⟩)
    refine pZ (by kernel_rfl) (aC ?_);exact ⟨aR,o9,e4.1,e4.2.1,e4.2.2,p0,p1,p2,p3,(zL (zL a r) i3),hm,lI⟩
  ·refine nW ([l]:List aH) fun p5 w7 a2=>?_;refine aM (aG ⟨fun _=>⟨_,a2⟩,?_⟩)
   refine cA (i:=5) (by kernel_rfl) rfl ?_
   iterate 1 refine cO ?_
   refine aM (aG ⟨fun _=>⟨_,a2⟩,?_⟩)
   obtain ⟨p6,e5,hm⟩:=aB hm
   have p7:=bC a2 (i:=3) rfl e5
   refine wE (i:=7) rfl (by kernel_rfl) ⟨_,a2⟩ (fun _ _=>bV aOF rfl p7 rfl rfl rfl e5) (cA (i:=8) (by kernel_rfl) rfl ?_);obtain ⟨w8,p8,p9⟩:=aDh (sz:=1) rfl a2 (i:=3) rfl e5
   obtain ⟨q0,q1,rfl,q2⟩:=p9
   refine aL (aHf (t:=0) (v:=zS q0 p6.length q1) aHg p8 rfl rfl) (aM (aG ⟨fun _=>⟨_,a2⟩,?_⟩))
   refine cA (i:=9) (by kernel_rfl) rfl ?_;obtain ⟨q3,q4,hm⟩:=aB hm
   refine cG call30 (aZ q4 a2 (q2.mono (zL g a))) ?_
   rintro _ q5 ⟨q6,q7,rfl,q8⟩
   refine aM (aG ⟨fun _=>⟨_,q8⟩,?_⟩)
   refine cA (i:=12) (by kernel_rfl) rfl ?_;obtain ⟨i4,w9,hm⟩:=aB hm
   have x0:aD G b3 (aF 9 K p5 1 ([l]:List aH)::aF 9 K q6 q7 q3::n::d::k::box b5 77 c::box b4 55 b::L) q5:=lI
   refine aIw fun i5 i6 e6 i7=>?_;refine aM (aG ⟨fun _=>⟨_,i7⟩,?_⟩)
   refine cA (i:=13) (by kernel_rfl) rfl ?_;obtain ⟨a3,u,q9,e7⟩:=aD.giveSp i7 a .head
   replace e7:aD G a3 (n::d::k::box b5 77 c::box b4 55 b::L) e6:=e7
   have r0:aD G a3 (aF 28 a3 a24 c25 e::d::k::box b5 77 c::box b4 55 b::L) e6:=aD.weak (i:=0) e7 rfl (fun _ h=>aF.mono (zL (zL g a) u) h)
   have r1:aD G a3 (aF 28 a3 a24 c25 e::d::aF 24 a3 a27 c28 m::box b5 77 c::box b4 55 b::L) e6:=aD.weak (i:=2) r0 rfl (fun _ h=>aF.mono (zL (zL g a) u) h)
   obtain ⟨e8,r2,hm⟩:=aB hm
   refine eR (vs:=[zA #[i64 to_.1,i64 to_.2],zS i5 i4.length i6]) (caps:=c6) (us:=[zA #[i64 to_.1,i64 to_.2],zS i5 i4.length i6,zP (some ⟨b4,0,none⟩)]) rfl call51 rfl rfl (iD (Kf:=a3) r2 r1 (zR _) q9 (h8.mono (zL a u)) (c1.mono (zL a u)) (c2.mono (zL a u)) (c3.mono (zL a u)) (c4.mono (zL a u)) (c5.mono (zL a u))) ?_
   rintro _ x1 ⟨r3,r4,r5,r6,r7,rfl,i8,r8⟩
   refine aM (aG ⟨fun _=>⟨_,(aD.weakK r8 (zL u i8))⟩,?_⟩)
   refine pZ (by kernel_rfl) (aC ?_);exact ⟨aR,r3,e8.1,e8.2.1,e8.2.2,r4,r5,r6,r7,(zL (zL a u) i8),hm,lI⟩
 ·refine nW ([l]:List aH) fun r9 x2 z=>?_;refine aM (aG ⟨fun _=>⟨_,z⟩,?_⟩)
  refine cA (i:=2) (by kernel_rfl) rfl ?_
  iterate 1 refine cO ?_
  refine aM (aG ⟨fun _=>⟨_,z⟩,?_⟩)
  refine aEW 3 ?_;refine aEW 4 ?_
  refine cA (i:=5) (by kernel_rfl) rfl ?_
  iterate 1 refine cO ?_
  refine aM (aG ⟨fun _=>⟨_,z⟩,?_⟩)
  obtain ⟨s0,e9,hm⟩:=aB hm
  have s1:=bC z (i:=3) rfl e9
  refine wE (i:=7) rfl (by kernel_rfl) ⟨_,z⟩ (fun _ _=>bV aOF rfl s1 rfl rfl rfl e9) (cA (i:=8) (by kernel_rfl) rfl ?_);obtain ⟨x3,s2,s3⟩:=aDh (sz:=1) rfl z (i:=3) rfl e9
  obtain ⟨s4,s5,rfl,s6⟩:=s3
  refine aL (aHf (t:=0) (v:=zS s4 s0.length s5) aHg s2 rfl rfl) (aM (aG ⟨fun _=>⟨_,z⟩,?_⟩))
  refine cA (i:=9) (by kernel_rfl) rfl ?_;obtain ⟨s7,s8,hm⟩:=aB hm
  refine cG call30 (aZ s8 z (s6.mono (zL g a))) ?_
  rintro _ s9 ⟨t0,t1,rfl,t2⟩
  refine aM (aG ⟨fun _=>⟨_,t2⟩,?_⟩)
  refine cA (i:=12) (by kernel_rfl) rfl ?_;obtain ⟨i9,x4,hm⟩:=aB hm
  have x5:aD G b3 (aF 9 K r9 1 ([l]:List aH)::aF 9 K t0 t1 s7::n::d::k::box b5 77 c::box b4 55 b::L) s9:=lI
  refine aIw fun j0 j1 f0 j2=>?_;refine aM (aG ⟨fun _=>⟨_,j2⟩,?_⟩)
  refine cA (i:=13) (by kernel_rfl) rfl ?_;obtain ⟨a4,x,t3,f1⟩:=aD.giveSp j2 a .head
  replace f1:aD G a4 (n::d::k::box b5 77 c::box b4 55 b::L) f0:=f1
  have t4:aD G a4 (aF 28 a4 a24 c25 e::d::k::box b5 77 c::box b4 55 b::L) f0:=aD.weak (i:=0) f1 rfl (fun _ h=>aF.mono (zL (zL g a) x) h)
  have t5:aD G a4 (aF 28 a4 a24 c25 e::d::aF 24 a4 a27 c28 m::box b5 77 c::box b4 55 b::L) f0:=aD.weak (i:=2) t4 rfl (fun _ h=>aF.mono (zL (zL g a) x) h)
  obtain ⟨f2,t6,hm⟩:=aB hm
  refine eR (vs:=[zA #[i64 to_.1,i64 to_.2],zS j0 i9.length j1]) (caps:=c6) (us:=[zA #[i64 to_.1,i64 to_.2],zS j0 i9.length j1,zP (some ⟨b4,0,none⟩)]) rfl call51 rfl rfl (iD (Kf:=a4) t6 t5 (zR _) t3 (h8.mono (zL a x)) (c1.mono (zL a x)) (c2.mono (zL a x)) (c3.mono (zL a x)) (c4.mono (zL a x)) (c5.mono (zL a x))) ?_
  rintro _ x6 ⟨t7,t8,t9,u0,u1,rfl,j3,u2⟩
  refine aM (aG ⟨fun _=>⟨_,(aD.weakK u2 (zL x j3))⟩,?_⟩)
  refine pZ (by kernel_rfl) (aC ?_);exact ⟨aR,t7,f2.1,f2.2.1,f2.2.2,t8,t9,u0,u1,(zL (zL a x) j3),hm,lI⟩
theorem nF {m n:Int} {e:(List aH)} {g:(List Edge)} {o:(List Int)} {p:(List aH)} {j k:Int} {b:(List aH)} {c:(List Edge)} {u:(List (List Int))} {a9:(List ((Int × Int) × Int))} {a:Nat} {x:(List (List aH))} {pair:(List Int)} {b0:Nat} {d1:Int} {b2:Nat} {R:((List (List Int)) × (List ((Int × Int) × Int)) × (List (List aH)))} (hm:vE m n e g o p j k b c u a9 x pair d1=some R) (hs:aD G K (aF 28 Kf a20 c21 u::cZ a a9::aF 24 Kf a23 c24 x::box b1 77 [i64 m,i64 n,zS a2 e.length c3,zS a5 g.length c6,zS a8 o.length c9,zS a11 p.length c12,i64 j,i64 k,zS a14 b.length c15,zS a17 c.length c18,zS a20 u.length c21,zM (some a),zS a23 x.length c24]::box b31 55 [zP (some ⟨b1,0,none⟩)]::L) w) (d2:Hp.le Kf K) (h4:aN K a2 c3 e) (h7:aN K a5 c6 g) (f3:aN K a8 c9 o) (f4:aN K a11 c12 p) (d4:aN K a14 c15 b) (d5:aN K a17 c18 c) (d6:aN K a25 c26 pair) (f5:bZ K a28 b0 [Value.func (.func 51) #[] #[zP (some ⟨b31,0,none⟩)]]) (f6:bZ K a32 b2 [i64 d1]):
  Calls prog 52 ([zP (some ⟨b1,0,none⟩),zS a25 pair.length c26,Value.func (.func 53) #[] #[bR a28 b0,zP (some ⟨b31,0,none⟩),bR a32 b2]]:List Value).toArray w (dS fun v w'=>∃ K' d7 d8 d9 e0,v=zT #[]/\Hp.le K K'/\aD G K' (aF 28 K' d7 d8 R.1::cZ a R.2.1::aF 24 K' d9 e0 R.2.2::box b1 77 [i64 m,i64 n,zS a2 e.length c3,zS a5 g.length c6,zS a8 o.length c9,zS a11 p.length c12,i64 j,i64 k,zS a14 b.length c15,zS a17 c.length c18,zS d7 R.1.length d8,zM (some a),zS d9 R.2.2.length e0]::box b31 55 [zP (some ⟨b1,0,none⟩)]::L) w'):=by
 let e1:=[i64 m,i64 n,zS a2 e.length c3,zS a5 g.length c6,zS a8 o.length c9,zS a11 p.length c12,i64 j,i64 k,zS a14 b.length c15,zS a17 c.length c18,zS a20 u.length c21,zM (some a),zS a23 x.length c24]
 let y:=[zP (some ⟨b1,0,none⟩)]
 refine cH func52 ?_;unfold vE at hm
 refine aC ?_;obtain ⟨i5,e2,i6,i7,f7⟩:=aD.lendBp hs zt3
 refine wW [(0,0),(1,0),(2,0),(3,0),(4,0),(5,0),(6,0),(7,0),(10,0),(8,1),(9,0)] fun i8 f8=>?_;refine aC ?_
 obtain ⟨i9,f9,hm⟩:=aB hm
 refine aC ?_;obtain ⟨j0,j1,g0⟩:=aN.el (sz:=1) rfl d6 f9
 cases g0
 refine aC ?_;refine fF rfl ?_
 obtain ⟨J,g1,hm⟩:=aB hm
 refine cG call75 (jH (t:=⟨m,n,e,g⟩) g1 f8 (h4.mono e2) (h7.mono e2)) ?_
 rintro _ e3 ⟨V,Z,rfl,e4⟩
 refine aM (aG ⟨⟨_,e4⟩,?_⟩)
 refine aC ?_;refine jE ?_
 have g2:=f7 _ _ e4
 refine aC ?_;refine aK [] (fun f w=>∃ (b4:Hp) (c2:List (List Int)) (e5:(List ((Int × Int) × Int))) (c4:List (List aH)) (e6:Option Addr) (e7:Nat) (e8:Option Addr) (e9:Nat),Hp.le K b4/\aED c2 e5 c4=some R/\aD G b4 (aF 24 b4 e8 e9 c4::aF 28 b4 e6 e7 c2::box b1 77 [i64 m,i64 n,zS a2 e.length c3,zS a5 g.length c6,zS a8 o.length c9,zS a11 p.length c12,i64 j,i64 k,zS a14 b.length c15,zS a17 c.length c18,zS e6 c2.length e7,zM (some a),zS e8 c4.length e9]::cZ a e5::box b31 55 y::L) w) aJ ?_
 have g3:aD G K (box b1 77 e1::aF 90 K V Z J::aF 28 K a20 c21 u::cZ a a9::aF 24 Kf a23 c24 x::box b31 55 y::L) e3:=aD.weak (i:=2) g2 rfl (fun _ h=>aF.mono d2 h)
 have g4:aD G K (box b1 77 e1::aF 90 K V Z J::aF 28 K a20 c21 u::cZ a a9::aF 24 K a23 c24 x::box b31 55 y::L) e3:=aD.weak (i:=4) g3 rfl (fun _ h=>aF.mono d2 h)
 obtain ⟨j2,g5,ho⟩:=aB hm
 refine uX [0,1,2,19,20] g5 (fun a0 c5 a1 c7 f w=>∃ l a3 a4 a6 a7,Hp.le K l/\f 21=i64 c7/\aD G l (box b1 77 [i64 m,i64 n,zS a2 e.length c3,zS a5 g.length c6,zS a8 o.length c9,zS a11 p.length c12,i64 j,i64 k,zS a14 b.length c15,zS a17 c.length c18,zS a3 a0.length a4,zM (some a),zS a6 a1.length a7]::aF 90 K V Z J::aF 28 l a3 a4 a0::cZ a c5::aF 24 l a6 a7 a1::box b31 55 y::L) w) ?_ ?_
 ·exact ⟨K,a20,c21,a23,c24,(zR _),rfl,g4⟩
 ·rintro a0 c5 a1 c7 g6 f j3 hm hr ⟨l,a3,a4,a6,a7,d,g7,g8⟩
  unfold lX at hm
  refine aC ?_
  rcases aI hm with ⟨g9,hm⟩|⟨g9,hm⟩
  ·refine aC ?_;refine aK [0,1,2,19,20,21] (fun f w=>∃ (z:Hp) (b5:List (List Int)) (c8:(List ((Int × Int) × Int))) (b6:List (List aH)) (b7:Option Addr) (b8:Nat) (b9:Option Addr) (c0:Nat),Hp.le l z/\lW c7 b5 c8 b6=some g6/\aD G z (aF 24 z b9 c0 b6::aF 28 z b7 b8 b5::box b1 77 [i64 m,i64 n,zS a2 e.length c3,zS a5 g.length c6,zS a8 o.length c9,zS a11 p.length c12,i64 j,i64 k,zS a14 b.length c15,zS a17 c.length c18,zS b7 b5.length b8,zM (some a),zS b9 b6.length c0]::aF 90 K V Z J::cZ a c8::box b31 55 y::L) w) ?_ ?_
   ·rintro f j4 ⟨z,b5,c8,b6,b7,b8,b9,c0,h0,hm,j5⟩
    unfold lW at hm
    refine aC ?_;exact ⟨_,(zI hm).symm,aR,z,b7,b8,b9,c0,(zL d h0),rfl,lI⟩
   refine aC ?_;obtain ⟨q,f0,hm⟩:=aB hm
   have h1:=bC g8 (i:=1) rfl f0
   refine aL (bV eU rfl h1 rfl rfl g7 f0) (aC ?_);refine kK fun h2 j6 j7=>?_
   refine kZ fun j8 j9=>?_;refine aC ?_
   refine aEi ?_;refine aC ?_
   obtain ⟨d0,h3,hm⟩:=aB hm
   refine aC ?_;obtain ⟨k0,k1,h5⟩:=aN.el (sz:=1) rfl h4 h3
   cases h5
   refine aC ?_;refine oS (fun k2 f1=>(aC ?_))
   refine aEi ?_;refine aC ?_
   obtain ⟨h6,h8,hm⟩:=aB hm
   refine aC ?_;obtain ⟨k3,k4,h9⟩:=aN.el (sz:=1) rfl d6 h8
   cases h9
   refine aC ?_;obtain ⟨r,i0,hm⟩:=aB hm
   refine aDG (vs:=[zA #[i64 j,i64 k,zS a14 b.length c15,zS a17 c.length c18],i64 h6,str d0]) (v:=zT #[i64 r.1,Value.bool r.2]) call76 rfl (fun _ f1=>(mE (t:=⟨j,k,b,c⟩) i0 f1 (d4.mono d) (d5.mono d))) (aC ?_);refine oS (fun i1 k5=>(aC ?_))
   rcases aI hm with ⟨i2,hm⟩|⟨i2,hm⟩
   ·refine aC ?_;refine aL (uZ (vs:=[(0,i64 q.To),(1,i64 r.1)]) (cs:=[i64 q.To,i64 r.1]) aBo aFz rfl (by kernel_rfl)) ?_
    have i3:aD G l (aF 28 l a3 a4 a0::cZ a c5::aF 24 l a6 a7 a1::box b1 77 [i64 m,i64 n,zS a2 e.length c3,zS a5 g.length c6,zS a8 o.length c9,zS a11 p.length c12,i64 j,i64 k,zS a14 b.length c15,zS a17 c.length c18,zS a3 a0.length a4,zM (some a),zS a6 a1.length a7]::box b31 55 y::box h2 90 [i64 q.F,i64 q.B,i64 q.To]::aF 90 K V Z J::L) i1:=lI
    obtain ⟨k6,i4,hm⟩:=aB hm
    exact eR (vs:=[str d0,zA #[i64 q.To,i64 r.1]]) (caps:=[bR a28 b0,zP (some ⟨b31,0,none⟩),bR a32 b2]) (us:=[str d0,zA #[i64 q.To,i64 r.1],bR a28 b0,zP (some ⟨b31,0,none⟩),bR a32 b2]) rfl call53 rfl rfl (aDc (Kf:=l) (to_:=⟨q.To,r.1⟩) i4 i3 (zR _) (f5.mono d) (h4.mono d) (h7.mono d) (f3.mono d) (f4.mono d) (d4.mono d) (d5.mono d) (f6.mono d)) aJ
   ·exact aJ
  ·exact aJ
theorem aCa {p:aO} {r_:aP} {R:((List (List Int)) × (List ((Int × Int) × Int)) × (List (List aH)))} (hm:yQ p r_=some R) (hs:aD G K (L) w) (h3:aN K a1 c2 p.S.L) (h6:aN K a4 c5 p.S.E) (h9:aN K a7 c8 p.M) (b4:aN K a10 c11 p.C) (b5:aN K a13 c14 r_.L) (b6:aN K a16 c17 r_.E):
  Calls prog 20 ([zA (zEa p a1 c2 a4 c5 a7 c8 a10 c11),zA (zCa r_ a13 c14 a16 c17)]:List Value).toArray w (dS fun v w'=>∃ K' f8 f9 g0 g1 g2 g3,v=zP (some ⟨g3,0,none⟩)/\Hp.le K K'/\aD G K' (aF 28 K' f8 f9 R.1::cZ g0 R.2.1::aF 24 K' g1 g2 R.2.2::box g3 77 [i64 p.S.N,i64 p.S.I,zS a1 p.S.L.length c2,zS a4 p.S.E.length c5,zS a7 p.M.length c8,zS a10 p.C.length c11,i64 r_.N,i64 r_.I,zS a13 r_.L.length c14,zS a16 r_.E.length c17,zS f8 R.1.length f9,zM (some g0),zS g1 R.2.2.length g2]::L) w'):=by
 let b7:=(zE p a1 c2 a4 c5 a7 c8 a10 c11)
 let b8:=(zC r_ a13 c14 a16 c17)
 refine cH func20 ?_;unfold yQ at hm
 refine aC ?_;refine oZ fun b9 p1 p2=>?_
 refine oZ fun c0 p3 g6=>?_;refine aC ?_
 refine aHB (Int × Int) Int g6 ?_
 intro b g7 (p4:aD G K (cZ b ([]:(List ((Int × Int) × Int)))::box c0 27 b8::box b9 30 b7::L) g7)
 refine aL (jZ (vs:=[(0,zA (zEa p a1 c2 a4 c5 a7 c8 a10 c11)),(1,zA (zCa r_ a13 c14 a16 c17)),(3,zM (some b))]) (cs:=[i64 p.S.N,i64 p.S.I,zS a1 p.S.L.length c2,zS a4 p.S.E.length c5,zS a7 p.M.length c8,zS a10 p.C.length c11,i64 r_.N,i64 r_.I,zS a13 r_.L.length c14,zS a16 r_.E.length c17,zS none 0 0,zM (some b),zS none 0 0]) bs_77 rfl (by kernel_rfl)) (oZ fun c p5 p6=>?_);refine kK fun x p7 p8=>?_
 refine kZ fun p9 q0=>?_
 iterate 4 refine cO ?_
 refine aL (kI (vs:=[zP (some ⟨x,0,none⟩)]) rfl) (kK fun g4 q1 q2=>?_);refine kZ fun g8 g9=>?_
 refine aC ?_;refine aL (uZ (vs:=[(0,i64 p.S.I),(1,i64 r_.I)]) (cs:=[i64 p.S.I,i64 r_.I]) aBo aFz rfl (by kernel_rfl)) ?_
 have h0:=aD.nil (α:=(List Int)) g9 28 K
 have q3:=aD.nil (α:=(List aH)) h0 24 K
 have h1:aD G K (aF 28 K none 0 ([]:List (List Int))::cZ b ([]:(List ((Int × Int) × Int)))::aF 24 K none 0 ([]:List (List aH))::box c 77 [i64 p.S.N,i64 p.S.I,zS a1 p.S.L.length c2,zS a4 p.S.E.length c5,zS a7 p.M.length c8,zS a10 p.C.length c11,i64 r_.N,i64 r_.I,zS a13 r_.L.length c14,zS a16 r_.E.length c17,zS none 0 0,zM (some b),zS none 0 0]::box x 55 [zP (some ⟨c,0,none⟩)]::box g4 104 [Value.func (.func 51) #[] #[zP (some ⟨x,0,none⟩)]]::box c0 27 b8::box b9 30 b7::L) g8:=lI
 obtain ⟨y,h2,hm⟩:=aB hm
 have hcl:=iD (Kf:=K) (pair:=⟨p.S.I,r_.I⟩) (path:=[]) (p10_:=[]) (p12_:=[]) h2 h1 (zR _) (aIh (α:=aH) _) h3 h6 h9 b4 b5 b6
 refine eR (vs:=[zA #[i64 p.S.I,i64 r_.I],zS none 0 0]) (caps:=[zP (some ⟨x,0,none⟩)]) (us:=[zA #[i64 p.S.I,i64 r_.I],zS none 0 0,zP (some ⟨x,0,none⟩)]) rfl call51 rfl rfl hcl ?_
 rintro _ q4 ⟨c4,a3,a5,a6,a8,rfl,l,q5⟩
 refine aC ?_;refine kK fun e2 q6 q7=>?_
 refine kZ fun e3 h4=>?_;refine aC ?_
 refine aK [5] (fun f w=>∃ (a9:Hp) (c6:List (List Int)) (e4:(List ((Int × Int) × Int))) (c7:List (List aH)) (c9:Option Addr) (d0:Nat) (d1:Option Addr) (d2:Nat),Hp.le c4 a9/\aAv c6 e4 c7=some R/\aD G a9 (aF 24 a9 d1 d2 c7::aF 28 a9 c9 d0 c6::cZ b e4::box c 77 [i64 p.S.N,i64 p.S.I,zS a1 p.S.L.length c2,zS a4 p.S.E.length c5,zS a7 p.M.length c8,zS a10 p.C.length c11,i64 r_.N,i64 r_.I,zS a13 r_.L.length c14,zS a16 r_.E.length c17,zS c9 c6.length d0,zM (some b),zS d1 c7.length d2]::box x 55 [zP (some ⟨c,0,none⟩)]::L) w) ?_ ?_
 ·rintro f q8 ⟨a9,c6,e4,c7,c9,d0,d1,d2,h5,hm,q9⟩
  unfold aAv at hm
  refine aC ?_;obtain rfl:=zI hm
  exact st_E results20 ⟨a9,c9,d0,b,d1,d2,c,rfl,(zL l h5),lI⟩
 obtain ⟨a0,g,d3,e5,_⟩:=aD.lendBp h4 zt6
 replace e5:aD G a0 (box e2 3 [i64 0]::aF 28 c4 a3 a5 y.1::cZ b y.2.1::aF 24 c4 a6 a8 y.2.2::box c 77 [i64 p.S.N,i64 p.S.I,zS a1 p.S.L.length c2,zS a4 p.S.E.length c5,zS a7 p.M.length c8,zS a10 p.C.length c11,i64 r_.N,i64 r_.I,zS a13 r_.L.length c14,zS a16 r_.E.length c17,zS a3 y.1.length a5,zM (some b),zS a6 y.2.2.length a8]::box x 55 [zP (some ⟨c,0,none⟩)]::box c0 27 b8::box b9 30 b7::L) e3:=e5
 have h8:aD G a0 (box e2 3 [i64 0]::aF 28 a0 a3 a5 y.1::cZ b y.2.1::aF 24 c4 a6 a8 y.2.2::box c 77 [i64 p.S.N,i64 p.S.I,zS a1 p.S.L.length c2,zS a4 p.S.E.length c5,zS a7 p.M.length c8,zS a10 p.C.length c11,i64 r_.N,i64 r_.I,zS a13 r_.L.length c14,zS a16 r_.E.length c17,zS a3 y.1.length a5,zM (some b),zS a6 y.2.2.length a8]::box x 55 [zP (some ⟨c,0,none⟩)]::box c0 27 b8::box b9 30 b7::L) e3:=aD.weak (i:=1) e5 rfl (fun _ h=>aF.mono g h)
 have r0:aD G a0 (box e2 3 [i64 0]::aF 28 a0 a3 a5 y.1::cZ b y.2.1::aF 24 a0 a6 a8 y.2.2::box c 77 [i64 p.S.N,i64 p.S.I,zS a1 p.S.L.length c2,zS a4 p.S.E.length c5,zS a7 p.M.length c8,zS a10 p.C.length c11,i64 r_.N,i64 r_.I,zS a13 r_.L.length c14,zS a16 r_.E.length c17,zS a3 y.1.length a5,zM (some b),zS a6 y.2.2.length a8]::box x 55 [zP (some ⟨c,0,none⟩)]::box c0 27 b8::box b9 30 b7::L) e3:=aD.weak (i:=3) h8 rfl (fun _ h=>aF.mono g h)
 obtain ⟨r1,i0,ho⟩:=aB hm
 refine uX [5,6] i0 (fun m z n d4 f w=>∃ J o q r u b0,Hp.le a0 J/\f 7=zP (some ⟨b0,0,none⟩)/\aD G J (box b0 3 [i64 d4]::aF 28 J o q m::cZ b z::aF 24 J r u n::box c 77 [i64 p.S.N,i64 p.S.I,zS a1 p.S.L.length c2,zS a4 p.S.E.length c5,zS a7 p.M.length c8,zS a10 p.C.length c11,i64 r_.N,i64 r_.I,zS a13 r_.L.length c14,zS a16 r_.E.length c17,zS o m.length q,zM (some b),zS r n.length u]::box x 55 [zP (some ⟨c,0,none⟩)]::L) w) aJ ?_
 ·rintro m z n d4 i1 f r2 hm hr ⟨J,o,q,r,u,b0,d,c1,r3⟩
  unfold vF at hm
  refine aC ?_;refine aEi ?_
  refine aC ?_;refine oS (fun i2 i3=>(aC ?_))
  rcases aI hm with ⟨i4,hm⟩|⟨i4,hm⟩
  ·refine aC ?_;refine cR (aW [5,6] (fun f w=>∃ (a2:Hp) (d5:List (List Int)) (e6:(List ((Int × Int) × Int))) (d6:List (List aH)) (d7:Option Addr) (d8:Nat) (d9:Option Addr) (e0:Nat),Hp.le J a2/\aDm d4 d5 e6 d6=some i1/\f 7=bR (some ⟨b0,0,none⟩) 0/\bZ a2 (some ⟨b0,0,none⟩) 0 [i64 d4]/\aD G a2 (aF 24 a2 d9 e0 d6::aF 28 a2 d7 d8 d5::cZ b e6::box c 77 [i64 p.S.N,i64 p.S.I,zS a1 p.S.L.length c2,zS a4 p.S.E.length c5,zS a7 p.M.length c8,zS a10 p.C.length c11,i64 r_.N,i64 r_.I,zS a13 r_.L.length c14,zS a16 r_.E.length c17,zS d7 d5.length d8,zM (some b),zS d9 d6.length e0]::box x 55 [zP (some ⟨c,0,none⟩)]::L) w) ?_ ?_)
   ·rintro f r4 ⟨a2,d5,e6,d6,d7,d8,d9,e0,i5,hm,r5,r6,r7⟩
    unfold aDm at hm
    refine aC ?_;refine kK fun i6 r8 r9=>?_
    refine kZ fun s0 s1=>?_;refine aC ?_
    refine kZ fun s2 s3=>?_;refine aC ?_
    exact ⟨_,(zI hm).symm,aR,a2,d7,d8,d9,e0,i6,(zL d i5),rfl,lI⟩
   obtain ⟨k,a,V,e7,_⟩:=aD.lendBp i3 .head
   replace e7:aD G k (aF 28 J o q m::cZ b z::aF 24 J r u n::box c 77 [i64 p.S.N,i64 p.S.I,zS a1 p.S.L.length c2,zS a4 p.S.E.length c5,zS a7 p.M.length c8,zS a10 p.C.length c11,i64 r_.N,i64 r_.I,zS a13 r_.L.length c14,zS a16 r_.E.length c17,zS o m.length q,zM (some b),zS r n.length u]::box x 55 [zP (some ⟨c,0,none⟩)]::L) i2:=e7
   refine aDR (C:=fun w'=>∃ L',aD G k L' w') [] Tryz_mixed (by kernel_rfl) (fun Z i7=>?_)
   have e:=aD.mono e7 i7
   refine aEW 5 ?_;refine wE (i:=8) rfl (by kernel_rfl) ⟨_,e⟩ (fun _ _=>kI (vs:=[bR (some ⟨g4,0,none⟩) 0,zP (some ⟨x,0,none⟩),bR (some ⟨b0,0,none⟩) 0]) (lst3 (aOx rfl) rfl (aOx c1))) (aBn (i:=0) (j:=1) (by kernel_rfl) rfl rfl ?_ ?_)
   ·iterate 1 refine cO ?_
    refine aM (aG ⟨fun _=>⟨_,e⟩,?_⟩)
    refine cA (i:=1) (by kernel_rfl) rfl ?_
    iterate 1 refine cO ?_
    refine aM (aG ⟨fun _=>⟨_,e⟩,?_⟩)
    refine aEW 2 ?_;refine aEW 3 ?_
    refine cA (i:=4) (by kernel_rfl) rfl ?_
    iterate 1 refine cO ?_
    refine aM (aG ⟨fun _=>⟨_,e⟩,?_⟩)
    obtain ⟨i8,e8,hm⟩:=aB hm
    have i9:=bC e (i:=0) rfl e8
    refine wE (i:=6) rfl (by kernel_rfl) ⟨_,e⟩ (fun _ _=>bV jO rfl i9 rfl rfl rfl e8) (cA (i:=7) (by kernel_rfl) rfl ?_);obtain ⟨s4,j0,j1⟩:=aDh (sz:=1) rfl e (i:=0) rfl e8
    obtain ⟨j2,j3,rfl,j4⟩:=j1
    refine aL (aHf (t:=0) (v:=zS j2 i8.length j3) aCe j0 rfl rfl) (aM (aG ⟨fun _=>⟨_,e⟩,?_⟩))
    refine cA (i:=9) (by kernel_rfl) rfl ?_
    have j5:aD G k (aF 28 k o q m::cZ b z::aF 24 J r u n::box c 77 [i64 p.S.N,i64 p.S.I,zS a1 p.S.L.length c2,zS a4 p.S.E.length c5,zS a7 p.M.length c8,zS a10 p.C.length c11,i64 r_.N,i64 r_.I,zS a13 r_.L.length c14,zS a16 r_.E.length c17,zS o m.length q,zM (some b),zS r n.length u]::box x 55 [zP (some ⟨c,0,none⟩)]::L) Z:=aD.weak (i:=0) e rfl (fun _ h=>aF.mono a h)
    have j6:aD G k (aF 28 k o q m::cZ b z::aF 24 k r u n::box c 77 [i64 p.S.N,i64 p.S.I,zS a1 p.S.L.length c2,zS a4 p.S.E.length c5,zS a7 p.M.length c8,zS a10 p.C.length c11,i64 r_.N,i64 r_.I,zS a13 r_.L.length c14,zS a16 r_.E.length c17,zS o m.length q,zM (some b),zS r n.length u]::box x 55 [zP (some ⟨c,0,none⟩)]::L) Z:=aD.weak (i:=2) j5 rfl (fun _ h=>aF.mono a h)
    obtain ⟨e9,j7,hm⟩:=aB hm
    refine cG call52 (nF (Kf:=k) j7 j6 (zR _) (h3.mono (zL (zL (zL l g) d) a)) (h6.mono (zL (zL (zL l g) d) a)) (h9.mono (zL (zL (zL l g) d) a)) (b4.mono (zL (zL (zL l g) d) a)) (b5.mono (zL (zL (zL l g) d) a)) (b6.mono (zL (zL (zL l g) d) a)) (j4.mono a) (d3.mono (zL d a)) V) ?_
    rintro _ s5 ⟨j8,j9,k0,k1,k2,rfl,f0,k3⟩
    refine aM (aG ⟨fun _=>⟨_,(aD.weakK k3 f0)⟩,?_⟩)
    refine pZ (by kernel_rfl) (aC ?_);exact ⟨aR,j8,e9.1,e9.2.1,e9.2.2,j9,k0,k1,k2,(zL a f0),hm,(aOx c1),(V.mono f0),lI⟩
   ·iterate 1 refine cO ?_
    refine aM (aG ⟨fun _=>⟨_,e⟩,?_⟩)
    refine aEW 2 ?_;refine aEW 3 ?_
    refine aBn (i:=0) (j:=4) (by kernel_rfl) rfl rfl ?_ ?_
    ·iterate 1 refine cO ?_
     refine aM (aG ⟨fun _=>⟨_,e⟩,?_⟩)
     refine cA (i:=4) (by kernel_rfl) rfl ?_
     iterate 1 refine cO ?_
     refine aM (aG ⟨fun _=>⟨_,e⟩,?_⟩)
     obtain ⟨k4,f1,hm⟩:=aB hm
     have k5:=bC e (i:=0) rfl f1
     refine wE (i:=6) rfl (by kernel_rfl) ⟨_,e⟩ (fun _ _=>bV jO rfl k5 rfl rfl rfl f1) (cA (i:=7) (by kernel_rfl) rfl ?_);obtain ⟨s6,k6,k7⟩:=aDh (sz:=1) rfl e (i:=0) rfl f1
     obtain ⟨k8,k9,rfl,l0⟩:=k7
     refine aL (aHf (t:=0) (v:=zS k8 k4.length k9) aCe k6 rfl rfl) (aM (aG ⟨fun _=>⟨_,e⟩,?_⟩))
     refine cA (i:=9) (by kernel_rfl) rfl ?_
     have l1:aD G k (aF 28 k o q m::cZ b z::aF 24 J r u n::box c 77 [i64 p.S.N,i64 p.S.I,zS a1 p.S.L.length c2,zS a4 p.S.E.length c5,zS a7 p.M.length c8,zS a10 p.C.length c11,i64 r_.N,i64 r_.I,zS a13 r_.L.length c14,zS a16 r_.E.length c17,zS o m.length q,zM (some b),zS r n.length u]::box x 55 [zP (some ⟨c,0,none⟩)]::L) Z:=aD.weak (i:=0) e rfl (fun _ h=>aF.mono a h)
     have l2:aD G k (aF 28 k o q m::cZ b z::aF 24 k r u n::box c 77 [i64 p.S.N,i64 p.S.I,zS a1 p.S.L.length c2,zS a4 p.S.E.length c5,zS a7 p.M.length c8,zS a10 p.C.length c11,i64 r_.N,i64 r_.I,zS a13 r_.L.length c14,zS a16 r_.E.length c17,zS o m.length q,zM (some b),zS r n.length u]::box x 55 [zP (some ⟨c,0,none⟩)]::L) Z:=aD.weak (i:=2) l1 rfl (fun _ h=>aF.mono a h)
     obtain ⟨f2,l3,hm⟩:=aB hm
     refine cG call52 (nF (Kf:=k) l3 l2 (zR _) (h3.mono (zL (zL (zL l g) d) a)) (h6.mono (zL (zL (zL l g) d) a)) (h9.mono (zL (zL (zL l g) d) a)) (b4.mono (zL (zL (zL l g) d) a)) (b5.mono (zL (zL (zL l g) d) a)) (b6.mono (zL (zL (zL l g) d) a)) (l0.mono a) (d3.mono (zL d a)) V) ?_
     rintro _ s7 ⟨l4,l5,l6,l7,l8,rfl,f3,l9⟩
     refine aM (aG ⟨fun _=>⟨_,(aD.weakK l9 f3)⟩,?_⟩)
     refine pZ (by kernel_rfl) (aC ?_);exact ⟨aR,l4,f2.1,f2.2.1,f2.2.2,l5,l6,l7,l8,(zL a f3),hm,(aOx c1),(V.mono f3),lI⟩
    ·iterate 1 refine cO ?_
     refine aM (aG ⟨fun _=>⟨_,e⟩,?_⟩)
     obtain ⟨g5,e1,hm⟩:=aB hm
     have m0:=bC e (i:=0) rfl e1
     refine wE (i:=6) rfl (by kernel_rfl) ⟨_,e⟩ (fun _ _=>bV jO rfl m0 rfl rfl rfl e1) (aBn (i:=0) (j:=7) (by kernel_rfl) rfl rfl ?_ ?_)
     ·iterate 1 refine cO ?_
      refine aM (aG ⟨fun _=>⟨_,e⟩,?_⟩)
      refine cA (i:=7) (by kernel_rfl) rfl ?_;obtain ⟨s8,m1,m2⟩:=aDh (sz:=1) rfl e (i:=0) rfl e1
      obtain ⟨m3,m4,rfl,m5⟩:=m2
      refine aL (aHf (t:=0) (v:=zS m3 g5.length m4) aCe m1 rfl rfl) (aM (aG ⟨fun _=>⟨_,e⟩,?_⟩))
      refine cA (i:=9) (by kernel_rfl) rfl ?_
      have m6:aD G k (aF 28 k o q m::cZ b z::aF 24 J r u n::box c 77 [i64 p.S.N,i64 p.S.I,zS a1 p.S.L.length c2,zS a4 p.S.E.length c5,zS a7 p.M.length c8,zS a10 p.C.length c11,i64 r_.N,i64 r_.I,zS a13 r_.L.length c14,zS a16 r_.E.length c17,zS o m.length q,zM (some b),zS r n.length u]::box x 55 [zP (some ⟨c,0,none⟩)]::L) Z:=aD.weak (i:=0) e rfl (fun _ h=>aF.mono a h)
      have m7:aD G k (aF 28 k o q m::cZ b z::aF 24 k r u n::box c 77 [i64 p.S.N,i64 p.S.I,zS a1 p.S.L.length c2,zS a4 p.S.E.length c5,zS a7 p.M.length c8,zS a10 p.C.length c11,i64 r_.N,i64 r_.I,zS a13 r_.L.length c14,zS a16 r_.E.length c17,zS o m.length q,zM (some b),zS r n.length u]::box x 55 [zP (some ⟨c,0,none⟩)]::L) Z:=aD.weak (i:=2) m6 rfl (fun _ h=>aF.mono a h)
      obtain ⟨f4,m8,hm⟩:=aB hm
      refine cG call52 (nF (Kf:=k) m8 m7 (zR _) (h3.mono (zL (zL (zL l g) d) a)) (h6.mono (zL (zL (zL l g) d) a)) (h9.mono (zL (zL (zL l g) d) a)) (b4.mono (zL (zL (zL l g) d) a)) (b5.mono (zL (zL (zL l g) d) a)) (b6.mono (zL (zL (zL l g) d) a)) (m5.mono a) (d3.mono (zL d a)) V) ?_
      rintro _ s9 ⟨m9,n0,n1,n2,n3,rfl,f5,n4⟩
      refine aM (aG ⟨fun _=>⟨_,(aD.weakK n4 f5)⟩,?_⟩)
      refine pZ (by kernel_rfl) (aC ?_);exact ⟨aR,m9,f4.1,f4.2.1,f4.2.2,n0,n1,n2,n3,(zL a f5),hm,(aOx c1),(V.mono f5),lI⟩
     ·obtain ⟨t0,n5,n6⟩:=aDh (sz:=1) rfl e (i:=0) rfl e1
      obtain ⟨n7,n8,rfl,n9⟩:=n6
      refine aL (aHf (t:=0) (v:=zS n7 g5.length n8) aCe n5 rfl rfl) (aM (aG ⟨fun _=>⟨_,e⟩,?_⟩))
      refine cA (i:=0) (by kernel_rfl) rfl ?_
      iterate 1 refine cO ?_
      refine aM (aG ⟨fun _=>⟨_,e⟩,?_⟩)
      refine cA (i:=9) (by kernel_rfl) rfl ?_
      have o0:aD G k (aF 28 k o q m::cZ b z::aF 24 J r u n::box c 77 [i64 p.S.N,i64 p.S.I,zS a1 p.S.L.length c2,zS a4 p.S.E.length c5,zS a7 p.M.length c8,zS a10 p.C.length c11,i64 r_.N,i64 r_.I,zS a13 r_.L.length c14,zS a16 r_.E.length c17,zS o m.length q,zM (some b),zS r n.length u]::box x 55 [zP (some ⟨c,0,none⟩)]::L) Z:=aD.weak (i:=0) e rfl (fun _ h=>aF.mono a h)
      have o1:aD G k (aF 28 k o q m::cZ b z::aF 24 k r u n::box c 77 [i64 p.S.N,i64 p.S.I,zS a1 p.S.L.length c2,zS a4 p.S.E.length c5,zS a7 p.M.length c8,zS a10 p.C.length c11,i64 r_.N,i64 r_.I,zS a13 r_.L.length c14,zS a16 r_.E.length c17,zS o m.length q,zM (some b),zS r n.length u]::box x 55 [zP (some ⟨c,0,none⟩)]::L) Z:=aD.weak (i:=2) o0 rfl (fun _ h=>aF.mono a h)
      obtain ⟨f6,o2,hm⟩:=aB hm
      refine cG call52 (nF (Kf:=k) o2 o1 (zR _) (h3.mono (zL (zL (zL l g) d) a)) (h6.mono (zL (zL (zL l g) d) a)) (h9.mono (zL (zL (zL l g) d) a)) (b4.mono (zL (zL (zL l g) d) a)) (b5.mono (zL (zL (zL l g) d) a)) (b6.mono (zL (zL (zL l g) d) a)) (n9.mono a) (d3.mono (zL d a)) V) ?_
      rintro _ t1 ⟨o3,o4,o5,o6,o7,rfl,f7,o8⟩
      refine aM (aG ⟨fun _=>⟨_,(aD.weakK o8 f7)⟩,?_⟩)
      refine pZ (by kernel_rfl) (aC ?_);exact ⟨aR,o3,f6.1,f6.2.1,f6.2.2,o4,o5,o6,o7,(zL a f7),hm,(aOx c1),(V.mono f7),lI⟩
  ·refine aC ?_
   have o9:=hr _ (zI hm).symm
   subst o9
   have hm:(aAv m z n)=some R:=ho
   clear hr ho
   refine aC ?_;exact ⟨aR,J,m,z,n,o,q,r,u,(zL g d),hm,lI⟩
theorem tW {b R:(List Edge)} (hm:cT b=some R) (hs:aD G K (aF 90 K a1 c2 b::L) w):
  Calls prog 118 ([zS a1 b.length c2]:List Value).toArray w (dS fun v w'=>∃ J V,v=zS J R.length V/\aD G K (aF 90 K J V R::L) w'):=by
 refine cH func118 ?_;unfold cT at hm
 refine aC ?_
 rcases aI hm with ⟨c3,hm⟩|⟨c3,hm⟩
 ·exact aJ
 ·refine aC ?_;refine aK [0] (fun f w=>kQ b=some R/\aD G K (aF 90 K a1 c2 b::L) w) aJ ?_
  obtain ⟨e8,b7,ho⟩:=aB hm
  refine bY [0] b7 (fun d f w=>f 3=i64 d/\aD G K (aF 90 K a1 c2 b::L) w) aJ ?_
  ·rintro d Z f e9 hm hr ⟨f0,e⟩
   unfold cL at hm
   refine aC ?_
   rcases aI hm with ⟨b8,hm⟩|⟨b8,hm⟩
   ·refine aC ?_;refine aK [0] (fun f w=>dO d=some Z/\f 3=i64 d/\aD G K (aF 90 K a1 c2 b::L) w) ?_ ?_
    ·rintro f f1 ⟨hm,f2,b9⟩
     unfold dO at hm
     refine aC ?_;exact ⟨_,(zI hm).symm,aR,rfl,b9⟩
    refine aC ?_;refine aEi ?_
    refine aC ?_;obtain ⟨c0,a0,hm⟩:=aB hm
    have c:=bC e (i:=0) rfl a0
    refine jN (fun _ e=>bV eU rfl c rfl rfl rfl a0) (aC ?_);obtain ⟨c1,c4,hm⟩:=aB hm
    refine jN (fun _ e=>bV eU rfl c rfl rfl rfl c4) (aC ?_);refine jN (fun _ e=>R_eqlG (eq_90 (x:=c0) (y:=c1)) rfl rfl) (oS (fun f3 c5=>(aC ?_)))
    rcases aI hm with ⟨c6,hm⟩|⟨c6,hm⟩
    ·refine aC ?_;obtain ⟨f4,g,hm⟩:=aB hm
     have j:=iW c5 (i:=0) rfl
     obtain ⟨f5,f6,k⟩:=Cut.ex 3 a1 c2 d
     refine aL (aAD eU j k rfl rfl rfl g) (aC ?_);refine aK [] (fun f w=>∃ l m,fO l m=some Z/\f 0=zS a1 l.length c2/\f 3=i64 m/\aD G K (aF 90 K a1 c2 l::L) w) ?_ ?_
     ·rintro f f7 ⟨l,m,hm,c7,f8,a2⟩
      unfold fO at hm
      refine aC ?_;obtain ⟨f9,c8,hm⟩:=aB hm
      have c9:=iW a2 (i:=0) rfl
      obtain ⟨g0,g1,a3⟩:=Cut.ex 3 a1 c2 m
      refine aL (aAD eU c9 a3 rfl rfl rfl c8) ?_;obtain ⟨a4,a5,hm⟩:=aB hm
      refine aFT eU aFc rfl a2 (i:=0) rfl a3 rfl rfl a5 (fun a6 (a7:aD G K (aF 90 K a1 c2 a4::L) a6)=>?_)
      iterate 4 refine cO ?_
      refine gN (v:=zS a1 a4.length c2) (Eq.trans c7 (congrArg (fun n=>zS a1 n c2) (aDF a5))) (aC ?_);obtain ⟨a8,a9,hm⟩:=aB hm
      have d0:=iW a7 (i:=0) rfl
      obtain ⟨d1,d2,b0⟩:=Cut.ex 3 a1 c2 0
      refine aL (aFy eU d0 b0 rfl rfl rfl a9) (aC ?_);refine aFP (aHv (sO (sO (sO ?_))))
      have d3:=hr _ (zI hm).symm
      subst d3
      have hm:(some a8)=some R:=ho
      clear hr ho
      have g2:aD G K (aF 90 K d1 d2 a8::L) a6:=aD.cutP a7 (i:=0) rfl a9 b0
      exact aJ
     obtain ⟨g3,d4,ho⟩:=aB hm
     refine mW [4] d4 (fun p q r f w=>f 0=zS a1 p.length c2/\f 3=i64 q/\f 5=i64 r/\aD G K (aF 90 K a1 c2 p::L) w) aJ ?_
     ·rintro p q r d5 f g4 hm hr ⟨d6,g5,g6,u⟩
      unfold kR at hm
      refine aC ?_
      rcases aI hm with ⟨d7,hm⟩|⟨d7,hm⟩
      ·refine aC ?_;refine aK [4,5] (fun f w=>∃ o z,dP r o z=some d5/\f 0=zS a1 o.length c2/\f 3=i64 z/\aD G K (aF 90 K a1 c2 o::L) w) ?_ ?_
       ·rintro f g7 ⟨o,z,hm,d8,d9,e0⟩
        unfold dP at hm
        refine aC ?_;exact ⟨_,(zI hm).symm,aR,d8,d9,rfl,e0⟩
       refine aC ?_;refine aEi ?_
       refine aC ?_;obtain ⟨g8,b1,hm⟩:=aB hm
       obtain ⟨a,e1,hm⟩:=aB hm
       refine jN (fun _ u=>aJD eU c k g j rfl rfl rfl b1 rfl) (aC ?_);obtain ⟨g9,e2,hm⟩:=aB hm
       obtain ⟨e3,h0,hm⟩:=aB hm
       refine jN (fun _ u=>aJD eU c k g j rfl rfl rfl e2 rfl) (aC ?_);refine jN (fun _ u=>R_neqG (eq_90 (x:=a) (y:=e3)) rfl rfl) (oS (fun h1 b2=>(aC ?_)))
       rcases aI hm with ⟨e4,hm⟩|⟨e4,hm⟩
       ·refine aC ?_;refine aL (aJD eU c k g j rfl rfl rfl b1 rfl) (aL (aPr (t:=0) (vs:=[i64 a.F,i64 a.B,i64 a.To]) ag_90 b2 (i:=0) rfl e1 rfl rfl rfl rfl) ?_)
        obtain ⟨h2,b3,hm⟩:=aB hm
        refine aL (bV eU rfl c rfl rfl rfl b3) ?_;obtain ⟨b4,b5,hm⟩:=aB hm
        refine nU (i:=0) (t:=0) (ns:=[i64 a.F,i64 a.B,i64 a.To]) (e':=(⟨a.F,a.B,a.To⟩:Edge)) sizeOf90 b2 rfl (zR _) rfl rfl rfl b3 b5 rfl rfl (lS rfl) rfl (fun cs h=>by cases h;rfl) (fun e5 (e6:aD G K (aF 90 K a1 c2 b4::L) e5)=>(aC ?_));exact ⟨aR,b4,wr (q+1),hm,(Eq.trans d6 (congrArg (fun n=>zS a1 n c2) (lD b5))),rfl,e6⟩
       ·exact aJ
      ·exact aJ
    ·exact aJ
   ·exact aJ
end Gv
namespace Gv
open Go.Value renaming slice→zS,bool→zB,pointer→zP,agg→zA,tuple→zT,map→zM
open Option.some renaming inj→zI
open Gv.Hp renaming le_trans→zL,le_refl→zR
open Go Go.Proofs Go.Proofs.Tryz
set_option maxRecDepth 20000
set_option maxHeartbeats 40000000
variable {G:Env} {K Kf:Hp} {L:List gV} {w:World} {a1 a4 a7 a10 a13 a9 a2 a5 a8 a11 a14 a17 a20 a23 a25 a28 a34 a36 a16:Option Addr} {c2 c5 c8 c11 c14 b6 b1 c3 c6 c9 c12 c15 c18 c21 c24 c26 b33 c35 c17:Nat}
theorem iE {a R:(List aH)} (hm:cY a=some R) (hs:aD G K (aF 9 K a1 c2 a::L) w):
  Calls prog 116 ([zS a1 a.length c2]:List Value).toArray w (dS fun v w'=>∃ u x,v=zS u R.length x/\aD G K (aF 9 K u x R::L) w'):=by
 refine cH func116 ?_;unfold cY at hm
 refine aC ?_
 rcases aI hm with ⟨c3,hm⟩|⟨c3,hm⟩
 ·exact aJ
 ·refine aC ?_;refine aK [0] (fun f w=>oK a=some R/\aD G K (aF 9 K a1 c2 a::L) w) aJ ?_
  obtain ⟨e3,b5,ho⟩:=aB hm
  refine bY [0] b5 (fun c f w=>f 3=i64 c/\aD G K (aF 9 K a1 c2 a::L) w) aJ ?_
  ·rintro c y f e4 hm hr ⟨e5,m⟩
   unfold dI at hm
   refine aC ?_
   rcases aI hm with ⟨b6,hm⟩|⟨b6,hm⟩
   ·refine aC ?_;refine aK [0] (fun f w=>eV c=some y/\f 3=i64 c/\aD G K (aF 9 K a1 c2 a::L) w) ?_ ?_
    ·rintro f e6 ⟨hm,e7,b7⟩
     unfold eV at hm
     refine aC ?_;exact ⟨_,(zI hm).symm,aR,rfl,b7⟩
    refine aC ?_;refine aEi ?_
    refine aC ?_;obtain ⟨e8,z,hm⟩:=aB hm
    have b:=bC m (i:=0) rfl z
    refine jN (fun _ m=>bV qX rfl b rfl rfl rfl z) (aC ?_);obtain ⟨e9,b8,hm⟩:=aB hm
    refine jN (fun _ m=>bV qX rfl b rfl rfl rfl b8) (aC ?_);refine oS (fun f0 b9=>(aC ?_))
    rcases aI hm with ⟨c0,hm⟩|⟨c0,hm⟩
    ·refine aC ?_;obtain ⟨f1,d,hm⟩:=aB hm
     have e:=iW b9 (i:=0) rfl
     obtain ⟨f2,f3,g⟩:=Cut.ex 1 a1 c2 c
     refine aL (aAD qX e g rfl rfl rfl d) (aC ?_);refine aK [] (fun f w=>∃ j k,eW j k=some y/\f 0=zS a1 j.length c2/\f 3=i64 k/\aD G K (aF 9 K a1 c2 j::L) w) ?_ ?_
     ·rintro f f4 ⟨j,k,hm,c1,f5,J⟩
      unfold eW at hm
      refine aC ?_;obtain ⟨f6,c4,hm⟩:=aB hm
      have c5:=iW J (i:=0) rfl
      obtain ⟨f7,f8,V⟩:=Cut.ex 1 a1 c2 k
      refine aL (aAD qX c5 V rfl rfl rfl c4) ?_;obtain ⟨Z,a0,hm⟩:=aB hm
      refine aFT qX ez_9 rfl J (i:=0) rfl V rfl rfl a0 (fun a2 (a3:aD G K (aF 9 K a1 c2 Z::L) a2)=>?_)
      iterate 4 refine cO ?_
      refine gN (v:=zS a1 Z.length c2) (Eq.trans c1 (congrArg (fun n=>zS a1 n c2) (aDF a0))) (aC ?_);obtain ⟨a4,a5,hm⟩:=aB hm
      have c6:=iW a3 (i:=0) rfl
      obtain ⟨c7,c8,a6⟩:=Cut.ex 1 a1 c2 0
      refine aL (aFy qX c6 a6 rfl rfl rfl a5) (aC ?_);refine aFP (aHv (sO (sO (sO ?_))))
      have c9:=hr _ (zI hm).symm
      subst c9
      have hm:(some a4)=some R:=ho
      clear hr ho
      have f9:aD G K (aF 9 K c7 c8 a4::L) a2:=aD.cutP a3 (i:=0) rfl a5 a6
      exact aJ
     obtain ⟨g0,d0,ho⟩:=aB hm
     refine mW [4] d0 (fun o p q f w=>f 0=zS a1 o.length c2/\f 3=i64 p/\f 5=i64 q/\aD G K (aF 9 K a1 c2 o::L) w) aJ ?_
     ·rintro o p q d1 f g1 hm hr ⟨d2,g2,g3,a7⟩
      unfold dH at hm
      refine aC ?_
      rcases aI hm with ⟨d3,hm⟩|⟨d3,hm⟩
      ·refine aC ?_;refine aK [4,5] (fun f w=>∃ l r,dG q l r=some d1/\f 0=zS a1 l.length c2/\f 3=i64 r/\aD G K (aF 9 K a1 c2 l::L) w) ?_ ?_
       ·rintro f g4 ⟨l,r,hm,d4,d5,d6⟩
        unfold dG at hm
        refine aC ?_;exact ⟨_,(zI hm).symm,aR,d4,d5,rfl,d6⟩
       refine aC ?_;refine aEi ?_
       refine aC ?_;obtain ⟨g5,a8,hm⟩:=aB hm
       obtain ⟨a9,d7,hm⟩:=aB hm
       refine jN (fun _ a7=>aJD qX b g d e rfl rfl rfl a8 rfl) (aC ?_);obtain ⟨g6,d8,hm⟩:=aB hm
       obtain ⟨g7,g8,hm⟩:=aB hm
       refine jN (fun _ a7=>aJD qX b g d e rfl rfl rfl d8 rfl) (aC ?_);refine oS (fun g9 b0=>(aC ?_))
       rcases aI hm with ⟨d9,hm⟩|⟨d9,hm⟩
       ·refine aC ?_;refine aL (aJD qX b g d e rfl rfl rfl a8 rfl) (aL (aCN (t:=0) sc_9 b0 (i:=0) rfl d7 rfl rfl rfl) ?_)
        obtain ⟨h0,b1,hm⟩:=aB hm
        refine aL (bV qX rfl b rfl rfl rfl b1) ?_;obtain ⟨b2,b3,hm⟩:=aB hm
        refine nU (i:=0) (t:=0) (ns:=[str a9]) (e':=(a9:aH)) sizeOf9 b0 rfl (Hp.le_refl _) rfl rfl rfl b1 b3 rfl rfl (lS rfl) rfl (fun cs h=>by cases h;rfl) (fun e0 (e1:aD G K (aF 9 K a1 c2 b2::L) e0)=>(aC ?_));exact ⟨aR,b2,wr (p+1),hm,(Eq.trans d2 (congrArg (fun n=>zS a1 n c2) (lD b3))),rfl,e1⟩
       ·exact aJ
      ·exact aJ
    ·exact aJ
   ·exact aJ
theorem aMJ {a b:Int} {labels:(List aH)} {x:(List Arc)} {R:aP} (hm:i_lts a b labels x=some R) (hs:aD G K (L) w) (h3:aN K a1 c2 labels) (h6:aN K a4 c5 x):
  Calls prog 65 ([i64 a,i64 b,zS a1 labels.length c2,zS a4 x.length c5]:List Value).toArray w (dS fun v w'=>∃ a0 a2 a3 a5,v=zA (zCa R a0 a2 a3 a5)/\aD G K (aF 9 K a0 a2 R.L::aF 90 K a3 a5 R.E::L) w'):=by
 let h:=zG
 refine cH func65 ?_;unfold i_lts at hm
 refine aC ?_;refine kK fun j w8 f0=>?_
 refine aC ?_;refine nW ([([116,97,117]:aH)]:List aH) fun f1 f2 b2=>?_
 refine aC ?_;obtain ⟨n,b3,hm⟩:=aB hm
 refine aGA (i:=0) qX underlying24 ez_9 rfl rfl b2 rfl (Hp.le_refl _) h3 b3 rfl rfl rfl rfl (fun d e b4 (f3:aD G K (aF 9 K d e n::box j 27 h::L) b4)=>(aL (jZ (vs:=[(0,i64 a),(1,i64 b),(2,zS d n.length e)]) (cs:=[i64 a,i64 b,zS d n.length e,zS none 0 0]) aJH rfl (by kernel_rfl)) (kK fun o f4 f5=>?_)));refine kZ fun b5 f6=>?_
 refine aC ?_
 have b6:aD G K (aF 9 K d e n::box o 27 [i64 a,i64 b,zS d n.length e,zS none 0 0]::box j 27 h::L) b5:=lI
 obtain ⟨a6,b8,hm⟩:=aB hm
 refine cG call114 (lib_SortStr b6 b8) ?_
 rintro _ b9 ⟨rfl,c0,c1⟩
 have c3:aD G K (aF 9 K d e a6::box o 27 [i64 a,i64 b,zS d a6.length e,zS none 0 0]::box j 27 h::L) b9:=by rw [←c0];exact c1
 refine aC ?_;obtain ⟨g,c4,hm⟩:=aB hm
 refine cG call116 (iE c4 c3) ?_
 rintro _ f7 ⟨k,l,rfl,f8⟩
 refine aC ?_;refine kZ fun f9 c6=>?_
 refine aC ?_;refine aK [8,9] (fun f w=>∃ r p q,aJT a b g r=some R/\aD G K (aF 90 K p q r::aF 9 K k l g::box o 27 [i64 a,i64 b,zS k g.length l,zS p r.length q]::box j 27 h::L) w) ?_ ?_
 ·rintro f g0 ⟨r,p,q,hm,c7⟩
  unfold aJT at hm
  refine aC ?_;obtain ⟨a7,c8,hm⟩:=aB hm
  refine cG call68 (lib_SortEdge c7 c8) ?_
  rintro _ c9 ⟨rfl,d0,d1⟩
  have g1:aD G K (aF 90 K p q a7::aF 9 K k l g::box o 27 [i64 a,i64 b,zS k g.length l,zS p a7.length q]::box j 27 h::L) c9:=by rw [←d0];exact d1
  exact aJ
 have g2:=aD.nil (α:=Edge) c6 90 K
 obtain ⟨g3,d2,ho⟩:=aB hm
 refine bQ [8,9,25,26] d2 (fun y a8 f w=>∃ z J,f 27=i64 a8/\aD G K (aF 90 K z J y::aF 9 K k l g::box o 27 [i64 a,i64 b,zS k g.length l,zS z y.length J]::box j 27 h::L) w) aJ ?_
 ·rintro y a8 g4 f g5 hm hr ⟨z,J,g6,g7⟩
  unfold aHR at hm
  refine aC ?_
  rcases aI hm with ⟨d3,hm⟩|⟨d3,hm⟩
  ·refine aC ?_;refine cR (aC ?_)
   obtain ⟨m,d4,hm⟩:=aB hm
   refine aC ?_;obtain ⟨g8,g9,d5⟩:=aN.el (sz:=3) rfl h6 d4
   cases d5
   refine aC ?_;refine kK fun h0 h1 h2=>?_
   refine kZ fun h4 d6=>?_;refine aC ?_
   obtain ⟨h5,d7,V,d8,h7⟩:=aD.lendBp d6 .head
   obtain ⟨h8,u,d9,h9,e0⟩:=aD.lendBp d8 zt2
   refine wW [(0,0),(1,0),(2,0),(3,0),(4,0),(5,0),(6,0),(7,0),(9,0),(10,0),(8,1),(11,0),(12,1),(13,1),(14,0),(15,2)] fun i0 c=>?_;refine aC ?_
   refine bN rfl (fun _ ⟨_,c⟩=>dQ (t:=0) oG c (V.mono u) rfl rfl) (bN rfl (fun _ _=>cE (t':=2) aGG rfl rfl) (bN rfl (fun _ ⟨_,c⟩=>dQ (t:=2) aHg c d9 rfl rfl) (bN rfl (fun _ _=>cE (t':=1) aQY rfl rfl) (bN rfl (fun _ ⟨_,c⟩=>dQ (t:=1) sc_9 c (V.mono u) rfl rfl) (bN rfl (fun _ _=>cE (t':=2) aQZ rfl rfl) (bN rfl (fun _ ⟨_,c⟩=>dQ (t:=2) oG c (V.mono u) rfl rfl) (fF rfl ?_)))))));obtain ⟨i1,i2,e1,e2,e3⟩:=aD.lendSp c (zL d7 u) zt1
   obtain ⟨Z,e4,hm⟩:=aB hm
   refine cG call117 (oP e4 e2 e1) ?_
   rintro _ i3 ⟨rfl,e5⟩
   have e6:=e3 _ _ e5
   refine aM (aG ⟨⟨_,e6⟩,?_⟩)
   refine bN rfl (fun _ _=>jZ (vs:=[(0,i64 m.from_),(1,i64 Z),(2,i64 m.to_)]) (cs:=[i64 m.from_,i64 Z,i64 m.to_]) aMu rfl (by kernel_rfl)) (fF rfl (nW ([⟨m.from_,Z,m.to_⟩]:List Edge) fun i4 i5 e7=>?_));refine aM (aG ⟨⟨_,e7⟩,?_⟩)
   refine fF rfl ?_;obtain ⟨i6,i7,hm⟩:=aB hm
   refine aIw fun i8 i9 j0 a9=>?_;refine aM (aG ⟨⟨_,a9⟩,?_⟩)
   refine aC ?_
   have j1:=e0 _ _ a9
   exact aJ
  ·exact aJ
theorem aDz {t:aP} {R:Bool} (hm:aBQ t=some R) (a:aD G K (L) w) (b:G.lo=0) (c:aN K a1 c2 t.L) (d:aN K a4 c5 t.E):
  Calls prog 73 ([zA (zCa t a1 c2 a4 c5)]:List Value).toArray w (dS fun v w'=>v=zB R/\aD G K (L) w'):=by
 exact aJ
theorem tX {b:(List aP)} {R:Int} (hm:cD b=some R) (t:aD G K (L) w) (i:G.lo=0) (j:aN K a1 c2 b):
  Calls prog 121 ([zS a1 b.length c2,Value.func (.func 73) #[] #[]]:List Value).toArray w (dS fun v w'=>v=i64 R/\aD G K (L) w'):=by
 refine cH func121 ?_;unfold cD at hm
 refine aC ?_;refine aK [] (fun f w=>kS=some R/\aD G K (L) w) aJ ?_
 obtain ⟨u,k,ho⟩:=aB hm
 refine bY [0,1,7] k (fun c f w=>f 8=i64 c/\aD G K (L) w) aJ ?_
 ·rintro c x f y hm hr ⟨z,l⟩
  unfold bW at hm
  refine aC ?_
  rcases aI hm with ⟨m,hm⟩|⟨m,hm⟩
  ·refine aC ?_;refine cR (aC ?_)
   obtain ⟨a,n,hm⟩:=aB hm
   refine aC ?_;obtain ⟨J,V,o⟩:=aN.el (sz:=4) rfl j n
   obtain ⟨d,e,g,h,rfl,p,q⟩:=o
   refine aC ?_;obtain ⟨Z,r,hm⟩:=aB hm
   exact eR (vs:=[zA (zCa a d e g h)]) (caps:=[]) (us:=[zA (zCa a d e g h)]) rfl call73 rfl rfl (aDz r l i p q) aJ
  ·exact aJ
theorem rS {a:(List aP)} {R:Bool} (hm:cM a=some R) (b:aD G K (L) w) (c:G.lo=0) (d:aN K a1 c2 a):
  Calls prog 72 ([zS a1 a.length c2,Value.func (.func 73) #[] #[]]:List Value).toArray w (dS fun v w'=>v=zB R/\aD G K (L) w'):=by
 exact aJ
theorem aCt {p:aO} {a:(List aP)} {R:Int} (hm:uJ p a=some R) (c:aD G K (L) w) (d:G.lo=0) (e:aN K a1 c2 p.S.L) (g:aN K a4 c5 p.S.E) (h:aN K a7 c8 p.M) (i:aN K a10 c11 p.C) (j:aN K a13 c14 a):
  Calls prog 25 ([zA (zEa p a1 c2 a4 c5 a7 c8 a10 c11),zS a13 a.length c14]:List Value).toArray w (dS fun v w'=>v=i64 R/\aD G K (L) w'):=by
 refine cH func25 ?_;unfold uJ at hm
 refine aC ?_;refine oZ fun k l m=>?_
 iterate 5 refine cO ?_
 exact aW [] (fun f w=>∃ b,xS b=some R/\f 11=zB b/\aD G K (L) w) aJ aJ
theorem sT {p:aO} {k:Int} {R:Bool} (hm:nB p k=some R) (a:aD G K (L) w) (b:aN K a1 c2 p.S.L) (c:aN K a4 c5 p.S.E) (d:aN K a7 c8 p.M) (e:aN K a10 c11 p.C):
  Calls prog 27 ([zA (zEa p a1 c2 a4 c5 a7 c8 a10 c11),i64 k]:List Value).toArray w (dS fun v w'=>v=zB R/\aD G K (L) w'):=by
 exact aJ
theorem kE {d:(List Bool)} {l:Int} {R:(List Bool)} (hm:eK d l=some R) (hs:aD G K (L) w) (h3:aN K a1 c2 d):
  Calls prog 29 ([zS a1 d.length c2,i64 l]:List Value).toArray w (dS fun v w'=>∃ u x,v=zS u R.length x/\aD G K (aF 4 K u x R::L) w'):=by
 refine cH func29 ?_;unfold eK at hm
 iterate 5 refine cO ?_
 refine sV [0,1] (fun f w=>hQ d l=some R/\aD G K (L) w) ?_ ?_
 ·rintro f w4 ⟨hm,a8⟩
  unfold hQ at hm
  refine bS (aU (v:=zS a1 d.length c2) (aL (mV (len:=d.length) nG rfl) (aL (aFQ runUnderlying131 rfl ⟨_,runUnderlying3⟩) (aU (v:=i64 l) (aL (aFQ runUnderlying131 rfl ⟨_,runUnderlying3⟩) ?_)))));obtain ⟨c,q7,hm⟩:=aB hm
  refine cG call79 (aPM a8 q7) ?_
  rintro _ w8 ⟨rfl,y⟩
  refine aU (v:=zT #[Value.int .u64 c.1,Value.int .u64 c.2]) (aL (cN rfl rfl) (aL (cN rfl rfl) (bH (v:=Value.int .u64 c.1) (bH (v:=Value.int .u64 c.2) (bF (sV [0,6] (fun f w=>hJ d c=some R/\aD G K (L) w) ?_ ?_))))))
  ·rintro f d3 ⟨hm,b0⟩
   unfold hJ at hm
   refine bS (aU (v:=Value.int .u64 c.2) (aL (aJw runUnderlying3 rfl ⟨_,runUnderlying131⟩) ?_));obtain ⟨a,b1,hm⟩:=aB hm
   refine aKR (e:=(false:Bool)) nG ez_4 rfl rfl b0 rfl rfl rfl b1 rfl (fun b b2 (z:aD G K (aF 4 K b a.length a::L) b2)=>(bH (v:=zS b a.length a.length) (bF (bS (aU (v:=zS b a.length a.length) (aU (v:=zS a1 d.length c2) ?_))))));obtain ⟨b3,J,hm⟩:=aB hm
   refine aJE nG rfl z (i:=0) rfl Cut.whole rfl rfl rfl (aIk _ _ _) aHE (aMr rfl z h3) J (fun b4 (b5:aD G K (aF 4 K b a.length b3::L) b4)=>(bH (v:=i64 ((Nat.min d.length a.length):Int)) (bF (bI (aK [] (fun f w=>∃ j,gY j=some R/\f 7=zS b j.length a.length/\aD G K (aF 4 K b a.length j::L) w) ?_ ?_)))))
   ·rintro f d4 ⟨j,hm,b6,b7⟩
    unfold gY at hm
    refine aG (bS (gN b6 (bH (v:=zS b j.length a.length) (bF ?_))));obtain rfl:=zI hm
    exact st_E results29 ⟨b,a.length,rfl,b7⟩
   obtain ⟨d5,b9,ho⟩:=aB hm
   refine bQ [] b9 (fun k m f w=>f 7=zS b k.length a.length/\f 8=i64 m/\aD G K (aF 4 K b a.length k::L) w) ?_ ?_
   ·exact ⟨(Eq.trans rfl (congrArg (fun n=>zS b n a.length) (aDF J))),rfl,b5⟩
   ·rintro k m d6 f d7 hm hr ⟨o,p,d8⟩
    unfold gZ at hm
    refine bI (bS (gN p (gN o (aL (mV (len:=k.length) nG rfl) (aL (wZ rfl rfl) (bF ?_))))))
    rcases aI hm with ⟨r,hm⟩|⟨r,hm⟩
    ·refine cP r rfl (dD (aG (cR (wW [(0,0),(1,0),(2,0),(3,0),(4,0),(5,0),(6,0),(7,1),(8,0),(9,0)] fun d9 q=>?_))));refine bN rfl (fun _ _=>cC p) (bN rfl (fun _ _=>cC o) (bN rfl (fun _ _=>cC p) ?_))
     obtain ⟨c0,c1,hm⟩:=aB hm
     have c3:=iW q (i:=0) rfl
     obtain ⟨e0,e1,V⟩:=Cut.ex 1 b a.length m
     refine bN rfl (fun _ _=>aAD nG c3 V rfl rfl rfl c1) (bN rfl (fun _ _=>cC o) (bN rfl (fun _ _=>cC p) ?_));obtain ⟨c4,Z,hm⟩:=aB hm
     have c5:=iW q (i:=0) rfl
     obtain ⟨e2,e3,a0⟩:=Cut.ex 1 b a.length 0
     refine bN rfl (fun _ _=>aFy nG c5 a0 rfl rfl rfl Z) (fF rfl ?_);obtain ⟨c6,a2,hm⟩:=aB hm
     refine aJE nG rfl q (i:=0) rfl V rfl rfl rfl (aIk _ _ _) aHE (aMs rfl q (i:=0) rfl Z a0) a2 (fun c7 (a3:aD G K (aF 4 K b a.length c6::L) c7)=>(aM (aG ⟨⟨_,a3⟩,?_⟩)))
     exact bN rfl (fun _ _=>uW rfl rfl) (bN rfl (fun _ _=>sW (v:=i64 (wr (m+((Nat.min c4.length c0.length):Int)))) rfl) (jE (iP (aG ⟨_,(zI hm).symm,aR,(Eq.trans o (congrArg (fun n=>zS b n a.length) (aDF a2))),rfl,a3⟩))))
    ·refine bM r rfl (wD (fH (fH ?_)))
     have c8:=hr _ (zI hm).symm
     subst c8
     have hm:(gY k)=some R:=ho
     exact aJ
  refine bI (aW [0,6] (fun f w=>∃ t,eS d c t=some R/\f 26=zB t/\aD G K (L) w) ?_ ?_)
  ·rintro f e4 ⟨t,hm,c9,d0⟩
   unfold eS at hm
   refine aG ?_
   rcases aI hm with ⟨a4,hm⟩|⟨a4,hm⟩
   ·exact aJ
   ·exact bM a4 c9 (dD (aG ⟨aR,hm,d0⟩))
  refine cK (aU (v:=Value.int .u64 c.1) (aL (aOs rfl rfl) (aU (v:=zB (decide (0 < c.1))) ?_)))
  rcases aI hm with ⟨h,hm⟩|⟨h,hm⟩
  ·exact jM h rfl rfl (jM h rfl rfl (aL (aCM (v:=zB true) h rfl rfl) (bF ⟨aR,true,hm,rfl,y⟩)))
  ·exact kG h rfl rfl (aU (v:=Value.int .u64 c.2) (kG h rfl rfl (aL (aOs rfl rfl) (aL (aEc (v:=zB (decide (9223372036854775807 < c.2))) h rfl rfl) (bF ⟨aR,decide (9223372036854775807 < c.2),hm,rfl,y⟩)))))
 refine aC ?_
 rcases aI hm with ⟨a5,hm⟩|⟨a5,hm⟩
 ·exact aJ
 ·exact bM a5 rfl (dD (aG ⟨aR,hm,hs⟩))
theorem fQ {a R:(List Int)} (hm:bP a=some R) (t:aD G K (L) w) (b:aN K a1 c2 a):
  Calls prog 61 ([zS a1 a.length c2]:List Value).toArray w (dS fun v w'=>∃ c d,v=zS c R.length d/\aD G K (aF 2 K c d R::L) w'):=by
 refine cH func61 ?_;unfold bP at hm
 iterate 9 refine cO ?_
 refine aL (aLK eN rfl rfl) (aC ?_)
 rcases aKo b with ⟨h,j,k⟩|l
 ·subst h;subst j;subst k
  refine aMa rfl ?_
  replace hm:(some [])=some R:=hm
  exact aJ
 ·refine aMb (Eq.trans rfl (congrArg zB l)) (aC ?_);refine nW ([]:List Int) fun u x m=>?_
  refine aC ?_;obtain ⟨n,o,hm⟩:=aB hm
  refine aGA (i:=0) eN underlying28 aHr rfl rfl m rfl (Hp.le_refl _) b o rfl rfl rfl rfl (fun e g p (q:aD G K (aF 2 K e g n::L) p)=>(aC ?_));obtain rfl:=zI hm
  exact st_E results61 ⟨e,g,rfl,q⟩
theorem yW {b:aH} {to_:(Int × Int)} {c:Nat} {a:(List ((Int × Int) × Int))} {d:Nat} {p:(List Arc)} {e:Int} {g:Nat} {R:(List Arc)} (hm:nC b to_ a p e=some R) (n:aD G K (aF 118 K a7 c8 p::box b6 116 [zS a7 p.length c8]::L) w) (o:bZ K a1 c [zM (some d)]) (j:rdM K d a) (q:bZ K a9 g [i64 e]):
  Calls prog 64 ([str b,zA #[i64 to_.1,i64 to_.2],bR a1 c,zP (some ⟨b6,0,none⟩),bR a9 g]:List Value).toArray w (dS fun v w'=>∃ h i,v=zT #[]/\aD G K (aF 118 K h i R::box b6 116 [zS h R.length i]::L) w'):=by
 refine cH func64 ?_;unfold nC at hm
 refine aC ?_;refine oZ fun r t l=>?_
 refine aC ?_;refine aL (R_lookK (kv:=a) (k:=to_) (z:=(0:Int)) runUnderlying74 aEj zeroValue2 l j rfl rfl) (aC ?_)
 rcases aI hm with ⟨m,hm⟩|⟨m,hm⟩
 ·exact aJ
 ·exact aJ
theorem aBb {o p:Int} {k:(List aH)} {l:(List Edge)} {q:(List Int)} {r:(List aH)} {m n:Int} {e:(List aH)} {g:(List Edge)} {a:(List (List Int))} {h:(List ((Int × Int) × Int))} {c:Nat} {b:(List (List aH))} {pair:(List Int)} {z:Nat} {b3:(List ((Int × Int) × Int))} {b4:Nat} {a3:(List Arc)} {b5:Int} {J:Nat} {R:(List Arc)} (hm:pO o p k l q r m n e g a h b pair b3 a3 b5=some R) (hs:aD G K (aF 28 Kf a20 c21 a::cZ c h::aF 24 Kf a23 c24 b::box b1 77 [i64 o,i64 p,zS a2 k.length c3,zS a5 l.length c6,zS a8 q.length c9,zS a11 r.length c12,i64 m,i64 n,zS a14 e.length c15,zS a17 g.length c18,zS a20 a.length c21,zM (some c),zS a23 b.length c24]::aF 118 K a34 c35 a3::box b33 116 [zS a34 a3.length c35]::L) w) (f8:Hp.le Kf K) (h4:aN K a2 c3 k) (h7:aN K a5 c6 l) (f9:aN K a8 c9 q) (g0:aN K a11 c12 r) (d1:aN K a14 c15 e) (d2:aN K a17 c18 g) (b7:aN K a25 c26 pair) (d3:bZ K a28 z [zM (some b4)]) (d4:rdM K b4 b3) (d5:bZ K a36 J [i64 b5]):
  Calls prog 52 ([zP (some ⟨b1,0,none⟩),zS a25 pair.length c26,Value.func (.func 64) #[] #[bR a28 z,zP (some ⟨b33,0,none⟩),bR a36 J]]:List Value).toArray w (dS fun v w'=>∃ b8 b9,v=zT #[]/\aD G K (aF 28 Kf a20 c21 a::cZ c h::aF 24 Kf a23 c24 b::box b1 77 [i64 o,i64 p,zS a2 k.length c3,zS a5 l.length c6,zS a8 q.length c9,zS a11 r.length c12,i64 m,i64 n,zS a14 e.length c15,zS a17 g.length c18,zS a20 a.length c21,zM (some c),zS a23 b.length c24]::aF 118 K b8 b9 R::box b33 116 [zS b8 R.length b9]::L) w'):=by
 let V:=[i64 o,i64 p,zS a2 k.length c3,zS a5 l.length c6,zS a8 q.length c9,zS a11 r.length c12,i64 m,i64 n,zS a14 e.length c15,zS a17 g.length c18,zS a20 a.length c21,zM (some c),zS a23 b.length c24]
 refine cH func52 ?_;unfold pO at hm
 refine aC ?_;obtain ⟨g1,c0,g2,g3,d6⟩:=aD.lendBp hs zt3
 refine wW [(0,0),(1,0),(2,0),(3,0),(4,0),(5,0),(6,0),(7,0),(10,0),(8,1),(9,0)] fun g4 d7=>?_;refine aC ?_
 obtain ⟨g5,d8,hm⟩:=aB hm
 refine aC ?_;obtain ⟨g6,g7,d9⟩:=aN.el (sz:=1) rfl b7 d8
 cases d9
 refine aC ?_;refine fF rfl ?_
 obtain ⟨a4,e0,hm⟩:=aB hm
 refine cG call75 (jH (t:=⟨o,p,k,l⟩) e0 d7 (h4.mono c0) (h7.mono c0)) ?_
 rintro _ g8 ⟨a6,a7,rfl,c1⟩
 refine aM (aG ⟨⟨_,c1⟩,?_⟩)
 refine aC ?_;refine jE ?_
 have g9:=d6 _ _ c1
 refine aC ?_;refine aK [] (fun f w=>∃ a9 c2 c4,aCf a9=some R/\aD G K (aF 118 K c2 c4 a9::box b1 77 V::aF 28 Kf a20 c21 a::cZ c h::aF 24 Kf a23 c24 b::box b33 116 [zS c2 a9.length c4]::L) w) aJ ?_
 obtain ⟨h0,e1,ho⟩:=aB hm
 refine bQ [0,1,2,19,20] e1 (fun u b0 f w=>∃ x y,f 21=i64 b0/\aD G K (box b1 77 V::aF 90 K a6 a7 a4::aF 28 Kf a20 c21 a::cZ c h::aF 24 Kf a23 c24 b::aF 118 K x y u::box b33 116 [zS x u.length y]::L) w) aJ ?_
 ·rintro u b0 e2 f h1 hm hr ⟨x,y,e3,e4⟩
  unfold iZ at hm
  refine aC ?_
  rcases aI hm with ⟨e5,hm⟩|⟨e5,hm⟩
  ·refine aC ?_;refine aK [0,1,2,19,20,21] (fun f w=>∃ Z a0 a1,gH b0 Z=some e2/\aD G K (aF 118 K a0 a1 Z::box b1 77 V::aF 90 K a6 a7 a4::aF 28 Kf a20 c21 a::cZ c h::aF 24 Kf a23 c24 b::box b33 116 [zS a0 Z.length a1]::L) w) ?_ ?_
   ·rintro f h2 ⟨Z,a0,a1,hm,h3⟩
    unfold gH at hm
    refine aC ?_;exact ⟨_,(zI hm).symm,aR,a0,a1,rfl,lI⟩
   refine aC ?_;obtain ⟨d,c5,hm⟩:=aB hm
   have e6:=bC e4 (i:=1) rfl c5
   refine aL (bV eU rfl e6 rfl rfl e3 c5) (aC ?_);refine kK fun e7 h5 h6=>?_
   refine kZ fun h8 h9=>?_;refine aC ?_
   refine aEi ?_;refine aC ?_
   obtain ⟨b2,e8,hm⟩:=aB hm
   refine aC ?_;obtain ⟨i0,i1,e9⟩:=aN.el (sz:=1) rfl h4 e8
   cases e9
   refine aC ?_;refine oS (fun i2 c7=>(aC ?_))
   refine aEi ?_;refine aC ?_
   obtain ⟨f0,f1,hm⟩:=aB hm
   refine aC ?_;obtain ⟨i3,i4,f2⟩:=aN.el (sz:=1) rfl b7 f1
   cases f2
   refine aC ?_;obtain ⟨j,f3,hm⟩:=aB hm
   refine aDG (vs:=[zA #[i64 m,i64 n,zS a14 e.length c15,zS a17 g.length c18],i64 f0,str b2]) (v:=zT #[i64 j.1,zB j.2]) call76 rfl (fun _ c7=>(mE (t:=⟨m,n,e,g⟩) f3 c7 d1 d2)) (aC ?_);refine oS (fun f4 i5=>(aC ?_))
   rcases aI hm with ⟨f5,hm⟩|⟨f5,hm⟩
   ·refine aC ?_;refine aL (uZ (vs:=[(0,i64 d.To),(1,i64 j.1)]) (cs:=[i64 d.To,i64 j.1]) aBo aFz rfl (by kernel_rfl)) ?_
    have f6:aD G K (aF 118 K x y u::box b33 116 [zS x u.length y]::box e7 90 [i64 d.F,i64 d.B,i64 d.To]::box b1 77 V::aF 90 K a6 a7 a4::aF 28 Kf a20 c21 a::cZ c h::aF 24 Kf a23 c24 b::L) f4:=lI
    obtain ⟨i6,f7,hm⟩:=aB hm
    exact eR (vs:=[str b2,zA #[i64 d.To,i64 j.1]]) (caps:=[bR a28 z,zP (some ⟨b33,0,none⟩),bR a36 J]) (us:=[str b2,zA #[i64 d.To,i64 j.1],bR a28 z,zP (some ⟨b33,0,none⟩),bR a36 J]) rfl call64 rfl rfl (yW (to_:=⟨d.To,j.1⟩) f7 f6 d3 d4 d5) aJ
   ·exact aJ
  ·exact aJ
theorem qF {b8 u:Int} {a4:(List aH)} {a9:(List Edge)} {b0:(List Int)} {b2:(List aH)} {b9 x:Int} {b3:(List aH)} {b4:(List Edge)} {Z:(List (List Int))} {a:(List ((Int × Int) × Int))} {b:Nat} {a0:(List (List aH))} {e3:(List Bool)} {R:(aP × (List (List Int)))} (hm:jU b8 u a4 a9 b0 b2 b9 x b3 b4 Z a a0 e3=some R) (hs:aD G K (aF 28 Kf a20 c21 Z::cZ b a::aF 24 Kf a23 c24 a0::box b1 77 [i64 b8,i64 u,zS a2 a4.length c3,zS a5 a9.length c6,zS a8 b0.length c9,zS a11 b2.length c12,i64 b9,i64 x,zS a14 b3.length c15,zS a17 b4.length c18,zS a20 Z.length c21,zM (some b),zS a23 a0.length c24]::L) w) (f9:Hp.le Kf K) (h4:aN K a2 c3 a4) (h7:aN K a5 c6 a9) (i1:aN K a8 c9 b0) (i2:aN K a11 c12 b2) (i3:aN K a14 c15 b3) (i4:aN K a17 c18 b4) (i5:aN K a25 c26 e3):
  Calls prog 22 ([zP (some ⟨b1,0,none⟩),zS a25 e3.length c26]:List Value).toArray w (dS fun v w'=>∃ g1 g2 g3 g4 g5 g6 e4,v=zT #[zA (zCa R.1 g1 g2 g3 g4),zS g5 R.2.length g6]/\List.length e4=List.length R.2/\aD G K (aF 9 K g1 g2 R.1.L::aF 90 K g3 g4 R.1.E::aF 28 K g5 g6 (aY e4 R.2)::rows [2] e4 R.2::aF 28 Kf a20 c21 Z::cZ b a::aF 24 Kf a23 c24 a0::box b1 77 [i64 b8,i64 u,zS a2 a4.length c3,zS a5 a9.length c6,zS a8 b0.length c9,zS a11 b2.length c12,i64 b9,i64 x,zS a14 b3.length c15,zS a17 b4.length c18,zS a20 Z.length c21,zM (some b),zS a23 a0.length c24]::L) w'):=by
 let g:=[i64 b8,i64 u,zS a2 a4.length c3,zS a5 a9.length c6,zS a8 b0.length c9,zS a11 b2.length c12,i64 b9,i64 x,zS a14 b3.length c15,zS a17 b4.length c18,zS a20 Z.length c21,zM (some b),zS a23 a0.length c24]
 let h:=zG
 let j:=aF 28 Kf a20 c21 Z
 let l:=aF 24 Kf a23 c24 a0
 refine cH func22 ?_;unfold jU at hm
 refine aC ?_;refine kK fun m i6 i7=>?_
 refine aC ?_;refine aK [0,4] (fun f w=>∃ c0 d e d5,nM b8 u a4 a9 b0 b2 b9 x b3 b4 Z a a0 c0=some R/\f 6=zS d c0.length e/\List.length d5=List.length c0/\aD G K (aF 28 K d e (aY d5 c0)::rows [2] d5 c0::box m 27 h::j::cZ b a::l::box b1 77 g::L) w) ?_ ?_
 ·rintro f r6 ⟨c0,d,e,d5,hm,d6,i8,i9⟩
  unfold nM at hm
  refine aC ?_;obtain ⟨c,j0,hm⟩:=aB hm
  refine cG call62 (lib_SortRows i9 i8 j0) ?_
  rintro _ r7 ⟨o,rfl,d7,a6,j1⟩
  refine aC ?_;refine aHB (Int × Int) Int j1 ?_
  intro q j2 (r8:aD G K (cZ q ([]:(List ((Int × Int) × Int)))::aF 28 K d e (aY o c)::rows [2] o c::box m 27 h::j::cZ b a::l::box b1 77 g::L) j2)
  refine kK fun c1 r9 s0=>?_;refine kZ fun s1 s2=>?_
  iterate 5 refine cO ?_
  refine gN (v:=zS d c.length e) (Eq.trans d6 (congrArg (fun n=>zS d n e) d7)) (aC ?_);refine aK [0,4,6,9] (fun f w=>∃ (b5:(List ((Int × Int) × Int))),nL b8 u a4 a9 b0 b2 b9 x b3 b4 Z a a0 c b5=some R/\aD G K (box c1 74 [zM (some q)]::cZ q b5::aF 28 K d e (aY o c)::rows [2] o c::box m 27 h::j::cZ b a::l::box b1 77 g::L) w) ?_ ?_
  ·rintro f s3 ⟨b5,hm,s4⟩
   unfold nL at hm
   refine aC ?_;refine kK fun d8 s5 j3=>?_
   iterate 5 refine cO ?_
   refine gN (v:=zS d c.length e) (Eq.trans d6 (congrArg (fun n=>zS d n e) d7)) (aC ?_);refine aK [0,4,6,9,12] (fun f w=>∃ d9 e5 e6,nK u a4 x c b5 d9=some R/\aD G K (aF 118 K e5 e6 d9::box d8 116 [zS e5 d9.length e6]::box c1 74 [zM (some q)]::cZ q b5::aF 28 K d e (aY o c)::rows [2] o c::box m 27 h::j::cZ b a::l::box b1 77 g::L) w) ?_ ?_
   ·rintro f s6 ⟨d9,e5,e6,hm,r⟩
    unfold nK at hm
    refine aC ?_;refine aEi ?_
    refine aC ?_;refine jN (fun _ r=>hY oG r (i:=10) rfl rfl rfl) (jN (fun _ r=>cC (v:=zP (some ⟨b1,0,none⟩)) rfl) (jN (fun _ r=>qD rfl) (jN (fun _ r=>cE (t':=6) fa_77_1 rfl rfl) (jN (fun _ r=>cE (t':=7) aFd rfl rfl) (jN (fun _ r=>hY oG r (i:=10) rfl rfl rfl) (jN (fun _ r=>uZ (vs:=[(0,i64 u),(1,i64 x)]) (cs:=[i64 u,i64 x]) aBo aFz rfl (by kernel_rfl)) (jN (fun _ r=>R_look1 (kv:=b5) (k:=⟨u,x⟩) (z:=(0:Int)) runUnderlying74 aEj zeroValue2 r (i:=3) rfl rfl rfl) (aC ?_))))))))
    refine oS (fun s7 j4=>(aC ?_));obtain ⟨s8,g7,j5,j6,s9⟩:=aD.lendBp j4 zt1
    obtain ⟨t0,e7,t1,t2,j7⟩:=aD.lendBp j6 zt9
    refine wW [(0,0),(1,0),(2,0),(3,0),(4,0),(5,0),(6,0),(7,0),(8,0),(9,0),(11,0),(10,1),(12,1),(13,2)] fun t3 e8=>?_;refine bN rfl (fun _ _=>cC (v:=zS d c.length e) (Eq.trans d6 (congrArg (fun n=>zS d n e) d7))) (aC ?_)
    refine bN rfl (fun _ ⟨_,e8⟩=>dQ (t:=0) sc_116 e8 (j5.mono e7) rfl rfl) (bN rfl (fun _ _=>cC (v:=zS d c.length e) (Eq.trans d6 (congrArg (fun n=>zS d n e) d7))) (fF rfl ?_));obtain ⟨t4,j8,j9,k0,k1⟩:=aD.lendSp e8 (zL g7 e7) .head
    obtain ⟨t5,k2,hm⟩:=aB hm
    refine cG call65 (aMJ k2 k0 (h4.mono (zL (zL g7 e7) j8)) j9) ?_
    rintro _ t6 ⟨t7,t8,t9,u0,rfl,k3⟩
    have k4:=k1 _ _ k3
    refine aM (aG ⟨⟨_,k4⟩,?_⟩)
    refine fF rfl (kZ fun u1 g8=>?_);refine aM (aG ⟨⟨_,g8⟩,?_⟩)
    have u2:=j7 _ _ g8
    exact aJ
   have u3:=aD.nil (α:=Arc) j3 118 K
   obtain ⟨u4,k5,ho⟩:=aB hm
   refine bQ [0,4,6,9,12,56,57] k5 (fun c5 g9 f w=>∃ c7 c8,f 58=i64 g9/\aD G K (aF 118 K c7 c8 c5::box d8 116 [zS c7 c5.length c8]::box c1 74 [zM (some q)]::cZ q b5::aF 28 K d e (aY o c)::rows [2] o c::box m 27 h::j::cZ b a::l::box b1 77 g::L) w) aJ ?_
   ·rintro c5 g9 u5 f u6 hm hr ⟨c7,c8,k6,h0⟩
    unfold gP at hm
    refine aC ?_
    rcases aI hm with ⟨k7,hm⟩|⟨k7,hm⟩
    ·refine aC ?_;refine cR (aC ?_)
     obtain ⟨u7,d0,hm⟩:=aB hm
     obtain ⟨⟨u8,u9⟩,e9⟩:=aMm a6 d0
     have k8:=bC h0 (i:=4) rfl (uY a6 d0 e9)
     refine aL (bV jO rfl k8 rfl rfl k6 d0) (aL (aCN (t:=0) aCe h0 (i:=4) rfl (uY a6 d0 e9) rfl rfl rfl) (kK fun k9 v0 v1=>?_));refine kZ fun l0 l1=>?_
     iterate 6 refine cO ?_
     refine aL (kI (vs:=[zP (some ⟨c1,0,none⟩),zP (some ⟨d8,0,none⟩),zP (some ⟨k9,0,none⟩)]) rfl) ?_;obtain ⟨v2,b6,v3,l2,l3,l4⟩:=aD.lendD' (i:=5) l1 a6 rfl rfl
     obtain ⟨v4,a7,l5,l6,l7⟩:=aD.lendMp l3 zt4
     obtain ⟨v5,a1,l8,l9,m0⟩:=aD.lendBp l6 zt3
     obtain ⟨m1,y,m2,v6,m3⟩:=aD.lendBp l9 .head
     have m4:aD G m1 (j::cZ b a::l::box b1 77 g::aF 118 K c7 c8 c5::box d8 116 [zS c7 c5.length c8]::box m 27 h::L) l0:=lI
     obtain ⟨v7,m5,hm⟩:=aB hm
     refine cG call52 (aBb (Kf:=Kf) m5 m4 (zL (zL (zL (zL f9 b6) a7) a1) y) (h4.mono (zL (zL (zL b6 a7) a1) y)) (h7.mono (zL (zL (zL b6 a7) a1) y)) (i1.mono (zL (zL (zL b6 a7) a1) y)) (i2.mono (zL (zL (zL b6 a7) a1) y)) (i3.mono (zL (zL (zL b6 a7) a1) y)) (i4.mono (zL (zL (zL b6 a7) a1) y)) ((aMl (l2 _ _ _ e9 (aJB d0))).mono (zL (zL a7 a1) y)) (l8.mono y) (l5.mono (zL a1 y)) m2) ?_
     rintro _ v8 ⟨v9,w0,rfl,m6⟩
     have m7:=m3 _ _ m6
     have m8:=m0 _ _ m7
     have m9:=l7 _ _ m8
     have w1:=l4 _ _ m9
     exact aJ
    ·exact aJ
  obtain ⟨w2,n0,ho⟩:=aB hm
  refine bQ [0,4,6,9,39,40] n0 (fun h1 e0 f w=>f 41=i64 e0/\aD G K (box c1 74 [zM (some q)]::cZ q h1::aF 28 K d e (aY o c)::rows [2] o c::box m 27 h::j::cZ b a::l::box b1 77 g::L) w) aJ ?_
  ·rintro h1 e0 w3 f w4 hm hr ⟨n1,f0⟩
   unfold gQ at hm
   refine aC ?_
   rcases aI hm with ⟨n2,hm⟩|⟨n2,hm⟩
   ·refine aC ?_;refine cR (aC ?_)
    obtain ⟨n3,b7,hm⟩:=aB hm
    obtain ⟨⟨n4,n5⟩,d1⟩:=aMm a6 b7
    have n6:=bC f0 (i:=2) rfl (uY a6 b7 d1)
    refine aL (bV jO rfl n6 rfl rfl n1 b7) (aL (aCN (t:=0) aCe f0 (i:=2) rfl (uY a6 b7 d1) rfl rfl rfl) (bH (v:=i64 e0) (bH (v:=zS n4 n3.length n5) (bF ?_))));obtain ⟨w5,w6,w7,n7,n8⟩:=aD.lendBp f0 .head
    obtain ⟨w8,w9,x0,f1,x1,n9⟩:=aD.lendD' (i:=1) n7 a6 rfl rfl
    refine wW [(0,0),(1,0),(2,0),(3,0),(4,0),(5,0),(6,0),(7,0),(8,0),(9,2)] fun x2 o0=>?_;refine aC ?_
    obtain ⟨f2,f3,hm⟩:=aB hm
    have h2:=aCz (aMl (f1 _ _ _ d1 (aJB b7))) f3
    refine bN rfl (fun _ _=>bV eN rfl h2 rfl rfl rfl f3) ?_;obtain ⟨x3,x4,o1⟩:=aN.el (sz:=1) rfl (aMl (f1 _ _ _ d1 (aJB b7))) f3
    cases o1
    refine aC ?_;obtain ⟨f4,h3,hm⟩:=aB hm
    refine bN rfl (fun _ _=>bV eN rfl h2 rfl rfl rfl h3) ?_;obtain ⟨x5,x6,o2⟩:=aN.el (sz:=1) rfl (aMl (f1 _ _ _ d1 (aJB b7))) h3
    cases o2
    refine aC ?_;refine bN rfl (fun _ _=>uZ (vs:=[(0,i64 f2),(1,i64 f4)]) (cs:=[i64 f2,i64 f4]) aBo aFz rfl (by kernel_rfl)) (aC ?_)
    have o3:=n9 _ _ o0
    have o4:=n8 _ _ o3
    refine aFR rfl ?_;obtain ⟨o5,o6,hm⟩:=aB hm
    refine aHD (i:=3) (k:=⟨f2,f4⟩) (v:=e0) runUnderlying74 aEj o4 rfl rfl rfl rfl o6 (fun o7 (x7:aD G K (box c1 74 [zM (some q)]::aF 28 K d e (aY o c)::rows [2] o c::cZ q o5::box m 27 h::j::cZ b a::l::box b1 77 g::L) o7)=>(aC ?_));exact jE aJ
   ·exact aJ
 have o8:aD G K (aF 28 K none 0 (aY ([]:List (Dp.Hd (List Int))) ([]:List (List Int)))::rows [2] ([]:List (Dp.Hd (List Int))) ([]:List (List Int))::box m 27 h::j::cZ b a::l::box b1 77 g::L) i6:=aD.nil (α:=aJA _) (aD.rowsNil (α:=(List Int)) (tys:=[2]) i7) 28 K
 obtain ⟨x8,o9,ho⟩:=aB hm
 refine bQ [0,1,4,19,20] o9 (fun a3 f5 f w=>∃ d2 d3 p,f 6=zS d2 a3.length d3/\f 21=i64 f5/\List.length p=List.length a3/\aD G K (aF 28 K d2 d3 (aY p a3)::rows [2] p a3::box m 27 h::j::cZ b a::l::box b1 77 g::L) w) ?_ ?_
 ·exact ⟨none,0,[],rfl,rfl,rfl,o8⟩
 ·rintro a3 f5 p0 f x9 hm hr ⟨d2,d3,p,y0,p1,h5,f6⟩
  unfold gS at hm
  refine aC ?_
  rcases aI hm with ⟨p2,hm⟩|⟨p2,hm⟩
  ·refine aC ?_;refine aK [0,1,4,19,20,21] (fun f w=>∃ c2 e1 e2 d4,gR f5 c2=some p0/\f 6=zS e1 c2.length e2/\List.length d4=List.length c2/\aD G K (aF 28 K e1 e2 (aY d4 c2)::rows [2] d4 c2::box m 27 h::j::cZ b a::l::box b1 77 g::L) w) ?_ ?_
   ·rintro f y1 ⟨c2,e1,e2,d4,hm,p3,p4,p5⟩
    unfold gR at hm
    refine aC ?_;exact ⟨_,(zI hm).symm,aR,e1,e2,d4,p3,rfl,p4,p5⟩
   refine aC ?_;obtain ⟨p6,f7,hm⟩:=aB hm
   have p7:=bC f6 (i:=3) rfl f7
   refine aL (bV jO rfl p7 rfl rfl p1 f7) ?_;obtain ⟨y2,p8,p9⟩:=aDh (sz:=1) rfl f6 (i:=3) rfl f7
   obtain ⟨q0,q1,rfl,q2⟩:=p9
   refine aL (aHf (t:=0) (v:=zS q0 p6.length q1) aCe p8 rfl rfl) (aC ?_);obtain ⟨y3,q3,hm⟩:=aB hm
   refine aC ?_;obtain ⟨y4,y5,q4⟩:=aN.el (sz:=1) rfl i5 q3
   cases q4
   refine aC ?_
   rcases aI hm with ⟨q5,hm⟩|⟨q5,hm⟩
   ·refine aC ?_;obtain ⟨c4,q6,hm⟩:=aB hm
    refine cG call61 (fQ q6 f6 (q2.mono f9)) ?_
    rintro _ q7 ⟨J,V,rfl,q8⟩
    have q9:aD G K (rows [2] ([(J,V)]:List (Dp.Hd (List Int))) [c4]::aF 28 K d2 d3 (aY p a3)::rows [2] p a3::box m 27 h::j::cZ b a::l::box b1 77 g::L) q7:=aD.rowsOne q8
    refine iG (Kt:=K) (xs:=aY ([(J,V)]:List (Dp.Hd (List Int))) ([c4]:List (List Int))) (cs:=[zS J c4.length V]) (vs:=[(0,zS J c4.length V)]) jO aDu rfl rfl q9 rfl (by kernel_rfl) rfl rfl rfl ⟨rfl,trivial⟩ ?_
    intro r0 r1 (r2:aD G K (aF 28 K r0 1 (aY ([(J,V)]:List (Dp.Hd (List Int))) ([c4]:List (List Int)))::rows [2] ([(J,V)]:List (Dp.Hd (List Int))) ([c4]:List (List Int))::aF 28 K d2 d3 (aY p a3)::rows [2] p a3::box m 27 h::j::cZ b a::l::box b1 77 g::L) r1)
    obtain ⟨f8,h6,hm⟩:=aB hm
    refine WO_appD (i:=0) (tys:=[2]) (hds:=p) (hds2:=([(J,V)]:List (Dp.Hd (List Int)))) jO underlying36 aDu rfl rfl r2 h5 rfl rfl rfl h6 rfl rfl rfl rfl ?_
    intro h8 h9 r3 (r4:aD G K (aF 28 K h8 h9 (aY (p++([(J,V)]:List (Dp.Hd (List Int)))) f8)::rows [2] (p++([(J,V)]:List (Dp.Hd (List Int)))) f8::box m 27 h::j::cZ b a::l::box b1 77 g::L) r3)
    refine aC ?_;exact ⟨aR,f8,h8,h9,(p++([(J,V)]:List (Dp.Hd (List Int)))),hm,rfl,(aPy h5 rfl h6),r4⟩
   ·exact aJ
  ·exact aJ
theorem sU {p:aO} {r_:aP} {R:(aO × (List (List Int)) × Int)} (hm:nD p r_=some R) (hs:aD G K (L) w) (hG:G.lo=0) (h3:aN K a1 c2 p.S.L) (h6:aN K a4 c5 p.S.E) (h9:aN K a7 c8 p.M) (c1:aN K a10 c11 p.C) (e8:aN K a13 c14 r_.L) (e9:aN K a16 c17 r_.E):
  Calls prog 8 ([zA (zEa p a1 c2 a4 c5 a7 c8 a10 c11),zA (zCa r_ a13 c14 a16 c17)]:List Value).toArray w (dS fun v w'=>∃ g9 h0 h1 h2 h4 h5 h7 h8 i0 i1 f0,v=zT #[zA (zEa R.1 g9 h0 h1 h2 h4 h5 h7 h8),zS i0 R.2.1.length i1,i64 R.2.2]/\List.length f0=List.length R.2.1/\aD G K (aF 9 K g9 h0 R.1.S.L::aF 90 K h1 h2 R.1.S.E::aF 2 K h4 h5 R.1.M::aF 9 K h7 h8 R.1.C::aF 28 K i0 i1 (aY f0 R.2.1)::rows [2] f0 R.2.1::L) w'):=by
 let Z:=(zE p a1 c2 a4 c5 a7 c8 a10 c11)
 let q:=zK
 let b6:=(zC r_ a13 c14 a16 c17)
 let i2:=aF 28 K none 0 (aY ([]:List (Dp.Hd (List Int))) ([]:List (List Int)))
 let d9:=aF 9 K none 0 ([]:List aH)
 refine cH func8 ?_;unfold nD at hm
 refine aC ?_;refine oZ fun a0 t4 t5=>?_
 refine oZ fun b8 t6 t7=>?_;refine kK fun y t8 j6=>?_
 refine aC ?_;refine iG (Kt:=K) (xs:=([r_]:List aP)) (cs:=b6) (vs:=[(0,zA (zCa r_ a13 c14 a16 c17))]) sl_124 ez_27 rfl rfl j6 rfl (by kernel_rfl) rfl rfl rfl ⟨⟨a13,c14,a16,c17,rfl,e8,e9⟩,trivial⟩ (fun b9 j7 (j8:aD G K (aF 27 K b9 1 ([r_]:List aP)::box y 30 q::box b8 27 b6::box a0 30 Z::L) j7)=>?_)
 obtain ⟨t9,e0,j9,k0,k1⟩:=aD.lendSp j8 (Hp.le_refl _) .head
 obtain ⟨u0,k2,hm⟩:=aB hm
 refine cG call25 (aCt k2 k0 hG (h3.mono e0) (h6.mono e0) (h9.mono e0) (c1.mono e0) j9) ?_
 rintro _ u1 ⟨rfl,k3⟩
 have k4:=k1 _ _ k3
 refine aC ?_
 rcases aI hm with ⟨k5,hm⟩|⟨k5,hm⟩
 ·iterate 3 refine cO ?_
  refine aL (jZ (vs:=[]) (cs:=q) aOE rfl (by kernel_rfl)) (aC ?_);refine kZ fun k6 k7=>?_
  refine aC ?_
  have k8:=aD.nil (α:=aH) k7 9 K
  have k9:=aD.nil (α:=Edge) k8 90 K
  have l0:=aD.nil (α:=Int) k9 2 K
  have l1:=aD.nil (α:=aH) l0 9 K
  have l2:aD G K (i2::rows [2] ([]:List (Dp.Hd (List Int))) ([]:List (List Int))::d9::aF 2 K none 0 ([]:List Int)::aF 90 K none 0 ([]:List Edge)::d9::aF 27 K b9 1 ([r_]:List aP)::box y 30 q::box b8 27 b6::box a0 30 Z::L) k6:=aD.nil (α:=aJA _) (aD.rowsNil (α:=(List Int)) (tys:=[2]) l1) 28 K
  obtain rfl:=zI hm
  exact aFP (sO (aJz results8 (aBm (vs:=q) rfl aCP l2 (i:=7) rfl rfl rfl) (aGB rfl rfl) (aGB rfl rfl) ⟨none,0,none,0,none,0,none,0,none,0,([]:List (Dp.Hd (List Int))),rfl,rfl,lI⟩))
 ·refine aC ?_;obtain ⟨n,l4,hm⟩:=aB hm
  refine cG call20 (aCa l4 k4 h3 h6 h9 c1 e8 e9) ?_
  rintro _ u2 ⟨o,a5,a6,a8,a9,b0,b7,rfl,r,l5⟩
  refine bH (v:=zP (some ⟨b7,0,none⟩)) (bF (bS (aU (v:=zP (some ⟨b7,0,none⟩)) (iG (Kt:=K) (xs:=([true]:List Bool)) (cs:=[zB true]) (vs:=[(0,zB true)]) nG ez_4 rfl rfl l5 rfl (by kernel_rfl) rfl rfl rfl ⟨rfl,trivial⟩ (fun d5 l6 (i3:aD G o (aF 4 K d5 1 ([true]:List Bool)::aF 28 o a5 a6 n.1::cZ a8 n.2.1::aF 24 o a9 b0 n.2.2::box b7 77 [i64 p.S.N,i64 p.S.I,zS a1 p.S.L.length c2,zS a4 p.S.E.length c5,zS a7 p.M.length c8,zS a10 p.C.length c11,i64 r_.N,i64 r_.I,zS a13 r_.L.length c14,zS a16 r_.E.length c17,zS a5 n.1.length a6,zM (some a8),zS a9 n.2.2.length b0]::aF 27 K b9 1 ([r_]:List aP)::box y 30 q::box b8 27 b6::box a0 30 Z::L) l6)=>(aU (v:=zP (some ⟨b7,0,none⟩)) (aL (qD rfl) (aL (cE (t':=10) aJK rfl rfl) (aL (hY aFX i3 (i:=4) rfl rfl rfl) (aL (mV (len:=n.1.length) jO rfl) ?_))))))))))
  obtain ⟨u3,u4,l7,l8,l9⟩:=aD.lendSp i3 r .head
  obtain ⟨f1,m0,hm⟩:=aB hm
  refine cG call29 (kE m0 l8 l7) ?_
  rintro _ m1 ⟨f2,f3,rfl,m2⟩
  have m3:=l9 _ _ m2
  obtain ⟨m4,c0,m5,m6,m7⟩:=aD.lendSp m3 r zt1
  have m8:aD G m4 (aF 28 o a5 a6 n.1::cZ a8 n.2.1::aF 24 o a9 b0 n.2.2::box b7 77 [i64 p.S.N,i64 p.S.I,zS a1 p.S.L.length c2,zS a4 p.S.E.length c5,zS a7 p.M.length c8,zS a10 p.C.length c11,i64 r_.N,i64 r_.I,zS a13 r_.L.length c14,zS a16 r_.E.length c17,zS a5 n.1.length a6,zM (some a8),zS a9 n.2.2.length b0]::aF 4 K d5 1 ([true]:List Bool)::aF 27 K b9 1 ([r_]:List aP)::box y 30 q::box b8 27 b6::box a0 30 Z::L) m1:=(aD.arr 5 [1,2,3,4,0] m6 rfl)
  obtain ⟨a,m9,hm⟩:=aB hm
  refine cG call22 (qF (Kf:=o) m9 m8 c0 (h3.mono (zL r c0)) (h6.mono (zL r c0)) (h9.mono (zL r c0)) (c1.mono (zL r c0)) (e8.mono (zL r c0)) (e9.mono (zL r c0)) m5) ?_
  rintro _ u5 ⟨b,c,d,e,u,x,m,rfl,e1,n0⟩
  have n1:=m7 _ _ n0
  refine aU (v:=zT #[zA (zCa a.1 b c d e),zS u a.2.length x]) (aL (cN rfl rfl) (aL (cN rfl rfl) (fG (vs:=zG) zeroValue27 n1 rfl (fun f4 u6 n2=>(iS (i:=0) (ns:=(zC a.1 b c d e)) (us:=(zC a.1 b c d e)) sizeOf27 n2 rfl rfl rfl rfl rfl (lS rfl) rfl rfl (fun n3 (n4:aD G o (box f4 27 (zC a.1 b c d e)::aF 4 K f2 f3 f1::aF 9 K b c a.1.L::aF 90 K d e a.1.E::aF 28 K u x (aY m a.2)::rows [2] m a.2::aF 28 o a5 a6 n.1::cZ a8 n.2.1::aF 24 o a9 b0 n.2.2::box b7 77 [i64 p.S.N,i64 p.S.I,zS a1 p.S.L.length c2,zS a4 p.S.E.length c5,zS a7 p.M.length c8,zS a10 p.C.length c11,i64 r_.N,i64 r_.I,zS a13 r_.L.length c14,zS a16 r_.E.length c17,zS a5 n.1.length a6,zM (some a8),zS a9 n.2.2.length b0]::aF 4 K d5 1 ([true]:List Bool)::aF 27 K b9 1 ([r_]:List aP)::box y 30 q::box b8 27 b6::box a0 30 Z::L) n3)=>(bH (v:=zS u a.2.length x) (bF (bI (aW [2,4,10] (fun f w=>∃ g a2 k l,wM p a g=some R/\f 11=zP (some ⟨a2,0,none⟩)/\aD G o (aF 9 K k l g::box a2 30 [i64 a.1.N,i64 a.1.I,zS b a.1.L.length c,zS d a.1.E.length e,zS none 0 0,zS k g.length l]::aF 9 K b c a.1.L::aF 90 K d e a.1.E::aF 28 K u x (aY m a.2)::rows [2] m a.2::box y 30 q::box a0 30 Z::L) w) ?_ ?_))))))))))
  ·rintro f u7 ⟨g,a2,k,l,hm,e2,n5⟩
   unfold wM at hm
   refine aG (bI (bS (aU (v:=zS u a.2.length x) (aL (mV (len:=a.2.length) jO rfl) (aU (v:=i64 0) (bF (aK [4,10,11] (fun f w=>∃ z J V,wL a g z=some R/\aD G o (aF 2 K J V z::aF 9 K k l g::box a2 30 [i64 a.1.N,i64 a.1.I,zS b a.1.L.length c,zS d a.1.E.length e,zS J z.length V,zS k g.length l]::aF 9 K b c a.1.L::aF 90 K d e a.1.E::aF 28 K u x (aY m a.2)::rows [2] m a.2::box y 30 q::L) w) ?_ ?_)))))))
   ·rintro f u8 ⟨z,J,V,hm,i4⟩
    unfold wL at hm
    refine aG (bI (bS (aL (kH (us:=[i64 a.1.N,i64 a.1.I,zS b a.1.L.length c,zS d a.1.E.length e,zS J z.length V,zS k g.length l]) aCP i4 (i:=2) rfl e2 rfl rfl) ?_)));obtain ⟨u9,f5,n6,n7,n8⟩:=aD.lendSp i4 r zt3
    obtain ⟨v0,f6,n9,o0,o1⟩:=aD.lendSp n7 (zL r f5) zt3
    obtain ⟨v1,f7,o2,o3,o4⟩:=aD.lendSp o0 (zL (zL r f5) f6) .head
    obtain ⟨v2,f8,o5,o6,o7⟩:=aD.lendSp o3 (zL (zL (zL r f5) f6) f7) .head
    obtain ⟨v3,o8,hm⟩:=aB hm
    refine cG call9 (wT (p:=⟨⟨a.1.N,a.1.I,a.1.L,a.1.E⟩,z,g⟩) o8 o6 hG (n6.mono (zL (zL f6 f7) f8)) (n9.mono (zL f7 f8)) (o2.mono f8) o5) ?_
    rintro _ v4 ⟨rfl,o9⟩
    have p0:=o7 _ _ o9
    have p1:=o4 _ _ p0
    have p2:=o1 _ _ p1
    have f9:=n8 _ _ p2
    refine aL (aHw rfl) (bF ?_)
    rcases aI hm with ⟨g0,hm⟩|⟨g0,hm⟩
    ·refine cP g0 rfl (bS (aL (jZ (vs:=[]) (cs:=q) aOE rfl (by kernel_rfl)) (iS (i:=7) (ns:=q) (us:=q) sizeOf30 f9 rfl rfl rfl rfl rfl (lS rfl) rfl rfl (fun i5 (p3:aD G o (aF 9 K b c a.1.L::aF 90 K d e a.1.E::aF 2 K J V z::aF 9 K k l g::box a2 30 [i64 a.1.N,i64 a.1.I,zS b a.1.L.length c,zS d a.1.E.length e,zS J z.length V,zS k g.length l]::aF 28 K u x (aY m a.2)::rows [2] m a.2::box y 30 q::L) i5)=>(bH (v:=zS none 0 0) (bH (v:=i64 5) (bF ?_)))))))
     have p4:=aD.nil (α:=aH) p3 9 K
     have p5:=aD.nil (α:=Edge) p4 90 K
     have p6:=aD.nil (α:=Int) p5 2 K
     have p7:=aD.nil (α:=aH) p6 9 K
     have i6:aD G o (i2::rows [2] ([]:List (Dp.Hd (List Int))) ([]:List (List Int))::d9::aF 2 K none 0 ([]:List Int)::aF 90 K none 0 ([]:List Edge)::d9::aF 9 K b c a.1.L::aF 90 K d e a.1.E::aF 2 K J V z::aF 9 K k l g::box a2 30 [i64 a.1.N,i64 a.1.I,zS b a.1.L.length c,zS d a.1.E.length e,zS J z.length V,zS k g.length l]::aF 28 K u x (aY m a.2)::rows [2] m a.2::box y 30 q::L) i5:=aD.nil (α:=aJA _) (aD.rowsNil (α:=(List Int)) (tys:=[2]) p7) 28 K
     obtain rfl:=zI hm
     exact aFP (sO (aJz results8 (aBm (vs:=q) rfl aCP i6 (i:=13) rfl rfl rfl) (aGB rfl rfl) (aGB rfl rfl) ⟨none,0,none,0,none,0,none,0,none,0,([]:List (Dp.Hd (List Int))),rfl,rfl,(aD.weakK (aD.arr 14 [5,4,3,2,0,1] i6 rfl) r)⟩))
    ·refine bM g0 rfl (dD (aG (bS (aL (kH (us:=[i64 a.1.N,i64 a.1.I,zS b a.1.L.length c,zS d a.1.E.length e,zS J z.length V,zS k g.length l]) aCP f9 (i:=4) rfl e2 rfl rfl) (aU (v:=zS u a.2.length x) (iS (i:=7) (ns:=[i64 a.1.N,i64 a.1.I,zS b a.1.L.length c,zS d a.1.E.length e,zS J z.length V,zS k g.length l]) (us:=[i64 a.1.N,i64 a.1.I,zS b a.1.L.length c,zS d a.1.E.length e,zS J z.length V,zS k g.length l]) sizeOf30 f9 rfl rfl rfl rfl rfl (lS rfl) rfl rfl (fun p9 (i7:aD G o (aF 9 K b c a.1.L::aF 90 K d e a.1.E::aF 2 K J V z::aF 9 K k l g::box a2 30 [i64 a.1.N,i64 a.1.I,zS b a.1.L.length c,zS d a.1.E.length e,zS J z.length V,zS k g.length l]::aF 28 K u x (aY m a.2)::rows [2] m a.2::box y 30 [i64 a.1.N,i64 a.1.I,zS b a.1.L.length c,zS d a.1.E.length e,zS J z.length V,zS k g.length l]::L) p9)=>(bH (v:=zS u a.2.length x) (bH (v:=i64 0) (bF ?_))))))))))
     obtain rfl:=zI hm
     exact aFP (aJz results8 (aBm (vs:=[i64 a.1.N,i64 a.1.I,zS b a.1.L.length c,zS d a.1.E.length e,zS J z.length V,zS k g.length l]) rfl aCP i7 (i:=7) rfl rfl rfl) (aGB rfl rfl) (aGB rfl rfl) ⟨b,c,d,e,J,V,k,l,u,x,m,rfl,e1,(aD.weakK (aD.arr 8 [0,1,2,3,5,6] i7 rfl) r)⟩)
   have v5:=aD.nil (α:=Int) n5 2 K
   obtain ⟨v6,q1,ho⟩:=aB hm
   refine bQ [2,4,10,11,42,43] q1 (fun b2 b1 f w=>∃ b3 b4,f 44=i64 b1/\aD G o (aF 2 K b3 b4 b2::aF 9 K k l g::box a2 30 [i64 a.1.N,i64 a.1.I,zS b a.1.L.length c,zS d a.1.E.length e,zS b3 b2.length b4,zS k g.length l]::aF 9 K b c a.1.L::aF 90 K d e a.1.E::aF 28 K u x (aY m a.2)::rows [2] m a.2::box y 30 q::box a0 30 Z::L) w) aJ ?_
   ·rintro b2 b1 q2 f v7 hm hr ⟨b3,b4,e3,a3⟩
    unfold nO at hm
    refine bS (aL (wZ e3 rfl) (bF (bI ?_)))
    rcases aI hm with ⟨g1,hm⟩|⟨g1,hm⟩
    ·refine cP g1 rfl (dD (aG (bI (aK [2,4,10,11,42,43,44] (fun f w=>∃ e4 e5 e6,nN b1 e4=some q2/\aD G o (aF 2 K e5 e6 e4::aF 9 K k l g::box a2 30 [i64 a.1.N,i64 a.1.I,zS b a.1.L.length c,zS d a.1.E.length e,zS e5 e4.length e6,zS k g.length l]::aF 9 K b c a.1.L::aF 90 K d e a.1.E::aF 28 K u x (aY m a.2)::rows [2] m a.2::box y 30 q::box a0 30 Z::L) w) ?_ ?_))))
     ·rintro f v8 ⟨e4,e5,e6,hm,q3⟩
      unfold nN at hm
      exact aG (cK (aL (uW e3 rfl) (aU (v:=i64 (wr (b1+1))) (bF ⟨_,(zI hm).symm,aR,e5,e6,rfl,q3⟩))))
     refine bS (gN e3 ?_);obtain ⟨i8,c3,hm⟩:=aB hm
     obtain ⟨⟨i9,j0⟩,e7⟩:=aMm e1 c3
     have q4:=bC a3 (i:=5) rfl (uY e1 c3 e7)
     refine aL (bV jO rfl q4 rfl rfl e3 c3) (aL (aCN (t:=0) aCe a3 (i:=5) rfl (uY e1 c3 e7) rfl rfl rfl) (bH (v:=i64 b1) (bH (v:=zS i9 i8.length j0) (bF (bI (aKj (C:=fun w'=>aD G o (aF 2 K b3 b4 b2::aF 9 K k l g::box a2 30 [i64 a.1.N,i64 a.1.I,zS b a.1.L.length c,zS d a.1.E.length e,zS b3 b2.length b4,zS k g.length l]::aF 9 K b c a.1.L::aF 90 K d e a.1.E::aF 28 K u x (aY m a.2)::rows [2] m a.2::box y 30 q::box a0 30 Z::L) w') Tryz_mixed (by kernel_rfl) (aD.mono a3 (gD.drew _)) (jN (fun _ a3=>kH (us:=Z) aCP a3 (i:=8) rfl rfl rfl rfl) (jN (fun _ a3=>cC (v:=zS i9 i8.length j0) rfl) ?_))))))))
     obtain ⟨q5,g2,hm⟩:=aB hm
     have q6:=bC (aD.rowOut (i:=6) a3 rfl e7 (aJB c3)) (i:=0) rfl g2
     refine jN (fun _ a3=>bV eN rfl q6 rfl rfl rfl g2) (jN (fun _ a3=>aCN (t:=0) oG (aD.rowOut (i:=6) a3 rfl e7 (aJB c3)) (i:=0) rfl g2 rfl rfl rfl) ?_);obtain ⟨q7,q8,hm⟩:=aB hm
     refine aDG (vs:=[zA (zEa p a1 c2 a4 c5 a7 c8 a10 c11),i64 q5]) (v:=zB q7) call27 rfl (fun _ a3=>(sT q8 a3 (h3.mono r) (h6.mono r) (h9.mono r) (c1.mono r))) (oS (fun v9 g3=>(aG ?_)))
     rcases aI hm with ⟨g4,hm⟩|⟨g4,hm⟩
     ·refine cP g4 rfl (cK (aL (cE (t':=4) aLM e2 rfl) (aL (hY aCe g3 (i:=2) rfl rfl rfl) (aU (v:=i64 b1) (iG (Kt:=K) (xs:=([b1]:List Int)) (cs:=[i64 b1]) (vs:=[(0,i64 b1)]) eN aHr rfl rfl g3 rfl (by kernel_rfl) rfl rfl rfl ⟨rfl,trivial⟩ (fun q9 r0 (r1:aD G o (aF 2 K q9 1 ([b1]:List Int)::aF 2 K b3 b4 b2::aF 9 K k l g::box a2 30 [i64 a.1.N,i64 a.1.I,zS b a.1.L.length c,zS d a.1.E.length e,zS b3 b2.length b4,zS k g.length l]::aF 9 K b c a.1.L::aF 90 K d e a.1.E::aF 28 K u x (aY m a.2)::rows [2] m a.2::box y 30 q::box a0 30 Z::L) r0)=>?_))))))
      obtain ⟨c4,r2,hm⟩:=aB hm
      exact aBl (i:=0) eN underlying28 aHr rfl rfl r1 rfl r r r2 rfl rfl rfl rfl (fun _ h=>h) (fun c6 c7 r3 (r4:aD G o (aF 2 K c6 c7 c4::aF 9 K k l g::box a2 30 [i64 a.1.N,i64 a.1.I,zS b a.1.L.length c,zS d a.1.E.length e,zS b3 b2.length b4,zS k g.length l]::aF 9 K b c a.1.L::aF 90 K d e a.1.E::aF 28 K u x (aY m a.2)::rows [2] m a.2::box y 30 q::box a0 30 Z::L) r3)=>(aL (cE (t':=4) aLM e2 rfl) (iS (i:=2) (ns:=[zS c6 c4.length c7]) (us:=[i64 a.1.N,i64 a.1.I,zS b a.1.L.length c,zS d a.1.E.length e,zS c6 c4.length c7,zS k g.length l]) sizeOf28 r4 rfl rfl rfl rfl rfl (lS rfl) rfl rfl (fun r5 (r6:aD G o (aF 2 K c6 c7 c4::aF 9 K k l g::box a2 30 [i64 a.1.N,i64 a.1.I,zS b a.1.L.length c,zS d a.1.E.length e,zS c6 c4.length c7,zS k g.length l]::aF 9 K b c a.1.L::aF 90 K d e a.1.E::aF 28 K u x (aY m a.2)::rows [2] m a.2::box y 30 q::box a0 30 Z::L) r5)=>(aM (iP (aG ⟨aR,c4,c6,c7,hm,r6⟩)))))))
     ·exact bM g4 rfl (dD (iP (aG ⟨aR,b2,b3,b4,hm,g3⟩)))
    ·refine bM g1 rfl (wD (fH (fH ?_)))
     have w0:=hr _ (zI hm).symm
     exact aJ
  obtain ⟨w1,j1,r7,r8,j2⟩:=aD.lendBp n4 .head
  obtain ⟨r9,g5,s0,s1,j3⟩:=aD.lendBp r8 (.tail zt12)
  refine aDR (C:=fun w'=>∃ L',aD G r9 L' w') [6] Tryz_mixed (by kernel_rfl) (fun w2 s2=>?_)
  have b5:=aD.mono s1 s2
  refine wE (i:=0) rfl (by kernel_rfl) ⟨_,b5⟩ (fun _ ⟨_,b5⟩=>sX (t:=0) (vs:=(zC a.1 b c d e)) sM b5 (r7.mono g5) rfl rfl rfl) (wE (i:=1) rfl (by kernel_rfl) ⟨_,b5⟩ (fun _ _=>cE (t':=5) fa_30_2 rfl rfl) (wE (i:=2) rfl (by kernel_rfl) ⟨_,b5⟩ (fun _ ⟨_,b5⟩=>dQ (t:=5) aHg b5 s0 rfl rfl) (aBn (i:=3) (j:=5) (by kernel_rfl) rfl rfl ?_ ?_)))
  ·obtain ⟨c9,s3,hm⟩:=aB hm
   refine cG call30 (aZ s3 b5 (c1.mono (zL (zL r j1) g5))) ?_
   rintro _ w3 ⟨d0,d1,rfl,g6⟩
   refine aM (aG ⟨fun _=>⟨_,g6⟩,?_⟩)
   refine wE (i:=4) rfl (by kernel_rfl) ⟨_,g6⟩ (fun _ _=>jZ (vs:=[(0,zA (zCa a.1 b c d e)),(2,zS d0 c9.length d1)]) (cs:=[i64 a.1.N,i64 a.1.I,zS b a.1.L.length c,zS d a.1.E.length e,zS none 0 0,zS d0 c9.length d1]) aOE rfl (by kernel_rfl)) (cA (i:=5) (by kernel_rfl) rfl (fG (vs:=q) zeroValue30 g6 rfl (fun s4 w4 j4=>(aM (aG ⟨fun _=>⟨_,j4⟩,?_⟩)))))
   refine cA (i:=6) (by kernel_rfl) rfl ?_
   have s5:=j3 _ _ j4
   have s6:=j2 _ _ s5
   refine iS (i:=2) (ns:=[i64 a.1.N,i64 a.1.I,zS b a.1.L.length c,zS d a.1.E.length e,zS none 0 0,zS d0 c9.length d1]) (us:=[i64 a.1.N,i64 a.1.I,zS b a.1.L.length c,zS d a.1.E.length e,zS none 0 0,zS d0 c9.length d1]) sizeOf30 s6 rfl rfl rfl rfl rfl (lS rfl) rfl rfl (fun s7 (w5:aD G o (box f4 27 (zC a.1 b c d e)::box a0 30 Z::box s4 30 [i64 a.1.N,i64 a.1.I,zS b a.1.L.length c,zS d a.1.E.length e,zS none 0 0,zS d0 c9.length d1]::aF 9 K d0 d1 c9::aF 4 K f2 f3 f1::aF 9 K b c a.1.L::aF 90 K d e a.1.E::aF 28 K u x (aY m a.2)::rows [2] m a.2::aF 28 o a5 a6 n.1::cZ a8 n.2.1::aF 24 o a9 b0 n.2.2::box b7 77 [i64 p.S.N,i64 p.S.I,zS a1 p.S.L.length c2,zS a4 p.S.E.length c5,zS a7 p.M.length c8,zS a10 p.C.length c11,i64 r_.N,i64 r_.I,zS a13 r_.L.length c14,zS a16 r_.E.length c17,zS a5 n.1.length a6,zM (some a8),zS a9 n.2.2.length b0]::aF 4 K d5 1 ([true]:List Bool)::aF 27 K b9 1 ([r_]:List aP)::box y 30 q::box b8 27 b6::L) s7)=>(aM (aG ⟨no_c rfl,?_⟩)))
   exact pZ (by kernel_rfl) aJ
  ·refine fG (vs:=q) zeroValue30 b5 rfl (fun s8 w6 j5=>(aM (aG ⟨fun _=>⟨_,j5⟩,?_⟩)))
   refine cA (i:=3) (by kernel_rfl) rfl ?_;obtain ⟨d2,s9,hm⟩:=aB hm
   refine cG call30 (aZ s9 j5 (c1.mono (zL (zL r j1) g5))) ?_
   rintro _ w7 ⟨d3,d4,rfl,g7⟩
   refine aM (aG ⟨fun _=>⟨_,g7⟩,?_⟩)
   refine wE (i:=4) rfl (by kernel_rfl) ⟨_,g7⟩ (fun _ _=>jZ (vs:=[(0,zA (zCa a.1 b c d e)),(2,zS d3 d2.length d4)]) (cs:=[i64 a.1.N,i64 a.1.I,zS b a.1.L.length c,zS d a.1.E.length e,zS none 0 0,zS d3 d2.length d4]) aOE rfl (by kernel_rfl)) (cA (i:=6) (by kernel_rfl) rfl ?_)
   have t0:=j3 _ _ g7
   have t1:=j2 _ _ t0
   refine iS (i:=3) (ns:=[i64 a.1.N,i64 a.1.I,zS b a.1.L.length c,zS d a.1.E.length e,zS none 0 0,zS d3 d2.length d4]) (us:=[i64 a.1.N,i64 a.1.I,zS b a.1.L.length c,zS d a.1.E.length e,zS none 0 0,zS d3 d2.length d4]) sizeOf30 t1 rfl rfl rfl rfl rfl (lS rfl) rfl rfl (fun t2 (w8:aD G o (box f4 27 (zC a.1 b c d e)::box a0 30 Z::aF 9 K d3 d4 d2::box s8 30 [i64 a.1.N,i64 a.1.I,zS b a.1.L.length c,zS d a.1.E.length e,zS none 0 0,zS d3 d2.length d4]::aF 4 K f2 f3 f1::aF 9 K b c a.1.L::aF 90 K d e a.1.E::aF 28 K u x (aY m a.2)::rows [2] m a.2::aF 28 o a5 a6 n.1::cZ a8 n.2.1::aF 24 o a9 b0 n.2.2::box b7 77 [i64 p.S.N,i64 p.S.I,zS a1 p.S.L.length c2,zS a4 p.S.E.length c5,zS a7 p.M.length c8,zS a10 p.C.length c11,i64 r_.N,i64 r_.I,zS a13 r_.L.length c14,zS a16 r_.E.length c17,zS a5 n.1.length a6,zM (some a8),zS a9 n.2.2.length b0]::aF 4 K d5 1 ([true]:List Bool)::aF 27 K b9 1 ([r_]:List aP)::box y 30 q::box b8 27 b6::L) t2)=>(aM (aG ⟨no_c rfl,?_⟩)))
   exact pZ (by kernel_rfl) aJ
end Gv
