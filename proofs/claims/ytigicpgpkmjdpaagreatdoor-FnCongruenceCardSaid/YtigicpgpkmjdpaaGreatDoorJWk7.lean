/- Walks, printed by program. -/
import Derived.Test.YtigicpgpkmjdpaaGreatDoorJWk5
set_option linter.all false
namespace Gv
open Go.Value renaming slice→zS,bool→zB,pointer→zP,agg→zA
open Option.some renaming inj→zI
open Gv.Hp renaming le_trans→zL,le_refl→zR
open Go Go.Proofs Go.Proofs.Tryz
set_option maxRecDepth 20000
set_option maxHeartbeats 40000000
variable {G:zZ} {K:Hp} {L:List jM} {w:World} {a1 a4 a7 a3 a6 a2 a10 a13:Option Addr} {c2 c5 c8 c7 b1 c3 c14 c11:Nat}
theorem aCb {t:bB} {p:(List Int)} {b5:Bool} {R:(List Int)} (hm:tX t p b5=some R) (hs:aF G K (L) w) (h3:bG K a1 c2 t.L) (h6:bG K a4 c5 t.E) (h9:bG K a7 c8 p):
  Calls prog 161 ([zA (zCa t a1 c2 a4 c5),zS a7 p.length c8,zB b5]:List Value).toArray w (eZ fun v w'=>∃ e1 e2,v=zS e1 R.length e2/\aF G K (aL 2 K e1 e2 R::L) w'):=by
 let c:=(zC t a1 c2 a4 c5)
 refine aO func161 rfl (by kernel_rfl) (by show (3:Nat)<=79;decide) ?_;unfold tX at hm
 refine aK (dJ (v:=zA (zCa t a1 c2 a4 c5)) (vs:=c) hs rfl rfl (fun d l7 h0=>(aJ (v:=zS none 0 0) (aH (aK (cK (Kt:=K) (xs:=([(-1)]:List Int)) (cs:=[i64 (-1)]) (vs:=[(0,i64 (-1))]) bJ zD rfl rfl h0 rfl (by kernel_rfl) rfl rfl rfl ⟨rfl,trivial⟩ (fun e3 h1 (e4:aF G K (aL 2 K e3 1 ([(-1)]:List Int)::box d 35 c::L) h1)=>(aD (aV (t':=0) gT rfl rfl) (aD (cJ dC e4 (i:=1) rfl rfl rfl) ?_)))))))));obtain ⟨l8,l9,h2,h4,h5⟩:=aF.lendSp e4 (zR _) .head
 obtain ⟨h7,h8,hm⟩:=aB hm
 refine aR (vs:=[zS e3 ([(-1)]:List Int).length 1,i64 t.N]) call203 rfl (oM h8 h4 h2) ?_
 rintro _ m0 ⟨a,b,rfl,i0⟩
 have i1:=h5 _ _ i0
 refine aJ (v:=zS a h7.length b) (aH (aK (aG (v:=zS a7 p.length c8) ?_)));obtain ⟨r,i2,hm⟩:=aB hm
 refine aR (vs:=[zS a7 p.length c8]) call91 rfl (iB i2 i1 h9) ?_
 rintro _ m1 ⟨u,x,rfl,m2⟩
 refine aJ (v:=zS u r.length x) (aH (aM (aK (aG (v:=zS a7 p.length c8) (aD (bH (len:=p.length) bJ rfl) (aG (v:=i64 0) (aH (aQ [2,3,8] (fun f w=>∃ y,tH t b5 r y=some R/\f 7=zS a y.length b/\aF G K (aL 2 K u x r::aL 2 K a b y::box d 35 c::L) w) ?_ ?_))))))))
 ·rintro f m3 ⟨y,hm,m4,m5⟩
  unfold tH at hm
  refine aC (aM (aQ [] (fun f w=>∃ b7,aDv b7=some R/\f 7=zS a b7.length b/\aF G K (aL 2 K a b b7::L) w) aP ?_));obtain ⟨m6,i3,ho⟩:=aB hm
  refine cC [2,3] i3 (fun z J f w=>∃ V a0,f 7=zS a z.length b/\f 8=zS V J.length a0/\aF G K (aL 2 K V a0 J::aL 2 K a b z::box d 35 c::L) w) aP ?_
  ·rintro z J e5 f i4 hm hr ⟨V,a0,m7,b8,a2⟩
   unfold tG at hm
   refine aM (aK (bC b8 (aD (bH (len:=J.length) bJ rfl) (aD (aAa rfl rfl) (aH ?_)))))
   rcases aN hm with ⟨e6,hm⟩|⟨e6,hm⟩
   ·refine aS e6 rfl (aY (aC (aQ [2,3] (fun f w=>∃ a3 a5 a6 a8,zN a3 a5=some e5/\f 7=zS a a3.length b/\f 8=zS a6 a5.length a8/\aF G K (aL 2 K a6 a8 a5::aL 2 K a b a3::box d 35 c::L) w) ?_ ?_)))
    ·rintro f m8 ⟨a3,a5,a6,a8,hm,i5,i6,i7⟩
     unfold zN at hm
     exact aC ⟨_,(zI hm).symm,bL,a6,a8,i5,i6,i7⟩
    refine aK (bC b8 ?_);obtain ⟨a9,b9,hm⟩:=aB hm
    have i8:=dU a2 (i:=0) rfl b9
    refine aD (fL bJ rfl i8 rfl rfl rfl b9) (aD (rH (t:=0) dC a2 (i:=0) rfl b9 rfl rfl rfl) (aJ (v:=i64 a9) (aH (aK (bC b8 ?_)))));obtain ⟨e7,e8,hm⟩:=aB hm
    have i9:=qJ a2 (i:=0) rfl
    obtain ⟨e9,f0,f1⟩:=Cut.ex 1 V a0 1
    refine aD (aEq bJ i9 f1 rfl rfl rfl e8) ?_
    have j0:aF G K (aL 2 K e9 f0 e7::aL 2 K a b z::box d 35 c::L) i4:=aF.cutP a2 (i:=0) rfl e8 f1
    refine aJ (v:=zS e9 e7.length f0) (aH (aK (aD (aV (t':=3) fY rfl rfl) (aD (cJ oJ j0 (i:=2) rfl rfl rfl) (aD (bH (len:=t.E.length) cS rfl) (aG (v:=i64 0) (aH (aQ [2,3] (fun f w=>∃ c0 c1 f2 f3,aDw c0 c1=some e5/\f 7=zS a c0.length b/\f 8=zS f2 c1.length f3/\aF G K (aL 2 K f2 f3 c1::aL 2 K a b c0::box d 35 c::L) w) aP ?_))))))));obtain ⟨m9,j1,ho⟩:=aB hm
    refine oR [2,3,11,41,42] j1 (fun j g q f w=>∃ k l,f 7=zS a j.length b/\f 8=zS k g.length l/\f 43=i64 q/\aF G K (aL 2 K k l g::aL 2 K a b j::box d 35 c::L) w) aP ?_
    ·rintro j g q c3 f n0 hm hr ⟨k,l,c4,j2,c6,f4⟩
     unfold pE at hm
     refine aK (aD (cU c6 rfl) (aH (aM ?_)))
     rcases aN hm with ⟨f5,hm⟩|⟨f5,hm⟩
     ·refine aS f5 rfl (aY (aC (aM (aQ [2,3,11,41,42,43] (fun f w=>∃ b0 b1 b2 b3,kQ q b0 b1=some c3/\f 7=zS a b0.length b/\f 8=zS b2 b1.length b3/\aF G K (aL 2 K b2 b3 b1::aL 2 K a b b0::box d 35 c::L) w) ?_ ?_))))
      ·rintro f n1 ⟨b0,b1,b2,b3,hm,j3,j4,j5⟩
       unfold kQ at hm
       exact aC (aU (aD (dT c6 rfl) (aG (v:=i64 (wr (q+1))) (aH ⟨_,(zI hm).symm,bL,b2,b3,j3,j4,rfl,j5⟩))))
      refine aK ?_;obtain ⟨e,f6,hm⟩:=aB hm
      refine aD (dP cS rfl h6 rfl rfl c6 f6) ?_;obtain ⟨n2,j6,j7⟩:=bG.el (sz:=3) rfl h6 f6
      cases j7
      refine aD (fP (t:=0) (vs:=[i64 e.F,i64 e.B,i64 e.To]) qA f4 j6 rfl rfl rfl) (aZ (vs:=[i64 0,i64 0,i64 0]) zeroValue70 f4 rfl (fun f7 n3 j8=>(bS (i:=0) (ns:=[i64 e.F,i64 e.B,i64 e.To]) (us:=[i64 e.F,i64 e.B,i64 e.To]) sizeOf70 j8 rfl rfl rfl rfl rfl (dQ rfl) rfl rfl (fun j9 (m:aF G K (box f7 70 [i64 e.F,i64 e.B,i64 e.To]::aL 2 K k l g::aL 2 K a b j::box d 35 c::L) j9)=>(aH (aM (mC (C:=fun w'=>aF G K (box f7 70 [i64 e.F,i64 e.B,i64 e.To]::aL 2 K k l g::aL 2 K a b j::box d 35 c::L) w') Tryz_mixed (by kernel_rfl) (aF.mono m (fJ.drew _)) (bX (fun _ m=>aV (t':=0) uY rfl rfl) (bX (fun _ m=>cJ dC m (i:=0) rfl rfl rfl) (bX (fun _ m=>aV (t':=2) pQ rfl rfl) (bX (fun _ m=>cJ dC m (i:=0) rfl rfl rfl) (bX (fun _ m=>fW (v:=i64 e.F) rfl) (bX (fun _ m=>fW (v:=i64 e.To) rfl) (vN (fun n4 n5=>(aC (mB [2,3,7,8,11,41,42,43] (fun f w=>∃ c7 o,pD a9 j g q c7 o=some c3/\f 14=i64 c7/\f 15=i64 o/\aF G K (aL 2 K k l g::aL 2 K a b j::box d 35 c::L) w) ?_ ?_)))))))))))))))))
      ·rintro f n6 ⟨c7,o,hm,n7,f8,n8⟩
       unfold pD at hm
       refine aM (cH [2,3,7,8,11,15,41,42,43] (fun f w=>∃ c9,mJ a9 j g q o c9=some c3/\f 64=zB c9/\aF G K (aL 2 K k l g::aL 2 K a b j::box d 35 c::L) w) ?_ ?_)
       ·rintro f n9 ⟨c9,hm,k0,d0⟩
        unfold mJ at hm
        refine aC ?_
        rcases aN hm with ⟨f9,hm⟩|⟨f9,hm⟩
        ·refine aS f9 k0 (aK (bC c4 (bC f8 (bC c4 (aG (v:=i64 a9) ?_)))));obtain ⟨g0,d1,hm⟩:=aB hm
         have g1:=dU d0 (i:=1) rfl d1
         refine aD (fL bJ rfl g1 rfl rfl rfl d1) (aD (rH (t:=0) dC d0 (i:=1) rfl d1 rfl rfl rfl) (aD (dT rfl rfl) ?_));obtain ⟨o0,g2,hm⟩:=aB hm
         refine aD (fL bJ rfl g1 rfl rfl rfl g2) ?_;obtain ⟨b4,g3,hm⟩:=aB hm
         refine nO (i:=1) (t:=0) (ns:=[i64 (wr (g0+1))]) (e':=(wr (g0+1):Int)) sizeOf2 d0 rfl (zR _) rfl rfl rfl g2 g3 rfl rfl (dQ rfl) rfl (fun cs h=>by cases h;rfl) (fun k1 (k2:aF G K (aL 2 K k l g::aL 2 K a b b4::box d 35 c::L) k1)=>(aH (aU (bC j2 (bC f8 (cK (Kt:=K) (xs:=([o]:List Int)) (cs:=[i64 o]) (vs:=[(0,i64 o)]) bJ zD rfl rfl k2 rfl (by kernel_rfl) rfl rfl rfl ⟨rfl,trivial⟩ (fun k3 k4 (k5:aF G K (aL 2 K k3 1 ([o]:List Int)::aL 2 K k l g::aL 2 K a b b4::box d 35 c::L) k4)=>?_)))))))
         obtain ⟨d2,k6,hm⟩:=aB hm
         exact nE (i:=0) bJ underlying29 zD rfl rfl k5 rfl (zR _) (zR _) k6 rfl rfl rfl rfl (fun _ h=>h) (fun d3 d4 k7 (k8:aF G K (aL 2 K d3 d4 d2::aL 2 K a b b4::box d 35 c::L) k7)=>(aJ (v:=zS d3 d2.length d4) (aT (dB (aC ⟨bL,b4,d2,d3,d4,hm,(Eq.trans c4 (congrArg (fun n=>zS a n b) (jG g3))),rfl,k8⟩)))))
        ·exact aP
       exact aP
      exact aP
     ·exact aP
   ·exact aP
 obtain ⟨o1,k9,ho⟩:=aB hm
 refine cC [2,3,8,22,23] k9 (fun d5 d6 f w=>f 7=zS a d5.length b/\f 24=i64 d6/\aF G K (aL 2 K u x r::aL 2 K a b d5::box d 35 c::L) w) aP ?_
 ·rintro d5 d6 o2 f o3 hm hr ⟨g4,d7,d8⟩
  unfold rP at hm
  refine aK (aD (cU d7 rfl) (aH (aM ?_)))
  rcases aN hm with ⟨g5,hm⟩|⟨g5,hm⟩
  ·refine aS g5 rfl (aY (aC (aM (cV (aK ?_)))));obtain ⟨g6,g7,hm⟩:=aB hm
   refine aD (dP bJ rfl h9 rfl rfl d7 g7) ?_;obtain ⟨o4,l0,l1⟩:=bG.el (sz:=1) rfl h9 g7
   cases l1
   refine aD (bD (t:=0) dC d8 l0 rfl rfl) (aJ (v:=i64 g6) (aH (aU (bC g4 (aG (v:=i64 g6) ?_)))));obtain ⟨o5,d9,hm⟩:=aB hm
   have l2:=dU d8 (i:=1) rfl d9
   refine aD (fL bJ rfl l2 rfl rfl rfl d9) ?_;obtain ⟨l3,g8,hm⟩:=aB hm
   exact nO (i:=1) (t:=0) (ns:=[i64 0]) (e':=(0:Int)) sizeOf2 d8 rfl (zR _) rfl rfl rfl d9 g8 rfl rfl (dQ rfl) rfl (fun cs h=>by cases h;rfl) (fun l4 (l5:aF G K (aL 2 K u x r::aL 2 K a b l3::box d 35 c::L) l4)=>(aT (dB (aC (aU (aD (dT d7 rfl) (aG (v:=i64 (wr (d6+1))) (aH ⟨_,(zI hm).symm,bL,(Eq.trans g4 (congrArg (fun n=>zS a n b) (jG g8))),rfl,l5⟩))))))))
  ·exact aP
theorem sI {k:Int} {p:(List Int)} {a:Nat} {R:Bool} (hm:pF k p=some R) (b:aF G K (L) w) (c:fV K a1 a [zS a4 p.length c5]) (d:bG K a4 c5 p):
  Calls prog 163 ([i64 k,cR a1 a]:List Value).toArray w (eZ fun v w'=>v=zB R/\aF G K (L) w'):=by
 exact aP
theorem lT {s_ c:(List Int)} {a:Nat} {R:Int} (hm:eI s_ c=some R) (q:aF G K (L) w) (d:bG K a1 c2 s_) (k:fV K a4 a [zS a7 c.length c8]) (l:bG K a7 c8 c):
  Calls prog 204 ([zS a1 s_.length c2,Value.func (.func 163) #[] #[cR a4 a]]:List Value).toArray w (eZ fun v w'=>v=i64 R/\aF G K (L) w'):=by
 refine aO func204 rfl (by kernel_rfl) (by show (2:Nat)<=19;decide) ?_;unfold eI at hm
 refine aK (aJ (v:=i64 0) (aH (aM (aK (aG (v:=zS a1 s_.length c2) (aD (bH (len:=s_.length) bJ rfl) (aG (v:=i64 0) (aH (aQ [] (fun f w=>mQ=some R/\aF G K (L) w) aP ?_)))))))));obtain ⟨r,m,ho⟩:=aB hm
 refine fK [0,1,7] m (fun b f w=>f 8=i64 b/\aF G K (L) w) aP ?_
 ·rintro b u f x hm hr ⟨e,g⟩
  unfold dR at hm
  refine aK (aD (cU e rfl) (aH (aM ?_)))
  rcases aN hm with ⟨h,hm⟩|⟨h,hm⟩
  ·refine aS h rfl (aY (aC (aM (cV (aK (bC e (aJ (v:=i64 b) (aH (aK (aG (v:=Value.func (.func 163) #[] #[cR a4 a]) (aG (v:=zS a1 s_.length c2) (aG (v:=i64 b) ?_))))))))))));obtain ⟨i,j,hm⟩:=aB hm
   refine aD (dP bJ rfl d rfl rfl rfl j) ?_;obtain ⟨y,n,o⟩:=bG.el (sz:=1) rfl d j
   cases o
   refine aD (bD (t:=0) dC g n rfl rfl) ?_;obtain ⟨z,p,hm⟩:=aB hm
   exact iS (vs:=[i64 i]) (caps:=[cR a4 a]) (us:=[i64 i,cR a4 a]) rfl call163 rfl rfl (sI p g k l) aP
  ·exact aP
theorem mR {s_ o:(List Int)} {a:Nat} {R:(List Int)} (hm:fE s_ o=some R) (hs:aF G K (aL 2 K a1 c2 s_::L) w) (x:fV K a3 a [zS a6 o.length c7]) (y:bG K a6 c7 o):
  Calls prog 162 ([zS a1 s_.length c2,Value.func (.func 163) #[] #[cR a3 a]]:List Value).toArray w (eZ fun v w'=>∃ z J,v=zS z R.length J/\aF G K (aL 2 K z J R::L) w'):=by
 refine aO func162 rfl (by kernel_rfl) (by show (2:Nat)<=42;decide) ?_;unfold fE at hm
 refine aK (aJ (v:=zS none 0 0) (aH (aK (aG (v:=zS a1 s_.length c2) (aG (v:=Value.func (.func 163) #[] #[cR a3 a]) ?_)))));obtain ⟨K9,V,c6,c8,c9⟩:=aF.lendSp hs (zR _) .head
 obtain ⟨c,d0,hm⟩:=aB hm
 refine aR (vs:=[zS a1 s_.length c2,Value.func (.func 163) #[] #[cR a3 a]]) call204 rfl (lT d0 c8 c6 (x.mono V) (y.mono V)) ?_
 rintro _ e5 ⟨rfl,d1⟩
 have e6:=c9 _ _ d1
 refine aJ (v:=i64 c) (aH (aM (aK (aG (v:=i64 c) (aD (aCs rfl rfl) (aH ?_))))))
 rcases aN hm with ⟨a0,hm⟩|⟨a0,hm⟩
 ·exact aP
 ·refine bE a0 rfl (aY (aC (aM (aK (aG (v:=i64 c) (aD (dT rfl rfl) (aJ (v:=i64 (wr (c+1))) (aH (aQ [] (fun f w=>∃ d e,gD d e=some R/\f 0=zS a1 d.length c2/\f 5=i64 e/\aF G K (aL 2 K a1 c2 d::L) w) ?_ ?_)))))))))
  ·rintro f e7 ⟨d,e,hm,a2,a4,a5⟩
   unfold gD at hm
   refine aC (aK (bC a2 (bC a4 ?_)));obtain ⟨e8,d2,hm⟩:=aB hm
   have d3:=qJ a5 (i:=0) rfl
   obtain ⟨e9,f0,a7⟩:=Cut.ex 1 a1 c2 e
   refine aD (aEq bJ d3 a7 rfl rfl rfl d2) ?_;obtain ⟨a8,a9,hm⟩:=aB hm
   refine aGM bJ zD rfl a5 (i:=0) rfl a7 rfl rfl a9 (fun b0 (b1:aF G K (aL 2 K a1 c2 a8::L) b0)=>(aH (aK (bC (v:=zS a1 a8.length c2) (Eq.trans a2 (congrArg (fun n=>zS a1 n c2) (aDT a9))) (bC a4 ?_)))));obtain ⟨b2,b3,hm⟩:=aB hm
   have d4:=qJ b1 (i:=0) rfl
   obtain ⟨b4,b5,b6⟩:=Cut.ex 1 a1 c2 0
   refine aD (aGa bJ d4 b6 rfl rfl rfl b3) (aJ (v:=zS b4 b2.length b5) (aH ?_))
   have f1:aF G K (aL 2 K b4 b5 b2::L) b0:=aF.cutP b1 (i:=0) rfl b3 b6
   exact aP
  obtain ⟨f2,d5,ho⟩:=aB hm
  refine oR [1] d5 (fun g j k f w=>f 0=zS a1 g.length c2/\f 5=i64 j/\f 6=i64 k/\aF G K (aL 2 K a1 c2 g::L) w) aP ?_
  ·rintro g j k d6 f f3 hm hr ⟨l,b7,p,q⟩
   unfold cY at hm
   refine aM (aK (bC p (bC l (aD (bH (len:=g.length) bJ rfl) (aD (cU rfl rfl) (aH ?_))))))
   rcases aN hm with ⟨b8,hm⟩|⟨b8,hm⟩
   ·refine aS b8 rfl (aY (aC (aM (aQ [1,6] (fun f w=>∃ m r,dY k m r=some d6/\f 0=zS a1 m.length c2/\f 5=i64 r/\aF G K (aL 2 K a1 c2 m::L) w) ?_ ?_))))
    ·rintro f f4 ⟨m,r,hm,d7,d8,d9⟩
     unfold dY at hm
     exact aC (aU (bC p (aD (dT rfl rfl) (aJ (v:=i64 (wr (k+1))) (aH ⟨_,(zI hm).symm,bL,d7,d8,rfl,d9⟩)))))
    refine aK (bC l (bC p ?_));obtain ⟨b,u,hm⟩:=aB hm
    have b9:=dU q (i:=0) rfl u
    refine aD (fL bJ rfl b9 rfl rfl rfl u) (aD (rH (t:=0) dC q (i:=0) rfl u rfl rfl rfl) (aJ (v:=i64 b) (aH (aK (aG (v:=Value.func (.func 163) #[] #[cR a3 a]) (aG (v:=i64 b) ?_))))));obtain ⟨f5,e0,hm⟩:=aB hm
    refine iS (vs:=[i64 b]) (caps:=[cR a3 a]) (us:=[i64 b,cR a3 a]) rfl call163 rfl rfl (sI e0 q x y) ?_
    rintro _ f6 ⟨rfl,e1⟩
    refine aD (aFA rfl) (aH ?_)
    rcases aN hm with ⟨c0,hm⟩|⟨c0,hm⟩
    ·refine aS c0 rfl (aK (bC l (bC b7 (aG (v:=i64 b) ?_))));obtain ⟨f7,c1,hm⟩:=aB hm
     refine aD (fL bJ rfl b9 rfl rfl rfl c1) ?_;obtain ⟨c3,c4,hm⟩:=aB hm
     exact nO (i:=0) (t:=0) (ns:=[i64 b]) (e':=(b:Int)) sizeOf2 e1 rfl (zR _) rfl rfl rfl c1 c4 rfl rfl (dQ rfl) rfl (fun cs h=>by cases h;rfl) (fun e2 (e3:aF G K (aL 2 K a1 c2 c3::L) e2)=>(aH (aU (bC b7 (aD (dT rfl rfl) (aJ (v:=i64 (wr (j+1))) (aT (dB (aC ⟨bL,c3,wr (j+1),hm,(Eq.trans l (congrArg (fun n=>zS a1 n c2) (jG c4))),rfl,e3⟩)))))))))
    ·exact aP
   ·exact aP
theorem wI {t:bB} {R:(List Int)} (hm:tY t=some R) (o:aF G K (L) w) (p:bG K a1 c2 t.L) (q:bG K a4 c5 t.E):
  Calls prog 117 ([zA (zCa t a1 c2 a4 c5)]:List Value).toArray w (eZ fun v w'=>∃ j k,v=zS j R.length k/\aF G K (aL 2 K j k R::L) w'):=by
 let a:=(zC t a1 c2 a4 c5)
 refine aO func117 rfl (by kernel_rfl) (by show (1:Nat)<=14;decide) ?_;unfold tY at hm
 refine aK (dJ (v:=zA (zCa t a1 c2 a4 c5)) (vs:=a) o rfl rfl (fun l w8 e=>(aJ (v:=zS none 0 0) (aH (aK (aD (jH (us:=a) kJ e (i:=0) rfl rfl rfl rfl) (aD (aV (t':=1) aDX rfl rfl) (aD (cJ dC e (i:=0) rfl rfl rfl) (cK (Kt:=K) (xs:=([t.I]:List Int)) (cs:=[i64 t.I]) (vs:=[(0,i64 t.I)]) bJ zD rfl rfl e rfl (by kernel_rfl) rfl rfl rfl ⟨rfl,trivial⟩ (fun g r (u:aF G K (aL 2 K g 1 ([t.I]:List Int)::box l 35 a::L) r)=>?_))))))))))
 obtain ⟨b8,m,x,y,z⟩:=aF.lendSp u (zR _) .head
 obtain ⟨b,J,hm⟩:=aB hm
 refine aR (vs:=[zA (zCa t a1 c2 a4 c5),zS g ([t.I]:List Int).length 1,zB true]) call161 rfl (aCb J y (p.mono m) (q.mono m) x) ?_
 rintro _ b9 ⟨c,d,rfl,V⟩
 have a0:=z _ _ V
 refine aZ (vs:=[zS none 0 0]) zeroValue29 a0 rfl (fun h c0 a2=>(bS (i:=0) (ns:=[zS c b.length d]) (us:=[zS c b.length d]) sizeOf29 a2 rfl rfl rfl rfl rfl (dQ rfl) rfl rfl (fun a3 (n:aF G K (box h 29 [zS c b.length d]::aL 2 K g 1 ([t.I]:List Int)::aL 2 K c d b::box l 35 a::L) a3)=>(aH (aK (aD (aV (t':=0) gT rfl rfl) (aD (cJ dC n (i:=3) rfl rfl rfl) ?_)))))));obtain ⟨a5,a6,hm⟩:=aB hm
 refine aR (vs:=[i64 t.N]) call51 rfl (aGD a6 n) ?_
 rintro _ c1 ⟨a7,a8,rfl,a9⟩
 refine aD (jZ (vs:=[zP (some ⟨h,0,none⟩)]) rfl) ?_;obtain ⟨c3,c4,b0,b1,c6⟩:=aF.lendSp a9 (zR _) zt3
 obtain ⟨c7,b2,b3,b4,c8⟩:=aF.lendBp b1 zt1
 obtain ⟨c9,b5,hm⟩:=aB hm
 exact aR (vs:=[zS a7 a5.length a8,Value.func (.func 163) #[] #[cR (some ⟨h,0,none⟩) 0]]) call162 rfl (mR b5 b4 b3 (b0.mono b2)) aP
theorem sJ {s_ R:(List Edge)} (hm:bN s_=some R) (hs:aF G K (aL 70 K a1 c2 s_::L) w):
  Calls prog 122 ([zS a1 s_.length c2]:List Value).toArray w (eZ fun v w'=>∃ a8 a9,v=zS a8 R.length a9/\aF G K (aL 70 K a8 a9 R::L) w'):=by
 refine aO func122 rfl (by kernel_rfl) (by show (1:Nat)<=61;decide) ?_;unfold bN at hm
 refine aK (aJ (v:=zS none 0 0) (aH (aM (aK (aG (v:=zS a1 s_.length c2) (aD (bH (len:=s_.length) cS rfl) (aD (cU rfl rfl) (aH ?_))))))))
 rcases aN hm with ⟨c3,hm⟩|⟨c3,hm⟩
 ·exact aP
 ·refine bE c3 rfl (aY (aC (aM (aK (aJ (v:=i64 1) (aH (aQ [0] (fun f w=>lG s_=some R/\aF G K (aL 70 K a1 c2 s_::L) w) aP ?_)))))));obtain ⟨f7,d9,ho⟩:=aB hm
  refine fK [0] d9 (fun d f w=>f 3=i64 d/\aF G K (aL 70 K a1 c2 s_::L) w) aP ?_
  ·rintro d b1 f f8 hm hr ⟨m,a⟩
   unfold bQ at hm
   refine aM (aK (bC m (aG (v:=zS a1 s_.length c2) (aD (bH (len:=s_.length) cS rfl) (aD (cU rfl rfl) (aH ?_))))))
   rcases aN hm with ⟨b2,hm⟩|⟨b2,hm⟩
   ·refine aS b2 rfl (aY (aC (aM (aQ [0] (fun f w=>dE d=some b1/\f 3=i64 d/\aF G K (aL 70 K a1 c2 s_::L) w) ?_ ?_))))
    ·rintro f f9 ⟨hm,e0,e1⟩
     unfold dE at hm
     exact aC (aU (bC e0 (aD (dT rfl rfl) (aJ (v:=i64 (wr (d+1))) (aH ⟨_,(zI hm).symm,bL,rfl,e1⟩)))))
    refine aM (mC (C:=fun w'=>aF G K (aL 70 K a1 c2 s_::L) w') Tryz_mixed (by kernel_rfl) (aF.mono a (fJ.drew _)) (bX (fun _ a=>aW (v:=zS a1 s_.length c2) rfl) (bX (fun _ a=>aW m) ?_)));obtain ⟨o,a5,hm⟩:=aB hm
    have e:=dU a (i:=0) rfl a5
    refine bX (fun _ a=>fL cS rfl e rfl rfl rfl a5) (bX (fun _ a=>aEo (t:=0) (vs:=[i64 o.F,i64 o.B,i64 o.To]) qA a (i:=0) rfl a5 rfl rfl rfl rfl) (bX (fun _ a=>aW (v:=zS a1 s_.length c2) rfl) (bX (fun _ a=>aW m) (bX (fun _ a=>uW rfl rfl) ?_))));obtain ⟨p,b3,hm⟩:=aB hm
    refine bX (fun _ a=>fL cS rfl e rfl rfl rfl b3) (bX (fun _ a=>aEo (t:=0) (vs:=[i64 p.F,i64 p.B,i64 p.To]) qA a (i:=0) rfl b3 rfl rfl rfl rfl) (bX (fun _ a=>R_eqlG (eq_70 (x:=o) (y:=p)) rfl rfl) (vN (fun g0 e2=>(aC ?_)))))
    rcases aN hm with ⟨b4,hm⟩|⟨b4,hm⟩
    ·refine aS b4 rfl (aK (aG (v:=zS a1 s_.length c2) (bC m ?_)));obtain ⟨g,q,hm⟩:=aB hm
     have r:=qJ e2 (i:=0) rfl
     obtain ⟨j,k,u⟩:=Cut.ex 3 a1 c2 d
     refine aD (aEq cS r u rfl rfl rfl q) (aJ (v:=zS j g.length k) (aH (aM (aK (aJ (v:=i64 1) (aH (aQ [] (fun f w=>∃ z J,eS z J=some b1/\f 0=zS a1 z.length c2/\f 3=i64 J/\aF G K (aL 70 K a1 c2 z::L) w) ?_ ?_)))))))
     ·rintro f g1 ⟨z,J,hm,b5,b6,b7⟩
      unfold eS at hm
      refine aC (aK (bC b5 (bC b6 ?_)));obtain ⟨g2,e3,hm⟩:=aB hm
      have e4:=qJ b7 (i:=0) rfl
      obtain ⟨g3,g4,b8⟩:=Cut.ex 3 a1 c2 J
      refine aD (aEq cS e4 b8 rfl rfl rfl e3) ?_;obtain ⟨b9,c0,hm⟩:=aB hm
      refine aGM cS sM rfl b7 (i:=0) rfl b8 rfl rfl c0 (fun c1 (c4:aF G K (aL 70 K a1 c2 b9::L) c1)=>(aH (aK (bC (v:=zS a1 b9.length c2) (Eq.trans b5 (congrArg (fun n=>zS a1 n c2) (aDT c0))) (bC b6 ?_)))));obtain ⟨a6,c5,hm⟩:=aB hm
      have e5:=qJ c4 (i:=0) rfl
      obtain ⟨c6,c7,c8⟩:=Cut.ex 3 a1 c2 0
      refine aD (aGa cS e5 c8 rfl rfl rfl c5) (aJ (v:=zS c6 a6.length c7) (aH (fU (lE (cT (cT (cT ?_)))))))
      have e6:=hr _ (zI hm).symm
      subst e6
      have hm:(some a6)=some R:=ho
      clear hr ho
      have g5:aF G K (aL 70 K c6 c7 a6::L) c1:=aF.cutP c4 (i:=0) rfl c5 c8
      exact aP
     obtain ⟨g6,e7,ho⟩:=aB hm
     refine oR [4] e7 (fun V a0 a2 f w=>f 0=zS a1 V.length c2/\f 3=i64 a0/\f 5=i64 a2/\aF G K (aL 70 K a1 c2 V::L) w) aP ?_
     ·rintro V a0 a2 e8 f g7 hm hr ⟨c9,d0,l,b⟩
      unfold dG at hm
      refine aM (aK (bC l (aG (v:=zS j g.length k) (aD (bH (len:=g.length) cS rfl) (aD (cU rfl rfl) (aH ?_))))))
      rcases aN hm with ⟨d1,hm⟩|⟨d1,hm⟩
      ·refine aS d1 rfl (aY (aC (aM (aQ [4,5] (fun f w=>∃ a3 a7,dF a2 a3 a7=some e8/\f 0=zS a1 a3.length c2/\f 3=i64 a7/\aF G K (aL 70 K a1 c2 a3::L) w) ?_ ?_))))
       ·rintro f g8 ⟨a3,a7,hm,e9,f0,f1⟩
        unfold dF at hm
        exact aC (aU (bC l (aD (dT rfl rfl) (aJ (v:=i64 (wr (a2+1))) (aH ⟨_,(zI hm).symm,bL,e9,f0,rfl,f1⟩)))))
       refine aM (mC (C:=fun w'=>aF G K (aL 70 K a1 c2 V::L) w') Tryz_mixed (by kernel_rfl) (aF.mono b (fJ.drew _)) (bX (fun _ b=>aW (v:=zS j g.length k) rfl) (bX (fun _ b=>aW l) ?_)));obtain ⟨g9,d2,hm⟩:=aB hm
       obtain ⟨c,d3,hm⟩:=aB hm
       refine bX (fun _ b=>aIp cS e u q r rfl rfl rfl d2 rfl) (bX (fun _ b=>aEo (t:=0) (vs:=[i64 c.F,i64 c.B,i64 c.To]) qA b (i:=0) rfl d3 rfl rfl rfl rfl) (bX (fun _ b=>aW (v:=zS j g.length k) rfl) (bX (fun _ b=>aW l) (bX (fun _ b=>uW rfl rfl) ?_))));obtain ⟨h0,f2,hm⟩:=aB hm
       obtain ⟨a4,f3,hm⟩:=aB hm
       refine bX (fun _ b=>aIp cS e u q r rfl rfl rfl f2 rfl) (bX (fun _ b=>aEo (t:=0) (vs:=[i64 a4.F,i64 a4.B,i64 a4.To]) qA b (i:=0) rfl f3 rfl rfl rfl rfl) (bX (fun _ b=>R_neqG (eq_70 (x:=c) (y:=a4)) rfl rfl) (vN (fun h1 d4=>(aC ?_)))))
       rcases aN hm with ⟨d5,hm⟩|⟨d5,hm⟩
       ·refine aS d5 rfl (aK (bC c9 (bC d0 (aG (v:=zS j g.length k) (bC l (aD (aIp cS e u q r rfl rfl rfl d2 rfl) (aD (aEo (t:=0) (vs:=[i64 c.F,i64 c.B,i64 c.To]) qA d4 (i:=0) rfl d3 rfl rfl rfl rfl) ?_)))))));obtain ⟨h2,d6,hm⟩:=aB hm
        refine aD (fL cS rfl e rfl rfl rfl d6) ?_;obtain ⟨d7,d8,hm⟩:=aB hm
        exact nO (i:=0) (t:=0) (ns:=[i64 c.F,i64 c.B,i64 c.To]) (e':=(⟨c.F,c.B,c.To⟩:Edge)) sizeOf70 d4 rfl (zR _) rfl rfl rfl d6 d8 rfl rfl (dQ rfl) rfl (fun cs h=>by cases h;rfl) (fun f4 (f5:aF G K (aL 70 K a1 c2 d7::L) f4)=>(aH (aU (bC d0 (aD (dT rfl rfl) (aJ (v:=i64 (wr (a0+1))) (aT (dB (aC ⟨bL,d7,wr (a0+1),hm,(Eq.trans c9 (congrArg (fun n=>zS a1 n c2) (jG d8))),rfl,f5⟩)))))))))
       ·exact aP
      ·exact aP
    ·exact aP
   ·exact aP
theorem aJW {c d:Int} {a:(List aI)} {b:(List Edge)} {R:(Int × Int × (List aI) × (List Edge))} (hm:aKK c d a b=some R) (e:aF G K (aL 9 K a2 c3 a::aL 70 K a4 c5 b::box b1 35 [i64 c,i64 d,zS a2 a.length c3,zS a4 b.length c5]::L) w):
  Calls prog 166 ([zP (some ⟨b1,0,none⟩)]:List Value).toArray w (eZ fun v w'=>∃ g h j k,v=Value.tuple #[]/\aF G K (aL 9 K g h R.2.2.1::aL 70 K j k R.2.2.2::box b1 35 [i64 R.1,i64 R.2.1,zS g R.2.2.1.length h,zS j R.2.2.2.length k]::L) w'):=by
 refine aO func166 rfl (by kernel_rfl) (by show (1:Nat)<=15;decide) ?_;unfold aKK at hm
 refine aK (aG (v:=zP (some ⟨b1,0,none⟩)) (aD (sW rfl) (aD (aV (t':=3) fY rfl rfl) (aD (cJ oJ e (i:=2) rfl rfl rfl) ?_))))
 have m:aF G K (aL 70 K a4 c5 b::aL 9 K a2 c3 a::box b1 35 [i64 c,i64 d,zS a2 a.length c3,zS a4 b.length c5]::L) w:=(aF.arr 2 [1,0] e rfl)
 obtain ⟨l,n,hm⟩:=aB hm
 refine aR (vs:=[zS a4 b.length c5,Value.func (.func 76) #[] #[]]) call100 rfl (lib_SortEdge m n) ?_
 rintro _ o ⟨rfl,p,q⟩
 have r:aF G K (aL 70 K a4 c5 l::aL 9 K a2 c3 a::box b1 35 [i64 c,i64 d,zS a2 a.length c3,zS a4 l.length c5]::L) o:=by rw [←p];exact q
 exact aP
theorem aAT {a:(List Int)} {R:Int} (hm:kY a=some R) (m:aF G K (L) w) (b:bG K a1 c2 a):
  Calls prog 247 ([zS a1 a.length c2]:List Value).toArray w (eZ fun v w'=>v=i64 R/\aF G K (L) w'):=by
 refine aO func247 rfl (by kernel_rfl) (by show (1:Nat)<=25;decide) ?_;unfold kY at hm
 refine aK (aJ (v:=i64 0) (aH (mB [0] (fun f w=>jU a=some R/\aF G K (L) w) ?_ ?_)))
 ·rintro f n ⟨hm,e⟩
  unfold jU at hm
  refine aK (aG (v:=zS a1 a.length c2) ?_);obtain ⟨g,c,hm⟩:=aB hm
  refine aD (dP bJ rfl b rfl rfl rfl c) ?_;obtain ⟨o,h,i⟩:=bG.el (sz:=1) rfl b c
  cases i
  refine aD (bD (t:=0) dC e h rfl rfl) (aJ (v:=i64 g) (aH (aM (aK (aJ (v:=i64 1) (aH (aQ [] (fun f w=>∃ d,mK d=some R/\f 3=i64 d/\aF G K (L) w) aP ?_)))))));obtain ⟨p,j,ho⟩:=aB hm
  exact cC [0] j (fun k l f w=>f 3=i64 k/\f 4=i64 l/\aF G K (L) w) aP aP
 exact aP
theorem aAU {p:(List Int)} {R:Int} (hm:xC p=some R) (a:aF G K (L) w) (b:bG K a1 c2 p):
  Calls prog 205 ([zS a1 p.length c2]:List Value).toArray w (eZ fun v w'=>v=i64 R/\aF G K (L) w'):=by
 exact aP
theorem rJ {e:Edge} {p:(List Int)} {a:Nat} {R:Bool} (hm:jJ e p=some R) (c:aF G K (L) w) (d:fV K a1 a [zS a4 p.length c5]) (g:bG K a4 c5 p):
  Calls prog 165 ([zA #[i64 e.F,i64 e.B,i64 e.To],cR a1 a]:List Value).toArray w (eZ fun v w'=>v=zB R/\aF G K (L) w'):=by
 refine aO func165 rfl (by kernel_rfl) (by show (2:Nat)<=20;decide) ?_;unfold jJ at hm
 exact aK (dJ (v:=zA #[i64 e.F,i64 e.B,i64 e.To]) (vs:=[i64 e.F,i64 e.B,i64 e.To]) c rfl rfl (fun h i j=>(aJ (v:=zB false) (aH (aM (cH [] (fun f w=>∃ b,kD b=some R/\f 3=zB b/\aF G K (L) w) aP aP))))))
theorem aDI {c d:Int} {a:(List aI)} {b R:(List Edge)} (hm:uN c d a b=some R) (e:aF G K (aL 9 K a2 c3 a::aL 70 K a4 c5 b::box b1 35 [i64 c,i64 d,zS a2 a.length c3,zS a4 b.length c5]::L) w):
  Calls prog 166 ([zP (some ⟨b1,0,none⟩)]:List Value).toArray w (eZ fun v w'=>∃ g h,v=Value.tuple #[]/\aF G K (aL 9 K a2 c3 a::aL 70 K g h R::box b1 35 [i64 c,i64 d,zS a2 a.length c3,zS g R.length h]::L) w'):=by
 refine aO func166 rfl (by kernel_rfl) (by show (1:Nat)<=15;decide) ?_;unfold uN at hm
 refine aK (aG (v:=zP (some ⟨b1,0,none⟩)) (aD (sW rfl) (aD (aV (t':=3) fY rfl rfl) (aD (cJ oJ e (i:=2) rfl rfl rfl) ?_))))
 have k:aF G K (aL 70 K a4 c5 b::aL 9 K a2 c3 a::box b1 35 [i64 c,i64 d,zS a2 a.length c3,zS a4 b.length c5]::L) w:=(aF.arr 2 [1,0] e rfl)
 obtain ⟨j,l,hm⟩:=aB hm
 refine aR (vs:=[zS a4 b.length c5,Value.func (.func 76) #[] #[]]) call100 rfl (lib_SortEdge k l) ?_
 rintro _ m ⟨rfl,n,o⟩
 have p:aF G K (aL 70 K a4 c5 j::aL 9 K a2 c3 a::box b1 35 [i64 c,i64 d,zS a2 a.length c3,zS a4 j.length c5]::L) m:=by rw [←n];exact o
 exact aP
theorem aCC {t:bB} {p c1:(List Int)} {b6:Nat} {R:bB} (hm:vZ t p c1=some R) (hs:aF G K (L) w) (h3:bG K a1 c2 t.L) (h6:bG K a4 c5 t.E) (x:bG K a7 c8 p) (g4:fV K a10 b6 [zS a13 c1.length c14]) (g5:bG K a13 c14 c1):
  Calls prog 164 ([zA (zCa t a1 c2 a4 c5),zS a7 p.length c8,Value.func (.func 165) #[] #[cR a10 b6]]:List Value).toArray w (eZ fun v w'=>∃ e2 e3 e4 e5,v=zA (zCa R e2 e3 e4 e5)/\aF G K (aL 9 K e2 e3 R.L::aL 70 K e4 e5 R.E::L) w'):=by
 let d:=zG
 let b7:=(zC t a1 c2 a4 c5)
 let d1:=[zS a1 t.L.length c2]
 refine aO func164 rfl (by kernel_rfl) (by show (3:Nat)<=52;decide) ?_;unfold vZ at hm
 refine aK (dJ (v:=zA (zCa t a1 c2 a4 c5)) (vs:=b7) hs rfl rfl (fun c3 l9 g6=>(aZ (vs:=d) zeroValue35 g6 rfl (fun m m0 g7=>(aH (aM (cH [1,2,3,6] (fun f w=>∃ o q b r e g,vC t p c1 o q b=some R/\f 7=zP (some ⟨r,0,none⟩)/\aF G K (aL 9 K e g b::box r 35 [i64 o,i64 q,zS e b.length g,zS none 0 0]::box m 35 d::box c3 35 b7::L) w) ?_ ?_)))))))
 ·rintro f m1 ⟨o,q,b,r,e,g,hm,d2,e6⟩
  unfold vC at hm
  refine aC (aM (aK (aD (aV (t':=3) fY rfl rfl) (aD (cJ oJ e6 (i:=3) rfl rfl rfl) (aD (bH (len:=t.E.length) cS rfl) (aG (v:=i64 0) (aH (aQ [6,7] (fun f w=>∃ z b8 b9,vB o q b z=some R/\aF G K (aL 70 K b8 b9 z::aL 9 K e g b::box r 35 [i64 o,i64 q,zS e b.length g,zS b8 z.length b9]::box m 35 d::L) w) ?_ ?_))))))))
  ·rintro f g8 ⟨z,b8,b9,hm,g9⟩
   unfold vB at hm
   refine aC (aK ?_)
   have h0:aF G K (aL 9 K e g b::aL 70 K b8 b9 z::box r 35 [i64 o,i64 q,zS e b.length g,zS b8 z.length b9]::box m 35 d::L) g8:=(aF.arr 2 [1,0] g9 rfl)
   obtain ⟨m2,h1,hm⟩:=aB hm
   exact aR (vs:=[zP (some ⟨r,0,none⟩)]) call166 (lst1 d2) (aDI h1 h0) aP
  have m3:=aF.nil (α:=Edge) e6 70 K
  obtain ⟨m4,h2,ho⟩:=aB hm
  refine cC [1,2,6,7,22,23] h2 (fun J c4 f w=>∃ V a0,f 24=i64 c4/\aF G K (aL 70 K V a0 J::aL 9 K e g b::box r 35 [i64 o,i64 q,zS e b.length g,zS V J.length a0]::box m 35 d::L) w) aP ?_
  ·rintro J c4 h4 f m5 hm hr ⟨V,a0,d3,e7⟩
   unfold nJ at hm
   refine aK (aD (cU d3 rfl) (aH (aM ?_)))
   rcases aN hm with ⟨e8,hm⟩|⟨e8,hm⟩
   ·refine aS e8 rfl (aY (aC (aM (aQ [1,2,6,7,22,23,24] (fun f w=>∃ c6 c7 c9,nI c4 c6=some h4/\aF G K (aL 70 K c7 c9 c6::aL 9 K e g b::box r 35 [i64 o,i64 q,zS e b.length g,zS c7 c6.length c9]::box m 35 d::L) w) ?_ ?_))))
    ·rintro f m6 ⟨c6,c7,c9,hm,h5⟩
     unfold nI at hm
     exact aC (aU (aD (dT d3 rfl) (aG (v:=i64 (wr (c4+1))) (aH ⟨_,(zI hm).symm,bL,c7,c9,rfl,h5⟩))))
    refine aK ?_;obtain ⟨a,e9,hm⟩:=aB hm
    refine aD (dP cS rfl h6 rfl rfl d3 e9) ?_;obtain ⟨m7,h7,h8⟩:=bG.el (sz:=3) rfl h6 e9
    cases h8
    refine aD (fP (t:=0) (vs:=[i64 a.F,i64 a.B,i64 a.To]) qA e7 h7 rfl rfl rfl) (aZ (vs:=[i64 0,i64 0,i64 0]) zeroValue70 e7 rfl (fun i0 m8 i1=>(bS (i:=0) (ns:=[i64 a.F,i64 a.B,i64 a.To]) (us:=[i64 a.F,i64 a.B,i64 a.To]) sizeOf70 i1 rfl rfl rfl rfl rfl (dQ rfl) rfl rfl (fun i2 (f0:aF G K (box i0 70 [i64 a.F,i64 a.B,i64 a.To]::aL 70 K V a0 J::aL 9 K e g b::box r 35 [i64 o,i64 q,zS e b.length g,zS V J.length a0]::box m 35 d::L) i2)=>(aH (aK (aG (v:=Value.func (.func 165) #[] #[cR a10 b6]) (aD (jH (us:=[i64 a.F,i64 a.B,i64 a.To]) qA f0 (i:=0) rfl rfl rfl rfl) ?_))))))))
    obtain ⟨m9,i3,hm⟩:=aB hm
    refine iS (vs:=[zA #[i64 a.F,i64 a.B,i64 a.To]]) (caps:=[cR a10 b6]) (us:=[zA #[i64 a.F,i64 a.B,i64 a.To],cR a10 b6]) rfl call165 rfl rfl (rJ i3 f0 g4 g5) ?_
    rintro _ n0 ⟨rfl,i4⟩
    refine aH ?_
    rcases aN hm with ⟨f1,hm⟩|⟨f1,hm⟩
    ·refine aS f1 rfl ?_;obtain ⟨n1,a2,d4,i5,n2⟩:=aF.lendBp i4 .head
     obtain ⟨d5,u,i6,f2,i7⟩:=aF.lendBp i5 zt2
     refine cW (C:=fun w'=>∃ L',aF G d5 L' w') [(0,0),(1,0),(2,0),(3,0),(4,0),(5,0),(6,0),(7,0),(8,0),(9,0),(10,0),(11,0),(12,0),(13,0),(14,0),(15,1),(16,1),(17,0),(18,2)] Tryz_mixed (by kernel_rfl) (fun _ hg=>⟨_,aF.mono f2 hg⟩) (fun n3 i8=>?_)
     have l:=aF.mono f2 i8
     refine bA rfl (fun _ _=>aV (t':=3) fY d2 rfl) (bA rfl (fun _ ⟨_,l⟩=>bD (t:=3) oJ l i6 rfl rfl) (bA rfl (fun _ _=>aW (v:=zS a7 p.length c8) rfl) (bA rfl (fun _ _=>aV (t':=0) uY rfl rfl) (bA rfl (fun _ ⟨_,l⟩=>bD (t:=0) dC l (d4.mono u) rfl rfl) ?_))));obtain ⟨a3,f3,hm⟩:=aB hm
     refine bA rfl (fun _ _=>dP bJ rfl (x.mono (zL a2 u)) rfl rfl rfl f3) ?_;obtain ⟨n4,i9,j0⟩:=bG.el (sz:=1) rfl x f3
     cases j0
     refine bA rfl (fun _ ⟨_,l⟩=>bD (t:=0) dC l (i9.mono (zL a2 u)) rfl rfl) (bA rfl (fun _ _=>aV (t':=1) wO rfl rfl) (bA rfl (fun _ ⟨_,l⟩=>bD (t:=1) dC l (d4.mono u) rfl rfl) (bA rfl (fun _ _=>aW (v:=zS a7 p.length c8) rfl) (bA rfl (fun _ _=>aV (t':=2) pQ rfl rfl) (bA rfl (fun _ ⟨_,l⟩=>bD (t:=2) dC l (d4.mono u) rfl rfl) ?_)))));obtain ⟨a5,f4,hm⟩:=aB hm
     refine bA rfl (fun _ _=>dP bJ rfl (x.mono (zL a2 u)) rfl rfl rfl f4) ?_;obtain ⟨n5,j1,j2⟩:=bG.el (sz:=1) rfl x f4
     cases j2
     refine bA rfl (fun _ ⟨_,l⟩=>bD (t:=0) dC l (j1.mono (zL a2 u)) rfl rfl) (bA rfl (fun _ _=>iR (vs:=[(0,i64 a3),(1,i64 a.B),(2,i64 a5)]) (cs:=[i64 a3,i64 a.B,i64 a5]) aJC rfl (by kernel_rfl)) (jN rfl (cK (Kt:=K) (xs:=([⟨a3,a.B,a5⟩]:List Edge)) (cs:=[i64 a3,i64 a.B,i64 a5]) (vs:=[(0,zA #[i64 a3,i64 a.B,i64 a5])]) cS sM rfl rfl l rfl (by kernel_rfl) rfl rfl rfl ⟨rfl,trivial⟩ (fun j3 j4 (f5:aF G d5 (aL 70 K j3 1 ([⟨a3,a.B,a5⟩]:List Edge)::aL 70 K V a0 J::aL 9 K e g b::box m 35 d::L) j4)=>(aT (aC ⟨⟨_,f5⟩,?_⟩))))))
     refine jN rfl ?_;obtain ⟨j5,j6,hm⟩:=aB hm
     refine nE (i:=0) cS underlying33 sM rfl rfl f5 rfl (zL a2 u) (zL a2 u) j6 rfl rfl rfl rfl (fun _ h=>h) (fun j7 j8 j9 (f6:aF G d5 (aL 70 K j7 j8 j5::aL 9 K e g b::box m 35 d::L) j9)=>(aT (aC ⟨⟨_,f6⟩,?_⟩)))
     refine bA rfl (fun _ _=>aV (t':=3) fY d2 rfl) ?_
     have n6:=i7 _ _ f6
     exact aP
    ·exact aP
   ·exact aP
 obtain ⟨k0,y,f7,k1,d6⟩:=aF.lendBp g7 zt1
 refine aAb (C:=fun w'=>∃ L',aF G k0 L' w') [12] Tryz_mixed (by kernel_rfl) (fun n7 k2=>?_)
 have c:=aF.mono k1 k2
 refine jB (i:=0) rfl (by kernel_rfl) ⟨_,c⟩ (fun _ _=>aW (v:=zS a7 p.length c8) rfl) (jB (i:=2) rfl (by kernel_rfl) ⟨_,c⟩ (fun _ _=>aW (v:=zS a7 p.length c8) rfl) (jB (i:=3) rfl (by kernel_rfl) ⟨_,c⟩ (fun _ _=>aV (t':=1) aDX rfl rfl) (jB (i:=4) rfl (by kernel_rfl) ⟨_,c⟩ (fun _ ⟨_,c⟩=>bD (t:=1) dC c f7 rfl rfl) ?_)));obtain ⟨k,f8,hm⟩:=aB hm
 refine jB (i:=5) rfl (by kernel_rfl) ⟨_,c⟩ (fun _ _=>dP bJ rfl (x.mono y) rfl rfl rfl f8) ?_;obtain ⟨n8,k3,k4⟩:=bG.el (sz:=1) rfl x f8
 cases k4
 refine jB (i:=6) rfl (by kernel_rfl) ⟨_,c⟩ (fun _ ⟨_,c⟩=>bD (t:=0) dC c (k3.mono y) rfl rfl) (jB (i:=7) rfl (by kernel_rfl) ⟨_,c⟩ (fun _ _=>aV (t':=2) oE rfl rfl) (jB (i:=8) rfl (by kernel_rfl) ⟨_,c⟩ (fun _ ⟨_,c⟩=>bD (t:=2) xV c f7 rfl rfl) (uX (i:=1) (j:=11) (by kernel_rfl) rfl rfl ?_ ?_)))
 ·obtain ⟨n,k5,hm⟩:=aB hm
  refine aR (vs:=[zS a7 p.length c8]) call205 rfl (aAU k5 c (x.mono y)) ?_
  rintro _ n9 ⟨rfl,d7⟩
  refine aT (aC ⟨fun _=>⟨_,d7⟩,?_⟩)
  refine uX (i:=9) (j:=11) (by kernel_rfl) rfl rfl ?_ ?_
  ·obtain ⟨a6,k6,hm⟩:=aB hm
   refine aR (vs:=d1) call99 rfl (bT k6 d7 (h3.mono y)) ?_
   rintro _ o0 ⟨a8,a9,rfl,d8⟩
   refine aT (aC ⟨fun _=>⟨_,d8⟩,?_⟩)
   refine jB (i:=10) rfl (by kernel_rfl) ⟨_,d8⟩ (fun _ _=>iR (vs:=[(0,i64 n),(1,i64 k),(2,zS a8 a6.length a9)]) (cs:=[i64 n,i64 k,zS a8 a6.length a9,zS none 0 0]) aED rfl (by kernel_rfl)) (cN (i:=11) (by kernel_rfl) rfl (aZ (vs:=d) zeroValue35 d8 rfl (fun k7 o1 f9=>(aT (aC ⟨fun _=>⟨_,f9⟩,?_⟩)))))
   refine cN (i:=12) (by kernel_rfl) rfl ?_
   have k8:=d6 _ _ f9
   refine bS (i:=1) (ns:=[i64 n,i64 k,zS a8 a6.length a9,zS none 0 0]) (us:=[i64 n,i64 k,zS a8 a6.length a9,zS none 0 0]) sizeOf35 k8 rfl rfl rfl rfl rfl (dQ rfl) rfl rfl (fun k9 (o2:aF G K (box c3 35 b7::box k7 35 [i64 n,i64 k,zS a8 a6.length a9,zS none 0 0]::aL 9 K a8 a9 a6::box m 35 d::L) k9)=>(aT (aC ⟨aFM rfl,?_⟩)))
   exact lW (by kernel_rfl) aP
  ·refine aZ (vs:=d) zeroValue35 d7 rfl (fun l0 o3 g0=>(aT (aC ⟨fun _=>⟨_,g0⟩,?_⟩)))
   refine cN (i:=9) (by kernel_rfl) rfl ?_;obtain ⟨b0,l1,hm⟩:=aB hm
   refine aR (vs:=d1) call99 rfl (bT l1 g0 (h3.mono y)) ?_
   rintro _ o4 ⟨b1,b2,rfl,d9⟩
   refine aT (aC ⟨fun _=>⟨_,d9⟩,?_⟩)
   refine jB (i:=10) rfl (by kernel_rfl) ⟨_,d9⟩ (fun _ _=>iR (vs:=[(0,i64 n),(1,i64 k),(2,zS b1 b0.length b2)]) (cs:=[i64 n,i64 k,zS b1 b0.length b2,zS none 0 0]) aED rfl (by kernel_rfl)) (cN (i:=12) (by kernel_rfl) rfl ?_)
   have l2:=d6 _ _ d9
   refine bS (i:=2) (ns:=[i64 n,i64 k,zS b1 b0.length b2,zS none 0 0]) (us:=[i64 n,i64 k,zS b1 b0.length b2,zS none 0 0]) sizeOf35 l2 rfl rfl rfl rfl rfl (dQ rfl) rfl rfl (fun l3 (o5:aF G K (box c3 35 b7::aL 9 K b1 b2 b0::box l0 35 [i64 n,i64 k,zS b1 b0.length b2,zS none 0 0]::box m 35 d::L) l3)=>(aT (aC ⟨aFM rfl,?_⟩)))
   exact lW (by kernel_rfl) aP
 ·refine aZ (vs:=d) zeroValue35 c rfl (fun l4 o6 g1=>(aT (aC ⟨fun _=>⟨_,g1⟩,?_⟩)))
  refine cN (i:=1) (by kernel_rfl) rfl ?_;obtain ⟨c0,l5,hm⟩:=aB hm
  refine aR (vs:=[zS a7 p.length c8]) call205 rfl (aAU l5 g1 (x.mono y)) ?_
  rintro _ o7 ⟨rfl,g2⟩
  refine aT (aC ⟨fun _=>⟨_,g2⟩,?_⟩)
  refine cN (i:=9) (by kernel_rfl) rfl ?_;obtain ⟨b3,l6,hm⟩:=aB hm
  refine aR (vs:=d1) call99 rfl (bT l6 g2 (h3.mono y)) ?_
  rintro _ o8 ⟨b4,b5,rfl,e0⟩
  refine aT (aC ⟨fun _=>⟨_,e0⟩,?_⟩)
  refine jB (i:=10) rfl (by kernel_rfl) ⟨_,e0⟩ (fun _ _=>iR (vs:=[(0,i64 c0),(1,i64 k),(2,zS b4 b3.length b5)]) (cs:=[i64 c0,i64 k,zS b4 b3.length b5,zS none 0 0]) aED rfl (by kernel_rfl)) (cN (i:=12) (by kernel_rfl) rfl ?_)
  have l7:=d6 _ _ e0
  refine bS (i:=2) (ns:=[i64 c0,i64 k,zS b4 b3.length b5,zS none 0 0]) (us:=[i64 c0,i64 k,zS b4 b3.length b5,zS none 0 0]) sizeOf35 l7 rfl rfl rfl rfl rfl (dQ rfl) rfl rfl (fun l8 (o9:aF G K (box c3 35 b7::aL 9 K b4 b5 b3::box l4 35 [i64 c0,i64 k,zS b4 b3.length b5,zS none 0 0]::box m 35 d::L) l8)=>(aT (aC ⟨aFM rfl,?_⟩)))
  exact lW (by kernel_rfl) aP
theorem uD {t:bB} {p:(List Int)} {b3:Bool} {R:bB} (hm:kV t p b3=some R) (hs:aF G K (L) w) (h3:bG K a1 c2 t.L) (h6:bG K a4 c5 t.E) (m:bG K a7 c8 p):
  Calls prog 118 ([zA (zCa t a1 c2 a4 c5),zS a7 p.length c8,zB b3]:List Value).toArray w (eZ fun v w'=>∃ c6 c7 c9 d0,v=zA (zCa R c6 c7 c9 d0)/\aF G K (aL 9 K c6 c7 R.L::aL 70 K c9 d0 R.E::L) w'):=by
 let g:=zG
 let z:=(zC t a1 c2 a4 c5)
 refine aO func118 rfl (by kernel_rfl) (by show (3:Nat)<=43;decide) ?_;unfold kV at hm
 refine aK (dJ (v:=zA (zCa t a1 c2 a4 c5)) (vs:=z) hs rfl rfl (fun e5 i6 e6=>(dJ (v:=zS a7 p.length c8) (vs:=[zS a7 p.length c8]) e6 rfl rfl (fun q i7 e7=>(aZ (vs:=g) zeroValue35 e7 rfl (fun j i8 b4=>(aH (aK (aD (jH (us:=z) kJ b4 (i:=2) rfl rfl rfl rfl) (aD (cJ aAs b4 (i:=1) rfl rfl rfl) (aD (jZ (vs:=[zP (some ⟨q,0,none⟩)]) rfl) ?_)))))))))));obtain ⟨i9,J,e8,e9,f0⟩:=aF.lendBp b4 zt1
 obtain ⟨a,f1,hm⟩:=aB hm
 refine aR (vs:=[zA (zCa t a1 c2 a4 c5),zS a7 p.length c8,Value.func (.func 165) #[] #[cR (some ⟨q,0,none⟩) 0]]) call164 rfl (aCC f1 e9 (h3.mono J) (h6.mono J) (m.mono J) e8 (m.mono J)) ?_
 rintro _ j0 ⟨b,c,r,u,rfl,f2⟩
 have f3:=f0 _ _ f2
 refine aZ (vs:=g) zeroValue35 f3 rfl (fun x j1 f4=>(bS (i:=0) (ns:=(zC a b c r u)) (us:=(zC a b c r u)) sizeOf35 f4 rfl rfl rfl rfl rfl (dQ rfl) rfl rfl (fun f5 (V:aF G K (box x 35 (zC a b c r u)::box q 29 [zS a7 p.length c8]::aL 9 K b c a.L::aL 70 K r u a.E::box j 35 g::box e5 35 z::L) f5)=>(aH (mB [6,7] (fun f w=>∃ d1 b5 d2 d3,Hp.le K d1/\pG a b5=some R/\aF G d1 (aL 70 K d2 d3 b5::box x 35 [i64 a.N,i64 a.I,zS b a.L.length c,zS d2 b5.length d3]::aL 9 K b c a.L::box j 35 g::L) w) aP (aK (aG (v:=zB b3) (aH ?_))))))))
 rcases aN hm with ⟨c48,hm⟩|⟨c48,hm⟩
 ·refine aS c48 rfl (aM (aK (aD (jH (us:=z) kJ V (i:=5) rfl rfl rfl rfl) (aD (cJ aAs V (i:=1) rfl rfl rfl) ?_))));obtain ⟨a0,f6,hm⟩:=aB hm
  refine aR (vs:=[zA (zCa t a1 c2 a4 c5),zS a7 p.length c8]) call149 rfl (wG f6 V h3 h6 m) ?_
  rintro _ j2 ⟨b6,f7,f8,f9,g0,rfl,n,g1,g2,g3⟩
  obtain ⟨y,g4,hm⟩:=aB hm
  refine aR (vs:=[zA (zCa a0 f7 f8 f9 g0)]) call150 rfl (wH g4 g3 g1 g2) ?_
  rintro _ j3 ⟨a2,a3,rfl,j4⟩
  refine aD (bH (len:=y.length) lV rfl) (aG (v:=i64 0) (aH (aQ [6,7] (fun f w=>∃ b7 d4 d5,pH a b7=some R/\aF G b6 (aL 70 K d4 d5 b7::box x 35 [i64 a.N,i64 a.I,zS b a.L.length c,zS d4 b7.length d5]::aL 9 K b c a.L::box j 35 g::L) w) aP ?_)));obtain ⟨j5,g5,ho⟩:=aB hm
  refine cC [4,6,7,18,19] g5 (fun a5 k f w=>∃ a6 a8,f 20=i64 k/\aF G b6 (aL 4 K a2 a3 y::box x 35 [i64 a.N,i64 a.I,zS b a.L.length c,zS a6 a5.length a8]::box q 29 [zS a7 p.length c8]::aL 9 K b c a.L::aL 70 K a6 a8 a5::box j 35 g::L) w) aP ?_
  ·rintro a5 k g6 f j6 hm hr ⟨a6,a8,a9,b8⟩
   unfold fF at hm
   refine aK (aD (cU a9 rfl) (aH (aM ?_)))
   rcases aN hm with ⟨d6,hm⟩|⟨d6,hm⟩
   ·refine aS d6 rfl (aY (aC (aM (aQ [4,6,7,18,19,20] (fun f w=>∃ b0 b1 b2,gO k b0=some g6/\aF G b6 (aL 70 K b1 b2 b0::aL 4 K a2 a3 y::box x 35 [i64 a.N,i64 a.I,zS b a.L.length c,zS b1 b0.length b2]::box q 29 [zS a7 p.length c8]::aL 9 K b c a.L::box j 35 g::L) w) ?_ ?_))))
    ·rintro f j7 ⟨b0,b1,b2,hm,g7⟩
     unfold gO at hm
     exact aC (aU (aD (dT a9 rfl) (aG (v:=i64 (wr (k+1))) (aH ⟨_,(zI hm).symm,bL,b1,b2,rfl,(aF.arr 5 [1,2,3,4,0] g7 rfl)⟩))))
    refine aK (bC a9 ?_);obtain ⟨d7,b9,hm⟩:=aB hm
    have g8:=dU b8 (i:=0) rfl b9
    refine aD (fL lV rfl g8 rfl rfl a9 b9) (aD (rH (t:=0) sc_4 b8 (i:=0) rfl b9 rfl rfl rfl) (aJ (v:=i64 k) (aJ (v:=zB d7) (aH (aK (aG (v:=zB d7) (aH ?_)))))))
    rcases aN hm with ⟨d8,hm⟩|⟨d8,hm⟩
    ·refine aS d8 rfl ?_;obtain ⟨j8,o,g9,h0,h1⟩:=aF.lendBp b8 zt1
     obtain ⟨c0,l,d9,e0,h2⟩:=aF.lendBp h0 zt1
     refine cW (C:=fun w'=>∃ L',aF G c0 L' w') [(0,0),(1,0),(2,0),(3,0),(4,0),(5,0),(6,0),(7,0),(8,0),(9,0),(10,0),(11,1),(12,1),(13,0),(14,2)] Tryz_mixed (by kernel_rfl) (fun _ hg=>⟨_,aF.mono e0 hg⟩) (fun j9 h4=>?_)
     have e:=aF.mono e0 h4
     refine bA rfl (fun _ _=>aV (t':=3) fY rfl rfl) (bA rfl (fun _ ⟨_,e⟩=>bD (t:=3) oJ e (g9.mono l) rfl rfl) (bA rfl (fun _ ⟨_,e⟩=>bD (t:=0) aAs e d9 rfl rfl) (bA rfl (fun _ _=>aW (v:=i64 k) rfl) ?_)));obtain ⟨d,c1,hm⟩:=aB hm
     refine bA rfl (fun _ _=>dP bJ rfl (m.mono (zL (zL n o) l)) rfl rfl rfl c1) ?_;obtain ⟨k0,e1,h5⟩:=bG.el (sz:=1) rfl m c1
     cases h5
     refine bA rfl (fun _ ⟨_,e⟩=>bD (t:=0) dC e (e1.mono (zL (zL n o) l)) rfl rfl) (bA rfl (fun _ ⟨_,e⟩=>bD (t:=0) aAs e d9 rfl rfl) (bA rfl (fun _ _=>aW (v:=i64 k) rfl) (bA rfl (fun _ _=>dP bJ rfl (m.mono (zL (zL n o) l)) rfl rfl rfl c1) (bA rfl (fun _ ⟨_,e⟩=>bD (t:=0) dC e (e1.mono (zL (zL n o) l)) rfl rfl) (bA rfl (fun _ _=>iR (vs:=[(0,i64 d),(1,i64 0),(2,i64 d)]) (cs:=[i64 d,i64 0,i64 d]) aJC rfl (by kernel_rfl)) (jN rfl (cK (Kt:=K) (xs:=([⟨d,0,d⟩]:List Edge)) (cs:=[i64 d,i64 0,i64 d]) (vs:=[(0,zA #[i64 d,i64 0,i64 d])]) cS sM rfl rfl e rfl (by kernel_rfl) rfl rfl rfl ⟨rfl,trivial⟩ (fun h7 h8 (e2:aF G c0 (aL 70 K h7 1 ([⟨d,0,d⟩]:List Edge)::aL 4 K a2 a3 y::aL 9 K b c a.L::aL 70 K a6 a8 a5::box j 35 g::L) h8)=>(aT (aC ⟨⟨_,e2⟩,?_⟩))))))))))
     refine jN rfl ?_;obtain ⟨i0,i1,hm⟩:=aB hm
     refine nE (i:=2) cS underlying33 sM rfl rfl e2 rfl (zL (zL n o) l) (zL (zL n o) l) i1 rfl rfl rfl rfl (fun _ h=>h) (fun i2 i3 i4 (e3:aF G c0 (aL 4 K a2 a3 y::aL 9 K b c a.L::aL 70 K i2 i3 i0::box j 35 g::L) i4)=>(aT (aC ⟨⟨_,e3⟩,?_⟩)))
     refine bA rfl (fun _ _=>aV (t':=3) fY rfl rfl) ?_
     have i5:=h2 _ _ e3
     have k1:=h1 _ _ i5
     exact aP
    ·exact aP
   ·exact aP
 ·exact bE c48 rfl (aY (aC ⟨bL,K,a.E,r,u,(zR _),hm,(aF.arr 6 [3,0,2,4] V rfl)⟩))
theorem aCR {t:bB} {x:Bool} {R:bB} (hm:lH t x=some R) (hs:aF G K (L) w) (h3:bG K a1 c2 t.L) (h6:bG K a4 c5 t.E):
  Calls prog 83 ([zA (zCa t a1 c2 a4 c5),zB x]:List Value).toArray w (eZ fun v w'=>∃ d5 d6 d7 d8,v=zA (zCa R d5 d6 d7 d8)/\aF G K (aL 9 K d5 d6 R.L::aL 70 K d7 d8 R.E::L) w'):=by
 let k:=zG
 let y:=(zC t a1 c2 a4 c5)
 let d9:=[zA (zCa t a1 c2 a4 c5)]
 refine aO func83 rfl (by kernel_rfl) (by show (2:Nat)<=16;decide) ?_;unfold lH at hm
 refine aK (dJ (v:=zA (zCa t a1 c2 a4 c5)) (vs:=y) hs rfl rfl (fun b7 w8 g4=>(aZ (vs:=k) zeroValue35 g4 rfl (fun r l1 g5=>(aH (aM (cH [1,4] (fun f w=>∃ l m h e a5 p q n o,lX x l m h e=some R/\f 5=zP (some ⟨a5,0,none⟩)/\aF G K (aL 70 K n o e::aL 9 K p q h::box a5 35 [i64 l,i64 m,zS p h.length q,zS n e.length o]::box r 35 k::L) w) ?_ ?_)))))))
 ·rintro f c9 ⟨l,m,h,e,a5,p,q,n,o,hm,e0,g6⟩
  unfold lX at hm
  refine aC (aM ?_);obtain ⟨g7,e1,e2,d0⟩:=aF.giveSp g6 (zR _) zt1
  replace d0:aF G g7 (aL 70 K n o e::box a5 35 [i64 l,i64 m,zS p h.length q,zS n e.length o]::box r 35 k::L) c9:=d0
  obtain ⟨g8,d1,e3,d2⟩:=aF.giveSp d0 e1 .head
  replace d2:aF G g8 (box a5 35 [i64 l,i64 m,zS p h.length q,zS n e.length o]::box r 35 k::L) c9:=d2
  obtain ⟨e4,a6,e5,a9,_⟩:=aF.lendBp d2 .head
  replace a9:aF G e4 (box r 35 k::L) c9:=a9
  refine cW (C:=fun w'=>∃ L',aF G e4 L' w') [(0,0),(1,0),(2,0),(4,0),(3,1),(5,1),(6,2)] Tryz_mixed (by kernel_rfl) (fun _ hg=>⟨_,aF.mono a9 hg⟩) (fun l2 g9=>?_)
  have a7:=aF.mono a9 g9
  refine bA rfl (fun _ ⟨_,a7⟩=>fP (t:=0) (vs:=[i64 l,i64 m,zS p h.length q,zS n e.length o]) kJ a7 e5 (aIn e0) rfl rfl) (bA rfl (fun _ ⟨_,a7⟩=>fP (t:=0) (vs:=[i64 l,i64 m,zS p h.length q,zS n e.length o]) kJ a7 e5 (aIn e0) rfl rfl) (bA rfl (fun _ _=>aW (v:=zB x) rfl) (bA rfl (fun _ _=>aW (v:=zB x) rfl) (jN rfl ?_))));obtain ⟨h0,h1,hm⟩:=aB hm
  refine aR (vs:=[zA #[i64 l,i64 m,zS p h.length q,zS n e.length o],zB x]) call61 rfl (aCa (t:=⟨l,m,h,e⟩) h1 a7 (e2.mono (zL d1 a6)) (e3.mono a6)) ?_
  rintro _ l3 ⟨h2,h4,h5,rfl,a8,h7,e6⟩
  refine aT (aC ⟨⟨_,(aF.weakK e6 a8)⟩,?_⟩)
  refine jN rfl ?_;obtain ⟨a,h8,hm⟩:=aB hm
  refine aR (vs:=[zA #[i64 l,i64 m,zS p h.length q,zS n e.length o],zS h4 h0.length h5,zB x]) call118 rfl (uD (t:=⟨l,m,h,e⟩) h8 e6 (e2.mono (zL (zL d1 a6) a8)) (e3.mono (zL a6 a8)) h7) ?_
  rintro _ l4 ⟨z,J,V,a0,rfl,e7⟩
  refine aT (aC ⟨⟨_,(aF.weakK e7 a8)⟩,?_⟩)
  refine WE_s rfl (bS (i:=2) (ns:=(zC a z J V a0)) (us:=(zC a z J V a0)) sizeOf35 e7 rfl rfl rfl rfl rfl (dQ rfl) rfl rfl (fun h9 (e8:aF G h2 (aL 9 K z J a.L::aL 70 K V a0 a.E::box r 35 (zC a z J V a0)::L) h9)=>(aH (oS (aC ?_)))));obtain rfl:=zI hm
  exact fU (aIl results83 (aDg (vs:=(zC a z J V a0)) rfl kJ e8 (i:=2) rfl rfl rfl) ⟨z,J,V,a0,rfl,(aF.weakK (aF.arr 3 [0,1] e8 rfl) (zL (zL (zL e1 d1) a6) a8))⟩)
 obtain ⟨i1,g,e9,i2,d3⟩:=aF.lendBp g5 zt1
 refine aAb (C:=fun w'=>∃ L',aF G i1 L' w') [5] Tryz_mixed (by kernel_rfl) (fun l5 i3=>?_)
 have u:=aF.mono i2 i3
 refine jB (i:=0) rfl (by kernel_rfl) ⟨_,u⟩ (fun _ ⟨_,u⟩=>fP (t:=0) (vs:=y) kJ u e9 rfl rfl rfl) (jB (i:=1) rfl (by kernel_rfl) ⟨_,u⟩ (fun _ ⟨_,u⟩=>fP (t:=0) (vs:=y) kJ u e9 rfl rfl rfl) (uX (i:=2) (j:=4) (by kernel_rfl) rfl rfl ?_ ?_))
 ·obtain ⟨b0,i4,hm⟩:=aB hm
  refine aR (vs:=d9) call117 rfl (wI i4 u (h3.mono g) (h6.mono g)) ?_
  rintro _ l6 ⟨b1,b2,rfl,d4⟩
  refine aT (aC ⟨fun _=>⟨_,d4⟩,?_⟩)
  refine uX (i:=3) (j:=4) (by kernel_rfl) rfl rfl ?_ ?_
  ·obtain ⟨l7,f0,i5,i6,i7⟩:=aF.lendSp d4 g .head
   obtain ⟨b,i8,hm⟩:=aB hm
   refine aR (vs:=[zA (zCa t a1 c2 a4 c5),zS b1 b0.length b2]) call55 rfl (uC i8 i6 (h3.mono (zL g f0)) (h6.mono (zL g f0)) i5) ?_
   rintro _ l8 ⟨b3,b4,b5,b6,rfl,i9⟩
   have f1:=i7 _ _ i9
   refine aT (aC ⟨fun _=>⟨_,f1⟩,?_⟩)
   refine cN (i:=4) (by kernel_rfl) rfl (aZ (vs:=k) zeroValue35 f1 rfl (fun j0 l9 f2=>(aT (aC ⟨fun _=>⟨_,f2⟩,?_⟩))))
   refine cN (i:=5) (by kernel_rfl) rfl ?_
   have j1:=d3 _ _ f2
   refine bS (i:=1) (ns:=(zC b b3 b4 b5 b6)) (us:=(zC b b3 b4 b5 b6)) sizeOf35 j1 rfl rfl rfl rfl rfl (dQ rfl) rfl rfl (fun j2 (m0:aF G K (box b7 35 y::box j0 35 (zC b b3 b4 b5 b6)::aL 2 K b1 b2 b0::aL 9 K b3 b4 b.L::aL 70 K b5 b6 b.E::box r 35 k::L) j2)=>(aT (aC ⟨aFM rfl,?_⟩)))
   exact lW (by kernel_rfl) aP
  ·refine aZ (vs:=k) zeroValue35 d4 rfl (fun j3 m1 f3=>(aT (aC ⟨fun _=>⟨_,f3⟩,?_⟩)))
   refine cN (i:=3) (by kernel_rfl) rfl ?_;obtain ⟨m2,f4,j4,j5,j6⟩:=aF.lendSp f3 g zt1
   obtain ⟨c,j7,hm⟩:=aB hm
   refine aR (vs:=[zA (zCa t a1 c2 a4 c5),zS b1 b0.length b2]) call55 rfl (uC j7 j5 (h3.mono (zL g f4)) (h6.mono (zL g f4)) j4) ?_
   rintro _ m3 ⟨b8,b9,c0,c1,rfl,j8⟩
   have f5:=j6 _ _ j8
   refine aT (aC ⟨fun _=>⟨_,f5⟩,?_⟩)
   refine cN (i:=5) (by kernel_rfl) rfl ?_
   have j9:=d3 _ _ f5
   refine bS (i:=4) (ns:=(zC c b8 b9 c0 c1)) (us:=(zC c b8 b9 c0 c1)) sizeOf35 j9 rfl rfl rfl rfl rfl (dQ rfl) rfl rfl (fun k0 (m4:aF G K (box b7 35 y::aL 2 K b1 b2 b0::aL 9 K b8 b9 c.L::aL 70 K c0 c1 c.E::box j3 35 (zC c b8 b9 c0 c1)::box r 35 k::L) k0)=>(aT (aC ⟨aFM rfl,?_⟩)))
   exact lW (by kernel_rfl) aP
 ·refine aZ (vs:=k) zeroValue35 u rfl (fun k1 m5 f6=>(aT (aC ⟨fun _=>⟨_,f6⟩,?_⟩)))
  refine cN (i:=2) (by kernel_rfl) rfl ?_;obtain ⟨f7,k2,hm⟩:=aB hm
  refine aR (vs:=d9) call117 rfl (wI k2 f6 (h3.mono g) (h6.mono g)) ?_
  rintro _ m6 ⟨f8,f9,rfl,g0⟩
  refine aT (aC ⟨fun _=>⟨_,g0⟩,?_⟩)
  refine cN (i:=3) (by kernel_rfl) rfl ?_;obtain ⟨m7,g1,k3,k4,k5⟩:=aF.lendSp g0 g .head
  obtain ⟨d,k6,hm⟩:=aB hm
  refine aR (vs:=[zA (zCa t a1 c2 a4 c5),zS f8 f7.length f9]) call55 rfl (uC k6 k4 (h3.mono (zL g g1)) (h6.mono (zL g g1)) k3) ?_
  rintro _ m8 ⟨c3,c4,c6,c7,rfl,k7⟩
  have g2:=k5 _ _ k7
  refine aT (aC ⟨fun _=>⟨_,g2⟩,?_⟩)
  refine cN (i:=5) (by kernel_rfl) rfl ?_
  have k8:=d3 _ _ g2
  refine bS (i:=4) (ns:=(zC d c3 c4 c6 c7)) (us:=(zC d c3 c4 c6 c7)) sizeOf35 k8 rfl rfl rfl rfl rfl (dQ rfl) rfl rfl (fun k9 (m9:aF G K (box b7 35 y::aL 2 K f8 f9 f7::aL 9 K c3 c4 d.L::aL 70 K c6 c7 d.E::box k1 35 (zC d c3 c4 c6 c7)::box r 35 k::L) k9)=>(aT (aC ⟨aFM rfl,?_⟩)))
  exact lW (by kernel_rfl) aP
theorem aHM {t:bB} {kind:Int} {R:bB} (hm:aEv t kind=some R) (e:aF G K (L) w) (g:bG K a1 c2 t.L) (h:bG K a4 c5 t.E):
  Calls prog 44 ([zA (zCa t a1 c2 a4 c5),i64 kind]:List Value).toArray w (eZ fun v w'=>∃ a b c d,v=zA (zCa R a b c d)/\aF G K (aL 9 K a b R.L::aL 70 K c d R.E::L) w'):=by
 exact aP
theorem rK {t:bB} {p:Int} {a:Nat} {R:bB} (hm:pI t p=some R) (g:aF G K (L) w) (h:bG K a1 c2 t.L) (i:bG K a4 c5 t.E) (j:fV K a7 a [i64 p]):
  Calls prog 43 ([zA (zCa t a1 c2 a4 c5),cR a7 a]:List Value).toArray w (eZ fun v w'=>∃ b c d e,v=zA (zCa R b c d e)/\aF G K (aL 9 K b c R.L::aL 70 K d e R.E::L) w'):=by
 exact aP
theorem aAl {n:aX} {d2:Int} {J:Nat} {R:aX} (hm:tI n d2=some R) (hs:aF G K (L) w) (h3:bG K a1 c2 n.Parts) (h6:bG K a4 c5 n.Meetings) (h9:bG K a7 c8 n.Allowed) (f4:bG K a10 c11 n.Hidden) (f5:fV K a13 J [i64 d2]):
  Calls prog 42 ([zA #[zS a1 n.Parts.length c2,zS a4 n.Meetings.length c5,zS a7 n.Allowed.length c8,zS a10 n.Hidden.length c11],Value.func (.func 43) #[] #[cR a13 J]]:List Value).toArray w (eZ fun v w'=>∃ z d3 d4 d5 d6 d7 d8 d9 e0,v=zA #[zS d3 R.Parts.length d4,zS d5 R.Meetings.length d6,zS d7 R.Allowed.length d8,zS d9 R.Hidden.length e0]/\Hp.le K z/\bG z d3 d4 R.Parts/\bG z d5 d6 R.Meetings/\bG z d7 d8 R.Allowed/\bG z d9 e0 R.Hidden/\aF G z (L) w'):=by
 let d:=[zS a1 n.Parts.length c2,zS a4 n.Meetings.length c5,zS a7 n.Allowed.length c8,zS a10 n.Hidden.length c11]
 let l:=[zS none 0 0,zS none 0 0,zS none 0 0,zS none 0 0]
 refine aO func42 rfl (by kernel_rfl) (by show (2:Nat)<=25;decide) ?_;unfold tI at hm
 refine aK (dJ (v:=zA #[zS a1 n.Parts.length c2,zS a4 n.Meetings.length c5,zS a7 n.Allowed.length c8,zS a10 n.Hidden.length c11]) (vs:=d) hs rfl rfl (fun m j2 f6=>(aZ (vs:=l) zeroValue28 f6 rfl (fun o j3 e1=>(aH (aK (aJ (v:=zS none 0 0) (aH (aM (aK (aD (aV (t':=0) mS rfl rfl) (aD (cJ aBH e1 (i:=1) rfl rfl rfl) (aD (bH (len:=n.Parts.length) rI rfl) (aG (v:=i64 0) (aH (aQ [2,4] (fun f w=>∃ b2 V b3 b4,Hp.le K b2/\pS n V=some R/\f 5=zS b3 V.length b4/\aF G b2 (aL 35 b2 b3 b4 V::box o 28 l::box m 28 d::L) w) ?_ ?_))))))))))))))))
 ·rintro f f7 ⟨b2,V,b3,b4,a0,hm,f8,e2⟩
  unfold pS at hm
  refine aC (aK (aD (jH (us:=d) aBI e2 (i:=2) rfl rfl rfl rfl) (bC f8 ?_)));obtain ⟨f9,a2,g0,b8⟩:=aF.giveSp e2 (zR _) .head
  replace b8:aF G f9 (box o 28 l::box m 28 d::L) f7:=b8
  obtain ⟨c,g1,hm⟩:=aB hm
  refine aR (vs:=[zA #[zS a1 n.Parts.length c2,zS a4 n.Meetings.length c5,zS a7 n.Allowed.length c8,zS a10 n.Hidden.length c11],zS b3 V.length b4]) call81 rfl (aCA g1 b8 (h3.mono (zL a0 a2)) (h6.mono (zL a0 a2)) (h9.mono (zL a0 a2)) (f4.mono (zL a0 a2)) g0) ?_
  rintro _ j4 ⟨e3,a3,a5,a6,a8,a9,c45,b0,c48,rfl,g2,g3,g4,g5,g6,g7⟩
  refine bS (i:=0) (ns:=[zS a3 c.Parts.length a5,zS a6 c.Meetings.length a8,zS a9 c.Allowed.length c45,zS b0 c.Hidden.length c48]) (us:=[zS a3 c.Parts.length a5,zS a6 c.Meetings.length a8,zS a9 c.Allowed.length c45,zS b0 c.Hidden.length c48]) sizeOf28 g7 rfl rfl rfl rfl rfl (dQ rfl) rfl rfl (fun g8 (e4:aF G e3 (box o 28 [zS a3 c.Parts.length a5,zS a6 c.Meetings.length a8,zS a9 c.Allowed.length c45,zS b0 c.Hidden.length c48]::box m 28 d::L) g8)=>(aH ?_))
  obtain rfl:=zI hm
  exact fU (aIl results42 (aDg (vs:=[zS a3 c.Parts.length a5,zS a6 c.Meetings.length a8,zS a9 c.Allowed.length c45,zS b0 c.Hidden.length c48]) rfl aBI e4 (i:=0) rfl rfl rfl) ⟨e3,a3,a5,a6,a8,a9,c45,b0,c48,rfl,(zL (zL a0 a2) g2),g3,g4,g5,g6,(aF.arr 2 [] e4 rfl)⟩)
 have j5:=aF.nil (α:=bB) e1 35 K
 obtain ⟨j6,h0,ho⟩:=aB hm
 refine cC [1,2,4,9,10] h0 (fun u b9 f w=>∃ p x y,Hp.le K p/\f 5=zS x u.length y/\f 11=i64 b9/\aF G p (aL 35 p x y u::box o 28 l::box m 28 d::L) w) aP ?_
 ·rintro u b9 j7 f j8 hm hr ⟨p,x,y,q,h1,c0,e5⟩
  unfold gF at hm
  refine aK (aD (cU c0 rfl) (aH (aM ?_)))
  rcases aN hm with ⟨e6,hm⟩|⟨e6,hm⟩
  ·refine aS e6 rfl (aY (aC (aM (cV (aK ?_)))));obtain ⟨a,e7,hm⟩:=aB hm
   refine aD (dP rI rfl (h3.mono q) rfl rfl c0 e7) ?_;obtain ⟨j9,h2,h4⟩:=bG.el (sz:=4) rfl h3 e7
   obtain ⟨e,g,j,k,rfl,h5,h7⟩:=h4
   refine aD (fP (t:=0) (vs:=(zC a e g j k)) kJ e5 (h2.mono q) rfl rfl rfl) (aZ (vs:=zG) zeroValue35 e5 rfl (fun b1 k0 h8=>(bS (i:=0) (ns:=(zC a e g j k)) (us:=(zC a e g j k)) sizeOf35 h8 rfl rfl rfl rfl rfl (dQ rfl) rfl rfl (fun i0 (e8:aF G p (box b1 35 (zC a e g j k)::aL 35 p x y u::box o 28 l::box m 28 d::L) i0)=>(aH (aU (bC h1 (aG (v:=Value.func (.func 43) #[] #[cR a13 J]) (aD (jH (us:=(zC a e g j k)) kJ e8 (i:=0) rfl rfl rfl rfl) ?_)))))))))
   obtain ⟨b,i1,hm⟩:=aB hm
   refine iS (vs:=[zA (zCa a e g j k)]) (caps:=[cR a13 J]) (us:=[zA (zCa a e g j k),cR a13 J]) rfl call43 rfl rfl (rK i1 e8 (h5.mono q) (h7.mono q) (f5.mono q)) ?_
   rintro _ e9 ⟨c1,c3,b5,b6,rfl,i2⟩
   obtain ⟨i3,c4,i4,c6⟩:=aF.giveSp i2 q .head
   replace c6:aF G i3 (aL 70 K b5 b6 b.E::box b1 35 (zC a e g j k)::aL 35 p x y u::box o 28 l::box m 28 d::L) e9:=c6
   obtain ⟨r,c7,i5,c9⟩:=aF.giveSp c6 (zL q c4) .head
   replace c9:aF G r (box b1 35 (zC a e g j k)::aL 35 p x y u::box o 28 l::box m 28 d::L) e9:=c9
   refine cK (Kt:=r) (xs:=([⟨b.N,b.I,b.L,b.E⟩]:List bB)) (cs:=(zC b c1 c3 b5 b6)) (vs:=[(0,zA (zCa b c1 c3 b5 b6))]) rI aFC rfl rfl c9 rfl (by kernel_rfl) rfl rfl rfl ⟨⟨c1,c3,b5,b6,rfl,(i4.mono c7),i5⟩,trivial⟩ (fun i6 i7 (i8:aF G r (aL 35 r i6 1 ([⟨b.N,b.I,b.L,b.E⟩]:List bB)::box b1 35 (zC a e g j k)::aL 35 p x y u::box o 28 l::box m 28 d::L) i7)=>?_);obtain ⟨f0,i9,hm⟩:=aB hm
   exact aFe (i:=1) r rI underlying24 aFC rfl rfl i8 rfl (zL c4 c7) (zR _) i9 rfl rfl rfl rfl (fun _ _ _ h=>El.one h) (fun d0 d1 j0 (j1:aF G r (box b1 35 (zC a e g j k)::aL 35 r d0 d1 f0::box o 28 l::box m 28 d::L) j0)=>(aJ (v:=zS d0 f0.length d1) (aT (dB (aC (aU (aD (dT c0 rfl) (aG (v:=i64 (wr (b9+1))) (aH ⟨_,(zI hm).symm,bL,r,d0,d1,(zL (zL q c4) c7),rfl,rfl,(aF.arr 1 [] j1 rfl)⟩)))))))))
  ·exact aP
theorem aCo {n:aX} {kind:Int} {R:aX} (hm:nK n kind=some R) (hs:aF G K (L) w) (h3:bG K a1 c2 n.Parts) (h6:bG K a4 c5 n.Meetings) (h9:bG K a7 c8 n.Allowed) (b3:bG K a10 c11 n.Hidden):
  Calls prog 21 ([zA #[zS a1 n.Parts.length c2,zS a4 n.Meetings.length c5,zS a7 n.Allowed.length c8,zS a10 n.Hidden.length c11],i64 kind]:List Value).toArray w (eZ fun v w'=>∃ b q r t u x y z J,v=zA #[zS q R.Parts.length r,zS t R.Meetings.length u,zS x R.Allowed.length y,zS z R.Hidden.length J]/\Hp.le K b/\bG b q r R.Parts/\bG b t u R.Meetings/\bG b x y R.Allowed/\bG b z J R.Hidden/\aF G b (L) w'):=by
 let o:=[zS a1 n.Parts.length c2,zS a4 n.Meetings.length c5,zS a7 n.Allowed.length c8,zS a10 n.Hidden.length c11]
 let V:=[zS none 0 0,zS none 0 0,zS none 0 0,zS none 0 0]
 refine aO func21 rfl (by kernel_rfl) (by show (2:Nat)<=8;decide) ?_;unfold nK at hm
 refine aK (dJ (v:=zA #[zS a1 n.Parts.length c2,zS a4 n.Meetings.length c5,zS a7 n.Allowed.length c8,zS a10 n.Hidden.length c11]) (vs:=o) hs rfl rfl (fun a0 d1 b4=>(dJ (v:=i64 kind) (vs:=[i64 kind]) b4 rfl rfl (fun a2 d2 b5=>(aZ (vs:=V) zeroValue28 b5 rfl (fun a3 b6 a5=>(aH (aK (aD (jH (us:=o) aBI a5 (i:=2) rfl rfl rfl rfl) (aD (jZ (vs:=[zP (some ⟨a2,0,none⟩)]) rfl) ?_))))))))));obtain ⟨b7,c,b8,p,_⟩:=aF.lendBp a5 zt1
 replace p:aF G b7 (box a3 28 V::box a0 28 o::L) b6:=p
 obtain ⟨a,b9,hm⟩:=aB hm
 refine aR (vs:=[zA #[zS a1 n.Parts.length c2,zS a4 n.Meetings.length c5,zS a7 n.Allowed.length c8,zS a10 n.Hidden.length c11],Value.func (.func 43) #[] #[cR (some ⟨a2,0,none⟩) 0]]) call42 rfl (aAl b9 p (h3.mono c) (h6.mono c) (h9.mono c) (b3.mono c) b8) ?_
 rintro _ d3 ⟨a6,d,e,g,h,j,k,l,m,rfl,c0,c1,c3,c4,c6,c7⟩
 refine bS (i:=0) (ns:=[zS d a.Parts.length e,zS g a.Meetings.length h,zS j a.Allowed.length k,zS l a.Hidden.length m]) (us:=[zS d a.Parts.length e,zS g a.Meetings.length h,zS j a.Allowed.length k,zS l a.Hidden.length m]) sizeOf28 c7 rfl rfl rfl rfl rfl (dQ rfl) rfl rfl (fun c9 (a8:aF G a6 (box a3 28 [zS d a.Parts.length e,zS g a.Meetings.length h,zS j a.Allowed.length k,zS l a.Hidden.length m]::box a0 28 o::L) c9)=>(aH ?_))
 obtain rfl:=zI hm
 exact fU (aIl results21 (aDg (vs:=[zS d a.Parts.length e,zS g a.Meetings.length h,zS j a.Allowed.length k,zS l a.Hidden.length m]) rfl aBI a8 (i:=0) rfl rfl rfl) ⟨a6,d,e,g,h,j,k,l,m,rfl,(zL c c0),c1,c3,c4,c6,(aF.arr 2 [] a8 rfl)⟩)
end Gv
namespace Gv
open Go.Value renaming slice→zS,bool→zB,pointer→zP,agg→zA,tuple→zT,map→zM
open Option.some renaming inj→zI
open Gv.Hp renaming le_trans→zL,le_refl→zR
open Go Go.Proofs Go.Proofs.Tryz
set_option maxRecDepth 20000
set_option maxHeartbeats 40000000
variable {G:zZ} {K Kf:Hp} {L:List jM} {w:World} {a1 a4 a7 a10 a13 a2 a5 a6 a9 a11 a16 a19 a24 a27 a29:Option Addr} {c2 c5 c8 c11 c14 b1 c3 c6 b4 b5 c7 c10 c17 b22 b23 c25 c28:Nat}
theorem aCc {n:aX} {kind:Int} {R:(aX × Int)} (hm:yT n kind=some R) (k:aF G K (L) w) (l:G.lo=0) (m:bG K a1 c2 n.Parts) (o:bG K a4 c5 n.Meetings) (p:bG K a7 c8 n.Allowed) (q:bG K a10 c11 n.Hidden):
  Calls prog 8 ([zA #[zS a1 n.Parts.length c2,zS a4 n.Meetings.length c5,zS a7 n.Allowed.length c8,zS a10 n.Hidden.length c11],i64 kind]:List Value).toArray w (eZ fun v w'=>∃ a b c d e g h i j,v=zT #[zA #[zS b R.1.Parts.length c,zS d R.1.Meetings.length e,zS g R.1.Allowed.length h,zS i R.1.Hidden.length j],i64 R.2]/\Hp.le K a/\bG a b c R.1.Parts/\bG a d e R.1.Meetings/\bG a g h R.1.Allowed/\bG a i j R.1.Hidden/\aF G a (L) w'):=by
 exact aP
theorem nA {s_ R:(List aI)} (hm:fN s_=some R) (hs:aF G K (aL 9 K a1 c2 s_::L) w):
  Calls prog 121 ([zS a1 s_.length c2]:List Value).toArray w (eZ fun v w'=>∃ a2 a3,v=zS a2 R.length a3/\aF G K (aL 9 K a2 a3 R::L) w'):=by
 refine aO func121 rfl (by kernel_rfl) (by show (1:Nat)<=61;decide) ?_;unfold fN at hm
 refine aK (aJ (v:=zS none 0 0) (aH (aM (aK (aG (v:=zS a1 s_.length c2) (aD (bH (len:=s_.length) eG rfl) (aD (cU rfl rfl) (aH ?_))))))))
 rcases aN hm with ⟨c3,hm⟩|⟨c3,hm⟩
 ·exact aP
 ·refine bE c3 rfl (aY (aC (aM (aK (aJ (v:=i64 1) (aH (aQ [0] (fun f w=>oA s_=some R/\aF G K (aL 9 K a1 c2 s_::L) w) aP ?_)))))));obtain ⟨f2,d4,ho⟩:=aB hm
  refine fK [0] d4 (fun c f w=>f 3=i64 c/\aF G K (aL 9 K a1 c2 s_::L) w) aP ?_
  ·rintro c a5 f f3 hm hr ⟨l,a⟩
   unfold eM at hm
   refine aM (aK (bC l (aG (v:=zS a1 s_.length c2) (aD (bH (len:=s_.length) eG rfl) (aD (cU rfl rfl) (aH ?_))))))
   rcases aN hm with ⟨a6,hm⟩|⟨a6,hm⟩
   ·refine aS a6 rfl (aY (aC (aM (aQ [0] (fun f w=>gJ c=some a5/\f 3=i64 c/\aF G K (aL 9 K a1 c2 s_::L) w) ?_ ?_))))
    ·rintro f f4 ⟨hm,d5,d6⟩
     unfold gJ at hm
     exact aC (aU (bC d5 (aD (dT rfl rfl) (aJ (v:=i64 (wr (c+1))) (aH ⟨_,(zI hm).symm,bL,rfl,d6⟩)))))
    refine aM (mC (C:=fun w'=>aF G K (aL 9 K a1 c2 s_::L) w') Tryz_mixed (by kernel_rfl) (aF.mono a (fJ.drew _)) (bX (fun _ a=>aW (v:=zS a1 s_.length c2) rfl) (bX (fun _ a=>aW l) ?_)));obtain ⟨f5,J,hm⟩:=aB hm
    have d:=dU a (i:=0) rfl J
    refine bX (fun _ a=>fL eG rfl d rfl rfl rfl J) (bX (fun _ a=>rH (t:=0) aAq a (i:=0) rfl J rfl rfl rfl) (bX (fun _ a=>aW (v:=zS a1 s_.length c2) rfl) (bX (fun _ a=>aW l) (bX (fun _ a=>uW rfl rfl) ?_))));obtain ⟨f6,a7,hm⟩:=aB hm
    refine bX (fun _ a=>fL eG rfl d rfl rfl rfl a7) (bX (fun _ a=>rH (t:=0) aAq a (i:=0) rfl a7 rfl rfl rfl) (bX (fun _ a=>aFR rfl rfl) (vN (fun f7 d7=>(aC ?_)))))
    rcases aN hm with ⟨a8,hm⟩|⟨a8,hm⟩
    ·refine aS a8 rfl (aK (aG (v:=zS a1 s_.length c2) (bC l ?_)));obtain ⟨e,m,hm⟩:=aB hm
     have o:=qJ d7 (i:=0) rfl
     obtain ⟨g,j,p⟩:=Cut.ex 1 a1 c2 c
     refine aD (aEq eG o p rfl rfl rfl m) (aJ (v:=zS g e.length j) (aH (aM (aK (aJ (v:=i64 1) (aH (aQ [] (fun f w=>∃ q r,gK q r=some a5/\f 0=zS a1 q.length c2/\f 3=i64 r/\aF G K (aL 9 K a1 c2 q::L) w) ?_ ?_)))))))
     ·rintro f f8 ⟨q,r,hm,a9,b0,b1⟩
      unfold gK at hm
      refine aC (aK (bC a9 (bC b0 ?_)));obtain ⟨f9,d8,hm⟩:=aB hm
      have d9:=qJ b1 (i:=0) rfl
      obtain ⟨g0,g1,b2⟩:=Cut.ex 1 a1 c2 r
      refine aD (aEq eG d9 b2 rfl rfl rfl d8) ?_;obtain ⟨b3,b4,hm⟩:=aB hm
      refine aGM eG aDQ rfl b1 (i:=0) rfl b2 rfl rfl b4 (fun b5 (b6:aF G K (aL 9 K a1 c2 b3::L) b5)=>(aH (aK (bC (v:=zS a1 b3.length c2) (Eq.trans a9 (congrArg (fun n=>zS a1 n c2) (aDT b4))) (bC b0 ?_)))));obtain ⟨V,b7,hm⟩:=aB hm
      have e0:=qJ b6 (i:=0) rfl
      obtain ⟨b8,b9,c0⟩:=Cut.ex 1 a1 c2 0
      refine aD (aGa eG e0 c0 rfl rfl rfl b7) (aJ (v:=zS b8 V.length b9) (aH (fU (lE (cT (cT (cT ?_)))))))
      have e1:=hr _ (zI hm).symm
      subst e1
      have hm:(some V)=some R:=ho
      clear hr ho
      have g2:aF G K (aL 9 K b8 b9 V::L) b5:=aF.cutP b6 (i:=0) rfl b7 c0
      exact aP
     obtain ⟨g3,e2,ho⟩:=aB hm
     refine oR [4] e2 (fun u x y f w=>f 0=zS a1 u.length c2/\f 3=i64 x/\f 5=i64 y/\aF G K (aL 9 K a1 c2 u::L) w) aP ?_
     ·rintro u x y e3 f g4 hm hr ⟨c1,c4,k,b⟩
      unfold eK at hm
      refine aM (aK (bC k (aG (v:=zS g e.length j) (aD (bH (len:=e.length) eG rfl) (aD (cU rfl rfl) (aH ?_))))))
      rcases aN hm with ⟨c5,hm⟩|⟨c5,hm⟩
      ·refine aS c5 rfl (aY (aC (aM (aQ [4,5] (fun f w=>∃ z a0,eJ y z a0=some e3/\f 0=zS a1 z.length c2/\f 3=i64 a0/\aF G K (aL 9 K a1 c2 z::L) w) ?_ ?_))))
       ·rintro f g5 ⟨z,a0,hm,e4,e5,e6⟩
        unfold eJ at hm
        exact aC (aU (bC k (aD (dT rfl rfl) (aJ (v:=i64 (wr (y+1))) (aH ⟨_,(zI hm).symm,bL,e4,e5,rfl,e6⟩)))))
       refine aM (mC (C:=fun w'=>aF G K (aL 9 K a1 c2 u::L) w') Tryz_mixed (by kernel_rfl) (aF.mono b (fJ.drew _)) (bX (fun _ b=>aW (v:=zS g e.length j) rfl) (bX (fun _ b=>aW k) ?_)));obtain ⟨g6,c6,hm⟩:=aB hm
       obtain ⟨c7,c8,hm⟩:=aB hm
       refine bX (fun _ b=>aIp eG d p m o rfl rfl rfl c6 rfl) (bX (fun _ b=>rH (t:=0) aAq b (i:=0) rfl c8 rfl rfl rfl) (bX (fun _ b=>aW (v:=zS g e.length j) rfl) (bX (fun _ b=>aW k) (bX (fun _ b=>uW rfl rfl) ?_))));obtain ⟨g7,e7,hm⟩:=aB hm
       obtain ⟨g8,e8,hm⟩:=aB hm
       refine bX (fun _ b=>aIp eG d p m o rfl rfl rfl e7 rfl) (bX (fun _ b=>rH (t:=0) aAq b (i:=0) rfl e8 rfl rfl rfl) (bX (fun _ b=>R_neqS rfl rfl) (vN (fun g9 c9=>(aC ?_)))))
       rcases aN hm with ⟨d0,hm⟩|⟨d0,hm⟩
       ·refine aS d0 rfl (aK (bC c1 (bC c4 (aG (v:=zS g e.length j) (bC k (aD (aIp eG d p m o rfl rfl rfl c6 rfl) (aD (rH (t:=0) aAq c9 (i:=0) rfl c8 rfl rfl rfl) ?_)))))));obtain ⟨h0,d1,hm⟩:=aB hm
        refine aD (fL eG rfl d rfl rfl rfl d1) ?_;obtain ⟨d2,d3,hm⟩:=aB hm
        exact nO (i:=0) (t:=0) (ns:=[str c7]) (e':=(c7:aI)) sizeOf9 c9 rfl (Hp.le_refl _) rfl rfl rfl d1 d3 rfl rfl (dQ rfl) rfl (fun cs h=>by cases h;rfl) (fun e9 (f0:aF G K (aL 9 K a1 c2 d2::L) e9)=>(aH (aU (bC c4 (aD (dT rfl rfl) (aJ (v:=i64 (wr (x+1))) (aT (dB (aC ⟨bL,d2,wr (x+1),hm,(Eq.trans c1 (congrArg (fun n=>zS a1 n c2) (jG d3))),rfl,f0⟩)))))))))
       ·exact aP
      ·exact aP
    ·exact aP
   ·exact aP
theorem oD {s_:(List aI)} {a:aI} {R:Int} (hm:eO s_ a=some R) (d:aF G K (L) w) (e:bG K a1 c2 s_):
  Calls prog 102 ([zS a1 s_.length c2,str a]:List Value).toArray w (eZ fun v w'=>v=i64 R/\aF G K (L) w'):=by
 refine aO func102 rfl (by kernel_rfl) (by show (2:Nat)<=19;decide) ?_;unfold eO at hm
 refine aK (aJ (v:=i64 0) (aH (aM (aK (aG (v:=zS a1 s_.length c2) (aD (bH (len:=s_.length) eG rfl) (aG (v:=i64 0) (aH (aQ [] (fun f w=>pJ=some R/\aF G K (L) w) aP ?_)))))))));obtain ⟨g,b,ho⟩:=aB hm
 exact fK [0,1,7] b (fun c f w=>f 8=i64 c/\aF G K (L) w) aP aP
theorem aFq {b c:Int} {a0:(List aI)} {arcs:(List fX)} {R:bB} (hm:aJE b c a0 arcs=some R) (hs:aF G K (L) w) (h3:bG K a1 c2 a0) (h6:bG K a4 c5 arcs):
  Calls prog 86 ([i64 b,i64 c,zS a1 a0.length c2,zS a4 arcs.length c5]:List Value).toArray w (eZ fun v w'=>∃ a8 a9 b0 b1,v=zA (zCa R a8 a9 b0 b1)/\aF G K (aL 9 K a8 a9 R.L::aL 70 K b0 b1 R.E::L) w'):=by
 let j:=zG
 refine aO func86 rfl (by kernel_rfl) (by show (4:Nat)<=55;decide) ?_;unfold aJE at hm
 refine aK (aZ (vs:=j) zeroValue35 hs rfl (fun m w8 d2=>(aH (aK (aG (v:=i64 b) (aG (v:=i64 c) (cK (Kt:=K) (xs:=([([116,97,117]:aI)]:List aI)) (cs:=[str ([116,97,117]:aI)]) (vs:=[(0,str ([116,97,117]:aI))]) eG aDQ rfl rfl d2 rfl (by kernel_rfl) rfl rfl rfl ⟨rfl,trivial⟩ (fun d3 d4 (d5:aF G K (aL 9 K d3 1 ([([116,97,117]:aI)]:List aI)::box m 35 j::L) d4)=>(aG (v:=zS a1 a0.length c2) ?_)))))))));obtain ⟨o,d6,hm⟩:=aB hm
 refine aFd (i:=0) eG underlying26 aDQ rfl rfl d5 rfl (Hp.le_refl _) h3 d6 rfl rfl rfl rfl (fun k l d7 (d8:aF G K (aL 9 K k l o::box m 35 j::L) d7)=>(aD (iR (vs:=[(0,i64 b),(1,i64 c),(2,zS k o.length l)]) (cs:=[i64 b,i64 c,zS k o.length l,zS none 0 0]) aED rfl (by kernel_rfl)) (aZ (vs:=j) zeroValue35 d8 rfl (fun p h8 d9=>(bS (i:=0) (ns:=[i64 b,i64 c,zS k o.length l,zS none 0 0]) (us:=[i64 b,i64 c,zS k o.length l,zS none 0 0]) sizeOf35 d9 rfl rfl rfl rfl rfl (dQ rfl) rfl rfl (fun b2 (b3:aF G K (box p 35 [i64 b,i64 c,zS k o.length l,zS none 0 0]::aL 9 K k l o::box m 35 j::L) b2)=>(aH (aK (aD (aV (t':=2) oE rfl rfl) (aD (cJ xV b3 (i:=0) rfl rfl rfl) ?_))))))))))
 have e0:aF G K (aL 9 K k l o::box p 35 [i64 b,i64 c,zS k o.length l,zS none 0 0]::box m 35 j::L) b2:=(aF.arr 2 [1,0] b3 rfl)
 obtain ⟨a2,e1,hm⟩:=aB hm
 refine aR (vs:=[zS k o.length l,Value.func (.func 120) #[] #[]]) call119 rfl (lib_SortStr e0 e1) ?_
 rintro _ e2 ⟨rfl,e3,e4⟩
 have b4:aF G K (aL 9 K k l a2::box p 35 [i64 b,i64 c,zS k a2.length l,zS none 0 0]::box m 35 j::L) e2:=by rw [←e3];exact e4
 refine aH (aK (aD (aV (t':=2) oE rfl rfl) (aD (cJ xV b4 (i:=1) rfl rfl rfl) ?_)));obtain ⟨d,e5,hm⟩:=aB hm
 refine aR (vs:=[zS k a2.length l]) call121 rfl (nA e5 b4) ?_
 rintro _ h9 ⟨e,g,rfl,e6⟩
 refine aD (aV (t':=2) oE rfl rfl) (bS (i:=1) (ns:=[zS e d.length g]) (us:=[i64 b,i64 c,zS e d.length g,zS none 0 0]) sizeOf26 e6 rfl rfl rfl rfl rfl (dQ rfl) rfl rfl (fun e7 (e8:aF G K (aL 9 K e g d::box p 35 [i64 b,i64 c,zS e d.length g,zS none 0 0]::box m 35 j::L) e7)=>(aH (aM (aK (aG (v:=zS a4 arcs.length c5) (aD (bH (len:=arcs.length) aBj rfl) (aG (v:=i64 0) (aH (aQ [8,9] (fun f w=>∃ V q r,aGt b c d V=some R/\aF G K (aL 70 K q r V::aL 9 K e g d::box p 35 [i64 b,i64 c,zS e d.length g,zS q V.length r]::box m 35 j::L) w) ?_ ?_))))))))))
 ·rintro f i0 ⟨V,q,r,hm,b5⟩
  unfold aGt at hm
  refine aC (aK (aD (aV (t':=3) fY rfl rfl) (aD (cJ oJ b5 (i:=2) rfl rfl rfl) ?_)));obtain ⟨b6,e9,hm⟩:=aB hm
  refine aR (vs:=[zS q V.length r,Value.func (.func 76) #[] #[]]) call100 rfl (lib_SortEdge b5 e9) ?_
  rintro _ f0 ⟨rfl,f1,f2⟩
  have i1:aF G K (aL 70 K q r b6::aL 9 K e g d::box p 35 [i64 b,i64 c,zS e d.length g,zS q b6.length r]::box m 35 j::L) f0:=by rw [←f1];exact f2
  exact aP
 have i2:=aF.nil (α:=Edge) e8 70 K
 obtain ⟨i3,f3,ho⟩:=aB hm
 refine cC [8,9,25,26] f3 (fun u b8 f w=>∃ x y,f 27=i64 b8/\aF G K (aL 70 K x y u::aL 9 K e g d::box p 35 [i64 b,i64 c,zS e d.length g,zS x u.length y]::box m 35 j::L) w) aP ?_
 ·rintro u b8 i4 f i5 hm hr ⟨x,y,b9,c0⟩
  unfold aBW at hm
  refine aK (aD (cU b9 rfl) (aH (aM ?_)))
  rcases aN hm with ⟨c1,hm⟩|⟨c1,hm⟩
  ·refine aS c1 rfl (aY (aC (aM (cV (aK ?_)))));obtain ⟨a,c3,hm⟩:=aB hm
   refine aD (dP aBj rfl h6 rfl rfl b9 c3) ?_;obtain ⟨i6,f4,f5⟩:=bG.el (sz:=3) rfl h6 c3
   cases f5
   refine aD (fP (t:=0) (vs:=[i64 a.from_,str a.label,i64 a.to_]) ag_132 c0 f4 rfl rfl rfl) (aZ (vs:=[i64 0,str ([]:aI),i64 0]) zeroValue132 c0 rfl (fun f6 i7 f7=>(bS (i:=0) (ns:=[i64 a.from_,str a.label,i64 a.to_]) (us:=[i64 a.from_,str a.label,i64 a.to_]) sizeOf132 f7 rfl rfl rfl rfl rfl (dQ rfl) rfl rfl (fun f8 (f9:aF G K (box f6 132 [i64 a.from_,str a.label,i64 a.to_]::aL 70 K x y u::aL 9 K e g d::box p 35 [i64 b,i64 c,zS e d.length g,zS x u.length y]::box m 35 j::L) f8)=>(aH ?_)))))
   obtain ⟨i8,a3,a5,g0,i9⟩:=aF.lendBp f9 .head
   obtain ⟨a6,z,c4,c6,g1⟩:=aF.lendBp g0 zt2
   refine cW (C:=fun w'=>∃ L',aF G a6 L' w') [(0,0),(1,0),(2,0),(3,0),(4,0),(5,0),(6,0),(7,0),(9,0),(10,0),(8,1),(11,0),(12,1),(13,1),(14,0),(15,2)] Tryz_mixed (by kernel_rfl) (fun _ hg=>⟨_,aF.mono c6 hg⟩) (fun j0 g2=>?_)
   have n:=aF.mono c6 g2
   refine bA rfl (fun _ _=>aV (t':=3) fY rfl rfl) (bA rfl (fun _ ⟨_,n⟩=>bD (t:=3) oJ n c4 rfl rfl) (bA rfl (fun _ _=>aV (t':=0) aOk rfl rfl) (bA rfl (fun _ ⟨_,n⟩=>bD (t:=0) dC n (a5.mono z) rfl rfl) (bA rfl (fun _ _=>aV (t':=2) oE rfl rfl) (bA rfl (fun _ ⟨_,n⟩=>bD (t:=2) xV n c4 rfl rfl) (bA rfl (fun _ _=>aV (t':=1) aOl rfl rfl) (bA rfl (fun _ ⟨_,n⟩=>bD (t:=1) aAq n (a5.mono z) rfl rfl) (bA rfl (fun _ _=>aV (t':=2) aOm rfl rfl) (bA rfl (fun _ ⟨_,n⟩=>bD (t:=2) dC n (a5.mono z) rfl rfl) (jN rfl ?_))))))))))
   obtain ⟨j1,j2,g3,g4,g5⟩:=aF.lendSp n (zL a3 z) zt1
   obtain ⟨J,g6,hm⟩:=aB hm
   refine aR (vs:=[zS e d.length g,str a.label]) call102 rfl (oD g6 g4 g3) ?_
   rintro _ j3 ⟨rfl,g7⟩
   have c7:=g5 _ _ g7
   refine aT (aC ⟨⟨_,c7⟩,?_⟩)
   refine bA rfl (fun _ _=>iR (vs:=[(0,i64 a.from_),(1,i64 J),(2,i64 a.to_)]) (cs:=[i64 a.from_,i64 J,i64 a.to_]) aJC rfl (by kernel_rfl)) (jN rfl (cK (Kt:=K) (xs:=([⟨a.from_,J,a.to_⟩]:List Edge)) (cs:=[i64 a.from_,i64 J,i64 a.to_]) (vs:=[(0,zA #[i64 a.from_,i64 J,i64 a.to_])]) cS sM rfl rfl c7 rfl (by kernel_rfl) rfl rfl rfl ⟨rfl,trivial⟩ (fun g8 g9 (c8:aF G a6 (aL 70 K g8 1 ([⟨a.from_,J,a.to_⟩]:List Edge)::aL 9 K e g d::aL 70 K x y u::box m 35 j::L) g9)=>(aT (aC ⟨⟨_,c8⟩,?_⟩)))))
   refine jN rfl ?_;obtain ⟨h0,h1,hm⟩:=aB hm
   refine nE (i:=1) cS underlying33 sM rfl rfl c8 rfl (zL a3 z) (zL a3 z) h1 rfl rfl rfl rfl (fun _ h=>h) (fun h2 h4 h5 (c9:aF G a6 (aL 9 K e g d::aL 70 K h2 h4 h0::box m 35 j::L) h5)=>(aT (aC ⟨⟨_,c9⟩,?_⟩)))
   refine bA rfl (fun _ _=>aV (t':=3) fY rfl rfl) ?_
   have j4:=g1 _ _ c9
   exact aP
  ·exact aP
theorem aCp {arcs:(List fX)} {R:(List aI)} (hm:aDx arcs=some R) (j:aF G K (L) w) (m:bG K a1 c2 arcs):
  Calls prog 87 ([zS a1 arcs.length c2]:List Value).toArray w (eZ fun v w'=>∃ b c,v=zS b R.length c/\aF G K (aL 9 K b c R::L) w'):=by
 refine aO func87 rfl (by kernel_rfl) (by show (1:Nat)<=19;decide) ?_;unfold aDx at hm
 refine aK (aJ (v:=zS none 0 0) (aH (aK (aJ (v:=zS none 0 0) (aH (aM (aK (aG (v:=zS a1 arcs.length c2) (aD (bH (len:=arcs.length) aBj rfl) (aG (v:=i64 0) (aH (aQ [] (fun f w=>∃ a d e,aHs a=some R/\f 3=zS d a.length e/\aF G K (aL 9 K d e a::L) w) aP ?_))))))))))))
 have n:=aF.nil (α:=aI) j 9 K
 obtain ⟨o,k,ho⟩:=aB hm
 exact cC [6,7] k (fun g l f w=>∃ h i,f 3=zS h g.length i/\f 8=i64 l/\aF G K (aL 9 K h i g::L) w) aP aP
theorem wJ {s_:(List Int)} {R:aI} (hm:pT s_=some R) (a:aF G K (L) w) (b:G.lo=0) (c:bG K a1 c2 s_):
  Calls prog 46 ([zS a1 s_.length c2]:List Value).toArray w (eZ fun v w'=>v=str R/\aF G K (L) w'):=by
 exact aP
theorem yK {m:cF} {p:aI} {d:Nat} {c:aI} {e:Nat} {R:Bool} (hm:rQ m p c=some R) (l:aF G K (L) w) (h:fV K a1 d [str p]) (j:fV K a4 e [str c]):
  Calls prog 172 ([zA #[str m.Left,str m.Right,str m.Result],cR a1 d,cR a4 e]:List Value).toArray w (eZ fun v w'=>v=zB R/\aF G K (L) w'):=by
 refine aO func172 rfl (by kernel_rfl) (by show (3:Nat)<=19;decide) ?_;unfold rQ at hm
 refine aK (dJ (v:=zA #[str m.Left,str m.Right,str m.Result]) (vs:=[str m.Left,str m.Right,str m.Result]) l rfl rfl (fun n o b=>(aJ (v:=zB false) (aH (aM (cH [] (fun f w=>∃ k,oF k=some R/\f 4=zB k/\aF G K (L) w) aP (aU (aD (aV (t':=0) aKd rfl rfl) (aD (cJ aAq b (i:=0) rfl rfl rfl) (aD (bD (t:=0) aAq b h rfl rfl) (aD (bD (t:=0) aAq b j rfl rfl) (aD (R_minS rfl rfl) (aD (aFR rfl rfl) (aG (v:=zB (m.Left == (mnS p c))) ?_))))))))))))))
 rcases aN hm with ⟨a,hm⟩|⟨a,hm⟩
 ·exact eQ a rfl rfl (aD (aV (t':=1) aKe rfl rfl) (eQ a rfl rfl (aD (cJ aAq b (i:=0) rfl rfl rfl) (eQ a rfl rfl (aD (bD (t:=0) aAq b h rfl rfl) (eQ a rfl rfl (aD (bD (t:=0) aAq b j rfl rfl) (eQ a rfl rfl (aD (R_maxS rfl rfl) (eQ a rfl rfl (aD (aFR rfl rfl) (aD (gR (v:=zB (m.Right == (mxS p c))) a rfl rfl) (aJ (v:=zB (m.Right == (mxS p c))) (aH ⟨bL,m.Right == (mxS p c),hm,rfl,(aF.arr 1 [] b rfl)⟩))))))))))))))
 ·exact aP
theorem iE {s_:(List cF)} {e:aI} {b:Nat} {g:aI} {c:Nat} {R:Int} (hm:cM s_ e g=some R) (u:aF G K (L) w) (h:bG K a1 c2 s_) (m:fV K a4 b [str e]) (n:fV K a7 c [str g]):
  Calls prog 114 ([zS a1 s_.length c2,Value.func (.func 172) #[] #[cR a4 b,cR a7 c]]:List Value).toArray w (eZ fun v w'=>v=i64 R/\aF G K (L) w'):=by
 refine aO func114 rfl (by kernel_rfl) (by show (2:Nat)<=19;decide) ?_;unfold cM at hm
 refine aK (aJ (v:=i64 0) (aH (aM (aK (aG (v:=zS a1 s_.length c2) (aD (bH (len:=s_.length) aGc rfl) (aG (v:=i64 0) (aH (aQ [] (fun f w=>iN=some R/\aF G K (L) w) aP ?_)))))))));obtain ⟨x,o,ho⟩:=aB hm
 refine fK [0,1,7] o (fun d f w=>f 8=i64 d/\aF G K (L) w) aP ?_
 ·rintro d y f z hm hr ⟨i,j⟩
  unfold cE at hm
  refine aK (aD (cU i rfl) (aH (aM ?_)))
  rcases aN hm with ⟨k,hm⟩|⟨k,hm⟩
  ·refine aS k rfl (aY (aC (aM (cV (aK (bC i (aJ (v:=i64 d) (aH (aK (aG (v:=Value.func (.func 172) #[] #[cR a4 b,cR a7 c]) (aG (v:=zS a1 s_.length c2) (aG (v:=i64 d) ?_))))))))))));obtain ⟨a,l,hm⟩:=aB hm
   refine aD (dP aGc rfl h rfl rfl rfl l) ?_;obtain ⟨J,p,q⟩:=bG.el (sz:=3) rfl h l
   cases q
   refine aD (fP (t:=0) (vs:=[str a.Left,str a.Right,str a.Result]) ag_67 j p rfl rfl rfl) ?_;obtain ⟨V,r,hm⟩:=aB hm
   exact iS (vs:=[zA #[str a.Left,str a.Right,str a.Result]]) (caps:=[cR a4 b,cR a7 c]) (us:=[zA #[str a.Left,str a.Right,str a.Result],cR a4 b,cR a7 c]) rfl call172 rfl rfl (yK r j m n) aP
  ·exact aP
theorem aBc {s_:aMX} {a b:aI} {R:(aI × Bool)} (hm:xD s_ a b=some R) (h:aF G K (L) w) (t:bG K a1 c2 s_.Definitions) (u:bG K a4 c5 s_.Components) (j:bG K a7 c8 s_.Meetings) (x:bG K a10 c11 s_.Allowed) (y:bG K a13 c14 s_.Hidden):
  Calls prog 127 ([zA #[zS a1 s_.Definitions.length c2,zS a4 s_.Components.length c5,zS a7 s_.Meetings.length c8,zS a10 s_.Allowed.length c11,zS a13 s_.Hidden.length c14],str a,str b]:List Value).toArray w (eZ fun v w'=>v=zT #[str R.1,zB R.2]/\aF G K (L) w'):=by
 refine aO func127 rfl (by kernel_rfl) (by show (3:Nat)<=21;decide) ?_;unfold xD at hm
 refine aK (dJ (v:=zA #[zS a1 s_.Definitions.length c2,zS a4 s_.Components.length c5,zS a7 s_.Meetings.length c8,zS a10 s_.Allowed.length c11,zS a13 s_.Hidden.length c14]) (vs:=[zS a1 s_.Definitions.length c2,zS a4 s_.Components.length c5,zS a7 s_.Meetings.length c8,zS a10 s_.Allowed.length c11,zS a13 s_.Hidden.length c14]) h rfl rfl (fun z J k=>(dJ (v:=str a) (vs:=[str a]) k rfl rfl (fun c V l=>(dJ (v:=str b) (vs:=[str b]) l rfl rfl (fun d a0 e=>(aJ (v:=str ([]:aI)) (aJ (v:=zB false) (aH (aK (aD (aV (t':=2) aOn rfl rfl) (aD (cJ aMf e (i:=2) rfl rfl rfl) (aD (jZ (vs:=[zP (some ⟨c,0,none⟩),zP (some ⟨d,0,none⟩)]) rfl) ?_)))))))))))))
 obtain ⟨a2,m,n,o,a3⟩:=aF.lendBp e zt1
 obtain ⟨a5,g,p,q,a6⟩:=aF.lendBp o .head
 obtain ⟨a8,r,hm⟩:=aB hm
 exact aR (vs:=[zS a7 s_.Meetings.length c8,Value.func (.func 172) #[] #[cR (some ⟨c,0,none⟩) 0,cR (some ⟨d,0,none⟩) 0]]) call114 rfl (iE r q (j.mono (zL m g)) (n.mono g) p) aP
theorem xM {n:aX} {a b:aI} {R:(aI × Bool)} (hm:mZ n a b=some R) (p:aF G K (L) w) (j:G.lo=0) (z:bG K a1 c2 n.Parts) (q:bG K a4 c5 n.Meetings) (J:bG K a7 c8 n.Allowed) (V:bG K a10 c11 n.Hidden):
  Calls prog 93 ([zA #[zS a1 n.Parts.length c2,zS a4 n.Meetings.length c5,zS a7 n.Allowed.length c8,zS a10 n.Hidden.length c11],str a,str b]:List Value).toArray w (eZ fun v w'=>v=zT #[str R.1,zB R.2]/\aF G K (L) w'):=by
 refine aO func93 rfl (by kernel_rfl) (by show (3:Nat)<=50;decide) ?_;unfold mZ at hm
 refine aK (dJ (v:=zA #[zS a1 n.Parts.length c2,zS a4 n.Meetings.length c5,zS a7 n.Allowed.length c8,zS a10 n.Hidden.length c11]) (vs:=[zS a1 n.Parts.length c2,zS a4 n.Meetings.length c5,zS a7 n.Allowed.length c8,zS a10 n.Hidden.length c11]) p rfl rfl (fun a0 a2 r=>(aJ (v:=str ([]:aI)) (aJ (v:=zB false) (aH (aK (aG (v:=str a) ?_)))))));obtain ⟨c,t,hm⟩:=aB hm
 refine aR (vs:=[str a]) call101 rfl (aBr t r j) ?_
 rintro _ a3 ⟨g,h,rfl,u⟩
 refine aG (v:=zT #[str c.1,zS g c.2.1.length h,zB c.2.2]) (aD (bV rfl rfl) (aD (bV rfl rfl) (aD (bV rfl rfl) (aJ (v:=str c.1) (aJ (v:=zS g c.2.1.length h) (aJ (v:=zB c.2.2) (aH (aK (aG (v:=str b) ?_)))))))));obtain ⟨d,x,hm⟩:=aB hm
 refine aR (vs:=[str b]) call101 rfl (aBr x u j) ?_
 rintro _ a5 ⟨k,l,rfl,m⟩
 refine aG (v:=zT #[str d.1,zS k d.2.1.length l,zB d.2.2]) (aD (bV rfl rfl) (aD (bV rfl rfl) (aD (bV rfl rfl) (aJ (v:=str d.1) (aJ (v:=zS k d.2.1.length l) (aJ (v:=zB d.2.2) (aH (aK (aD (aV (t':=1) aIs rfl rfl) (aD (cJ aMf m (i:=2) rfl rfl rfl) (aD (iR (vs:=[(2,zS a4 n.Meetings.length c5)]) (cs:=[zS none 0 0,zS none 0 0,zS a4 n.Meetings.length c5,zS none 0 0,zS none 0 0]) bs_178 rfl (by kernel_rfl)) (aG (v:=str c.1) (aG (v:=str d.1) ?_)))))))))))))
 obtain ⟨e,y,hm⟩:=aB hm
 have hcl:=aBc (s_:=⟨[],[],n.Meetings,[],[]⟩) y m (aCF (α:=Definition) _) (aCF (α:=aIY) _) q (aCF (α:=aI) _) (aCF (α:=aI) _)
 refine aR (vs:=[zA #[zS none 0 0,zS none 0 0,zS a4 n.Meetings.length c5,zS none 0 0,zS none 0 0],str c.1,str d.1]) call127 rfl hcl ?_
 rintro _ a6 ⟨rfl,a8⟩
 exact aG (v:=zT #[str e.1,zB e.2]) (aD (bV rfl rfl) (aD (bV rfl rfl) (aJ (v:=str e.1) (aJ (v:=zB e.2) (aH (aM (aM (cH [9,14] (fun f w=>∃ o,nL c e o=some R/\f 44=zB o/\aF G K (aL 2 K g h c.2.1::L) w) aP aP))))))))
theorem aJe {s_ R:aI} (hm:wA s_=some R) (a:aF G K (L) w) (b:G.lo=0):
  Calls prog 56 ([str s_]:List Value).toArray w (eZ fun v w'=>v=str R/\aF G K (L) w'):=by
 exact aP
theorem vH {s_:(List aI)} {a:aI} {R:Bool} (hm:fG s_ a=some R) (b:aF G K (L) w) (c:bG K a1 c2 s_):
  Calls prog 57 ([zS a1 s_.length c2,str a]:List Value).toArray w (eZ fun v w'=>v=zB R/\aF G K (L) w'):=by
 exact aP
theorem aCd {n:aX} {a:aI} {R:(aI × Bool)} (hm:yV n a=some R) (b:aF G K (L) w) (c:G.lo=0) (d:bG K a1 c2 n.Parts) (e:bG K a4 c5 n.Meetings) (g:bG K a7 c8 n.Allowed) (h:bG K a10 c11 n.Hidden):
  Calls prog 23 ([zA #[zS a1 n.Parts.length c2,zS a4 n.Meetings.length c5,zS a7 n.Allowed.length c8,zS a10 n.Hidden.length c11],str a]:List Value).toArray w (eZ fun v w'=>v=zT #[str R.1,zB R.2]/\aF G K (L) w'):=by
 exact aP
theorem iZ {b:(List (List Int))} {e:(List (aI × Int))} {a:Nat} {c:(List fX)} {s_:(List Int)} {R:(Int × (List (List Int)) × (List (aI × Int)))} (hm:eU b e c s_=some R) (r:aF G K (aL 29 Kf a2 c3 b::rL a e::aL 132 K a5 c6 c::box b1 130 [zS a2 b.length c3,zM (some a),zS a5 c.length c6,Value.func (.func 46) #[] #[]]::L) w) (hG:G.lo=0) (a6:Hp.le Kf K) (t:bG Kf a7 c8 s_):
  Calls prog 84 ([zP (some ⟨b1,0,none⟩),zS a7 s_.length c8]:List Value).toArray w (eZ fun v w'=>∃ u x,v=i64 R.1/\aF G K (aL 29 Kf u x R.2.1::rL a R.2.2::aL 132 K a5 c6 c::box b1 130 [zS u R.2.1.length x,zM (some a),zS a5 c.length c6,Value.func (.func 46) #[] #[]]::L) w'):=by
 let p:=[zS a2 b.length c3,zM (some a),zS a5 c.length c6,Value.func (.func 46) #[] #[]]
 let m:=aL 132 K a5 c6 c
 refine aO func84 rfl (by kernel_rfl) (by show (2:Nat)<=47;decide) ?_;unfold eU at hm
 refine aK (aJ (v:=i64 0) (aH (aK (aG (v:=zP (some ⟨b1,0,none⟩)) (aD (sW rfl) (aD (aV (t':=3) aOo rfl rfl) (aD (cJ sc_89 r (i:=3) rfl rfl rfl) (aG (v:=zS a7 s_.length c8) ?_))))))));obtain ⟨d,a8,hm⟩:=aB hm
 refine iS (vs:=[zS a7 s_.length c8]) (caps:=[]) (us:=[zS a7 s_.length c8]) rfl call46 rfl rfl (wJ a8 r hG (t.mono a6)) ?_
 rintro _ c0 ⟨rfl,n⟩
 refine aJ (v:=str d) (aH (aK (aG (v:=zP (some ⟨b1,0,none⟩)) (aD (sW rfl) (aD (aV (t':=1) aKH rfl rfl) (aD (cJ sc_127 n (i:=3) rfl rfl rfl) (aG (v:=str d) (aD (R_look (kv:=e) (k:=d) (z:=(0:Int)) runUnderlying127 ko_9 zeroValue2 n (i:=1) rfl rfl rfl) (aG (v:=zT #[i64 ((xT e d).getD 0),zB ((xT e d).isSome)]) (aD (bV rfl rfl) (aD (bV rfl rfl) (aJ (v:=i64 ((xT e d).getD 0)) (aJ (v:=zB ((xT e d).isSome)) (aH (mB [] (fun f w=>∃ y q J V a0,mL y q J=some R/\f 6=i64 y/\aF G K (aL 29 Kf V a0 q::rL a J::m::box b1 130 [zS V q.length a0,zM (some a),zS a5 c.length c6,Value.func (.func 46) #[] #[]]::L) w) aP (aK (aG (v:=zB ((xT e d).isSome)) (aD (aFA rfl) (aH ?_)))))))))))))))))))
 rcases aN hm with ⟨a1,hm⟩|⟨a1,hm⟩
 ·refine aS a1 rfl (aK (aG (v:=zP (some ⟨b1,0,none⟩)) (aD (sW rfl) (aD (aV (t':=0) aBJ rfl rfl) (aD (cJ aHj n (i:=3) rfl rfl rfl) (aD (bH (len:=b.length) nW rfl) (aJ (v:=i64 (b.length:Int)) (aH (aK (aG (v:=zP (some ⟨b1,0,none⟩)) (aD (sW rfl) (aD (aV (t':=1) aKH rfl rfl) (aD (cJ sc_127 n (i:=3) rfl rfl rfl) (aG (v:=str d) (aG (v:=i64 (b.length:Int)) ?_)))))))))))))));obtain ⟨o,a9,hm⟩:=aB hm
  refine aOe (i:=1) (k:=d) (v:=(b.length:Int)) runUnderlying127 ko_9 n rfl rfl rfl rfl a9 (fun b0 (a3:aF G K (aL 29 Kf a2 c3 b::rL a o::m::box b1 130 p::L) b0)=>(aH (aU (aG (v:=zP (some ⟨b1,0,none⟩)) (aG (v:=zP (some ⟨b1,0,none⟩)) (aD (sW rfl) (aD (aV (t':=0) aBJ rfl rfl) (aD (cJ aHj a3 (i:=3) rfl rfl rfl) (aG (v:=zS a7 s_.length c8) (cK (Kt:=Kf) (xs:=([s_]:List (List Int))) (cs:=[zS a7 s_.length c8]) (vs:=[(0,zS a7 s_.length c8)]) nW aDk rfl rfl a3 rfl (by kernel_rfl) rfl rfl rfl ⟨⟨a7,c8,rfl,t⟩,trivial⟩ (fun b2 b3 (b4:aF G K (aL 29 Kf b2 1 ([s_]:List (List Int))::aL 29 Kf a2 c3 b::rL a o::m::box b1 130 p::L) b3)=>?_)))))))))))
  obtain ⟨g,b5,hm⟩:=aB hm
  exact aFe (i:=0) Kf nW underlying39 aDk rfl rfl b4 rfl (Hp.le_refl _) (Hp.le_refl _) b5 rfl rfl rfl rfl (fun _ _ _ h=>El.one h) (fun j l b6 (b7:aF G K (aL 29 Kf j l g::rL a o::m::box b1 130 p::L) b6)=>(aD (sW rfl) (aD (aV (t':=0) aBJ rfl rfl) (bS (i:=3) (ns:=[zS j g.length l]) (us:=[zS j g.length l,zM (some a),zS a5 c.length c6,Value.func (.func 46) #[] #[]]) sizeOf39 b7 rfl rfl rfl rfl rfl (dQ rfl) rfl rfl (fun b8 (b9:aF G K (aL 29 Kf j l g::rL a o::m::box b1 130 [zS j g.length l,zM (some a),zS a5 c.length c6,Value.func (.func 46) #[] #[]]::L) b8)=>(aH ⟨bL,(b.length:Int),g,o,j,l,hm,rfl,b9⟩))))))
 ·exact aP
theorem sK {i k:Int} {p:(List Int)} {e:Nat} {R:(List Int)} (hm:mM i k p=some R) (g:aF G K (L) w) (r:fV K a1 e [zS a4 p.length c5]) (u:bG K a4 c5 p):
  Calls prog 90 ([i64 i,i64 k,cR a1 e]:List Value).toArray w (eZ fun v w'=>∃ j l,v=zS j R.length l/\aF G K (aL 2 K j l R::L) w'):=by
 refine aO func90 rfl (by kernel_rfl) (by show (3:Nat)<=14;decide) ?_;unfold mM at hm
 refine aK (aJ (v:=zS none 0 0) (aH (aK (aD (bD (t:=0) aAs g r rfl rfl) ?_))));obtain ⟨m,x,hm⟩:=aB hm
 refine aR (vs:=[zS a4 p.length c5]) call91 rfl (iB x g u) ?_
 rintro _ a0 ⟨a,b,rfl,o⟩
 refine aJ (v:=zS a m.length b) (aH (aK (aG (v:=zS a m.length b) (aG (v:=i64 i) (aG (v:=i64 k) ?_)))));obtain ⟨a2,c,hm⟩:=aB hm
 have y:=dU o (i:=0) rfl c
 refine aD (fL bJ rfl y rfl rfl rfl c) ?_;obtain ⟨d,q,hm⟩:=aB hm
 refine nO (i:=0) (t:=0) (ns:=[i64 k]) (e':=(k:Int)) sizeOf2 o rfl (Hp.le_refl _) rfl rfl rfl c q rfl rfl (dQ rfl) rfl (fun cs h=>by cases h;rfl) (fun z (J:aF G K (aL 2 K a b d::L) z)=>(aH (aK (bC (v:=zS a d.length b) (Eq.trans rfl (congrArg (fun n=>zS a n b) (jG q))) (aJ (v:=zS a d.length b) (aH ?_))))));obtain rfl:=zI hm
 exact fU (eE results90 rfl ⟨a,b,rfl,J⟩)
theorem vF {d:aI} {u:(List Int)} {b0:(List (List Int))} {b8:(List (aI × Int))} {b:Nat} {l:(List fX)} {p:Int} {b9:Nat} {R:((List (List Int)) × (List (aI × Int)) × (List fX))} (hm:oG d u b0 b8 l p=some R) (hs:aF G K (aL 29 Kf a6 c7 b0::rL b b8::aL 132 K a9 c10 l::box b5 130 [zS a6 b0.length c7,zM (some b),zS a9 l.length c10,Value.func (.func 46) #[] #[]]::box b4 126 [zP (some ⟨b5,0,none⟩)]::L) w) (hG:G.lo=0) (c1:Hp.le Kf K) (h3:bG Kf a1 c2 u) (e1:fV K a11 b9 [i64 p]):
  Calls prog 85 ([str d,zS a1 u.length c2,zP (some ⟨b4,0,none⟩),cR a11 b9]:List Value).toArray w (eZ fun v w'=>∃ c4 c5 c6 c8,v=zT #[]/\aF G K (aL 29 Kf c4 c5 R.1::rL b R.2.1::aL 132 K c6 c8 R.2.2::box b5 130 [zS c4 R.1.length c5,zM (some b),zS c6 R.2.2.length c8,Value.func (.func 46) #[] #[]]::box b4 126 [zP (some ⟨b5,0,none⟩)]::L) w'):=by
 let c9:=[zP (some ⟨b5,0,none⟩),zS a1 u.length c2]
 refine aO func85 rfl (by kernel_rfl) (by show (4:Nat)<=21;decide) ?_;unfold oG at hm
 refine cH [] (fun f w=>∃ b1 d0 b2 d1 d2 d3 d4,xL b1 d0 b2=some R/\aF G K (aL 132 K d3 d4 b2::aL 29 Kf d1 d2 b1::rL b d0::box b5 130 [zS d1 b1.length d2,zM (some b),zS d3 b2.length d4,Value.func (.func 46) #[] #[]]::box b4 126 [zP (some ⟨b5,0,none⟩)]::L) w) aP ?_;obtain ⟨m,n,b3,e2,b6⟩:=aF.lendBp hs zt4
 refine aAb (C:=fun w'=>∃ L',aF G m L' w') [] Tryz_mixed (by kernel_rfl) (fun g1 e3=>?_)
 have c:=aF.mono e2 e3
 refine jB (i:=0) rfl (by kernel_rfl) ⟨_,c⟩ (fun _ ⟨_,c⟩=>bD (t:=0) aDl c b3 rfl rfl) (jB (i:=1) rfl (by kernel_rfl) ⟨_,c⟩ (fun _ ⟨_,c⟩=>bD (t:=0) aDl c b3 rfl rfl) (jB (i:=2) rfl (by kernel_rfl) ⟨_,c⟩ (fun _ _=>sW rfl) (jB (i:=3) rfl (by kernel_rfl) ⟨_,c⟩ (fun _ _=>aV (t':=2) aDm rfl rfl) (jB (i:=5) rfl (by kernel_rfl) ⟨_,c⟩ (fun _ ⟨_,c⟩=>bD (t:=0) sc_3 c (e1.mono n) rfl rfl) (jB (i:=6) rfl (by kernel_rfl) ⟨_,c⟩ (fun _ _=>aW (v:=str d) rfl) (jB (i:=7) rfl (by kernel_rfl) ⟨_,c⟩ (fun _ ⟨_,c⟩=>bD (t:=0) aDl c b3 rfl rfl) (jB (i:=8) rfl (by kernel_rfl) ⟨_,c⟩ (fun _ _=>aW (v:=zS a1 u.length c2) rfl) (uX (i:=4) (j:=9) (by kernel_rfl) rfl rfl ?_ ?_))))))))
 ·refine aD (cJ aIZ c (i:=3) rfl rfl rfl) (aT (aC ⟨fun _=>⟨_,c⟩,?_⟩))
  refine cN (i:=9) (by kernel_rfl) rfl ?_;obtain ⟨e,e4,hm⟩:=aB hm
  refine aR (vs:=c9) call84 rfl (iZ (Kf:=Kf) e4 c hG (zL c1 n) h3) ?_
  rintro _ g2 ⟨o,q,rfl,b7⟩
  refine aT (aC ⟨fun _=>⟨_,b7⟩,?_⟩)
  refine jB (i:=10) rfl (by kernel_rfl) ⟨_,b7⟩ (fun _ _=>iR (vs:=[(0,i64 p),(1,str d),(2,i64 e.1)]) (cs:=[i64 p,str d,i64 e.1]) aNb rfl (by kernel_rfl)) (cN (i:=11) (by kernel_rfl) rfl (cK (Kt:=K) (xs:=([⟨p,d,e.1⟩]:List fX)) (cs:=[i64 p,str d,i64 e.1]) (vs:=[(0,zA #[i64 p,str d,i64 e.1])]) aBj aFh rfl rfl b7 rfl (by kernel_rfl) rfl rfl rfl ⟨rfl,trivial⟩ (fun e5 e6 (d5:aF G m (aL 132 K e5 1 ([⟨p,d,e.1⟩]:List fX)::aL 29 Kf o q e.2.1::rL b e.2.2::aL 132 K a9 c10 l::box b5 130 [zS o e.2.1.length q,zM (some b),zS a9 l.length c10,Value.func (.func 46) #[] #[]]::L) e6)=>(aT (aC ⟨fun _=>⟨_,d5⟩,?_⟩)))))
  refine cN (i:=12) (by kernel_rfl) rfl ?_;obtain ⟨x,e7,hm⟩:=aB hm
  refine nE (i:=2) aBj underlying128 aFh rfl rfl d5 rfl n n e7 rfl rfl rfl rfl (fun _ h=>h) (fun y c45 e8 (a4:aF G m (aL 29 Kf o q e.2.1::rL b e.2.2::aL 132 K y c45 x::box b5 130 [zS o e.2.1.length q,zM (some b),zS a9 l.length c10,Value.func (.func 46) #[] #[]]::L) e8)=>(aT (aC ⟨fun _=>⟨_,a4⟩,?_⟩)))
  refine jB (i:=13) rfl (by kernel_rfl) ⟨_,a4⟩ (fun _ _=>sW rfl) (jB (i:=14) rfl (by kernel_rfl) ⟨_,a4⟩ (fun _ _=>aV (t':=2) aDm rfl rfl) (cN (i:=15) (by kernel_rfl) rfl (bS (i:=3) (ns:=[zS y x.length c45]) (us:=[zS o e.2.1.length q,zM (some b),zS y x.length c45,Value.func (.func 46) #[] #[]]) sizeOf128 a4 rfl rfl rfl rfl rfl (dQ rfl) rfl rfl (fun e9 (d6:aF G m (aL 29 Kf o q e.2.1::rL b e.2.2::aL 132 K y c45 x::box b5 130 [zS o e.2.1.length q,zM (some b),zS y x.length c45,Value.func (.func 46) #[] #[]]::L) e9)=>(aT (aC ⟨fun _=>⟨_,d6⟩,?_⟩))))))
  refine lW (by kernel_rfl) ?_
  have g3:=b6 _ _ d6
  exact aP
 ·obtain ⟨a,f0,hm⟩:=aB hm
  refine aR (vs:=c9) call84 rfl (iZ (Kf:=Kf) f0 c hG (zL c1 n) h3) ?_
  rintro _ g4 ⟨g,k,rfl,r⟩
  refine aT (aC ⟨fun _=>⟨_,r⟩,?_⟩)
  refine jB (i:=10) rfl (by kernel_rfl) ⟨_,r⟩ (fun _ _=>iR (vs:=[(0,i64 p),(1,str d),(2,i64 a.1)]) (cs:=[i64 p,str d,i64 a.1]) aNb rfl (by kernel_rfl)) (uX (i:=4) (j:=11) (by kernel_rfl) rfl rfl ?_ ?_)
  ·refine aD (cJ aIZ r (i:=3) rfl rfl rfl) (aT (aC ⟨fun _=>⟨_,r⟩,?_⟩))
   refine cN (i:=11) (by kernel_rfl) rfl (cK (Kt:=K) (xs:=([⟨p,d,a.1⟩]:List fX)) (cs:=[i64 p,str d,i64 a.1]) (vs:=[(0,zA #[i64 p,str d,i64 a.1])]) aBj aFh rfl rfl r rfl (by kernel_rfl) rfl rfl rfl ⟨rfl,trivial⟩ (fun f1 f2 (d7:aF G m (aL 132 K f1 1 ([⟨p,d,a.1⟩]:List fX)::aL 29 Kf g k a.2.1::rL b a.2.2::aL 132 K a9 c10 l::box b5 130 [zS g a.2.1.length k,zM (some b),zS a9 l.length c10,Value.func (.func 46) #[] #[]]::L) f2)=>(aT (aC ⟨fun _=>⟨_,d7⟩,?_⟩))))
   refine cN (i:=12) (by kernel_rfl) rfl ?_;obtain ⟨z,f3,hm⟩:=aB hm
   refine nE (i:=2) aBj underlying128 aFh rfl rfl d7 rfl n n f3 rfl rfl rfl rfl (fun _ h=>h) (fun J V f4 (a5:aF G m (aL 29 Kf g k a.2.1::rL b a.2.2::aL 132 K J V z::box b5 130 [zS g a.2.1.length k,zM (some b),zS a9 l.length c10,Value.func (.func 46) #[] #[]]::L) f4)=>(aT (aC ⟨fun _=>⟨_,a5⟩,?_⟩)))
   refine jB (i:=13) rfl (by kernel_rfl) ⟨_,a5⟩ (fun _ _=>sW rfl) (jB (i:=14) rfl (by kernel_rfl) ⟨_,a5⟩ (fun _ _=>aV (t':=2) aDm rfl rfl) (cN (i:=15) (by kernel_rfl) rfl (bS (i:=3) (ns:=[zS J z.length V]) (us:=[zS g a.2.1.length k,zM (some b),zS J z.length V,Value.func (.func 46) #[] #[]]) sizeOf128 a5 rfl rfl rfl rfl rfl (dQ rfl) rfl rfl (fun f5 (d8:aF G m (aL 29 Kf g k a.2.1::rL b a.2.2::aL 132 K J V z::box b5 130 [zS g a.2.1.length k,zM (some b),zS J z.length V,Value.func (.func 46) #[] #[]]::L) f5)=>(aT (aC ⟨fun _=>⟨_,d8⟩,?_⟩))))))
   refine lW (by kernel_rfl) ?_
   have g5:=b6 _ _ d8
   exact aP
  ·refine cK (Kt:=K) (xs:=([⟨p,d,a.1⟩]:List fX)) (cs:=[i64 p,str d,i64 a.1]) (vs:=[(0,zA #[i64 p,str d,i64 a.1])]) aBj aFh rfl rfl r rfl (by kernel_rfl) rfl rfl rfl ⟨rfl,trivial⟩ (fun f6 f7 (a7:aF G m (aL 132 K f6 1 ([⟨p,d,a.1⟩]:List fX)::aL 29 Kf g k a.2.1::rL b a.2.2::aL 132 K a9 c10 l::box b5 130 [zS g a.2.1.length k,zM (some b),zS a9 l.length c10,Value.func (.func 46) #[] #[]]::L) f7)=>(aT (aC ⟨fun _=>⟨_,a7⟩,?_⟩)))
   refine cN (i:=4) (by kernel_rfl) rfl (aD (cJ aIZ a7 (i:=4) rfl rfl rfl) (aT (aC ⟨fun _=>⟨_,a7⟩,?_⟩)))
   refine cN (i:=12) (by kernel_rfl) rfl ?_;obtain ⟨a0,f8,hm⟩:=aB hm
   refine nE (i:=2) aBj underlying128 aFh rfl rfl a7 rfl n n f8 rfl rfl rfl rfl (fun _ h=>h) (fun a2 a3 f9 (a8:aF G m (aL 29 Kf g k a.2.1::rL b a.2.2::aL 132 K a2 a3 a0::box b5 130 [zS g a.2.1.length k,zM (some b),zS a9 l.length c10,Value.func (.func 46) #[] #[]]::L) f9)=>(aT (aC ⟨fun _=>⟨_,a8⟩,?_⟩)))
   refine jB (i:=13) rfl (by kernel_rfl) ⟨_,a8⟩ (fun _ _=>sW rfl) (jB (i:=14) rfl (by kernel_rfl) ⟨_,a8⟩ (fun _ _=>aV (t':=2) aDm rfl rfl) (cN (i:=15) (by kernel_rfl) rfl (bS (i:=3) (ns:=[zS a2 a0.length a3]) (us:=[zS g a.2.1.length k,zM (some b),zS a2 a0.length a3,Value.func (.func 46) #[] #[]]) sizeOf128 a8 rfl rfl rfl rfl rfl (dQ rfl) rfl rfl (fun g0 (d9:aF G m (aL 29 Kf g k a.2.1::rL b a.2.2::aL 132 K a2 a3 a0::box b5 130 [zS g a.2.1.length k,zM (some b),zS a2 a0.length a3,Value.func (.func 46) #[] #[]]::L) g0)=>(aT (aC ⟨fun _=>⟨_,d9⟩,?_⟩))))))
   refine lW (by kernel_rfl) ?_
   have g6:=b6 _ _ d9
   exact aP
theorem nB {d:aI} {c:(List Int)} {j:Nat} {a:aX} {k:Nat} {h:(List (List Int))} {l:(List (aI × Int))} {e:Nat} {i:(List fX)} {m:Int} {g:Nat} {R:((List (List Int)) × (List (aI × Int)) × (List fX))} (hm:iM d c a h l i m=some R) (n:aF G K (aL 29 Kf a24 c25 h::rL e l::aL 132 K a27 c28 i::box b23 130 [zS a24 h.length c25,zM (some e),zS a27 i.length c28,Value.func (.func 46) #[] #[]]::box b22 126 [zP (some ⟨b23,0,none⟩)]::L) w) (o:G.lo=0) (z:Hp.le Kf K) (J:bG Kf a1 c2 c) (V:fV K a4 j [Value.func (.func 23) #[zA #[zS a7 a.Parts.length c8,zS a10 a.Meetings.length c11,zS a13 a.Allowed.length c14,zS a16 a.Hidden.length c17]] #[]]) (h9:bG K a7 c8 a.Parts) (a2:bG K a10 c11 a.Meetings) (a3:bG K a13 c14 a.Allowed) (a5:bG K a16 c17 a.Hidden) (a6:fV K a19 k [Value.func (.func 85) #[] #[zP (some ⟨b22,0,none⟩),cR a29 g]]) (a8:fV K a29 g [i64 m]):
  Calls prog 50 ([str d,zS a1 c.length c2,cR a4 j,cR a19 k]:List Value).toArray w (eZ fun v w'=>∃ p q r u,v=zT #[]/\aF G K (aL 29 Kf p q R.1::rL e R.2.1::aL 132 K r u R.2.2::box b23 130 [zS p R.1.length q,zM (some e),zS r R.2.2.length u,Value.func (.func 46) #[] #[]]::box b22 126 [zP (some ⟨b23,0,none⟩)]::L) w'):=by
 refine aO func50 rfl (by kernel_rfl) (by show (4:Nat)<=19;decide) ?_;unfold iM at hm
 refine aK (aD (bD (t:=0) sc_58 n V rfl rfl) (aG (v:=str d) ?_));obtain ⟨b,a9,hm⟩:=aB hm
 refine WO_callvB (bs:=[zA #[zS a7 a.Parts.length c8,zS a10 a.Meetings.length c11,zS a13 a.Allowed.length c14,zS a16 a.Hidden.length c17]]) (vs:=[str d]) (caps:=[]) (us:=[zA #[zS a7 a.Parts.length c8,zS a10 a.Meetings.length c11,zS a13 a.Allowed.length c14,zS a16 a.Hidden.length c17],str d]) rfl call23 rfl rfl (aCd a9 n o h9 a2 a3 a5) ?_
 rintro _ b1 ⟨rfl,x⟩
 refine aG (v:=zT #[str b.1,zB b.2]) (aD (bV rfl rfl) (aD (bV rfl rfl) (aJ (v:=str b.1) (aJ (v:=zB b.2) (aH (aK (aG (v:=zB b.2) (aH ?_))))))))
 rcases aN hm with ⟨y,hm⟩|⟨y,hm⟩
 ·refine aS y rfl (aU (aD (bD (t:=0) sc_90 x a6 rfl rfl) (aG (v:=str b.1) (aG (v:=zS a1 c.length c2) ?_))));obtain ⟨b2,b0,hm⟩:=aB hm
  exact iS (vs:=[str b.1,zS a1 c.length c2]) (caps:=[zP (some ⟨b22,0,none⟩),cR a29 g]) (us:=[str b.1,zS a1 c.length c2,zP (some ⟨b22,0,none⟩),cR a29 g]) rfl call85 rfl rfl (vF (Kf:=Kf) b0 x o z J a8) aP
 ·exact aP
end Gv
