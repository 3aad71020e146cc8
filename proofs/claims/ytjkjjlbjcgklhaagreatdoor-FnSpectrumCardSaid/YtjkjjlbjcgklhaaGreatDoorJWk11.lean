/- Walks, printed by program. -/
import Derived.Test.YtjkjjlbjcgklhaaGreatDoorJWk9
set_option linter.all false
namespace Gv
open Go.Value renaming slice→zS,bool→zB,pointer→zP,agg→zA,tuple→zT
open Option.some renaming inj→zI
open Gv.Hp renaming le_trans→zL,le_refl→zR
open Go Go.Proofs Go.Proofs.Tryz
set_option maxRecDepth 20000
set_option maxHeartbeats 40000000
variable {G:Env} {K:Hp} {L:List iD} {w:World} {a1 a4 a7 a10 a13 a16 a19 a22 a25 a28 a31 a34 a37 a40:Option Addr} {c2 c5 c8 c11 c17 c20 c26 c29 c35 c41:Nat}
theorem aDB {a b b7:aO} {e7:Nat} {b8:aO} {e8:Nat} {g0:(List (List Int))} {e9:Nat} {g1:(List (List Int))} {f0:Nat} {R:((List aL) × Bool)} (hm:oF a b b7 b8 g0 g1=some R) (hs:aD G K (L) w) (h3:aT K a1 c2 a.L) (h6:aT K a4 c5 a.E) (h9:aT K a7 c8 b.L) (i6:aT K a10 c11 b.E) (r3:cK K a13 e7 (zC b7 a16 c17 a19 c20)) (r4:aT K a16 c17 b7.L) (r5:aT K a19 c20 b7.E) (r6:cK K a22 e8 (zC b8 a25 c26 a28 c29)) (r7:aT K a25 c26 b8.L) (r8:aT K a28 c29 b8.E) (r9:cK K a31 e9 [zS a34 g0.length c35]) (s0:aT K a34 c35 g0) (s1:cK K a37 f0 [zS a40 g1.length c41]) (s2:aT K a40 c41 g1):
  Calls prog 53 ([zA (zCa a a1 c2 a4 c5),zA (zCa b a7 c8 a10 c11),Value.func (.func 59) #[] #[cU a13 e7,cU a22 e8,cU a31 e9,cU a37 f0]]:List Value).toArray w (dO fun v w'=>∃ K' l8 l9,v=zT #[zS l8 R.1.length l9,zB R.2]/\Hp.le K K'/\aT K' l8 l9 R.1/\aD G K' (L) w'):=by
 let m0:=(zC b a7 c8 a10 c11)
 let m1:=(zC a a1 c2 a4 c5)
 let m2:=[i64 a.I,i64 b.I,zS none 0 0]
 refine kR func53 rfl (by kernel_rfl) (by show (3:Nat)<=96;decide) ?_;unfold oF at hm
 refine bL (aCt (v:=zA (zCa a a1 c2 a4 c5)) (vs:=m1) hs rfl rfl (fun b43 s3 s4=>?_));obtain ⟨s5,p,f1,i8,_⟩:=aD.lendBp s4 .head
 replace i8:aD G s5 (L) s3:=i8
 refine aCt (v:=zA (zCa b a7 c8 a10 c11)) (vs:=m0) i8 rfl rfl (fun b50 s6 s7=>?_);obtain ⟨a6,l,f2,f3,_⟩:=aD.lendBp s7 .head
 replace f3:aD G a6 (L) s6:=f3
 refine aV (v:=zS none 0 0) (aV (v:=zB false) (bA (bL (aK (kT (k':=0+2) vW (kA rfl) (f1.mono l) rfl) (aK (cH (t:=2) aBv f3 (f1.mono l) rfl rfl) (aK (kT (k':=0+2) vW (kA rfl) f2 rfl) (aK (cH (t:=2) aBv f3 f2 rfl rfl) (cQ (Kt:=a6) (xs:=([a.L,b.L]:List (List aL))) (cs:=[zS a1 a.L.length c2,zS a7 b.L.length c8]) (vs:=[(0,zS a1 a.L.length c2),(1,zS a7 b.L.length c8)]) aND ez_24 rfl rfl f3 rfl (by kernel_rfl) rfl rfl rfl ⟨⟨a1,c2,rfl,(h3.mono (zL p l))⟩,⟨a7,c8,rfl,(h9.mono (zL p l))⟩,trivial⟩ (fun f4 s8 (s9:aD G a6 (aH 24 a6 f4 2 ([a.L,b.L]:List (List aL))::L) s8)=>?_)))))))))
 obtain ⟨K60,a46,t0,t1,t2⟩:=aD.lendSp s9 (zR _) .head
 obtain ⟨g3,t3,hm⟩:=aB hm
 refine bJ (vs:=[zS f4 ([a.L,b.L]:List (List aL)).length 2]) call63 rfl (fD t3 t1 t0) ?_
 rintro _ w69 ⟨g4,g5,rfl,t4⟩
 have t5:=t2 _ _ t4
 obtain ⟨K72,a49,t6,t7,t8⟩:=aD.lendSp t5 (zL p l) zt1
 obtain ⟨g6,t9,hm⟩:=aB hm
 have hcl:=xD t9 t7 t6 (tQ (α:=nX) _)
 refine bJ (vs:=[i64 1,i64 0,zS g4 g3.length g5,zS none 0 0]) call62 rfl hcl ?_
 rintro _ u0 ⟨m3,m4,i9,j0,rfl,u1⟩
 have m5:=t8 _ _ u1
 refine aK (aMU (v:=zS m3 g6.L.length m4) aNa rfl rfl) ?_;obtain ⟨e,m6,hm⟩:=aB hm
 have u2:=mX m5 (i:=1) rfl
 obtain ⟨n,o,m7⟩:=Cut.ex 1 m3 m4 1
 refine aK (yR dG u2 m7 rfl rfl rfl m6) ?_
 have u3:aD G a6 (aH 9 K g4 g5 g3::aH 9 K n o e::aH 61 K i9 j0 g6.E::aH 24 a6 f4 2 ([a.L,b.L]:List (List aL))::L) u0:=aD.cutP m5 (i:=1) rfl m6 m7
 refine aV (v:=zS n e.length o) (bA (bL (aGw (Int × Int) Bool u3 ?_)))
 intro m u4 (j1:aD G a6 (iR m ([]:(List ((Int × Int) × Bool)))::aH 9 K g4 g5 g3::aH 9 K n o e::aH 61 K i9 j0 g6.E::aH 24 a6 f4 2 ([a.L,b.L]:List (List aL))::L) u4)
 refine aV (v:=Value.map (some m)) (bA (bL (aK (kT (k':=0+1) aHq (kA rfl) (f1.mono l) rfl) (aK (cH (t:=1) jE j1 (f1.mono l) rfl rfl) (aK (kT (k':=0+1) aHq (kA rfl) f2 rfl) (aK (cH (t:=1) jE j1 f2 rfl rfl) (aK (dI (vs:=[(0,i64 a.I),(1,i64 b.I),(2,zS none 0 0)]) (cs:=m2) aEG rfl (by kernel_rfl)) (cQ (Kt:=a6) (xs:=([⟨a.I,b.I,[]⟩]:List aP)) (cs:=m2) (vs:=[(0,zA #[i64 a.I,i64 b.I,zS none 0 0])]) oS tT rfl rfl j1 rfl (by kernel_rfl) rfl rfl rfl ⟨⟨none,0,rfl,tQ _⟩,trivial⟩ ?_))))))))
 intro j2 u5 (u6:aD G a6 (aH 127 a6 j2 1 ([⟨a.I,b.I,[]⟩]:List aP)::iR m ([]:(List ((Int × Int) × Bool)))::aH 9 K g4 g5 g3::aH 9 K n o e::aH 61 K i9 j0 g6.E::aH 24 a6 f4 2 ([a.L,b.L]:List (List aL))::L) u5)
 refine aV (v:=zS j2 ([⟨a.I,b.I,[]⟩]:List aP).length 1) (bA (bM (aJ [] (fun f w=>∃ m8,Hp.le a6 m8/\aFb=some R/\aD G m8 (L) w) aI ?_)));obtain ⟨a50,u7,ho⟩:=aB hm
 refine aY [2,3,4,8,9] u7 (fun a8 d1 f w=>∃ b0 d2 d3,Hp.le a6 b0/\f 10=zS d2 d1.length d3/\aD G b0 (aH 127 b0 d2 d3 d1::iR m a8::aH 9 K n o e::L) w) ?_ ?_
 ·exact ⟨a6,j2,1,(zR _),rfl,(aD.arr 6 [0,1,3] u6 rfl)⟩
 ·rintro a8 d1 j3 f a51 hm hr ⟨b0,d2,d3,q,j4,j5⟩
  unfold eS at hm
  refine bM (bL (fO j4 (aK (nW (len:=d1.length) oS rfl) (aK (aNv rfl rfl) (bA ?_)))))
  rcases aG hm with ⟨m9,hm⟩|⟨m9,hm⟩
  ·refine bX m9 rfl (eJ (aF (aJ [2,3,4,8,9] (fun f w=>∃ (f5:Hp) (j6:(List ((Int × Int) × Bool))) (g7:List aP) (g8:Option Addr) (g9:Nat),Hp.le b0 f5/\uI j6 g7=some j3/\f 10=zS g8 g7.length g9/\aD G f5 (aH 127 f5 g8 g9 g7::iR m j6::aH 9 K n o e::L) w) ?_ ?_)))
   ·rintro f a52 ⟨f5,j6,g7,g8,g9,u8,hm,u9,v0⟩
    unfold uI at hm
    exact aF ⟨_,(zI hm).symm,aU,f5,g8,g9,(zL q u8),u9,v0⟩
   refine bL (fO j4 ?_);obtain ⟨c,j7,hm⟩:=aB hm
   have v1:=bY j5 (i:=0) rfl j7
   refine aK (cR oS rfl v1 rfl rfl rfl j7) ?_;obtain ⟨a53,v2,v3⟩:=own_el (sz:=3) rfl j5 (i:=0) rfl j7
   obtain ⟨b2,b3,rfl,f6⟩:=v3
   refine aK (R_ldCG (t:=0) (vs:=[i64 c.a,i64 c.b,zS b2 c.trace.length b3]) ag_127 v2 rfl rfl rfl) (gQ (vs:=[i64 0,i64 0,zS none 0 0]) zeroValue127 j5 rfl (fun v4 a54 v5=>(nV (i:=0) (ns:=[i64 c.a,i64 c.b,zS b2 c.trace.length b3]) (us:=[i64 c.a,i64 c.b,zS b2 c.trace.length b3]) sizeOf127 v5 rfl rfl rfl rfl rfl (oR rfl) rfl rfl (fun j8 (v6:aD G b0 (box v4 127 [i64 c.a,i64 c.b,zS b2 c.trace.length b3]::aH 127 b0 d2 d3 d1::iR m a8::aH 9 K n o e::L) j8)=>?_))))
   obtain ⟨b1,d,y,h0,_⟩:=aD.lendBp v6 .head
   replace h0:aD G b1 (aH 127 b0 d2 d3 d1::iR m a8::aH 9 K n o e::L) j8:=h0
   refine bA (bL (fO j4 ?_));obtain ⟨b9,n0,hm⟩:=aB hm
   have v7:=aRO h0 (i:=0) rfl
   obtain ⟨d4,d5,n1⟩:=Cut.ex 3 d2 d3 1
   refine aK (yR oS v7 n1 rfl rfl rfl n0) ?_
   have b4:aD G b1 (aH 127 b0 d4 d5 b9::iR m a8::aH 9 K n o e::L) j8:=aD.cutPE h0 (i:=0) rfl n0 n1
   refine aV (v:=zS d4 b9.length d5) (bA (bM (bM (bG [2,3,4,8,9,10,11] (fun f w=>∃ j9,iM a b b7 b8 g0 g1 e a8 c b9 j9=some j3/\f 54=zB j9/\aD G b1 (aH 127 b0 d4 d5 b9::iR m a8::aH 9 K n o e::L) w) ?_ ?_))))
   ·rintro f v8 ⟨j9,hm,n2,h1⟩
    unfold iM at hm
    refine aF ?_
    rcases aG hm with ⟨k0,hm⟩|⟨k0,hm⟩
    ·refine bX k0 n2 ?_
     have a55:aD G b1 (aH 127 b1 d4 d5 b9::iR m a8::aH 9 K n o e::L) v8:=aD.weak (i:=0) h1 rfl (fun _ h=>aH.mono d h)
     exact aI
    ·refine cD k0 n2 (eJ (aF (bL (aR (v:=Value.map (some m)) (aK (kT (k':=0+0) aEH (kA rfl) y rfl) (aK (cH (t:=0) jE h1 y rfl rfl) (aK (kT (k':=0+1) aEI (kA rfl) y rfl) (aK (cH (t:=1) jE h1 y rfl rfl) (aK (aBu (vs:=[(0,i64 c.a),(1,i64 c.b)]) (cs:=[i64 c.a,i64 c.b]) aEF aHr rfl (by kernel_rfl)) ?_)))))))));obtain ⟨x,v9,hm⟩:=aB hm
     refine aGx (i:=1) (k:=⟨c.a,c.b⟩) (v:=true) runUnderlying92 aGd h1 rfl rfl rfl rfl v9 (fun w0 (k1:aD G b1 (aH 127 b0 d4 d5 b9::iR m x::aH 9 K n o e::L) w0)=>(bA (bM (bL (aR (v:=Value.func (.func 59) #[] #[cU a13 e7,cU a22 e8,cU a31 e9,cU a37 f0]) (aK (kT (k':=0+0) aEH (kA rfl) y rfl) (aK (cH (t:=0) jE k1 y rfl rfl) (aK (kT (k':=0+1) aEI (kA rfl) y rfl) (aK (cH (t:=1) jE k1 y rfl rfl) ?_)))))))))
     obtain ⟨a56,w1,hm⟩:=aB hm
     refine gR (vs:=[i64 c.a,i64 c.b]) (caps:=[cU a13 e7,cU a22 e8,cU a31 e9,cU a37 f0]) (us:=[i64 c.a,i64 c.b,cU a13 e7,cU a22 e8,cU a31 e9,cU a37 f0]) rfl call59 rfl rfl (aDA w1 k1 (r3.mono (zL (zL (zL p l) q) d)) (r4.mono (zL (zL (zL p l) q) d)) (r5.mono (zL (zL (zL p l) q) d)) (r6.mono (zL (zL (zL p l) q) d)) (r7.mono (zL (zL (zL p l) q) d)) (r8.mono (zL (zL (zL p l) q) d)) (r9.mono (zL (zL (zL p l) q) d)) (s0.mono (zL (zL (zL p l) q) d)) (s1.mono (zL (zL (zL p l) q) d)) (s2.mono (zL (zL (zL p l) q) d))) ?_
     rintro _ w2 ⟨rfl,k2⟩
     refine bA ?_
     rcases aG hm with ⟨k3,hm⟩|⟨k3,hm⟩
     ·refine bX k3 rfl (bL (aK (kT (k':=0+2) aNE (kA rfl) y rfl) (aK (cH (t:=2) aBv k2 y rfl rfl) (aV (v:=zS b2 c.trace.length b3) (aV (v:=zB true) (bA (kQ (bO (gF (bO (bO ?_)))))))))))
      have w3:=hr _ (zI hm).symm
      subst w3
      have hm:(some (c.trace,true))=some R:=ho
      clear hr ho
      obtain rfl:=zI hm
      exact gF (bO (bO (aNu results53 rfl rfl ⟨b1,b2,b3,rfl,(zL (zL (zL p l) q) d),(f6.mono d),(aD.arr 3 [] k2 rfl)⟩)))
     ·refine cD k3 rfl (eJ (aF (bL (aR (v:=zS n e.length o) (aK (nW (len:=e.length) dG rfl) (aR (v:=i64 0) (bA (aJ [2,3,4,8,9] (fun f w=>∃ f7 f8 h2 h4,Hp.le b1 f7/\aAM x f8=some j3/\f 10=zS h2 f8.length h4/\aD G f7 (aH 127 f7 h2 h4 f8::iR m x::aH 9 K n o e::L) w) ?_ ?_))))))))
      ·rintro f a58 ⟨f7,f8,h2,h4,w5,hm,w6,w7⟩
       unfold aAM at hm
       exact oJ (aF ⟨aU,f7,x,f8,h2,h4,(zL d w5),hm,w6,w7⟩)
      have a59:aD G b1 (aH 127 b1 d4 d5 b9::iR m x::aH 9 K n o e::L) w2:=aD.weak (i:=0) k2 rfl (fun _ h=>aH.mono d h)
      obtain ⟨a60,w8,ho⟩:=aB hm
      refine aY [2,3,4,8,9,11,69,70] w8 (fun a0 h5 f w=>∃ r a2 a3,Hp.le b1 r/\f 10=zS a2 a0.length a3/\f 71=i64 h5/\aD G r (aH 127 r a2 a3 a0::iR m x::aH 9 K n o e::L) w) aI ?_
      ·rintro a0 h5 w9 f a61 hm hr ⟨r,a2,a3,u,x0,k4,k5⟩
       unfold aAO at hm
       refine bL (aK (tK k4 rfl) (bA (bM ?_)))
       rcases aG hm with ⟨n3,hm⟩|⟨n3,hm⟩
       ·refine bX n3 rfl (eJ (aF (bM (bT (bL ?_)))));obtain ⟨V,k6,hm⟩:=aB hm
        have x1:=bY k5 (i:=2) rfl k6
        refine aK (cR dG rfl x1 rfl rfl k4 k6) (aK (vV (t:=0) sc_9 k5 (i:=2) rfl k6 rfl rfl rfl) (aV (v:=str V) (bA (bG [2,3,4,8,9,11,69,70,71] (fun f w=>∃ f9 h7 h8 i0,Hp.le r f9/\aAN h5 h7=some w9/\f 10=zS h8 h7.length i0/\aD G f9 (aH 127 f9 h8 i0 h7::iR m x::aH 9 K n o e::L) w) ?_ ?_))))
        ·rintro f a62 ⟨f9,h7,h8,i0,x2,hm,x3,x4⟩
         unfold aAN at hm
         exact oJ (aF (cG (aK (tJ k4 rfl) (aR (v:=i64 (wr (h5+1))) (bA ⟨_,(zI hm).symm,aU,f9,h8,i0,(zL u x2),x3,rfl,x4⟩)))))
        refine xM (C:=fun w'=>∃ L',aD G r L' w') [] Tryz_mixed (by kernel_rfl) (fun a63 x5=>?_)
        have Z:=aD.mono k5 x5
        refine gH (i:=0) rfl (by kernel_rfl) ⟨_,Z⟩ (fun _ _=>bW x0) (gH (i:=1) rfl (by kernel_rfl) ⟨_,Z⟩ (fun _ ⟨_,Z⟩=>jR (t:=0) (vs:=m1) fF Z (f1.mono (zL (zL (zL l q) d) u)) (kA rfl) rfl rfl) (gH (i:=2) rfl (by kernel_rfl) ⟨_,Z⟩ (fun _ _=>kT (k':=0+0) aEH (kA rfl) (y.mono u) rfl) (gH (i:=3) rfl (by kernel_rfl) ⟨_,Z⟩ (fun _ ⟨_,Z⟩=>cH (t:=0) jE Z (y.mono u) rfl rfl) (gH (i:=4) rfl (by kernel_rfl) ⟨_,Z⟩ (fun _ _=>bW (v:=str V) rfl) (gH (i:=6) rfl (by kernel_rfl) ⟨_,Z⟩ (fun _ ⟨_,Z⟩=>jR (t:=0) (vs:=m0) fF Z (f2.mono (zL (zL q d) u)) (kA rfl) rfl rfl) (gH (i:=7) rfl (by kernel_rfl) ⟨_,Z⟩ (fun _ _=>kT (k':=0+1) aEI (kA rfl) (y.mono u) rfl) (gH (i:=8) rfl (by kernel_rfl) ⟨_,Z⟩ (fun _ ⟨_,Z⟩=>cH (t:=1) jE Z (y.mono u) rfl rfl) (gH (i:=9) rfl (by kernel_rfl) ⟨_,Z⟩ (fun _ _=>bW (v:=str V) rfl) (gH (i:=11) rfl (by kernel_rfl) ⟨_,Z⟩ (fun _ _=>kT (k':=0+2) aNE (kA rfl) (y.mono u) rfl) (gH (i:=12) rfl (by kernel_rfl) ⟨_,Z⟩ (fun _ ⟨_,Z⟩=>cH (t:=2) aBv Z (y.mono u) rfl rfl) (gH (i:=14) rfl (by kernel_rfl) ⟨_,Z⟩ (fun _ _=>bW (v:=str V) rfl) (nM (i:=5) (j:=15) (by kernel_rfl) rfl rfl ?_ ?_))))))))))))
        ·obtain ⟨a5,x6,hm⟩:=aB hm
         refine bJ (vs:=[zA (zCa a a1 c2 a4 c5),i64 c.a,str V]) call102 rfl (gL x6 Z (h3.mono (zL (zL (zL (zL p l) q) d) u)) (h6.mono (zL (zL (zL (zL p l) q) d) u))) ?_
         rintro _ a64 ⟨rfl,k7⟩
         refine aM (aF ⟨fun _=>⟨_,k7⟩,?_⟩)
         refine nM (i:=10) (j:=15) (by kernel_rfl) rfl rfl ?_ ?_
         ·obtain ⟨a9,x7,hm⟩:=aB hm
          refine bJ (vs:=[zA (zCa b a7 c8 a10 c11),i64 c.b,str V]) call102 rfl (gL x7 k7 (h9.mono (zL (zL (zL (zL p l) q) d) u)) (i6.mono (zL (zL (zL (zL p l) q) d) u))) ?_
          rintro _ a65 ⟨rfl,k8⟩
          refine aM (aF ⟨fun _=>⟨_,k8⟩,?_⟩)
          refine nM (i:=13) (j:=15) (by kernel_rfl) rfl rfl ?_ ?_
          ·obtain ⟨x8,x9,hm⟩:=aB hm
           refine bJ (vs:=[zS b2 c.trace.length b3]) call86 rfl (aX x9 k8 (f6.mono (zL d u))) ?_
           rintro _ a66 ⟨y0,y1,rfl,n4⟩
           refine aM (aF ⟨fun _=>⟨_,n4⟩,?_⟩)
           refine aS (i:=15) (by kernel_rfl) rfl (cQ (Kt:=K) (xs:=([V]:List aL)) (cs:=[str V]) (vs:=[(0,str V)]) dG zF rfl rfl n4 rfl (by kernel_rfl) rfl rfl rfl ⟨rfl,trivial⟩ (fun y2 y3 (n5:aD G r (aH 9 K y2 1 ([V]:List aL)::aH 9 K y0 y1 x8::aH 127 r a2 a3 a0::iR m x::aH 9 K n o e::L) y3)=>(aM (aF ⟨fun _=>⟨_,n5⟩,?_⟩))))
           refine aS (i:=16) (by kernel_rfl) rfl ?_;obtain ⟨c0,y4,hm⟩:=aB hm
           refine aAk (i:=0) dG underlying24 zF rfl rfl n5 rfl (zL (zL (zL (zL p l) q) d) u) (zL (zL (zL (zL p l) q) d) u) y4 rfl rfl rfl rfl (fun _ h=>h) (fun d6 d7 n6 (k9:aD G r (aH 9 K d6 d7 c0::aH 127 r a2 a3 a0::iR m x::aH 9 K n o e::L) n6)=>(aM (aF ⟨fun _=>⟨_,k9⟩,?_⟩)))
           refine gH (i:=17) rfl (by kernel_rfl) ⟨_,k9⟩ (fun _ _=>dI (vs:=[(0,i64 a5),(1,i64 a9),(2,zS d6 c0.length d7)]) (cs:=[i64 a5,i64 a9,zS d6 c0.length d7]) aEG rfl (by kernel_rfl)) (aS (i:=18) (by kernel_rfl) rfl ?_);obtain ⟨c1,i1,y5,l0⟩:=aD.giveSp k9 (zL (zL (zL (zL p l) q) d) u) .head
           replace l0:aD G c1 (aH 127 r a2 a3 a0::iR m x::aH 9 K n o e::L) n6:=l0
           refine cQ (Kt:=c1) (xs:=([⟨a5,a9,c0⟩]:List aP)) (cs:=[i64 a5,i64 a9,zS d6 c0.length d7]) (vs:=[(0,zA #[i64 a5,i64 a9,zS d6 c0.length d7])]) oS tT rfl rfl l0 rfl (by kernel_rfl) rfl rfl rfl ⟨⟨d6,d7,rfl,y5⟩,trivial⟩ (fun y6 y7 (n7:aD G c1 (aH 127 c1 y6 1 ([⟨a5,a9,c0⟩]:List aP)::aH 127 r a2 a3 a0::iR m x::aH 9 K n o e::L) y7)=>(aM (aF ⟨fun _=>⟨_,(aD.weakK n7 i1)⟩,?_⟩)))
           refine aS (i:=19) (by kernel_rfl) rfl ?_;obtain ⟨n8,y8,hm⟩:=aB hm
           refine aEg (i:=0) c1 oS underlying128 tT rfl rfl n7 rfl i1 (zR _) y8 rfl rfl rfl rfl (fun _ _ _ h=>El.one h) (fun n9 o0 y9 (o1:aD G c1 (aH 127 c1 n9 o0 n8::iR m x::aH 9 K n o e::L) y9)=>(aM (aF ⟨fun _=>⟨_,(aD.weakK o1 i1)⟩,?_⟩)))
           exact gH (i:=20) rfl (by kernel_rfl) ⟨_,(aD.weakK o1 i1)⟩ (fun _ _=>jY (v:=zS n9 n8.length o0) rfl) (fG (by kernel_rfl) aI)
          ·refine cQ (Kt:=K) (xs:=([V]:List aL)) (cs:=[str V]) (vs:=[(0,str V)]) dG zF rfl rfl k8 rfl (by kernel_rfl) rfl rfl rfl ⟨rfl,trivial⟩ (fun o2 z0 (o3:aD G r (aH 9 K o2 1 ([V]:List aL)::aH 127 r a2 a3 a0::iR m x::aH 9 K n o e::L) z0)=>(aM (aF ⟨fun _=>⟨_,o3⟩,?_⟩)))
           refine aS (i:=13) (by kernel_rfl) rfl ?_;obtain ⟨z1,z2,hm⟩:=aB hm
           refine bJ (vs:=[zS b2 c.trace.length b3]) call86 rfl (aX z2 o3 (f6.mono (zL d u))) ?_
           rintro _ z3 ⟨z4,z5,rfl,o4⟩
           refine aM (aF ⟨fun _=>⟨_,o4⟩,?_⟩)
           refine aS (i:=16) (by kernel_rfl) rfl ?_;obtain ⟨c3,z6,hm⟩:=aB hm
           have z7:aD G r (aH 9 K o2 1 ([V]:List aL)::aH 9 K z4 z5 z1::aH 127 r a2 a3 a0::iR m x::aH 9 K n o e::L) z3:=(aD.arr 2 [1,0] o4 rfl)
           refine aAk (i:=0) dG underlying24 zF rfl rfl z7 rfl (zL (zL (zL (zL p l) q) d) u) (zL (zL (zL (zL p l) q) d) u) z6 rfl rfl rfl rfl (fun _ h=>h) (fun d8 d9 o5 (l1:aD G r (aH 9 K d8 d9 c3::aH 127 r a2 a3 a0::iR m x::aH 9 K n o e::L) o5)=>(aM (aF ⟨fun _=>⟨_,l1⟩,?_⟩)))
           refine gH (i:=17) rfl (by kernel_rfl) ⟨_,l1⟩ (fun _ _=>dI (vs:=[(0,i64 a5),(1,i64 a9),(2,zS d8 c3.length d9)]) (cs:=[i64 a5,i64 a9,zS d8 c3.length d9]) aEG rfl (by kernel_rfl)) (aS (i:=18) (by kernel_rfl) rfl ?_);obtain ⟨c4,i2,z8,l2⟩:=aD.giveSp l1 (zL (zL (zL (zL p l) q) d) u) .head
           replace l2:aD G c4 (aH 127 r a2 a3 a0::iR m x::aH 9 K n o e::L) o5:=l2
           refine cQ (Kt:=c4) (xs:=([⟨a5,a9,c3⟩]:List aP)) (cs:=[i64 a5,i64 a9,zS d8 c3.length d9]) (vs:=[(0,zA #[i64 a5,i64 a9,zS d8 c3.length d9])]) oS tT rfl rfl l2 rfl (by kernel_rfl) rfl rfl rfl ⟨⟨d8,d9,rfl,z8⟩,trivial⟩ (fun z9 a00 (o6:aD G c4 (aH 127 c4 z9 1 ([⟨a5,a9,c3⟩]:List aP)::aH 127 r a2 a3 a0::iR m x::aH 9 K n o e::L) a00)=>(aM (aF ⟨fun _=>⟨_,(aD.weakK o6 i2)⟩,?_⟩)))
           refine aS (i:=19) (by kernel_rfl) rfl ?_;obtain ⟨o7,a01,hm⟩:=aB hm
           refine aEg (i:=0) c4 oS underlying128 tT rfl rfl o6 rfl i2 (zR _) a01 rfl rfl rfl rfl (fun _ _ _ h=>El.one h) (fun o8 o9 a02 (p0:aD G c4 (aH 127 c4 o8 o9 o7::iR m x::aH 9 K n o e::L) a02)=>(aM (aF ⟨fun _=>⟨_,(aD.weakK p0 i2)⟩,?_⟩)))
           exact gH (i:=20) rfl (by kernel_rfl) ⟨_,(aD.weakK p0 i2)⟩ (fun _ _=>jY (v:=zS o8 o7.length o9) rfl) (fG (by kernel_rfl) aI)
         ·refine cQ (Kt:=K) (xs:=([V]:List aL)) (cs:=[str V]) (vs:=[(0,str V)]) dG zF rfl rfl k7 rfl (by kernel_rfl) rfl rfl rfl ⟨rfl,trivial⟩ (fun p1 a03 (p2:aD G r (aH 9 K p1 1 ([V]:List aL)::aH 127 r a2 a3 a0::iR m x::aH 9 K n o e::L) a03)=>(aM (aF ⟨fun _=>⟨_,p2⟩,?_⟩)))
          refine aS (i:=10) (by kernel_rfl) rfl ?_;obtain ⟨e0,a04,hm⟩:=aB hm
          refine bJ (vs:=[zA (zCa b a7 c8 a10 c11),i64 c.b,str V]) call102 rfl (gL a04 p2 (h9.mono (zL (zL (zL (zL p l) q) d) u)) (i6.mono (zL (zL (zL (zL p l) q) d) u))) ?_
          rintro _ a68 ⟨rfl,p3⟩
          refine aM (aF ⟨fun _=>⟨_,p3⟩,?_⟩)
          refine aS (i:=13) (by kernel_rfl) rfl ?_;obtain ⟨a05,a06,hm⟩:=aB hm
          refine bJ (vs:=[zS b2 c.trace.length b3]) call86 rfl (aX a06 p3 (f6.mono (zL d u))) ?_
          rintro _ a07 ⟨a08,a09,rfl,p4⟩
          refine aM (aF ⟨fun _=>⟨_,p4⟩,?_⟩)
          refine aS (i:=16) (by kernel_rfl) rfl ?_;obtain ⟨c6,a11,hm⟩:=aB hm
          have a12:aD G r (aH 9 K p1 1 ([V]:List aL)::aH 9 K a08 a09 a05::aH 127 r a2 a3 a0::iR m x::aH 9 K n o e::L) a07:=(aD.arr 2 [1,0] p4 rfl)
          refine aAk (i:=0) dG underlying24 zF rfl rfl a12 rfl (zL (zL (zL (zL p l) q) d) u) (zL (zL (zL (zL p l) q) d) u) a11 rfl rfl rfl rfl (fun _ h=>h) (fun e1 e2 p5 (l3:aD G r (aH 9 K e1 e2 c6::aH 127 r a2 a3 a0::iR m x::aH 9 K n o e::L) p5)=>(aM (aF ⟨fun _=>⟨_,l3⟩,?_⟩)))
          refine gH (i:=17) rfl (by kernel_rfl) ⟨_,l3⟩ (fun _ _=>dI (vs:=[(0,i64 a5),(1,i64 e0),(2,zS e1 c6.length e2)]) (cs:=[i64 a5,i64 e0,zS e1 c6.length e2]) aEG rfl (by kernel_rfl)) (aS (i:=18) (by kernel_rfl) rfl ?_);obtain ⟨c7,i3,a14,l4⟩:=aD.giveSp l3 (zL (zL (zL (zL p l) q) d) u) .head
          replace l4:aD G c7 (aH 127 r a2 a3 a0::iR m x::aH 9 K n o e::L) p5:=l4
          refine cQ (Kt:=c7) (xs:=([⟨a5,e0,c6⟩]:List aP)) (cs:=[i64 a5,i64 e0,zS e1 c6.length e2]) (vs:=[(0,zA #[i64 a5,i64 e0,zS e1 c6.length e2])]) oS tT rfl rfl l4 rfl (by kernel_rfl) rfl rfl rfl ⟨⟨e1,e2,rfl,a14⟩,trivial⟩ (fun a15 a17 (p6:aD G c7 (aH 127 c7 a15 1 ([⟨a5,e0,c6⟩]:List aP)::aH 127 r a2 a3 a0::iR m x::aH 9 K n o e::L) a17)=>(aM (aF ⟨fun _=>⟨_,(aD.weakK p6 i3)⟩,?_⟩)))
          refine aS (i:=19) (by kernel_rfl) rfl ?_;obtain ⟨p7,a18,hm⟩:=aB hm
          refine aEg (i:=0) c7 oS underlying128 tT rfl rfl p6 rfl i3 (zR _) a18 rfl rfl rfl rfl (fun _ _ _ h=>El.one h) (fun p8 p9 a20 (q0:aD G c7 (aH 127 c7 p8 p9 p7::iR m x::aH 9 K n o e::L) a20)=>(aM (aF ⟨fun _=>⟨_,(aD.weakK q0 i3)⟩,?_⟩)))
          exact gH (i:=20) rfl (by kernel_rfl) ⟨_,(aD.weakK q0 i3)⟩ (fun _ _=>jY (v:=zS p8 p7.length p9) rfl) (fG (by kernel_rfl) aI)
        ·refine cQ (Kt:=K) (xs:=([V]:List aL)) (cs:=[str V]) (vs:=[(0,str V)]) dG zF rfl rfl Z rfl (by kernel_rfl) rfl rfl rfl ⟨rfl,trivial⟩ (fun q1 a21 (q2:aD G r (aH 9 K q1 1 ([V]:List aL)::aH 127 r a2 a3 a0::iR m x::aH 9 K n o e::L) a21)=>(aM (aF ⟨fun _=>⟨_,q2⟩,?_⟩)))
         refine aS (i:=5) (by kernel_rfl) rfl ?_;obtain ⟨e3,a23,hm⟩:=aB hm
         refine bJ (vs:=[zA (zCa a a1 c2 a4 c5),i64 c.a,str V]) call102 rfl (gL a23 q2 (h3.mono (zL (zL (zL (zL p l) q) d) u)) (h6.mono (zL (zL (zL (zL p l) q) d) u))) ?_
         rintro _ a69 ⟨rfl,q3⟩
         refine aM (aF ⟨fun _=>⟨_,q3⟩,?_⟩)
         refine aS (i:=10) (by kernel_rfl) rfl ?_;obtain ⟨e4,a24,hm⟩:=aB hm
         refine bJ (vs:=[zA (zCa b a7 c8 a10 c11),i64 c.b,str V]) call102 rfl (gL a24 q3 (h9.mono (zL (zL (zL (zL p l) q) d) u)) (i6.mono (zL (zL (zL (zL p l) q) d) u))) ?_
         rintro _ a70 ⟨rfl,q4⟩
         refine aM (aF ⟨fun _=>⟨_,q4⟩,?_⟩)
         refine aS (i:=13) (by kernel_rfl) rfl ?_;obtain ⟨a26,a27,hm⟩:=aB hm
         refine bJ (vs:=[zS b2 c.trace.length b3]) call86 rfl (aX a27 q4 (f6.mono (zL d u))) ?_
         rintro _ a29 ⟨a30,a32,rfl,q5⟩
         refine aM (aF ⟨fun _=>⟨_,q5⟩,?_⟩)
         refine aS (i:=16) (by kernel_rfl) rfl ?_;obtain ⟨c9,a33,hm⟩:=aB hm
         have a35:aD G r (aH 9 K q1 1 ([V]:List aL)::aH 9 K a30 a32 a26::aH 127 r a2 a3 a0::iR m x::aH 9 K n o e::L) a29:=(aD.arr 2 [1,0] q5 rfl)
         refine aAk (i:=0) dG underlying24 zF rfl rfl a35 rfl (zL (zL (zL (zL p l) q) d) u) (zL (zL (zL (zL p l) q) d) u) a33 rfl rfl rfl rfl (fun _ h=>h) (fun e5 e6 q6 (l5:aD G r (aH 9 K e5 e6 c9::aH 127 r a2 a3 a0::iR m x::aH 9 K n o e::L) q6)=>(aM (aF ⟨fun _=>⟨_,l5⟩,?_⟩)))
         refine gH (i:=17) rfl (by kernel_rfl) ⟨_,l5⟩ (fun _ _=>dI (vs:=[(0,i64 e3),(1,i64 e4),(2,zS e5 c9.length e6)]) (cs:=[i64 e3,i64 e4,zS e5 c9.length e6]) aEG rfl (by kernel_rfl)) (aS (i:=18) (by kernel_rfl) rfl ?_);obtain ⟨d0,i4,a36,l6⟩:=aD.giveSp l5 (zL (zL (zL (zL p l) q) d) u) .head
         replace l6:aD G d0 (aH 127 r a2 a3 a0::iR m x::aH 9 K n o e::L) q6:=l6
         refine cQ (Kt:=d0) (xs:=([⟨e3,e4,c9⟩]:List aP)) (cs:=[i64 e3,i64 e4,zS e5 c9.length e6]) (vs:=[(0,zA #[i64 e3,i64 e4,zS e5 c9.length e6])]) oS tT rfl rfl l6 rfl (by kernel_rfl) rfl rfl rfl ⟨⟨e5,e6,rfl,a36⟩,trivial⟩ (fun a38 a39 (q7:aD G d0 (aH 127 d0 a38 1 ([⟨e3,e4,c9⟩]:List aP)::aH 127 r a2 a3 a0::iR m x::aH 9 K n o e::L) a39)=>(aM (aF ⟨fun _=>⟨_,(aD.weakK q7 i4)⟩,?_⟩)))
         refine aS (i:=19) (by kernel_rfl) rfl ?_;obtain ⟨q8,a41,hm⟩:=aB hm
         refine aEg (i:=0) d0 oS underlying128 tT rfl rfl q7 rfl i4 (zR _) a41 rfl rfl rfl rfl (fun _ _ _ h=>El.one h) (fun q9 r0 a42 (r1:aD G d0 (aH 127 d0 q9 r0 q8::iR m x::aH 9 K n o e::L) a42)=>(aM (aF ⟨fun _=>⟨_,(aD.weakK r1 i4)⟩,?_⟩)))
         exact gH (i:=20) rfl (by kernel_rfl) ⟨_,(aD.weakK r1 i4)⟩ (fun _ _=>jY (v:=zS q9 q8.length r0) rfl) (fG (by kernel_rfl) aI)
       ·exact aI
   refine cG (aK (kT (k':=0+0) aEH (kA rfl) y rfl) (aK (cH (t:=0) jE b4 y rfl rfl) (aK (tK rfl rfl) (aR (v:=zB (decide (c.a < 0))) ?_))))
   rcases aG hm with ⟨b5,hm⟩|⟨b5,hm⟩
   ·refine pT b5 rfl rfl (aK (kT (k':=0+1) aEI (kA rfl) y rfl) (pT b5 rfl rfl (aK (cH (t:=1) jE b4 y rfl rfl) (pT b5 rfl rfl (aK (tK rfl rfl) (aK (dH (v:=zB (decide (c.b < 0))) b5 rfl rfl) (aR (v:=zB (decide (c.b < 0))) ?_)))))))
    rcases aG hm with ⟨b6,hm⟩|⟨b6,hm⟩
    ·exact aI
    ·exact cC b6 rfl rfl (aR (v:=Value.map (some m)) (cC b6 rfl rfl (aK (kT (k':=0+0) aEH (kA rfl) y rfl) (cC b6 rfl rfl (aK (cH (t:=0) jE b4 y rfl rfl) (cC b6 rfl rfl (aK (kT (k':=0+1) aEI (kA rfl) y rfl) (cC b6 rfl rfl (aK (cH (t:=1) jE b4 y rfl rfl) (cC b6 rfl rfl (aK (aBu (vs:=[(0,i64 c.a),(1,i64 c.b)]) (cs:=[i64 c.a,i64 c.b]) aEF aHr rfl (by kernel_rfl)) (cC b6 rfl rfl (aK (aKQ (kv:=a8) (k:=⟨c.a,c.b⟩) (z:=(false:Bool)) runUnderlying92 aGd zeroValue4 b4 (i:=1) rfl rfl rfl) (aK (dR (v:=zB ((mW a8 ⟨c.a,c.b⟩).getD false)) b6 rfl rfl) (bA ⟨aU,((mW a8 ⟨c.a,c.b⟩).getD false),hm,rfl,b4⟩)))))))))))))))
   ·exact lY b5 rfl rfl (lY b5 rfl rfl (lY b5 rfl rfl (aK (dR (v:=zB false) b5 rfl rfl) (aR (v:=zB false) (cC (by decide:¬ false=true) rfl rfl (aR (v:=Value.map (some m)) (cC (by decide:¬ false=true) rfl rfl (aK (kT (k':=0+0) aEH (kA rfl) y rfl) (cC (by decide:¬ false=true) rfl rfl (aK (cH (t:=0) jE b4 y rfl rfl) (cC (by decide:¬ false=true) rfl rfl (aK (kT (k':=0+1) aEI (kA rfl) y rfl) (cC (by decide:¬ false=true) rfl rfl (aK (cH (t:=1) jE b4 y rfl rfl) (cC (by decide:¬ false=true) rfl rfl (aK (aBu (vs:=[(0,i64 c.a),(1,i64 c.b)]) (cs:=[i64 c.a,i64 c.b]) aEF aHr rfl (by kernel_rfl)) (cC (by decide:¬ false=true) rfl rfl (aK (aKQ (kv:=a8) (k:=⟨c.a,c.b⟩) (z:=(false:Bool)) runUnderlying92 aGd zeroValue4 b4 (i:=1) rfl rfl rfl) (aK (dR (v:=zB ((mW a8 ⟨c.a,c.b⟩).getD false)) (by decide:¬ false=true) rfl rfl) (bA ⟨aU,((mW a8 ⟨c.a,c.b⟩).getD false),hm,rfl,b4⟩))))))))))))))))))))
  ·exact aI
theorem aCj {n l:aO} {R:(Bool × (List aL) × (List aL) × Bool)} (hm:lD n l=some R) (hs:aD G K (L) w) (hG:G.lo=0) (h3:aT K a1 c2 n.L) (h6:aT K a4 c5 n.E) (h9:aT K a7 c8 l.L) (d8:aT K a10 c11 l.E):
  Calls prog 27 ([zA (zCa n a1 c2 a4 c5),zA (zCa l a7 c8 a10 c11)]:List Value).toArray w (dO fun v w'=>∃ K' i0 i1 i2 i3,v=zT #[zB R.1,zS i0 R.2.1.length i1,zS i2 R.2.2.1.length i3,zB R.2.2.2]/\Hp.le K K'/\aT K' i0 i1 R.2.1/\aT K' i2 i3 R.2.2.1/\aD G K' (L) w'):=by
 let b4:=(zC l a7 c8 a10 c11)
 let b8:=(zC n a1 c2 a4 c5)
 refine kR func27 rfl (by kernel_rfl) (by show (2:Nat)<=75;decide) ?_;unfold lD at hm
 refine bL (aCt (v:=zA (zCa n a1 c2 a4 c5)) (vs:=b8) hs rfl rfl (fun c6 s7 k5=>(aCt (v:=zA (zCa l a7 c8 a10 c11)) (vs:=b4) k5 rfl rfl (fun c1 s8 i4=>(aV (v:=zB false) (aV (v:=zS none 0 0) (aV (v:=zS none 0 0) (aV (v:=zB false) (bA (bL (aK (nC (us:=b8) fF i4 (i:=1) rfl rfl rfl rfl) ?_)))))))))));obtain ⟨c,k6,hm⟩:=aB hm
 refine bJ (vs:=[zA (zCa n a1 c2 a4 c5)]) call52 rfl (lF k6 i4 hG h3 h6) ?_
 rintro _ s9 ⟨b9,a0,a2,V,Z,a8,a9,rfl,o,k7⟩
 refine aR (v:=zT #[zA (zCa c.1 a0 a2 V Z),zS a8 c.2.1.length a9,zB c.2.2]) (aK (dD rfl rfl) (aK (dD rfl rfl) (aK (dD rfl rfl) (gQ (vs:=zG) zeroValue27 k7 rfl (fun b2 t0 k8=>(gQ (vs:=[zS none 0 0]) zeroValue43 k8 rfl (fun b6 t1 k9=>(nV (i:=1) (ns:=(zC c.1 a0 a2 V Z)) (us:=(zC c.1 a0 a2 V Z)) sizeOf27 k9 rfl rfl rfl rfl rfl (oR rfl) rfl rfl (fun l0 (l1:aD G b9 (box b6 43 [zS none 0 0]::box b2 27 (zC c.1 a0 a2 V Z)::aH 9 K a0 a2 c.1.L::aH 61 K V Z c.1.E::aH 66 b9 a8 a9 c.2.1::box c1 27 b4::box c6 27 b8::L) l0)=>(nV (i:=0) (ns:=[zS a8 c.2.1.length a9]) (us:=[zS a8 c.2.1.length a9]) sizeOf43 l1 rfl rfl rfl rfl rfl (oR rfl) rfl rfl (fun l2 (i5:aD G b9 (box b6 43 [zS a8 c.2.1.length a9]::box b2 27 (zC c.1 a0 a2 V Z)::aH 9 K a0 a2 c.1.L::aH 61 K V Z c.1.E::aH 66 b9 a8 a9 c.2.1::box c1 27 b4::box c6 27 b8::L) l2)=>(aV (v:=zB c.2.2) (bA (bL (aK (nC (us:=b4) fF i5 (i:=5) rfl rfl rfl rfl) ?_)))))))))))))))
 obtain ⟨d,l3,hm⟩:=aB hm
 refine bJ (vs:=[zA (zCa l a7 c8 a10 c11)]) call52 rfl (lF l3 i5 hG (h9.mono o) (d8.mono o)) ?_
 rintro _ t2 ⟨b5,a5,a6,a3,c48,b0,b1,rfl,p,l4⟩
 refine aR (v:=zT #[zA (zCa d.1 a5 a6 a3 c48),zS b0 d.2.1.length b1,zB d.2.2]) (aK (dD rfl rfl) (aK (dD rfl rfl) (aK (dD rfl rfl) (gQ (vs:=zG) zeroValue27 l4 rfl (fun b3 t3 l5=>(gQ (vs:=[zS none 0 0]) zeroValue43 l5 rfl (fun b7 t4 l6=>(nV (i:=1) (ns:=(zC d.1 a5 a6 a3 c48)) (us:=(zC d.1 a5 a6 a3 c48)) sizeOf27 l6 rfl rfl rfl rfl rfl (oR rfl) rfl rfl (fun l7 (l8:aD G b5 (box b7 43 [zS none 0 0]::box b3 27 (zC d.1 a5 a6 a3 c48)::aH 9 K a5 a6 d.1.L::aH 61 K a3 c48 d.1.E::aH 66 b5 b0 b1 d.2.1::box b6 43 [zS a8 c.2.1.length a9]::box b2 27 (zC c.1 a0 a2 V Z)::aH 9 K a0 a2 c.1.L::aH 61 K V Z c.1.E::aH 66 b9 a8 a9 c.2.1::box c1 27 b4::box c6 27 b8::L) l7)=>(nV (i:=0) (ns:=[zS b0 d.2.1.length b1]) (us:=[zS b0 d.2.1.length b1]) sizeOf43 l8 rfl rfl rfl rfl rfl (oR rfl) rfl rfl (fun l9 (i6:aD G b5 (box b7 43 [zS b0 d.2.1.length b1]::box b3 27 (zC d.1 a5 a6 a3 c48)::aH 9 K a5 a6 d.1.L::aH 61 K a3 c48 d.1.E::aH 66 b5 b0 b1 d.2.1::box b6 43 [zS a8 c.2.1.length a9]::box b2 27 (zC c.1 a0 a2 V Z)::aH 9 K a0 a2 c.1.L::aH 61 K V Z c.1.E::aH 66 b9 a8 a9 c.2.1::box c1 27 b4::box c6 27 b8::L) l9)=>(aV (v:=zB d.2.2) (bA (bM (bM (bG [2,3,8,9,11,12] (fun f w=>∃ f4,uT n l c d f4=some R/\f 36=zB f4/\aD G b5 (box b7 43 [zS b0 d.2.1.length b1]::box b3 27 (zC d.1 a5 a6 a3 c48)::aH 9 K a5 a6 d.1.L::aH 61 K a3 c48 d.1.E::aH 66 b5 b0 b1 d.2.1::box b6 43 [zS a8 c.2.1.length a9]::box b2 27 (zC c.1 a0 a2 V Z)::aH 9 K a0 a2 c.1.L::aH 61 K V Z c.1.E::aH 66 b9 a8 a9 c.2.1::box c1 27 b4::box c6 27 b8::L) w) ?_ ?_))))))))))))))))
 ·rintro f c7 ⟨f4,hm,i7,e7⟩
  unfold uT at hm
  refine aF ?_
  rcases aG hm with ⟨f5,hm⟩|⟨f5,hm⟩
  ·refine bX f5 i7 (bL (aV (v:=zB false) (aV (v:=zS none 0 0) (aV (v:=zS none 0 0) (aV (v:=zB false) (bA ?_))))));obtain rfl:=zI hm
   exact kQ (bO (aQm results27 rfl rfl rfl rfl ⟨b5,none,0,none,0,rfl,(zL o p),tQ _,tQ _,(aD.arr 12 [] e7 rfl)⟩))
  ·refine cD f5 i7 (eJ (aF (bL (aK (nC (us:=(zC c.1 a0 a2 V Z)) fF e7 (i:=6) rfl rfl rfl rfl) (aK (nC (us:=(zC d.1 a5 a6 a3 c48)) fF e7 (i:=1) rfl rfl rfl rfl) (aK (kU (vs:=[zP (some ⟨c6,0,none⟩),zP (some ⟨c1,0,none⟩),zP (some ⟨b6,0,none⟩),zP (some ⟨b7,0,none⟩)]) rfl) ?_))))));obtain ⟨m1,r,m2,f6⟩:=aD.giveSp e7 (zL o p) zt7
   replace f6:aD G m1 (box b7 43 [zS b0 d.2.1.length b1]::box b3 27 (zC d.1 a5 a6 a3 c48)::aH 9 K a5 a6 d.1.L::aH 61 K a3 c48 d.1.E::aH 66 b5 b0 b1 d.2.1::box b6 43 [zS a8 c.2.1.length a9]::box b2 27 (zC c.1 a0 a2 V Z)::aH 61 K V Z c.1.E::aH 66 b9 a8 a9 c.2.1::box c1 27 b4::box c6 27 b8::L) c7:=f6
   obtain ⟨m3,u,m4,f7⟩:=aD.giveSp f6 (zL (zL o p) r) zt7
   replace f7:aD G m3 (box b7 43 [zS b0 d.2.1.length b1]::box b3 27 (zC d.1 a5 a6 a3 c48)::aH 9 K a5 a6 d.1.L::aH 61 K a3 c48 d.1.E::aH 66 b5 b0 b1 d.2.1::box b6 43 [zS a8 c.2.1.length a9]::box b2 27 (zC c.1 a0 a2 V Z)::aH 66 b9 a8 a9 c.2.1::box c1 27 b4::box c6 27 b8::L) c7:=f7
   obtain ⟨m5,x,m6,f8⟩:=aD.giveSp f7 (zL (zL (zL o p) r) u) zt2
   replace f8:aD G m5 (box b7 43 [zS b0 d.2.1.length b1]::box b3 27 (zC d.1 a5 a6 a3 c48)::aH 61 K a3 c48 d.1.E::aH 66 b5 b0 b1 d.2.1::box b6 43 [zS a8 c.2.1.length a9]::box b2 27 (zC c.1 a0 a2 V Z)::aH 66 b9 a8 a9 c.2.1::box c1 27 b4::box c6 27 b8::L) c7:=f8
   obtain ⟨m7,y,m8,f9⟩:=aD.giveSp f8 (zL (zL (zL (zL o p) r) u) x) zt2
   replace f9:aD G m7 (box b7 43 [zS b0 d.2.1.length b1]::box b3 27 (zC d.1 a5 a6 a3 c48)::aH 66 b5 b0 b1 d.2.1::box b6 43 [zS a8 c.2.1.length a9]::box b2 27 (zC c.1 a0 a2 V Z)::aH 66 b9 a8 a9 c.2.1::box c1 27 b4::box c6 27 b8::L) c7:=f9
   obtain ⟨m9,q,d9,g0,_⟩:=aD.lendBp f9 zt7
   replace g0:aD G m9 (box b7 43 [zS b0 d.2.1.length b1]::box b3 27 (zC d.1 a5 a6 a3 c48)::aH 66 b5 b0 b1 d.2.1::box b6 43 [zS a8 c.2.1.length a9]::box b2 27 (zC c.1 a0 a2 V Z)::aH 66 b9 a8 a9 c.2.1::box c1 27 b4::L) c7:=g0
   obtain ⟨n0,m,d6,g1,_⟩:=aD.lendBp g0 zt6
   replace g1:aD G n0 (box b7 43 [zS b0 d.2.1.length b1]::box b3 27 (zC d.1 a5 a6 a3 c48)::aH 66 b5 b0 b1 d.2.1::box b6 43 [zS a8 c.2.1.length a9]::box b2 27 (zC c.1 a0 a2 V Z)::aH 66 b9 a8 a9 c.2.1::L) c7:=g1
   obtain ⟨n1,k,n2,g2⟩:=aD.giveSp g1 (zL (zL (zL (zL (zL (zL p r) u) x) y) q) m) zt5
   replace g2:aD G n1 (box b7 43 [zS b0 d.2.1.length b1]::box b3 27 (zC d.1 a5 a6 a3 c48)::aH 66 b5 b0 b1 d.2.1::box b6 43 [zS a8 c.2.1.length a9]::box b2 27 (zC c.1 a0 a2 V Z)::L) c7:=g2
   obtain ⟨n3,h,n4,g3,_⟩:=aD.lendBp g2 zt3
   replace g3:aD G n3 (box b7 43 [zS b0 d.2.1.length b1]::box b3 27 (zC d.1 a5 a6 a3 c48)::aH 66 b5 b0 b1 d.2.1::box b2 27 (zC c.1 a0 a2 V Z)::L) c7:=g3
   obtain ⟨n5,j,n6,g4⟩:=aD.giveSp g3 (zL (zL (zL (zL (zL (zL (zL r u) x) y) q) m) k) h) zt2
   replace g4:aD G n5 (box b7 43 [zS b0 d.2.1.length b1]::box b3 27 (zC d.1 a5 a6 a3 c48)::box b2 27 (zC c.1 a0 a2 V Z)::L) c7:=g4
   obtain ⟨n7,e,n8,g5,_⟩:=aD.lendBp g4 .head
   replace g5:aD G n7 (box b3 27 (zC d.1 a5 a6 a3 c48)::box b2 27 (zC c.1 a0 a2 V Z)::L) c7:=g5
   obtain ⟨c0,n9,hm⟩:=aB hm
   refine bJ (vs:=[zA (zCa c.1 a0 a2 V Z),zA (zCa d.1 a5 a6 a3 c48),Value.func (.func 59) #[] #[cU (some ⟨c6,0,none⟩) 0,cU (some ⟨c1,0,none⟩) 0,cU (some ⟨b6,0,none⟩) 0,cU (some ⟨b7,0,none⟩) 0]]) call53 rfl (aDB (a:=⟨c.1.N,c.1.I,c.1.L,c.1.E⟩) (b:=⟨d.1.N,d.1.I,d.1.L,d.1.E⟩) n9 g5 (m2.mono (zL (zL (zL (zL (zL (zL (zL (zL u x) y) q) m) k) h) j) e)) (m4.mono (zL (zL (zL (zL (zL (zL (zL x y) q) m) k) h) j) e)) (m6.mono (zL (zL (zL (zL (zL (zL y q) m) k) h) j) e)) (m8.mono (zL (zL (zL (zL (zL q m) k) h) j) e)) (d9.mono (zL (zL (zL (zL m k) h) j) e)) (h3.mono (zL (zL (zL (zL (zL (zL (zL (zL (zL (zL (zL o p) r) u) x) y) q) m) k) h) j) e)) (h6.mono (zL (zL (zL (zL (zL (zL (zL (zL (zL (zL (zL o p) r) u) x) y) q) m) k) h) j) e)) (d6.mono (zL (zL (zL k h) j) e)) (h9.mono (zL (zL (zL (zL (zL (zL (zL (zL (zL (zL (zL o p) r) u) x) y) q) m) k) h) j) e)) (d8.mono (zL (zL (zL (zL (zL (zL (zL (zL (zL (zL (zL o p) r) u) x) y) q) m) k) h) j) e)) (n4.mono (zL j e)) (n2.mono (zL (zL h j) e)) n8 (n6.mono e)) ?_
   rintro _ t5 ⟨c9,c3,c4,rfl,z,e8,g6⟩
   refine aR (v:=zT #[zS c3 c0.1.length c4,zB c0.2]) (aK (dD rfl rfl) (aK (dD rfl rfl) (aV (v:=zS c3 c0.1.length c4) (aV (v:=zB c0.2) (bA (bM (bL (aR (v:=zB c0.2) (aK (aGt rfl) (bA ?_))))))))))
   rcases aG hm with ⟨g7,hm⟩|⟨g7,hm⟩
   ·refine bX g7 rfl (bL (aV (v:=zB true) (aV (v:=zS none 0 0) (aV (v:=zS none 0 0) (aV (v:=zB true) (bA ?_))))));obtain rfl:=zI hm
    exact kQ (bO (aQm results27 rfl rfl rfl rfl ⟨c9,none,0,none,0,rfl,(zL (zL (zL (zL (zL (zL (zL (zL (zL (zL (zL (zL o p) r) u) x) y) q) m) k) h) j) e) z),tQ _,tQ _,(aD.arr 2 [] g6 rfl)⟩))
   ·refine cD g7 rfl (eJ (aF (bL (aK (jR (t:=0) (vs:=b8) fF g6 (d9.mono (zL (zL (zL (zL (zL m k) h) j) e) z)) (kA rfl) rfl rfl) (aR (v:=zS c3 c0.1.length c4) ?_)))));obtain ⟨d0,o1,hm⟩:=aB hm
    refine bJ (vs:=[zA (zCa n a1 c2 a4 c5),zS c3 c0.1.length c4]) call61 rfl (aCD o1 g6 (h3.mono (zL (zL (zL (zL (zL (zL (zL (zL (zL (zL (zL (zL o p) r) u) x) y) q) m) k) h) j) e) z)) (h6.mono (zL (zL (zL (zL (zL (zL (zL (zL (zL (zL (zL (zL o p) r) u) x) y) q) m) k) h) j) e) z)) e8) ?_
    rintro _ t6 ⟨d1,d2,rfl,g8⟩
    refine aV (v:=zS d1 d0.length d2) (bA (bM (bL (aR (v:=zS d1 d0.length d2) (aK (nW (len:=d0.length) gD rfl) (aK (R_eql rfl rfl) (bA ?_)))))))
    rcases aG hm with ⟨g9,hm⟩|⟨g9,hm⟩
    ·refine bX g9 rfl (bL (aR (v:=zS c3 c0.1.length c4) (aV (v:=zB false) (aV (v:=zS c3 c0.1.length c4) (aV (v:=zS none 0 0) (aV (v:=zB true) (bA ?_)))))));obtain rfl:=zI hm
     exact kQ (bO (aQm results27 rfl rfl rfl rfl ⟨c9,c3,c4,none,0,rfl,(zL (zL (zL (zL (zL (zL (zL (zL (zL (zL (zL (zL o p) r) u) x) y) q) m) k) h) j) e) z),e8,tQ _,(aD.arr 3 [] g8 rfl)⟩))
    ·refine cD g9 rfl (eJ (aF (bM (aGu (C:=fun w'=>∃ L',aD G c9 L' w') [(0,0),(1,0),(2,0),(3,0),(4,0),(5,1),(6,1),(7,0)] Tryz_mixed (by kernel_rfl) (fun _ hg=>⟨_,aD.mono g8 hg⟩) (fun t7 o3=>?_)))))
     have d3:=aD.mono g8 o3
     refine cS rfl (fun _ ⟨_,d3⟩=>jR (t:=0) (vs:=b8) fF d3 (d9.mono (zL (zL (zL (zL (zL m k) h) j) e) z)) (kA rfl) rfl rfl) (cS rfl (fun _ ⟨_,d3⟩=>jR (t:=0) (vs:=b4) fF d3 (d6.mono (zL (zL (zL (zL k h) j) e) z)) (kA rfl) rfl rfl) (cS rfl (fun _ _=>bW (v:=zS d1 d0.length d2) rfl) (cS rfl (fun _ ⟨_,d3⟩=>jR (t:=0) (vs:=b4) fF d3 (d6.mono (zL (zL (zL (zL k h) j) e) z)) (kA rfl) rfl rfl) (cS rfl (fun _ _=>bW (v:=zS c3 c0.1.length c4) rfl) (lV rfl ?_)))))
     obtain ⟨e9,o4,hm⟩:=aB hm
     refine bJ (vs:=[zA (zCa l a7 c8 a10 c11),zS c3 c0.1.length c4]) call61 rfl (aCD o4 d3 (h9.mono (zL (zL (zL (zL (zL (zL (zL (zL (zL (zL (zL (zL o p) r) u) x) y) q) m) k) h) j) e) z)) (d8.mono (zL (zL (zL (zL (zL (zL (zL (zL (zL (zL (zL (zL o p) r) u) x) y) q) m) k) h) j) e) z)) e8) ?_
     rintro _ t8 ⟨f0,f1,rfl,i8⟩
     refine aM (aF ⟨⟨_,i8⟩,?_⟩)
     refine lV rfl ?_;obtain ⟨t9,e0,o5,o6,o7⟩:=aD.lendSp i8 (zL (zL (zL (zL (zL (zL (zL (zL (zL (zL (zL (zL o p) r) u) x) y) q) m) k) h) j) e) z) zt1
     obtain ⟨u0,e1,o8,o9,p0⟩:=aD.lendSp o6 (zL (zL (zL (zL (zL (zL (zL (zL (zL (zL (zL (zL (zL o p) r) u) x) y) q) m) k) h) j) e) z) e0) .head
     obtain ⟨h0,p1,hm⟩:=aB hm
     refine bJ (vs:=[zA (zCa n a1 c2 a4 c5),zA (zCa l a7 c8 a10 c11),zS d1 d0.length d2,zS f0 e9.length f1]) call60 rfl (aJW p1 o9 (h3.mono (zL (zL (zL (zL (zL (zL (zL (zL (zL (zL (zL (zL (zL (zL o p) r) u) x) y) q) m) k) h) j) e) z) e0) e1)) (h6.mono (zL (zL (zL (zL (zL (zL (zL (zL (zL (zL (zL (zL (zL (zL o p) r) u) x) y) q) m) k) h) j) e) z) e0) e1)) (h9.mono (zL (zL (zL (zL (zL (zL (zL (zL (zL (zL (zL (zL (zL (zL o p) r) u) x) y) q) m) k) h) j) e) z) e0) e1)) (d8.mono (zL (zL (zL (zL (zL (zL (zL (zL (zL (zL (zL (zL (zL (zL o p) r) u) x) y) q) m) k) h) j) e) z) e0) e1)) (o5.mono e1) o8) ?_
     rintro _ u1 ⟨rfl,p2⟩
     have p3:=p0 _ _ p2
     have f2:=o7 _ _ p3
     refine aM (aF ⟨⟨_,f2⟩,?_⟩)
     refine cS rfl (fun _ _=>jY (v:=i64 h0) rfl) (tS (aF (bL (aK (kT (k':=0+2) vW (kA rfl) (d9.mono (zL (zL (zL (zL (zL m k) h) j) e) z)) rfl) (aK (cH (t:=2) aBv f2 (d9.mono (zL (zL (zL (zL (zL m k) h) j) e) z)) rfl rfl) (aK (kT (k':=0+2) vW (kA rfl) (d6.mono (zL (zL (zL (zL k h) j) e) z)) rfl) (aK (cH (t:=2) aBv f2 (d6.mono (zL (zL (zL (zL k h) j) e) z)) rfl rfl) (cQ (Kt:=c9) (xs:=([n.L,l.L]:List (List aL))) (cs:=[zS a1 n.L.length c2,zS a7 l.L.length c8]) (vs:=[(0,zS a1 n.L.length c2),(1,zS a7 l.L.length c8)]) aND ez_24 rfl rfl f2 rfl (by kernel_rfl) rfl rfl rfl ⟨⟨a1,c2,rfl,(h3.mono (zL (zL (zL (zL (zL (zL (zL (zL (zL (zL (zL (zL o p) r) u) x) y) q) m) k) h) j) e) z))⟩,⟨a7,c8,rfl,(h9.mono (zL (zL (zL (zL (zL (zL (zL (zL (zL (zL (zL (zL o p) r) u) x) y) q) m) k) h) j) e) z))⟩,trivial⟩ (fun f3 p4 (p5:aD G c9 (aH 24 c9 f3 2 ([n.L,l.L]:List (List aL))::aH 2 K d1 d2 d0::aH 2 K f0 f1 e9::box b3 27 (zC d.1 a5 a6 a3 c48)::box b2 27 (zC c.1 a0 a2 V Z)::L) p4)=>?_)))))))))
     obtain ⟨u2,u3,p6,p7,p8⟩:=aD.lendSp p5 (zR _) .head
     obtain ⟨h1,p9,hm⟩:=aB hm
     refine bJ (vs:=[zS f3 ([n.L,l.L]:List (List aL)).length 2]) call63 rfl (fD p9 p7 p6) ?_
     rintro _ u4 ⟨h2,h4,rfl,q0⟩
     have q1:=p8 _ _ q0
     obtain ⟨u5,u6,q2,q3,q4⟩:=aD.lendSp q1 (zL (zL (zL (zL (zL (zL (zL (zL (zL (zL (zL (zL o p) r) u) x) y) q) m) k) h) j) e) z) zt1
     obtain ⟨h5,q5,hm⟩:=aB hm
     have hcl:=xD q5 q3 q2 (tQ (α:=nX) _)
     refine bJ (vs:=[i64 1,i64 0,zS h2 h1.length h4,zS none 0 0]) call62 rfl hcl ?_
     rintro _ q6 ⟨i9,j0,j1,j2,rfl,q7⟩
     have j3:=q4 _ _ q7
     refine aK (aMU (v:=zS i9 h5.L.length j0) aNa rfl rfl) ?_;obtain ⟨e2,j4,hm⟩:=aB hm
     have q8:=mX j3 (i:=1) rfl
     obtain ⟨e3,e4,j5⟩:=Cut.ex 1 i9 j0 1
     refine aK (yR dG q8 j5 rfl rfl rfl j4) ?_
     have j6:aD G c9 (aH 9 K h2 h4 h1::aH 9 K e3 e4 e2::aH 61 K j1 j2 h5.E::aH 24 c9 f3 2 ([n.L,l.L]:List (List aL))::aH 2 K d1 d2 d0::aH 2 K f0 f1 e9::box b3 27 (zC d.1 a5 a6 a3 c48)::box b2 27 (zC c.1 a0 a2 V Z)::L) q6:=aD.cutP j3 (i:=1) rfl j4 j5
     refine aV (v:=zS e3 e2.length e4) (bA (bL (aR (v:=zS c3 c0.1.length c4) (aR (v:=zS e3 e2.length e4) (aK (jR (t:=0) (vs:=b4) fF j6 (d6.mono (zL (zL (zL (zL k h) j) e) z)) (kA rfl) rfl rfl) (aR (v:=i64 h0) ?_))))));obtain ⟨j7,q9,hm⟩:=aB hm
     refine bJ (vs:=[zA (zCa l a7 c8 a10 c11),i64 h0]) call65 rfl (gC q9 j6 (h9.mono (zL (zL (zL (zL (zL (zL (zL (zL (zL (zL (zL (zL o p) r) u) x) y) q) m) k) h) j) e) z)) (d8.mono (zL (zL (zL (zL (zL (zL (zL (zL (zL (zL (zL (zL o p) r) u) x) y) q) m) k) h) j) e) z))) ?_
     rintro _ u7 ⟨j8,j9,rfl,r0⟩
     obtain ⟨u8,r1,r2,r3,r4⟩:=aD.lendSp r0 (zL (zL (zL (zL (zL (zL (zL (zL (zL (zL (zL (zL o p) r) u) x) y) q) m) k) h) j) e) z) zt2
     obtain ⟨u9,r5,r6,r7,r8⟩:=aD.lendSp r3 (zL (zL (zL (zL (zL (zL (zL (zL (zL (zL (zL (zL (zL o p) r) u) x) y) q) m) k) h) j) e) z) r1) .head
     obtain ⟨r9,s0,hm⟩:=aB hm
     refine bJ (vs:=[zS e3 e2.length e4,zS j8 j7.length j9]) call64 rfl (aIR s0 r7 (r2.mono r5) r6) ?_
     rintro _ s1 ⟨k0,k1,rfl,s2⟩
     have s3:=r8 _ _ s2
     have s4:=r4 _ _ s3
     refine aV (v:=zB false) (aV (v:=zS c3 c0.1.length c4) (aV (v:=zS k0 r9.length k1) (aV (v:=zB true) (bA ?_))));obtain ⟨k2,k3,s5,h7⟩:=aD.giveSp s4 (zL (zL (zL (zL (zL (zL (zL (zL (zL (zL (zL (zL o p) r) u) x) y) q) m) k) h) j) e) z) zt2
     replace h7:aD G k2 (aH 9 K e3 e4 e2::aH 9 K j8 j9 j7::aH 9 K h2 h4 h1::aH 61 K j1 j2 h5.E::aH 24 c9 f3 2 ([n.L,l.L]:List (List aL))::aH 2 K d1 d2 d0::aH 2 K f0 f1 e9::box b3 27 (zC d.1 a5 a6 a3 c48)::box b2 27 (zC c.1 a0 a2 V Z)::L) s1:=h7
     obtain rfl:=zI hm
     exact kQ (aQm results27 rfl rfl rfl rfl ⟨k2,c3,c4,k0,k1,rfl,(zL (zL (zL (zL (zL (zL (zL (zL (zL (zL (zL (zL (zL o p) r) u) x) y) q) m) k) h) j) e) z) k3),(e8.mono k3),s5,(aD.arr 9 [] h7 rfl)⟩)
 refine cG (aR (v:=zB c.2.2) (aK (aGt rfl) (aR (v:=zB (!c.2.2)) ?_)))
 rcases aG hm with ⟨d4,hm⟩|⟨d4,hm⟩
 ·exact bV d4 rfl rfl (bV d4 rfl rfl (aK (dH (v:=zB true) d4 rfl rfl) (bA ⟨aU,true,hm,rfl,i6⟩)))
 ·exact cC d4 rfl rfl (aR (v:=zB d.2.2) (cC d4 rfl rfl (aK (aGt rfl) (aK (dR (v:=zB (!d.2.2)) d4 rfl rfl) (bA ⟨aU,!d.2.2,hm,rfl,i6⟩)))))
theorem aDC {a b:aO} {R:(Bool × Int)} (hm:oG a b=some R) (hs:aD G K (L) w) (h:G.lo=0) (i:aT K a1 c2 a.L) (j:aT K a4 c5 a.E) (k:aT K a7 c8 b.L) (l:aT K a10 c11 b.E):
  Calls prog 10 ([zA (zCa a a1 c2 a4 c5),zA (zCa b a7 c8 a10 c11)]:List Value).toArray w (dO fun v w'=>v=zT #[zB R.1,i64 R.2]/\aD G K (L) w'):=by
 refine cA func10 ?_;unfold oG at hm
 refine aC ?_;refine kN fun n a6 a8=>?_
 refine kN fun o a9 b0=>?_
 iterate 6 refine eU ?_
 refine bG [2,3] (fun f w=>∃ d,pS a b d=some R/\f 21=zB d/\aD G K (box o 27 (zC b a7 c8 a10 c11)::box n 27 (zC a a1 c2 a4 c5)::L) w) ?_ ?_
 ·rintro f b1 ⟨d,hm,b2,p⟩
  unfold pS at hm
  refine aC ?_
  rcases aG hm with ⟨q,hm⟩|⟨q,hm⟩
  ·exact aI
  ·refine aC ?_;obtain ⟨r,t,hm⟩:=aB hm
   refine bP call27 (aCj t p h i j k l) ?_
   rintro _ b3 ⟨b4,b5,b6,b7,b8,rfl,c,b9,c0,u⟩
   refine aC ?_;obtain ⟨x,y,hm⟩:=aB hm
   refine bP call27 (aCj y u h (k.mono c) (l.mono c) (i.mono c) (j.mono c)) ?_
   rintro _ c1 ⟨m,c3,c4,c6,c45,rfl,z,c7,c9,d0⟩
   iterate 13 refine eU ?_
   refine bG [6,10] (fun f w=>∃ e,jV r x e=some R/\f 43=zB e/\aD G m (L) w) ?_ ?_
   ·rintro f d1 ⟨e,hm,d2,d3⟩
    unfold jV at hm
    refine aC ?_
    rcases aG hm with ⟨V,hm⟩|⟨V,hm⟩
    ·exact aI
    ·iterate 4 refine eU ?_
     refine bG [] (fun f w=>∃ g,pR g=some R/\f 4=zB g/\f 5=i64 0/\aD G m (L) w) ?_ ?_
     ·rintro f d4 ⟨g,hm,Z,a0,a2⟩
      unfold pR at hm
      refine aC ?_;obtain rfl:=zI hm
      exact kQ (aNu results10 rfl rfl ⟨(tp2 Z a0),(aD.weakK a2 (zL c z))⟩)
     exact aI
   exact aI
 exact aI
theorem aFU {a6:(List UInt8)} {R:Bool} (hm:aEm a6=some R) (hs:aD G K (L) w) (hG:G.lo=0) (h3:aT K a1 c2 a6):
  Calls prog 3 ([zS a1 a6.length c2]:List Value).toArray w (dO fun v w'=>v=zB R/\aD G K (L) w'):=by
 let c9:=zG
 refine kR func3 rfl (by kernel_rfl) (by show (1:Nat)<=146;decide) ?_;unfold aEm at hm
 refine bL (aV (v:=zB false) (bA (bM (bL (aR (v:=zS a1 a6.length c2) ?_)))));obtain ⟨r4,q5,hm⟩:=aB hm
 refine bJ (vs:=[zS a1 a6.length c2]) call4 rfl (aIC q5 hs h3) ?_
 rintro _ w6 ⟨rfl,i2⟩
 refine bA ?_
 rcases aG hm with ⟨c8,hm⟩|⟨c8,hm⟩
 ·exact aI
 ·refine cD c8 rfl (eJ (aF (bL (aR (v:=zS a1 a6.length c2) ?_))));obtain ⟨c,i3,hm⟩:=aB hm
  refine bJ (vs:=[zS a1 a6.length c2]) call5 rfl (aIN i3 i2 h3) ?_
  rintro _ s4 ⟨h,j,d,e,m,n,k,l,rfl,i4⟩
  refine aR (v:=zT #[zA (zCa c.1 h j d e),zA (zCa c.2 m n k l)]) (aK (dD rfl rfl) (aK (dD rfl rfl) (gQ (vs:=c9) zeroValue27 i4 rfl (fun Z s5 i5=>(gQ (vs:=c9) zeroValue27 i5 rfl (fun a0 s6 i6=>(nV (i:=1) (ns:=(zC c.1 h j d e)) (us:=(zC c.1 h j d e)) sizeOf27 i6 rfl rfl rfl rfl rfl (oR rfl) rfl rfl (fun i7 (i8:aD G K (box a0 27 c9::box Z 27 (zC c.1 h j d e)::aH 9 K h j c.1.L::aH 61 K d e c.1.E::aH 9 K m n c.2.L::aH 61 K k l c.2.E::L) i7)=>(nV (i:=0) (ns:=(zC c.2 m n k l)) (us:=(zC c.2 m n k l)) sizeOf27 i8 rfl rfl rfl rfl rfl (oR rfl) rfl rfl (fun i9 (d0:aD G K (box a0 27 (zC c.2 m n k l)::box Z 27 (zC c.1 h j d e)::aH 9 K h j c.1.L::aH 61 K d e c.1.E::aH 9 K m n c.2.L::aH 61 K k l c.2.E::L) i9)=>(bA (bL (aK (nC (us:=(zC c.1 h j d e)) fF d0 (i:=1) rfl rfl rfl rfl) (aK (nC (us:=(zC c.1 h j d e)) fF d0 (i:=1) rfl rfl rfl rfl) ?_))))))))))))))
  obtain ⟨s7,j0,h0,j1,j2⟩:=aD.lendSp d0 (zR _) zt2
  obtain ⟨s8,h1,h2,j3,j4⟩:=aD.lendSp j1 j0 zt2
  obtain ⟨a3,j5,hm⟩:=aB hm
  refine bJ (vs:=[zA (zCa c.1 h j d e),zA (zCa c.1 h j d e)]) call6 rfl (aFl j5 j3 hG (h0.mono h1) h2 (h0.mono h1) h2) ?_
  rintro _ s9 ⟨rfl,j6⟩
  have j7:=j4 _ _ j6
  have d1:=j2 _ _ j7
  refine aR (v:=zT #[zB a3.1,i64 a3.2]) (aK (dD rfl rfl) (aK (dD rfl rfl) (aV (v:=zB a3.1) (aV (v:=i64 a3.2) (bA (bL (aK (nC (us:=(zC c.1 h j d e)) fF d1 (i:=3) rfl rfl rfl rfl) (aK (nC (us:=(zC c.2 m n k l)) fF d1 (i:=2) rfl rfl rfl rfl) ?_))))))));obtain ⟨t0,d2,j8,j9,k0⟩:=aD.lendSp d1 (zR _) .head
  obtain ⟨t1,d3,k1,k2,k3⟩:=aD.lendSp j9 d2 .head
  obtain ⟨t2,d4,k4,k5,k6⟩:=aD.lendSp k2 (zL d2 d3) zt2
  obtain ⟨t3,d5,k7,k8,k9⟩:=aD.lendSp k5 (zL (zL d2 d3) d4) zt2
  obtain ⟨r,l0,hm⟩:=aB hm
  refine bJ (vs:=[zA (zCa c.1 h j d e),zA (zCa c.2 m n k l)]) call7 rfl (aEe l0 k8 hG (j8.mono (zL (zL d3 d4) d5)) (k1.mono (zL d4 d5)) (k4.mono d5) k7) ?_
  rintro _ t4 ⟨rfl,l1⟩
  have l2:=k9 _ _ l1
  have l3:=k6 _ _ l2
  have l4:=k3 _ _ l3
  have d6:=k0 _ _ l4
  refine aR (v:=zT #[zB r.1,i64 r.2]) (aK (dD rfl rfl) (aK (dD rfl rfl) (aV (v:=zB r.1) (aV (v:=i64 r.2) (bA (bL (aK (nC (us:=(zC c.1 h j d e)) fF d6 (i:=5) rfl rfl rfl rfl) (aK (nC (us:=(zC c.2 m n k l)) fF d6 (i:=4) rfl rfl rfl rfl) ?_))))))));obtain ⟨t5,d7,l5,l6,l7⟩:=aD.lendSp d6 (zR _) .head
  obtain ⟨t6,d8,l8,l9,m0⟩:=aD.lendSp l6 d7 .head
  obtain ⟨t7,d9,m1,m2,m3⟩:=aD.lendSp l9 (zL d7 d8) .head
  obtain ⟨t8,e0,m4,m5,m6⟩:=aD.lendSp m2 (zL (zL d7 d8) d9) .head
  obtain ⟨q,m7,hm⟩:=aB hm
  refine bJ (vs:=[zA (zCa c.1 h j d e),zA (zCa c.2 m n k l),zB true]) call8 rfl (yU m7 m5 hG (l5.mono (zL (zL d8 d9) e0)) (l8.mono (zL d9 e0)) (m1.mono e0) m4) ?_
  rintro _ t9 ⟨rfl,m8⟩
  have m9:=m6 _ _ m8
  have n0:=m3 _ _ m9
  have n1:=m0 _ _ n0
  have e1:=l7 _ _ n1
  refine aR (v:=zT #[zB q.1,i64 q.2]) (aK (dD rfl rfl) (aK (dD rfl rfl) (aV (v:=zB q.1) (aV (v:=i64 q.2) (bA (bL (aK (nC (us:=(zC c.1 h j d e)) fF e1 (i:=5) rfl rfl rfl rfl) (aK (nC (us:=(zC c.2 m n k l)) fF e1 (i:=4) rfl rfl rfl rfl) ?_))))))));obtain ⟨u0,e2,n2,n3,n4⟩:=aD.lendSp e1 (zR _) .head
  obtain ⟨u1,e3,n5,n6,n7⟩:=aD.lendSp n3 e2 .head
  obtain ⟨u2,e4,n8,n9,o0⟩:=aD.lendSp n6 (zL e2 e3) .head
  obtain ⟨u3,e5,o1,o2,o3⟩:=aD.lendSp n9 (zL (zL e2 e3) e4) .head
  obtain ⟨p,o4,hm⟩:=aB hm
  refine bJ (vs:=[zA (zCa c.1 h j d e),zA (zCa c.2 m n k l),zB false]) call8 rfl (yU o4 o2 hG (n2.mono (zL (zL e3 e4) e5)) (n5.mono (zL e4 e5)) (n8.mono e5) o1) ?_
  rintro _ u4 ⟨rfl,o5⟩
  have o6:=o3 _ _ o5
  have o7:=o0 _ _ o6
  have o8:=n7 _ _ o7
  have e6:=n4 _ _ o8
  refine aR (v:=zT #[zB p.1,i64 p.2]) (aK (dD rfl rfl) (aK (dD rfl rfl) (aV (v:=zB p.1) (aV (v:=i64 p.2) (bA (bL (aK (nC (us:=(zC c.1 h j d e)) fF e6 (i:=5) rfl rfl rfl rfl) (aK (nC (us:=(zC c.2 m n k l)) fF e6 (i:=4) rfl rfl rfl rfl) ?_))))))));obtain ⟨u5,e7,o9,p0,p1⟩:=aD.lendSp e6 (zR _) .head
  obtain ⟨u6,e8,p2,p3,p4⟩:=aD.lendSp p0 e7 .head
  obtain ⟨u7,e9,p5,p6,p7⟩:=aD.lendSp p3 (zL e7 e8) .head
  obtain ⟨u8,f0,p8,p9,q0⟩:=aD.lendSp p6 (zL (zL e7 e8) e9) .head
  obtain ⟨o,q1,hm⟩:=aB hm
  refine bJ (vs:=[zA (zCa c.1 h j d e),zA (zCa c.2 m n k l)]) call6 rfl (aFl q1 p9 hG (o9.mono (zL (zL e8 e9) f0)) (p2.mono (zL e9 f0)) (p5.mono f0) p8) ?_
  rintro _ u9 ⟨rfl,q2⟩
  have q3:=q0 _ _ q2
  have q4:=p7 _ _ q3
  have q6:=p4 _ _ q4
  have b9:=p1 _ _ q6
  refine aR (v:=zT #[zB o.1,i64 o.2]) (aK (dD rfl rfl) (aK (dD rfl rfl) (aV (v:=zB o.1) (aV (v:=i64 o.2) (bA (bM (bM (bG [3,4,7,9,11,13] (fun f w=>∃ f1,dQ c r q p o f1=some R/\f 80=zB f1/\aD G K (aH 9 K h j c.1.L::aH 61 K d e c.1.E::aH 9 K m n c.2.L::aH 61 K k l c.2.E::box a0 27 (zC c.2 m n k l)::box Z 27 (zC c.1 h j d e)::L) w) ?_ ?_))))))))
  ·rintro f v0 ⟨f1,hm,q7,u⟩
   unfold dQ at hm
   refine aF ?_
   rcases aG hm with ⟨h4,hm⟩|⟨h4,hm⟩
   ·exact aI
   ·refine cD h4 q7 (eJ (aF (bM (bM (bG [3,4,7,9,13] (fun f w=>∃ f2,dP c r q o f2=some R/\f 99=zB f2/\aD G K (aH 9 K h j c.1.L::aH 61 K d e c.1.E::aH 9 K m n c.2.L::aH 61 K k l c.2.E::box a0 27 (zC c.2 m n k l)::box Z 27 (zC c.1 h j d e)::L) w) ?_ ?_)))))
    ·rintro f c3 ⟨f2,hm,q8,f3⟩
     unfold dP at hm
     refine aF ?_
     rcases aG hm with ⟨h5,hm⟩|⟨h5,hm⟩
     ·exact aI
     ·refine cD h5 q8 (eJ (aF (bL (aK (nC (us:=(zC c.1 h j d e)) fF f3 (i:=5) rfl rfl rfl rfl) (aK (nC (us:=(zC c.2 m n k l)) fF f3 (i:=4) rfl rfl rfl rfl) ?_)))));obtain ⟨q9,c0,f4,f5⟩:=aD.giveSp f3 (zR _) .head
      replace f5:aD G q9 (aH 61 K d e c.1.E::aH 9 K m n c.2.L::aH 61 K k l c.2.E::box a0 27 (zC c.2 m n k l)::box Z 27 (zC c.1 h j d e)::L) c3:=f5
      obtain ⟨r0,a5,f6,f7⟩:=aD.giveSp f5 c0 .head
      replace f7:aD G r0 (aH 9 K m n c.2.L::aH 61 K k l c.2.E::box a0 27 (zC c.2 m n k l)::box Z 27 (zC c.1 h j d e)::L) c3:=f7
      obtain ⟨r1,a2,f8,f9⟩:=aD.giveSp f7 (zL c0 a5) .head
      replace f9:aD G r1 (aH 61 K k l c.2.E::box a0 27 (zC c.2 m n k l)::box Z 27 (zC c.1 h j d e)::L) c3:=f9
      obtain ⟨r2,t,g0,g1⟩:=aD.giveSp f9 (zL (zL c0 a5) a2) .head
      replace g1:aD G r2 (box a0 27 (zC c.2 m n k l)::box Z 27 (zC c.1 h j d e)::L) c3:=g1
      obtain ⟨c1,r3,hm⟩:=aB hm
      refine bJ (vs:=[zA (zCa c.1 h j d e),zA (zCa c.2 m n k l)]) call9 rfl (aFo (a:=⟨c.1.N,c.1.I,c.1.L,c.1.E⟩) (b:=⟨c.2.N,c.2.I,c.2.L,c.2.E⟩) r3 g1 hG (f4.mono (zL (zL a5 a2) t)) (f6.mono (zL a2 t)) (f8.mono t) g0) ?_
      rintro _ v1 ⟨g2,h6,h7,rfl,x,v2,v3⟩
      refine aR (v:=zT #[zB c1.1,zS h6 c1.2.1.length h7,i64 c1.2.2]) (aK (dD rfl rfl) (aK (dD rfl rfl) (aK (dD rfl rfl) (aV (v:=zB c1.1) (aV (v:=zS h6 c1.2.1.length h7) (aV (v:=i64 c1.2.2) (bA (bM (bM (bG [3,4,7,9] (fun f w=>∃ g3,oI c r q g3=some R/\f 115=zB g3/\aD G g2 (box a0 27 (zC c.2 m n k l)::box Z 27 (zC c.1 h j d e)::L) w) ?_ ?_))))))))))
      ·rintro f v4 ⟨g3,hm,h8,c4⟩
       unfold oI at hm
       refine aF ?_
       rcases aG hm with ⟨g4,hm⟩|⟨g4,hm⟩
       ·refine bX g4 h8 (bL (aV (v:=zB false) (bA ?_)));obtain rfl:=zI hm
        exact kQ (bO (oQ results3 rfl ⟨rfl,(aD.weakK (aD.arr 2 [] c4 rfl) (zL (zL (zL (zL c0 a5) a2) t) x))⟩))
       ·refine cD g4 h8 (eJ (aF (bL (aK (nC (us:=(zC c.1 h j d e)) fF c4 (i:=1) rfl rfl rfl rfl) (aK (nC (us:=(zC c.2 m n k l)) fF c4 (i:=0) rfl rfl rfl rfl) ?_)))));obtain ⟨c5,r6,hm⟩:=aB hm
        refine bJ (vs:=[zA (zCa c.1 h j d e),zA (zCa c.2 m n k l)]) call10 rfl (aDC r6 c4 hG (f4.mono (zL (zL (zL a5 a2) t) x)) (f6.mono (zL (zL a2 t) x)) (f8.mono (zL t x)) (g0.mono x)) ?_
        rintro _ v5 ⟨rfl,v6⟩
        refine aR (v:=zT #[zB c5.1,i64 c5.2]) (aK (dD rfl rfl) (aK (dD rfl rfl) (aV (v:=zB c5.1) (aV (v:=i64 c5.2) (bA (bM (bM (bG [3,4,7] (fun f w=>∃ g5,oH c r g5=some R/\f 130=zB g5/\aD G g2 (box a0 27 (zC c.2 m n k l)::box Z 27 (zC c.1 h j d e)::L) w) ?_ ?_))))))))
        ·rintro f v7 ⟨g5,hm,h9,c6⟩
         unfold oH at hm
         refine aF ?_
         rcases aG hm with ⟨g6,hm⟩|⟨g6,hm⟩
         ·refine bX g6 h9 (bL (aV (v:=zB false) (bA ?_)));obtain rfl:=zI hm
          exact kQ (bO (oQ results3 rfl ⟨rfl,(aD.weakK (aD.arr 2 [] c6 rfl) (zL (zL (zL (zL c0 a5) a2) t) x))⟩))
         ·refine cD g6 h9 (eJ (aF (bL (aK (nC (us:=(zC c.1 h j d e)) fF c6 (i:=1) rfl rfl rfl rfl) (aK (nC (us:=(zC c.2 m n k l)) fF c6 (i:=0) rfl rfl rfl rfl) ?_)))));obtain ⟨c7,r8,hm⟩:=aB hm
          refine bJ (vs:=[zA (zCa c.1 h j d e),zA (zCa c.2 m n k l),i64 0]) call11 rfl (aGP r8 c6 hG (f4.mono (zL (zL (zL a5 a2) t) x)) (f6.mono (zL (zL a2 t) x)) (f8.mono (zL t x)) (g0.mono x)) ?_
          rintro _ v8 ⟨rfl,v9⟩
          refine aR (v:=zT #[zB c7.1,i64 c7.2]) (aK (dD rfl rfl) (aK (dD rfl rfl) (aV (v:=zB c7.1) (aV (v:=i64 c7.2) (bA (bM (bG [] (fun f w=>∃ g7,qM g7=some R/\f 2=zB g7/\aD G g2 (L) w) ?_ ?_)))))))
          ·rintro f w0 ⟨g7,hm,r9,s0⟩
           unfold qM at hm
           refine aF ?_;obtain rfl:=zI hm
           exact kQ (oQ results3 rfl ⟨r9,(aD.weakK s0 (zL (zL (zL (zL c0 a5) a2) t) x))⟩)
          exact aI
        exact aI
      exact aI
    refine cG (aR (v:=zB r.1) (aR (v:=zB r.1) ?_))
    rcases aG hm with ⟨a7,hm⟩|⟨a7,hm⟩
    ·refine pT a7 rfl rfl (aR (v:=zB q.1) (pT a7 rfl rfl (aK (aGt rfl) (aK (dH (v:=zB (!q.1)) a7 rfl rfl) (aR (v:=zB (!q.1)) ?_)))))
     rcases aG hm with ⟨y,hm⟩|⟨y,hm⟩
     ·exact bV y rfl rfl (bV y rfl rfl (wF (g:=88) rfl rfl (wF (g:=88) rfl rfl (bV y rfl rfl (aK (dH (v:=zB true) y rfl rfl) (aR (v:=zB true) (bV (rfl:true=true) rfl rfl (bV (rfl:true=true) rfl rfl (wF (g:=95) rfl rfl (wF (g:=95) rfl rfl (bV (rfl:true=true) rfl rfl (aK (dH (v:=zB true) (rfl:true=true) rfl rfl) (bA ⟨aU,true,hm,rfl,u⟩)))))))))))))
     ·refine cC y rfl rfl (aR (v:=zB q.1) (cC y rfl rfl (aR (v:=zB q.1) ?_)))
      rcases aG hm with ⟨a8,hm⟩|⟨a8,hm⟩
      ·refine pT a8 rfl rfl (aR (v:=zB p.1) (pT a8 rfl rfl (aK (aGt rfl) (cC y rfl rfl (aK (dH (v:=zB (!p.1)) a8 rfl rfl) (aK (dR (v:=zB (!p.1)) y rfl rfl) (aR (v:=zB (!p.1)) ?_)))))))
       rcases aG hm with ⟨z,hm⟩|⟨z,hm⟩
       ·exact bV z rfl rfl (bV z rfl rfl (wF (g:=95) rfl rfl (wF (g:=95) rfl rfl (bV z rfl rfl (aK (dH (v:=zB true) z rfl rfl) (bA ⟨aU,true,hm,rfl,u⟩))))))
       ·refine cC z rfl rfl (aR (v:=zB p.1) (cC z rfl rfl (aR (v:=zB p.1) ?_)))
        rcases aG hm with ⟨a9,hm⟩|⟨a9,hm⟩
        ·exact pT a9 rfl rfl (aR (v:=zB o.1) (pT a9 rfl rfl (aK (aGt rfl) (cC z rfl rfl (aK (dH (v:=zB (!o.1)) a9 rfl rfl) (aK (dR (v:=zB (!o.1)) z rfl rfl) (bA ⟨aU,!o.1,hm,rfl,u⟩)))))))
        ·exact lY a9 rfl rfl (lY a9 rfl rfl (cC z rfl rfl (aK (dR (v:=zB false) a9 rfl rfl) (aK (dR (v:=zB false) z rfl rfl) (bA ⟨aU,false,hm,rfl,u⟩)))))
      ·refine lY a8 rfl rfl (lY a8 rfl rfl (cC y rfl rfl (aK (dR (v:=zB false) a8 rfl rfl) (aK (dR (v:=zB false) y rfl rfl) (aR (v:=zB false) (cC (by decide:¬ false=true) rfl rfl (aR (v:=zB p.1) (cC (by decide:¬ false=true) rfl rfl (aR (v:=zB p.1) ?_)))))))))
       rcases aG hm with ⟨b0,hm⟩|⟨b0,hm⟩
       ·exact pT b0 rfl rfl (aR (v:=zB o.1) (pT b0 rfl rfl (aK (aGt rfl) (cC (by decide:¬ false=true) rfl rfl (aK (dH (v:=zB (!o.1)) b0 rfl rfl) (aK (dR (v:=zB (!o.1)) (by decide:¬ false=true) rfl rfl) (bA ⟨aU,!o.1,hm,rfl,u⟩)))))))
       ·exact lY b0 rfl rfl (lY b0 rfl rfl (cC (by decide:¬ false=true) rfl rfl (aK (dR (v:=zB false) b0 rfl rfl) (aK (dR (v:=zB false) (by decide:¬ false=true) rfl rfl) (bA ⟨aU,false,hm,rfl,u⟩)))))
    ·refine lY a7 rfl rfl (lY a7 rfl rfl (aK (dR (v:=zB false) a7 rfl rfl) (aR (v:=zB false) (cC (by decide:¬ false=true) rfl rfl (aR (v:=zB q.1) (cC (by decide:¬ false=true) rfl rfl (aR (v:=zB q.1) ?_)))))))
     rcases aG hm with ⟨b1,hm⟩|⟨b1,hm⟩
     ·refine pT b1 rfl rfl (aR (v:=zB p.1) (pT b1 rfl rfl (aK (aGt rfl) (cC (by decide:¬ false=true) rfl rfl (aK (dH (v:=zB (!p.1)) b1 rfl rfl) (aK (dR (v:=zB (!p.1)) (by decide:¬ false=true) rfl rfl) (aR (v:=zB (!p.1)) ?_)))))))
      rcases aG hm with ⟨V,hm⟩|⟨V,hm⟩
      ·exact bV V rfl rfl (bV V rfl rfl (wF (g:=95) rfl rfl (wF (g:=95) rfl rfl (bV V rfl rfl (aK (dH (v:=zB true) V rfl rfl) (bA ⟨aU,true,hm,rfl,u⟩))))))
      ·refine cC V rfl rfl (aR (v:=zB p.1) (cC V rfl rfl (aR (v:=zB p.1) ?_)))
       rcases aG hm with ⟨b2,hm⟩|⟨b2,hm⟩
       ·exact pT b2 rfl rfl (aR (v:=zB o.1) (pT b2 rfl rfl (aK (aGt rfl) (cC V rfl rfl (aK (dH (v:=zB (!o.1)) b2 rfl rfl) (aK (dR (v:=zB (!o.1)) V rfl rfl) (bA ⟨aU,!o.1,hm,rfl,u⟩)))))))
       ·exact lY b2 rfl rfl (lY b2 rfl rfl (cC V rfl rfl (aK (dR (v:=zB false) b2 rfl rfl) (aK (dR (v:=zB false) V rfl rfl) (bA ⟨aU,false,hm,rfl,u⟩)))))
     ·refine lY b1 rfl rfl (lY b1 rfl rfl (cC (by decide:¬ false=true) rfl rfl (aK (dR (v:=zB false) b1 rfl rfl) (aK (dR (v:=zB false) (by decide:¬ false=true) rfl rfl) (aR (v:=zB false) (cC (by decide:¬ false=true) rfl rfl (aR (v:=zB p.1) (cC (by decide:¬ false=true) rfl rfl (aR (v:=zB p.1) ?_)))))))))
      rcases aG hm with ⟨b3,hm⟩|⟨b3,hm⟩
      ·exact pT b3 rfl rfl (aR (v:=zB o.1) (pT b3 rfl rfl (aK (aGt rfl) (cC (by decide:¬ false=true) rfl rfl (aK (dH (v:=zB (!o.1)) b3 rfl rfl) (aK (dR (v:=zB (!o.1)) (by decide:¬ false=true) rfl rfl) (bA ⟨aU,!o.1,hm,rfl,u⟩)))))))
      ·exact lY b3 rfl rfl (lY b3 rfl rfl (cC (by decide:¬ false=true) rfl rfl (aK (dR (v:=zB false) b3 rfl rfl) (aK (dR (v:=zB false) (by decide:¬ false=true) rfl rfl) (bA ⟨aU,false,hm,rfl,u⟩)))))
  refine cG (aR (v:=zB a3.1) (aK (aGt rfl) (aR (v:=zB (!a3.1)) ?_)))
  rcases aG hm with ⟨b4,hm⟩|⟨b4,hm⟩
  ·exact bV b4 rfl rfl (bV b4 rfl rfl (aK (dH (v:=zB true) b4 rfl rfl) (aR (v:=zB true) (bV (rfl:true=true) rfl rfl (bV (rfl:true=true) rfl rfl (aK (dH (v:=zB true) (rfl:true=true) rfl rfl) (aR (v:=zB true) (bV (rfl:true=true) rfl rfl (bV (rfl:true=true) rfl rfl (aK (dH (v:=zB true) (rfl:true=true) rfl rfl) (aR (v:=zB true) (bV (rfl:true=true) rfl rfl (bV (rfl:true=true) rfl rfl (aK (dH (v:=zB true) (rfl:true=true) rfl rfl) (aR (v:=zB true) (bV (rfl:true=true) rfl rfl (bV (rfl:true=true) rfl rfl (aK (dH (v:=zB true) (rfl:true=true) rfl rfl) (bA ⟨aU,true,hm,rfl,b9⟩)))))))))))))))))))
  ·refine cC b4 rfl rfl (aR (v:=i64 a3.2) (cC b4 rfl rfl (aK (aHI rfl rfl) (aK (dR (v:=zB (a3.2 != 0)) b4 rfl rfl) (aR (v:=zB (a3.2 != 0)) ?_)))))
   rcases aG hm with ⟨b5,hm⟩|⟨b5,hm⟩
   ·exact bV b5 rfl rfl (bV b5 rfl rfl (aK (dH (v:=zB true) b5 rfl rfl) (aR (v:=zB true) (bV (rfl:true=true) rfl rfl (bV (rfl:true=true) rfl rfl (aK (dH (v:=zB true) (rfl:true=true) rfl rfl) (aR (v:=zB true) (bV (rfl:true=true) rfl rfl (bV (rfl:true=true) rfl rfl (aK (dH (v:=zB true) (rfl:true=true) rfl rfl) (aR (v:=zB true) (bV (rfl:true=true) rfl rfl (bV (rfl:true=true) rfl rfl (aK (dH (v:=zB true) (rfl:true=true) rfl rfl) (bA ⟨aU,true,hm,rfl,b9⟩)))))))))))))))
   ·refine cC b5 rfl rfl (aR (v:=i64 r.2) (cC b5 rfl rfl (aK (aHI rfl rfl) (aK (dR (v:=zB (r.2 != 0)) b5 rfl rfl) (aR (v:=zB (r.2 != 0)) ?_)))))
    rcases aG hm with ⟨b6,hm⟩|⟨b6,hm⟩
    ·exact bV b6 rfl rfl (bV b6 rfl rfl (aK (dH (v:=zB true) b6 rfl rfl) (aR (v:=zB true) (bV (rfl:true=true) rfl rfl (bV (rfl:true=true) rfl rfl (aK (dH (v:=zB true) (rfl:true=true) rfl rfl) (aR (v:=zB true) (bV (rfl:true=true) rfl rfl (bV (rfl:true=true) rfl rfl (aK (dH (v:=zB true) (rfl:true=true) rfl rfl) (bA ⟨aU,true,hm,rfl,b9⟩)))))))))))
    ·refine cC b6 rfl rfl (aR (v:=i64 q.2) (cC b6 rfl rfl (aK (aHI rfl rfl) (aK (dR (v:=zB (q.2 != 0)) b6 rfl rfl) (aR (v:=zB (q.2 != 0)) ?_)))))
     rcases aG hm with ⟨b7,hm⟩|⟨b7,hm⟩
     ·exact bV b7 rfl rfl (bV b7 rfl rfl (aK (dH (v:=zB true) b7 rfl rfl) (aR (v:=zB true) (bV (rfl:true=true) rfl rfl (bV (rfl:true=true) rfl rfl (aK (dH (v:=zB true) (rfl:true=true) rfl rfl) (bA ⟨aU,true,hm,rfl,b9⟩)))))))
     ·refine cC b7 rfl rfl (aR (v:=i64 p.2) (cC b7 rfl rfl (aK (aHI rfl rfl) (aK (dR (v:=zB (p.2 != 0)) b7 rfl rfl) (aR (v:=zB (p.2 != 0)) ?_)))))
      rcases aG hm with ⟨b8,hm⟩|⟨b8,hm⟩
      ·exact bV b8 rfl rfl (bV b8 rfl rfl (aK (dH (v:=zB true) b8 rfl rfl) (bA ⟨aU,true,hm,rfl,b9⟩)))
      ·exact cC b8 rfl rfl (aR (v:=i64 o.2) (cC b8 rfl rfl (aK (aHI rfl rfl) (aK (dR (v:=zB (o.2 != 0)) b8 rfl rfl) (bA ⟨aU,o.2 != 0,hm,rfl,b9⟩)))))
end Gv
