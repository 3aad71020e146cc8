/- Walks, printed by program. -/
import Derived.Test.YtlehiakgdejgkaaGreatDoorJWk1
import Derived.Test.YtlehiakgdejgkaaGreatDoorJWk5
import Derived.Test.YtlehiakgdejgkaaGreatDoorJWk7
import Derived.Test.YtlehiakgdejgkaaGreatDoorJWk9
import Derived.Test.YtlehiakgdejgkaaGreatDoorJT
set_option linter.all false
namespace Gv
open Go.Value renaming slice→zS,bool→zB,pointer→zP,agg→zA,tuple→zT,map→zM
open Option.some renaming inj→zI
open Gv.Hp renaming le_trans→zL,le_refl→zR
open Go Go.Proofs Go.Proofs.Tryz
set_option maxRecDepth 20000
set_option maxHeartbeats 40000000
variable {G:Env} {K Kf:Hp} {L:List iI} {w:World} {a1 a4 a7 a10 a13 a16 a19 a22 a25 a28 a31 a34 a2 a5 a6 a9 a11 a14 a17 a20:Option Addr} {c2 c5 c8 c11 c17 c20 c23 c29 c32 c35 c14 b1 c3 c6 b4 b5 c7 c10 c18 c21:Nat}
theorem aFw {a b:aS} {b1:aZ} {e6:Nat} {b2:aZ} {e7:Nat} {R:((List aJ) × Bool)} (hm:aBF a b b1 b2=some R) (hs:aD G K (L) w) (h3:aW K a1 c2 a.L) (h6:aW K a4 c5 a.E) (h9:aW K a7 c8 b.L) (i1:aW K a10 c11 b.E) (q8:cT K a13 e6 [i64 b1.S.N,i64 b1.S.I,zS a16 b1.S.L.length c17,zS a19 b1.S.E.length c20,zS a22 b1.Verdicts.length c23]) (q9:aW K a16 c17 b1.S.L) (r0:aW K a19 c20 b1.S.E) (r1:aW K a22 c23 b1.Verdicts) (r2:cT K a25 e7 [i64 b2.S.N,i64 b2.S.I,zS a28 b2.S.L.length c29,zS a31 b2.S.E.length c32,zS a34 b2.Verdicts.length c35]) (r3:aW K a28 c29 b2.S.L) (r4:aW K a31 c32 b2.S.E) (r5:aW K a34 c35 b2.Verdicts):
  Calls Tryz.prog 21 ([zA (zCa a a1 c2 a4 c5),zA (zCa b a7 c8 a10 c11),Value.func (.func 22) #[] #[cD a13 e6,cD a25 e7]]:List Value).toArray w (dS fun v w'=>∃ K' l3 l4,v=zT #[zS l3 R.1.length l4,zB R.2]/\Hp.le K K'/\aW K' l3 l4 R.1/\aD G K' (L) w'):=by
 let l5:=(zC b a7 c8 a10 c11)
 let l6:=(zC a a1 c2 a4 c5)
 let l7:=[i64 a.I,i64 b.I,zS none 0 0]
 refine iT func21 rfl (by kernel_rfl) (by show (3:Nat)<=96;decide) ?_;unfold aBF at hm
 refine bC (aHx (v:=zA (zCa a a1 c2 a4 c5)) (vs:=l6) hs rfl rfl (fun b37 r6 r7=>?_));obtain ⟨r8,r,e8,i3,_⟩:=aD.lendBp r7 .head
 replace i3:aD G r8 (L) r6:=i3
 refine aHx (v:=zA (zCa b a7 c8 a10 c11)) (vs:=l5) i3 rfl rfl (fun b44 r9 s0=>?_);obtain ⟨a5,o,e9,f0,_⟩:=aD.lendBp s0 .head
 replace f0:aD G a5 (L) r9:=f0
 refine aT (v:=zS none 0 0) (aT (v:=zB false) (aU (bC (aM (gE (k':=0+2) vU (mQ rfl) (e8.mono o) rfl) (aM (bU (t:=2) uC f0 (e8.mono o) rfl rfl) (aM (gE (k':=0+2) vU (mQ rfl) e9 rfl) (aM (bU (t:=2) uC f0 e9 rfl rfl) (eR (Kt:=a5) (xs:=([a.L,b.L]:List (List aJ))) (cs:=[zS a1 a.L.length c2,zS a7 b.L.length c8]) (vs:=[(0,zS a1 a.L.length c2),(1,zS a7 b.L.length c8)]) aJb ez_24 rfl rfl f0 rfl (by kernel_rfl) rfl rfl rfl ⟨⟨a1,c2,rfl,(h3.mono (zL r o))⟩,⟨a7,c8,rfl,(h9.mono (zL r o))⟩,trivial⟩ (fun f1 s1 (s2:aD G a5 (aH 24 a5 f1 2 ([a.L,b.L]:List (List aJ))::L) s1)=>?_)))))))))
 obtain ⟨K54,a37,s3,s4,s5⟩:=aD.lendSp s2 (zR _) .head
 obtain ⟨f8,s6,hm⟩:=aB hm
 refine bO (vs:=[zS f1 ([a.L,b.L]:List (List aJ)).length 2]) call71 rfl (mX s6 s4 s3) ?_
 rintro _ w63 ⟨f9,g0,rfl,s7⟩
 have s8:=s5 _ _ s7
 obtain ⟨K66,a40,s9,t0,t1⟩:=aD.lendSp s8 (zL r o) (.tail .head)
 obtain ⟨g1,t2,hm⟩:=aB hm
 have hcl:=jO t2 t0 s9 (aGC (α:=fD) _)
 refine bO (vs:=[i64 1,i64 0,zS f9 f8.length g0,zS none 0 0]) call56 rfl hcl ?_
 rintro _ t3 ⟨l8,l9,i4,i5,rfl,t4⟩
 have m0:=t1 _ _ t4
 refine aM (R_field (v:=zS l8 g1.L.length l9) fv_27_2 rfl rfl) ?_;obtain ⟨d,m1,hm⟩:=aB hm
 have t5:=pS m0 (i:=1) rfl
 obtain ⟨m,n,m2⟩:=Cut.ex 1 l8 l9 1
 refine aM (aBb eM t5 m2 rfl rfl rfl m1) ?_
 have t6:aD G a5 (aH 9 K f9 g0 f8::aH 9 K m n d::aH 52 K i4 i5 g1.E::aH 24 a5 f1 2 ([a.L,b.L]:List (List aJ))::L) t3:=aD.cutP m0 (i:=1) rfl m1 m2
 refine aT (v:=zS m d.length n) (aU (bC (aHD (Int × Int) Bool t6 ?_)))
 intro e t7 (i6:aD G a5 (jP e ([]:(List ((Int × Int) × Bool)))::aH 9 K f9 g0 f8::aH 9 K m n d::aH 52 K i4 i5 g1.E::aH 24 a5 f1 2 ([a.L,b.L]:List (List aJ))::L) t7)
 refine aT (v:=zM (some e)) (aU (bC (aM (gE (k':=0+1) aGG (mQ rfl) (e8.mono o) rfl) (aM (bU (t:=1) lD i6 (e8.mono o) rfl rfl) (aM (gE (k':=0+1) aGG (mQ rfl) e9 rfl) (aM (bU (t:=1) lD i6 e9 rfl rfl) (aM (cK (vs:=[(0,i64 a.I),(1,i64 b.I),(2,zS none 0 0)]) (cs:=l7) aJZ rfl (by kernel_rfl)) (eR (Kt:=a5) (xs:=([⟨a.I,b.I,[]⟩]:List aN)) (cs:=l7) (vs:=[(0,zA #[i64 a.I,i64 b.I,zS none 0 0])]) yE aEg rfl rfl i6 rfl (by kernel_rfl) rfl rfl rfl ⟨⟨none,0,rfl,aGC _⟩,trivial⟩ ?_))))))))
 intro i7 t8 (t9:aD G a5 (aH 73 a5 i7 1 ([⟨a.I,b.I,[]⟩]:List aN)::jP e ([]:(List ((Int × Int) × Bool)))::aH 9 K f9 g0 f8::aH 9 K m n d::aH 52 K i4 i5 g1.E::aH 24 a5 f1 2 ([a.L,b.L]:List (List aJ))::L) t8)
 refine aT (v:=zS i7 ([⟨a.I,b.I,[]⟩]:List aN).length 1) (aU (bB (aK [] (fun f w=>∃ m3,Hp.le a5 m3/\aHk=some R/\aD G m3 (L) w) aI ?_)));obtain ⟨a41,u0,ho⟩:=aB hm
 refine bV [2,3,4,8,9] u0 (fun a6 d0 f w=>∃ a9 d1 d2,Hp.le a5 a9/\f 10=zS d1 d0.length d2/\aD G a9 (aH 73 a9 d1 d2 d0::jP e a6::aH 9 K m n d::L) w) ?_ ?_
 ·exact ⟨a5,i7,1,(zR _),rfl,(aD.arr 6 [0,1,3] t9 rfl)⟩
 ·rintro a6 d0 i8 f a42 hm hr ⟨a9,d1,d2,u,i9,j0⟩
  unfold gH at hm
  refine bB (bC (cW i9 (aM (gU (len:=d0.length) yE rfl) (aM (aHv rfl rfl) (aU ?_)))))
  rcases aG hm with ⟨m4,hm⟩|⟨m4,hm⟩
  ·refine bP m4 rfl (cN (aC (aK [2,3,4,8,9] (fun f w=>∃ (f2:Hp) (j1:(List ((Int × Int) × Bool))) (g2:List aN) (g3:Option Addr) (g4:Nat),Hp.le a9 f2/\aAn j1 g2=some i8/\f 10=zS g3 g2.length g4/\aD G f2 (aH 73 f2 g3 g4 g2::jP e j1::aH 9 K m n d::L) w) ?_ ?_)))
   ·rintro f a43 ⟨f2,j1,g2,g3,g4,u1,hm,u2,u3⟩
    unfold aAn at hm
    exact aC ⟨_,(zI hm).symm,bD,f2,g3,g4,(zL u u1),u2,u3⟩
   refine bC (cW i9 ?_);obtain ⟨c,j2,hm⟩:=aB hm
   have u4:=bS j0 (i:=0) rfl j2
   refine aM (cS yE rfl u4 rfl rfl rfl j2) ?_;obtain ⟨a44,u5,u6⟩:=aJr (sz:=3) rfl j0 (i:=0) rfl j2
   obtain ⟨b3,b4,rfl,f3⟩:=u6
   refine aM (aMz (t:=0) (vs:=[i64 c.a,i64 c.b,zS b3 c.trace.length b4]) ag_73 u5 rfl rfl rfl) (fQ (vs:=[i64 0,i64 0,zS none 0 0]) zeroValue73 j0 rfl (fun u7 a45 u8=>(kL (i:=0) (ns:=[i64 c.a,i64 c.b,zS b3 c.trace.length b4]) (us:=[i64 c.a,i64 c.b,zS b3 c.trace.length b4]) sizeOf73 u8 rfl rfl rfl rfl rfl (nI rfl) rfl rfl (fun j3 (u9:aD G a9 (box u7 73 [i64 c.a,i64 c.b,zS b3 c.trace.length b4]::aH 73 a9 d1 d2 d0::jP e a6::aH 9 K m n d::L) j3)=>?_))))
   obtain ⟨b0,l,y,g5,_⟩:=aD.lendBp u9 .head
   replace g5:aD G b0 (aH 73 a9 d1 d2 d0::jP e a6::aH 9 K m n d::L) j3:=g5
   refine aU (bC (cW i9 ?_));obtain ⟨b8,m5,hm⟩:=aB hm
   have v0:=own_capE g5 (i:=0) rfl
   obtain ⟨d3,d4,m6⟩:=Cut.ex 3 d1 d2 1
   refine aM (aBb yE v0 m6 rfl rfl rfl m5) ?_
   have b5:aD G b0 (aH 73 a9 d3 d4 b8::jP e a6::aH 9 K m n d::L) j3:=aD.cutPE g5 (i:=0) rfl m5 m6
   refine aT (v:=zS d3 b8.length d4) (aU (bB (bB (aY [2,3,4,8,9,10,11] (fun f w=>∃ j4,lG a b b1 b2 d a6 c b8 j4=some i8/\f 54=zB j4/\aD G b0 (aH 73 a9 d3 d4 b8::jP e a6::aH 9 K m n d::L) w) ?_ ?_))))
   ·rintro f v1 ⟨j4,hm,m7,g6⟩
    unfold lG at hm
    refine aC ?_
    rcases aG hm with ⟨j5,hm⟩|⟨j5,hm⟩
    ·refine bP j5 m7 ?_
     have a46:aD G b0 (aH 73 b0 d3 d4 b8::jP e a6::aH 9 K m n d::L) v1:=aD.weak (i:=0) g6 rfl (fun _ h=>aH.mono l h)
     exact aI
    ·refine bT j5 m7 (cN (aC (bC (aR (v:=zM (some e)) (aM (gE (k':=0+0) aFg (mQ rfl) y rfl) (aM (bU (t:=0) lD g6 y rfl rfl) (aM (gE (k':=0+1) aGH (mQ rfl) y rfl) (aM (bU (t:=1) lD g6 y rfl rfl) (aM (aME (vs:=[(0,i64 c.a),(1,i64 c.b)]) (cs:=[i64 c.a,i64 c.b]) ar_127 bz_127 rfl (by kernel_rfl)) ?_)))))))));obtain ⟨x,v2,hm⟩:=aB hm
     refine aHE (i:=1) (k:=⟨c.a,c.b⟩) (v:=true) runUnderlying126 ko_127 g6 rfl rfl rfl rfl v2 (fun v3 (j6:aD G b0 (aH 73 a9 d3 d4 b8::jP e x::aH 9 K m n d::L) v3)=>(aU (bB (bC (aR (v:=Value.func (.func 22) #[] #[cD a13 e6,cD a25 e7]) (aM (gE (k':=0+0) aFg (mQ rfl) y rfl) (aM (bU (t:=0) lD j6 y rfl rfl) (aM (gE (k':=0+1) aGH (mQ rfl) y rfl) (aM (bU (t:=1) lD j6 y rfl rfl) ?_)))))))));obtain ⟨a47,v4,hm⟩:=aB hm
     refine fR (vs:=[i64 c.a,i64 c.b]) (caps:=[cD a13 e6,cD a25 e7]) (us:=[i64 c.a,i64 c.b,cD a13 e6,cD a25 e7]) rfl call22 rfl rfl (aBN v4 j6 (q8.mono (zL (zL (zL r o) u) l)) (q9.mono (zL (zL (zL r o) u) l)) (r0.mono (zL (zL (zL r o) u) l)) (r1.mono (zL (zL (zL r o) u) l)) (r2.mono (zL (zL (zL r o) u) l)) (r3.mono (zL (zL (zL r o) u) l)) (r4.mono (zL (zL (zL r o) u) l)) (r5.mono (zL (zL (zL r o) u) l))) ?_
     rintro _ v5 ⟨rfl,j7⟩
     refine aU ?_
     rcases aG hm with ⟨j8,hm⟩|⟨j8,hm⟩
     ·refine bP j8 rfl (bC (aM (gE (k':=0+2) aIH (mQ rfl) y rfl) (aM (bU (t:=2) uC j7 y rfl rfl) (aT (v:=zS b3 c.trace.length b4) (aT (v:=zB true) (aU (jJ (bE (fE (bE (bE ?_)))))))))))
      have v6:=hr _ (zI hm).symm
      subst v6
      have hm:(some (c.trace,true))=some R:=ho
      clear hr ho
      obtain rfl:=zI hm
      exact fE (bE (bE (aOT results21 rfl rfl ⟨b0,b3,b4,rfl,(zL (zL (zL r o) u) l),(f3.mono l),(aD.arr 3 [] j7 rfl)⟩)))
     ·refine bT j8 rfl (cN (aC (bC (aR (v:=zS m d.length n) (aM (gU (len:=d.length) eM rfl) (aR (v:=i64 0) (aU (aK [2,3,4,8,9] (fun f w=>∃ f4 f5 g7 g8,Hp.le b0 f4/\aCY x f5=some i8/\f 10=zS g7 f5.length g8/\aD G f4 (aH 73 f4 g7 g8 f5::jP e x::aH 9 K m n d::L) w) ?_ ?_))))))))
      ·rintro f a48 ⟨f4,f5,g7,g8,v8,hm,v9,w0⟩
       unfold aCY at hm
       exact iC (aC ⟨bD,f4,x,f5,g7,g8,(zL l v8),hm,v9,w0⟩)
      have a49:aD G b0 (aH 73 b0 d3 d4 b8::jP e x::aH 9 K m n d::L) v5:=aD.weak (i:=0) j7 rfl (fun _ h=>aH.mono l h)
      obtain ⟨a50,w1,ho⟩:=aB hm
      refine bV [2,3,4,8,9,11,69,70] w1 (fun Z g9 f w=>∃ p a0 a2,Hp.le b0 p/\f 10=zS a0 Z.length a2/\f 71=i64 g9/\aD G p (aH 73 p a0 a2 Z::jP e x::aH 9 K m n d::L) w) aI ?_
      ·rintro Z g9 w2 f a52 hm hr ⟨p,a0,a2,q,w3,j9,k0⟩
       unfold lF at hm
       refine bC (aM (pD j9 rfl) (aU (bB ?_)))
       rcases aG hm with ⟨m8,hm⟩|⟨m8,hm⟩
       ·refine bP m8 rfl (cN (aC (bB (cA (bC ?_)))));obtain ⟨J,k1,hm⟩:=aB hm
        have w4:=bS k0 (i:=2) rfl k1
        refine aM (cS eM rfl w4 rfl rfl j9 k1) (aM (yC (t:=0) sc_9 k0 (i:=2) rfl k1 rfl rfl rfl) (aT (v:=str J) (aU (aY [2,3,4,8,9,11,69,70,71] (fun f w=>∃ f6 h0 h1 h2,Hp.le p f6/\aAo g9 h0=some w2/\f 10=zS h1 h0.length h2/\aD G f6 (aH 73 f6 h1 h2 h0::jP e x::aH 9 K m n d::L) w) ?_ ?_))))
        ·rintro f a53 ⟨f6,h0,h1,h2,w5,hm,w6,w7⟩
         unfold aAo at hm
         exact iC (aC (bR (aM (rO j9 rfl) (aR (v:=i64 (wr (g9+1))) (aU ⟨_,(zI hm).symm,bD,f6,h1,h2,(zL q w5),w6,rfl,w7⟩)))))
        refine oD (C:=fun w'=>∃ L',aD G p L' w') [] Tryz_mixed (by kernel_rfl) (fun a54 w8=>?_)
        have V:=aD.mono k0 w8
        refine gD (i:=0) rfl (by kernel_rfl) ⟨_,V⟩ (fun _ _=>cX w3) (gD (i:=1) rfl (by kernel_rfl) ⟨_,V⟩ (fun _ ⟨_,V⟩=>nA (t:=0) (vs:=l6) mS V (e8.mono (zL (zL (zL o u) l) q)) (mQ rfl) rfl rfl) (gD (i:=2) rfl (by kernel_rfl) ⟨_,V⟩ (fun _ _=>gE (k':=0+0) aFg (mQ rfl) (y.mono q) rfl) (gD (i:=3) rfl (by kernel_rfl) ⟨_,V⟩ (fun _ ⟨_,V⟩=>bU (t:=0) lD V (y.mono q) rfl rfl) (gD (i:=4) rfl (by kernel_rfl) ⟨_,V⟩ (fun _ _=>cX (v:=str J) rfl) (gD (i:=6) rfl (by kernel_rfl) ⟨_,V⟩ (fun _ ⟨_,V⟩=>nA (t:=0) (vs:=l5) mS V (e9.mono (zL (zL u l) q)) (mQ rfl) rfl rfl) (gD (i:=7) rfl (by kernel_rfl) ⟨_,V⟩ (fun _ _=>gE (k':=0+1) aGH (mQ rfl) (y.mono q) rfl) (gD (i:=8) rfl (by kernel_rfl) ⟨_,V⟩ (fun _ ⟨_,V⟩=>bU (t:=1) lD V (y.mono q) rfl rfl) (gD (i:=9) rfl (by kernel_rfl) ⟨_,V⟩ (fun _ _=>cX (v:=str J) rfl) (gD (i:=11) rfl (by kernel_rfl) ⟨_,V⟩ (fun _ _=>gE (k':=0+2) aIH (mQ rfl) (y.mono q) rfl) (gD (i:=12) rfl (by kernel_rfl) ⟨_,V⟩ (fun _ ⟨_,V⟩=>bU (t:=2) uC V (y.mono q) rfl rfl) (gD (i:=14) rfl (by kernel_rfl) ⟨_,V⟩ (fun _ _=>cX (v:=str J) rfl) (mR (i:=5) (j:=15) (by kernel_rfl) rfl rfl ?_ ?_))))))))))))
        ·obtain ⟨a3,w9,hm⟩:=aB hm
         refine bO (vs:=[zA (zCa a a1 c2 a4 c5),i64 c.a,str J]) call35 rfl (iK w9 V (h3.mono (zL (zL (zL (zL r o) u) l) q)) (h6.mono (zL (zL (zL (zL r o) u) l) q))) ?_
         rintro _ a55 ⟨rfl,k2⟩
         refine aL (aC ⟨fun _=>⟨_,k2⟩,?_⟩)
         refine mR (i:=10) (j:=15) (by kernel_rfl) rfl rfl ?_ ?_
         ·obtain ⟨a8,x0,hm⟩:=aB hm
          refine bO (vs:=[zA (zCa b a7 c8 a10 c11),i64 c.b,str J]) call35 rfl (iK x0 k2 (h9.mono (zL (zL (zL (zL r o) u) l) q)) (i1.mono (zL (zL (zL (zL r o) u) l) q))) ?_
          rintro _ a56 ⟨rfl,k3⟩
          refine aL (aC ⟨fun _=>⟨_,k3⟩,?_⟩)
          refine mR (i:=13) (j:=15) (by kernel_rfl) rfl rfl ?_ ?_
          ·obtain ⟨x1,x2,hm⟩:=aB hm
           refine bO (vs:=[zS b3 c.trace.length b4]) call31 rfl (cB x2 k3 (f3.mono (zL l q))) ?_
           rintro _ a57 ⟨x3,x4,rfl,m9⟩
           refine aL (aC ⟨fun _=>⟨_,m9⟩,?_⟩)
           refine aQ (i:=15) (by kernel_rfl) rfl (eR (Kt:=K) (xs:=([J]:List aJ)) (cs:=[str J]) (vs:=[(0,str J)]) eM aGf rfl rfl m9 rfl (by kernel_rfl) rfl rfl rfl ⟨rfl,trivial⟩ (fun x5 x6 (n0:aD G p (aH 9 K x5 1 ([J]:List aJ)::aH 9 K x3 x4 x1::aH 73 p a0 a2 Z::jP e x::aH 9 K m n d::L) x6)=>(aL (aC ⟨fun _=>⟨_,n0⟩,?_⟩))))
           refine aQ (i:=16) (by kernel_rfl) rfl ?_;obtain ⟨b9,x7,hm⟩:=aB hm
           refine rR (i:=0) eM underlying24 aGf rfl rfl n0 rfl (zL (zL (zL (zL r o) u) l) q) (zL (zL (zL (zL r o) u) l) q) x7 rfl rfl rfl rfl (fun _ h=>h) (fun d5 d6 n1 (k4:aD G p (aH 9 K d5 d6 b9::aH 73 p a0 a2 Z::jP e x::aH 9 K m n d::L) n1)=>(aL (aC ⟨fun _=>⟨_,k4⟩,?_⟩)))
           refine gD (i:=17) rfl (by kernel_rfl) ⟨_,k4⟩ (fun _ _=>cK (vs:=[(0,i64 a3),(1,i64 a8),(2,zS d5 b9.length d6)]) (cs:=[i64 a3,i64 a8,zS d5 b9.length d6]) aJZ rfl (by kernel_rfl)) (aQ (i:=18) (by kernel_rfl) rfl ?_);obtain ⟨c0,h4,x8,k5⟩:=aD.giveSp k4 (zL (zL (zL (zL r o) u) l) q) .head
           replace k5:aD G c0 (aH 73 p a0 a2 Z::jP e x::aH 9 K m n d::L) n1:=k5
           refine eR (Kt:=c0) (xs:=([⟨a3,a8,b9⟩]:List aN)) (cs:=[i64 a3,i64 a8,zS d5 b9.length d6]) (vs:=[(0,zA #[i64 a3,i64 a8,zS d5 b9.length d6])]) yE aEg rfl rfl k5 rfl (by kernel_rfl) rfl rfl rfl ⟨⟨d5,d6,rfl,x8⟩,trivial⟩ (fun x9 y0 (n2:aD G c0 (aH 73 c0 x9 1 ([⟨a3,a8,b9⟩]:List aN)::aH 73 p a0 a2 Z::jP e x::aH 9 K m n d::L) y0)=>(aL (aC ⟨fun _=>⟨_,(aD.weakK n2 h4)⟩,?_⟩)))
           refine aQ (i:=19) (by kernel_rfl) rfl ?_;obtain ⟨n3,y1,hm⟩:=aB hm
           refine aDs (i:=0) c0 yE underlying74 aEg rfl rfl n2 rfl h4 (zR _) y1 rfl rfl rfl rfl (fun _ _ _ h=>El.one h) (fun n4 n5 y2 (n6:aD G c0 (aH 73 c0 n4 n5 n3::jP e x::aH 9 K m n d::L) y2)=>(aL (aC ⟨fun _=>⟨_,(aD.weakK n6 h4)⟩,?_⟩)))
           exact gD (i:=20) rfl (by kernel_rfl) ⟨_,(aD.weakK n6 h4)⟩ (fun _ _=>fP (v:=zS n4 n3.length n5) rfl) (eX (by kernel_rfl) aI)
          ·refine eR (Kt:=K) (xs:=([J]:List aJ)) (cs:=[str J]) (vs:=[(0,str J)]) eM aGf rfl rfl k3 rfl (by kernel_rfl) rfl rfl rfl ⟨rfl,trivial⟩ (fun n7 y3 (n8:aD G p (aH 9 K n7 1 ([J]:List aJ)::aH 73 p a0 a2 Z::jP e x::aH 9 K m n d::L) y3)=>(aL (aC ⟨fun _=>⟨_,n8⟩,?_⟩)))
           refine aQ (i:=13) (by kernel_rfl) rfl ?_;obtain ⟨y4,y5,hm⟩:=aB hm
           refine bO (vs:=[zS b3 c.trace.length b4]) call31 rfl (cB y5 n8 (f3.mono (zL l q))) ?_
           rintro _ y6 ⟨y7,y8,rfl,n9⟩
           refine aL (aC ⟨fun _=>⟨_,n9⟩,?_⟩)
           refine aQ (i:=16) (by kernel_rfl) rfl ?_;obtain ⟨c1,y9,hm⟩:=aB hm
           have z0:aD G p (aH 9 K n7 1 ([J]:List aJ)::aH 9 K y7 y8 y4::aH 73 p a0 a2 Z::jP e x::aH 9 K m n d::L) y6:=(aD.arr 2 [1,0] n9 rfl)
           refine rR (i:=0) eM underlying24 aGf rfl rfl z0 rfl (zL (zL (zL (zL r o) u) l) q) (zL (zL (zL (zL r o) u) l) q) y9 rfl rfl rfl rfl (fun _ h=>h) (fun d7 d8 o0 (k6:aD G p (aH 9 K d7 d8 c1::aH 73 p a0 a2 Z::jP e x::aH 9 K m n d::L) o0)=>(aL (aC ⟨fun _=>⟨_,k6⟩,?_⟩)))
           refine gD (i:=17) rfl (by kernel_rfl) ⟨_,k6⟩ (fun _ _=>cK (vs:=[(0,i64 a3),(1,i64 a8),(2,zS d7 c1.length d8)]) (cs:=[i64 a3,i64 a8,zS d7 c1.length d8]) aJZ rfl (by kernel_rfl)) (aQ (i:=18) (by kernel_rfl) rfl ?_);obtain ⟨c3,h5,z1,k7⟩:=aD.giveSp k6 (zL (zL (zL (zL r o) u) l) q) .head
           replace k7:aD G c3 (aH 73 p a0 a2 Z::jP e x::aH 9 K m n d::L) o0:=k7
           refine eR (Kt:=c3) (xs:=([⟨a3,a8,c1⟩]:List aN)) (cs:=[i64 a3,i64 a8,zS d7 c1.length d8]) (vs:=[(0,zA #[i64 a3,i64 a8,zS d7 c1.length d8])]) yE aEg rfl rfl k7 rfl (by kernel_rfl) rfl rfl rfl ⟨⟨d7,d8,rfl,z1⟩,trivial⟩ (fun z2 z3 (o1:aD G c3 (aH 73 c3 z2 1 ([⟨a3,a8,c1⟩]:List aN)::aH 73 p a0 a2 Z::jP e x::aH 9 K m n d::L) z3)=>(aL (aC ⟨fun _=>⟨_,(aD.weakK o1 h5)⟩,?_⟩)))
           refine aQ (i:=19) (by kernel_rfl) rfl ?_;obtain ⟨o2,z4,hm⟩:=aB hm
           refine aDs (i:=0) c3 yE underlying74 aEg rfl rfl o1 rfl h5 (zR _) z4 rfl rfl rfl rfl (fun _ _ _ h=>El.one h) (fun o3 o4 z5 (o5:aD G c3 (aH 73 c3 o3 o4 o2::jP e x::aH 9 K m n d::L) z5)=>(aL (aC ⟨fun _=>⟨_,(aD.weakK o5 h5)⟩,?_⟩)))
           exact gD (i:=20) rfl (by kernel_rfl) ⟨_,(aD.weakK o5 h5)⟩ (fun _ _=>fP (v:=zS o3 o2.length o4) rfl) (eX (by kernel_rfl) aI)
         ·refine eR (Kt:=K) (xs:=([J]:List aJ)) (cs:=[str J]) (vs:=[(0,str J)]) eM aGf rfl rfl k2 rfl (by kernel_rfl) rfl rfl rfl ⟨rfl,trivial⟩ (fun o6 z6 (o7:aD G p (aH 9 K o6 1 ([J]:List aJ)::aH 73 p a0 a2 Z::jP e x::aH 9 K m n d::L) z6)=>(aL (aC ⟨fun _=>⟨_,o7⟩,?_⟩)))
          refine aQ (i:=10) (by kernel_rfl) rfl ?_;obtain ⟨d9,z7,hm⟩:=aB hm
          refine bO (vs:=[zA (zCa b a7 c8 a10 c11),i64 c.b,str J]) call35 rfl (iK z7 o7 (h9.mono (zL (zL (zL (zL r o) u) l) q)) (i1.mono (zL (zL (zL (zL r o) u) l) q))) ?_
          rintro _ a58 ⟨rfl,o8⟩
          refine aL (aC ⟨fun _=>⟨_,o8⟩,?_⟩)
          refine aQ (i:=13) (by kernel_rfl) rfl ?_;obtain ⟨z8,z9,hm⟩:=aB hm
          refine bO (vs:=[zS b3 c.trace.length b4]) call31 rfl (cB z9 o8 (f3.mono (zL l q))) ?_
          rintro _ a00 ⟨a01,a02,rfl,o9⟩
          refine aL (aC ⟨fun _=>⟨_,o9⟩,?_⟩)
          refine aQ (i:=16) (by kernel_rfl) rfl ?_;obtain ⟨c4,a03,hm⟩:=aB hm
          have a04:aD G p (aH 9 K o6 1 ([J]:List aJ)::aH 9 K a01 a02 z8::aH 73 p a0 a2 Z::jP e x::aH 9 K m n d::L) a00:=(aD.arr 2 [1,0] o9 rfl)
          refine rR (i:=0) eM underlying24 aGf rfl rfl a04 rfl (zL (zL (zL (zL r o) u) l) q) (zL (zL (zL (zL r o) u) l) q) a03 rfl rfl rfl rfl (fun _ h=>h) (fun e0 e1 p0 (k8:aD G p (aH 9 K e0 e1 c4::aH 73 p a0 a2 Z::jP e x::aH 9 K m n d::L) p0)=>(aL (aC ⟨fun _=>⟨_,k8⟩,?_⟩)))
          refine gD (i:=17) rfl (by kernel_rfl) ⟨_,k8⟩ (fun _ _=>cK (vs:=[(0,i64 a3),(1,i64 d9),(2,zS e0 c4.length e1)]) (cs:=[i64 a3,i64 d9,zS e0 c4.length e1]) aJZ rfl (by kernel_rfl)) (aQ (i:=18) (by kernel_rfl) rfl ?_);obtain ⟨c6,h7,a05,k9⟩:=aD.giveSp k8 (zL (zL (zL (zL r o) u) l) q) .head
          replace k9:aD G c6 (aH 73 p a0 a2 Z::jP e x::aH 9 K m n d::L) p0:=k9
          refine eR (Kt:=c6) (xs:=([⟨a3,d9,c4⟩]:List aN)) (cs:=[i64 a3,i64 d9,zS e0 c4.length e1]) (vs:=[(0,zA #[i64 a3,i64 d9,zS e0 c4.length e1])]) yE aEg rfl rfl k9 rfl (by kernel_rfl) rfl rfl rfl ⟨⟨e0,e1,rfl,a05⟩,trivial⟩ (fun a06 a07 (p1:aD G c6 (aH 73 c6 a06 1 ([⟨a3,d9,c4⟩]:List aN)::aH 73 p a0 a2 Z::jP e x::aH 9 K m n d::L) a07)=>(aL (aC ⟨fun _=>⟨_,(aD.weakK p1 h7)⟩,?_⟩)))
          refine aQ (i:=19) (by kernel_rfl) rfl ?_;obtain ⟨p2,a08,hm⟩:=aB hm
          refine aDs (i:=0) c6 yE underlying74 aEg rfl rfl p1 rfl h7 (zR _) a08 rfl rfl rfl rfl (fun _ _ _ h=>El.one h) (fun p3 p4 a09 (p5:aD G c6 (aH 73 c6 p3 p4 p2::jP e x::aH 9 K m n d::L) a09)=>(aL (aC ⟨fun _=>⟨_,(aD.weakK p5 h7)⟩,?_⟩)))
          exact gD (i:=20) rfl (by kernel_rfl) ⟨_,(aD.weakK p5 h7)⟩ (fun _ _=>fP (v:=zS p3 p2.length p4) rfl) (eX (by kernel_rfl) aI)
        ·refine eR (Kt:=K) (xs:=([J]:List aJ)) (cs:=[str J]) (vs:=[(0,str J)]) eM aGf rfl rfl V rfl (by kernel_rfl) rfl rfl rfl ⟨rfl,trivial⟩ (fun p6 a11 (p7:aD G p (aH 9 K p6 1 ([J]:List aJ)::aH 73 p a0 a2 Z::jP e x::aH 9 K m n d::L) a11)=>(aL (aC ⟨fun _=>⟨_,p7⟩,?_⟩)))
         refine aQ (i:=5) (by kernel_rfl) rfl ?_;obtain ⟨e2,a12,hm⟩:=aB hm
         refine bO (vs:=[zA (zCa a a1 c2 a4 c5),i64 c.a,str J]) call35 rfl (iK a12 p7 (h3.mono (zL (zL (zL (zL r o) u) l) q)) (h6.mono (zL (zL (zL (zL r o) u) l) q))) ?_
         rintro _ a59 ⟨rfl,p8⟩
         refine aL (aC ⟨fun _=>⟨_,p8⟩,?_⟩)
         refine aQ (i:=10) (by kernel_rfl) rfl ?_;obtain ⟨e3,a14,hm⟩:=aB hm
         refine bO (vs:=[zA (zCa b a7 c8 a10 c11),i64 c.b,str J]) call35 rfl (iK a14 p8 (h9.mono (zL (zL (zL (zL r o) u) l) q)) (i1.mono (zL (zL (zL (zL r o) u) l) q))) ?_
         rintro _ a60 ⟨rfl,p9⟩
         refine aL (aC ⟨fun _=>⟨_,p9⟩,?_⟩)
         refine aQ (i:=13) (by kernel_rfl) rfl ?_;obtain ⟨a15,a17,hm⟩:=aB hm
         refine bO (vs:=[zS b3 c.trace.length b4]) call31 rfl (cB a17 p9 (f3.mono (zL l q))) ?_
         rintro _ a18 ⟨a20,a21,rfl,q0⟩
         refine aL (aC ⟨fun _=>⟨_,q0⟩,?_⟩)
         refine aQ (i:=16) (by kernel_rfl) rfl ?_;obtain ⟨c7,a23,hm⟩:=aB hm
         have a24:aD G p (aH 9 K p6 1 ([J]:List aJ)::aH 9 K a20 a21 a15::aH 73 p a0 a2 Z::jP e x::aH 9 K m n d::L) a18:=(aD.arr 2 [1,0] q0 rfl)
         refine rR (i:=0) eM underlying24 aGf rfl rfl a24 rfl (zL (zL (zL (zL r o) u) l) q) (zL (zL (zL (zL r o) u) l) q) a23 rfl rfl rfl rfl (fun _ h=>h) (fun e4 e5 q1 (l0:aD G p (aH 9 K e4 e5 c7::aH 73 p a0 a2 Z::jP e x::aH 9 K m n d::L) q1)=>(aL (aC ⟨fun _=>⟨_,l0⟩,?_⟩)))
         refine gD (i:=17) rfl (by kernel_rfl) ⟨_,l0⟩ (fun _ _=>cK (vs:=[(0,i64 e2),(1,i64 e3),(2,zS e4 c7.length e5)]) (cs:=[i64 e2,i64 e3,zS e4 c7.length e5]) aJZ rfl (by kernel_rfl)) (aQ (i:=18) (by kernel_rfl) rfl ?_);obtain ⟨c9,h8,a26,l1⟩:=aD.giveSp l0 (zL (zL (zL (zL r o) u) l) q) .head
         replace l1:aD G c9 (aH 73 p a0 a2 Z::jP e x::aH 9 K m n d::L) q1:=l1
         refine eR (Kt:=c9) (xs:=([⟨e2,e3,c7⟩]:List aN)) (cs:=[i64 e2,i64 e3,zS e4 c7.length e5]) (vs:=[(0,zA #[i64 e2,i64 e3,zS e4 c7.length e5])]) yE aEg rfl rfl l1 rfl (by kernel_rfl) rfl rfl rfl ⟨⟨e4,e5,rfl,a26⟩,trivial⟩ (fun a27 a29 (q2:aD G c9 (aH 73 c9 a27 1 ([⟨e2,e3,c7⟩]:List aN)::aH 73 p a0 a2 Z::jP e x::aH 9 K m n d::L) a29)=>(aL (aC ⟨fun _=>⟨_,(aD.weakK q2 h8)⟩,?_⟩)))
         refine aQ (i:=19) (by kernel_rfl) rfl ?_;obtain ⟨q3,a30,hm⟩:=aB hm
         refine aDs (i:=0) c9 yE underlying74 aEg rfl rfl q2 rfl h8 (zR _) a30 rfl rfl rfl rfl (fun _ _ _ h=>El.one h) (fun q4 q5 a32 (q6:aD G c9 (aH 73 c9 q4 q5 q3::jP e x::aH 9 K m n d::L) a32)=>(aL (aC ⟨fun _=>⟨_,(aD.weakK q6 h8)⟩,?_⟩)))
         exact gD (i:=20) rfl (by kernel_rfl) ⟨_,(aD.weakK q6 h8)⟩ (fun _ _=>fP (v:=zS q4 q3.length q5) rfl) (eX (by kernel_rfl) aI)
       ·exact aI
   refine bR (aM (gE (k':=0+0) aFg (mQ rfl) y rfl) (aM (bU (t:=0) lD b5 y rfl rfl) (aM (pD rfl rfl) (aR (v:=zB (decide (c.a < 0))) ?_))))
   rcases aG hm with ⟨b6,hm⟩|⟨b6,hm⟩
   ·refine nS b6 rfl rfl (aM (gE (k':=0+1) aGH (mQ rfl) y rfl) (nS b6 rfl rfl (aM (bU (t:=1) lD b5 y rfl rfl) (nS b6 rfl rfl (aM (pD rfl rfl) (aM (wG (v:=zB (decide (c.b < 0))) b6 rfl rfl) (aR (v:=zB (decide (c.b < 0))) ?_)))))))
    rcases aG hm with ⟨b7,hm⟩|⟨b7,hm⟩
    ·exact aI
    ·exact fW b7 rfl rfl (aR (v:=zM (some e)) (fW b7 rfl rfl (aM (gE (k':=0+0) aFg (mQ rfl) y rfl) (fW b7 rfl rfl (aM (bU (t:=0) lD b5 y rfl rfl) (fW b7 rfl rfl (aM (gE (k':=0+1) aGH (mQ rfl) y rfl) (fW b7 rfl rfl (aM (bU (t:=1) lD b5 y rfl rfl) (fW b7 rfl rfl (aM (aME (vs:=[(0,i64 c.a),(1,i64 c.b)]) (cs:=[i64 c.a,i64 c.b]) ar_127 bz_127 rfl (by kernel_rfl)) (fW b7 rfl rfl (aM (R_look1 (kv:=a6) (k:=⟨c.a,c.b⟩) (z:=(false:Bool)) runUnderlying126 ko_127 zeroValue4 b5 (i:=1) rfl rfl rfl) (aM (yY (v:=zB ((vJ a6 ⟨c.a,c.b⟩).getD false)) b7 rfl rfl) (aU ⟨bD,((vJ a6 ⟨c.a,c.b⟩).getD false),hm,rfl,b5⟩)))))))))))))))
   ·exact aGd b6 rfl rfl (aGd b6 rfl rfl (aGd b6 rfl rfl (aM (yY (v:=zB false) b6 rfl rfl) (aR (v:=zB false) (fW (by decide:¬ false=true) rfl rfl (aR (v:=zM (some e)) (fW (by decide:¬ false=true) rfl rfl (aM (gE (k':=0+0) aFg (mQ rfl) y rfl) (fW (by decide:¬ false=true) rfl rfl (aM (bU (t:=0) lD b5 y rfl rfl) (fW (by decide:¬ false=true) rfl rfl (aM (gE (k':=0+1) aGH (mQ rfl) y rfl) (fW (by decide:¬ false=true) rfl rfl (aM (bU (t:=1) lD b5 y rfl rfl) (fW (by decide:¬ false=true) rfl rfl (aM (aME (vs:=[(0,i64 c.a),(1,i64 c.b)]) (cs:=[i64 c.a,i64 c.b]) ar_127 bz_127 rfl (by kernel_rfl)) (fW (by decide:¬ false=true) rfl rfl (aM (R_look1 (kv:=a6) (k:=⟨c.a,c.b⟩) (z:=(false:Bool)) runUnderlying126 ko_127 zeroValue4 b5 (i:=1) rfl rfl rfl) (aM (yY (v:=zB ((vJ a6 ⟨c.a,c.b⟩).getD false)) (by decide:¬ false=true) rfl rfl) (aU ⟨bD,((vJ a6 ⟨c.a,c.b⟩).getD false),hm,rfl,b5⟩))))))))))))))))))))
  ·exact aI
theorem aDo {a b:aZ} {R:(Bool × (List aJ) × Int)} (hm:sT a b=some R) (hs:aD G K (L) w) (hG:G.lo=0) (k:aW K a1 c2 a.S.L) (l:aW K a4 c5 a.S.E) (u:aW K a7 c8 a.Verdicts) (m:aW K a10 c11 b.S.L) (n:aW K a13 c14 b.S.E) (x:aW K a16 c17 b.Verdicts):
  Calls Tryz.prog 9 ([zA #[i64 a.S.N,i64 a.S.I,zS a1 a.S.L.length c2,zS a4 a.S.E.length c5,zS a7 a.Verdicts.length c8],zA #[i64 b.S.N,i64 b.S.I,zS a10 b.S.L.length c11,zS a13 b.S.E.length c14,zS a16 b.Verdicts.length c17]]:List Value).toArray w (dS fun v w'=>∃ e o p,v=zT #[zB R.1,zS o R.2.1.length p,i64 R.2.2]/\Hp.le K e/\aW e o p R.2.1/\aD G e (L) w'):=by
 let q:=[i64 b.S.N,i64 b.S.I,zS a10 b.S.L.length c11,zS a13 b.S.E.length c14,zS a16 b.Verdicts.length c17]
 refine cM func9 ?_;unfold sT at hm
 refine aF ?_;refine oE fun r b4 b5=>?_
 refine oE fun g b6 b7=>?_
 iterate 7 refine cE ?_
 refine aY [2,3] (fun f w=>∃ h,qV a b h=some R/\f 16=zB h/\aD G K (box g 32 q::box r 32 [i64 a.S.N,i64 a.S.I,zS a1 a.S.L.length c2,zS a4 a.S.E.length c5,zS a7 a.Verdicts.length c8]::L) w) ?_ ?_
 ·rintro f t ⟨h,hm,b8,y⟩
  unfold qV at hm
  refine aF ?_
  rcases aG hm with ⟨z,hm⟩|⟨z,hm⟩
  ·exact aI
  ·iterate 9 refine cE ?_
   refine aM (fF (vs:=[zP (some ⟨r,0,none⟩),zP (some ⟨g,0,none⟩)]) rfl) ?_;obtain ⟨J,d,V,i,_⟩:=aD.lendBp y (.tail .head)
   replace i:aD G J (box g 32 q::L) t:=i
   obtain ⟨Z,c,a0,j,_⟩:=aD.lendBp i .head
   replace j:aD G Z (L) t:=j
   obtain ⟨b9,a2,hm⟩:=aB hm
   refine cC call21 (aFw a2 j (k.mono (zL d c)) (l.mono (zL d c)) (m.mono (zL d c)) (n.mono (zL d c)) (V.mono c) (k.mono (zL d c)) (l.mono (zL d c)) (u.mono (zL d c)) a0 (m.mono (zL d c)) (n.mono (zL d c)) (x.mono (zL d c))) ?_
   rintro _ c0 ⟨a3,a5,a6,rfl,a8,a9,b0⟩
   refine aF ?_;obtain rfl:=zI hm
   exact jJ (retQ_3 results9 rfl rfl rfl ⟨a3,a5,a6,rfl,(zL (zL d c) a8),a9,b0⟩)
 exact aI
theorem yJ {a:(List Int)} {R:aJ} (hm:qW a=some R) (b:aD G K (L) w) (c:G.lo=0) (d:aW K a1 c2 a):
  Calls Tryz.prog 121 ([zS a1 a.length c2]:List Value).toArray w (dS fun v w'=>v=str R/\aD G K (L) w'):=by
 exact aI
theorem gS {d:(List (List Int))} {g:(List (aJ × Int))} {b:Nat} {a:(List fD)} {c:(List Int)} {R:(Int × (List (List Int)) × (List (aJ × Int)))} (hm:dR d g a c=some R) (Z:aD G K (aH 30 Kf a2 c3 d::jP b g::aH 154 K a5 c6 a::box b1 204 [zS a2 d.length c3,zM (some b),zS a5 a.length c6,Value.func (.func 121) #[] #[]]::L) w) (hG:G.lo=0) (a1:Hp.le Kf K) (m:aW Kf a7 c8 c):
  Calls Tryz.prog 148 ([zP (some ⟨b1,0,none⟩),zS a7 c.length c8]:List Value).toArray w (dS fun v w'=>∃ n o,v=i64 R.1/\aD G K (aH 30 Kf n o R.2.1::jP b R.2.2::aH 154 K a5 c6 a::box b1 204 [zS n R.2.1.length o,zM (some b),zS a5 a.length c6,Value.func (.func 121) #[] #[]]::L) w'):=by
 let j:=[zS a2 d.length c3,zM (some b),zS a5 a.length c6,Value.func (.func 121) #[] #[]]
 refine cM func148 ?_;unfold dR at hm
 refine aF ?_;obtain ⟨p,a3,hm⟩:=aB hm
 refine fR (vs:=[zS a7 c.length c8]) (caps:=[]) (us:=[zS a7 c.length c8]) rfl call121 rfl rfl (yJ a3 Z hG (m.mono a1)) ?_
 rintro _ b7 ⟨rfl,q⟩
 refine aF ?_;refine aM (aPd (kv:=g) (k:=p) (z:=(0:Int)) runUnderlying149 ko_9 zeroValue2 q (i:=1) rfl rfl rfl) ?_
 iterate 7 refine cE ?_
 refine mZ [] (fun f w=>∃ r l t u x,lT r l t=some R/\f 6=i64 r/\aD G K (aH 30 Kf u x l::jP b t::aH 154 K a5 c6 a::box b1 204 [zS u l.length x,zM (some b),zS a5 a.length c6,Value.func (.func 121) #[] #[]]::L) w) aI (aF ?_)
 rcases aG hm with ⟨a4,hm⟩|⟨a4,hm⟩
 ·refine aF ?_;obtain ⟨e,a6,hm⟩:=aB hm
  refine aHE (i:=1) (k:=p) (v:=(d.length:Int)) runUnderlying149 ko_9 q rfl rfl rfl rfl a6 (fun a8 (a9:aD G K (aH 30 Kf a2 c3 d::jP b e::aH 154 K a5 c6 a::box b1 204 j::L) a8)=>(aF ?_));refine eR (Kt:=Kf) (xs:=([c]:List (List Int))) (cs:=[zS a7 c.length c8]) (vs:=[(0,zS a7 c.length c8)]) tH aHI rfl rfl a9 rfl (by kernel_rfl) rfl rfl rfl ⟨⟨a7,c8,rfl,m⟩,trivial⟩ (fun b0 b2 (b3:aD G K (aH 30 Kf b0 1 ([c]:List (List Int))::aH 30 Kf a2 c3 d::jP b e::aH 154 K a5 c6 a::box b1 204 j::L) b2)=>?_)
  obtain ⟨y,b4,hm⟩:=aB hm
  refine aDs (i:=0) Kf tH underlying94 aHI rfl rfl b3 rfl (zR _) (zR _) b4 rfl rfl rfl rfl (fun _ _ _ h=>El.one h) (fun J V b5 (b8:aD G K (aH 30 Kf J V y::jP b e::aH 154 K a5 c6 a::box b1 204 j::L) b5)=>(aF ?_));refine gM fun b9 b6=>?_
  refine aF ?_;exact ⟨bD,(d.length:Int),y,e,J,V,hm,rfl,b6⟩
 ·exact aI
theorem wD {a:aJ} {next:(List Int)} {d:(List (List Int))} {o:(List (aJ × Int))} {b:Nat} {e:(List fD)} {p:Int} {q:Nat} {R:((List (List Int)) × (List (aJ × Int)) × (List fD))} (hm:kU a next d o e p=some R) (hs:aD G K (aH 30 Kf a6 c7 d::jP b o::aH 154 K a9 c10 e::box b5 204 [zS a6 d.length c7,zM (some b),zS a9 e.length c10,Value.func (.func 121) #[] #[]]::box b4 202 [zP (some ⟨b5,0,none⟩)]::L) w) (r:G.lo=0) (t:Hp.le Kf K) (u:aW Kf a1 c2 next) (c6:cT K a11 q [i64 p]):
  Calls Tryz.prog 149 ([str a,zS a1 next.length c2,zP (some ⟨b4,0,none⟩),cD a11 q]:List Value).toArray w (dS fun v w'=>∃ x y z J,v=zT #[]/\aD G K (aH 30 Kf x y R.1::jP b R.2.1::aH 154 K z J R.2.2::box b5 204 [zS x R.1.length y,zM (some b),zS z R.2.2.length J,Value.func (.func 121) #[] #[]]::box b4 202 [zP (some ⟨b5,0,none⟩)]::L) w'):=by
 refine cM func149 ?_;unfold kU at hm
 refine aY [] (fun f w=>∃ g V h Z a0 a2 a3,pF g V h=some R/\aD G K (aH 154 K a2 a3 h::aH 30 Kf Z a0 g::jP b V::box b5 204 [zS Z g.length a0,zM (some b),zS a2 h.length a3,Value.func (.func 121) #[] #[]]::box b4 202 [zP (some ⟨b5,0,none⟩)]::L) w) aI ?_;obtain ⟨b3,a4,c8,b6,k⟩:=aD.lendBp hs (.tail (.tail (.tail (.tail .head))))
 refine oD (C:=fun w'=>∃ L',aD G b3 L' w') [] Tryz_mixed (by kernel_rfl) (fun c9 b7=>?_)
 have l:=aD.mono b6 b7
 refine eV 0 ?_;refine eV 1 ?_
 refine eV 2 ?_;refine eV 3 ?_
 refine eV 5 ?_;refine eV 6 ?_
 refine eV 7 ?_;refine eV 8 ?_
 refine mR (i:=4) (j:=9) (by kernel_rfl) rfl rfl ?_ ?_
 ·iterate 1 refine cE ?_
  refine aL (aC ⟨fun _=>⟨_,l⟩,?_⟩)
  refine aQ (i:=9) (by kernel_rfl) rfl ?_;obtain ⟨m,b8,hm⟩:=aB hm
  refine cC call148 (gS (Kf:=Kf) b8 l r (zL t a4) u) ?_
  rintro _ d0 ⟨d1,d2,rfl,a5⟩
  refine aL (aC ⟨fun _=>⟨_,a5⟩,?_⟩)
  refine gD (i:=10) rfl (by kernel_rfl) ⟨_,a5⟩ (fun _ _=>cK (vs:=[(0,i64 p),(1,str a),(2,i64 m.1)]) (cs:=[i64 p,str a,i64 m.1]) aHK rfl (by kernel_rfl)) (aQ (i:=11) (by kernel_rfl) rfl (lI ([⟨p,a,m.1⟩]:List fD) fun d3 d4 b9=>?_));refine aL (aC ⟨fun _=>⟨_,b9⟩,?_⟩)
  refine aQ (i:=12) (by kernel_rfl) rfl ?_;obtain ⟨d5,d6,hm⟩:=aB hm
  refine aGF fun d7 c45 d8 c0=>?_;refine aL (aC ⟨fun _=>⟨_,c0⟩,?_⟩)
  refine eV 13 ?_;refine eV 14 ?_
  refine aQ (i:=15) (by kernel_rfl) rfl (gM fun d9 a7=>?_);refine aL (aC ⟨fun _=>⟨_,a7⟩,?_⟩)
  refine eX (by kernel_rfl) ?_
  have e0:=k _ _ a7
  exact aI
 ·obtain ⟨c,c1,hm⟩:=aB hm
  refine cC call148 (gS (Kf:=Kf) c1 l r (zL t a4) u) ?_
  rintro _ e1 ⟨e2,e3,rfl,n⟩
  refine aL (aC ⟨fun _=>⟨_,n⟩,?_⟩)
  refine gD (i:=10) rfl (by kernel_rfl) ⟨_,n⟩ (fun _ _=>cK (vs:=[(0,i64 p),(1,str a),(2,i64 c.1)]) (cs:=[i64 p,str a,i64 c.1]) aHK rfl (by kernel_rfl)) (mR (i:=4) (j:=11) (by kernel_rfl) rfl rfl ?_ ?_)
  ·iterate 1 refine cE ?_
   refine aL (aC ⟨fun _=>⟨_,n⟩,?_⟩)
   refine aQ (i:=11) (by kernel_rfl) rfl (lI ([⟨p,a,c.1⟩]:List fD) fun e4 e5 c3=>?_);refine aL (aC ⟨fun _=>⟨_,c3⟩,?_⟩)
   refine aQ (i:=12) (by kernel_rfl) rfl ?_;obtain ⟨e6,e7,hm⟩:=aB hm
   refine aGF fun e8 e9 f0 c4=>?_;refine aL (aC ⟨fun _=>⟨_,c4⟩,?_⟩)
   refine eV 13 ?_;refine eV 14 ?_
   refine aQ (i:=15) (by kernel_rfl) rfl (gM fun f1 a8=>?_);refine aL (aC ⟨fun _=>⟨_,a8⟩,?_⟩)
   refine eX (by kernel_rfl) ?_
   have f2:=k _ _ a8
   exact aI
  ·refine lI ([⟨p,a,c.1⟩]:List fD) fun f3 f4 b0=>?_;refine aL (aC ⟨fun _=>⟨_,b0⟩,?_⟩)
   refine aQ (i:=4) (by kernel_rfl) rfl ?_
   iterate 1 refine cE ?_
   refine aL (aC ⟨fun _=>⟨_,b0⟩,?_⟩)
   refine aQ (i:=12) (by kernel_rfl) rfl ?_;obtain ⟨f5,f6,hm⟩:=aB hm
   refine aGF fun f7 f8 f9 c5=>?_;refine aL (aC ⟨fun _=>⟨_,c5⟩,?_⟩)
   refine eV 13 ?_;refine eV 14 ?_
   refine aQ (i:=15) (by kernel_rfl) rfl (gM fun g0 b1=>?_);refine aL (aC ⟨fun _=>⟨_,b1⟩,?_⟩)
   refine eX (by kernel_rfl) ?_
   have g1:=k _ _ b1
   exact aI
theorem yK {s_:(List Int)} {n:(List (List Int))} {a2:(List (aJ × Int))} {a:Nat} {o:(List fD)} {b3:Int} {r:Nat} {p:aS} {b6:Nat} {R:(Bool × (List (List Int)) × (List (aJ × Int)) × (List fD))} (hm:mN s_ n a2 o b3 p=some R) (hs:aD G K (aH 30 Kf a6 c7 n::jP a a2::aH 154 K a9 c10 o::box b5 204 [zS a6 n.length c7,zM (some a),zS a9 o.length c10,Value.func (.func 121) #[] #[]]::box b4 202 [zP (some ⟨b5,0,none⟩)]::L) w) (hG:G.lo=0) (d8:Hp.le Kf K) (h3:aW K a1 c2 s_) (e0:cT K a11 r [i64 b3]) (f6:cT K a14 b6 (zC p a17 c18 a20 c21)) (a3:aW K a17 c18 p.L) (e1:aW K a20 c21 p.E):
  Calls Tryz.prog 122 ([zS a1 s_.length c2,Value.func (.func 149) #[] #[zP (some ⟨b4,0,none⟩),cD a11 r],cD a14 b6]:List Value).toArray w (dS fun v w'=>∃ K' b7 b8 b9 c0,v=zB R.1/\Hp.le K K'/\aD G K' (aH 30 K' b7 b8 R.2.1::jP a R.2.2.1::aH 154 K b9 c0 R.2.2.2::box b5 204 [zS b7 R.2.1.length b8,zM (some a),zS b9 R.2.2.2.length c0,Value.func (.func 121) #[] #[]]::box b4 202 [zP (some ⟨b5,0,none⟩)]::L) w'):=by
 let k:=[zP (some ⟨b5,0,none⟩)]
 refine cM func122 ?_;unfold mN at hm
 refine aF ?_;obtain ⟨f7,c1,hm⟩:=aB hm
 obtain ⟨f8,f9,c3⟩:=Cut.ex 1 a17 c18 1
 have e2:=aW.cut' a3 c1 c3
 refine aM (aBb eM a3.room c3 rfl rfl rfl c1) (aF ?_);refine aK [] (fun f w=>∃ a5 a7 c4 a8 c5 c6 c8 c9,Hp.le K a5/\sU a7 c4 a8=some R/\aD G a5 (aH 154 K c8 c9 a8::aH 30 a5 c5 c6 a7::jP a c4::box b5 204 [zS c5 a7.length c6,zM (some a),zS c8 a8.length c9,Value.func (.func 121) #[] #[]]::box b4 202 k::L) w) aI ?_
 have g0:aD G K (aH 30 K a6 c7 n::jP a a2::aH 154 K a9 c10 o::box b5 204 [zS a6 n.length c7,zM (some a),zS a9 o.length c10,Value.func (.func 121) #[] #[]]::box b4 202 k::L) w:=aD.weak (i:=0) hs rfl (fun _ h=>aH.mono d8 h)
 obtain ⟨g1,e3,ho⟩:=aB hm
 refine rV [0,1,2,11,12] e3 (fun b t c b0 f w=>∃ l d e g j,Hp.le K l/\f 13=i64 b0/\aD G l (aH 30 l d e b::jP a t::aH 154 K g j c::box b5 204 [zS d b.length e,zM (some a),zS g c.length j,Value.func (.func 121) #[] #[]]::box b4 202 k::L) w) aI ?_
 ·rintro b t c b0 e4 f g2 hm hr ⟨l,d,e,g,j,m,g3,e5⟩
  unfold gY at hm
  refine aF ?_
  rcases aG hm with ⟨e6,hm⟩|⟨e6,hm⟩
  ·refine aF ?_;refine aK [0,1,2,11,12,13] (fun f w=>∃ q u b1 x y z J V,Hp.le l q/\gX b0 u b1 x=some e4/\aD G q (aH 154 K J V x::aH 30 q y z u::jP a b1::box b5 204 [zS y u.length z,zM (some a),zS J x.length V,Value.func (.func 121) #[] #[]]::box b4 202 k::L) w) ?_ ?_
   ·rintro f g4 ⟨q,u,b1,x,y,z,J,V,e7,hm,g5⟩
    unfold gX at hm
    refine aF ?_;exact ⟨_,(zI hm).symm,bD,q,y,z,J,V,(zL m e7),rfl,lY⟩
   refine aF ?_;obtain ⟨d0,e8,hm⟩:=aB hm
   refine aF ?_;obtain ⟨g6,g7,e9⟩:=aW.el (sz:=1) rfl e2 e8
   cases e9
   refine aF ?_;obtain ⟨d1,f0,hm⟩:=aB hm
   refine cC call55 (aAC f0 e5 (a3.mono m) (e1.mono m) (h3.mono m)) ?_
   rintro _ d2 ⟨d3,d4,rfl,f1⟩
   refine aF ?_
   rcases aG hm with ⟨f2,hm⟩|⟨f2,hm⟩
   ·refine aF ?_;obtain ⟨Z,d5,f3,b2⟩:=aD.giveSp f1 m .head
    replace b2:aD G Z (aH 30 l d e b::jP a t::aH 154 K g j c::box b5 204 [zS d b.length e,zM (some a),zS g c.length j,Value.func (.func 121) #[] #[]]::box b4 202 k::L) d2:=b2
    have f4:aD G Z (aH 30 Z d e b::jP a t::aH 154 K g j c::box b5 204 [zS d b.length e,zM (some a),zS g c.length j,Value.func (.func 121) #[] #[]]::box b4 202 k::L) d2:=aD.weak (i:=0) b2 rfl (fun _ h=>aH.mono d5 h)
    obtain ⟨g8,f5,hm⟩:=aB hm
    exact fR (vs:=[str d0,zS d3 d1.length d4]) (caps:=[zP (some ⟨b4,0,none⟩),cD a11 r]) (us:=[str d0,zS d3 d1.length d4,zP (some ⟨b4,0,none⟩),cD a11 r]) rfl call149 rfl rfl (wD (Kf:=Z) f5 f4 hG (zR _) f3 (e0.mono (zL m d5))) aI
   ·exact aI
  ·exact aI
theorem aAh {first:(List Int)} {z:aS} {k5:Nat} {R:(aS × (List (List Int)) × Bool)} (hm:nN first z=some R) (hs:aD G K (L) w) (hG:G.lo=0) (h3:aW K a1 c2 first) (h6:cT K a4 k5 (zC z a7 c8 a10 c11)) (h9:aW K a7 c8 z.L) (g8:aW K a10 c11 z.E):
  Calls Tryz.prog 120 ([zS a1 first.length c2,Value.func (.func 121) #[] #[],Value.func (.func 122) #[] #[cD a4 k5]]:List Value).toArray w (dS fun v w'=>∃ K' e6 e7 e8 e9 f0 f1,v=zT #[zA (zCa R.1 e6 e7 e8 e9),zS f0 R.2.1.length f1,zB R.2.2]/\Hp.le K K'/\aD G K' (aH 9 K e6 e7 R.1.L::aH 52 K e8 e9 R.1.E::aH 30 K' f0 f1 R.2.1::L) w'):=by
 let k:=zG
 refine cM func120 ?_;unfold nN at hm
 refine aF ?_;refine iN fun l q6 g9=>?_
 refine aF ?_;refine aHD aJ Int g9 ?_
 intro a h0 (q7:aD G K (jP a ([]:(List (aJ × Int)))::box l 27 k::L) h0)
 iterate 1 refine cE ?_
 refine aM (cK (vs:=[(1,zM (some a)),(3,Value.func (.func 121) #[] #[])]) (cs:=[zS none 0 0,zM (some a),zS none 0 0,Value.func (.func 121) #[] #[]]) bs_204 rfl (by kernel_rfl)) (oE fun b q8 q9=>?_);refine iN fun c r0 r1=>?_
 refine gM fun h1 h2=>?_;refine aF ?_
 have h4:=aD.nil (α:=(List Int)) h2 30 K
 have r2:=aD.nil (α:=fD) h4 154 K
 have h5:aD G K (aH 30 K none 0 ([]:List (List Int))::jP a ([]:(List (aJ × Int)))::aH 154 K none 0 ([]:List fD)::box b 204 [zS none 0 0,zM (some a),zS none 0 0,Value.func (.func 121) #[] #[]]::box c 202 [zP (some ⟨b,0,none⟩)]::box l 27 k::L) h1:=lY
 obtain ⟨r3,h7,hm⟩:=aB hm
 refine cC call148 (gS (Kf:=K) h7 h5 hG (zR _) h3) ?_
 rintro _ r4 ⟨r5,r6,rfl,r7⟩
 refine aF ?_;refine iN fun r8 r9 s0=>?_
 refine gM fun s1 h8=>?_;refine aF ?_
 refine aK [6,9] (fun f w=>∃ a2 J c3 a3 b1 c45 b2 b3,Hp.le K a2/\kV J c3 a3=some R/\aD G a2 (aH 154 K b2 b3 a3::aH 30 a2 b1 c45 J::jP a c3::box b 204 [zS b1 J.length c45,zM (some a),zS b2 a3.length b3,Value.func (.func 121) #[] #[]]::box c 202 [zP (some ⟨b,0,none⟩)]::box l 27 k::L) w) ?_ ?_
 ·rintro f s2 ⟨a2,J,c3,a3,b1,c45,b2,b3,e,hm,i0⟩
  unfold kV at hm
  refine aF ?_;refine aY [6,9] (fun f w=>∃ a5 a6 V Z c9 b4 b5 b6 b7,nV J a5 a6 V Z=some R/\f 12=zP (some ⟨c9,0,none⟩)/\aD G a2 (aH 52 K b6 b7 Z::aH 9 K b4 b5 V::box c9 27 [i64 a5,i64 a6,zS b4 V.length b5,zS b6 Z.length b7]::aH 154 K b2 b3 a3::aH 30 a2 b1 c45 J::jP a c3::box b 204 [zS b1 J.length c45,zM (some a),zS b2 a3.length b3,Value.func (.func 121) #[] #[]]::box c 202 [zP (some ⟨b,0,none⟩)]::box l 27 k::L) w) ?_ ?_
  ·rintro f s3 ⟨a5,a6,V,Z,c9,b4,b5,b6,b7,hm,f2,i1⟩
   unfold nV at hm
   refine aF ?_;obtain ⟨s4,f3,f4,i2,s5⟩:=aD.lendBp i1 (.tail (.tail .head))
   obtain ⟨s6,c4,i3,i4,s7⟩:=aD.lendBp i2 (.tail (.tail (.tail (.tail (.tail .head)))))
   obtain ⟨s8,b8,i5,s9,t0⟩:=aD.lendBp i4 (.tail (.tail (.tail (.tail (.tail .head)))))
   refine wI [(0,0),(1,0),(2,0),(3,0),(4,0),(5,1),(6,1),(7,1),(8,2),(9,2)] fun t1 m=>?_;refine cI rfl (fun _ ⟨_,m⟩=>nA (t:=0) (vs:=[i64 a5,i64 a6,zS b4 V.length b5,zS b6 Z.length b7]) mS m (f4.mono (zL c4 b8)) f2 rfl rfl) (cI rfl (fun _ ⟨_,m⟩=>bU (t:=0) sc_202 m i5 rfl rfl) (cI rfl (fun _ _=>aOW rfl) (cI rfl (fun _ _=>dF (t':=0) aQA rfl rfl) (cI rfl (fun _ ⟨_,m⟩=>bU (t:=0) sc_94 m (i3.mono b8) rfl rfl) (eQ rfl (aM (nA (t:=0) (vs:=[i64 a5,i64 a6,zS b4 V.length b5,zS b6 Z.length b7]) mS m (f4.mono (zL c4 b8)) f2 rfl rfl) (aL (aC ⟨⟨_,m⟩,?_⟩))))))))
   refine eQ rfl ?_;obtain ⟨t2,i6,i7,i8,i9⟩:=aD.lendSp m (zL (zL (zL e f3) c4) b8) (.tail .head)
   obtain ⟨t3,j0,j1,j2,j3⟩:=aD.lendSp i8 (zL (zL (zL (zL e f3) c4) b8) i6) .head
   obtain ⟨t4,j4,hm⟩:=aB hm
   refine cC call48 (uM (t:=⟨a5,a6,V,Z⟩) j4 j2 hG (i7.mono j0) j1) ?_
   rintro _ t5 ⟨rfl,j5⟩
   have j6:=j3 _ _ j5
   have t6:=i9 _ _ j6
   exact aI
  obtain ⟨t7,x,d0,j7,d1⟩:=aD.lendBp i0 (.tail (.tail (.tail .head)))
  obtain ⟨j8,d,t8,j9,d2⟩:=aD.lendBp j7 (.tail (.tail (.tail .head)))
  refine oD (C:=fun w'=>∃ L',aD G j8 L' w') [16] Tryz_mixed (by kernel_rfl) (fun t9 k0=>?_)
  have g:=aD.mono j9 k0
  refine eV 0 ?_;refine eV 1 ?_
  refine eV 2 ?_;refine gD (i:=3) rfl (by kernel_rfl) ⟨_,g⟩ (fun _ ⟨_,g⟩=>bU (t:=0) sc_94 g (d0.mono d) rfl rfl) (eV 4 ?_)
  refine eV 5 ?_;refine eV 6 ?_
  refine eV 7 ?_;refine gD (i:=8) rfl (by kernel_rfl) ⟨_,g⟩ (fun _ ⟨_,g⟩=>bU (t:=2) aJy g (d0.mono d) rfl rfl) (eV 10 ?_)
  refine eV 11 ?_;refine eV 12 ?_
  refine gD (i:=13) rfl (by kernel_rfl) ⟨_,g⟩ (fun _ ⟨_,g⟩=>bU (t:=2) aJy g (d0.mono d) rfl rfl) (mR (i:=9) (j:=15) (by kernel_rfl) rfl rfl ?_ ?_)
  ·obtain ⟨u0,u1,k1,k2,k3⟩:=aD.lendSp g (zL (zL e x) d) .head
   obtain ⟨u2,k4,hm⟩:=aB hm
   refine cC call102 (nG k4 k2 k1) ?_
   rintro _ u3 ⟨u4,u5,rfl,k6⟩
   have f5:=k3 _ _ k6
   refine aL (aC ⟨fun _=>⟨_,f5⟩,?_⟩)
   refine mR (i:=14) (j:=15) (by kernel_rfl) rfl rfl ?_ ?_
   ·obtain ⟨u6,k7,k8,k9,l0⟩:=aD.lendSp f5 (zL (zL e x) d) (.tail .head)
    obtain ⟨u7,l1,l2,l3,l4⟩:=aD.lendSp k9 (zL (zL (zL e x) d) k7) .head
    obtain ⟨u8,l5,hm⟩:=aB hm
    refine cC call56 (jO l5 l3 (k8.mono l1) l2) ?_
    rintro _ u9 ⟨v0,v1,v2,v3,rfl,l6⟩
    have l7:=l4 _ _ l6
    have l8:=l0 _ _ l7
    refine aL (aC ⟨fun _=>⟨_,l8⟩,?_⟩)
    refine aQ (i:=15) (by kernel_rfl) rfl (iN fun v4 v5 f6=>?_);refine aL (aC ⟨fun _=>⟨_,f6⟩,?_⟩)
    refine aQ (i:=16) (by kernel_rfl) rfl ?_
    have l9:=d2 _ _ f6
    have v6:=d1 _ _ l9
    refine gM fun v7 v8=>?_;refine aL (aC ⟨aJs rfl,?_⟩)
    exact eX (by kernel_rfl) aI
   ·refine iN fun v9 w0 f7=>?_;refine aL (aC ⟨fun _=>⟨_,f7⟩,?_⟩)
    refine aQ (i:=14) (by kernel_rfl) rfl ?_;obtain ⟨w1,m0,m1,m2,m3⟩:=aD.lendSp f7 (zL (zL e x) d) (.tail (.tail .head))
    obtain ⟨w2,m4,m5,m6,m7⟩:=aD.lendSp m2 (zL (zL (zL e x) d) m0) (.tail .head)
    obtain ⟨w3,m8,hm⟩:=aB hm
    refine cC call56 (jO m8 m6 (m1.mono m4) m5) ?_
    rintro _ w4 ⟨w5,w6,w7,w8,rfl,m9⟩
    have n0:=m7 _ _ m9
    have f8:=m3 _ _ n0
    refine aL (aC ⟨fun _=>⟨_,f8⟩,?_⟩)
    refine aQ (i:=16) (by kernel_rfl) rfl ?_
    have n1:=d2 _ _ f8
    have w9:=d1 _ _ n1
    refine gM fun x0 x1=>?_;refine aL (aC ⟨aJs rfl,?_⟩)
    exact eX (by kernel_rfl) aI
  ·refine iN fun x2 x3 f9=>?_;refine aL (aC ⟨fun _=>⟨_,f9⟩,?_⟩)
   refine aQ (i:=9) (by kernel_rfl) rfl ?_;obtain ⟨x4,x5,n2,n3,n4⟩:=aD.lendSp f9 (zL (zL e x) d) (.tail .head)
   obtain ⟨x6,n5,hm⟩:=aB hm
   refine cC call102 (nG n5 n3 n2) ?_
   rintro _ x7 ⟨x8,x9,rfl,n6⟩
   have g0:=n4 _ _ n6
   refine aL (aC ⟨fun _=>⟨_,g0⟩,?_⟩)
   refine aQ (i:=14) (by kernel_rfl) rfl ?_;obtain ⟨y0,n7,n8,n9,o0⟩:=aD.lendSp g0 (zL (zL e x) d) (.tail .head)
   obtain ⟨y1,o1,o2,o3,o4⟩:=aD.lendSp n9 (zL (zL (zL e x) d) n7) .head
   obtain ⟨y2,o5,hm⟩:=aB hm
   refine cC call56 (jO o5 o3 (n8.mono o1) o2) ?_
   rintro _ y3 ⟨y4,y5,y6,y7,rfl,o6⟩
   have o7:=o4 _ _ o6
   have g1:=o0 _ _ o7
   refine aL (aC ⟨fun _=>⟨_,g1⟩,?_⟩)
   refine aQ (i:=16) (by kernel_rfl) rfl ?_
   have o8:=d2 _ _ g1
   have y8:=d1 _ _ o8
   refine gM fun y9 z0=>?_;refine aL (aC ⟨aJs rfl,?_⟩)
   exact eX (by kernel_rfl) aI
 have z1:=aD.nil (α:=fD) h8 154 K
 obtain ⟨z2,o9,ho⟩:=aB hm
 refine rV [2,6,9] o9 (fun n b9 o d3 f w=>∃ c0 p q r u a8,Hp.le K c0/\f 10=zP (some ⟨a8,0,none⟩)/\aD G c0 (aH 154 K r u o::box a8 3 [i64 d3]::aH 30 c0 p q n::jP a b9::box b 204 [zS p n.length q,zM (some a),zS r o.length u,Value.func (.func 121) #[] #[]]::box c 202 [zP (some ⟨b,0,none⟩)]::box l 27 k::L) w) aI ?_
 ·rintro n b9 o d3 p0 f z3 hm hr ⟨c0,p,q,r,u,a8,c5,g2,z4⟩
  unfold cR at hm
  refine aF ?_;refine aLO ?_
  refine aF ?_;refine wH (fun p1 p2=>(aF ?_))
  rcases aG hm with ⟨p3,hm⟩|⟨p3,hm⟩
  ·refine aF ?_;refine cA (aF ?_)
   obtain ⟨a0,a9,g3,d4,_⟩:=aD.lendBp p2 (.tail .head)
   replace d4:aD G a0 (aH 154 K r u o::aH 30 c0 p q n::jP a b9::box b 204 [zS p n.length q,zM (some a),zS r o.length u,Value.func (.func 121) #[] #[]]::box c 202 [zP (some ⟨b,0,none⟩)]::box l 27 k::L) p1:=d4
   refine oD (C:=fun w'=>∃ L',aD G a0 L' w') [] Tryz_mixed (by kernel_rfl) (fun g4 p4=>?_)
   have y:=aD.mono d4 p4
   refine eV 0 ?_;refine eV 5 ?_
   refine gD (i:=8) rfl (by kernel_rfl) ⟨_,y⟩ (fun _ _=>fF (vs:=[zP (some ⟨c,0,none⟩),cD (some ⟨a8,0,none⟩) 0]) (lst2 rfl (mQ g2))) (aQ (i:=1) (by kernel_rfl) rfl ?_)
   iterate 1 refine cE ?_
   refine aL (aC ⟨fun _=>⟨_,y⟩,?_⟩)
   refine eV 2 ?_;refine eV 3 ?_
   refine aQ (i:=4) (by kernel_rfl) rfl ?_
   iterate 1 refine cE ?_
   refine aL (aC ⟨fun _=>⟨_,y⟩,?_⟩)
   obtain ⟨d5,d6,hm⟩:=aB hm
   have p5:=bS y (i:=1) rfl d6
   refine gD (i:=6) rfl (by kernel_rfl) ⟨_,y⟩ (fun _ _=>cS tH rfl p5 rfl rfl rfl d6) (aQ (i:=7) (by kernel_rfl) rfl ?_);obtain ⟨z5,p6,p7⟩:=aJr (sz:=1) rfl y (i:=1) rfl d6
   obtain ⟨d7,d8,rfl,p8⟩:=p7
   refine aM (R_ldC (t:=0) (v:=zS d7 d5.length d8) aDi p6 rfl rfl) (aL (aC ⟨fun _=>⟨_,y⟩,?_⟩))
   refine aQ (i:=9) (by kernel_rfl) rfl ?_
   have z6:aD G a0 (aH 154 K r u o::aH 30 a0 p q n::jP a b9::box b 204 [zS p n.length q,zM (some a),zS r o.length u,Value.func (.func 121) #[] #[]]::box c 202 [zP (some ⟨b,0,none⟩)]::box l 27 k::L) g4:=aD.weak (i:=1) y rfl (fun _ h=>aH.mono a9 h)
   have p9:aD G a0 (aH 30 a0 p q n::jP a b9::aH 154 K r u o::box b 204 [zS p n.length q,zM (some a),zS r o.length u,Value.func (.func 121) #[] #[]]::box c 202 [zP (some ⟨b,0,none⟩)]::box l 27 k::L) g4:=lY
   obtain ⟨b0,q0,hm⟩:=aB hm
   refine fR (vs:=[zS d7 d5.length d8,Value.func (.func 149) #[] #[zP (some ⟨c,0,none⟩),cD (some ⟨a8,0,none⟩) 0]]) (caps:=[cD a4 k5]) (us:=[zS d7 d5.length d8,Value.func (.func 149) #[] #[zP (some ⟨c,0,none⟩),cD (some ⟨a8,0,none⟩) 0],cD a4 k5]) rfl call122 rfl rfl (yK (Kf:=a0) q0 p9 hG (zR _) (p8.mono a9) g3 (h6.mono (zL c5 a9)) (h9.mono (zL c5 a9)) (g8.mono (zL c5 a9))) ?_
   rintro _ z7 ⟨d9,e0,e1,e2,e3,rfl,e4,q1⟩
   refine aL (aC ⟨fun _=>⟨_,(aD.weakK q1 e4)⟩,?_⟩)
   refine eV 10 ?_;refine eX (by kernel_rfl) ?_
   iterate 2 refine cE ?_
   refine aY [2,6,9,10] (fun f w=>∃ e5,kX d3 b0 e5=some p0/\f 48=zB e5/\aD G d9 (aH 30 d9 e0 e1 b0.2.1::jP a b0.2.2.1::aH 154 K e2 e3 b0.2.2.2::box b 204 [zS e0 b0.2.1.length e1,zM (some a),zS e2 b0.2.2.2.length e3,Value.func (.func 121) #[] #[]]::box c 202 [zP (some ⟨b,0,none⟩)]::box l 27 k::L) w) ?_ ?_
   ·rintro f z8 ⟨e5,hm,z9,q2⟩
    unfold kX at hm
    refine aF ?_
    rcases aG hm with ⟨q3,hm⟩|⟨q3,hm⟩
    ·exact aI
    ·refine aF ?_;refine aM (bU (t:=0) sc_3 q2 (g3.mono e4) (mQ g2) rfl) (aU (bR (iN fun q4 a00 a01=>?_)))
     refine gM fun a02 a03=>?_;refine aF ?_
     refine gM fun a04 a05=>?_;refine aF ?_
     exact ⟨_,(zI hm).symm,bD,d9,e0,e1,e2,e3,q4,(zL (zL c5 a9) e4),rfl,lY⟩
   exact aI
  ·exact aI
theorem aGT {t:aS} {R:(aS × (List (List Int)) × Bool)} (hm:qX t=some R) (hs:aD G K (L) w) (hG:G.lo=0) (j:aW K a1 c2 t.L) (n:aW K a4 c5 t.E):
  Calls Tryz.prog 74 ([zA (zCa t a1 c2 a4 c5)]:List Value).toArray w (dS fun v w'=>∃ k o p q r u x,v=zT #[zA (zCa R.1 o p q r),zS u R.2.1.length x,zB R.2.2]/\Hp.le K k/\aD G k (aH 9 K o p R.1.L::aH 52 K q r R.1.E::aH 30 k u x R.2.1::L) w'):=by
 refine cM func74 ?_;unfold qX at hm
 refine aF ?_;refine oE fun y w8 f6=>?_
 refine iN fun z f7 f8=>?_;refine aF ?_
 refine lI ([t.I]:List Int) fun J f9 b1=>?_;obtain ⟨g0,V,b2,b3,b4⟩:=aD.lendSp b1 (zR _) .head
 obtain ⟨g1,b5,hm⟩:=aB hm
 refine cC call49 (lC b5 b3 (j.mono V) (n.mono V) b2) ?_
 rintro _ Z ⟨g2,g3,rfl,b6⟩
 have b8:=b4 _ _ b6
 refine aM (fF (vs:=[zP (some ⟨y,0,none⟩)]) rfl) ?_;obtain ⟨b9,b,c0,l⟩:=aD.giveSp b8 (zR _) (.tail .head)
 replace l:aD G b9 (aH 2 K J 1 ([t.I]:List Int)::box z 27 zG::box y 27 (zC t a1 c2 a4 c5)::L) Z:=l
 obtain ⟨c1,a,a0,m,_⟩:=aD.lendBp l (.tail (.tail .head))
 replace m:aD G c1 (aH 2 K J 1 ([t.I]:List Int)::box z 27 zG::L) Z:=m
 obtain ⟨d,c3,hm⟩:=aB hm
 refine cC call120 (aAh c3 m hG (c0.mono a) a0 (j.mono (zL b a)) (n.mono (zL b a))) ?_
 rintro _ g4 ⟨c4,c6,c7,c8,c9,a2,c45,rfl,c,g5⟩
 refine aF ?_;refine iN fun g6 g7 g8=>?_
 refine gM fun g9 d0=>?_;refine aF ?_
 rcases aG hm with ⟨d1,hm⟩|⟨d1,hm⟩
 ·exact aI
 ·refine aF ?_;obtain ⟨h0,e,d2,h1,d3⟩:=aD.lendBp d0 .head
  refine wI [(0,0),(1,0),(2,0),(3,0),(4,0),(7,0),(5,1),(6,1),(8,1),(9,2),(10,2)] fun h2 g=>?_;refine aF ?_
  refine cI rfl (fun _ ⟨_,g⟩=>bU (t:=2) uC g (a0.mono (zL c e)) rfl rfl) (cI rfl (fun _ ⟨_,g⟩=>nA (t:=0) (vs:=(zC d.1 c6 c7 c8 c9)) mS g d2 rfl rfl rfl) (cI rfl (fun _ _=>cX (v:=zS a2 d.2.1.length c45) rfl) (eQ rfl ?_)));obtain ⟨h4,d4,d5,d6,d7⟩:=aD.lendSp g (zL (zL (zL b a) c) e) .head
  obtain ⟨h5,d8,d9,e0,e1⟩:=aD.lendSp d6 (zL (zL (zL (zL b a) c) e) d4) .head
  obtain ⟨h7,e2,hm⟩:=aB hm
  refine cC call57 (aAr e2 e0 (d5.mono d8) d9) ?_
  rintro _ h8 ⟨h9,i0,rfl,e3⟩
  have e4:=e1 _ _ e3
  have a3:=d7 _ _ e4
  refine aL (aC ⟨⟨_,a3⟩,?_⟩)
  refine eQ rfl ?_;obtain ⟨i1,e5,e6,e7,e8⟩:=aD.lendSp a3 (zL (zL (zL b a) c) e) (.tail (.tail .head))
  obtain ⟨h,e9,hm⟩:=aB hm
  refine cC call56 (jO e9 e7 (j.mono (zL (zL (zL (zL b a) c) e) e5)) e6) ?_
  rintro _ i2 ⟨a5,a6,a7,a8,rfl,f0⟩
  have f1:=e8 _ _ f0
  refine aL (aC ⟨⟨_,f1⟩,?_⟩)
  refine eQ rfl (gM fun i3 a9=>?_);refine aL (aC ⟨⟨_,a9⟩,?_⟩)
  have f2:=d3 _ _ a9
  refine aFJ rfl (aF ?_);refine aFJ rfl (aF ?_)
  refine yO (aF ?_);obtain rfl:=zI hm
  exact jJ (aMa results74 (pR (vs:=(zC h a5 a6 a7 a8)) rfl mS f2 (i:=8) rfl rfl rfl) (aBX rfl rfl) (aBX rfl rfl) ⟨c4,a5,a6,a7,a8,a2,c45,rfl,(zL (zL b a) c),lY⟩)
theorem aGr {t:aS} {n:Int} {R:(aS × Int)} (hm:aFq t n=some R) (e:aD G K (L) w) (g:G.lo=0) (h:aW K a1 c2 t.L) (i:aW K a4 c5 t.E):
  Calls Tryz.prog 29 ([zA (zCa t a1 c2 a4 c5),i64 n]:List Value).toArray w (dS fun v w'=>∃ a b c d,v=zT #[zA (zCa R.1 a b c d),i64 R.2]/\aD G K (aH 9 K a b R.1.L::aH 52 K c d R.1.E::L) w'):=by
 exact aI
end Gv
namespace Gv
open Go.Value renaming slice→zS,bool→zB,agg→zA,tuple→zT
open Option.some renaming inj→zI
open Gv.Hp renaming le_trans→zL,le_refl→zR
open Go Go.Proofs Go.Proofs.Tryz
set_option maxRecDepth 20000
set_option maxHeartbeats 40000000
variable {G:Env} {K:Hp} {L:List iI} {w:World} {a1 a4 a7 a10 a13:Option Addr} {c2 c5 c8 c11 c14:Nat}
theorem aHq {t:aS} {n:Int} {R:((List (List aJ)) × Int)} (hm:aAA t n=some R) (hs:aD G K (L) w) (hG:G.lo=0) (h3:aW K a1 c2 t.L) (h6:aW K a4 c5 t.E):
  Calls Tryz.prog 11 ([zA (zCa t a1 c2 a4 c5),i64 n]:List Value).toArray w (dS fun v w'=>∃ K' j6 j7,v=zT #[zS j6 R.1.length j7,i64 R.2]/\Hp.le K K'/\aD G K' (aH 24 K' j6 j7 R.1::L) w'):=by
 let b9:=(zC t a1 c2 a4 c5)
 let f1:=[i64 0,i64 0,zS none 0 0]
 refine iT func11 rfl (by kernel_rfl) (by show (2:Nat)<=90;decide) ?_;unfold aAA at hm
 refine bC (aHx (v:=zA (zCa t a1 c2 a4 c5)) (vs:=b9) hs rfl rfl (fun b7 w8 j8=>(aT (v:=zS none 0 0) (aT (v:=i64 0) (aU (bC (aM (vK (us:=b9) mS j8 (i:=0) rfl rfl rfl rfl) (aR (v:=i64 n) ?_))))))));obtain ⟨c,n5,hm⟩:=aB hm
 refine bO (vs:=[zA (zCa t a1 c2 a4 c5),i64 n]) call29 rfl (aGr n5 j8 hG h3 h6) ?_
 rintro _ w1 ⟨a7,a8,a2,a3,rfl,n6⟩
 refine aR (v:=zT #[zA (zCa c.1 a7 a8 a2 a3),i64 c.2]) (aM (eC rfl rfl) (aM (eC rfl rfl) (fQ (vs:=zG) zeroValue27 n6 rfl (fun g7 w2 n7=>(kL (i:=0) (ns:=(zC c.1 a7 a8 a2 a3)) (us:=(zC c.1 a7 a8 a2 a3)) sizeOf27 n7 rfl rfl rfl rfl rfl (nI rfl) rfl rfl (fun f2 (n8:aD G K (box g7 27 (zC c.1 a7 a8 a2 a3)::aH 9 K a7 a8 c.1.L::aH 52 K a2 a3 c.1.E::box b7 27 b9::L) f2)=>?_))))));obtain ⟨n9,b1,g8,g9⟩:=aD.giveSp n8 (Hp.le_refl _) (.tail .head)
 replace g9:aD G n9 (box g7 27 (zC c.1 a7 a8 a2 a3)::aH 52 K a2 a3 c.1.E::box b7 27 b9::L) f2:=g9
 obtain ⟨o0,a5,o1,h0⟩:=aD.giveSp g9 b1 (.tail .head)
 replace h0:aD G o0 (box g7 27 (zC c.1 a7 a8 a2 a3)::box b7 27 b9::L) f2:=h0
 obtain ⟨d0,Z,h1,h2,_⟩:=aD.lendBp h0 .head
 replace h2:aD G d0 (box b7 27 b9::L) f2:=h2
 refine aT (v:=i64 c.2) (aU (bB (bC (aR (v:=i64 c.2) (aM (aIU rfl rfl) (aU ?_))))))
 rcases aG hm with ⟨j9,hm⟩|⟨j9,hm⟩
 ·exact aI
 ·refine bT j9 rfl (cN (aC (bC (aM (cK (vs:=[(0,i64 0)]) (cs:=f1) aJZ rfl (by kernel_rfl)) (eR (Kt:=d0) (xs:=([⟨0,0,[]⟩]:List aN)) (cs:=f1) (vs:=[(0,zA #[i64 0,i64 0,zS none 0 0])]) yE aEg rfl rfl h2 rfl (by kernel_rfl) rfl rfl rfl ⟨⟨none,0,rfl,aGC _⟩,trivial⟩ (fun k0 o2 (w3:aD G d0 (aH 73 d0 k0 1 ([⟨0,0,[]⟩]:List aN)::box b7 27 b9::L) o2)=>(aT (v:=zS k0 ([⟨0,0,[]⟩]:List aN).length 1) (aU (bB (bC (aT (v:=i64 0) (aU (aK [] (fun f w=>∃ V a0 b2 c45,Hp.le d0 V/\aCq a0=some R/\f 8=zS b2 a0.length c45/\aD G V (aH 73 V b2 c45 a0::L) w) ?_ ?_)))))))))))))
  ·rintro f w4 ⟨V,a0,b2,c45,o3,hm,k1,o4⟩
   unfold aCq at hm
   refine aC (bB (bC (cW k1 (aM (gU (len:=a0.length) yE rfl) (aM (aHv rfl rfl) (aU ?_))))))
   rcases aG hm with ⟨k2,hm⟩|⟨k2,hm⟩
   ·exact aI
   ·refine bT k2 rfl (cN (aC (bC (aT (v:=zS none 0 0) (aU (bB (bC (cW k1 (aM (gU (len:=a0.length) yE rfl) (aR (v:=i64 0) (aU (aK [] (fun f w=>∃ e3 e4 e5 e6,Hp.le V e3/\aFT e4=some R/\f 13=zS e5 e4.length e6/\aD G e3 (aH 24 e3 e5 e6 e4::L) w) ?_ ?_))))))))))))
    ·rintro f w5 ⟨e3,e4,e5,e6,o5,hm,o6,o7⟩
     unfold aFT at hm
     refine aC (bC (cW o6 (aT (v:=zS e5 e4.length e6) (aT (v:=i64 0) (aU ?_)))));obtain rfl:=zI hm
     exact jJ (aOT results11 rfl rfl ⟨e3,e5,e6,rfl,(zL (zL (zL (zL b1 a5) Z) o3) o5),o7⟩)
    have w6:=aD.nil (α:=(List aJ)) o4 24 V
    obtain ⟨w7,o9,ho⟩:=aB hm
    refine bV [77,78] o9 (fun d1 h4 f w=>∃ b3 d2 d3,Hp.le V b3/\f 13=zS d2 d1.length d3/\f 79=i64 h4/\aD G b3 (aH 24 b3 d2 d3 d1::aH 73 V b2 c45 a0::L) w) aI ?_
    ·rintro d1 h4 w9 f x0 hm hr ⟨b3,d2,d3,k3,p0,h5,h7⟩
     unfold oB at hm
     refine bC (aM (pD h5 rfl) (aU (bB ?_)))
     rcases aG hm with ⟨k4,hm⟩|⟨k4,hm⟩
     ·refine bP k4 rfl (cN (aC (bB (cA (bC ?_)))));obtain ⟨m,h8,hm⟩:=aB hm
      have p1:=bS h7 (i:=1) rfl h8
      refine aM (cS yE rfl p1 rfl rfl h5 h8) ?_;obtain ⟨x1,p2,p3⟩:=aJr (sz:=3) rfl h7 (i:=1) rfl h8
      obtain ⟨c0,c1,rfl,p4⟩:=p3
      refine aM (aMz (t:=0) (vs:=[i64 m.a,i64 m.b,zS c0 m.trace.length c1]) ag_73 p2 rfl rfl rfl) (fQ (vs:=f1) zeroValue73 h7 rfl (fun p5 x2 p6=>(kL (i:=0) (ns:=[i64 m.a,i64 m.b,zS c0 m.trace.length c1]) (us:=[i64 m.a,i64 m.b,zS c0 m.trace.length c1]) sizeOf73 p6 rfl rfl rfl rfl rfl (nI rfl) rfl rfl (fun k5 (p7:aD G b3 (box p5 73 [i64 m.a,i64 m.b,zS c0 m.trace.length c1]::aH 24 b3 d2 d3 d1::aH 73 V b2 c45 a0::L) k5)=>?_))))
      obtain ⟨b4,h9,k6,f3,_⟩:=aD.lendBp p7 .head
      replace f3:aD G b4 (aH 24 b3 d2 d3 d1::aH 73 V b2 c45 a0::L) k5:=f3
      refine aU (bR (cW p0 (aM (gE (k':=0+2) aIH (mQ rfl) k6 rfl) (aM (bU (t:=2) uC f3 k6 rfl rfl) (eR (Kt:=b4) (xs:=([m.trace]:List (List aJ))) (cs:=[zS c0 m.trace.length c1]) (vs:=[(0,zS c0 m.trace.length c1)]) aJb ez_24 rfl rfl f3 rfl (by kernel_rfl) rfl rfl rfl ⟨⟨c0,c1,rfl,(p4.mono (zL k3 h9))⟩,trivial⟩ (fun p8 p9 (q0:aD G b4 (aH 24 b4 p8 1 ([m.trace]:List (List aJ))::aH 24 b3 d2 d3 d1::aH 73 V b2 c45 a0::L) p9)=>?_))))))
      obtain ⟨k7,q1,hm⟩:=aB hm
      exact aDs (i:=0) b4 aJb underlying39 ez_24 rfl rfl q0 rfl h9 (Hp.le_refl _) q1 rfl rfl rfl rfl (fun _ _ _ h=>El.one h) (fun i0 i1 q2 (q3:aD G b4 (aH 24 b4 i0 i1 k7::aH 73 V b2 c45 a0::L) q2)=>(aT (v:=zS i0 k7.length i1) (aL (iC (aC (bR (aM (rO h5 rfl) (aR (v:=i64 (wr (h4+1))) (aU ⟨_,(zI hm).symm,bD,b4,i0,i1,(zL k3 h9),rfl,rfl,q3⟩)))))))))
     ·exact aI
  obtain ⟨x3,q4,ho⟩:=aB hm
  refine bV [1,6] q4 (fun a9 d4 f w=>∃ a6 b5 b6,Hp.le d0 a6/\f 8=zS b5 a9.length b6/\f 9=i64 d4/\aD G a6 (aH 73 a6 b5 b6 a9::L) w) aI ?_
  ·rintro a9 d4 i2 f x4 hm hr ⟨a6,b5,b6,x,q5,k8,x5⟩
   unfold kK at hm
   refine bB (bB (aY [1,6,8,9] (fun f w=>∃ i3,rL n c a9 d4 i3=some i2/\f 35=zB i3/\aD G a6 (aH 73 a6 b5 b6 a9::L) w) ?_ ?_))
   ·rintro f x6 ⟨i3,hm,q6,i4⟩
    unfold rL at hm
    refine aC ?_
    rcases aG hm with ⟨k9,hm⟩|⟨k9,hm⟩
    ·refine bP k9 q6 (cN (aC (bB (aK [1,6,9] (fun f w=>∃ e7 f4 f5 f6,Hp.le a6 e7/\vH d4 f4=some i2/\f 8=zS f5 f4.length f6/\aD G e7 (aH 73 e7 f5 f6 f4::L) w) ?_ ?_))))
     ·rintro f x7 ⟨e7,f4,f5,f6,q7,hm,q8,q9⟩
      unfold vH at hm
      exact aC (bR (cW k8 (aM (rO rfl rfl) (aT (v:=i64 (wr (d4+1))) (aU ⟨_,(zI hm).symm,bD,e7,f5,f6,(zL x q7),q8,rfl,q9⟩)))))
     refine bC (cW q5 (cW k8 ?_));obtain ⟨o,i5,hm⟩:=aB hm
     have r0:=bS i4 (i:=0) rfl i5
     refine aM (cS yE rfl r0 rfl rfl rfl i5) ?_;obtain ⟨x8,r1,r2⟩:=aJr (sz:=3) rfl i4 (i:=0) rfl i5
     obtain ⟨d5,d6,rfl,l0⟩:=r2
     refine aM (aMz (t:=0) (vs:=[i64 o.a,i64 o.b,zS d5 o.trace.length d6]) ag_73 r1 rfl rfl rfl) (fQ (vs:=f1) zeroValue73 i4 rfl (fun r3 x9 r4=>(kL (i:=0) (ns:=[i64 o.a,i64 o.b,zS d5 o.trace.length d6]) (us:=[i64 o.a,i64 o.b,zS d5 o.trace.length d6]) sizeOf73 r4 rfl rfl rfl rfl rfl (nI rfl) rfl rfl (fun i6 (r5:aD G a6 (box r3 73 [i64 o.a,i64 o.b,zS d5 o.trace.length d6]::aH 73 a6 b5 b6 a9::L) i6)=>?_))))
     obtain ⟨c3,g,d7,c4,_⟩:=aD.lendBp r5 .head
     replace c4:aD G c3 (aH 73 a6 b5 b6 a9::L) i6:=c4
     refine aU (bB (bC (aM (gE (k':=0+2) aIH (mQ rfl) d7 rfl) (aM (bU (t:=2) uC c4 d7 rfl rfl) (aM (gU (len:=o.trace.length) eM rfl) (aR (v:=i64 n) (aM (aHw rfl rfl) (aU ?_))))))))
     rcases aG hm with ⟨i7,hm⟩|⟨i7,hm⟩
     ·refine bP i7 rfl ?_
      have y0:aD G c3 (aH 73 c3 b5 b6 a9::L) i6:=aD.weak (i:=0) c4 rfl (fun _ h=>aH.mono g h)
      exact aI
     ·refine bT i7 rfl (cN (aC (bC (aM (nA (t:=0) (vs:=(zC c.1 a7 a8 a2 a3)) mS c4 (h1.mono (zL x g)) (mQ rfl) rfl rfl) (aM (gE (k':=0+0) aFg (mQ rfl) d7 rfl) (aM (bU (t:=0) lD c4 d7 rfl rfl) ?_))))));obtain ⟨k,r6,hm⟩:=aB hm
      refine bO (vs:=[zA (zCa c.1 a7 a8 a2 a3),i64 o.a]) call30 rfl (xC r6 c4 (g8.mono (zL (zL (zL a5 Z) x) g)) (o1.mono (zL (zL Z x) g))) ?_
      rintro _ r7 ⟨p,q,rfl,r8⟩
      refine aM (gU (len:=k.length) iY rfl) (aR (v:=i64 0) (aU (aK [1,6,9] (fun f w=>∃ e8 e9 f7 f8,Hp.le c3 e8/\aFU d4 e9=some i2/\f 8=zS f7 e9.length f8/\aD G e8 (aH 73 e8 f7 f8 e9::L) w) ?_ ?_)))
      ·rintro f y1 ⟨e8,e9,f7,f8,r9,hm,s0,s1⟩
       unfold aFU at hm
       exact iC (aC ⟨bD,e8,e9,f7,f8,(zL g r9),hm,s0,s1⟩)
      have y2:aD G c3 (aH 52 K p q k::aH 73 c3 b5 b6 a9::L) r7:=aD.weak (i:=1) r8 rfl (fun _ h=>aH.mono g h)
      obtain ⟨y3,s2,ho⟩:=aB hm
      refine bV [1,6,9,10,50,51] s2 (fun y f9 f w=>∃ r z J,Hp.le c3 r/\f 8=zS z y.length J/\f 52=i64 f9/\aD G r (aH 52 K p q k::aH 73 r z J y::L) w) aI ?_
      ·rintro y f9 s3 f y4 hm hr ⟨r,z,J,u,s4,i8,i9⟩
       unfold oC at hm
       refine bC (aM (pD i8 rfl) (aU (bB ?_)))
       rcases aG hm with ⟨l1,hm⟩|⟨l1,hm⟩
       ·refine bP l1 rfl (cN (aC (bB (cA (bC ?_)))));obtain ⟨d,j0,hm⟩:=aB hm
        have s5:=bS i9 (i:=0) rfl j0
        refine aM (cS iY rfl s5 rfl rfl i8 j0) (aM (R_ldOG (t:=0) (vs:=[i64 d.F,i64 d.B,i64 d.To]) ag_52 i9 (i:=0) rfl j0 rfl rfl rfl rfl) (fQ (vs:=[i64 0,i64 0,i64 0]) zeroValue52 i9 rfl (fun s6 y5 s7=>(kL (i:=0) (ns:=[i64 d.F,i64 d.B,i64 d.To]) (us:=[i64 d.F,i64 d.B,i64 d.To]) sizeOf52 s7 rfl rfl rfl rfl rfl (nI rfl) rfl rfl (fun l2 (s8:aD G r (box s6 52 [i64 d.F,i64 d.B,i64 d.To]::aH 52 K p q k::aH 73 r z J y::L) l2)=>?_)))))
        obtain ⟨b8,l,g0,j1,_⟩:=aD.lendBp s8 .head
        replace j1:aD G b8 (aH 52 K p q k::aH 73 r z J y::L) l2:=j1
        refine aU (aY [1,6,9,10,50,51,52] (fun f w=>∃ f0 g1 g2 g3,Hp.le b8 f0/\aCr f9 g1=some s3/\f 8=zS g2 g1.length g3/\aD G f0 (aH 73 f0 g2 g3 g1::aH 52 K p q k::L) w) ?_ ?_)
        ·rintro f y6 ⟨f0,g1,g2,g3,s9,hm,t0,t1⟩
         unfold aCr at hm
         exact iC (aC (bR (aM (rO i8 rfl) (aR (v:=i64 (wr (f9+1))) (aU ⟨_,(zI hm).symm,bD,f0,g2,g3,(zL (zL u l) s9),t0,rfl,(aD.arr 2 [1,0] t1 rfl)⟩)))))
        refine oD (C:=fun w'=>∃ L',aD G b8 L' w') [] Tryz_mixed (by kernel_rfl) (fun y7 t2=>?_)
        have e:=aD.mono j1 t2
        refine gD (i:=0) rfl (by kernel_rfl) ⟨_,e⟩ (fun _ _=>cX s4) (gD (i:=1) rfl (by kernel_rfl) ⟨_,e⟩ (fun _ _=>gE (k':=0+2) aID (mQ rfl) g0 rfl) (gD (i:=2) rfl (by kernel_rfl) ⟨_,e⟩ (fun _ ⟨_,e⟩=>bU (t:=2) lD e g0 rfl rfl) (gD (i:=3) rfl (by kernel_rfl) ⟨_,e⟩ (fun _ _=>gE (k':=0+2) aIH (mQ rfl) (d7.mono (zL u l)) rfl) (gD (i:=4) rfl (by kernel_rfl) ⟨_,e⟩ (fun _ ⟨_,e⟩=>bU (t:=2) uC e (d7.mono (zL u l)) rfl rfl) (gD (i:=6) rfl (by kernel_rfl) ⟨_,e⟩ (fun _ _=>gE (k':=0+2) vU (mQ rfl) (h1.mono (zL (zL (zL x g) u) l)) rfl) (gD (i:=7) rfl (by kernel_rfl) ⟨_,e⟩ (fun _ ⟨_,e⟩=>bU (t:=2) uC e (h1.mono (zL (zL (zL x g) u) l)) rfl rfl) (gD (i:=8) rfl (by kernel_rfl) ⟨_,e⟩ (fun _ _=>gE (k':=0+1) aDv (mQ rfl) g0 rfl) (gD (i:=9) rfl (by kernel_rfl) ⟨_,e⟩ (fun _ ⟨_,e⟩=>bU (t:=1) lD e g0 rfl rfl) ?_))))))))
        obtain ⟨b0,l3,hm⟩:=aB hm
        refine gD (i:=10) rfl (by kernel_rfl) ⟨_,e⟩ (fun _ _=>aLt eM rfl (g8.mono (zL (zL (zL (zL (zL a5 Z) x) g) u) l)) rfl rfl rfl l3) ?_;obtain ⟨y8,t3,t4⟩:=aW.el (sz:=1) rfl g8 l3
        cases t4
        refine gD (i:=11) rfl (by kernel_rfl) ⟨_,e⟩ (fun _ ⟨_,e⟩=>bU (t:=0) sc_9 e (t3.mono (zL (zL (zL (zL (zL a5 Z) x) g) u) l)) rfl rfl) (mR (i:=5) (j:=12) (by kernel_rfl) rfl rfl ?_ ?_)
        ·obtain ⟨t5,t6,hm⟩:=aB hm
         refine bO (vs:=[zS d5 o.trace.length d6]) call31 rfl (cB t6 e (l0.mono (zL (zL g u) l))) ?_
         rintro _ y9 ⟨t7,t8,rfl,l4⟩
         refine aL (aC ⟨fun _=>⟨_,l4⟩,?_⟩)
         refine aQ (i:=12) (by kernel_rfl) rfl (eR (Kt:=K) (xs:=([b0]:List aJ)) (cs:=[str b0]) (vs:=[(0,str b0)]) eM aGf rfl rfl l4 rfl (by kernel_rfl) rfl rfl rfl ⟨rfl,trivial⟩ (fun t9 u0 (l5:aD G b8 (aH 9 K t9 1 ([b0]:List aJ)::aH 9 K t7 t8 t5::aH 52 K p q k::aH 73 r z J y::L) u0)=>(aL (aC ⟨fun _=>⟨_,l5⟩,?_⟩))))
         refine aQ (i:=13) (by kernel_rfl) rfl ?_;obtain ⟨c6,u1,hm⟩:=aB hm
         refine rR (i:=0) eM underlying24 aGf rfl rfl l5 rfl (zL (zL (zL (zL (zL (zL b1 a5) Z) x) g) u) l) (zL (zL (zL (zL (zL (zL b1 a5) Z) x) g) u) l) u1 rfl rfl rfl rfl (fun _ h=>h) (fun d8 d9 l6 (j2:aD G b8 (aH 9 K d8 d9 c6::aH 52 K p q k::aH 73 r z J y::L) l6)=>(aL (aC ⟨fun _=>⟨_,j2⟩,?_⟩)))
         refine gD (i:=14) rfl (by kernel_rfl) ⟨_,j2⟩ (fun _ _=>cK (vs:=[(0,i64 d.To),(2,zS d8 c6.length d9)]) (cs:=[i64 d.To,i64 0,zS d8 c6.length d9]) aJZ rfl (by kernel_rfl)) (aQ (i:=15) (by kernel_rfl) rfl ?_);obtain ⟨c7,g4,u2,j3⟩:=aD.giveSp j2 (zL (zL (zL (zL (zL (zL b1 a5) Z) x) g) u) l) .head
         replace j3:aD G c7 (aH 52 K p q k::aH 73 r z J y::L) l6:=j3
         refine eR (Kt:=c7) (xs:=([⟨d.To,0,c6⟩]:List aN)) (cs:=[i64 d.To,i64 0,zS d8 c6.length d9]) (vs:=[(0,zA #[i64 d.To,i64 0,zS d8 c6.length d9])]) yE aEg rfl rfl j3 rfl (by kernel_rfl) rfl rfl rfl ⟨⟨d8,d9,rfl,u2⟩,trivial⟩ (fun u3 u4 (l7:aD G c7 (aH 73 c7 u3 1 ([⟨d.To,0,c6⟩]:List aN)::aH 52 K p q k::aH 73 r z J y::L) u4)=>(aL (aC ⟨fun _=>⟨_,(aD.weakK l7 g4)⟩,?_⟩)))
         refine aQ (i:=16) (by kernel_rfl) rfl ?_;obtain ⟨l8,u5,hm⟩:=aB hm
         refine aDs (i:=1) c7 yE underlying74 aEg rfl rfl l7 rfl (zL l g4) (Hp.le_refl _) u5 rfl rfl rfl rfl (fun _ _ _ h=>El.one h) (fun l9 m0 u6 (m1:aD G c7 (aH 52 K p q k::aH 73 c7 l9 m0 l8::L) u6)=>(aL (aC ⟨fun _=>⟨_,(aD.weakK m1 g4)⟩,?_⟩)))
         exact gD (i:=17) rfl (by kernel_rfl) ⟨_,(aD.weakK m1 g4)⟩ (fun _ _=>fP (v:=zS l9 l8.length m0) rfl) (eX (by kernel_rfl) aI)
        ·refine eR (Kt:=K) (xs:=([b0]:List aJ)) (cs:=[str b0]) (vs:=[(0,str b0)]) eM aGf rfl rfl e rfl (by kernel_rfl) rfl rfl rfl ⟨rfl,trivial⟩ (fun m2 u7 (m3:aD G b8 (aH 9 K m2 1 ([b0]:List aJ)::aH 52 K p q k::aH 73 r z J y::L) u7)=>(aL (aC ⟨fun _=>⟨_,m3⟩,?_⟩)))
         refine aQ (i:=5) (by kernel_rfl) rfl ?_;obtain ⟨u8,u9,hm⟩:=aB hm
         refine bO (vs:=[zS d5 o.trace.length d6]) call31 rfl (cB u9 m3 (l0.mono (zL (zL g u) l))) ?_
         rintro _ v0 ⟨v1,v2,rfl,m4⟩
         refine aL (aC ⟨fun _=>⟨_,m4⟩,?_⟩)
         refine aQ (i:=13) (by kernel_rfl) rfl ?_;obtain ⟨c8,v3,hm⟩:=aB hm
         have v4:aD G b8 (aH 9 K m2 1 ([b0]:List aJ)::aH 9 K v1 v2 u8::aH 52 K p q k::aH 73 r z J y::L) v0:=(aD.arr 2 [1,0] m4 rfl)
         refine rR (i:=0) eM underlying24 aGf rfl rfl v4 rfl (zL (zL (zL (zL (zL (zL b1 a5) Z) x) g) u) l) (zL (zL (zL (zL (zL (zL b1 a5) Z) x) g) u) l) v3 rfl rfl rfl rfl (fun _ h=>h) (fun e0 e1 m5 (j4:aD G b8 (aH 9 K e0 e1 c8::aH 52 K p q k::aH 73 r z J y::L) m5)=>(aL (aC ⟨fun _=>⟨_,j4⟩,?_⟩)))
         refine gD (i:=14) rfl (by kernel_rfl) ⟨_,j4⟩ (fun _ _=>cK (vs:=[(0,i64 d.To),(2,zS e0 c8.length e1)]) (cs:=[i64 d.To,i64 0,zS e0 c8.length e1]) aJZ rfl (by kernel_rfl)) (aQ (i:=15) (by kernel_rfl) rfl ?_);obtain ⟨c9,g5,v5,j5⟩:=aD.giveSp j4 (zL (zL (zL (zL (zL (zL b1 a5) Z) x) g) u) l) .head
         replace j5:aD G c9 (aH 52 K p q k::aH 73 r z J y::L) m5:=j5
         refine eR (Kt:=c9) (xs:=([⟨d.To,0,c8⟩]:List aN)) (cs:=[i64 d.To,i64 0,zS e0 c8.length e1]) (vs:=[(0,zA #[i64 d.To,i64 0,zS e0 c8.length e1])]) yE aEg rfl rfl j5 rfl (by kernel_rfl) rfl rfl rfl ⟨⟨e0,e1,rfl,v5⟩,trivial⟩ (fun v6 v7 (m6:aD G c9 (aH 73 c9 v6 1 ([⟨d.To,0,c8⟩]:List aN)::aH 52 K p q k::aH 73 r z J y::L) v7)=>(aL (aC ⟨fun _=>⟨_,(aD.weakK m6 g5)⟩,?_⟩)))
         refine aQ (i:=16) (by kernel_rfl) rfl ?_;obtain ⟨m7,v8,hm⟩:=aB hm
         refine aDs (i:=1) c9 yE underlying74 aEg rfl rfl m6 rfl (zL l g5) (Hp.le_refl _) v8 rfl rfl rfl rfl (fun _ _ _ h=>El.one h) (fun m8 m9 v9 (n0:aD G c9 (aH 52 K p q k::aH 73 c9 m8 m9 m7::L) v9)=>(aL (aC ⟨fun _=>⟨_,(aD.weakK n0 g5)⟩,?_⟩)))
         exact gD (i:=17) rfl (by kernel_rfl) ⟨_,(aD.weakK n0 g5)⟩ (fun _ _=>fP (v:=zS m8 m7.length m9) rfl) (eX (by kernel_rfl) aI)
       ·exact aI
    ·exact aI
   exact aI
theorem aDp {a:aJ} {R:Bool} (hm:aEx a=some R) (b:aD G K (L) w) (c:G.lo=0):
  Calls Tryz.prog 151 ([str a]:List Value).toArray w (dS fun v w'=>v=zB R/\aD G K (L) w'):=by
 exact aI
theorem vP {a:(List aJ)} {R:Int} (hm:fN a=some R) (m:aD G K (L) w) (d:G.lo=0) (e:aW K a1 c2 a):
  Calls Tryz.prog 197 ([zS a1 a.length c2,Value.func (.func 151) #[] #[]]:List Value).toArray w (dS fun v w'=>v=i64 R/\aD G K (L) w'):=by
 refine cM func197 ?_;unfold fN at hm
 refine aF ?_;refine aK [] (fun f w=>mO=some R/\aD G K (L) w) aI ?_
 obtain ⟨n,g,ho⟩:=aB hm
 refine dX [0,1,7] g (fun b f w=>f 8=i64 b/\aD G K (L) w) aI ?_
 ·rintro b o f p hm hr ⟨q,h⟩
  unfold dC at hm
  refine aF ?_
  rcases aG hm with ⟨i,hm⟩|⟨i,hm⟩
  ·refine aF ?_;refine cA (aF ?_)
   obtain ⟨c,j,hm⟩:=aB hm
   refine aF ?_;obtain ⟨r,t,k⟩:=aW.el (sz:=1) rfl e j
   cases k
   refine aF ?_;obtain ⟨u,l,hm⟩:=aB hm
   exact fR (vs:=[str c]) (caps:=[]) (us:=[str c]) rfl call151 rfl rfl (aDp l h d) aI
  ·exact aI
theorem tE {a:(List aJ)} {R:Bool} (hm:iH a=some R) (b:aD G K (L) w) (c:G.lo=0) (d:aW K a1 c2 a):
  Calls Tryz.prog 150 ([zS a1 a.length c2,Value.func (.func 151) #[] #[]]:List Value).toArray w (dS fun v w'=>v=zB R/\aD G K (L) w'):=by
 exact aI
theorem aLc {labels:(List aJ)} {R:Bool} (hm:aFr labels=some R) (a:aD G K (L) w) (b:G.lo=0) (c:aW K a1 c2 labels):
  Calls Tryz.prog 123 ([zS a1 labels.length c2]:List Value).toArray w (dS fun v w'=>v=zB R/\aD G K (L) w'):=by
 exact aI
theorem wE {a:(List aJ)} {b:aJ} {R:Bool} (hm:gC a b=some R) (c:aD G K (L) w) (d:aW K a1 c2 a):
  Calls Tryz.prog 124 ([zS a1 a.length c2,str b]:List Value).toArray w (dS fun v w'=>v=zB R/\aD G K (L) w'):=by
 exact aI
theorem aKm {a:(List aJ)} {R:Bool} (hm:tV a=some R) (c:aD G K (L) w) (d:G.lo=0) (e:aW K a1 c2 a):
  Calls Tryz.prog 75 ([zS a1 a.length c2]:List Value).toArray w (dS fun v w'=>v=zB R/\aD G K (L) w'):=by
 refine cM func75 ?_;unfold tV at hm
 iterate 6 refine cE ?_
 exact aY [] (fun f w=>∃ b,aCZ b=some R/\f 2=zB b/\aD G K (L) w) aI aI
theorem aEI {m:aZ} {a:(List aJ)} {R:Int} (hm:aFV m a=some R) (b:aD G K (L) w) (c:G.lo=0) (d:aW K a1 c2 m.S.L) (e:aW K a4 c5 m.S.E) (g:aW K a7 c8 m.Verdicts) (h:aW K a10 c11 a):
  Calls Tryz.prog 32 ([zA #[i64 m.S.N,i64 m.S.I,zS a1 m.S.L.length c2,zS a4 m.S.E.length c5,zS a7 m.Verdicts.length c8],zS a10 a.length c11]:List Value).toArray w (dS fun v w'=>v=i64 R/\aD G K (L) w'):=by
 exact aI
theorem aGU {m:aZ} {k:Int} {a:aJ} {R:Int} (hm:aBG m k a=some R) (b:aD G K (L) w) (c:aW K a1 c2 m.S.L) (d:aW K a4 c5 m.S.E) (e:aW K a7 c8 m.Verdicts):
  Calls Tryz.prog 33 ([zA #[i64 m.S.N,i64 m.S.I,zS a1 m.S.L.length c2,zS a4 m.S.E.length c5,zS a7 m.Verdicts.length c8],i64 k,str a]:List Value).toArray w (dS fun v w'=>v=i64 R/\aD G K (L) w'):=by
 exact aI
theorem aFx {m:aZ} {a:(List aJ)} {R:(Int × Int × Int)} (hm:aBH m a=some R) (x:aD G K (L) w) (j:G.lo=0) (k:aW K a1 c2 m.S.L) (l:aW K a4 c5 m.S.E) (n:aW K a7 c8 m.Verdicts) (o:aW K a10 c11 a):
  Calls Tryz.prog 12 ([zA #[i64 m.S.N,i64 m.S.I,zS a1 m.S.L.length c2,zS a4 m.S.E.length c5,zS a7 m.Verdicts.length c8],zS a10 a.length c11]:List Value).toArray w (dS fun v w'=>v=zT #[i64 R.1,i64 R.2.1,i64 R.2.2]/\aD G K (L) w'):=by
 let b:=[i64 m.S.N,i64 m.S.I,zS a1 m.S.L.length c2,zS a4 m.S.E.length c5,zS a7 m.Verdicts.length c8]
 refine cM func12 ?_;unfold aBH at hm
 refine aF ?_;refine oE fun c y p=>?_
 refine aF ?_;obtain ⟨z,q,hm⟩:=aB hm
 refine cC call32 (aEI q p j k l n o) ?_
 rintro _ J ⟨rfl,V⟩
 refine aF ?_
 rcases aG hm with ⟨r,hm⟩|⟨r,hm⟩
 ·exact aI
 ·refine aF ?_;refine aK [2] (fun f w=>∃ g h,aHl m g h=some R/\f 8=i64 g/\f 9=i64 h/\aD G K (box c 32 b::L) w) aI ?_
  obtain ⟨Z,t,ho⟩:=aB hm
  refine bV [1,2] t (fun d e f w=>f 8=i64 d/\f 9=i64 e/\aD G K (box c 32 b::L) w) aI ?_
  ·rintro d e u f a0 hm hr ⟨a2,a3,a5⟩
   unfold uK at hm
   iterate 2 refine cE ?_
   exact aY [1,2,8,9] (fun f w=>∃ i,uJ m a d e i=some u/\f 30=zB i/\aD G K (box c 32 b::L) w) aI aI
theorem aLd {t:aS} {a:(List aJ)} {R:(List Int)} (hm:aCK t a=some R) (J:aD G K (L) w) (l:aW K a1 c2 t.L) (m:aW K a4 c5 t.E) (V:aW K a7 c8 a):
  Calls Tryz.prog 76 ([zA (zCa t a1 c2 a4 c5),zS a7 a.length c8]:List Value).toArray w (dS fun v w'=>∃ c d,v=zS c R.length d/\aD G K (aH 2 K c d R::L) w'):=by
 refine cM func76 ?_;unfold aCK at hm
 refine aF ?_;refine oE fun n Z a0=>?_
 refine aF ?_;refine lI ([t.I]:List Int) fun a2 a3 o=>?_
 obtain ⟨a5,e,p,q,r⟩:=aD.lendSp o (Hp.le_refl _) .head
 obtain ⟨a6,u,hm⟩:=aB hm
 refine cC call49 (lC u q (l.mono e) (m.mono e) p) ?_
 rintro _ a8 ⟨a9,b0,rfl,x⟩
 have b1:=r _ _ x
 refine aF ?_;refine aK [] (fun f w=>∃ b g h,aHU b=some R/\f 5=zS g b.length h/\aD G K (aH 2 K g h b::L) w) aI ?_
 obtain ⟨b2,y,ho⟩:=aB hm
 exact bV [2,13,14] y (fun i z f w=>∃ j k,f 5=zS j i.length k/\f 15=i64 z/\aD G K (aH 2 K j k i::box n 27 (zC t a1 c2 a4 c5)::L) w) aI aI
theorem aFy {t:aS} {a:(List aJ)} {R:((List Int) × Int)} (hm:aDK t a=some R) (d:aD G K (L) w) (e:G.lo=0) (g:aW K a1 c2 t.L) (h:aW K a4 c5 t.E) (i:aW K a7 c8 a):
  Calls Tryz.prog 34 ([zA (zCa t a1 c2 a4 c5),zS a7 a.length c8]:List Value).toArray w (dS fun v w'=>∃ b c,v=zT #[zS b R.1.length c,i64 R.2]/\aD G K (aH 2 K b c R.1::L) w'):=by
 exact aI
theorem yV {t p:aS} {c:(List aJ)} {R:(Int × Int)} (hm:sV t p c=some R) (hs:aD G K (L) w) (k:G.lo=0) (d:aW K a1 c2 t.L) (e:aW K a4 c5 t.E) (g:aW K a7 c8 p.L) (h:aW K a10 c11 p.E) (l:aW K a13 c14 c):
  Calls Tryz.prog 13 ([zA (zCa t a1 c2 a4 c5),zA (zCa p a7 c8 a10 c11),zS a13 c.length c14]:List Value).toArray w (dS fun v w'=>v=zT #[i64 R.1,i64 R.2]/\aD G K (L) w'):=by
 let m:=(zC p a7 c8 a10 c11)
 let n:=(zC t a1 c2 a4 c5)
 refine cM func13 ?_;unfold sV at hm
 refine aF ?_;refine oE fun q e1 e2=>?_
 refine oE fun r e3 Z=>?_;refine aF ?_
 obtain ⟨e4,a0,hm⟩:=aB hm
 refine cC call17 (yT a0 Z k d e g h) ?_
 rintro _ e5 ⟨rfl,a2⟩
 refine aF ?_
 rcases aG hm with ⟨a3,hm⟩|⟨a3,hm⟩
 ·exact aI
 ·refine aF ?_;obtain ⟨a,a5,hm⟩:=aB hm
  refine cC call34 (aFy a5 a2 k d e l) ?_
  rintro _ e6 ⟨u,x,rfl,a6⟩
  refine aF ?_
  rcases aG hm with ⟨a8,hm⟩|⟨a8,hm⟩
  ·exact aI
  ·refine aF ?_;refine aK [3,4,9] (fun f w=>∃ j,qY t p a j=some R/\f 11=i64 j/\aD G K (aH 2 K u x a.1::box r 27 m::box q 27 n::L) w) ?_ ?_
   ·rintro f e7 ⟨j,hm,e8,a9⟩
    unfold qY at hm
    iterate 5 refine cE ?_
    refine aM (cK (vs:=[(0,zA (zCa t a1 c2 a4 c5)),(1,zA (zCa p a7 c8 a10 c11))]) (cs:=[i64 t.N,i64 t.I,zS a1 t.L.length c2,zS a4 t.E.length c5,i64 p.N,i64 p.I,zS a7 p.L.length c8,zS a10 p.E.length c11]) bs_56 rfl (by kernel_rfl)) ?_;obtain ⟨e9,b0,hm⟩:=aB hm
    refine cC call36 (vO (o:=⟨t,p⟩) b0 a9 d e g h) ?_
    rintro _ f0 ⟨f1,f2,f3,f4,f5,f6,rfl,b1,b2,b3⟩
    refine aF ?_;obtain ⟨f7,b4,b5,f8,b6,b7⟩:=aD.lendD' (i:=0) b3 b1 rfl rfl
    obtain ⟨f9,y,b8,g0,b9,c0⟩:=aD.lendD' (i:=0) b6 b2 rfl rfl
    obtain ⟨g1,z,c1,c3,c4⟩:=aD.lendSp b9 (zL b4 y) .head
    obtain ⟨g2,c6,hm⟩:=aB hm
    refine cC call37 (rA c6 c3 (b5.mono (zL y z)) (b8.mono z) c1) ?_
    rintro _ g3 ⟨rfl,c7⟩
    have c9:=c4 _ _ c7
    have d0:=c0 _ _ c9
    have g4:=b7 _ _ d0
    refine aF ?_;obtain rfl:=zI hm
    exact jJ (aOT results13 rfl rfl ⟨rfl,lY⟩)
   obtain ⟨g5,d2,ho⟩:=aB hm
   refine bV [3,4,9,31,32] d2 (fun b J f w=>f 11=i64 b/\f 33=i64 J/\aD G K (aH 2 K u x a.1::box r 27 m::box q 27 n::L) w) ?_ ?_
   ·exact ⟨rfl,rfl,a6⟩
   ·rintro b J g6 f g7 hm hr ⟨d3,g8,V⟩
    unfold jA at hm
    refine aF ?_
    rcases aG hm with ⟨d4,hm⟩|⟨d4,hm⟩
    ·refine aF ?_;refine cA (aF ?_)
     obtain ⟨g9,d5,hm⟩:=aB hm
     refine aF ?_;obtain ⟨h0,h1,d6⟩:=aW.el (sz:=1) rfl l d5
     cases d6
     refine aF ?_;obtain ⟨h2,d7,hm⟩:=aB hm
     refine cC call35 (iK d7 V g h) ?_
     rintro _ h4 ⟨rfl,d8⟩
     refine aF ?_;exact ⟨_,(zI hm).symm,bD,rfl,rfl,d8⟩
    ·refine aF ?_
     have d9:=hr _ (zI hm).symm
     subst d9
     have hm:(qY t p a b)=some R:=ho
     clear hr ho
     refine aF ?_;exact ⟨bD,b,hm,d3,V⟩
end Gv
