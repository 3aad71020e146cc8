/- Walks, printed by program. -/
import Derived.Test.YtmlemmpanilhjaaGreatDoorJWk3
set_option linter.all false
namespace Gv
open Gv.Hp renaming le_refl→zR
open Go.Value renaming slice→zS,bool→zB,agg→zA
open Option.some renaming inj→zI
open Gv.Hp renaming le_trans→zL
open Go Go.Proofs Go.Proofs.Tryz
set_option maxRecDepth 20000
set_option maxHeartbeats 40000000
variable {G:qG} {K:Hp} {L:List iZ} {w:World} {a1 a4 a7 a10 a13 a16:Option Addr} {c5 c8 c11 c14 c17 c2:Nat}
theorem aHv {s_:cW} {k2:Nat} {k:Int} {R:(iW × Bool)} (hm:lM s_ k=some R) (hs:aO G K (L) w) (h3:iQ K a1 k2 [zS a4 s_.Definitions.length c5,zS a7 s_.Components.length c8,zS a10 s_.Meetings.length c11,zS a13 s_.Allowed.length c14,zS a16 s_.Hidden.length c17]) (h6:cI K a4 c5 s_.Definitions) (h9:cI K a7 c8 s_.Components) (q1:cI K a10 c11 s_.Meetings) (q2:cI K a13 c14 s_.Allowed) (q3:cI K a16 c17 s_.Hidden):
  Calls prog 19 ([eN a1 k2,i64 k]:List Value).toArray w (eX fun v w'=>∃ m5 m6 m7 m8,v=Value.tuple #[zA (zCa R.1 m5 m6 m7 m8),zB R.2]/\aO G K (bI 9 K m5 m6 R.1.L::bI 94 K m7 m8 R.1.E::L) w'):=by
 let b:=zG
 refine aT func19 rfl (by kernel_rfl) (by show (2:Nat)<=114;decide) ?_;unfold lM at hm
 refine aL (dA (vs:=b) zeroValue31 hs rfl (fun d w20 q4=>(aD (v:=zB false) (aG (aL (aI (v:=eN a1 k2) ?_))))));obtain ⟨r22,q5,hm⟩:=aC hm
 refine aV (vs:=[eN a1 k2]) call43 rfl (aKH q5 q4 h3 h6 h9 q1 q2 q3) ?_
 rintro _ q6 ⟨K24,a26,c27,rfl,x,q7⟩
 obtain ⟨a8,y,m9,g0⟩:=aO.giveSp q7 (zR _) .head
 replace g0:aO G a8 (box d 31 b::L) q6:=g0
 refine aI (v:=i64 k) ?_;obtain ⟨z,n0,hm⟩:=aC hm
 refine aA (cQ rV rfl m9 rfl rfl rfl n0) ?_;obtain ⟨a32,q8,q9⟩:=cI.el (sz:=3) rfl m9 n0
 obtain ⟨g1,g2,rfl,r0⟩:=q9
 refine aA (eP (t:=0) (vs:=[i64 z.Definition,i64 z.Part,zS g1 z.Values.length g2]) aDW g0 q8 rfl rfl rfl) (gA (Kt:=a8) (xs:=([z]:List bO)) (cs:=[i64 z.Definition,i64 z.Part,zS g1 z.Values.length g2]) (vs:=[(0,zA #[i64 z.Definition,i64 z.Part,zS g1 z.Values.length g2])]) rV aHK rfl rfl g0 rfl (by kernel_rfl) rfl rfl rfl ⟨⟨g1,g2,rfl,r0⟩,trivial⟩ (fun g3 r1 (r2:aO G a8 (bI 83 a8 g3 1 ([z]:List bO)::box d 31 b::L) r1)=>(aD (v:=zS g3 ([z]:List bO).length 1) (aG (aL (gA (Kt:=K) (xs:=([]:List bL)) (cs:=[]) (vs:=[]) dQ aEz rfl rfl r2 rfl (by kernel_rfl) rfl rfl rfl trivial (fun j7 r3 (r4:aO G a8 (bI 9 K j7 0 ([]:List bL)::bI 83 a8 g3 1 ([z]:List bO)::box d 31 b::L) r3)=>(aD (v:=zS j7 ([]:List bL).length 0) (aG (aL (gA (Kt:=K) (xs:=([]:List Edge)) (cs:=[]) (vs:=[]) iD aIF rfl rfl r4 rfl (by kernel_rfl) rfl rfl rfl trivial (fun n1 r5 (a33:aO G a8 (bI 94 K n1 0 ([]:List Edge)::bI 9 K j7 0 ([]:List bL)::bI 83 a8 g3 1 ([z]:List bO)::box d 31 b::L) r5)=>(aD (v:=zS n1 ([]:List Edge).length 0) (aG (aP (aL (aD (v:=i64 0) (aG (bR [4] (fun f w=>∃ d1 b9 d2 d3 g4 g5 e2 e3 e4 e5,Hp.le a8 d1/\hJ b9 d2 d3=some R/\f 6=zS g4 b9.length g5/\f 7=zS e2 d2.length e3/\f 8=zS e4 d3.length e5/\aO G d1 (bI 94 K e4 e5 d3::bI 9 K e2 e3 d2::bI 83 d1 g4 g5 b9::box d 31 b::L) w) ?_ ?_)))))))))))))))))))
 ·rintro f w65 ⟨d1,b9,d2,d3,g4,g5,e2,e3,e4,e5,g6,hm,r6,r7,r8,r9⟩
  unfold hJ at hm
  refine aB (aL (bJ r6 (aA (bQ (len:=b9.length) rV rfl) (bJ r7 (bJ r8 ?_)))));obtain ⟨K67,s0,s1,s2,s3⟩:=aO.lendSp r9 (zL (zL x y) g6) zt1
  obtain ⟨K72,s4,s5,s6,s7⟩:=aO.lendSp s2 (zL (zL (zL x y) g6) s0) .head
  obtain ⟨o,s8,hm⟩:=aC hm
  refine aV (vs:=[i64 (b9.length:Int),i64 0,zS e2 d2.length e3,zS e4 d3.length e5]) call46 rfl (aLQ s8 s6 (s1.mono s4) s5) ?_
  rintro _ w83 ⟨e6,e7,e8,e9,rfl,s9⟩
  have t0:=s7 _ _ s9
  have t1:=s3 _ _ t0
  refine dA (vs:=b) zeroValue31 t1 rfl (fun n2 w88 t2=>(cT (i:=0) (ns:=(zC o e6 e7 e8 e9)) (us:=(zC o e6 e7 e8 e9)) sizeOf31 t2 rfl rfl rfl rfl rfl (eM rfl) rfl rfl (fun t3 (t4:aO G d1 (box n2 31 (zC o e6 e7 e8 e9)::bI 9 K e2 e3 d2::bI 94 K e4 e5 d3::bI 9 K e6 e7 o.L::bI 94 K e8 e9 o.E::bI 83 d1 g4 g5 b9::box d 31 b::L) t3)=>(aG (aP ?_)))));obtain ⟨t5,n3,n4,n5,t6⟩:=aO.lendBp t4 .head
  refine jN (C:=fun w'=>∃ L',aO G t5 L' w') [(0,0),(1,1),(2,2),(3,2)] cC (by kernel_rfl) (fun _ hg=>⟨_,aO.mono n5 hg⟩) (fun w97 t7=>?_)
  have j8:=aO.mono n5 t7
  refine dZ rfl (fun _ ⟨_,j8⟩=>eP (t:=0) (vs:=(zC o e6 e7 e8 e9)) kZ j8 n4 rfl rfl rfl) (qW rfl ?_);obtain ⟨a41,n6,t8,t9,u0⟩:=aO.lendSp j8 (zL (zL (zL x y) g6) n3) zt2
  obtain ⟨a43,n7,u1,u2,u3⟩:=aO.lendSp t9 (zL (zL (zL (zL x y) g6) n3) n6) zt2
  obtain ⟨a44,u4,hm⟩:=aC hm
  refine aV (vs:=[eN (some ⟨n2,0,none⟩) 0]) call47 rfl (aOz u4 u2 (n4.mono (zL n6 n7)) (t8.mono n7) u1) ?_
  rintro _ a46 ⟨rfl,u5⟩
  have u6:=u3 _ _ u5
  have n8:=u0 _ _ u6
  refine cG (aB ⟨⟨_,n8⟩,?_⟩)
  have a47:=t6 _ _ n8
  exact cA
 obtain ⟨a49,u7,ho⟩:=aC hm
 refine aIv [0,4] u7 (fun b5 c0 c1 p f w=>∃ a9 c2 d4 d5 d6 d7 d8,Hp.le a8 a9/\f 6=zS c2 b5.length d4/\f 7=zS d5 c0.length d6/\f 8=zS d7 c1.length d8/\f 9=i64 p/\aO G a9 (bI 94 K d7 d8 c1::bI 9 K d5 d6 c0::bI 83 a9 c2 d4 b5::box d 31 b::L) w) cA ?_
 ·rintro b5 c0 c1 p g7 f a50 hm hr ⟨a9,c2,d4,d5,d6,d7,d8,a2,j9,u8,u9,g8,k0⟩
  unfold gK at hm
  refine aP (aL (bJ g8 (bJ j9 (aA (bQ (len:=b5.length) rV rfl) (aA (cL rfl rfl) (aG ?_))))))
  rcases aH hm with ⟨k1,hm⟩|⟨k1,hm⟩
  ·refine aN k1 rfl (aX (aB (aP (bR [0,4,9] (fun f w=>∃ f0 g9 h0 h1 h2 h4 h5 h7 h8 i0,Hp.le a9 f0/\rY p g9 h0 h1=some g7/\f 6=zS h2 g9.length h4/\f 7=zS h5 h0.length h7/\f 8=zS h8 h1.length i0/\aO G f0 (bI 94 K h8 i0 h1::bI 9 K h5 h7 h0::bI 83 f0 h2 h4 g9::box d 31 b::L) w) ?_ ?_))))
   ·rintro f a51 ⟨f0,g9,h0,h1,h2,h4,h5,h7,h8,i0,v0,hm,v1,v2,v3,v4⟩
    unfold rY at hm
    exact aB (aW (bJ g8 (aA (cH rfl rfl) (aD (v:=i64 (wr (p+1))) (aG ⟨_,(zI hm).symm,aU,f0,h2,h4,h5,h7,h8,i0,(zL a2 v0),v1,v2,v3,rfl,v4⟩)))))
   refine aP (jN (C:=fun w'=>∃ L',aO G a9 L' w') [(0,0),(1,0),(2,0),(3,0),(4,0),(5,0),(6,0),(7,1),(8,0),(9,0),(10,0),(11,0),(12,0)] cC (by kernel_rfl) (fun _ hg=>⟨_,aO.mono k0 hg⟩) (fun v5 v6=>?_))
   have i1:=aO.mono k0 v6
   refine dZ rfl (fun _ _=>bM (v:=eN a1 k2) rfl) (dZ rfl (fun _ _=>dT rfl (h3.mono (zL (zL x y) a2))) (dZ rfl (fun _ _=>cM (k':=k2+0) yN rfl (h3.mono (zL (zL x y) a2)) rfl) (dZ rfl (fun _ ⟨_,i1⟩=>bZ (t:=0) aGo i1 (h3.mono (zL (zL x y) a2)) rfl rfl) (dZ rfl (fun _ _=>bM j9) (dZ rfl (fun _ _=>bM g8) ?_)))));obtain ⟨a52,k3,hm⟩:=aC hm
   have n9:=fD i1 (i:=2) rfl k3
   refine dZ rfl (fun _ _=>gQ rV rfl n9 rfl rfl rfl k3) (qW rfl ?_)
   have v7:aO G a9 (bI 83 a9 c2 d4 b5::bI 94 K d7 d8 c1::bI 9 K d5 d6 c0::box d 31 b::L) v5:=(aO.arr 3 [2,0,1] i1 rfl)
   obtain ⟨c,v8,hm⟩:=aC hm
   refine aV (vs:=[zS a4 s_.Definitions.length c5,eN c2 (p.toNat * 3+0)]) call44 rfl (aGL (Kf:=a9) v8 v7 (zR _) (h6.mono (zL (zL x y) a2)) k3 n9) ?_
   rintro _ a53 ⟨a,e,j,rfl,c3,o0⟩
   refine cG (aB ⟨⟨_,(aO.weakK o0 c3)⟩,?_⟩)
   refine dZ rfl (fun _ _=>bM (v:=Value.tuple #[zS e c.1.length j,zB c.2]) rfl) (dZ rfl (fun _ _=>dJ rfl rfl) (dZ rfl (fun _ _=>dJ rfl rfl) (dZ rfl (fun _ _=>gI (v:=zS e c.1.length j) rfl) (dZ rfl (fun _ _=>gI (v:=zB c.2) rfl) (sK (aB (aP (aL (aI (v:=zB c.2) (aA (dB rfl) (aG ?_)))))))))))
   rcases aH hm with ⟨k4,hm⟩|⟨k4,hm⟩
   ·refine aN k4 rfl (aL (aA (iJ (vs:=[]) (cs:=b) aGp rfl (by kernel_rfl)) (cT (i:=4) (ns:=b) (us:=b) sizeOf31 o0 rfl rfl rfl rfl rfl (eM rfl) rfl rfl (fun v9 (w0:aO G a (bI 92 a e j c.1::bI 83 a c2 d4 b5::bI 94 K d7 d8 c1::bI 9 K d5 d6 c0::box d 31 b::L) v9)=>(aD (v:=zB false) (aG (aY (aM (bA (aM (aM (aM ?_))))))))))))
    have w1:=hr _ (zI hm).symm
    subst w1
    have hm:(some (⟨0,0,[],[]⟩,false))=some R:=ho
    clear hr ho
    have w2:=aO.nil (α:=bL) w0 9 K
    have o1:=aO.nil (α:=Edge) w2 94 K
    obtain rfl:=zI hm
    exact bA (aM (aM (wK results19 (iV (vs:=b) rfl kZ o1 (i:=6) rfl rfl rfl) (uV rfl rfl) ⟨none,0,none,0,rfl,(aO.weakK (aO.arr 7 [1,0] o1 rfl) (zL (zL (zL x y) a2) c3))⟩)))
   ·refine aJ k4 rfl (aX (aB (aP (aL (aD (v:=i64 0) (aG (bR [0,4,9] (fun f w=>∃ c4 c6 c7 f1 f2 f3 f4 f5 f6,iL p c4 c6 c7=some g7/\f 6=zS f1 c4.length f2/\f 7=zS f3 c6.length f4/\f 8=zS f5 c7.length f6/\aO G a (bI 94 K f5 f6 c7::bI 9 K f3 f4 c6::bI 83 a f1 f2 c4::box d 31 b::L) w) ?_ ?_)))))))
    ·rintro f a55 ⟨c4,c6,c7,f1,f2,f3,f4,f5,f6,hm,a56,a58,a59,a61⟩
     unfold iL at hm
     refine aB (aP (cO [0,4,6,7,8,9] (fun f w=>∃ k5,kB p c4 c6 c7 k5=some g7/\f 105=zB k5/\aO G a (bI 94 K f5 f6 c7::bI 9 K f3 f4 c6::bI 83 a f1 f2 c4::box d 31 b::L) w) ?_ ?_))
     ·rintro f a62 ⟨k5,hm,w4,w5⟩
      unfold kB at hm
      refine aB ?_
      rcases aH hm with ⟨o2,hm⟩|⟨o2,hm⟩
      ·refine aN o2 w4 (aL (aA (iJ (vs:=[]) (cs:=b) aGp rfl (by kernel_rfl)) (cT (i:=3) (ns:=b) (us:=b) sizeOf31 w5 rfl rfl rfl rfl rfl (eM rfl) rfl rfl (fun w6 (w7:aO G a (bI 94 K f5 f6 c7::bI 9 K f3 f4 c6::bI 83 a f1 f2 c4::box d 31 b::L) w6)=>(aD (v:=zB false) (aG (aY (bA (aM (aM (aM ?_)))))))))))
       have w8:=hr _ (zI hm).symm
       subst w8
       have hm:(some (⟨0,0,[],[]⟩,false))=some R:=ho
       clear hr ho
       have w9:=aO.nil (α:=bL) w7 9 K
       have o3:=aO.nil (α:=Edge) w9 94 K
       obtain rfl:=zI hm
       exact bA (aM (aM (wK results19 (iV (vs:=b) rfl kZ o3 (i:=5) rfl rfl rfl) (uV rfl rfl) ⟨none,0,none,0,rfl,(aO.weakK (aO.arr 6 [1,0] o3 rfl) (zL (zL (zL x y) a2) c3))⟩)))
      ·exact cA
     exact cA
    obtain ⟨a63,x1,ho⟩:=aC hm
    refine aIv [0,4,9,10] x1 (fun l q n a3 f w=>∃ a5 b0 J V r u,f 6=zS a5 l.length b0/\f 7=zS J q.length V/\f 8=zS r n.length u/\f 12=i64 a3/\aO G a (bI 92 a e j c.1::bI 83 a a5 b0 l::bI 94 K r u n::bI 9 K J V q::box d 31 b::L) w) cA ?_
    ·rintro l q n a3 i2 f a64 hm hr ⟨a5,b0,J,V,r,u,d9,o4,o5,f7,o6⟩
     unfold kU at hm
     refine aP (aL (bJ f7 (aI (v:=zS e c.1.length j) (aA (bQ (len:=c.1.length) aBv rfl) (aA (cL rfl rfl) (aG ?_))))))
     rcases aH hm with ⟨k6,hm⟩|⟨k6,hm⟩
     ·refine aN k6 rfl (aX (aB (aP (bR [0,4,9,10,12] (fun f w=>∃ i3 i4 i5 i6 i7 i8 i9 j0 j1,rZ a3 i3 i4 i5=some i2/\f 6=zS i6 i3.length i7/\f 7=zS i8 i4.length i9/\f 8=zS j0 i5.length j1/\aO G a (bI 94 K j0 j1 i5::bI 9 K i8 i9 i4::bI 83 a i6 i7 i3::bI 92 a e j c.1::box d 31 b::L) w) ?_ ?_))))
      ·rintro f a65 ⟨i3,i4,i5,i6,i7,i8,i9,j0,j1,hm,x2,x3,x4,x5⟩
       unfold rZ at hm
       exact aB (aW (bJ f7 (aA (cH rfl rfl) (aD (v:=i64 (wr (a3+1))) (aG ⟨_,(zI hm).symm,aU,i6,i7,i8,i9,j0,j1,x2,x3,x4,rfl,(aO.arr 4 [3,2,0,1] x5 rfl)⟩)))))
      refine aL (aD (v:=i64 (-1)) (aG (aP (aL (aD (v:=i64 0) (aG (bR [0,4,6,7,8,9,10,12] (fun f w=>∃ j2,lT p c l q n a3 j2=some i2/\f 13=i64 j2/\aO G a (bI 92 a e j c.1::bI 83 a a5 b0 l::bI 94 K r u n::bI 9 K J V q::box d 31 b::L) w) ?_ ?_)))))))
      ·rintro f a66 ⟨j2,hm,o7,j3⟩
       unfold lT at hm
       refine aB (yI [0,4,7,8,9,10,12] (fun f w=>∃ b2 b3 b6 b7,lS p c q n a3 b2 b3=some i2/\f 6=zS b6 b2.length b7/\f 13=i64 b3/\aO G a (bI 83 a b6 b7 b2::bI 92 a e j c.1::bI 94 K r u n::bI 9 K J V q::box d 31 b::L) w) ?_ ?_)
       ·rintro f a67 ⟨b2,b3,b6,b7,hm,x6,x7,k7⟩
        unfold lS at hm
        refine aL (bJ o4 (aI (v:=zS e c.1.length j) (bJ f7 ?_)));obtain ⟨f8,k8,hm⟩:=aC hm
        have o8:=fD k7 (i:=1) rfl k8
        refine aA (gQ aBv rfl o8 rfl rfl rfl k8) (aA (lV (k':=a3.toNat * 4+0) aIE o8 rfl rfl) ?_);obtain ⟨a68,x8,x9⟩:=aOl (sz:=4) rfl k7 (i:=1) rfl k8
        obtain ⟨a69,a70,rfl,a71⟩:=x9
        refine aA (R_ldC (t:=0) (v:=str f8.B) fJ x8 rfl rfl) (gA (Kt:=K) (xs:=([f8.B]:List bL)) (cs:=[str f8.B]) (vs:=[(0,str f8.B)]) dQ aEz rfl rfl k7 rfl (by kernel_rfl) rfl rfl rfl ⟨rfl,trivial⟩ (fun y0 y1 (y2:aO G a (bI 9 K y0 1 ([f8.B]:List bL)::bI 83 a b6 b7 b2::bI 92 a e j c.1::bI 94 K r u n::bI 9 K J V q::box d 31 b::L) y1)=>?_));obtain ⟨Z,y3,hm⟩:=aC hm
        refine lB (i:=3) dQ underlying25 aEz rfl rfl y2 rfl (zL (zL (zL x y) a2) c3) (zL (zL (zL x y) a2) c3) y3 rfl rfl rfl rfl (fun _ h=>h) (fun e0 e1 y4 (y5:aO G a (bI 83 a b6 b7 b2::bI 92 a e j c.1::bI 94 K r u n::bI 9 K e0 e1 Z::box d 31 b::L) y4)=>(aD (v:=zS e0 Z.length e1) (aG (aW (bJ o5 (bJ g8 (aI (v:=zS e0 Z.length e1) (aA (bQ (len:=Z.length) dQ rfl) (aA (fU rfl rfl) (bJ x7 (aA (iJ (vs:=[(0,i64 p),(1,i64 (wr ((Z.length:Int) - 1))),(2,i64 b3)]) (cs:=[i64 p,i64 (wr ((Z.length:Int) - 1)),i64 b3]) bs_94 rfl (by kernel_rfl)) (gA (Kt:=K) (xs:=([⟨p,wr ((Z.length:Int) - 1),b3⟩]:List Edge)) (cs:=[i64 p,i64 (wr ((Z.length:Int) - 1)),i64 b3]) (vs:=[(0,zA #[i64 p,i64 (wr ((Z.length:Int) - 1)),i64 b3])]) iD aIF rfl rfl y5 rfl (by kernel_rfl) rfl rfl rfl ⟨rfl,trivial⟩ ?_))))))))))))
        intro y6 y7 (y8:aO G a (bI 94 K y6 1 ([⟨p,wr ((Z.length:Int) - 1),b3⟩]:List Edge)::bI 83 a b6 b7 b2::bI 92 a e j c.1::bI 94 K r u n::bI 9 K e0 e1 Z::box d 31 b::L) y7)
        obtain ⟨k9,y9,hm⟩:=aC hm
        exact lB (i:=2) iD underlying29 aIF rfl rfl y8 rfl (zL (zL (zL x y) a2) c3) (zL (zL (zL x y) a2) c3) y9 rfl rfl rfl rfl (fun _ h=>h) (fun l0 l1 z0 (z1:aO G a (bI 83 a b6 b7 b2::bI 92 a e j c.1::bI 94 K l0 l1 k9::bI 9 K e0 e1 Z::box d 31 b::L) z0)=>(aD (v:=zS l0 k9.length l1) (cG (bN (aB ⟨aU,b2,Z,k9,b6,b7,e0,e1,l0,l1,hm,x6,rfl,rfl,(aO.arr 4 [2,3,0,1] z1 rfl)⟩)))))
       refine aL (bJ o7 (aA (cL rfl rfl) (aG ?_)))
       rcases aH hm with ⟨l2,hm⟩|⟨l2,hm⟩
       ·refine aN l2 rfl (aL (bJ d9 (aA (bQ (len:=l.length) rV rfl) (aD (v:=i64 (l.length:Int)) (aG (aW (bJ d9 (aI (v:=zS e c.1.length j) (bJ f7 ?_)))))))));obtain ⟨a6,l3,hm⟩:=aC hm
        have o9:=fD j3 (i:=0) rfl l3
        refine aA (gQ aBv rfl o9 rfl rfl rfl l3) (aA (lV (k':=a3.toNat * 4+1) aHb o9 rfl rfl) ?_);obtain ⟨a72,z2,z3⟩:=aOl (sz:=4) rfl j3 (i:=0) rfl l3
        obtain ⟨j4,j5,rfl,z4⟩:=z3
        refine aA (R_ldCG (t:=1) (vs:=[i64 a6.Next.Definition,i64 a6.Next.Part,zS j4 a6.Next.Values.length j5]) aDW z2 rfl rfl rfl) (gA (Kt:=a) (xs:=([a6.Next]:List bO)) (cs:=[i64 a6.Next.Definition,i64 a6.Next.Part,zS j4 a6.Next.Values.length j5]) (vs:=[(0,zA #[i64 a6.Next.Definition,i64 a6.Next.Part,zS j4 a6.Next.Values.length j5])]) rV aHK rfl rfl j3 rfl (by kernel_rfl) rfl rfl rfl ⟨⟨j4,j5,rfl,z4⟩,trivial⟩ (fun z5 z6 (z7:aO G a (bI 83 a z5 1 ([a6.Next]:List bO)::bI 92 a e j c.1::bI 83 a a5 b0 l::bI 94 K r u n::bI 9 K J V q::box d 31 b::L) z6)=>?_))
        obtain ⟨l4,z8,hm⟩:=aC hm
        exact aGX (i:=1) a rV underlying84 aHK rfl rfl z7 rfl (zR _) (zR _) z8 rfl rfl rfl rfl (fun _ _ _ h=>El.one h) (fun l5 l6 z9 (a00:aO G a (bI 92 a e j c.1::bI 83 a l5 l6 l4::bI 94 K r u n::bI 9 K J V q::box d 31 b::L) z9)=>(aD (v:=zS l5 l4.length l6) (aG ⟨aU,l4,(l.length:Int),l5,l6,hm,rfl,rfl,(aO.arr 2 [1,0] a00 rfl)⟩)))
       ·exact aJ l2 rfl (aX (aB ⟨aU,l,j2,a5,b0,hm,d9,o7,(aO.arr 2 [1,0] j3 rfl)⟩))
      obtain ⟨a73,a01,ho⟩:=aC hm
      refine eG [0,4,6,7,8,9,10,12] a01 (fun b8 b4 f w=>f 13=i64 b8/\f 14=i64 b4/\aO G a (bI 92 a e j c.1::bI 83 a a5 b0 l::bI 94 K r u n::bI 9 K J V q::box d 31 b::L) w) ?_ ?_
      ·exact ⟨rfl,rfl,o6⟩
      ·rintro b8 b4 p0 f a74 hm hr ⟨l7,j6,p1⟩
       unfold iN at hm
       refine aP (aP (cO [0,4,6,7,8,9,10,12,13,14] (fun f w=>∃ l8,kC c l a3 b8 b4 l8=some p0/\f 57=zB l8/\aO G a (bI 92 a e j c.1::bI 83 a a5 b0 l::bI 94 K r u n::bI 9 K J V q::box d 31 b::L) w) ?_ ?_))
       ·rintro f a75 ⟨l8,hm,p2,p3⟩
        unfold kC at hm
        refine aB ?_
        rcases aH hm with ⟨l9,hm⟩|⟨l9,hm⟩
        ·refine aN l9 p2 (aX (aB (aP (bR [0,4,6,7,8,9,10,12,14] (fun f w=>∃ m0,nY b4 m0=some p0/\f 13=i64 m0/\aO G a (bI 92 a e j c.1::bI 83 a a5 b0 l::bI 94 K r u n::bI 9 K J V q::box d 31 b::L) w) ?_ ?_))))
         ·rintro f a76 ⟨m0,hm,a02,a03⟩
          unfold nY at hm
          exact aB (aW (bJ j6 (aA (cH rfl rfl) (aD (v:=i64 (wr (b4+1))) (aG ⟨_,(zI hm).symm,aU,a02,rfl,a03⟩)))))
         refine aP ?_;obtain ⟨a77,a04,p4,a05,a06⟩:=aO.lendSp p3 (zR _) .head
         obtain ⟨a07,p5,p6,b1,a08⟩:=aO.lendSp a05 a04 .head
         refine dF (C:=fun w'=>aO G a07 (bI 94 K r u n::bI 9 K J V q::box d 31 b::L) w') cC (by kernel_rfl) (aO.mono b1 (dY.drew _)) (aZ (fun _ b1=>bM d9) (aZ (fun _ b1=>bM j6) ?_));obtain ⟨a78,m1,hm⟩:=aC hm
         have a09:=aOk p6 m1
         refine aZ (fun _ b1=>gQ rV rfl a09 rfl rfl rfl m1) (aZ (fun _ b1=>bM (v:=zS e c.1.length j) rfl) (aZ (fun _ b1=>bM f7) ?_));obtain ⟨a80,m2,hm⟩:=aC hm
         have p7:=aOk (p4.mono p5) m2
         refine aZ (fun _ b1=>gQ aBv rfl p7 rfl rfl rfl m2) (aZ (fun _ b1=>lV (k':=a3.toNat * 4+1) aHb p7 rfl rfl) ?_);obtain ⟨a82,a11,a12⟩:=cI.el (sz:=3) rfl p6 m1
         obtain ⟨a83,a84,rfl,a14⟩:=a12
         obtain ⟨a85,a15,a17⟩:=cI.el (sz:=4) rfl (p4.mono p5) m2
         obtain ⟨a86,a87,rfl,a18⟩:=a17
         obtain ⟨a19,a20,hm⟩:=aC hm
         refine fH (vs:=[eN a5 (b4.toNat * 3+0),eN e (a3.toNat * 4+1)]) (v:=zB a19) call45 rfl (fun _ b1=>(aCg a20 b1 a11 a14 (iQ.sub (t:=1) (m:=3) a15 rfl) a18)) (dL (fun a88 a21=>?_))
         have a22:=a08 _ _ a21
         have p8:=a06 _ _ a22
         refine aB ?_
         rcases aH hm with ⟨m3,hm⟩|⟨m3,hm⟩
         ·exact aN m3 rfl (aW (bJ j6 (aD (v:=i64 b4) (cG (bN (aB ⟨aU,b4,hm,rfl,p8⟩))))))
         ·exact aJ m3 rfl (aX (bN (aB ⟨aU,b8,hm,l7,p8⟩)))
        ·refine aJ l9 p2 (cK (bF (bF ?_)))
         have a23:=hr _ (zI hm).symm
         subst a23
         have hm:(lT p c l q n a3 b8)=some i2:=ho
         clear hr ho
         exact bV (aB ⟨aU,b8,hm,l7,p3⟩)
       refine aW (bJ j6 (bJ d9 (aA (bQ (len:=l.length) rV rfl) (aA (cL rfl rfl) (aI (v:=zB (decide (b4 < (l.length:Int)))) ?_)))))
       rcases aH hm with ⟨c9,hm⟩|⟨c9,hm⟩
       ·exact bG c9 rfl rfl (bJ l7 (bG c9 rfl rfl (aA (cL rfl rfl) (aA (bH (v:=zB (decide (b8 < 0))) c9 rfl rfl) (aG ⟨aU,decide (b8 < 0),hm,rfl,p1⟩)))))
       ·exact bB c9 rfl rfl (bB c9 rfl rfl (aA (bK (v:=zB false) c9 rfl rfl) (aG ⟨aU,false,hm,rfl,p1⟩)))
     ·refine aJ k6 rfl (cK (bF (bF ?_)))
      have a24:=hr _ (zI hm).symm
      subst a24
      have hm:(iL p l q n)=some g7:=ho
      clear hr ho
      exact bV (aB ⟨aU,l,q,n,a5,b0,J,V,r,u,hm,d9,o4,o5,(aO.arr 4 [2,3,1] o6 rfl)⟩)
  ·refine aJ k1 rfl (cK (bF (bF ?_)))
   have a25:=hr _ (zI hm).symm
   subst a25
   have hm:(hJ b5 c0 c1)=some R:=ho
   clear hr ho
   exact bV (aB ⟨aU,a9,b5,c0,c1,c2,d4,d5,d6,d7,d8,a2,hm,j9,u8,u9,k0⟩)
theorem aHw {a:cW} {k:Int} {R:(iW × Int)} (hm:sX a k=some R) (u:aO G K (L) w) (d:cI K a1 c2 a.Definitions) (e:cI K a4 c5 a.Components) (g:cI K a7 c8 a.Meetings) (h:cI K a10 c11 a.Allowed) (j:cI K a13 c14 a.Hidden):
  Calls prog 5 ([zA #[zS a1 a.Definitions.length c2,zS a4 a.Components.length c5,zS a7 a.Meetings.length c8,zS a10 a.Allowed.length c11,zS a13 a.Hidden.length c14],i64 k]:List Value).toArray w (eX fun v w'=>∃ l m n o,v=Value.tuple #[zA (zCa R.1 l m n o),i64 R.2]/\aO G K (bI 9 K l m R.1.L::bI 94 K n o R.1.E::L) w'):=by
 refine aT func5 rfl (by kernel_rfl) (by show (2:Nat)<=28;decide) ?_;unfold sX at hm
 refine aL (dR (v:=zA #[zS a1 a.Definitions.length c2,zS a4 a.Components.length c5,zS a7 a.Meetings.length c8,zS a10 a.Allowed.length c11,zS a13 a.Hidden.length c14]) (vs:=[zS a1 a.Definitions.length c2,zS a4 a.Components.length c5,zS a7 a.Meetings.length c8,zS a10 a.Allowed.length c11,zS a13 a.Hidden.length c14]) u rfl rfl (fun p a9 x=>(dA (vs:=zG) zeroValue31 x rfl (fun b0 b1 y=>(aD (v:=i64 0) (aG (aP (aL ?_))))))))
 obtain ⟨b2,b,z,J,V⟩:=aO.lendBp y zt1
 obtain ⟨b3,Z,hm⟩:=aC hm
 refine aV (vs:=[eN (some ⟨p,0,none⟩) 0]) call17 rfl (aOw Z J z (d.mono b) (e.mono b) (g.mono b) (h.mono b) (j.mono b)) ?_
 rintro _ b4 ⟨rfl,a0⟩
 have q:=V _ _ a0
 refine aA (dB rfl) (aG ?_)
 rcases aH hm with ⟨r,hm⟩|⟨r,hm⟩
 ·exact cA
 ·refine aJ r rfl (aX (aB (aP (aL (aI (v:=i64 k) (aA (bC (t':=1) qJ rfl rfl) (aA (bP aDV q (i:=0) rfl rfl rfl) (aA (bQ (len:=a.Components.length) sL rfl) (aA (fU rfl rfl) ?_)))))))));obtain ⟨b5,a2,hm⟩:=aC hm
  refine aV (vs:=[i64 k,i64 0,i64 (wr ((a.Components.length:Int) - 1))]) call18 rfl (gY a2 q) ?_
  rintro _ b6 ⟨rfl,a3⟩
  refine aA (dB rfl) (aG ?_)
  rcases aH hm with ⟨t,hm⟩|⟨t,hm⟩
  ·exact cA
  ·refine aJ t rfl (aX (aB (aL (aI (v:=i64 k) ?_))));obtain ⟨b7,c,a5,a6,b8⟩:=aO.lendBp a3 .head
   obtain ⟨b9,a8,hm⟩:=aC hm
   exact aV (vs:=[eN (some ⟨p,0,none⟩) 0,i64 k]) call19 rfl (aHv a8 a6 a5 (d.mono c) (e.mono c) (g.mono c) (h.mono c) (j.mono c)) cA
theorem aMN {a R:bS} (hm:aIL a=some R) (b:aO G K (L) w):
  Calls prog 232 ([zA #[i64 a.Kind,i64 a.Value]]:List Value).toArray w (eX fun v w'=>v=zA #[i64 R.Kind,i64 R.Value]/\aO G K (L) w'):=by
 exact cA
theorem aLS {a R:(List bS)} (hm:aHf a=some R) (Z:aO G K (L) w) (p:cI K a1 c2 a):
  Calls prog 187 ([zS a1 a.length c2]:List Value).toArray w (eX fun v w'=>∃ q r,v=zS q R.length r/\aO G K (bI 233 K q r R::L) w'):=by
 refine aT func187 rfl (by kernel_rfl) (by show (1:Nat)<=23;decide) ?_;unfold aHf at hm
 refine aL (aD (v:=zS none 0 0) (aG (aL (aI (v:=zS a1 a.length c2) (aA (bQ (len:=a.length) aOq rfl) ?_)))));obtain ⟨b,q5,hm⟩:=aC hm
 refine aLp (e:=(⟨0,0⟩:bS)) lW ez_233 rfl rfl Z rfl rfl rfl q5 rfl (fun c w7 (b2:aO G K (bI 233 K c b.length b::L) w7)=>(aD (v:=zS c b.length b.length) (aG (aP (aL (aD (v:=i64 0) (aG (bR [] (fun f w=>∃ k,aCy k=some R/\f 3=zS c k.length b.length/\aO G K (bI 233 K c b.length k::L) w) cA ?_))))))));obtain ⟨b3,a3,ho⟩:=aC hm
 refine eG [0] a3 (fun l m f w=>f 3=zS c l.length b.length/\f 4=i64 m/\aO G K (bI 233 K c b.length l::L) w) cA ?_
 ·rintro l m b4 f b5 hm hr ⟨u,d,x⟩
  unfold aAb at hm
  refine aP (aL (bJ d (aI (v:=zS a1 a.length c2) (aA (bQ (len:=a.length) aOq rfl) (aA (cL rfl rfl) (aG ?_))))))
  rcases aH hm with ⟨y,hm⟩|⟨y,hm⟩
  ·refine aN y rfl (aX (aB (aP (bY (aW (bJ u (bJ d (aI (v:=zS a1 a.length c2) (bJ d ?_)))))))));obtain ⟨g,z,hm⟩:=aC hm
   refine aA (cQ aOq rfl p rfl rfl rfl z) ?_;obtain ⟨b6,a4,a5⟩:=cI.el (sz:=2) rfl p z
   cases a5
   refine aA (eP (t:=0) (vs:=[i64 g.Kind,i64 g.Value]) ag_289 x a4 rfl rfl rfl) ?_;obtain ⟨j,a7,hm⟩:=aC hm
   refine aV (vs:=[zA #[i64 g.Kind,i64 g.Value]]) call232 rfl (aMN a7 x) ?_
   rintro _ b7 ⟨rfl,J⟩
   obtain ⟨b8,o,hm⟩:=aC hm
   have a8:=fD J (i:=0) rfl o
   refine aA (gQ lW rfl a8 rfl rfl rfl o) ?_;obtain ⟨a9,V,hm⟩:=aC hm
   exact mF (i:=0) (t:=0) (ns:=[i64 j.Kind,i64 j.Value]) (e':=(⟨j.Kind,j.Value⟩:bS)) sizeOf233 J rfl (zR _) rfl rfl rfl o V rfl rfl (eM rfl) rfl (fun cs h=>by cases h;rfl) (fun b0 (b1:aO G K (bI 233 K c b.length a9::L) b0)=>(cG (bN (aB (aW (bJ d (aA (cH rfl rfl) (aD (v:=i64 (wr (m+1))) (aG ⟨_,(zI hm).symm,aU,(Eq.trans u (congrArg (fun n=>zS c n b.length) (cR V))),rfl,b1⟩)))))))))
  ·exact cA
theorem aKL {a R:(List (List bS))} (hm:aFv a=some R) (hs:aO G K (L) w) (r:cI K a1 c2 a):
  Calls prog 149 ([zS a1 a.length c2]:List Value).toArray w (eX fun v w'=>∃ u x o,v=zS u R.length x/\List.length o=List.length R/\aO G K (bI 173 K u x (bX o R)::rows [233] o R::L) w'):=by
 refine aT func149 rfl (by kernel_rfl) (by show (1:Nat)<=23;decide) ?_;unfold aFv at hm
 refine aL (aD (v:=zS none 0 0) (aG (aL (aI (v:=zS a1 a.length c2) (aA (bQ (len:=a.length) aJz rfl) ?_)))));obtain ⟨b,y,hm⟩:=aC hm
 refine aOm (tys:=[233]) (hd:=((none,0):Dp.Hd (List bS))) lJ ez_173 rfl rfl hs rfl rfl rfl y rfl (pcs_nil _) ?_
 intro c w7 (a7:aO G K (bI 173 K c b.length (bX (List.replicate (a.length:Int).toNat ((none,0):Dp.Hd (List bS))) b)::rows [233] (List.replicate (a.length:Int).toNat ((none,0):Dp.Hd (List bS))) b::L) w7)
 refine aD (v:=zS c b.length b.length) (aG (aP (aL (aD (v:=i64 0) (aG (bR [] (fun f w=>∃ e p,aBk e=some R/\f 3=zS c e.length b.length/\List.length p=List.length e/\aO G K (bI 173 K c b.length (bX p e)::rows [233] p e::L) w) cA ?_))))));obtain ⟨c0,a8,ho⟩:=aC hm
 refine eG [0] a8 (fun g i32 f w=>∃ d,f 3=zS c g.length b.length/\f 4=i64 i32/\List.length d=List.length g/\aO G K (bI 173 K c b.length (bX d g)::rows [233] d g::L) w) ?_ ?_
 ·exact ⟨(List.replicate (a.length:Int).toNat ((none,0):Dp.Hd (List bS))),rfl,rfl,(aEx (hd:=((none,0):Dp.Hd (List bS))) y).2.1,a7⟩
 ·rintro g i32 c1 f c3 hm hr ⟨d,z,k,l,J⟩
  unfold vS at hm
  refine aP (aL (bJ k (aI (v:=zS a1 a.length c2) (aA (bQ (len:=a.length) aJz rfl) (aA (cL rfl rfl) (aG ?_))))))
  rcases aH hm with ⟨V,hm⟩|⟨V,hm⟩
  ·refine aN V rfl (aX (aB (aP (bY (aW (bJ z (bJ k (aI (v:=zS a1 a.length c2) (bJ k ?_)))))))));obtain ⟨a9,Z,hm⟩:=aC hm
   refine aA (cQ aJz rfl r rfl rfl rfl Z) ?_;obtain ⟨c4,b0,b1⟩:=cI.el (sz:=1) rfl r Z
   obtain ⟨b2,b3,rfl,b4⟩:=b1
   refine aA (bZ (t:=0) sc_235 J b0 rfl rfl) ?_;obtain ⟨b5,b6,hm⟩:=aC hm
   refine aV (vs:=[zS b2 a9.length b3]) call187 rfl (aLS b6 J b4) ?_
   rintro _ c5 ⟨h,j,rfl,a0⟩
   obtain ⟨c6,m,hm⟩:=aC hm
   obtain ⟨⟨c7,c8⟩,a2⟩:=aGm l m
   have b7:=fD a0 (i:=1) rfl (nU l m a2)
   refine aA (gQ lJ rfl b7 rfl rfl rfl m) ?_;obtain ⟨a3,q,hm⟩:=aC hm
   refine aOn (i:=0) (tys:=[233]) (hd':=(h,j)) (e':=b5) (hds:=d) sizeOf173 a0 l rfl rfl rfl rfl rfl m a2 q rfl ?_
   intro b8 (b9:aO G K (bI 173 K c b.length (bX (List.set d i32.toNat (h,j)) a3)::rows [233] (List.set d i32.toNat (h,j)) a3::L) b8)
   exact cG (bN (aB (aW (bJ k (aA (cH rfl rfl) (aD (v:=i64 (wr (i32+1))) (aG ⟨_,(zI hm).symm,aU,(List.set d i32.toNat (h,j)),(Eq.trans z (congrArg (fun n=>zS c n b.length) (cR q))),rfl,(aLc (hd:=((h,j):Dp.Hd (List bS))) l q),b9⟩)))))))
  ·exact cA
theorem aMO {a R:Part} (hm:aIM a=some R) (e:aO G K (L) w) (g:cI K a1 c2 a.Arguments):
  Calls prog 111 ([zA #[i64 a.Kind,i64 a.Number,str a.Name,zS a1 a.Arguments.length c2]]:List Value).toArray w (eX fun v w'=>∃ c d b,v=zA #[i64 R.Kind,i64 R.Number,str R.Name,zS c R.Arguments.length d]/\List.length b=List.length R.Arguments/\aO G K (bI 173 K c d (bX b R.Arguments)::rows [233] b R.Arguments::L) w'):=by
 exact cA
theorem aLT {a R:(List Part)} (hm:aHg a=some R) (hs:aO G K (L) w) (y:cI K a1 c2 a):
  Calls prog 79 ([zS a1 a.length c2]:List Value).toArray w (eX fun v w'=>∃ z J r,v=zS z R.length J/\List.length r=List.length R/\aO G K (bI 157 K z J (bX r R)::rows [173,233] r R::L) w'):=by
 refine aT func79 rfl (by kernel_rfl) (by show (1:Nat)<=23;decide) ?_;unfold aHg at hm
 refine aL (aD (v:=zS none 0 0) (aG (aL (aI (v:=zS a1 a.length c2) (aA (bQ (len:=a.length) aNB rfl) ?_)))));obtain ⟨b,V,hm⟩:=aC hm
 refine aOm (tys:=[173,233]) (hd:=(((none,0),[]):Dp.Hd Part)) lH ez_157 rfl rfl hs rfl rfl rfl V rfl (aOp _) ?_
 intro d w7 (b3:aO G K (bI 157 K d b.length (bX (List.replicate (a.length:Int).toNat (((none,0),[]):Dp.Hd Part)) b)::rows [173,233] (List.replicate (a.length:Int).toNat (((none,0),[]):Dp.Hd Part)) b::L) w7)
 refine aD (v:=zS d b.length b.length) (aG (aP (aL (aD (v:=i64 0) (aG (bR [] (fun f w=>∃ l u,aCz l=some R/\f 3=zS d l.length b.length/\List.length u=List.length l/\aO G K (bI 157 K d b.length (bX u l)::rows [173,233] u l::L) w) cA ?_))))));obtain ⟨c6,b4,ho⟩:=aC hm
 refine eG [0] b4 (fun e i32 f w=>∃ c,f 3=zS d e.length b.length/\f 4=i64 i32/\List.length c=List.length e/\aO G K (bI 157 K d b.length (bX c e)::rows [173,233] c e::L) w) ?_ ?_
 ·exact ⟨(List.replicate (a.length:Int).toNat (((none,0),[]):Dp.Hd Part)),rfl,rfl,(aEx (hd:=(((none,0),[]):Dp.Hd Part)) V).2.1,b3⟩
 ·rintro e i32 c7 f c8 hm hr ⟨c,Z,o,p,a0⟩
  unfold aAc at hm
  refine aP (aL (bJ o (aI (v:=zS a1 a.length c2) (aA (bQ (len:=a.length) aNB rfl) (aA (cL rfl rfl) (aG ?_))))))
  rcases aH hm with ⟨a2,hm⟩|⟨a2,hm⟩
  ·refine aN a2 rfl (aX (aB (aP (bY (aW (bJ Z (bJ o (aI (v:=zS a1 a.length c2) (bJ o ?_)))))))));obtain ⟨h,a3,hm⟩:=aC hm
   refine aA (cQ aNB rfl y rfl rfl rfl a3) ?_;obtain ⟨c9,b5,b6⟩:=cI.el (sz:=4) rfl y a3
   obtain ⟨a4,a5,rfl,b7⟩:=b6
   refine aA (eP (t:=0) (vs:=[i64 h.Kind,i64 h.Number,str h.Name,zS a4 h.Arguments.length a5]) ag_162 a0 b5 rfl rfl rfl) ?_;obtain ⟨m,b8,hm⟩:=aC hm
   refine aV (vs:=[zA #[i64 h.Kind,i64 h.Number,str h.Name,zS a4 h.Arguments.length a5]]) call111 rfl (aMO b8 a0 b7) ?_
   rintro _ a7 ⟨j,k,g,rfl,b9,a8⟩
   obtain ⟨d0,q,hm⟩:=aC hm
   obtain ⟨⟨⟨d1,d2⟩,d3⟩,a9⟩:=aGm p q
   have c0:=fD a8 (i:=2) rfl (nU p q a9)
   refine aA (gQ lH rfl c0 rfl rfl rfl q) ?_
   have c1:aO G K (bI 173 K j k (bX g m.Arguments)::rows [233] g m.Arguments::bI 157 K d b.length (bX c e)::rows [173,233] c e::L) a7:=a8
   have c3:aO G K (bI 173 K j k (bX g m.Arguments)::aFQ [233] g m.Arguments::bI 157 K d b.length (bX c e)::rows [173,233] c e::L) a7:=aO.closeL (i:=1) c1 rfl b9
   obtain ⟨b0,x,hm⟩:=aC hm
   refine aOn (i:=0) (tys:=[173,233]) (hd':=(((j,k),g):Dp.Hd Part)) (e':=(m:Part)) (hds:=c) sizeOf157 c3 p rfl rfl rfl rfl rfl q a9 x rfl ?_
   intro c4 (c5:aO G K (bI 157 K d b.length (bX (List.set c i32.toNat ((j,k),g)) b0)::rows [173,233] (List.set c i32.toNat ((j,k),g)) b0::L) c4)
   exact cG (bN (aB (aW (bJ o (aA (cH rfl rfl) (aD (v:=i64 (wr (i32+1))) (aG ⟨_,(zI hm).symm,aU,(List.set c i32.toNat ((j,k),g)),(Eq.trans Z (congrArg (fun n=>zS d n b.length) (cR x))),rfl,(aLc (hd:=(((j,k),g):Dp.Hd Part)) p x),c5⟩)))))))
  ·exact cA
theorem aHx {a R:Definition} (hm:aAd a=some R) (e:aO G K (L) w) (g:cI K a1 c2 a.Body):
  Calls prog 48 ([zA #[str a.Name,i64 a.Parameters,zS a1 a.Body.length c2]]:List Value).toArray w (eX fun v w'=>∃ c d b,v=zA #[str R.Name,i64 R.Parameters,zS c R.Body.length d]/\List.length b=List.length R.Body/\aO G K (bI 157 K c d (bX b R.Body)::rows [173,233] b R.Body::L) w'):=by
 exact cA
theorem aGM {a R:(List Definition)} (hm:wQ a=some R) (hs:aO G K (L) w) (y:cI K a1 c2 a):
  Calls prog 20 ([zS a1 a.length c2]:List Value).toArray w (eX fun v w'=>∃ z J r,v=zS z R.length J/\List.length r=List.length R/\aO G K (bI 100 K z J (bX r R)::rows [157,173,233] r R::L) w'):=by
 refine aT func20 rfl (by kernel_rfl) (by show (1:Nat)<=23;decide) ?_;unfold wQ at hm
 refine aL (aD (v:=zS none 0 0) (aG (aL (aI (v:=zS a1 a.length c2) (aA (bQ (len:=a.length) aNC rfl) ?_)))));obtain ⟨b,V,hm⟩:=aC hm
 refine aOm (tys:=[157,173,233]) (hd:=(((none,0),[]):Dp.Hd Definition)) jV ez_100 rfl rfl hs rfl rfl rfl V rfl (aHX _) ?_
 intro d w7 (b3:aO G K (bI 100 K d b.length (bX (List.replicate (a.length:Int).toNat (((none,0),[]):Dp.Hd Definition)) b)::rows [157,173,233] (List.replicate (a.length:Int).toNat (((none,0),[]):Dp.Hd Definition)) b::L) w7)
 refine aD (v:=zS d b.length b.length) (aG (aP (aL (aD (v:=i64 0) (aG (bR [] (fun f w=>∃ l u,qQ l=some R/\f 3=zS d l.length b.length/\List.length u=List.length l/\aO G K (bI 100 K d b.length (bX u l)::rows [157,173,233] u l::L) w) cA ?_))))));obtain ⟨c6,b4,ho⟩:=aC hm
 refine eG [0] b4 (fun e i32 f w=>∃ c,f 3=zS d e.length b.length/\f 4=i64 i32/\List.length c=List.length e/\aO G K (bI 100 K d b.length (bX c e)::rows [157,173,233] c e::L) w) ?_ ?_
 ·exact ⟨(List.replicate (a.length:Int).toNat (((none,0),[]):Dp.Hd Definition)),rfl,rfl,(aEx (hd:=(((none,0),[]):Dp.Hd Definition)) V).2.1,b3⟩
 ·rintro e i32 c7 f c8 hm hr ⟨c,Z,o,p,a0⟩
  unfold mZ at hm
  refine aP (aL (bJ o (aI (v:=zS a1 a.length c2) (aA (bQ (len:=a.length) aNC rfl) (aA (cL rfl rfl) (aG ?_))))))
  rcases aH hm with ⟨a2,hm⟩|⟨a2,hm⟩
  ·refine aN a2 rfl (aX (aB (aP (bY (aW (bJ Z (bJ o (aI (v:=zS a1 a.length c2) (bJ o ?_)))))))));obtain ⟨k,a3,hm⟩:=aC hm
   refine aA (cQ aNC rfl y rfl rfl rfl a3) ?_;obtain ⟨c9,b5,b6⟩:=cI.el (sz:=3) rfl y a3
   obtain ⟨a4,a5,rfl,b7⟩:=b6
   refine aA (eP (t:=0) (vs:=[str k.Name,i64 k.Parameters,zS a4 k.Body.length a5]) ag_73 a0 b5 rfl rfl rfl) ?_;obtain ⟨m,b8,hm⟩:=aC hm
   refine aV (vs:=[zA #[str k.Name,i64 k.Parameters,zS a4 k.Body.length a5]]) call48 rfl (aHx b8 a0 b7) ?_
   rintro _ a7 ⟨h,j,g,rfl,b9,a8⟩
   obtain ⟨d0,q,hm⟩:=aC hm
   obtain ⟨⟨⟨d1,d2⟩,d3⟩,a9⟩:=aGm p q
   have c0:=fD a8 (i:=2) rfl (nU p q a9)
   refine aA (gQ jV rfl c0 rfl rfl rfl q) ?_
   have c1:aO G K (bI 157 K h j (bX g m.Body)::rows [173,233] g m.Body::bI 100 K d b.length (bX c e)::rows [157,173,233] c e::L) a7:=a8
   have c3:aO G K (bI 157 K h j (bX g m.Body)::aFQ [173,233] g m.Body::bI 100 K d b.length (bX c e)::rows [157,173,233] c e::L) a7:=aO.closeL (i:=1) c1 rfl b9
   obtain ⟨b0,x,hm⟩:=aC hm
   refine aOn (i:=0) (tys:=[157,173,233]) (hd':=(((h,j),g):Dp.Hd Definition)) (e':=(m:Definition)) (hds:=c) sizeOf100 c3 p rfl rfl rfl rfl rfl q a9 x rfl ?_
   intro c4 (c5:aO G K (bI 100 K d b.length (bX (List.set c i32.toNat ((h,j),g)) b0)::rows [157,173,233] (List.set c i32.toNat ((h,j),g)) b0::L) c4)
   exact cG (bN (aB (aW (bJ o (aA (cH rfl rfl) (aD (v:=i64 (wr (i32+1))) (aG ⟨_,(zI hm).symm,aU,(List.set c i32.toNat ((h,j),g)),(Eq.trans Z (congrArg (fun n=>zS d n b.length) (cR x))),rfl,(aLc (hd:=(((h,j),g):Dp.Hd Definition)) p x),c5⟩)))))))
  ·exact cA
theorem aKM {a R:(List Int)} (hm:aFw a=some R) (J:aO G K (L) w) (o:cI K a1 c2 a):
  Calls prog 80 ([zS a1 a.length c2]:List Value).toArray w (eX fun v w'=>∃ p q,v=zS p R.length q/\aO G K (bI 2 K p q R::L) w'):=by
 refine aT func80 rfl (by kernel_rfl) (by show (1:Nat)<=22;decide) ?_;unfold aFw at hm
 refine aL (aD (v:=zS none 0 0) (aG (aL (aI (v:=zS a1 a.length c2) (aA (bQ (len:=a.length) gD rfl) ?_)))));obtain ⟨b,V,hm⟩:=aC hm
 refine aLp (e:=(0:Int)) gD aEA rfl rfl J rfl rfl rfl V rfl (fun c Z (a9:aO G K (bI 2 K c b.length b::L) Z)=>(aD (v:=zS c b.length b.length) (aG (aP (aL (aD (v:=i64 0) (aG (bR [] (fun f w=>∃ g,aBl g=some R/\f 3=zS c g.length b.length/\aO G K (bI 2 K c b.length g::L) w) cA ?_))))))));obtain ⟨b0,a0,ho⟩:=aC hm
 refine eG [0] a0 (fun j k f w=>f 3=zS c j.length b.length/\f 4=i64 k/\aO G K (bI 2 K c b.length j::L) w) cA ?_
 ·rintro j k b1 f b2 hm hr ⟨r,d,l⟩
  unfold vT at hm
  refine aP (aL (bJ d (aI (v:=zS a1 a.length c2) (aA (bQ (len:=a.length) gD rfl) (aA (cL rfl rfl) (aG ?_))))))
  rcases aH hm with ⟨u,hm⟩|⟨u,hm⟩
  ·refine aN u rfl (aX (aB (aP (bY (aW (bJ r (bJ d (aI (v:=zS a1 a.length c2) (bJ d ?_)))))))));obtain ⟨x,y,hm⟩:=aC hm
   refine aA (cQ gD rfl o rfl rfl rfl y) ?_;obtain ⟨b3,a2,a3⟩:=cI.el (sz:=1) rfl o y
   cases a3
   refine aA (bZ (t:=0) dC l a2 rfl rfl) ?_;obtain ⟨b4,m,hm⟩:=aC hm
   have a4:=fD l (i:=0) rfl m
   refine aA (gQ gD rfl a4 rfl rfl rfl m) ?_;obtain ⟨a5,z,hm⟩:=aC hm
   exact mF (i:=0) (t:=0) (ns:=[i64 x]) (e':=(x:Int)) sizeOf2 l rfl (zR _) rfl rfl rfl m z rfl rfl (eM rfl) rfl (fun cs h=>by cases h;rfl) (fun a7 (a8:aO G K (bI 2 K c b.length a5::L) a7)=>(cG (bN (aB (aW (bJ d (aA (cH rfl rfl) (aD (v:=i64 (wr (k+1))) (aG ⟨_,(zI hm).symm,aU,(Eq.trans r (congrArg (fun n=>zS c n b.length) (cR z))),rfl,a8⟩)))))))))
  ·exact cA
theorem aId {a R:bU} (hm:aBm a=some R) (d:aO G K (L) w) (e:cI K a1 c2 a.Values):
  Calls prog 49 ([zA #[i64 a.Definition,zS a1 a.Values.length c2]]:List Value).toArray w (eX fun v w'=>∃ b c,v=zA #[i64 R.Definition,zS b R.Values.length c]/\aO G K (bI 2 K b c R.Values::L) w'):=by
 exact cA
theorem aHy {a R:(List bU)} (hm:aAe a=some R) (hs:aO G K (L) w) (u:cI K a1 c2 a):
  Calls prog 21 ([zS a1 a.length c2]:List Value).toArray w (eX fun v w'=>∃ x y p,v=zS x R.length y/\List.length p=List.length R/\aO G K (bI 102 K x y (bX p R)::rows [2] p R::L) w'):=by
 refine aT func21 rfl (by kernel_rfl) (by show (1:Nat)<=23;decide) ?_;unfold aAe at hm
 refine aL (aD (v:=zS none 0 0) (aG (aL (aI (v:=zS a1 a.length c2) (aA (bQ (len:=a.length) aND rfl) ?_)))));obtain ⟨b,z,hm⟩:=aC hm
 refine aOm (tys:=[2]) (hd:=((none,0):Dp.Hd bU)) sL ez_102 rfl rfl hs rfl rfl rfl z rfl (aIA _) ?_
 intro d w7 (b1:aO G K (bI 102 K d b.length (bX (List.replicate (a.length:Int).toNat ((none,0):Dp.Hd bU)) b)::rows [2] (List.replicate (a.length:Int).toNat ((none,0):Dp.Hd bU)) b::L) w7)
 refine aD (v:=zS d b.length b.length) (aG (aP (aL (aD (v:=i64 0) (aG (bR [] (fun f w=>∃ j q,sA j=some R/\f 3=zS d j.length b.length/\List.length q=List.length j/\aO G K (bI 102 K d b.length (bX q j)::rows [2] q j::L) w) cA ?_))))));obtain ⟨c3,b2,ho⟩:=aC hm
 refine eG [0] b2 (fun e i32 f w=>∃ c,f 3=zS d e.length b.length/\f 4=i64 i32/\List.length c=List.length e/\aO G K (bI 102 K d b.length (bX c e)::rows [2] c e::L) w) ?_ ?_
 ·exact ⟨(List.replicate (a.length:Int).toNat ((none,0):Dp.Hd bU)),rfl,rfl,(aEx (hd:=((none,0):Dp.Hd bU)) z).2.1,b1⟩
 ·rintro e i32 c4 f c5 hm hr ⟨c,J,k,l,V⟩
  unfold nZ at hm
  refine aP (aL (bJ k (aI (v:=zS a1 a.length c2) (aA (bQ (len:=a.length) aND rfl) (aA (cL rfl rfl) (aG ?_))))))
  rcases aH hm with ⟨Z,hm⟩|⟨Z,hm⟩
  ·refine aN Z rfl (aX (aB (aP (bY (aW (bJ J (bJ k (aI (v:=zS a1 a.length c2) (bJ k ?_)))))))));obtain ⟨m,a0,hm⟩:=aC hm
   refine aA (cQ aND rfl u rfl rfl rfl a0) ?_;obtain ⟨c6,b3,b4⟩:=cI.el (sz:=2) rfl u a0
   obtain ⟨a2,a3,rfl,b5⟩:=b4
   refine aA (eP (t:=0) (vs:=[i64 m.Definition,zS a2 m.Values.length a3]) ag_77 V b3 rfl rfl rfl) ?_;obtain ⟨a4,b6,hm⟩:=aC hm
   refine aV (vs:=[zA #[i64 m.Definition,zS a2 m.Values.length a3]]) call49 rfl (aId b6 V b5) ?_
   rintro _ b7 ⟨g,h,rfl,a5⟩
   obtain ⟨c7,o,hm⟩:=aC hm
   obtain ⟨⟨c8,c9⟩,a7⟩:=aGm l o
   have b8:=fD a5 (i:=1) rfl (nU l o a7)
   refine aA (gQ sL rfl b8 rfl rfl rfl o) ?_
   have b9:aO G K (bI 2 K g h a4.Values::bI 102 K d b.length (bX c e)::rows [2] c e::L) b7:=a5
   obtain ⟨a8,r,hm⟩:=aC hm
   refine aOn (i:=0) (tys:=[2]) (hd':=((g,h):Dp.Hd bU)) (e':=(a4:bU)) (hds:=c) sizeOf102 b9 l rfl rfl rfl rfl rfl o a7 r rfl ?_
   intro c0 (c1:aO G K (bI 102 K d b.length (bX (List.set c i32.toNat (g,h)) a8)::rows [2] (List.set c i32.toNat (g,h)) a8::L) c0)
   exact cG (bN (aB (aW (bJ k (aA (cH rfl rfl) (aD (v:=i64 (wr (i32+1))) (aG ⟨_,(zI hm).symm,aU,(List.set c i32.toNat (g,h)),(Eq.trans J (congrArg (fun n=>zS d n b.length) (cR r))),rfl,(aLc (hd:=((g,h):Dp.Hd bU)) l r),c1⟩)))))))
  ·exact cA
theorem aJH {a R:cB} (hm:aEg a=some R) (b:aO G K (L) w):
  Calls prog 50 ([zA #[str a.Left,str a.Right,str a.Result]]:List Value).toArray w (eX fun v w'=>v=zA #[str R.Left,str R.Right,str R.Result]/\aO G K (L) w'):=by
 exact cA
theorem aIQ {a R:(List cB)} (hm:aCA a=some R) (Z:aO G K (L) w) (p:cI K a1 c2 a):
  Calls prog 22 ([zS a1 a.length c2]:List Value).toArray w (eX fun v w'=>∃ q r,v=zS q R.length r/\aO G K (bI 104 K q r R::L) w'):=by
 refine aT func22 rfl (by kernel_rfl) (by show (1:Nat)<=23;decide) ?_;unfold aCA at hm
 refine aL (aD (v:=zS none 0 0) (aG (aL (aI (v:=zS a1 a.length c2) (aA (bQ (len:=a.length) aNE rfl) ?_)))));obtain ⟨b,q5,hm⟩:=aC hm
 refine aLp (e:=(⟨[],[],[]⟩:cB)) qE ez_104 rfl rfl Z rfl rfl rfl q5 rfl (fun c w7 (b2:aO G K (bI 104 K c b.length b::L) w7)=>(aD (v:=zS c b.length b.length) (aG (aP (aL (aD (v:=i64 0) (aG (bR [] (fun f w=>∃ k,wR k=some R/\f 3=zS c k.length b.length/\aO G K (bI 104 K c b.length k::L) w) cA ?_))))))));obtain ⟨b3,a3,ho⟩:=aC hm
 refine eG [0] a3 (fun l m f w=>f 3=zS c l.length b.length/\f 4=i64 m/\aO G K (bI 104 K c b.length l::L) w) cA ?_
 ·rintro l m b4 f b5 hm hr ⟨u,j,x⟩
  unfold rD at hm
  refine aP (aL (bJ j (aI (v:=zS a1 a.length c2) (aA (bQ (len:=a.length) aNE rfl) (aA (cL rfl rfl) (aG ?_))))))
  rcases aH hm with ⟨y,hm⟩|⟨y,hm⟩
  ·refine aN y rfl (aX (aB (aP (bY (aW (bJ u (bJ j (aI (v:=zS a1 a.length c2) (bJ j ?_)))))))));obtain ⟨d,z,hm⟩:=aC hm
   refine aA (cQ aNE rfl p rfl rfl rfl z) ?_;obtain ⟨b6,a4,a5⟩:=cI.el (sz:=3) rfl p z
   cases a5
   refine aA (eP (t:=0) (vs:=[str d.Left,str d.Right,str d.Result]) ag_80 x a4 rfl rfl rfl) ?_;obtain ⟨g,a7,hm⟩:=aC hm
   refine aV (vs:=[zA #[str d.Left,str d.Right,str d.Result]]) call50 rfl (aJH a7 x) ?_
   rintro _ b7 ⟨rfl,J⟩
   obtain ⟨b8,o,hm⟩:=aC hm
   have a8:=fD J (i:=0) rfl o
   refine aA (gQ qE rfl a8 rfl rfl rfl o) ?_;obtain ⟨a9,V,hm⟩:=aC hm
   exact mF (i:=0) (t:=0) (ns:=[str g.Left,str g.Right,str g.Result]) (e':=(⟨g.Left,g.Right,g.Result⟩:cB)) sizeOf104 J rfl (zR _) rfl rfl rfl o V rfl rfl (eM rfl) rfl (fun cs h=>by cases h;rfl) (fun b0 (b1:aO G K (bI 104 K c b.length a9::L) b0)=>(cG (bN (aB (aW (bJ j (aA (cH rfl rfl) (aD (v:=i64 (wr (m+1))) (aG ⟨_,(zI hm).symm,aU,(Eq.trans u (congrArg (fun n=>zS c n b.length) (cR V))),rfl,b1⟩)))))))))
  ·exact cA
theorem aET {a R:(List bL)} (hm:yB a=some R) (J:aO G K (L) w) (o:cI K a1 c2 a):
  Calls prog 23 ([zS a1 a.length c2]:List Value).toArray w (eX fun v w'=>∃ p q,v=zS p R.length q/\aO G K (bI 9 K p q R::L) w'):=by
 refine aT func23 rfl (by kernel_rfl) (by show (1:Nat)<=22;decide) ?_;unfold yB at hm
 refine aL (aD (v:=zS none 0 0) (aG (aL (aI (v:=zS a1 a.length c2) (aA (bQ (len:=a.length) dQ rfl) ?_)))));obtain ⟨b,V,hm⟩:=aC hm
 refine aLp (e:=([]:bL)) dQ aEz rfl rfl J rfl rfl rfl V rfl (fun c Z (a9:aO G K (bI 9 K c b.length b::L) Z)=>(aD (v:=zS c b.length b.length) (aG (aP (aL (aD (v:=i64 0) (aG (bR [] (fun f w=>∃ g,aAf g=some R/\f 3=zS c g.length b.length/\aO G K (bI 9 K c b.length g::L) w) cA ?_))))))));obtain ⟨b0,a0,ho⟩:=aC hm
 refine eG [0] a0 (fun j k f w=>f 3=zS c j.length b.length/\f 4=i64 k/\aO G K (bI 9 K c b.length j::L) w) cA ?_
 ·rintro j k b1 f b2 hm hr ⟨r,d,l⟩
  unfold aAg at hm
  refine aP (aL (bJ d (aI (v:=zS a1 a.length c2) (aA (bQ (len:=a.length) dQ rfl) (aA (cL rfl rfl) (aG ?_))))))
  rcases aH hm with ⟨u,hm⟩|⟨u,hm⟩
  ·refine aN u rfl (aX (aB (aP (bY (aW (bJ r (bJ d (aI (v:=zS a1 a.length c2) (bJ d ?_)))))))));obtain ⟨x,y,hm⟩:=aC hm
   refine aA (cQ dQ rfl o rfl rfl rfl y) ?_;obtain ⟨b3,a2,a3⟩:=cI.el (sz:=1) rfl o y
   cases a3
   refine aA (bZ (t:=0) fJ l a2 rfl rfl) ?_;obtain ⟨b4,m,hm⟩:=aC hm
   have a4:=fD l (i:=0) rfl m
   refine aA (gQ dQ rfl a4 rfl rfl rfl m) ?_;obtain ⟨a5,z,hm⟩:=aC hm
   exact mF (i:=0) (t:=0) (ns:=[str x]) (e':=(x:bL)) sizeOf9 l rfl (zR _) rfl rfl rfl m z rfl rfl (eM rfl) rfl (fun cs h=>by cases h;rfl) (fun a7 (a8:aO G K (bI 9 K c b.length a5::L) a7)=>(cG (bN (aB (aW (bJ d (aA (cH rfl rfl) (aD (v:=i64 (wr (k+1))) (aG ⟨_,(zI hm).symm,aU,(Eq.trans r (congrArg (fun n=>zS c n b.length) (cR z))),rfl,a8⟩)))))))))
  ·exact cA
theorem xB {a R:cW} (hm:qR a=some R) (hs:aO G K (L) w) (h3:cI K a1 c2 a.Definitions) (h6:cI K a4 c5 a.Components) (h9:cI K a7 c8 a.Meetings) (b5:cI K a10 c11 a.Allowed) (d1:cI K a13 c14 a.Hidden):
  Calls prog 6 ([zA #[zS a1 a.Definitions.length c2,zS a4 a.Components.length c5,zS a7 a.Meetings.length c8,zS a10 a.Allowed.length c11,zS a13 a.Hidden.length c14]]:List Value).toArray w (eX fun v w'=>∃ x y p z J q V Z a0 a2 a3 a5,v=zA #[zS x R.Definitions.length y,zS z R.Components.length J,zS V R.Meetings.length Z,zS a0 R.Allowed.length a2,zS a3 R.Hidden.length a5]/\List.length p=List.length R.Definitions/\List.length q=List.length R.Components/\aO G K (bI 100 K x y (bX p R.Definitions)::rows [157,173,233] p R.Definitions::bI 102 K z J (bX q R.Components)::rows [2] q R.Components::bI 104 K V Z R.Meetings::bI 9 K a0 a2 R.Allowed::bI 9 K a3 a5 R.Hidden::L) w'):=by
 let l:=[zS a1 a.Definitions.length c2,zS a4 a.Components.length c5,zS a7 a.Meetings.length c8,zS a10 a.Allowed.length c11,zS a13 a.Hidden.length c14]
 let k:=[zS none 0 0,zS none 0 0,zS none 0 0,zS none 0 0,zS none 0 0]
 refine aT func6 rfl (by kernel_rfl) (by show (1:Nat)<=25;decide) ?_;unfold qR at hm
 refine aL (dR (v:=zA #[zS a1 a.Definitions.length c2,zS a4 a.Components.length c5,zS a7 a.Meetings.length c8,zS a10 a.Allowed.length c11,zS a13 a.Hidden.length c14]) (vs:=l) hs rfl rfl (fun r d2 b6=>(dA (vs:=k) zeroValue38 b6 rfl (fun t d3 b7=>(aG (aL (dA (vs:=k) zeroValue38 b7 rfl (fun u d4 a6=>(aG (aL (aA (bC (t':=0) fa_27_0 rfl rfl) (aA (bP sc_22 a6 (i:=2) rfl rfl rfl) ?_))))))))))));obtain ⟨b,b8,hm⟩:=aC hm
 refine aV (vs:=[zS a1 a.Definitions.length c2]) call20 rfl (aGM b8 a6 h3) ?_
 rintro _ d5 ⟨c,d,j,rfl,d6,b9⟩
 refine aA (bC (t':=0) yN rfl rfl) (cT (i:=2) (ns:=[zS c b.length d]) (us:=[zS c b.length d,zS none 0 0,zS none 0 0,zS none 0 0,zS none 0 0]) sizeOf34 b9 rfl rfl rfl rfl rfl (eM rfl) rfl rfl (fun c0 (a8:aO G K (bI 100 K c d (bX j b)::rows [157,173,233] j b::box u 38 [zS c b.length d,zS none 0 0,zS none 0 0,zS none 0 0,zS none 0 0]::box t 38 k::box r 27 l::L) c0)=>(aG (aL (aA (bC (t':=1) fa_27_1 rfl rfl) (aA (bP sc_23 a8 (i:=4) rfl rfl rfl) ?_))))))
 obtain ⟨e,c1,hm⟩:=aC hm
 refine aV (vs:=[zS a4 a.Components.length c5]) call21 rfl (aHy c1 a8 h6) ?_
 rintro _ d7 ⟨g,h,m,rfl,d8,c3⟩
 refine aA (bC (t':=1) qJ rfl rfl) (cT (i:=4) (ns:=[zS g e.length h]) (us:=[zS c b.length d,zS g e.length h,zS none 0 0,zS none 0 0,zS none 0 0]) sizeOf35 c3 rfl rfl rfl rfl rfl (eM rfl) rfl rfl (fun c4 (a9:aO G K (bI 102 K g h (bX m e)::rows [2] m e::bI 100 K c d (bX j b)::rows [157,173,233] j b::box u 38 [zS c b.length d,zS g e.length h,zS none 0 0,zS none 0 0,zS none 0 0]::box t 38 k::box r 27 l::L) c4)=>(aG (aL (aA (bC (t':=2) fa_27_2 rfl rfl) (aA (bP sc_24 a9 (i:=6) rfl rfl rfl) ?_))))))
 obtain ⟨n,c6,hm⟩:=aC hm
 refine aV (vs:=[zS a7 a.Meetings.length c8]) call22 rfl (aIQ c6 a9 h9) ?_
 rintro _ d9 ⟨o,c48,rfl,c7⟩
 refine aA (bC (t':=2) aGY rfl rfl) (cT (i:=5) (ns:=[zS o n.length c48]) (us:=[zS c b.length d,zS g e.length h,zS o n.length c48,zS none 0 0,zS none 0 0]) sizeOf36 c7 rfl rfl rfl rfl rfl (eM rfl) rfl rfl (fun c9 (b0:aO G K (bI 104 K o c48 n::bI 102 K g h (bX m e)::rows [2] m e::bI 100 K c d (bX j b)::rows [157,173,233] j b::box u 38 [zS c b.length d,zS g e.length h,zS o n.length c48,zS none 0 0,zS none 0 0]::box t 38 k::box r 27 l::L) c9)=>(aG (aL (aA (bC (t':=3) fa_27_3 rfl rfl) (aA (bP oR b0 (i:=7) rfl rfl rfl) ?_))))))
 obtain ⟨e0,d0,hm⟩:=aC hm
 exact aV (vs:=[zS a10 a.Allowed.length c11]) call23 rfl (aET d0 b0 b5) cA
theorem aFB {d:Definition} {R:Bool} (hm:sB d=some R) (a:aO G K (L) w) (b:cI K a1 c2 d.Body):
  Calls prog 151 ([zA #[str d.Name,i64 d.Parameters,zS a1 d.Body.length c2]]:List Value).toArray w (eX fun v w'=>v=zB R/\aO G K (L) w'):=by
 exact cA
theorem kY {b:(List Definition)} {R:Int} (hm:eJ b=some R) (q:aO G K (L) w) (g:cI K a1 c2 b):
  Calls prog 153 ([zS a1 b.length c2,Value.func (.func 151) #[] #[]]:List Value).toArray w (eX fun v w'=>v=i64 R/\aO G K (L) w'):=by
 refine aT func153 rfl (by kernel_rfl) (by show (2:Nat)<=19;decide) ?_;unfold eJ at hm
 refine aL (aD (v:=i64 0) (aG (aP (aL (aI (v:=zS a1 b.length c2) (aA (bQ (len:=b.length) jV rfl) (aI (v:=i64 0) (aG (bR [] (fun f w=>eD=some R/\aO G K (L) w) cA ?_)))))))));obtain ⟨r,l,ho⟩:=aC hm
 refine dS [0,1,7] l (fun c f w=>f 8=i64 c/\aO G K (L) w) cA ?_
 ·rintro c u f x hm hr ⟨h,i⟩
  unfold dH at hm
  refine aL (aA (cL h rfl) (aG (aP ?_)))
  rcases aH hm with ⟨j,hm⟩|⟨j,hm⟩
  ·refine aN j rfl (aX (aB (aP (bY (aL (bJ h (aD (v:=i64 c) (aG (aL (aI (v:=Value.func (.func 151) #[] #[]) (aI (v:=zS a1 b.length c2) (aI (v:=i64 c) ?_))))))))))));obtain ⟨a,k,hm⟩:=aC hm
   refine aA (cQ jV rfl g rfl rfl rfl k) ?_;obtain ⟨y,m,n⟩:=cI.el (sz:=3) rfl g k
   obtain ⟨d,e,rfl,o⟩:=n
   refine aA (eP (t:=0) (vs:=[str a.Name,i64 a.Parameters,zS d a.Body.length e]) aCc i m rfl rfl rfl) ?_;obtain ⟨z,p,hm⟩:=aC hm
   exact qV (vs:=[zA #[str a.Name,i64 a.Parameters,zS d a.Body.length e]]) (caps:=[]) (us:=[zA #[str a.Name,i64 a.Parameters,zS d a.Body.length e]]) rfl call151 rfl rfl (aFB p i o) cA
  ·exact cA
theorem kG {a:(List Definition)} {R:Bool} (hm:dI a=some R) (b:aO G K (L) w) (c:cI K a1 c2 a):
  Calls prog 150 ([zS a1 a.length c2,Value.func (.func 151) #[] #[]]:List Value).toArray w (eX fun v w'=>v=zB R/\aO G K (L) w'):=by
 exact cA
theorem aHz {a:(List Definition)} {R:Bool} (hm:sY a=some R) (b:aO G K (L) w) (c:cI K a1 c2 a):
  Calls prog 112 ([zS a1 a.length c2]:List Value).toArray w (eX fun v w'=>v=zB R/\aO G K (L) w'):=by
 exact cA
theorem aDO {d:Definition} {p:bL} {a:Nat} {R:Bool} (hm:oA d p=some R) (b:aO G K (L) w) (c:cI K a1 c2 d.Body) (e:iQ K a4 a [str p]):
  Calls prog 154 ([zA #[str d.Name,i64 d.Parameters,zS a1 d.Body.length c2],eN a4 a]:List Value).toArray w (eX fun v w'=>v=zB R/\aO G K (L) w'):=by
 exact cA
theorem kH {b:(List Definition)} {h:bL} {c:Nat} {R:Int} (hm:eE b h=some R) (x:aO G K (L) w) (i:cI K a1 c2 b) (n:iQ K a4 c [str h]):
  Calls prog 153 ([zS a1 b.length c2,Value.func (.func 154) #[] #[eN a4 c]]:List Value).toArray w (eX fun v w'=>v=i64 R/\aO G K (L) w'):=by
 refine aT func153 rfl (by kernel_rfl) (by show (2:Nat)<=19;decide) ?_;unfold eE at hm
 refine aL (aD (v:=i64 0) (aG (aP (aL (aI (v:=zS a1 b.length c2) (aA (bQ (len:=b.length) jV rfl) (aI (v:=i64 0) (aG (bR [] (fun f w=>dX=some R/\aO G K (L) w) cA ?_)))))))));obtain ⟨y,o,ho⟩:=aC hm
 refine dS [0,1,7] o (fun d f w=>f 8=i64 d/\aO G K (L) w) cA ?_
 ·rintro d z f J hm hr ⟨j,k⟩
  unfold dD at hm
  refine aL (aA (cL j rfl) (aG (aP ?_)))
  rcases aH hm with ⟨l,hm⟩|⟨l,hm⟩
  ·refine aN l rfl (aX (aB (aP (bY (aL (bJ j (aD (v:=i64 d) (aG (aL (aI (v:=Value.func (.func 154) #[] #[eN a4 c]) (aI (v:=zS a1 b.length c2) (aI (v:=i64 d) ?_))))))))))));obtain ⟨a,m,hm⟩:=aC hm
   refine aA (cQ jV rfl i rfl rfl rfl m) ?_;obtain ⟨V,p,q⟩:=cI.el (sz:=3) rfl i m
   obtain ⟨e,g,rfl,r⟩:=q
   refine aA (eP (t:=0) (vs:=[str a.Name,i64 a.Parameters,zS e a.Body.length g]) aCc k p rfl rfl rfl) ?_;obtain ⟨Z,u,hm⟩:=aC hm
   exact qV (vs:=[zA #[str a.Name,i64 a.Parameters,zS e a.Body.length g]]) (caps:=[eN a4 c]) (us:=[zA #[str a.Name,i64 a.Parameters,zS e a.Body.length g],eN a4 c]) rfl call154 rfl rfl (aDO u k r n) cA
  ·exact cA
theorem aFC {a:(List Definition)} {b:bL} {R:Int} (hm:oB a b=some R) (d:aO G K (L) w) (e:cI K a1 c2 a):
  Calls prog 114 ([zS a1 a.length c2,str b]:List Value).toArray w (eX fun v w'=>v=i64 R/\aO G K (L) w'):=by
 refine aT func114 rfl (by kernel_rfl) (by show (2:Nat)<=8;decide) ?_;unfold oB at hm
 refine aL (dR (v:=str b) (vs:=[str b]) d rfl rfl (fun c l g=>(aD (v:=i64 0) (aG (aL (aI (v:=zS a1 a.length c2) (aA (xF (vs:=[Value.pointer (some ⟨c,0,none⟩)]) rfl) ?_)))))));obtain ⟨m,h,i,j,n⟩:=aO.lendBp g .head
 obtain ⟨o,k,hm⟩:=aC hm
 exact aV (vs:=[zS a1 a.length c2,Value.func (.func 154) #[] #[eN (some ⟨c,0,none⟩) 0]]) call153 rfl (kH k j (e.mono h) i) cA
theorem aDA {p:Part} {R:Int} (hm:vU p=some R) (b:aO G K (L) w) (d:cI K a1 c2 p.Arguments):
  Calls prog 172 ([zA #[i64 p.Kind,i64 p.Number,str p.Name,zS a1 p.Arguments.length c2]]:List Value).toArray w (eX fun v w'=>v=i64 R/\aO G K (L) w'):=by
 refine aT func172 rfl (by kernel_rfl) (by show (1:Nat)<=11;decide) ?_;unfold vU at hm
 exact aL (dR (v:=zA #[i64 p.Kind,i64 p.Number,str p.Name,zS a1 p.Arguments.length c2]) (vs:=[i64 p.Kind,i64 p.Number,str p.Name,zS a1 p.Arguments.length c2]) b rfl rfl (fun e g c=>(aD (v:=i64 0) (aG (aP (aL (aA (bC (t':=0) fA rfl rfl) (aA (bP dC c (i:=0) rfl rfl rfl) (aG (bY (yI [4] (fun f w=>∃ a,pO p a=some R/\f 5=zB a/\aO G K (L) w) cA cA)))))))))))
theorem aAH {d:Definition} {part R:Int} (hm:kV d part=some R) (c:aO G K (L) w) (j:cI K a1 c2 d.Body):
  Calls prog 136 ([zA #[str d.Name,i64 d.Parameters,zS a1 d.Body.length c2],i64 part]:List Value).toArray w (eX fun v w'=>v=i64 R/\aO G K (L) w'):=by
 let a:=[str d.Name,i64 d.Parameters,zS a1 d.Body.length c2]
 refine aT func136 rfl (by kernel_rfl) (by show (2:Nat)<=25;decide) ?_;unfold kV at hm
 refine aL (dR (v:=zA #[str d.Name,i64 d.Parameters,zS a1 d.Body.length c2]) (vs:=a) c rfl rfl (fun e k l=>(aD (v:=i64 0) (aG (aP (aL (aD (v:=i64 1) (aG (bR [] (fun f w=>∃ b,kF b=some R/\f 1=i64 b/\aO G K (L) w) cA ?_)))))))));obtain ⟨m,g,ho⟩:=aC hm
 exact eG [2] g (fun h i f w=>f 1=i64 h/\f 5=i64 i/\aO G K (box e 100 a::L) w) cA cA
end Gv
namespace Gv
open Gv.Hp renaming le_refl→zR
open Go.Value renaming slice→zS,bool→zB,pointer→zP,agg→zA
open Go Go.Proofs Go.Proofs.Tryz
set_option maxRecDepth 20000
set_option maxHeartbeats 40000000
variable {G:qG} {K:Hp} {L:List iZ} {w:World} {b1 c3 c8 c17 c2 c5:Nat} {a2 a4 a7 a10 a13 a16 a1:Option Addr}
theorem aBR {rec_:Int->eZ->(List eZ)->Definition->Definition->Option (Int × (List eZ))} (ih:∀ {G:qG} {K:Hp} {L:List iZ} {w:World} {d:Int} {p:eZ} {b1:Nat} {k:(List eZ)} {a2:Option Addr} {c3:Nat} {c:Definition} {a4:Option Addr} {q:Nat} {a7:Option Addr} {c8:Nat} {a10:Option Addr} {g:Nat} {b:Definition} {a13:Option Addr} {n:Nat} {a16:Option Addr} {c17:Nat} {R:(Int × (List eZ))} (hm:rec_ d p k c b=some R) (hs:aO G K (bI 214 K a2 c3 k::box b1 210 [zS a2 k.length c3]::L) w) (h6:iQ K a4 q [str c.Name,i64 c.Parameters,zS a7 c.Body.length c8]) (h9:cI K a7 c8 c.Body) (a5:iQ K a10 g [Value.func (.func 188) #[] #[zP (some ⟨b1,0,none⟩),eN a13 n,eN a10 g]]) (a6:iQ K a13 n [str b.Name,i64 b.Parameters,zS a16 b.Body.length c17]) (a8:cI K a16 c17 b.Body),
  Calls prog 188 ([i64 d,zA #[i64 p.scope,zB p.behind],zP (some ⟨b1,0,none⟩),eN a4 q,eN a10 g]:List Value).toArray w (eX fun v w'=>∃ r u,v=i64 R.1/\aO G K (bI 214 K r u R.2::box b1 210 [zS r R.2.length u]::L) w'))
  {G:qG} {K:Hp} {L:List iZ} {w:World} {d:Int} {p:eZ} {b1:Nat} {k:(List eZ)} {a2:Option Addr} {c3:Nat} {c:Definition} {a4:Option Addr} {q:Nat} {a7:Option Addr} {c8:Nat} {a10:Option Addr} {g:Nat} {b:Definition} {a13:Option Addr} {n:Nat} {a16:Option Addr} {c17:Nat} {R:(Int × (List eZ))} (hm:fK rec_ d p k c b=some R) (hs:aO G K (bI 214 K a2 c3 k::box b1 210 [zS a2 k.length c3]::L) w) (h6:iQ K a4 q [str c.Name,i64 c.Parameters,zS a7 c.Body.length c8]) (h9:cI K a7 c8 c.Body) (a5:iQ K a10 g [Value.func (.func 188) #[] #[zP (some ⟨b1,0,none⟩),eN a13 n,eN a10 g]]) (a6:iQ K a13 n [str b.Name,i64 b.Parameters,zS a16 b.Body.length c17]) (a8:cI K a16 c17 b.Body):
  Calls prog 188 ([i64 d,zA #[i64 p.scope,zB p.behind],zP (some ⟨b1,0,none⟩),eN a4 q,eN a10 g]:List Value).toArray w (eX fun v w'=>∃ r u,v=i64 R.1/\aO G K (bI 214 K r u R.2::box b1 210 [zS r R.2.length u]::L) w'):=by
 let o:=[i64 p.scope,zB p.behind]
 refine aT func188 rfl (by kernel_rfl) (by show (5:Nat)<=45;decide) ?_;unfold fK at hm
 refine aL (dR (v:=zA #[i64 p.scope,zB p.behind]) (vs:=o) hs rfl rfl (fun J e5 V=>(aD (v:=i64 0) (aG (aL (aA (bP sc_210 V (i:=2) rfl rfl rfl) (aI (v:=i64 d) (aA (eQ (us:=o) ag_214 V (i:=0) rfl rfl rfl rfl) ?_))))))));obtain ⟨e6,a9,hm⟩:=aC hm
 have c9:=fD V (i:=1) rfl a9
 refine aA (gQ sl_210 rfl c9 rfl rfl rfl a9) ?_;obtain ⟨e,b7,hm⟩:=aC hm
 refine mF (i:=1) (t:=0) (ns:=o) (e':=(⟨p.scope,p.behind⟩:eZ)) sizeOf214 V rfl (Hp.le_refl _) rfl rfl rfl a9 b7 rfl rfl (eM rfl) rfl (fun cs h=>by cases h;rfl) (fun b8 (d0:aO G K (box J 214 o::bI 214 K a2 c3 e::box b1 210 [zS a2 k.length c3]::L) b8)=>?_)
 have b0:aO G K (box J 214 o::bI 214 K a2 c3 e::box b1 210 [zS a2 e.length c3]::L) b8:=by rw [←(cR b7)];exact d0
 refine aG (aL (aA (cM (k':=q+2) jQ rfl h6 rfl) (aA (bZ (t:=2) yM b0 h6 rfl rfl) (aI (v:=i64 d) ?_))));obtain ⟨a,b9,hm⟩:=aC hm
 refine aA (cQ lH rfl h9 rfl rfl rfl b9) ?_;obtain ⟨e7,d1,d2⟩:=cI.el (sz:=4) rfl h9 b9
 obtain ⟨l,m,rfl,d3⟩:=d2
 refine aA (eP (t:=0) (vs:=[i64 a.Kind,i64 a.Number,str a.Name,zS l a.Arguments.length m]) xG b0 d1 rfl rfl rfl) (dA (vs:=[i64 0,i64 0,str ([]:bL),zS none 0 0]) zeroValue157 b0 rfl (fun b2 e8 d4=>(cT (i:=0) (ns:=[i64 a.Kind,i64 a.Number,str a.Name,zS l a.Arguments.length m]) (us:=[i64 a.Kind,i64 a.Number,str a.Name,zS l a.Arguments.length m]) sizeOf157 d4 rfl rfl rfl rfl rfl (eM rfl) rfl rfl (fun d5 (b3:aO G K (box b2 157 [i64 a.Kind,i64 a.Number,str a.Name,zS l a.Arguments.length m]::box J 214 o::bI 214 K a2 c3 e::box b1 210 [zS a2 e.length c3]::L) d5)=>(aG (aL (aA (bC (t':=0) aGq rfl rfl) (aA (bP dC b3 (i:=1) rfl rfl rfl) (aA (bC (t':=0) fA rfl rfl) (aA (bP dC b3 (i:=0) rfl rfl rfl) (aA (cP rfl rfl) (aA (iJ (vs:=[(0,i64 p.scope),(1,zB (a.Kind == 1))]) (cs:=[i64 p.scope,zB (a.Kind == 1)]) bs_214 rfl (by kernel_rfl)) (dA (vs:=[i64 0,zB false]) zeroValue214 b3 rfl (fun Z e9 d6=>(cT (i:=0) (ns:=[i64 p.scope,zB (a.Kind == 1)]) (us:=[i64 p.scope,zB (a.Kind == 1)]) sizeOf214 d6 rfl rfl rfl rfl rfl (eM rfl) rfl rfl (fun d7 (f0:aO G K (box Z 214 [i64 p.scope,zB (a.Kind == 1)]::box b2 157 [i64 a.Kind,i64 a.Number,str a.Name,zS l a.Arguments.length m]::box J 214 o::bI 214 K a2 c3 e::box b1 210 [zS a2 e.length c3]::L) d7)=>(aG (yI [0,4,8,9] (fun f w=>∃ j,eL rec_ d b e a j=some R/\aO G K (box Z 214 [i64 j,zB (a.Kind == 1)]::box b2 157 [i64 a.Kind,i64 a.Number,str a.Name,zS l a.Arguments.length m]::bI 214 K a2 c3 e::box b1 210 [zS a2 e.length c3]::L) w) ?_ ?_))))))))))))))))))
 ·rintro f f1 ⟨j,hm,c0⟩
  unfold eL at hm
  refine aL (aI (v:=i64 d) (aA (cH rfl rfl) (aD (v:=i64 (wr (d+1))) (aG (aP (aL (aA (eQ (us:=[i64 a.Kind,i64 a.Number,str a.Name,zS l a.Arguments.length m]) xG c0 (i:=1) rfl rfl rfl rfl) ?_)))))));obtain ⟨f2,d8,hm⟩:=aC hm
  refine aV (vs:=[zA #[i64 a.Kind,i64 a.Number,str a.Name,zS l a.Arguments.length m]]) call172 rfl (aDA d8 c0 d3) ?_
  rintro _ f3 ⟨rfl,f4⟩
  refine aI (v:=i64 0) (aG (bR [] (fun f w=>∃ c1 b4 c2 c4,hY c1 b4=some R/\f 10=i64 c1/\aO G K (bI 214 K c2 c4 b4::box b1 210 [zS c2 b4.length c4]::L) w) cA ?_));obtain ⟨f5,d9,ho⟩:=aC hm
  refine mT [4,9,36] d9 (fun a0 c5 x f w=>∃ y z,f 10=i64 a0/\f 37=i64 c5/\aO G K (box Z 214 [i64 j,zB (a.Kind == 1)]::bI 214 K y z x::box b1 210 [zS y x.length z]::L) w) cA ?_
  ·rintro a0 c5 x f6 f e0 hm hr ⟨y,z,e1,e2,b5⟩
   unfold gH at hm
   refine aL (aA (cL e2 rfl) (aG (aP ?_)))
   rcases aH hm with ⟨c6,hm⟩|⟨c6,hm⟩
   ·refine aN c6 rfl (aX (aB (aP (bY (aW (aA (bZ (t:=0) sc_246 b5 a5 rfl rfl) (bJ e1 (aA (eQ (us:=[i64 j,zB (a.Kind == 1)]) ag_214 b5 (i:=0) rfl rfl rfl rfl) ?_))))))))
    have e3:aO G K (bI 214 K y z x::box b1 210 [zS y x.length z]::box Z 214 [i64 j,zB (a.Kind == 1)]::L) e0:=(aO.arr 3 [1,2,0] b5 rfl)
    obtain ⟨f7,e4,hm⟩:=aC hm
    exact qV (vs:=[i64 a0,zA #[i64 j,zB (a.Kind == 1)]]) (caps:=[zP (some ⟨b1,0,none⟩),eN a13 n,eN a10 g]) (us:=[i64 a0,zA #[i64 j,zB (a.Kind == 1)],zP (some ⟨b1,0,none⟩),eN a13 n,eN a10 g]) rfl call188 rfl rfl (ih (p:=⟨j,a.Kind == 1⟩) e4 e3 a6 a8 a5 a6 a8) cA
   ·exact cA
 exact cA
theorem aBS (n:Nat):∀ {G:qG} {K:Hp} {L:List iZ} {w:World} {l:Int} {p:eZ} {b1:Nat} {c:(List eZ)} {a2:Option Addr} {c3:Nat} {a:Definition} {a4:Option Addr} {m:Nat} {a7:Option Addr} {c8:Nat} {a10:Option Addr} {d:Nat} {b:Definition} {a13:Option Addr} {o:Nat} {a16:Option Addr} {c17:Nat} {R:(Int × (List eZ))} (hm:dW n l p c a b=some R) (e:aO G K (bI 214 K a2 c3 c::box b1 210 [zS a2 c.length c3]::L) w) (g:iQ K a4 m [str a.Name,i64 a.Parameters,zS a7 a.Body.length c8]) (h:cI K a7 c8 a.Body) (i:iQ K a10 d [Value.func (.func 188) #[] #[zP (some ⟨b1,0,none⟩),eN a13 o,eN a10 d]]) (j:iQ K a13 o [str b.Name,i64 b.Parameters,zS a16 b.Body.length c17]) (k:cI K a16 c17 b.Body),
  Calls prog 188 ([i64 l,zA #[i64 p.scope,zB p.behind],zP (some ⟨b1,0,none⟩),eN a4 m,eN a10 d]:List Value).toArray w (eX fun v w'=>∃ q r,v=i64 R.1/\aO G K (bI 214 K q r R.2::box b1 210 [zS q R.2.length r]::L) w'):=by
 induction n with
 |zero=>
  intro G K L w l p b1 c a2 c3 a a4 m a7 c8 a10 d b a13 o a16 c17 R hm e g h i j k
  unfold dW at hm
  cases hm
 |succ n ih=>
  intro G K L w l p b1 c a2 c3 a a4 m a7 c8 a10 d b a13 o a16 c17 R hm e g h i j k
  exact aBR (rec_:=dW n) (fun hm e g h i j k=>ih hm e g h i j k) hm e g h i j k
theorem aCH {at_:Int} {p:eZ} {p':(List eZ)} {p'':Definition} {k5 k11:Nat} {p_c1_:Definition} {k14:Nat} {R:(Int × (List eZ))} (hm:qS at_ p p' p'' p_c1_=some R) (hs:aO G K (bI 214 K a2 c3 p'::box b1 210 [zS a2 p'.length c3]::L) w) (h6:iQ K a4 k5 [str p''.Name,i64 p''.Parameters,zS a7 p''.Body.length c8]) (h9:cI K a7 c8 p''.Body) (h12:iQ K a10 k11 [Value.func (.func 188) #[] #[zP (some ⟨b1,0,none⟩),eN a13 k14,eN a10 k11]]) (h15:iQ K a13 k14 [str p_c1_.Name,i64 p_c1_.Parameters,zS a16 p_c1_.Body.length c17]) (h18:cI K a16 c17 p_c1_.Body):
  Calls prog 188 ([i64 at_,zA #[i64 p.scope,zB p.behind],zP (some ⟨b1,0,none⟩),eN a4 k5,eN a10 k11]:List Value).toArray w (eX fun v w'=>∃ ra0 rc0,v=i64 R.1/\aO G K (bI 214 K ra0 rc0 R.2::box b1 210 [zS ra0 R.2.length rc0]::L) w'):=aBS 100000 hm hs h6 h9 h12 h15 h18
theorem aEr {d:Definition} {R:(List eZ)} (hm:mA d=some R) (x:aO G K (L) w) (m:cI K a1 c2 d.Body):
  Calls prog 155 ([zA #[str d.Name,i64 d.Parameters,zS a1 d.Body.length c2]]:List Value).toArray w (eX fun v w'=>∃ n o,v=zS n R.length o/\aO G K (bI 214 K n o R::L) w'):=by
 let j:=[str d.Name,i64 d.Parameters,zS a1 d.Body.length c2]
 refine aT func155 rfl (by kernel_rfl) (by show (1:Nat)<=16;decide) ?_;unfold mA at hm
 refine aL (dR (v:=zA #[str d.Name,i64 d.Parameters,zS a1 d.Body.length c2]) (vs:=j) x rfl rfl (fun b w5 q=>(aD (v:=zS none 0 0) (aG (aL (aA (bC (t':=2) jQ rfl rfl) (aA (bP yM q (i:=0) rfl rfl rfl) (aA (bQ (len:=d.Body.length) lH rfl) ?_))))))));obtain ⟨a,y,hm⟩:=aC hm
 refine aLp (e:=(⟨0,false⟩:eZ)) sl_210 ez_214 rfl rfl q rfl rfl rfl y rfl (fun g z (J:aO G K (bI 214 K g a.length a::box b 100 j::L) z)=>(dA (vs:=[zS none 0 0]) zeroValue210 J rfl (fun c b1 V=>(cT (i:=0) (ns:=[zS g a.length a.length]) (us:=[zS g a.length a.length]) sizeOf210 V rfl rfl rfl rfl rfl (eM rfl) rfl rfl (fun Z (a0:aO G K (box c 210 [zS g a.length a.length]::bI 214 K g a.length a::box b 100 j::L) Z)=>(aG (aL (dA (vs:=[Value.nilFunc]) zeroValue246 a0 rfl (fun h b2 a2=>(aG (aL (aA (xF (vs:=[zP (some ⟨c,0,none⟩),zP (some ⟨b,0,none⟩),zP (some ⟨h,0,none⟩)]) rfl) (cT (i:=0) (ns:=[Value.func (.func 188) #[] #[zP (some ⟨c,0,none⟩),zP (some ⟨b,0,none⟩),zP (some ⟨h,0,none⟩)]]) (us:=[Value.func (.func 188) #[] #[zP (some ⟨c,0,none⟩),zP (some ⟨b,0,none⟩),zP (some ⟨h,0,none⟩)]]) sizeOf246 a2 rfl rfl rfl rfl rfl (eM rfl) rfl rfl (fun r (l:aO G K (box h 246 [Value.func (.func 188) #[] #[zP (some ⟨c,0,none⟩),zP (some ⟨b,0,none⟩),zP (some ⟨h,0,none⟩)]]::box c 210 [zS g a.length a.length]::bI 214 K g a.length a::box b 100 j::L) r)=>(aG (aL (aA (bP sc_246 l (i:=0) rfl rfl rfl) (aA (bC (t':=1) qX rfl rfl) (aA (bP dC l (i:=3) rfl rfl rfl) (aA (iJ (vs:=[(0,i64 d.Parameters)]) (cs:=[i64 d.Parameters,zB false]) bs_214 rfl (by kernel_rfl)) ?_))))))))))))))))))))
 obtain ⟨b3,t,u,a3,b5⟩:=aO.lendBp l zt3
 obtain ⟨a4,k,a5,a6,b6⟩:=aO.lendBp a3 .head
 have a7:aO G a4 (bI 214 K g a.length a::box c 210 [zS g a.length a.length]::L) r:=(aO.arr 2 [1,0] a6 rfl)
 obtain ⟨b7,a8,hm⟩:=aC hm
 exact qV (vs:=[i64 0,zA #[i64 d.Parameters,zB false]]) (caps:=[zP (some ⟨c,0,none⟩),eN (some ⟨b,0,none⟩) 0,eN (some ⟨h,0,none⟩) 0]) (us:=[i64 0,zA #[i64 d.Parameters,zB false],zP (some ⟨c,0,none⟩),eN (some ⟨b,0,none⟩) 0,eN (some ⟨h,0,none⟩) 0]) rfl call188 rfl rfl (aCH (p:=⟨d.Parameters,false⟩) a8 a7 (u.mono k) (m.mono (Hp.le_trans t k)) (show iQ _ _ _ [Value.func (.func 188) #[] #[zP (some ⟨c,0,none⟩),eN (some ⟨b,0,none⟩) 0,eN (some ⟨h,0,none⟩) 0]] from a5) (u.mono k) (m.mono (Hp.le_trans t k))) cA
theorem aAB {i many:Int} {R:Bool} (hm:aAh i many=some R) (a:aO G K (L) w):
  Calls prog 25 ([i64 i,i64 many]:List Value).toArray w (eX fun v w'=>v=zB R/\aO G K (L) w'):=by
 exact cA
theorem aIe {p:Part} {R:Bool} (hm:vV p=some R) (g:aO G K (L) w) (h:cI K a1 c2 p.Arguments):
  Calls prog 189 ([zA #[i64 p.Kind,i64 p.Number,str p.Name,zS a1 p.Arguments.length c2]]:List Value).toArray w (eX fun v w'=>v=zB R/\aO G K (L) w'):=by
 let b:=[i64 p.Kind,i64 p.Number,str p.Name,zS a1 p.Arguments.length c2]
 refine aT func189 rfl (by kernel_rfl) (by show (1:Nat)<=56;decide) ?_;unfold vV at hm
 refine aL (dR (v:=zA #[i64 p.Kind,i64 p.Number,str p.Name,zS a1 p.Arguments.length c2]) (vs:=b) g rfl rfl (fun d i j=>(aD (v:=zB false) (aG (aP (cO [1] (fun f w=>∃ a,pP p a=some R/\f 3=zB a/\aO G K (box d 157 b::L) w) ?_ ?_))))))
 ·rintro f k ⟨a,hm,l,m⟩
  unfold pP at hm
  refine aB (aP (cO [1,3] (fun f w=>∃ c,mO p a c=some R/\f 4=zB c/\aO G K (box d 157 b::L) w) ?_ ?_))
  ·rintro f n ⟨c,hm,o,q⟩
   unfold mO at hm
   exact aB (aP (cO [] (fun f w=>∃ e,fC e=some R/\f 2=zB e/\aO G K (L) w) cA cA))
  exact cA
 exact cA
theorem aHA {p:Part} {a:(List Definition)} {R:Bool} (hm:sZ p a=some R) (e:aO G K (L) w) (g:cI K a1 c2 p.Arguments) (h:cI K a4 c5 a):
  Calls prog 190 ([zA #[i64 p.Kind,i64 p.Number,str p.Name,zS a1 p.Arguments.length c2],zS a4 a.length c5]:List Value).toArray w (eX fun v w'=>v=zB R/\aO G K (L) w'):=by
 refine aT func190 rfl (by kernel_rfl) (by show (2:Nat)<=38;decide) ?_;unfold sZ at hm
 refine aL (dR (v:=zA #[i64 p.Kind,i64 p.Number,str p.Name,zS a1 p.Arguments.length c2]) (vs:=[i64 p.Kind,i64 p.Number,str p.Name,zS a1 p.Arguments.length c2]) e rfl rfl (fun j k b=>(aD (v:=zB false) (aG (aL (aA (bC (t':=3) jP rfl rfl) (aA (bP qI b (i:=0) rfl rfl rfl) (aA (bQ (len:=p.Arguments.length) lJ rfl) (aD (v:=i64 (p.Arguments.length:Int)) (aG (aP (aL (aA (bC (t':=0) fA rfl rfl) (aA (bP dC b (i:=0) rfl rfl rfl) (aG (bY (aL (aA (cP rfl rfl) (aD (v:=zB (p.Kind == 1)) (aG ?_))))))))))))))))))))
 rcases aH hm with ⟨c,hm⟩|⟨c,hm⟩
 ·exact aN c rfl (aP (cO [] (fun f w=>∃ d,lU d=some R/\f 4=zB d/\aO G K (L) w) cA cA))
 ·exact cA
theorem aIR {t:bS} {a:Int} {R:Bool} (hm:aAi t a=some R) (b:aO G K (L) w):
  Calls prog 234 ([zA #[i64 t.Kind,i64 t.Value],i64 a]:List Value).toArray w (eX fun v w'=>v=zB R/\aO G K (L) w'):=by
 exact cA
theorem aBT {t:bS} {R:Int} (hm:rE t=some R) (a:aO G K (L) w):
  Calls prog 235 ([zA #[i64 t.Kind,i64 t.Value]]:List Value).toArray w (eX fun v w'=>v=i64 R/\aO G K (L) w'):=by
 exact cA
theorem aIS {e:(List bS)} {b h:Int} {R:Bool} (hm:aAj e b h=some R) (hs:aO G K (L) w) (j:cI K a1 c2 e):
  Calls prog 193 ([zS a1 e.length c2,i64 b,i64 h]:List Value).toArray w (eX fun v w'=>v=zB R/\aO G K (L) w'):=by
 refine aT func193 rfl (by kernel_rfl) (by show (3:Nat)<=47;decide) ?_;unfold aAj at hm
 refine aL (aD (v:=zB false) (aG (aP (aP (cO [0,1] (fun f w=>∃ c,nO e b c=some R/\f 24=zB c/\aO G K (L) w) ?_ ?_)))))
 ·rintro f w6 ⟨c,hm,u,a3⟩
  unfold nO at hm
  refine aB ?_
  rcases aH hm with ⟨k,hm⟩|⟨k,hm⟩
  ·exact cA
  ·refine aJ k u (aX (aB (aL (aD (v:=i64 1) (aG (aP (aL (aI (v:=zS a1 e.length c2) (aA (bQ (len:=e.length) lW rfl) (aI (v:=i64 0) (aG (bR [] (fun f w=>∃ l,wS l=some R/\f 7=i64 l/\aO G K (L) w) cA ?_))))))))))));obtain ⟨a4,x,ho⟩:=aC hm
   refine eG [1,25,26] x (fun d g f w=>f 7=i64 d/\f 27=i64 g/\aO G K (L) w) cA ?_
   ·rintro d g y f a5 hm hr ⟨a6,m,n⟩
    unfold rG at hm
    refine aL (aA (cL m rfl) (aG (aP ?_)))
    rcases aH hm with ⟨o,hm⟩|⟨o,hm⟩
    ·refine aN o rfl (aX (aB (aP (bY (aL ?_)))));obtain ⟨a,p,hm⟩:=aC hm
     refine aA (cQ lW rfl j rfl rfl m p) ?_;obtain ⟨a7,z,J⟩:=cI.el (sz:=2) rfl j p
     cases J
     exact aA (eP (t:=0) (vs:=[i64 a.Kind,i64 a.Value]) aFn n z rfl rfl rfl) (dA (vs:=[i64 0,i64 0]) zeroValue233 n rfl (fun q a8 V=>(cT (i:=0) (ns:=[i64 a.Kind,i64 a.Value]) (us:=[i64 a.Kind,i64 a.Value]) sizeOf233 V rfl rfl rfl rfl rfl (eM rfl) rfl rfl (fun Z (a9:aO G K (box q 233 [i64 a.Kind,i64 a.Value]::L) Z)=>(aG (aP (aP (cO [1,7,9,25,26,27] (fun f w=>∃ r,rF d g a r=some y/\f 38=zB r/\aO G K (box q 233 [i64 a.Kind,i64 a.Value]::L) w) cA cA))))))))
    ·exact cA
 exact cA
theorem aFZ {e:(List bS)} {p:eZ} {a:Nat} {R:Bool} (hm:uL e p=some R) (b:aO G K (L) w) (c:cI K a1 c2 e) (d:iQ K a4 a [i64 p.scope,zB p.behind]):
  Calls prog 192 ([zS a1 e.length c2,eN a4 a]:List Value).toArray w (eX fun v w'=>v=zB R/\aO G K (L) w'):=by
 exact cA
theorem nD {a:(List (List bS))} {d:eZ} {b:Nat} {R:Int} (hm:fM a d=some R) (x:aO G K (L) w) (e:cI K a1 c2 a) (n:iQ K a4 b [i64 d.scope,zB d.behind]):
  Calls prog 233 ([zS a1 a.length c2,Value.func (.func 192) #[] #[eN a4 b]]:List Value).toArray w (eX fun v w'=>v=i64 R/\aO G K (L) w'):=by
 refine aT func233 rfl (by kernel_rfl) (by show (2:Nat)<=19;decide) ?_;unfold fM at hm
 refine aL (aD (v:=i64 0) (aG (aP (aL (aI (v:=zS a1 a.length c2) (aA (bQ (len:=a.length) lJ rfl) (aI (v:=i64 0) (aG (bR [] (fun f w=>eY=some R/\aO G K (L) w) cA ?_)))))))));obtain ⟨y,o,ho⟩:=aC hm
 refine dS [0,1,7] o (fun c f w=>f 8=i64 c/\aO G K (L) w) cA ?_
 ·rintro c z f J hm hr ⟨g,h⟩
  unfold eA at hm
  refine aL (aA (cL g rfl) (aG (aP ?_)))
  rcases aH hm with ⟨i,hm⟩|⟨i,hm⟩
  ·refine aN i rfl (aX (aB (aP (bY (aL (bJ g (aD (v:=i64 c) (aG (aL (aI (v:=Value.func (.func 192) #[] #[eN a4 b]) (aI (v:=zS a1 a.length c2) (aI (v:=i64 c) ?_))))))))))));obtain ⟨j,k,hm⟩:=aC hm
   refine aA (cQ lJ rfl e rfl rfl rfl k) ?_;obtain ⟨V,p,q⟩:=cI.el (sz:=1) rfl e k
   obtain ⟨l,m,rfl,r⟩:=q
   refine aA (bZ (t:=0) aFk h p rfl rfl) ?_;obtain ⟨Z,u,hm⟩:=aC hm
   exact qV (vs:=[zS l j.length m]) (caps:=[eN a4 b]) (us:=[zS l j.length m,eN a4 b]) rfl call192 rfl rfl (aFZ u h r n) cA
  ·exact cA
theorem mD {a:(List (List bS))} {b:eZ} {c:Nat} {R:Bool} (hm:eB a b=some R) (d:aO G K (L) w) (e:cI K a1 c2 a) (g:iQ K a4 c [i64 b.scope,zB b.behind]):
  Calls prog 191 ([zS a1 a.length c2,Value.func (.func 192) #[] #[eN a4 c]]:List Value).toArray w (eX fun v w'=>v=zB R/\aO G K (L) w'):=by
 exact cA
theorem aIf {p:Part} {b:(List Definition)} {a:eZ} {R:Int} (hm:rQ p b a=some R) (J:aO G K (L) w) (h:cI K a1 c2 p.Arguments) (V:cI K a4 c5 b):
  Calls prog 156 ([zA #[i64 p.Kind,i64 p.Number,str p.Name,zS a1 p.Arguments.length c2],zS a4 b.length c5,zA #[i64 a.scope,zB a.behind]]:List Value).toArray w (eX fun v w'=>v=i64 R/\aO G K (L) w'):=by
 let c:=[i64 p.Kind,i64 p.Number,str p.Name,zS a1 p.Arguments.length c2]
 let e:=[i64 a.scope,zB a.behind]
 refine aT func156 rfl (by kernel_rfl) (by show (3:Nat)<=77;decide) ?_;unfold rQ at hm
 refine aL (dR (v:=zA #[i64 p.Kind,i64 p.Number,str p.Name,zS a1 p.Arguments.length c2]) (vs:=c) J rfl rfl (fun g w8 Z=>(dR (v:=zA #[i64 a.scope,zB a.behind]) (vs:=e) Z rfl rfl (fun d b5 n=>(aD (v:=i64 0) (aG (aP (bY (aL (aA (eQ (us:=c) xG n (i:=1) rfl rfl rfl rfl) ?_))))))))));obtain ⟨a0,a2,hm⟩:=aC hm
 refine aV (vs:=[zA #[i64 p.Kind,i64 p.Number,str p.Name,zS a1 p.Arguments.length c2]]) call189 rfl (aIe a2 n h) ?_
 rintro _ b6 ⟨rfl,b8⟩
 refine aA (dB rfl) (aD (v:=zB (!a0)) (aG ?_))
 rcases aH hm with ⟨o,hm⟩|⟨o,hm⟩
 ·exact cA
 ·refine aJ o rfl (aP (cO [1,3,5] (fun f w=>∃ j,kW p b a j=some R/\f 11=zB j/\aO G K (box d 214 e::box g 157 c::L) w) ?_ ?_))
  ·rintro f b9 ⟨j,hm,a3,c0⟩
   unfold kW at hm
   refine aB ?_
   rcases aH hm with ⟨q,hm⟩|⟨q,hm⟩
   ·exact cA
   ·refine aJ q a3 (aP (cO [1,3,5] (fun f w=>∃ k,iS p b a k=some R/\f 26=zB k/\aO G K (box d 214 e::box g 157 c::L) w) ?_ ?_))
    ·rintro f c1 ⟨k,hm,a5,r⟩
     unfold iS at hm
     refine aB ?_
     rcases aH hm with ⟨t,hm⟩|⟨t,hm⟩
     ·exact cA
     ·refine aJ t a5 (aL (aA (eQ (us:=c) xG r (i:=1) rfl rfl rfl rfl) (aI (v:=zS a4 b.length c5) ?_)));obtain ⟨a6,a7,hm⟩:=aC hm
      refine aV (vs:=[zA #[i64 p.Kind,i64 p.Number,str p.Name,zS a1 p.Arguments.length c2],zS a4 b.length c5]) call190 rfl (aHA a7 r h V) ?_
      rintro _ c3 ⟨rfl,c4⟩
      refine aA (dB rfl) (aD (v:=zB (!a6)) (aG ?_))
      rcases aH hm with ⟨u,hm⟩|⟨u,hm⟩
      ·exact cA
      ·refine aJ u rfl (aP (cO [3,5] (fun f w=>∃ l,mQ p a l=some R/\f 54=zB l/\aO G K (box d 214 e::box g 157 c::L) w) ?_ ?_))
       ·rintro f c6 ⟨l,hm,a8,c7⟩
        unfold mQ at hm
        refine aB ?_
        rcases aH hm with ⟨x,hm⟩|⟨x,hm⟩
        ·exact cA
        ·refine aJ x a8 (aP (cO [3,5] (fun f w=>∃ m,mP p a m=some R/\f 63=zB m/\aO G K (box d 214 e::box g 157 c::L) w) ?_ ?_))
         ·rintro f c8 ⟨m,hm,a9,y⟩
          unfold mP at hm
          refine aB ?_
          rcases aH hm with ⟨z,hm⟩|⟨z,hm⟩
          ·exact cA
          ·refine aJ z a9 (aL (aA (bC (t':=3) jP rfl rfl) (aA (bP qI y (i:=1) rfl rfl rfl) (aA (xF (vs:=[zP (some ⟨d,0,none⟩)]) rfl) ?_))));obtain ⟨c9,b0,b1,b2,d0⟩:=aO.lendBp y .head
           obtain ⟨d1,b3,hm⟩:=aC hm
           exact aV (vs:=[zS a1 p.Arguments.length c2,Value.func (.func 192) #[] #[eN (some ⟨d,0,none⟩) 0]]) call191 rfl (mD b3 b2 (h.mono b0) b1) cA
         exact cA
       exact cA
    exact cA
  exact cA
theorem aJI {a:(List Definition)} {d:Definition} {R:(Int × Int)} (hm:yC a d=some R) (l:aO G K (L) w) (u:cI K a1 c2 a) (m:cI K a4 c5 d.Body):
  Calls prog 115 ([zS a1 a.length c2,zA #[str d.Name,i64 d.Parameters,zS a4 d.Body.length c5]]:List Value).toArray w (eX fun v w'=>v=Value.tuple #[i64 R.1,i64 R.2]/\aO G K (L) w'):=by
 let b:=[str d.Name,i64 d.Parameters,zS a4 d.Body.length c5]
 refine aT func115 rfl (by kernel_rfl) (by show (2:Nat)<=45;decide) ?_;unfold yC at hm
 refine aL (dR (v:=zA #[str d.Name,i64 d.Parameters,zS a4 d.Body.length c5]) (vs:=b) l rfl rfl (fun n x y=>(aD (v:=i64 0) (aD (v:=i64 0) (aG (aP (aP (cO [0,3] (fun f w=>∃ c,tA a d c=some R/\f 22=zB c/\aO G K (box n 100 b::L) w) ?_ ?_))))))))
 ·rintro f z ⟨c,hm,o,e⟩
  unfold tA at hm
  refine aB ?_
  rcases aH hm with ⟨g,hm⟩|⟨g,hm⟩
  ·exact cA
  ·refine aJ g o (aX (aB (aL (aA (eQ (us:=b) aCc e (i:=0) rfl rfl rfl rfl) ?_))));obtain ⟨h,p,hm⟩:=aC hm
   refine aV (vs:=[zA #[str d.Name,i64 d.Parameters,zS a4 d.Body.length c5]]) call155 rfl (aEr p e m) ?_
   rintro _ J ⟨j,k,rfl,q⟩
   refine aD (v:=zS j h.length k) (aG (aP (aL (aA (bC (t':=2) jQ rfl rfl) (aA (bP yM q (i:=1) rfl rfl rfl) (aA (bQ (len:=d.Body.length) lH rfl) (aI (v:=i64 0) (aG (bR [] (fun f w=>aAk=some R/\aO G K (L) w) cA ?_)))))))));obtain ⟨V,r,ho⟩:=aC hm
   exact dS [0,6,26,27] r (fun t f w=>f 28=i64 t/\aO G K (bI 214 K j k h::L) w) cA cA
 exact cA
theorem aEU {c:(List Definition)} {R:Bool} (hm:jL c=some R) (hs:aO G K (L) w) (k:cI K a1 c2 c):
  Calls prog 81 ([zS a1 c.length c2]:List Value).toArray w (eX fun v w'=>v=zB R/\aO G K (L) w'):=by
 refine aT func81 rfl (by kernel_rfl) (by show (1:Nat)<=45;decide) ?_;unfold jL at hm
 refine aL (aD (v:=zB false) (aG (aP (aP (cO [0] (fun f w=>∃ l,kQ c l=some R/\f 15=zB l/\aO G K (L) w) ?_ ?_)))))
 ·rintro f w6 ⟨l,hm,J,b4⟩
  unfold kQ at hm
  refine aB ?_
  rcases aH hm with ⟨o,hm⟩|⟨o,hm⟩
  ·exact cA
  ·refine aJ o J (aX (aB (aP (aL (aI (v:=zS a1 c.length c2) (aA (bQ (len:=c.length) jV rfl) (aI (v:=i64 0) (aG (bR [] (fun f w=>nI=some R/\aO G K (L) w) cA ?_)))))))));obtain ⟨b5,V,ho⟩:=aC hm
   refine dS [0,16,17] V (fun j f w=>f 18=i64 j/\aO G K (L) w) cA ?_
   ·rintro j Z f b6 hm hr ⟨m,p⟩
    unfold kP at hm
    refine aL (aA (cL m rfl) (aG (aP ?_)))
    rcases aH hm with ⟨q,hm⟩|⟨q,hm⟩
    ·refine aN q rfl (aX (aB (aP (bY (aL (bJ m ?_))))));obtain ⟨a,r,hm⟩:=aC hm
     refine aA (cQ jV rfl k rfl rfl m r) ?_;obtain ⟨b7,a0,a2⟩:=cI.el (sz:=3) rfl k r
     obtain ⟨e,h,rfl,b8⟩:=a2
     refine aA (eP (t:=0) (vs:=[str a.Name,i64 a.Parameters,zS e a.Body.length h]) aCc p a0 rfl rfl rfl) (dA (vs:=[str ([]:bL),i64 0,zS none 0 0]) zeroValue100 p rfl (fun n b9 a3=>(aD (v:=i64 j) (cT (i:=0) (ns:=[str a.Name,i64 a.Parameters,zS e a.Body.length h]) (us:=[str a.Name,i64 a.Parameters,zS e a.Body.length h]) sizeOf100 a3 rfl rfl rfl rfl rfl (eM rfl) rfl rfl (fun a4 (b:aO G K (box n 100 [str a.Name,i64 a.Parameters,zS e a.Body.length h]::L) a4)=>(aG (aP (aP (cO [0,4,16,17,18] (fun f w=>∃ u,kO c j a u=some Z/\f 35=zB u/\aO G K (box n 100 [str a.Name,i64 a.Parameters,zS e a.Body.length h]::L) w) cA (dF (C:=fun w'=>aO G K (box n 100 [str a.Name,i64 a.Parameters,zS e a.Body.length h]::L) w') cC (by kernel_rfl) (aO.mono b (dY.drew _)) (aZ (fun _ b=>bC (t':=0) vC rfl rfl) (aZ (fun _ b=>bP fJ b (i:=0) rfl rfl rfl) ?_))))))))))))
     obtain ⟨x,a5,hm⟩:=aC hm
     refine fH (vs:=[str a.Name]) (v:=zB x) call113 rfl (fun _ b=>(aHL a5 b)) (aZ (fun _ b=>dB rfl) (aZ (fun _ b=>bM (v:=zB (!x)) rfl) ?_))
     rcases aH hm with ⟨d,hm⟩|⟨d,hm⟩
     ·exact cA
     ·refine bT (g:=27) rfl rfl (cF d) (aZ (fun _ b=>bM (v:=zS a1 c.length c2) rfl) (bT (g:=27) rfl rfl (cF d) (aZ (fun _ b=>bM (v:=i64 j) rfl) (bT (g:=27) rfl rfl (cF d) ?_))));obtain ⟨a6,y,hm⟩:=aC hm
      obtain ⟨a7,a8,z⟩:=Cut.ex 3 a1 c2 0
      have a9:=cI.cut' k y z
      refine aZ (fun _ b=>R_slVH jV k.room z rfl rfl rfl y) (bT (g:=27) rfl rfl (cF d) (aZ (fun _ b=>bC (t':=0) vC rfl rfl) (bT (g:=27) rfl rfl (cF d) (aZ (fun _ b=>bP fJ b (i:=0) rfl rfl rfl) (bT (g:=27) rfl rfl (cF d) ?_)))));obtain ⟨b0,b1,hm⟩:=aC hm
      exact fH (vs:=[zS a7 a6.length a8,str a.Name]) (v:=i64 b0) call114 rfl (fun _ b=>(aFC b1 b a9)) cA
    ·exact cA
 exact cA
theorem aIg {a:(List Definition)} {c:bU} {R:Bool} (hm:vW a c=some R) (d:aO G K (L) w) (e:cI K a1 c2 a) (g:cI K a4 c5 c.Values):
  Calls prog 84 ([zS a1 a.length c2,zA #[i64 c.Definition,zS a4 c.Values.length c5]]:List Value).toArray w (eX fun v w'=>v=zB R/\aO G K (L) w'):=by
 refine aT func84 rfl (by kernel_rfl) (by show (2:Nat)<=27;decide) ?_;unfold vW at hm
 exact aL (dR (v:=zA #[i64 c.Definition,zS a4 c.Values.length c5]) (vs:=[i64 c.Definition,zS a4 c.Values.length c5]) d rfl rfl (fun h i j=>(aD (v:=zB false) (aG (aP (cO [] (fun f w=>∃ b,mR b=some R/\f 4=zB b/\aO G K (L) w) cA cA))))))
theorem aFD {a b:cB} {R:Int} (hm:oC a b=some R) (l:aO G K (L) w):
  Calls prog 119 ([zA #[str a.Left,str a.Right,str a.Result],zA #[str b.Left,str b.Right,str b.Result]]:List Value).toArray w (eX fun v w'=>v=i64 R/\aO G K (L) w'):=by
 let c:=[str a.Left,str a.Right,str a.Result]
 let d:=[str b.Left,str b.Right,str b.Result]
 refine aT func119 rfl (by kernel_rfl) (by show (2:Nat)<=16;decide) ?_;unfold oC at hm
 refine aL (dR (v:=zA #[str a.Left,str a.Right,str a.Result]) (vs:=c) l rfl rfl (fun h r m=>(dR (v:=zA #[str b.Left,str b.Right,str b.Result]) (vs:=d) m rfl rfl (fun j t e=>(aD (v:=i64 0) (aG (aL (aA (bC (t':=0) lZ rfl rfl) (aA (bP fJ e (i:=1) rfl rfl rfl) (aA (bC (t':=1) nV rfl rfl) (aA (bP fJ e (i:=1) rfl rfl rfl) (gA (Kt:=K) (xs:=([a.Left,a.Right]:List bL)) (cs:=[str a.Left,str a.Right]) (vs:=[(0,str a.Left),(1,str a.Right)]) dQ aEz rfl rfl e rfl (by kernel_rfl) rfl rfl rfl ⟨rfl,rfl,trivial⟩ (fun k n (g:aO G K (bI 9 K k 2 ([a.Left,a.Right]:List bL)::box j 104 d::box h 104 c::L) n)=>(aA (bC (t':=0) lZ rfl rfl) (aA (bP fJ g (i:=1) rfl rfl rfl) (aA (bC (t':=1) nV rfl rfl) (aA (bP fJ g (i:=1) rfl rfl rfl) (gA (Kt:=K) (xs:=([b.Left,b.Right]:List bL)) (cs:=[str b.Left,str b.Right]) (vs:=[(0,str b.Left),(1,str b.Right)]) dQ aEz rfl rfl g rfl (by kernel_rfl) rfl rfl rfl ⟨rfl,rfl,trivial⟩ (fun o p (q:aO G K (bI 9 K o 2 ([b.Left,b.Right]:List bL)::bI 9 K k 2 ([a.Left,a.Right]:List bL)::box j 104 d::box h 104 c::L) p)=>?_)))))))))))))))))))
 obtain ⟨u,x,y,z,J⟩:=aO.lendSp q (Hp.le_refl _) zt1
 exact cA
theorem aGN {o p:cB} {a:Nat} {R:Bool} (hm:wT o p=some R) (c:aO G K (L) w) (d:iQ K a1 a [str p.Left,str p.Right,str p.Result]):
  Calls prog 121 ([zA #[str o.Left,str o.Right,str o.Result],eN a1 a]:List Value).toArray w (eX fun v w'=>v=zB R/\aO G K (L) w'):=by
 refine aT func121 rfl (by kernel_rfl) (by show (2:Nat)<=16;decide) ?_;unfold wT at hm
 exact aL (dR (v:=zA #[str o.Left,str o.Right,str o.Result]) (vs:=[str o.Left,str o.Right,str o.Result]) c rfl rfl (fun e g h=>(aD (v:=zB false) (aG (aP (cO [] (fun f w=>∃ b,nA b=some R/\f 3=zB b/\aO G K (L) w) cA cA))))))
theorem mJ {b:(List cB)} {d:cB} {c:Nat} {R:Int} (hm:fB b d=some R) (q:aO G K (L) w) (g:cI K a1 c2 b) (l:iQ K a4 c [str d.Left,str d.Right,str d.Result]):
  Calls prog 161 ([zS a1 b.length c2,Value.func (.func 121) #[] #[eN a4 c]]:List Value).toArray w (eX fun v w'=>v=i64 R/\aO G K (L) w'):=by
 refine aT func161 rfl (by kernel_rfl) (by show (2:Nat)<=19;decide) ?_;unfold fB at hm
 refine aL (aD (v:=i64 0) (aG (aP (aL (aI (v:=zS a1 b.length c2) (aA (bQ (len:=b.length) qE rfl) (aI (v:=i64 0) (aG (bR [] (fun f w=>eR=some R/\aO G K (L) w) cA ?_)))))))));obtain ⟨r,m,ho⟩:=aC hm
 refine dS [0,1,7] m (fun e f w=>f 8=i64 e/\aO G K (L) w) cA ?_
 ·rintro e u f x hm hr ⟨h,i⟩
  unfold dU at hm
  refine aL (aA (cL h rfl) (aG (aP ?_)))
  rcases aH hm with ⟨j,hm⟩|⟨j,hm⟩
  ·refine aN j rfl (aX (aB (aP (bY (aL (bJ h (aD (v:=i64 e) (aG (aL (aI (v:=Value.func (.func 121) #[] #[eN a4 c]) (aI (v:=zS a1 b.length c2) (aI (v:=i64 e) ?_))))))))))));obtain ⟨a,k,hm⟩:=aC hm
   refine aA (cQ qE rfl g rfl rfl rfl k) ?_;obtain ⟨y,n,o⟩:=cI.el (sz:=3) rfl g k
   cases o
   refine aA (eP (t:=0) (vs:=[str a.Left,str a.Right,str a.Result]) aFm i n rfl rfl rfl) ?_;obtain ⟨z,p,hm⟩:=aC hm
   exact qV (vs:=[zA #[str a.Left,str a.Right,str a.Result]]) (caps:=[eN a4 c]) (us:=[zA #[str a.Left,str a.Right,str a.Result],eN a4 c]) rfl call121 rfl rfl (aGN p i l) cA
  ·exact cA
theorem lP {b:(List cB)} {a:cB} {c:Nat} {R:Bool} (hm:dV b a=some R) (d:aO G K (L) w) (e:cI K a1 c2 b) (g:iQ K a4 c [str a.Left,str a.Right,str a.Result]):
  Calls prog 120 ([zS a1 b.length c2,Value.func (.func 121) #[] #[eN a4 c]]:List Value).toArray w (eX fun v w'=>v=zB R/\aO G K (L) w'):=by
 exact cA
end Gv
