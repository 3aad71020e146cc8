/- Walks, printed by program. -/
import Derived.Test.YtmlemmpanilhjaaGreatDoorJWk7
set_option linter.all false
namespace Gv
open Gv.Hp renaming le_refl→zR
open Go.Value renaming slice→zS,bool→zB,pointer→zP,agg→zA,map→zM
open Gv.Hp renaming le_trans→zL
open Go Go.Proofs Go.Proofs.Tryz
set_option maxRecDepth 20000
set_option maxHeartbeats 40000000
variable {G:qG} {K:Hp} {L:List iZ} {w:World} {a1 a4 a7 a10 a13 a16 a19 a22 a25 a28:Option Addr} {c2 c8 c11 c14 c17 c20 c5 c23 c26 c29:Nat}
theorem aCI {q:bO} {J:cW} {k5:Nat} {R:(iW × (List bO) × Bool)} (hm:iU q J=some R) (hs:aO G K (L) w) (hG:G.lo=0) (h3:cI K a1 c2 q.Values) (h6:iQ K a4 k5 [zS a7 J.Definitions.length c8,zS a10 J.Components.length c11,zS a13 J.Meetings.length c14,zS a16 J.Allowed.length c17,zS a19 J.Hidden.length c20]) (h9:cI K a7 c8 J.Definitions) (l2:cI K a10 c11 J.Components) (l3:cI K a13 c14 J.Meetings) (l4:cI K a16 c17 J.Allowed) (l5:cI K a19 c20 J.Hidden):
  Calls prog 53 ([zA #[i64 q.Definition,i64 q.Part,zS a1 q.Values.length c2],Value.func (.func 55) #[] #[],Value.func (.func 56) #[] #[eN a4 k5]]:List Value).toArray w (eX fun v w'=>∃ K' h8 i0 i1 i2 i3 i4,v=Value.tuple #[zA (zCa R.1 h8 i0 i1 i2),zS i3 R.2.1.length i4,zB R.2.2]/\Hp.le K K'/\aO G K' (bI 9 K h8 i0 R.1.L::bI 94 K i1 i2 R.1.E::bI 83 K' i3 i4 R.2.1::L) w'):=by
 let d:=zG
 let d2:=[i64 q.Definition,i64 q.Part,zS a1 q.Values.length c2]
 refine aT func53 rfl (by kernel_rfl) (by show (3:Nat)<=73;decide) ?_;unfold iU at hm
 refine aL (dR (v:=zA #[i64 q.Definition,i64 q.Part,zS a1 q.Values.length c2]) (vs:=d2) hs rfl rfl (fun e0 w6 l6=>(dA (vs:=d) zeroValue31 l6 rfl (fun g w7 l7=>(aD (v:=zS none 0 0) (aD (v:=zB false) (aG (aL (aPe bL Int l7 ?_)))))))))
 intro a l8 (l9:aO G K (nG a ([]:(List (bL × Int)))::box g 31 d::box e0 83 d2::L) l8)
 refine aI (v:=Value.func (.func 55) #[] #[]) (aA (iJ (vs:=[(1,zM (some a)),(3,Value.func (.func 55) #[] #[])]) (cs:=[zS none 0 0,zM (some a),zS none 0 0,Value.func (.func 55) #[] #[]]) bs_140 rfl (by kernel_rfl)) (dR (v:=zA #[zS none 0 0,zM (some a),zS none 0 0,Value.func (.func 55) #[] #[]]) (vs:=[zS none 0 0,zM (some a),zS none 0 0,Value.func (.func 55) #[] #[]]) l9 rfl rfl (fun b w8 m0=>(dA (vs:=[zP none]) zeroValue136 m0 rfl (fun e w9 m1=>(cT (i:=0) (ns:=[zP (some ⟨b,0,none⟩)]) (us:=[zP (some ⟨b,0,none⟩)]) sizeOf136 m1 rfl rfl rfl rfl rfl (eM rfl) rfl rfl ?_))))))
 intro i5 (g1:aO G K (box e 136 [zP (some ⟨b,0,none⟩)]::box b 140 [zS none 0 0,zM (some a),zS none 0 0,Value.func (.func 55) #[] #[]]::nG a ([]:(List (bL × Int)))::box g 31 d::box e0 83 d2::L) i5)
 refine aG (aL (aA (bP aDg g1 (i:=0) rfl rfl rfl) (aA (eQ (us:=d2) aDW g1 (i:=4) rfl rfl rfl rfl) ?_)))
 have m2:=aO.nil (α:=bO) g1 83 K
 have m3:=aO.nil (α:=uT) m2 143 K
 have m4:aO G K (bI 83 K none 0 ([]:List bO)::nG a ([]:(List (bL × Int)))::bI 143 K none 0 ([]:List uT)::box b 140 [zS none 0 0,zM (some a),zS none 0 0,Value.func (.func 55) #[] #[]]::box e 136 [zP (some ⟨b,0,none⟩)]::box g 31 d::box e0 83 d2::L) i5:=(aO.arr 5 [1,4,0,3,2] m3 rfl)
 obtain ⟨g2,m5,hm⟩:=aC hm
 refine aV (vs:=[zP (some ⟨b,0,none⟩),zA #[i64 q.Definition,i64 q.Part,zS a1 q.Values.length c2]]) call87 rfl (jG (Kf:=K) m5 m4 hG (Hp.le_refl _) h3) ?_
 rintro _ x0 ⟨i6,c45,rfl,m6⟩
 refine aG (aP (aL (dA (vs:=[i64 0]) zeroValue3 m6 rfl (fun m7 x1 m8=>(cT (i:=0) (ns:=[i64 0]) (us:=[i64 0]) sizeOf3 m8 rfl rfl rfl rfl rfl (eM rfl) rfl rfl (fun m9 (n0:aO G K (box m7 3 [i64 0]::bI 83 K i6 c45 g2.2.1::nG a g2.2.2::bI 143 K none 0 ([]:List uT)::box b 140 [zS i6 g2.2.1.length c45,zM (some a),zS none 0 0,Value.func (.func 55) #[] #[]]::box e 136 [zP (some ⟨b,0,none⟩)]::box g 31 d::box e0 83 d2::L) m9)=>(aG (bR [6,9] (fun f w=>∃ y k b8 l V Z n o,Hp.le K y/\fN k b8 l=some R/\aO G y (bI 143 K n o l::bI 83 y V Z k::nG a b8::box b 140 [zS V k.length Z,zM (some a),zS n l.length o,Value.func (.func 55) #[] #[]]::box e 136 [zP (some ⟨b,0,none⟩)]::box g 31 d::L) w) ?_ ?_))))))))
 ·rintro f x2 ⟨y,k,b8,l,V,Z,n,o,b0,hm,n1⟩
  unfold fN at hm
  refine aB (aP (cO [6,9] (fun f w=>∃ b9 c0 b5 b6 g3 d3 d4 d5 d6,kK k b9 c0 b5 b6=some R/\f 12=zP (some ⟨g3,0,none⟩)/\aO G y (bI 94 K d5 d6 b6::bI 9 K d3 d4 b5::box g3 31 [i64 b9,i64 c0,zS d3 b5.length d4,zS d5 b6.length d6]::bI 143 K n o l::bI 83 y V Z k::nG a b8::box b 140 [zS V k.length Z,zM (some a),zS n l.length o,Value.func (.func 55) #[] #[]]::box e 136 [zP (some ⟨b,0,none⟩)]::box g 31 d::L) w) ?_ ?_))
  ·rintro f x3 ⟨b9,c0,b5,b6,g3,d3,d4,d5,d6,hm,i7,n2⟩
   unfold kK at hm
   refine aB (aP ?_);obtain ⟨x4,i8,i9,n3,x5⟩:=aO.lendBp n2 zt2
   obtain ⟨x6,e1,n4,n5,x7⟩:=aO.lendBp n3 zt5
   obtain ⟨n6,d9,n7,j0,x8⟩:=aO.lendBp n5 zt5
   refine jN (C:=fun w'=>∃ L',aO G n6 L' w') [(0,0),(1,0),(2,0),(3,0),(4,0),(5,1),(6,1),(7,1),(8,2),(9,2)] cC (by kernel_rfl) (fun _ hg=>⟨_,aO.mono j0 hg⟩) (fun x9 n8=>?_)
   have b2:=aO.mono j0 n8
   refine dZ rfl (fun _ ⟨_,b2⟩=>eP (t:=0) (vs:=[i64 b9,i64 c0,zS d3 b5.length d4,zS d5 b6.length d6]) kZ b2 (i9.mono (zL e1 d9)) i7 rfl rfl) (dZ rfl (fun _ ⟨_,b2⟩=>bZ (t:=0) aDg b2 n7 rfl rfl) (dZ rfl (fun _ _=>lG rfl) (dZ rfl (fun _ _=>bC (t':=0) aBx rfl rfl) (dZ rfl (fun _ ⟨_,b2⟩=>bZ (t:=0) aLz b2 (n4.mono d9) rfl rfl) (qW rfl (aA (eP (t:=0) (vs:=[i64 b9,i64 c0,zS d3 b5.length d4,zS d5 b6.length d6]) kZ b2 (i9.mono (zL e1 d9)) i7 rfl rfl) (cG (aB ⟨⟨_,b2⟩,?_⟩))))))))
   refine qW rfl ?_;obtain ⟨y0,n9,o0,o1,o2⟩:=aO.lendSp b2 (zL (zL (zL b0 i8) e1) d9) zt1
   obtain ⟨y1,o3,o4,o5,o6⟩:=aO.lendSp o1 (zL (zL (zL (zL b0 i8) e1) d9) n9) .head
   obtain ⟨y2,o7,hm⟩:=aC hm
   refine aV (vs:=[zA #[i64 b9,i64 c0,zS d3 b5.length d4,zS d5 b6.length d6]]) call91 rfl (aKN (t:=⟨b9,c0,b5,b6⟩) o7 o5 hG (o0.mono o3) o4) ?_
   rintro _ y3 ⟨rfl,o8⟩
   have o9:=o6 _ _ o8
   have y4:=o2 _ _ o9
   exact cA
  obtain ⟨y5,b7,g4,p0,g5⟩:=aO.lendBp n1 zt3
  obtain ⟨p1,a0,g6,p2,g7⟩:=aO.lendBp p0 zt3
  refine aJu (C:=fun w'=>∃ L',aO G p1 L' w') [16] cC (by kernel_rfl) (fun y6 p3=>?_)
  have c:=aO.mono p2 p3
  refine sG (i:=0) rfl (by kernel_rfl) ⟨_,c⟩ (fun _ ⟨_,c⟩=>bZ (t:=0) aDg c g6 rfl rfl) (sG (i:=1) rfl (by kernel_rfl) ⟨_,c⟩ (fun _ _=>lG rfl) (sG (i:=2) rfl (by kernel_rfl) ⟨_,c⟩ (fun _ _=>bC (t':=0) aBx rfl rfl) (sG (i:=3) rfl (by kernel_rfl) ⟨_,c⟩ (fun _ ⟨_,c⟩=>bZ (t:=0) aLz c (g4.mono a0) rfl rfl) (sG (i:=4) rfl (by kernel_rfl) ⟨_,c⟩ (fun _ _=>bQ (len:=k.length) rV rfl) (sG (i:=5) rfl (by kernel_rfl) ⟨_,c⟩ (fun _ ⟨_,c⟩=>bZ (t:=0) aDg c g6 rfl rfl) (sG (i:=6) rfl (by kernel_rfl) ⟨_,c⟩ (fun _ _=>lG rfl) (sG (i:=7) rfl (by kernel_rfl) ⟨_,c⟩ (fun _ _=>bC (t':=2) aEB rfl rfl) (sG (i:=8) rfl (by kernel_rfl) ⟨_,c⟩ (fun _ ⟨_,c⟩=>bZ (t:=2) aLA c (g4.mono a0) rfl rfl) (sG (i:=10) rfl (by kernel_rfl) ⟨_,c⟩ (fun _ ⟨_,c⟩=>bZ (t:=0) aDg c g6 rfl rfl) (sG (i:=11) rfl (by kernel_rfl) ⟨_,c⟩ (fun _ _=>lG rfl) (sG (i:=12) rfl (by kernel_rfl) ⟨_,c⟩ (fun _ _=>bC (t':=2) aEB rfl rfl) (sG (i:=13) rfl (by kernel_rfl) ⟨_,c⟩ (fun _ ⟨_,c⟩=>bZ (t:=2) aLA c (g4.mono a0) rfl rfl) (aLd (i:=9) (j:=15) (by kernel_rfl) rfl rfl ?_ ?_)))))))))))))
  ·obtain ⟨y7,y8,p4,p5,p6⟩:=aO.lendSp c (zL (zL b0 b7) a0) .head
   obtain ⟨e2,p7,hm⟩:=aC hm
   refine aV (vs:=[zS n l.length o]) call90 rfl (aFV p7 p5 p4) ?_
   rintro _ y9 ⟨e3,e4,rfl,p8⟩
   have g8:=p6 _ _ p8
   refine cG (aB ⟨fun _=>⟨_,g8⟩,?_⟩)
   refine aLd (i:=14) (j:=15) (by kernel_rfl) rfl rfl ?_ ?_
   ·obtain ⟨z0,p9,q0,q1,q2⟩:=aO.lendSp g8 (zL (zL b0 b7) a0) zt1
    obtain ⟨z1,q3,q4,q5,q6⟩:=aO.lendSp q1 (zL (zL (zL b0 b7) a0) p9) .head
    obtain ⟨r,q7,hm⟩:=aC hm
    refine aV (vs:=[i64 (k.length:Int),i64 0,zS e3 e2.length e4,zS n l.length o]) call89 rfl (aIj q7 q5 (q0.mono q3) q4) ?_
    rintro _ z2 ⟨e5,e6,e7,e8,rfl,q8⟩
    have q9:=q6 _ _ q8
    have j1:=q2 _ _ q9
    refine cG (aB ⟨fun _=>⟨_,j1⟩,?_⟩)
    refine lC (i:=15) (by kernel_rfl) rfl (dA (vs:=d) zeroValue31 j1 rfl (fun r0 z3 j2=>(cG (aB ⟨fun _=>⟨_,j2⟩,?_⟩))))
    refine lC (i:=16) (by kernel_rfl) rfl ?_
    have r1:=g7 _ _ j2
    have r2:=g5 _ _ r1
    refine cT (i:=2) (ns:=(zC r e5 e6 e7 e8)) (us:=(zC r e5 e6 e7 e8)) sizeOf31 r2 rfl rfl rfl rfl rfl (eM rfl) rfl rfl (fun r3 (z4:aO G y (box b 140 [zS V k.length Z,zM (some a),zS n l.length o,Value.func (.func 55) #[] #[]]::box e 136 [zP (some ⟨b,0,none⟩)]::box r0 31 (zC r e5 e6 e7 e8)::bI 9 K e3 e4 e2::bI 143 K n o l::bI 9 K e5 e6 r.L::bI 94 K e7 e8 r.E::bI 83 y V Z k::nG a b8::box g 31 d::L) r3)=>(cG (aB ⟨no_c rfl,?_⟩)))
    exact aFi (by kernel_rfl) cA
   ·refine dA (vs:=d) zeroValue31 g8 rfl (fun r4 z5 j3=>(cG (aB ⟨fun _=>⟨_,j3⟩,?_⟩)))
    refine lC (i:=14) (by kernel_rfl) rfl ?_;obtain ⟨z6,r5,r6,r7,r8⟩:=aO.lendSp j3 (zL (zL b0 b7) a0) zt2
    obtain ⟨z7,r9,s0,s1,s2⟩:=aO.lendSp r7 (zL (zL (zL b0 b7) a0) r5) zt1
    obtain ⟨u,s3,hm⟩:=aC hm
    refine aV (vs:=[i64 (k.length:Int),i64 0,zS e3 e2.length e4,zS n l.length o]) call89 rfl (aIj s3 s1 (r6.mono r9) s0) ?_
    rintro _ z8 ⟨e9,f0,f1,f2,rfl,s4⟩
    have s5:=s2 _ _ s4
    have j4:=r8 _ _ s5
    refine cG (aB ⟨fun _=>⟨_,j4⟩,?_⟩)
    refine lC (i:=16) (by kernel_rfl) rfl ?_
    have s6:=g7 _ _ j4
    have s7:=g5 _ _ s6
    refine cT (i:=6) (ns:=(zC u e9 f0 f1 f2)) (us:=(zC u e9 f0 f1 f2)) sizeOf31 s7 rfl rfl rfl rfl rfl (eM rfl) rfl rfl (fun s8 (z9:aO G y (box b 140 [zS V k.length Z,zM (some a),zS n l.length o,Value.func (.func 55) #[] #[]]::box e 136 [zP (some ⟨b,0,none⟩)]::bI 9 K e3 e4 e2::bI 143 K n o l::bI 9 K e9 f0 u.L::bI 94 K f1 f2 u.E::box r4 31 (zC u e9 f0 f1 f2)::bI 83 y V Z k::nG a b8::box g 31 d::L) s8)=>(cG (aB ⟨no_c rfl,?_⟩)))
    exact aFi (by kernel_rfl) cA
  ·refine dA (vs:=d) zeroValue31 c rfl (fun s9 a00 j5=>(cG (aB ⟨fun _=>⟨_,j5⟩,?_⟩)))
   refine lC (i:=9) (by kernel_rfl) rfl ?_;obtain ⟨a01,a02,t0,t1,t2⟩:=aO.lendSp j5 (zL (zL b0 b7) a0) zt1
   obtain ⟨j6,t3,hm⟩:=aC hm
   refine aV (vs:=[zS n l.length o]) call90 rfl (aFV t3 t1 t0) ?_
   rintro _ a03 ⟨j7,j8,rfl,t4⟩
   have j9:=t2 _ _ t4
   refine cG (aB ⟨fun _=>⟨_,j9⟩,?_⟩)
   refine lC (i:=14) (by kernel_rfl) rfl ?_;obtain ⟨a04,t5,t6,t7,t8⟩:=aO.lendSp j9 (zL (zL b0 b7) a0) zt1
   obtain ⟨a05,t9,u0,u1,u2⟩:=aO.lendSp t7 (zL (zL (zL b0 b7) a0) t5) .head
   obtain ⟨x,u3,hm⟩:=aC hm
   refine aV (vs:=[i64 (k.length:Int),i64 0,zS j7 j6.length j8,zS n l.length o]) call89 rfl (aIj u3 u1 (t6.mono t9) u0) ?_
   rintro _ a06 ⟨f3,f4,f5,f6,rfl,u4⟩
   have u5:=u2 _ _ u4
   have k0:=t8 _ _ u5
   refine cG (aB ⟨fun _=>⟨_,k0⟩,?_⟩)
   refine lC (i:=16) (by kernel_rfl) rfl ?_
   have u6:=g7 _ _ k0
   have u7:=g5 _ _ u6
   refine cT (i:=6) (ns:=(zC x f3 f4 f5 f6)) (us:=(zC x f3 f4 f5 f6)) sizeOf31 u7 rfl rfl rfl rfl rfl (eM rfl) rfl rfl (fun u8 (a07:aO G y (box b 140 [zS V k.length Z,zM (some a),zS n l.length o,Value.func (.func 55) #[] #[]]::box e 136 [zP (some ⟨b,0,none⟩)]::bI 9 K j7 j8 j6::bI 143 K n o l::bI 9 K f3 f4 x.L::bI 94 K f5 f6 x.E::box s9 31 (zC x f3 f4 f5 f6)::bI 83 y V Z k::nG a b8::box g 31 d::L) u8)=>(cG (aB ⟨no_c rfl,?_⟩)))
   exact aFi (by kernel_rfl) cA
 have a08:=aO.nil (α:=uT) n0 143 K
 obtain ⟨a09,u9,ho⟩:=aC hm
 refine aIv [2,6,9] u9 (fun z d7 a2 b1 f w=>∃ c1 a3 a5 a6 a8 c3,Hp.le K c1/\f 10=zP (some ⟨c3,0,none⟩)/\aO G c1 (bI 143 K a6 a8 a2::box c3 3 [i64 b1]::bI 83 c1 a3 a5 z::nG a d7::box b 140 [zS a3 z.length a5,zM (some a),zS a6 a2.length a8,Value.func (.func 55) #[] #[]]::box e 136 [zP (some ⟨b,0,none⟩)]::box g 31 d::L) w) cA ?_
 ·rintro z d7 a2 b1 v0 f a11 hm hr ⟨c1,a3,a5,a6,a8,c3,c4,f7,a9⟩
  unfold eC at hm
  refine aP (aP (dF (C:=fun w'=>aO G c1 (bI 143 K a6 a8 a2::box c3 3 [i64 b1]::bI 83 c1 a3 a5 z::nG a d7::box b 140 [zS a3 z.length a5,zM (some a),zS a6 a2.length a8,Value.func (.func 55) #[] #[]]::box e 136 [zP (some ⟨b,0,none⟩)]::box g 31 d::L) w') cC (by kernel_rfl) (aO.mono a9 (dY.drew _)) (aZ (fun _ a9=>bP sc_3 a9 (i:=1) rfl f7 rfl) (aZ (fun _ a9=>bP aDg a9 (i:=5) rfl rfl rfl) (aZ (fun _ a9=>lG rfl) (aZ (fun _ a9=>bC (t':=0) aBx rfl rfl) (aZ (fun _ a9=>bP aLz a9 (i:=4) rfl rfl rfl) (aZ (fun _ a9=>bQ (len:=z.length) rV rfl) (aZ (fun _ a9=>cL rfl rfl) (dL (fun v1 v2=>(aB ?_))))))))))))
  rcases aH hm with ⟨k1,hm⟩|⟨k1,hm⟩
  ·refine aN k1 rfl (aX (aB (aP (bY (aP ?_)))));obtain ⟨c5,b3,g9,h0,_⟩:=aO.lendBp v2 zt1
   replace h0:aO G c5 (bI 143 K a6 a8 a2::bI 83 c1 a3 a5 z::nG a d7::box b 140 [zS a3 z.length a5,zM (some a),zS a6 a2.length a8,Value.func (.func 55) #[] #[]]::box e 136 [zP (some ⟨b,0,none⟩)]::box g 31 d::L) v1:=h0
   refine aJu (C:=fun w'=>∃ L',aO G c5 L' w') [] cC (by kernel_rfl) (fun k2 v3=>?_)
   have p:=aO.mono h0 v3
   refine sG (i:=0) rfl (by kernel_rfl) ⟨_,p⟩ (fun _ _=>bM (v:=Value.func (.func 56) #[] #[eN a4 k5]) rfl) (sG (i:=5) rfl (by kernel_rfl) ⟨_,p⟩ (fun _ ⟨_,p⟩=>bZ (t:=0) sc_3 p g9 (elp_b f7) rfl) (sG (i:=8) rfl (by kernel_rfl) ⟨_,p⟩ (fun _ _=>xF (vs:=[zP (some ⟨e,0,none⟩),eN (some ⟨c3,0,none⟩) 0]) (lst2 rfl (elp_b f7))) (lC (i:=1) (by kernel_rfl) rfl (aA (bP aDg p (i:=4) rfl rfl rfl) (cG (aB ⟨fun _=>⟨_,p⟩,?_⟩))))))
   refine sG (i:=2) rfl (by kernel_rfl) ⟨_,p⟩ (fun _ _=>lG rfl) (sG (i:=3) rfl (by kernel_rfl) ⟨_,p⟩ (fun _ _=>bC (t':=0) aBx rfl rfl) (lC (i:=4) (by kernel_rfl) rfl (aA (bP aLz p (i:=3) rfl rfl rfl) (cG (aB ⟨fun _=>⟨_,p⟩,?_⟩)))))
   obtain ⟨b4,h1,hm⟩:=aC hm
   have v4:=fD p (i:=1) rfl h1
   refine sG (i:=6) rfl (by kernel_rfl) ⟨_,p⟩ (fun _ _=>gQ rV rfl v4 rfl rfl rfl h1) (lC (i:=7) (by kernel_rfl) rfl ?_);obtain ⟨a12,v5,v6⟩:=aOl (sz:=3) rfl p (i:=1) rfl h1
   obtain ⟨h2,h4,rfl,v7⟩:=v6
   refine aA (R_ldCG (t:=0) (vs:=[i64 b4.Definition,i64 b4.Part,zS h2 b4.Values.length h4]) aDW v5 rfl rfl rfl) (cG (aB ⟨fun _=>⟨_,p⟩,?_⟩))
   refine lC (i:=9) (by kernel_rfl) rfl ?_
   have v8:aO G c5 (bI 143 K a6 a8 a2::bI 83 c5 a3 a5 z::nG a d7::box b 140 [zS a3 z.length a5,zM (some a),zS a6 a2.length a8,Value.func (.func 55) #[] #[]]::box e 136 [zP (some ⟨b,0,none⟩)]::box g 31 d::L) k2:=aO.weak (i:=1) p rfl (fun _ h=>bI.mono b3 h)
   have v9:aO G c5 (bI 83 c5 a3 a5 z::nG a d7::bI 143 K a6 a8 a2::box b 140 [zS a3 z.length a5,zM (some a),zS a6 a2.length a8,Value.func (.func 55) #[] #[]]::box e 136 [zP (some ⟨b,0,none⟩)]::box g 31 d::L) k2:=(aO.arr 3 [1,2,0] v8 rfl)
   obtain ⟨m,w0,hm⟩:=aC hm
   refine qV (vs:=[zA #[i64 b4.Definition,i64 b4.Part,zS h2 b4.Values.length h4],Value.func (.func 88) #[] #[zP (some ⟨e,0,none⟩),eN (some ⟨c3,0,none⟩) 0]]) (caps:=[eN a4 k5]) (us:=[zA #[i64 b4.Definition,i64 b4.Part,zS h2 b4.Values.length h4],Value.func (.func 88) #[] #[zP (some ⟨e,0,none⟩),eN (some ⟨c3,0,none⟩) 0],eN a4 k5]) rfl call56 rfl rfl (aBU (Kf:=c5) w0 v9 hG (Hp.le_refl _) (v7.mono b3) g9 (h6.mono (zL c4 b3)) (h9.mono (zL c4 b3)) (l2.mono (zL c4 b3)) (l3.mono (zL c4 b3)) (l4.mono (zL c4 b3)) (l5.mono (zL c4 b3))) ?_
   rintro _ a14 ⟨c6,c7,c9,d0,d1,rfl,f8,k3⟩
   refine cG (aB ⟨fun _=>⟨_,(aO.weakK k3 f8)⟩,?_⟩)
   refine sG (i:=10) rfl (by kernel_rfl) ⟨_,(aO.weakK k3 f8)⟩ (fun _ _=>gI (v:=zB m.1) rfl) (aFi (by kernel_rfl) (aB (aP (cO [2,6,9,10] (fun f w=>∃ h5,iA b1 m h5=some v0/\f 48=zB h5/\aO G c6 (bI 83 c6 c7 c9 m.2.1::nG a m.2.2.1::bI 143 K d0 d1 m.2.2.2::box b 140 [zS c7 m.2.1.length c9,zM (some a),zS d0 m.2.2.2.length d1,Value.func (.func 55) #[] #[]]::box e 136 [zP (some ⟨b,0,none⟩)]::box g 31 d::L) w) ?_ ?_))))
   ·rintro f a15 ⟨h5,hm,w1,k4⟩
    unfold iA at hm
    refine aB ?_
    rcases aH hm with ⟨k6,hm⟩|⟨k6,hm⟩
    ·exact cA
    ·exact aJ k6 w1 (aX (bN (aB (aP (aL (aA (bZ (t:=0) sc_3 k4 (g9.mono f8) (elp_b f7) rfl) (aG (aW (dA (vs:=[i64 0]) zeroValue3 k4 rfl (fun h7 a17 w2=>(cT (i:=0) (ns:=[i64 b1]) (us:=[i64 b1]) sizeOf3 w2 rfl rfl rfl rfl rfl (eM rfl) rfl rfl (fun w3 (k7:aO G c6 (box h7 3 [i64 b1]::bI 83 c6 c7 c9 m.2.1::nG a m.2.2.1::bI 143 K d0 d1 m.2.2.2::box b 140 [zS c7 m.2.1.length c9,zM (some a),zS d0 m.2.2.2.length d1,Value.func (.func 55) #[] #[]]::box e 136 [zP (some ⟨b,0,none⟩)]::box g 31 d::L) w3)=>(aG (aW (aA (bP sc_3 k7 (i:=0) rfl rfl rfl) (aA (cH rfl rfl) (cT (i:=0) (ns:=[i64 (wr (b1+1))]) (us:=[i64 (wr (b1+1))]) sizeOf3 k7 rfl rfl rfl rfl rfl (eM rfl) rfl rfl (fun w4 (w5:aO G c6 (box h7 3 [i64 (wr (b1+1))]::bI 83 c6 c7 c9 m.2.1::nG a m.2.2.1::bI 143 K d0 d1 m.2.2.2::box b 140 [zS c7 m.2.1.length c9,zM (some a),zS d0 m.2.2.2.length d1,Value.func (.func 55) #[] #[]]::box e 136 [zP (some ⟨b,0,none⟩)]::box g 31 d::L) w4)=>(aG ⟨_,(Option.some.inj hm).symm,aU,c6,c7,c9,d0,d1,h7,(zL (zL c4 b3) f8),rfl,(aO.arr 4 [3,0,1,2] w5 rfl)⟩)))))))))))))))))))
   exact cA
  ·exact cA
theorem aDC {a:cW} {k:Int} {R:(iW × Bool)} (hm:jC a k=some R) (hs:aO G K (L) w) (hG:G.lo=0) (m:cI K a1 c2 a.Definitions) (n:cI K a4 c5 a.Components) (o:cI K a7 c8 a.Meetings) (p:cI K a10 c11 a.Allowed) (q:cI K a13 c14 a.Hidden):
  Calls prog 26 ([zA #[zS a1 a.Definitions.length c2,zS a4 a.Components.length c5,zS a7 a.Meetings.length c8,zS a10 a.Allowed.length c11,zS a13 a.Hidden.length c14],i64 k]:List Value).toArray w (eX fun v w'=>∃ r u x y,v=Value.tuple #[zA (zCa R.1 r u x y),zB R.2]/\aO G K (bI 9 K r u R.1.L::bI 94 K x y R.1.E::L) w'):=by
 let g:=[zS a1 a.Definitions.length c2,zS a4 a.Components.length c5,zS a7 a.Meetings.length c8,zS a10 a.Allowed.length c11,zS a13 a.Hidden.length c14]
 let h:=zG
 refine aT func26 rfl (by kernel_rfl) (by show (2:Nat)<=22;decide) ?_;unfold jC at hm
 refine aL (dR (v:=zA #[zS a1 a.Definitions.length c2,zS a4 a.Components.length c5,zS a7 a.Meetings.length c8,zS a10 a.Allowed.length c11,zS a13 a.Hidden.length c14]) (vs:=g) hs rfl rfl (fun j b9 a8=>(dA (vs:=h) zeroValue31 a8 rfl (fun z c0 J=>(aD (v:=zB false) (aG (aL (aA (eQ (us:=g) aIG J (i:=1) rfl rfl rfl rfl) ?_))))))));obtain ⟨c1,a9,hm⟩:=aC hm
 refine aV (vs:=[zA #[zS a1 a.Definitions.length c2,zS a4 a.Components.length c5,zS a7 a.Meetings.length c8,zS a10 a.Allowed.length c11,zS a13 a.Hidden.length c14]]) call54 rfl (aHB a9 J m n o p q) ?_
 rintro _ V ⟨c3,c4,c6,rfl,b0,b1⟩
 obtain ⟨b2,d,Z,_,e,_⟩:=aO.lendD' (i:=0) b1 b0 rfl rfl
 replace e:aO G b2 (box z 31 h::box j 38 g::L) V:=e
 refine aI (v:=i64 k) ?_;obtain ⟨b,a0,hm⟩:=aC hm
 refine aA (cQ rV rfl Z rfl rfl rfl a0) ?_;obtain ⟨c7,b3,b4⟩:=cI.el (sz:=3) rfl Z a0
 obtain ⟨a2,a3,rfl,b5⟩:=b4
 refine aA (eP (t:=0) (vs:=[i64 b.Definition,i64 b.Part,zS a2 b.Values.length a3]) aDW e b3 rfl rfl rfl) (aA (xF (vs:=[zP (some ⟨j,0,none⟩)]) rfl) ?_);obtain ⟨b6,c,b7,l,_⟩:=aO.lendBp e zt1
 replace l:aO G b6 (box z 31 h::L) V:=l
 obtain ⟨c9,b8,hm⟩:=aC hm
 exact aV (vs:=[zA #[i64 b.Definition,i64 b.Part,zS a2 b.Values.length a3],Value.func (.func 55) #[] #[],Value.func (.func 56) #[] #[eN (some ⟨j,0,none⟩) 0]]) call53 rfl (aCI b8 l hG (b5.mono c) b7 (m.mono (zL d c)) (n.mono (zL d c)) (o.mono (zL d c)) (p.mono (zL d c)) (q.mono (zL d c))) cA
theorem aCh {a:cW} {k:Int} {R:(iW × Int)} (hm:pU a k=some R) (g:aO G K (L) w) (h:G.lo=0) (i:cI K a1 c2 a.Definitions) (j:cI K a4 c5 a.Components) (l:cI K a7 c8 a.Meetings) (m:cI K a10 c11 a.Allowed) (n:cI K a13 c14 a.Hidden):
  Calls prog 7 ([zA #[zS a1 a.Definitions.length c2,zS a4 a.Components.length c5,zS a7 a.Meetings.length c8,zS a10 a.Allowed.length c11,zS a13 a.Hidden.length c14],i64 k]:List Value).toArray w (eX fun v w'=>∃ b c d e,v=Value.tuple #[zA (zCa R.1 b c d e),i64 R.2]/\aO G K (bI 9 K b c R.1.L::bI 94 K d e R.1.E::L) w'):=by
 exact cA
theorem aAS {a b:(List bL)} {R:Bool} (hm:tE a b=some R) (g:aO G K (L) w) (h:cI K a1 c2 a) (i:cI K a4 c5 b):
  Calls prog 27 ([zS a1 a.length c2,zS a4 b.length c5]:List Value).toArray w (eX fun v w'=>v=zB R/\aO G K (L) w'):=by
 refine aT func27 rfl (by kernel_rfl) (by show (2:Nat)<=26;decide) ?_;unfold tE at hm
 refine aL (aD (v:=zB false) (aG (aP (aL (aI (v:=zS a1 a.length c2) (aA (bQ (len:=a.length) dQ rfl) (aI (v:=zS a4 b.length c5) (aA (bQ (len:=b.length) dQ rfl) (aA (gO rfl rfl) (aG ?_))))))))))
 rcases aH hm with ⟨c,hm⟩|⟨c,hm⟩
 ·exact cA
 ·refine aJ c rfl (aX (aB (aP (aL (aD (v:=i64 0) (aG (bR [] (fun f w=>aAo=some R/\aO G K (L) w) cA ?_)))))));obtain ⟨j,d,ho⟩:=aC hm
  exact dS [0,1] d (fun e f w=>f 5=i64 e/\aO G K (L) w) cA cA
theorem aMQ {a b:Edge} {R:Bool} (hm:aGy a b=some R) (c:aO G K (L) w):
  Calls prog 58 ([zA #[i64 a.F,i64 a.B,i64 a.To],zA #[i64 b.F,i64 b.B,i64 b.To]]:List Value).toArray w (eX fun v w'=>v=zB R/\aO G K (L) w'):=by
 exact cA
theorem aLV {a b:(List Edge)} {R:Bool} (hm:aEP a b=some R) (g:aO G K (L) w) (h:cI K a1 c2 a) (i:cI K a4 c5 b):
  Calls prog 28 ([zS a1 a.length c2,zS a4 b.length c5]:List Value).toArray w (eX fun v w'=>v=zB R/\aO G K (L) w'):=by
 refine aT func28 rfl (by kernel_rfl) (by show (2:Nat)<=27;decide) ?_;unfold aEP at hm
 refine aL (aD (v:=zB false) (aG (aP (aL (aI (v:=zS a1 a.length c2) (aA (bQ (len:=a.length) iD rfl) (aI (v:=zS a4 b.length c5) (aA (bQ (len:=b.length) iD rfl) (aA (gO rfl rfl) (aG ?_))))))))))
 rcases aH hm with ⟨c,hm⟩|⟨c,hm⟩
 ·exact cA
 ·refine aJ c rfl (aX (aB (aP (aL (aD (v:=i64 0) (aG (bR [] (fun f w=>aCD=some R/\aO G K (L) w) cA ?_)))))));obtain ⟨j,d,ho⟩:=aC hm
  exact dS [0,1] d (fun e f w=>f 5=i64 e/\aO G K (L) w) cA cA
theorem aFG {a b:iW} {R:Bool} (hm:aFz a b=some R) (c:aO G K (L) w) (d:cI K a1 c2 a.L) (e:cI K a4 c5 a.E) (g:cI K a7 c8 b.L) (h:cI K a10 c11 b.E):
  Calls prog 8 ([zA (zCa a a1 c2 a4 c5),zA (zCa b a7 c8 a10 c11)]:List Value).toArray w (eX fun v w'=>v=zB R/\aO G K (L) w'):=by
 exact cA
theorem aMR {a b:bS} {R:Bool} (hm:aGz a b=some R) (c:aO G K (L) w):
  Calls prog 257 ([zA #[i64 a.Kind,i64 a.Value],zA #[i64 b.Kind,i64 b.Value]]:List Value).toArray w (eX fun v w'=>v=zB R/\aO G K (L) w'):=by
 exact cA
theorem aLW {a b:(List bS)} {R:Bool} (hm:aHi a b=some R) (g:aO G K (L) w) (h:cI K a1 c2 a) (i:cI K a4 c5 b):
  Calls prog 229 ([zS a1 a.length c2,zS a4 b.length c5]:List Value).toArray w (eX fun v w'=>v=zB R/\aO G K (L) w'):=by
 refine aT func229 rfl (by kernel_rfl) (by show (2:Nat)<=27;decide) ?_;unfold aHi at hm
 refine aL (aD (v:=zB false) (aG (aP (aL (aI (v:=zS a1 a.length c2) (aA (bQ (len:=a.length) lW rfl) (aI (v:=zS a4 b.length c5) (aA (bQ (len:=b.length) lW rfl) (aA (gO rfl rfl) (aG ?_))))))))))
 rcases aH hm with ⟨c,hm⟩|⟨c,hm⟩
 ·exact cA
 ·refine aJ c rfl (aX (aB (aP (aL (aD (v:=i64 0) (aG (bR [] (fun f w=>aCE=some R/\aO G K (L) w) cA ?_)))))));obtain ⟨j,d,ho⟩:=aC hm
  exact dS [0,1] d (fun e f w=>f 5=i64 e/\aO G K (L) w) cA cA
theorem aKQ {a b:(List (List bS))} {R:Bool} (hm:aFA a b=some R) (g:aO G K (L) w) (h:cI K a1 c2 a) (i:cI K a4 c5 b):
  Calls prog 175 ([zS a1 a.length c2,zS a4 b.length c5]:List Value).toArray w (eX fun v w'=>v=zB R/\aO G K (L) w'):=by
 refine aT func175 rfl (by kernel_rfl) (by show (2:Nat)<=27;decide) ?_;unfold aFA at hm
 refine aL (aD (v:=zB false) (aG (aP (aL (aI (v:=zS a1 a.length c2) (aA (bQ (len:=a.length) lJ rfl) (aI (v:=zS a4 b.length c5) (aA (bQ (len:=b.length) lJ rfl) (aA (gO rfl rfl) (aG ?_))))))))))
 rcases aH hm with ⟨c,hm⟩|⟨c,hm⟩
 ·exact cA
 ·refine aJ c rfl (aX (aB (aP (aL (aD (v:=i64 0) (aG (bR [] (fun f w=>aBq=some R/\aO G K (L) w) cA ?_)))))));obtain ⟨j,d,ho⟩:=aC hm
  exact dS [0,1] d (fun e f w=>f 5=i64 e/\aO G K (L) w) cA cA
theorem aMS {a b:Part} {R:Bool} (hm:aGA a b=some R) (c:aO G K (L) w) (d:cI K a1 c2 a.Arguments) (e:cI K a4 c5 b.Arguments):
  Calls prog 138 ([zA #[i64 a.Kind,i64 a.Number,str a.Name,zS a1 a.Arguments.length c2],zA #[i64 b.Kind,i64 b.Number,str b.Name,zS a4 b.Arguments.length c5]]:List Value).toArray w (eX fun v w'=>v=zB R/\aO G K (L) w'):=by
 exact cA
theorem aLX {a b:(List Part)} {R:Bool} (hm:aHj a b=some R) (g:aO G K (L) w) (h:cI K a1 c2 a) (i:cI K a4 c5 b):
  Calls prog 96 ([zS a1 a.length c2,zS a4 b.length c5]:List Value).toArray w (eX fun v w'=>v=zB R/\aO G K (L) w'):=by
 refine aT func96 rfl (by kernel_rfl) (by show (2:Nat)<=27;decide) ?_;unfold aHj at hm
 refine aL (aD (v:=zB false) (aG (aP (aL (aI (v:=zS a1 a.length c2) (aA (bQ (len:=a.length) lH rfl) (aI (v:=zS a4 b.length c5) (aA (bQ (len:=b.length) lH rfl) (aA (gO rfl rfl) (aG ?_))))))))))
 rcases aH hm with ⟨c,hm⟩|⟨c,hm⟩
 ·exact cA
 ·refine aJ c rfl (aX (aB (aP (aL (aD (v:=i64 0) (aG (bR [] (fun f w=>aCF=some R/\aO G K (L) w) cA ?_)))))));obtain ⟨j,d,ho⟩:=aC hm
  exact dS [0,1] d (fun e f w=>f 5=i64 e/\aO G K (L) w) cA cA
theorem aHE {a b:Definition} {R:Bool} (hm:tF a b=some R) (c:aO G K (L) w) (d:cI K a1 c2 a.Body) (e:cI K a4 c5 b.Body):
  Calls prog 59 ([zA #[str a.Name,i64 a.Parameters,zS a1 a.Body.length c2],zA #[str b.Name,i64 b.Parameters,zS a4 b.Body.length c5]]:List Value).toArray w (eX fun v w'=>v=zB R/\aO G K (L) w'):=by
 exact cA
theorem aGP {a b:(List Definition)} {R:Bool} (hm:wX a b=some R) (g:aO G K (L) w) (h:cI K a1 c2 a) (i:cI K a4 c5 b):
  Calls prog 29 ([zS a1 a.length c2,zS a4 b.length c5]:List Value).toArray w (eX fun v w'=>v=zB R/\aO G K (L) w'):=by
 refine aT func29 rfl (by kernel_rfl) (by show (2:Nat)<=27;decide) ?_;unfold wX at hm
 refine aL (aD (v:=zB false) (aG (aP (aL (aI (v:=zS a1 a.length c2) (aA (bQ (len:=a.length) jV rfl) (aI (v:=zS a4 b.length c5) (aA (bQ (len:=b.length) jV rfl) (aA (gO rfl rfl) (aG ?_))))))))))
 rcases aH hm with ⟨c,hm⟩|⟨c,hm⟩
 ·exact cA
 ·refine aJ c rfl (aX (aB (aP (aL (aD (v:=i64 0) (aG (bR [] (fun f w=>qU=some R/\aO G K (L) w) cA ?_)))))));obtain ⟨j,d,ho⟩:=aC hm
  exact dS [0,1] d (fun e f w=>f 5=i64 e/\aO G K (L) w) cA cA
theorem aKR {a b:(List Int)} {R:Bool} (hm:aDx a b=some R) (g:aO G K (L) w) (h:cI K a1 c2 a) (i:cI K a4 c5 b):
  Calls prog 97 ([zS a1 a.length c2,zS a4 b.length c5]:List Value).toArray w (eX fun v w'=>v=zB R/\aO G K (L) w'):=by
 refine aT func97 rfl (by kernel_rfl) (by show (2:Nat)<=26;decide) ?_;unfold aDx at hm
 refine aL (aD (v:=zB false) (aG (aP (aL (aI (v:=zS a1 a.length c2) (aA (bQ (len:=a.length) gD rfl) (aI (v:=zS a4 b.length c5) (aA (bQ (len:=b.length) gD rfl) (aA (gO rfl rfl) (aG ?_))))))))))
 rcases aH hm with ⟨c,hm⟩|⟨c,hm⟩
 ·exact cA
 ·refine aJ c rfl (aX (aB (aP (aL (aD (v:=i64 0) (aG (bR [] (fun f w=>aBr=some R/\aO G K (L) w) cA ?_)))))));obtain ⟨j,d,ho⟩:=aC hm
  exact dS [0,1] d (fun e f w=>f 5=i64 e/\aO G K (L) w) cA cA
theorem aIk {a b:bU} {R:Bool} (hm:wG a b=some R) (c:aO G K (L) w) (d:cI K a1 c2 a.Values) (e:cI K a4 c5 b.Values):
  Calls prog 60 ([zA #[i64 a.Definition,zS a1 a.Values.length c2],zA #[i64 b.Definition,zS a4 b.Values.length c5]]:List Value).toArray w (eX fun v w'=>v=zB R/\aO G K (L) w'):=by
 exact cA
theorem aHF {a b:(List bU)} {R:Bool} (hm:aAs a b=some R) (g:aO G K (L) w) (h:cI K a1 c2 a) (i:cI K a4 c5 b):
  Calls prog 30 ([zS a1 a.length c2,zS a4 b.length c5]:List Value).toArray w (eX fun v w'=>v=zB R/\aO G K (L) w'):=by
 refine aT func30 rfl (by kernel_rfl) (by show (2:Nat)<=27;decide) ?_;unfold aAs at hm
 refine aL (aD (v:=zB false) (aG (aP (aL (aI (v:=zS a1 a.length c2) (aA (bQ (len:=a.length) sL rfl) (aI (v:=zS a4 b.length c5) (aA (bQ (len:=b.length) sL rfl) (aA (gO rfl rfl) (aG ?_))))))))))
 rcases aH hm with ⟨c,hm⟩|⟨c,hm⟩
 ·exact cA
 ·refine aJ c rfl (aX (aB (aP (aL (aD (v:=i64 0) (aG (bR [] (fun f w=>sD=some R/\aO G K (L) w) cA ?_)))))));obtain ⟨j,d,ho⟩:=aC hm
  exact dS [0,1] d (fun e f w=>f 5=i64 e/\aO G K (L) w) cA cA
theorem aJL {a b:cB} {R:Bool} (hm:aBM a b=some R) (c:aO G K (L) w):
  Calls prog 61 ([zA #[str a.Left,str a.Right,str a.Result],zA #[str b.Left,str b.Right,str b.Result]]:List Value).toArray w (eX fun v w'=>v=zB R/\aO G K (L) w'):=by
 exact cA
theorem aIX {a b:(List cB)} {R:Bool} (hm:aCG a b=some R) (g:aO G K (L) w) (h:cI K a1 c2 a) (i:cI K a4 c5 b):
  Calls prog 31 ([zS a1 a.length c2,zS a4 b.length c5]:List Value).toArray w (eX fun v w'=>v=zB R/\aO G K (L) w'):=by
 refine aT func31 rfl (by kernel_rfl) (by show (2:Nat)<=27;decide) ?_;unfold aCG at hm
 refine aL (aD (v:=zB false) (aG (aP (aL (aI (v:=zS a1 a.length c2) (aA (bQ (len:=a.length) qE rfl) (aI (v:=zS a4 b.length c5) (aA (bQ (len:=b.length) qE rfl) (aA (gO rfl rfl) (aG ?_))))))))))
 rcases aH hm with ⟨c,hm⟩|⟨c,hm⟩
 ·exact cA
 ·refine aJ c rfl (aX (aB (aP (aL (aD (v:=i64 0) (aG (bR [] (fun f w=>wY=some R/\aO G K (L) w) cA ?_)))))));obtain ⟨j,d,ho⟩:=aC hm
  exact dS [0,1] d (fun e f w=>f 5=i64 e/\aO G K (L) w) cA cA
theorem aKS {a b:cW} {R:Bool} (hm:aDy a b=some R) (c:aO G K (L) w) (d:cI K a1 c2 a.Definitions) (e:cI K a4 c5 a.Components) (g:cI K a7 c8 a.Meetings) (h:cI K a10 c11 a.Allowed) (i:cI K a13 c14 a.Hidden) (j:cI K a16 c17 b.Definitions) (k:cI K a19 c20 b.Components) (l:cI K a22 c23 b.Meetings) (m:cI K a25 c26 b.Allowed) (n:cI K a28 c29 b.Hidden):
  Calls prog 9 ([zA #[zS a1 a.Definitions.length c2,zS a4 a.Components.length c5,zS a7 a.Meetings.length c8,zS a10 a.Allowed.length c11,zS a13 a.Hidden.length c14],zA #[zS a16 b.Definitions.length c17,zS a19 b.Components.length c20,zS a22 b.Meetings.length c23,zS a25 b.Allowed.length c26,zS a28 b.Hidden.length c29]]:List Value).toArray w (eX fun v w'=>v=zB R/\aO G K (L) w'):=by
 exact cA
theorem lX {k:Int} {R:bL} (hm:kX k=some R) (y:aO G K (L) w):
  Calls prog 62 ([i64 k]:List Value).toArray w (eX fun v w'=>v=str R/\aO G K (L) w'):=by
 refine aT func62 rfl (by kernel_rfl) (by show (1:Nat)<=20;decide) ?_;unfold kX at hm
 refine aL (aD (v:=str ([]:bL)) (aG (aP (aL (aI (v:=i64 k) (aA (aAF rfl rfl) (aG ?_)))))))
 rcases aH hm with ⟨c,hm⟩|⟨c,hm⟩
 ·exact cA
 ·refine aJ c rfl (aX (aB (aL (aD (v:=str ([]:bL)) (aG (aP (bR [] (fun f w=>∃ d,wH d=some R/\f 3=str d/\aO G K (L) w) cA ?_)))))));obtain ⟨z,l,ho⟩:=aC hm
  refine eG [] l (fun e g f w=>f 0=i64 e/\f 3=str g/\aO G K (L) w) cA ?_
  ·rintro e g J f V hm hr ⟨b,m,n⟩
   unfold aBs at hm
   refine aP (aL (bJ b (aA (jU rfl rfl) (aG ?_))))
   rcases aH hm with ⟨h,hm⟩|⟨h,hm⟩
   ·refine aN h rfl (aX (aB (bY (aL (bJ b ?_)))));obtain ⟨a,o,hm⟩:=aC hm
    refine aA (aKj rfl rfl o) (aA (cH rfl rfl) (aA (aNr runUnderlying5 rfl ⟨_,runUnderlying3⟩) (gA (Kt:=K) (xs:=([(UInt8.ofInt (wr (48+a)))]:List UInt8)) (cs:=[Value.int .u8 ((UInt8.ofInt (wr (48+a))).toNat:Int)]) (vs:=[(0,Value.int .u8 ((UInt8.ofInt (wr (48+a))).toNat:Int))]) aDe ez_5 rfl rfl n rfl (by kernel_rfl) rfl rfl rfl ⟨rfl,trivial⟩ ?_)))
    intro p q (j:aO G K (bI 5 K p 1 ([(UInt8.ofInt (wr (48+a)))]:List UInt8)::L) q)
    refine aA (aNq underlying154 underlying5 underlying9 j (i:=0) rfl rfl rfl) (bJ m ?_);obtain ⟨r,t,hm⟩:=aC hm
    refine aA (aCd rfl rfl t) (aD (v:=str r) (aG (aW (bJ b ?_))));obtain ⟨u,x,hm⟩:=aC hm
    exact aA (R_quo rfl rfl x) (aD (v:=i64 u) (cG (bN (aB ⟨_,(Option.some.inj hm).symm,aU,rfl,rfl,(aO.arr 1 [] j rfl)⟩))))
   ·exact cA
theorem aJM {a:(List bS)} {k:Int} {R:(Int × (List bS))} (hm:aBN a k=some R) (hs:aO G K (bI 233 K a1 c2 a::L) w):
  Calls prog 139 ([zS a1 a.length c2,i64 k]:List Value).toArray w (eX fun v w'=>v=i64 R.1/\a.length=R.2.length/\aO G K (bI 233 K a1 c2 R.2::L) w'):=by
 refine aT func139 rfl (by kernel_rfl) (by show (2:Nat)<=27;decide) ?_;unfold aBN at hm
 refine aL (aD (v:=i64 0) (aG (aP (aL (aD (v:=i64 0) (aG (bR [] (fun f w=>∃ q m,aAt q m=some R/\f 1=i64 q/\a.length=m.length/\aO G K (bI 233 K a1 c2 m::L) w) cA ?_)))))));obtain ⟨a9,J,ho⟩:=aC hm
 refine mT [] J (fun c b d f w=>f 0=zS a1 c.length c2/\f 1=i64 b/\f 5=i64 d/\a.length=c.length/\aO G K (bI 233 K a1 c2 c::L) w) cA ?_
 ·rintro c b d b0 f b1 hm hr ⟨e,r,g,V,u⟩
  unfold tG at hm
  refine aP (aL (bJ g (bJ e (aA (bQ (len:=c.length) lW rfl) (aA (cL rfl rfl) (aG ?_))))))
  rcases aH hm with ⟨x,hm⟩|⟨x,hm⟩
  ·refine aN x rfl (aX (aB (aP (bY (aL (bJ e (bJ g (bJ r ?_))))))));obtain ⟨Z,o,hm⟩:=aC hm
   have j:=fD u (i:=0) rfl o
   refine aA (gQ lW rfl j rfl rfl rfl o) (aA (lV (k':=d.toNat * 2+0) vB j rfl rfl) ?_);obtain ⟨y,l,hm⟩:=aC hm
   refine mF (i:=0) (t:=0) (ns:=[i64 b]) (e':=(⟨b,Z.Value⟩:bS)) sizeOf2 u rfl (Hp.le_refl _) rfl rfl rfl o l rfl rfl (eM rfl) rfl (fun cs h=>by cases h;rfl) (fun a0 (a2:aO G K (bI 233 K a1 c2 y::L) a0)=>(aG (aL (bJ r (aA (cH rfl rfl) (aD (v:=i64 (wr (b+1))) (aG (aL (bJ (v:=zS a1 y.length c2) (Eq.trans e (congrArg (fun n=>zS a1 n c2) (cR l))) (bJ g (aI (v:=i64 (wr (b+1))) ?_)))))))))));obtain ⟨a3,z,hm⟩:=aC hm
   refine aA (gQ lW rfl j rfl rfl rfl z) (aA (lV (k':=d.toNat * 2+1) kN j rfl rfl) ?_);obtain ⟨a5,p,hm⟩:=aC hm
   exact mF (i:=0) (t:=1) (ns:=[i64 (wr (b+1))]) (e':=(⟨a3.Kind,wr (b+1)⟩:bS)) sizeOf2 a2 rfl (Hp.le_refl _) rfl rfl rfl z p rfl rfl (eM rfl) rfl (fun cs h=>by cases h;rfl) (fun a6 (a7:aO G K (bI 233 K a1 c2 a5::L) a6)=>(aG (aW (aI (v:=i64 (wr (b+1))) (aA (cH rfl rfl) (aD (v:=i64 (wr ((wr (b+1))+1))) (cG (bN (aB (aW (bJ g (aA (cH rfl rfl) (aD (v:=i64 (wr (d+1))) (aG ⟨_,(Option.some.inj hm).symm,aU,(Eq.trans (Eq.trans e (congrArg (fun n=>zS a1 n c2) (cR l))) (congrArg (fun n=>zS a1 n c2) (cR p))),rfl,rfl,((V.trans (cR l)).trans (cR p)),a7⟩))))))))))))))
  ·exact cA
end Gv
namespace Gv
open Gv.Hp renaming le_refl→zR
open Go.Value renaming slice→zS,bool→zB,agg→zA
open Option.some renaming inj→zI
open Gv.Hp renaming le_trans→zL
open Go Go.Proofs Go.Proofs.Tryz
set_option maxRecDepth 20000
set_option maxHeartbeats 40000000
variable {G:qG} {K:Hp} {L:List iZ} {w:World} {a1 a5 a9 a11 a13 a3 a4 a7 a10:Option Addr} {c2 c6 c10 c12 c14 c4 c5 c8 c11:Nat}
theorem aIY {a:(List (List bS))} {b:List (Dp.Hd (List bS))} {k:Int} {R:(Int × (List (List bS)))} (hm:aAu a k=some R) (hs:aO G K (bI 173 K a1 c2 (bX b a)::rows [233] b a::L) w) (b3:List.length b=List.length a):
  Calls prog 98 ([zS a1 a.length c2,i64 k]:List Value).toArray w (eX fun v w'=>v=i64 R.1/\a.length=R.2.length/\aO G K (bI 173 K a1 c2 (bX b R.2)::rows [233] b R.2::L) w'):=by
 refine aT func98 rfl (by kernel_rfl) (by show (2:Nat)<=19;decide) ?_;unfold aAu at hm
 refine aL (aD (v:=i64 0) (aG (aP (aL (aD (v:=i64 0) (aG (bR [] (fun f w=>∃ y g,wZ y g=some R/\f 1=i64 y/\List.length b=List.length g/\a.length=g.length/\aO G K (bI 173 K a1 c2 (bX b g)::rows [233] b g::L) w) cA ?_)))))));obtain ⟨b4,V,ho⟩:=aC hm
 refine mT [] V (fun c m d f w=>f 0=zS a1 c.length c2/\f 1=i64 m/\f 5=i64 d/\List.length b=List.length c/\a.length=c.length/\aO G K (bI 173 K a1 c2 (bX b c)::rows [233] b c::L) w) cA ?_
 ·rintro c m d b5 f z hm hr ⟨o,Z,p,h,a0,q⟩
  unfold rI at hm
  refine aP (aL (bJ p (bJ o (aA (bQ (len:=c.length) lJ rfl) (aA (cL rfl rfl) (aG ?_))))))
  rcases aH hm with ⟨c48,hm⟩|⟨c48,hm⟩
  ·refine aN c48 rfl (aX (aB (aP (bY (aW (bJ o (bJ p ?_)))))));obtain ⟨r,e,hm⟩:=aC hm
   obtain ⟨⟨u,x⟩,j⟩:=aGm h e
   have a2:=fD q (i:=0) rfl (nU h e j)
   refine aA (gQ lJ rfl a2 rfl rfl rfl e) (aA (aDS (t:=0) aFk q (i:=0) rfl (nU h e j) rfl rfl rfl) (bJ Z ?_))
   have a3:aO G K (bI 173 K a1 c2 (bX b c)::rows [233] ((b).eraseIdx d.toNat) ((c).eraseIdx d.toNat)::bI 233 K u x r::L) z:=aO.focusR (i:=0) q rfl rfl j e
   have a4:aO G K (bI 233 K u x r::bI 173 K a1 c2 (bX b c)::rows [233] ((b).eraseIdx d.toNat) ((c).eraseIdx d.toNat)::L) z:=(aO.arr 3 [2,0,1] a3 rfl)
   obtain ⟨a5,a7,hm⟩:=aC hm
   refine aV (vs:=[zS u r.length x,i64 m]) call139 rfl (aJM a7 a4) ?_
   rintro _ a8 ⟨rfl,a9,b0⟩
   obtain ⟨J,l,hm⟩:=aC hm
   have b1:aO G K (bI 173 K a1 c2 (bX b J)::rows [233] b J::L) a8:=aO.unfocusR (tys:=[233]) b0 h j e a9 l
   exact aD (v:=i64 a5.1) (cG (bN (aB (aW (bJ p (aA (cH rfl rfl) (aD (v:=i64 (wr (d+1))) (aG ⟨_,(zI hm).symm,aU,(Eq.trans o (congrArg (fun n=>zS a1 n c2) (cR l))),rfl,rfl,(h.trans (cR l)),(a0.trans (cR l)),b1⟩))))))))
  ·exact cA
theorem aJN {a:(List Part)} {b:List (Dp.Hd Part)} {k:Int} {R:(Int × (List Part))} (hm:aBO a k=some R) (hs:aO G K (bI 157 K a1 c2 (bX b a)::rows [173,233] b a::L) w) (d8:List.length b=List.length a):
  Calls prog 63 ([zS a1 a.length c2,i64 k]:List Value).toArray w (eX fun v w'=>v=i64 R.1/\a.length=R.2.length/\aO G K (bI 157 K a1 c2 (bX b R.2)::rows [173,233] b R.2::L) w'):=by
 refine aT func63 rfl (by kernel_rfl) (by show (2:Nat)<=42;decide) ?_;unfold aBO at hm
 refine aL (aD (v:=i64 0) (aG (aP (aL (aD (v:=i64 0) (aG (bR [] (fun f w=>∃ k5 y,aAv k5 y=some R/\f 1=i64 k5/\List.length b=List.length y/\a.length=y.length/\aO G K (bI 157 K a1 c2 (bX b y)::rows [173,233] b y::L) w) cA ?_)))))));obtain ⟨d9,c3,ho⟩:=aC hm
 refine mT [] c3 (fun p c d f w=>f 0=zS a1 p.length c2/\f 1=i64 c/\f 5=i64 d/\List.length b=List.length p/\a.length=p.length/\aO G K (bI 157 K a1 c2 (bX b p)::rows [173,233] b p::L) w) cA ?_
 ·rintro p c d e0 f e1 hm hr ⟨u,b2,x,l,c4,b3⟩
  unfold tH at hm
  refine aP (aL (bJ x (bJ u (aA (bQ (len:=p.length) lH rfl) (aA (cL rfl rfl) (aG ?_))))))
  rcases aH hm with ⟨c48,hm⟩|⟨c48,hm⟩
  ·refine aN c48 rfl (aX (aB (aP (bY (aL (bJ u (bJ x (bJ b2 ?_))))))));obtain ⟨a4,V,hm⟩:=aC hm
   obtain ⟨⟨⟨z,J⟩,m⟩,q⟩:=aGm l V
   have o:=fD b3 (i:=0) rfl (nU l V q)
   refine aA (gQ lH rfl o rfl rfl rfl V) (aA (lV (k':=d.toNat * 4+0) fA o rfl rfl) ?_);obtain ⟨a5,e,hm⟩:=aC hm
   refine aJx (i:=0) (t:=0) (ns:=[i64 c]) (e':=(⟨c,a4.Number,a4.Name,a4.Arguments⟩:Part)) sizeOf2 b3 l rfl rfl rfl rfl rfl V q e rfl rfl (eM rfl) rfl rfl rfl (fun c5 (c6:aO G K (bI 157 K a1 c2 (bX b a5)::rows [173,233] b a5::L) c5)=>(aG (aL (bJ b2 (aA (cH rfl rfl) (aD (v:=i64 (wr (c+1))) (aG (aL (bJ (v:=zS a1 a5.length c2) (Eq.trans u (congrArg (fun n=>zS a1 n c2) (cR e))) (bJ x (aI (v:=i64 (wr (c+1))) ?_)))))))))))
   obtain ⟨a7,b4,hm⟩:=aC hm
   refine aA (gQ lH rfl o rfl rfl rfl b4) (aA (lV (k':=d.toNat * 4+1) jO o rfl rfl) ?_);obtain ⟨a8,j,hm⟩:=aC hm
   refine aJx (i:=0) (t:=1) (ns:=[i64 (wr (c+1))]) (e':=(⟨a7.Kind,wr (c+1),a7.Name,a7.Arguments⟩:Part)) sizeOf2 c6 (l.trans (cR e)) rfl rfl rfl rfl rfl b4 q j rfl rfl (eM rfl) rfl rfl rfl (fun c7 (c8:aO G K (bI 157 K a1 c2 (bX b a8)::rows [173,233] b a8::L) c7)=>(aG (aL (aI (v:=i64 (wr (c+1))) (aA (cH rfl rfl) (aD (v:=i64 (wr ((wr (c+1))+1))) (aG (aL (bJ (v:=zS a1 a8.length c2) (Eq.trans (Eq.trans u (congrArg (fun n=>zS a1 n c2) (cR e))) (congrArg (fun n=>zS a1 n c2) (cR j))) (bJ x (aI (v:=i64 (wr ((wr (c+1))+1))) ?_)))))))))))
   obtain ⟨b5,c9,hm⟩:=aC hm
   refine aV (vs:=[i64 (wr ((wr (c+1))+1))]) call62 rfl (lX c9 c8) ?_
   rintro _ e2 ⟨rfl,d0⟩
   obtain ⟨a9,b6,hm⟩:=aC hm
   refine aA (gQ lH rfl o rfl rfl rfl b6) (aA (lV (k':=d.toNat * 4+2) lI o rfl rfl) ?_);obtain ⟨g,r,hm⟩:=aC hm
   refine aJx (i:=0) (t:=2) (ns:=[str b5]) (e':=(⟨a9.Kind,a9.Number,b5,a9.Arguments⟩:Part)) sizeOf9 d0 ((l.trans (cR e)).trans (cR j)) rfl rfl rfl rfl rfl b6 q r rfl rfl (eM rfl) rfl rfl rfl (fun Z (b7:aO G K (bI 157 K a1 c2 (bX b g)::rows [173,233] b g::L) Z)=>(aG (aL (aI (v:=i64 (wr ((wr (c+1))+1))) (aA (cH rfl rfl) (aD (v:=i64 (wr ((wr ((wr (c+1))+1))+1))) (aG (aW (bJ (v:=zS a1 g.length c2) (Eq.trans (Eq.trans (Eq.trans u (congrArg (fun n=>zS a1 n c2) (cR e))) (congrArg (fun n=>zS a1 n c2) (cR j))) (congrArg (fun n=>zS a1 n c2) (cR r))) (bJ x ?_))))))))))
   obtain ⟨h,a0,hm⟩:=aC hm
   refine aA (gQ lH rfl o rfl rfl rfl a0) (aA (lV (k':=d.toNat * 4+3) jP o rfl rfl) (aA (aDS (t:=3) qI b7 (i:=0) rfl (nU (((l.trans (cR e)).trans (cR j)).trans (cR r)) a0 q) rfl rfl rfl) (aI (v:=i64 (wr ((wr ((wr (c+1))+1))+1))) ?_)))
   have d1:aO G K (bI 157 K a1 c2 (bX b g)::rows [173,233] ((b).eraseIdx d.toNat) ((g).eraseIdx d.toNat)::bI 173 K z J (bX m h.Arguments)::aFQ [233] m h.Arguments::L) Z:=aO.arr 4 [3,2,0,1] (aO.rowOut (i:=1) b7 rfl q (ix_at a0)) rfl
   obtain ⟨b8,b0⟩:=aO.openL (i:=3) d1 rfl
   replace b0:aO G K (bI 157 K a1 c2 (bX b g)::rows [173,233] ((b).eraseIdx d.toNat) ((g).eraseIdx d.toNat)::bI 173 K z J (bX m h.Arguments)::rows [233] m h.Arguments::L) Z:=b0
   have d2:aO G K (bI 173 K z J (bX m h.Arguments)::rows [233] m h.Arguments::bI 157 K a1 c2 (bX b g)::rows [173,233] ((b).eraseIdx d.toNat) ((g).eraseIdx d.toNat)::L) Z:=(aO.arr 4 [2,3,0,1] b0 rfl)
   obtain ⟨a2,d3,hm⟩:=aC hm
   refine aV (vs:=[zS z h.Arguments.length J,i64 (wr ((wr ((wr (c+1))+1))+1))]) call98 rfl (aIY d3 d2 b8) ?_
   rintro _ b9 ⟨rfl,c0,d4⟩
   obtain ⟨c1,a3,hm⟩:=aC hm
   have d5:aO G K (bI 173 K z J (bX m a2.2)::aFQ [233] m a2.2::bI 157 K a1 c2 (bX b g)::rows [173,233] ((b).eraseIdx d.toNat) ((g).eraseIdx d.toNat)::L) b9:=aO.closeL (i:=1) d4 rfl (b8.trans c0)
   have d6:aO G K (bI 157 K a1 c2 (bX b c1)::rows [173,233] b c1::L) b9:=aO.unfocusS (tys:=[173,233]) (x':=(⟨h.Kind,h.Number,h.Name,a2.2⟩:Part)) (aO.arr 4 [0,1,3,2] d5 rfl) (((l.trans (cR e)).trans (cR j)).trans (cR r)) q a0 (aQz c0) a3
   exact aD (v:=i64 a2.1) (cG (bN (aB (aW (bJ x (aA (cH rfl rfl) (aD (v:=i64 (wr (d+1))) (aG ⟨_,(zI hm).symm,aU,(Eq.trans (Eq.trans (Eq.trans (Eq.trans u (congrArg (fun n=>zS a1 n c2) (cR e))) (congrArg (fun n=>zS a1 n c2) (cR j))) (congrArg (fun n=>zS a1 n c2) (cR r))) (congrArg (fun n=>zS a1 n c2) (cR a3))),rfl,rfl,((((l.trans (cR e)).trans (cR j)).trans (cR r)).trans (cR a3)),((((c4.trans (cR e)).trans (cR j)).trans (cR r)).trans (cR a3)),d6⟩))))))))
  ·exact cA
theorem aFH {a:(List Definition)} {b:List (Dp.Hd Definition)} {k:Int} {R:(Int × (List Definition))} (hm:oI a k=some R) (hs:aO G K (bI 100 K a1 c2 (bX b a)::rows [157,173,233] b a::L) w) (d2:List.length b=List.length a):
  Calls prog 32 ([zS a1 a.length c2,i64 k]:List Value).toArray w (eX fun v w'=>v=i64 R.1/\a.length=R.2.length/\aO G K (bI 100 K a1 c2 (bX b R.2)::rows [157,173,233] b R.2::L) w'):=by
 refine aT func32 rfl (by kernel_rfl) (by show (2:Nat)<=35;decide) ?_;unfold oI at hm
 refine aL (aD (v:=i64 0) (aG (aP (aL (aD (v:=i64 0) (aG (bR [] (fun f w=>∃ k5 r,oH k5 r=some R/\f 1=i64 k5/\List.length b=List.length r/\a.length=r.length/\aO G K (bI 100 K a1 c2 (bX b r)::rows [157,173,233] b r::L) w) cA ?_)))))));obtain ⟨d3,b8,ho⟩:=aC hm
 refine mT [] b8 (fun l d c f w=>f 0=zS a1 l.length c2/\f 1=i64 d/\f 5=i64 c/\List.length b=List.length l/\a.length=l.length/\aO G K (bI 100 K a1 c2 (bX b l)::rows [157,173,233] b l::L) w) cA ?_
 ·rintro l d c d4 f d5 hm hr ⟨u,a7,x,m,b9,c0⟩
  unfold lN at hm
  refine aP (aL (bJ x (bJ u (aA (bQ (len:=l.length) jV rfl) (aA (cL rfl rfl) (aG ?_))))))
  rcases aH hm with ⟨c48,hm⟩|⟨c48,hm⟩
  ·refine aN c48 rfl (aX (aB (aP (bY (aL (bJ u (bJ x (bJ a7 ?_))))))));obtain ⟨a8,c1,hm⟩:=aC hm
   refine aV (vs:=[i64 d]) call62 rfl (lX c1 c0) ?_
   rintro _ d6 ⟨rfl,a9⟩
   obtain ⟨b0,J,hm⟩:=aC hm
   obtain ⟨⟨⟨y,z⟩,j⟩,p⟩:=aGm m J
   have q:=fD a9 (i:=0) rfl (nU m J p)
   refine aA (gQ jV rfl q rfl rfl rfl J) (aA (lV (k':=c.toNat * 3+0) vC q rfl rfl) ?_);obtain ⟨a3,g,hm⟩:=aC hm
   refine aJx (i:=0) (t:=0) (ns:=[str a8]) (e':=(⟨a8,b0.Parameters,b0.Body⟩:Definition)) sizeOf9 a9 m rfl rfl rfl rfl rfl J p g rfl rfl (eM rfl) rfl rfl rfl (fun c3 (c4:aO G K (bI 100 K a1 c2 (bX b a3)::rows [157,173,233] b a3::L) c3)=>(aG (aL (bJ a7 (aA (cH rfl rfl) (aD (v:=i64 (wr (d+1))) (aG (aL (bJ (v:=zS a1 a3.length c2) (Eq.trans u (congrArg (fun n=>zS a1 n c2) (cR g))) (bJ x (aI (v:=i64 (wr (d+1))) ?_)))))))))))
   obtain ⟨b1,b2,hm⟩:=aC hm
   refine aA (gQ jV rfl q rfl rfl rfl b2) (aA (lV (k':=c.toNat * 3+1) qX q rfl rfl) ?_);obtain ⟨e,o,hm⟩:=aC hm
   refine aJx (i:=0) (t:=1) (ns:=[i64 (wr (d+1))]) (e':=(⟨b1.Name,wr (d+1),b1.Body⟩:Definition)) sizeOf2 c4 (m.trans (cR g)) rfl rfl rfl rfl rfl b2 p o rfl rfl (eM rfl) rfl rfl rfl (fun V (b3:aO G K (bI 100 K a1 c2 (bX b e)::rows [157,173,233] b e::L) V)=>(aG (aL (aI (v:=i64 (wr (d+1))) (aA (cH rfl rfl) (aD (v:=i64 (wr ((wr (d+1))+1))) (aG (aW (bJ (v:=zS a1 e.length c2) (Eq.trans (Eq.trans u (congrArg (fun n=>zS a1 n c2) (cR g))) (congrArg (fun n=>zS a1 n c2) (cR o))) (bJ x ?_))))))))))
   obtain ⟨h,Z,hm⟩:=aC hm
   refine aA (gQ jV rfl q rfl rfl rfl Z) (aA (lV (k':=c.toNat * 3+2) jQ q rfl rfl) (aA (aDS (t:=2) yM b3 (i:=0) rfl (nU ((m.trans (cR g)).trans (cR o)) Z p) rfl rfl rfl) (aI (v:=i64 (wr ((wr (d+1))+1))) ?_)))
   have c5:aO G K (bI 100 K a1 c2 (bX b e)::rows [157,173,233] ((b).eraseIdx c.toNat) ((e).eraseIdx c.toNat)::bI 157 K y z (bX j h.Body)::aFQ [173,233] j h.Body::L) V:=aO.arr 4 [3,2,0,1] (aO.rowOut (i:=1) b3 rfl p (ix_at Z)) rfl
   obtain ⟨b4,a4⟩:=aO.openL (i:=3) c5 rfl
   replace a4:aO G K (bI 100 K a1 c2 (bX b e)::rows [157,173,233] ((b).eraseIdx c.toNat) ((e).eraseIdx c.toNat)::bI 157 K y z (bX j h.Body)::rows [173,233] j h.Body::L) V:=a4
   have c6:aO G K (bI 157 K y z (bX j h.Body)::rows [173,233] j h.Body::bI 100 K a1 c2 (bX b e)::rows [157,173,233] ((b).eraseIdx c.toNat) ((e).eraseIdx c.toNat)::L) V:=(aO.arr 4 [2,3,0,1] a4 rfl)
   obtain ⟨a0,c7,hm⟩:=aC hm
   refine aV (vs:=[zS y h.Body.length z,i64 (wr ((wr (d+1))+1))]) call63 rfl (aJN c7 c6 b4) ?_
   rintro _ b5 ⟨rfl,b6,c8⟩
   obtain ⟨b7,a2,hm⟩:=aC hm
   have c9:aO G K (bI 157 K y z (bX j a0.2)::aFQ [173,233] j a0.2::bI 100 K a1 c2 (bX b e)::rows [157,173,233] ((b).eraseIdx c.toNat) ((e).eraseIdx c.toNat)::L) b5:=aO.closeL (i:=1) c8 rfl (b4.trans b6)
   have d0:aO G K (bI 100 K a1 c2 (bX b b7)::rows [157,173,233] b b7::L) b5:=aO.unfocusS (tys:=[157,173,233]) (x':=(⟨h.Name,h.Parameters,a0.2⟩:Definition)) (aO.arr 4 [0,1,3,2] c9 rfl) ((m.trans (cR g)).trans (cR o)) p Z (aJy b6) a2
   exact aD (v:=i64 a0.1) (cG (bN (aB (aW (bJ x (aA (cH rfl rfl) (aD (v:=i64 (wr (c+1))) (aG ⟨_,(zI hm).symm,aU,(Eq.trans (Eq.trans (Eq.trans u (congrArg (fun n=>zS a1 n c2) (cR g))) (congrArg (fun n=>zS a1 n c2) (cR o))) (congrArg (fun n=>zS a1 n c2) (cR a2))),rfl,rfl,(((m.trans (cR g)).trans (cR o)).trans (cR a2)),(((b9.trans (cR g)).trans (cR o)).trans (cR a2)),d0⟩))))))))
  ·exact cA
theorem aIZ {a:(List Int)} {k:Int} {R:(Int × (List Int))} (hm:aAw a k=some R) (Z:aO G K (bI 2 K a1 c2 a::L) w):
  Calls prog 64 ([zS a1 a.length c2,i64 k]:List Value).toArray w (eX fun v w'=>v=i64 R.1/\a.length=R.2.length/\aO G K (bI 2 K a1 c2 R.2::L) w'):=by
 refine aT func64 rfl (by kernel_rfl) (by show (2:Nat)<=19;decide) ?_;unfold aAw at hm
 refine aL (aD (v:=i64 0) (aG (aP (aL (aD (v:=i64 0) (aG (bR [] (fun f w=>∃ o d,rJ o d=some R/\f 1=i64 o/\a.length=d.length/\aO G K (bI 2 K a1 c2 d::L) w) cA ?_)))))));obtain ⟨a0,u,ho⟩:=aC hm
 refine mT [] u (fun b c e f w=>f 0=zS a1 b.length c2/\f 1=i64 c/\f 5=i64 e/\a.length=b.length/\aO G K (bI 2 K a1 c2 b::L) w) cA ?_
 ·rintro b c e a2 f a3 hm hr ⟨g,p,j,x,q⟩
  unfold xA at hm
  refine aP (aL (bJ j (bJ g (aA (bQ (len:=b.length) gD rfl) (aA (cL rfl rfl) (aG ?_))))))
  rcases aH hm with ⟨r,hm⟩|⟨r,hm⟩
  ·refine aN r rfl (aX (aB (aP (bY (aL (bJ g (bJ j (bJ p ?_))))))));obtain ⟨a5,l,hm⟩:=aC hm
   have y:=fD q (i:=0) rfl l
   refine aA (gQ gD rfl y rfl rfl rfl l) ?_;obtain ⟨z,m,hm⟩:=aC hm
   exact mF (i:=0) (t:=0) (ns:=[i64 c]) (e':=(c:Int)) sizeOf2 q rfl (zR _) rfl rfl rfl l m rfl rfl (eM rfl) rfl (fun cs h=>by cases h;rfl) (fun J (V:aO G K (bI 2 K a1 c2 z::L) J)=>(aG (aW (bJ p (aA (cH rfl rfl) (aD (v:=i64 (wr (c+1))) (cG (bN (aB (aW (bJ j (aA (cH rfl rfl) (aD (v:=i64 (wr (e+1))) (aG ⟨_,(zI hm).symm,aU,(Eq.trans g (congrArg (fun n=>zS a1 n c2) (cR m))),rfl,rfl,(x.trans (cR m)),V⟩))))))))))))))
  ·exact cA
theorem aGb {a:(List bU)} {b:List (Dp.Hd bU)} {k:Int} {R:(Int × (List bU))} (hm:pV a k=some R) (hs:aO G K (bI 102 K a1 c2 (bX b a)::rows [2] b a::L) w) (b8:List.length b=List.length a):
  Calls prog 33 ([zS a1 a.length c2,i64 k]:List Value).toArray w (eX fun v w'=>v=i64 R.1/\a.length=R.2.length/\aO G K (bI 102 K a1 c2 (bX b R.2)::rows [2] b R.2::L) w'):=by
 refine aT func33 rfl (by kernel_rfl) (by show (2:Nat)<=27;decide) ?_;unfold pV at hm
 refine aL (aD (v:=i64 0) (aG (aP (aL (aD (v:=i64 0) (aG (bR [] (fun f w=>∃ Z l,oS Z l=some R/\f 1=i64 Z/\List.length b=List.length l/\a.length=l.length/\aO G K (bI 102 K a1 c2 (bX b l)::rows [2] b l::L) w) cA ?_)))))));obtain ⟨b9,a7,ho⟩:=aC hm
 refine mT [] a7 (fun d e c f w=>f 0=zS a1 d.length c2/\f 1=i64 e/\f 5=i64 c/\List.length b=List.length d/\a.length=d.length/\aO G K (bI 102 K a1 c2 (bX b d)::rows [2] b d::L) w) cA ?_
 ·rintro d e c c0 f c1 hm hr ⟨o,a0,p,j,a8,a2⟩
  unfold mC at hm
  refine aP (aL (bJ p (bJ o (aA (bQ (len:=d.length) sL rfl) (aA (cL rfl rfl) (aG ?_))))))
  rcases aH hm with ⟨c48,hm⟩|⟨c48,hm⟩
  ·refine aN c48 rfl (aX (aB (aP (bY (aL (bJ o (bJ p (bJ a0 ?_))))))));obtain ⟨a9,q,hm⟩:=aC hm
   obtain ⟨⟨z,J⟩,m⟩:=aGm j q
   have r:=fD a2 (i:=0) rfl (nU j q m)
   refine aA (gQ sL rfl r rfl rfl rfl q) (aA (lV (k':=c.toNat * 2+0) vD r rfl rfl) ?_);obtain ⟨g,h,hm⟩:=aC hm
   refine aJx (i:=0) (t:=0) (ns:=[i64 e]) (e':=(⟨e,a9.Values⟩:bU)) sizeOf2 a2 j rfl rfl rfl rfl rfl q m h rfl rfl (eM rfl) rfl rfl rfl (fun V (a3:aO G K (bI 102 K a1 c2 (bX b g)::rows [2] b g::L) V)=>(aG (aL (bJ a0 (aA (cH rfl rfl) (aD (v:=i64 (wr (e+1))) (aG (aW (bJ (v:=zS a1 g.length c2) (Eq.trans o (congrArg (fun n=>zS a1 n c2) (cR h))) (bJ p ?_))))))))));obtain ⟨u,x,hm⟩:=aC hm
   refine aA (gQ sL rfl r rfl rfl rfl x) (aA (lV (k':=c.toNat * 2+1) vE r rfl rfl) (aA (aDS (t:=1) aCe a3 (i:=0) rfl (nU (j.trans (cR h)) x m) rfl rfl rfl) (aI (v:=i64 (wr (e+1))) ?_)))
   have b0:aO G K (bI 102 K a1 c2 (bX b g)::rows [2] ((b).eraseIdx c.toNat) ((g).eraseIdx c.toNat)::bI 2 K z J u.Values::L) V:=aO.arr 3 [2,1,0] (aO.rowOut (i:=1) a3 rfl m (ix_at x)) rfl
   have b1:aO G K (bI 2 K z J u.Values::bI 102 K a1 c2 (bX b g)::rows [2] ((b).eraseIdx c.toNat) ((g).eraseIdx c.toNat)::L) V:=(aO.arr 3 [2,0,1] b0 rfl)
   obtain ⟨a4,b2,hm⟩:=aC hm
   refine aV (vs:=[zS z u.Values.length J,i64 (wr (e+1))]) call64 rfl (aIZ b2 b1) ?_
   rintro _ b3 ⟨rfl,b4,b5⟩
   obtain ⟨a5,y,hm⟩:=aC hm
   have b6:aO G K (bI 102 K a1 c2 (bX b a5)::rows [2] b a5::L) b3:=aO.unfocusS (tys:=[2]) (x':=(⟨u.Definition,a4.2⟩:bU)) (aO.arr 3 [0,2,1] b5 rfl) (j.trans (cR h)) m x (aKz b4) y
   exact aD (v:=i64 a4.1) (cG (bN (aB (aW (bJ p (aA (cH rfl rfl) (aD (v:=i64 (wr (c+1))) (aG ⟨_,(zI hm).symm,aU,(Eq.trans (Eq.trans o (congrArg (fun n=>zS a1 n c2) (cR h))) (congrArg (fun n=>zS a1 n c2) (cR y))),rfl,rfl,((j.trans (cR h)).trans (cR y)),((a8.trans (cR h)).trans (cR y)),b6⟩))))))))
  ·exact cA
theorem aHG {a:(List cB)} {k:Int} {R:(Int × (List cB))} (hm:tI a k=some R) (hs:aO G K (bI 104 K a1 c2 a::L) w):
  Calls prog 34 ([zS a1 a.length c2,i64 k]:List Value).toArray w (eX fun v w'=>v=i64 R.1/\a.length=R.2.length/\aO G K (bI 104 K a1 c2 R.2::L) w'):=by
 refine aT func34 rfl (by kernel_rfl) (by show (2:Nat)<=37;decide) ?_;unfold tI at hm
 refine aL (aD (v:=i64 0) (aG (aP (aL (aD (v:=i64 0) (aG (bR [] (fun f w=>∃ r o,sE r o=some R/\f 1=i64 r/\a.length=o.length/\aO G K (bI 104 K a1 c2 o::L) w) cA ?_)))))));obtain ⟨c5,a8,ho⟩:=aC hm
 refine mT [] a8 (fun e b c f w=>f 0=zS a1 e.length c2/\f 1=i64 b/\f 5=i64 c/\a.length=e.length/\aO G K (bI 104 K a1 c2 e::L) w) cA ?_
 ·rintro e b c c6 f c7 hm hr ⟨g,u,j,a9,b0⟩
  unfold oJ at hm
  refine aP (aL (bJ j (bJ g (aA (bQ (len:=e.length) qE rfl) (aA (cL rfl rfl) (aG ?_))))))
  rcases aH hm with ⟨x,hm⟩|⟨x,hm⟩
  ·refine aN x rfl (aX (aB (aP (bY (aL (bJ g (bJ j (bJ u ?_))))))));obtain ⟨y,b1,hm⟩:=aC hm
   refine aV (vs:=[i64 b]) call62 rfl (lX b1 b0) ?_
   rintro _ c8 ⟨rfl,z⟩
   obtain ⟨J,p,hm⟩:=aC hm
   have d:=fD z (i:=0) rfl p
   refine aA (gQ qE rfl d rfl rfl rfl p) (aA (lV (k':=c.toNat * 3+0) lZ d rfl rfl) ?_);obtain ⟨V,l,hm⟩:=aC hm
   refine mF (i:=0) (t:=0) (ns:=[str y]) (e':=(⟨y,J.Right,J.Result⟩:cB)) sizeOf9 z rfl (zR _) rfl rfl rfl p l rfl rfl (eM rfl) rfl (fun cs h=>by cases h;rfl) (fun b2 (b3:aO G K (bI 104 K a1 c2 V::L) b2)=>(aG (aL (bJ u (aA (cH rfl rfl) (aD (v:=i64 (wr (b+1))) (aG (aL (bJ (v:=zS a1 V.length c2) (Eq.trans g (congrArg (fun n=>zS a1 n c2) (cR l))) (bJ j (aI (v:=i64 (wr (b+1))) ?_)))))))))));obtain ⟨Z,b4,hm⟩:=aC hm
   refine aV (vs:=[i64 (wr (b+1))]) call62 rfl (lX b4 b3) ?_
   rintro _ c9 ⟨rfl,b5⟩
   obtain ⟨a0,a2,hm⟩:=aC hm
   refine aA (gQ qE rfl d rfl rfl rfl a2) (aA (lV (k':=c.toNat * 3+1) nV d rfl rfl) ?_);obtain ⟨a3,m,hm⟩:=aC hm
   refine mF (i:=0) (t:=1) (ns:=[str Z]) (e':=(⟨a0.Left,Z,a0.Result⟩:cB)) sizeOf9 b5 rfl (zR _) rfl rfl rfl a2 m rfl rfl (eM rfl) rfl (fun cs h=>by cases h;rfl) (fun b6 (b7:aO G K (bI 104 K a1 c2 a3::L) b6)=>(aG (aL (aI (v:=i64 (wr (b+1))) (aA (cH rfl rfl) (aD (v:=i64 (wr ((wr (b+1))+1))) (aG (aL (bJ (v:=zS a1 a3.length c2) (Eq.trans (Eq.trans g (congrArg (fun n=>zS a1 n c2) (cR l))) (congrArg (fun n=>zS a1 n c2) (cR m))) (bJ j (aI (v:=i64 (wr ((wr (b+1))+1))) ?_)))))))))))
   obtain ⟨a5,b8,hm⟩:=aC hm
   refine aV (vs:=[i64 (wr ((wr (b+1))+1))]) call62 rfl (lX b8 b7) ?_
   rintro _ d0 ⟨rfl,b9⟩
   obtain ⟨a6,a7,hm⟩:=aC hm
   refine aA (gQ qE rfl d rfl rfl rfl a7) (aA (lV (k':=c.toNat * 3+2) vF d rfl rfl) ?_);obtain ⟨c0,q,hm⟩:=aC hm
   exact mF (i:=0) (t:=2) (ns:=[str a5]) (e':=(⟨a6.Left,a6.Right,a5⟩:cB)) sizeOf9 b9 rfl (zR _) rfl rfl rfl a7 q rfl rfl (eM rfl) rfl (fun cs h=>by cases h;rfl) (fun c1 (c3:aO G K (bI 104 K a1 c2 c0::L) c1)=>(aG (aW (aI (v:=i64 (wr ((wr (b+1))+1))) (aA (cH rfl rfl) (aD (v:=i64 (wr ((wr ((wr (b+1))+1))+1))) (cG (bN (aB (aW (bJ j (aA (cH rfl rfl) (aD (v:=i64 (wr (c+1))) (aG ⟨_,(zI hm).symm,aU,(Eq.trans (Eq.trans (Eq.trans g (congrArg (fun n=>zS a1 n c2) (cR l))) (congrArg (fun n=>zS a1 n c2) (cR m))) (congrArg (fun n=>zS a1 n c2) (cR q))),rfl,rfl,(((a9.trans (cR l)).trans (cR m)).trans (cR q)),c3⟩))))))))))))))
  ·exact cA
theorem xK {a:(List bL)} {k:Int} {R:(Int × (List bL))} (hm:oQ a k=some R) (hs:aO G K (bI 9 K a1 c2 a::L) w):
  Calls prog 35 ([zS a1 a.length c2,i64 k]:List Value).toArray w (eX fun v w'=>v=i64 R.1/\a.length=R.2.length/\aO G K (bI 9 K a1 c2 R.2::L) w'):=by
 refine aT func35 rfl (by kernel_rfl) (by show (2:Nat)<=20;decide) ?_;unfold oQ at hm
 refine aL (aD (v:=i64 0) (aG (aP (aL (aD (v:=i64 0) (aG (bR [] (fun f w=>∃ o d,pW o d=some R/\f 1=i64 o/\a.length=d.length/\aO G K (bI 9 K a1 c2 d::L) w) cA ?_)))))));obtain ⟨a5,x,ho⟩:=aC hm
 refine mT [] x (fun b c e f w=>f 0=zS a1 b.length c2/\f 1=i64 c/\f 5=i64 e/\a.length=b.length/\aO G K (bI 9 K a1 c2 b::L) w) cA ?_
 ·rintro b c e a6 f a7 hm hr ⟨g,p,j,y,z⟩
  unfold uP at hm
  refine aP (aL (bJ j (bJ g (aA (bQ (len:=b.length) dQ rfl) (aA (cL rfl rfl) (aG ?_))))))
  rcases aH hm with ⟨q,hm⟩|⟨q,hm⟩
  ·refine aN q rfl (aX (aB (aP (bY (aL (bJ g (bJ j (bJ p ?_))))))));obtain ⟨r,J,hm⟩:=aC hm
   refine aV (vs:=[i64 c]) call62 rfl (lX J z) ?_
   rintro _ a8 ⟨rfl,u⟩
   obtain ⟨a9,l,hm⟩:=aC hm
   have V:=fD u (i:=0) rfl l
   refine aA (gQ dQ rfl V rfl rfl rfl l) ?_;obtain ⟨Z,m,hm⟩:=aC hm
   exact mF (i:=0) (t:=0) (ns:=[str r]) (e':=(r:bL)) sizeOf9 u rfl (zR _) rfl rfl rfl l m rfl rfl (eM rfl) rfl (fun cs h=>by cases h;rfl) (fun a0 (a2:aO G K (bI 9 K a1 c2 Z::L) a0)=>(aG (aW (bJ p (aA (cH rfl rfl) (aD (v:=i64 (wr (c+1))) (cG (bN (aB (aW (bJ j (aA (cH rfl rfl) (aD (v:=i64 (wr (e+1))) (aG ⟨_,(zI hm).symm,aU,(Eq.trans g (congrArg (fun n=>zS a1 n c2) (cR m))),rfl,rfl,(y.trans (cR m)),a2⟩))))))))))))))
  ·exact cA
theorem aJa {l:(List Definition)} {b:List (Dp.Hd Definition)} {d:(List bU)} {c:List (Dp.Hd bU)} {j:(List cB)} {g h:(List bL)} {k:Int} {R:(Int × (List Definition) × (List bU) × (List cB) × (List bL) × (List bL))} (hm:aAx l d j g h k=some R) (hs:aO G K (bI 100 K a1 c2 (bX b l)::rows [157,173,233] b l::bI 102 K a5 c6 (bX c d)::rows [2] c d::bI 104 K a9 c10 j::bI 9 K a11 c12 g::bI 9 K a13 c14 h::L) w) (a2:List.length b=List.length l) (a3:List.length c=List.length d):
  Calls prog 10 ([zA #[zS a1 l.length c2,zS a5 d.length c6,zS a9 j.length c10,zS a11 g.length c12,zS a13 h.length c14],i64 k]:List Value).toArray w (eX fun v w'=>v=i64 R.1/\l.length=R.2.1.length/\d.length=R.2.2.1.length/\j.length=R.2.2.2.1.length/\g.length=R.2.2.2.2.1.length/\h.length=R.2.2.2.2.2.length/\aO G K (bI 100 K a1 c2 (bX b R.2.1)::rows [157,173,233] b R.2.1::bI 102 K a5 c6 (bX c R.2.2.1)::rows [2] c R.2.2.1::bI 104 K a9 c10 R.2.2.2.1::bI 9 K a11 c12 R.2.2.2.2.1::bI 9 K a13 c14 R.2.2.2.2.2::L) w'):=by
 let t:=[zS a1 l.length c2,zS a5 d.length c6,zS a9 j.length c10,zS a11 g.length c12,zS a13 h.length c14]
 let m:=bI 9 K a11 c12 g
 let n:=bI 9 K a13 c14 h
 let q:=bI 104 K a9 c10 j
 let r:=bI 102 K a5 c6 (bX c d)
 refine aT func10 rfl (by kernel_rfl) (by show (2:Nat)<=26;decide) ?_;unfold aAx at hm
 refine aL (dR (v:=zA #[zS a1 l.length c2,zS a5 d.length c6,zS a9 j.length c10,zS a11 g.length c12,zS a13 h.length c14]) (vs:=t) hs rfl rfl (fun o a4 u=>(aD (v:=i64 0) (aG (aL (aA (bC (t':=0) yN rfl rfl) (aA (bP aGo u (i:=0) rfl rfl rfl) (aI (v:=i64 k) ?_))))))))
 have a6:aO G K (bI 100 K a1 c2 (bX b l)::rows [157,173,233] b l::box o 38 t::r::rows [2] c d::q::m::n::L) a4:=(aO.arr 3 [1,2,0] u rfl)
 obtain ⟨a,a7,hm⟩:=aC hm
 refine aV (vs:=[zS a1 l.length c2,i64 k]) call32 rfl (aFH a7 a6 a2) ?_
 rintro _ x ⟨rfl,a8,b0⟩
 have y:aO G K (bI 100 K a1 c2 (bX b a.2)::rows [157,173,233] b a.2::box o 38 [zS a1 a.2.length c2,zS a5 d.length c6,zS a9 j.length c10,zS a11 g.length c12,zS a13 h.length c14]::r::rows [2] c d::q::m::n::L) x:=by rw [←a8];exact b0
 refine aD (v:=i64 a.1) (aG (aL (aA (bC (t':=1) qJ rfl rfl) (aA (bP aDV y (i:=2) rfl rfl rfl) (aI (v:=i64 a.1) ?_)))))
 have b1:aO G K (r::rows [2] c d::bI 100 K a1 c2 (bX b a.2)::rows [157,173,233] b a.2::box o 38 [zS a1 a.2.length c2,zS a5 d.length c6,zS a9 j.length c10,zS a11 g.length c12,zS a13 h.length c14]::q::m::n::L) x:=(aO.arr 5 [3,4,0,1,2] y rfl)
 obtain ⟨e,b2,hm⟩:=aC hm
 refine aV (vs:=[zS a5 d.length c6,i64 a.1]) call33 rfl (aGb b2 b1 a3) ?_
 rintro _ z ⟨rfl,b3,b4⟩
 have J:aO G K (bI 102 K a5 c6 (bX c e.2)::rows [2] c e.2::bI 100 K a1 c2 (bX b a.2)::rows [157,173,233] b a.2::box o 38 [zS a1 a.2.length c2,zS a5 e.2.length c6,zS a9 j.length c10,zS a11 g.length c12,zS a13 h.length c14]::q::m::n::L) z:=by rw [←b3];exact b4
 refine aD (v:=i64 e.1) (aG (aL (aA (bC (t':=2) aGY rfl rfl) (aA (bP sc_36 J (i:=4) rfl rfl rfl) (aI (v:=i64 e.1) ?_)))))
 have b5:aO G K (q::bI 102 K a5 c6 (bX c e.2)::rows [2] c e.2::bI 100 K a1 c2 (bX b a.2)::rows [157,173,233] b a.2::box o 38 [zS a1 a.2.length c2,zS a5 e.2.length c6,zS a9 j.length c10,zS a11 g.length c12,zS a13 h.length c14]::m::n::L) z:=(aO.arr 6 [5,0,1,2,3,4] J rfl)
 obtain ⟨p,b6,hm⟩:=aC hm
 refine aV (vs:=[zS a9 j.length c10,i64 e.1]) call34 rfl (aHG b6 b5) ?_
 rintro _ V ⟨rfl,b7,b8⟩
 have Z:aO G K (bI 104 K a9 c10 p.2::bI 102 K a5 c6 (bX c e.2)::rows [2] c e.2::bI 100 K a1 c2 (bX b a.2)::rows [157,173,233] b a.2::box o 38 [zS a1 a.2.length c2,zS a5 e.2.length c6,zS a9 p.2.length c10,zS a11 g.length c12,zS a13 h.length c14]::m::n::L) V:=by rw [←b7];exact b8
 refine aD (v:=i64 p.1) (aG (aL (aA (bC (t':=3) aGZ rfl rfl) (aA (bP oR Z (i:=5) rfl rfl rfl) (aI (v:=i64 p.1) ?_)))))
 have b9:aO G K (m::bI 104 K a9 c10 p.2::bI 102 K a5 c6 (bX c e.2)::rows [2] c e.2::bI 100 K a1 c2 (bX b a.2)::rows [157,173,233] b a.2::box o 38 [zS a1 a.2.length c2,zS a5 e.2.length c6,zS a9 p.2.length c10,zS a11 g.length c12,zS a13 h.length c14]::n::L) V:=(aO.arr 7 [6,0,1,2,3,4,5] Z rfl)
 obtain ⟨c1,c0,hm⟩:=aC hm
 exact aV (vs:=[zS a11 g.length c12,i64 p.1]) call35 rfl (xK c0 b9) cA
theorem aJO {a:(List Edge)} {k:Int} {R:(Int × (List Edge))} (hm:aBP a k=some R) (hs:aO G K (bI 94 K a1 c2 a::L) w):
  Calls prog 36 ([zS a1 a.length c2,i64 k]:List Value).toArray w (eX fun v w'=>v=i64 R.1/\a.length=R.2.length/\aO G K (bI 94 K a1 c2 R.2::L) w'):=by
 refine aT func36 rfl (by kernel_rfl) (by show (2:Nat)<=34;decide) ?_;unfold aBP at hm
 refine aL (aD (v:=i64 0) (aG (aP (aL (aD (v:=i64 0) (aG (bR [] (fun f w=>∃ r o,tJ r o=some R/\f 1=i64 r/\a.length=o.length/\aO G K (bI 94 K a1 c2 o::L) w) cA ?_)))))));obtain ⟨b5,a5,ho⟩:=aC hm
 refine mT [] a5 (fun e b c f w=>f 0=zS a1 e.length c2/\f 1=i64 b/\f 5=i64 c/\a.length=e.length/\aO G K (bI 94 K a1 c2 e::L) w) cA ?_
 ·rintro e b c b6 f b7 hm hr ⟨g,u,j,a6,x⟩
  unfold aAy at hm
  refine aP (aL (bJ j (bJ g (aA (bQ (len:=e.length) iD rfl) (aA (cL rfl rfl) (aG ?_))))))
  rcases aH hm with ⟨y,hm⟩|⟨y,hm⟩
  ·refine aN y rfl (aX (aB (aP (bY (aL (bJ g (bJ j (bJ u ?_))))))));obtain ⟨z,p,hm⟩:=aC hm
   have d:=fD x (i:=0) rfl p
   refine aA (gQ iD rfl d rfl rfl rfl p) (aA (lV (k':=c.toNat * 3+0) wL d rfl rfl) ?_);obtain ⟨J,l,hm⟩:=aC hm
   refine mF (i:=0) (t:=0) (ns:=[i64 b]) (e':=(⟨b,z.B,z.To⟩:Edge)) sizeOf2 x rfl (zR _) rfl rfl rfl p l rfl rfl (eM rfl) rfl (fun cs h=>by cases h;rfl) (fun a7 (a8:aO G K (bI 94 K a1 c2 J::L) a7)=>(aG (aL (bJ u (aA (cH rfl rfl) (aD (v:=i64 (wr (b+1))) (aG (aL (bJ (v:=zS a1 J.length c2) (Eq.trans g (congrArg (fun n=>zS a1 n c2) (cR l))) (bJ j (aI (v:=i64 (wr (b+1))) ?_)))))))))));obtain ⟨V,Z,hm⟩:=aC hm
   refine aA (gQ iD rfl d rfl rfl rfl Z) (aA (lV (k':=c.toNat * 3+1) rW d rfl rfl) ?_);obtain ⟨a0,m,hm⟩:=aC hm
   refine mF (i:=0) (t:=1) (ns:=[i64 (wr (b+1))]) (e':=(⟨V.F,wr (b+1),V.To⟩:Edge)) sizeOf2 a8 rfl (zR _) rfl rfl rfl Z m rfl rfl (eM rfl) rfl (fun cs h=>by cases h;rfl) (fun a9 (b0:aO G K (bI 94 K a1 c2 a0::L) a9)=>(aG (aL (aI (v:=i64 (wr (b+1))) (aA (cH rfl rfl) (aD (v:=i64 (wr ((wr (b+1))+1))) (aG (aL (bJ (v:=zS a1 a0.length c2) (Eq.trans (Eq.trans g (congrArg (fun n=>zS a1 n c2) (cR l))) (congrArg (fun n=>zS a1 n c2) (cR m))) (bJ j (aI (v:=i64 (wr ((wr (b+1))+1))) ?_)))))))))))
   obtain ⟨a2,a3,hm⟩:=aC hm
   refine aA (gQ iD rfl d rfl rfl rfl a3) (aA (lV (k':=c.toNat * 3+2) aBa d rfl rfl) ?_);obtain ⟨b1,q,hm⟩:=aC hm
   exact mF (i:=0) (t:=2) (ns:=[i64 (wr ((wr (b+1))+1))]) (e':=(⟨a2.F,a2.B,wr ((wr (b+1))+1)⟩:Edge)) sizeOf2 b0 rfl (zR _) rfl rfl rfl a3 q rfl rfl (eM rfl) rfl (fun cs h=>by cases h;rfl) (fun b2 (b3:aO G K (bI 94 K a1 c2 b1::L) b2)=>(aG (aW (aI (v:=i64 (wr ((wr (b+1))+1))) (aA (cH rfl rfl) (aD (v:=i64 (wr ((wr ((wr (b+1))+1))+1))) (cG (bN (aB (aW (bJ j (aA (cH rfl rfl) (aD (v:=i64 (wr (c+1))) (aG ⟨_,(zI hm).symm,aU,(Eq.trans (Eq.trans (Eq.trans g (congrArg (fun n=>zS a1 n c2) (cR l))) (congrArg (fun n=>zS a1 n c2) (cR m))) (congrArg (fun n=>zS a1 n c2) (cR q))),rfl,rfl,(((a6.trans (cR l)).trans (cR m)).trans (cR q)),b3⟩))))))))))))))
  ·exact cA
theorem aLY {c d:Int} {a:(List bL)} {b:(List Edge)} {k:Int} {R:(Int × (List bL) × (List Edge))} (hm:aCQ c d a b k=some R) (e:aO G K (bI 9 K a1 c2 a::bI 94 K a3 c4 b::L) w):
  Calls prog 11 ([zA #[i64 c,i64 d,zS a1 a.length c2,zS a3 b.length c4],i64 k]:List Value).toArray w (eX fun v w'=>v=i64 R.1/\a.length=R.2.1.length/\b.length=R.2.2.length/\aO G K (bI 9 K a1 c2 R.2.1::bI 94 K a3 c4 R.2.2::L) w'):=by
 exact cA
theorem aIl {a:(List bL)} {k R:Int} (hm:wI a k=some R) (g:aO G K (L) w) (h:cI K a1 c2 a):
  Calls prog 37 ([zS a1 a.length c2,i64 k]:List Value).toArray w (eX fun v w'=>v=i64 R/\aO G K (L) w'):=by
 refine aT func37 rfl (by kernel_rfl) (by show (2:Nat)<=22;decide) ?_;unfold wI at hm
 refine aL (aD (v:=i64 0) (aG (aP (aL (aD (v:=i64 0) (aG (bR [] (fun f w=>∃ b,uQ b=some R/\f 1=i64 b/\aO G K (L) w) cA ?_)))))));obtain ⟨i,c,ho⟩:=aC hm
 exact eG [0] c (fun d e f w=>f 1=i64 d/\f 5=i64 e/\aO G K (L) w) cA cA
theorem aJP {a:(List Edge)} {k R:Int} (hm:aBQ a k=some R) (g:aO G K (L) w) (h:cI K a1 c2 a):
  Calls prog 38 ([zS a1 a.length c2,i64 k]:List Value).toArray w (eX fun v w'=>v=i64 R/\aO G K (L) w'):=by
 refine aT func38 rfl (by kernel_rfl) (by show (2:Nat)<=40;decide) ?_;unfold aBQ at hm
 refine aL (aD (v:=i64 0) (aG (aP (aL (aD (v:=i64 0) (aG (bR [] (fun f w=>∃ b,aAz b=some R/\f 1=i64 b/\aO G K (L) w) cA ?_)))))));obtain ⟨i,c,ho⟩:=aC hm
 exact eG [0] c (fun d e f w=>f 1=i64 d/\f 5=i64 e/\aO G K (L) w) cA cA
theorem aGQ {a:iW} {k R:Int} (hm:aCR a k=some R) (b:aO G K (L) w) (c:cI K a1 c2 a.L) (d:cI K a4 c5 a.E):
  Calls prog 12 ([zA (zCa a a1 c2 a4 c5),i64 k]:List Value).toArray w (eX fun v w'=>v=i64 R/\aO G K (L) w'):=by
 exact cA
theorem aDD {e:cW} {aK:Int} {R:Bool} (hm:nJ e aK=some R) (hs:aO G K (L) w) (hG:G.lo=0) (h3:cI K a1 c2 e.Definitions) (h6:cI K a4 c5 e.Components) (h9:cI K a7 c8 e.Meetings) (e5:cI K a10 c11 e.Allowed) (e6:cI K a13 c14 e.Hidden):
  Calls prog 3 ([zA #[zS a1 e.Definitions.length c2,zS a4 e.Components.length c5,zS a7 e.Meetings.length c8,zS a10 e.Allowed.length c11,zS a13 e.Hidden.length c14],i64 aK]:List Value).toArray w (eX fun v w'=>v=zB R/\aO G K (L) w'):=by
 let a8:=[zS a1 e.Definitions.length c2,zS a4 e.Components.length c5,zS a7 e.Meetings.length c8,zS a10 e.Allowed.length c11,zS a13 e.Hidden.length c14]
 let e9:=[zA #[zS a1 e.Definitions.length c2,zS a4 e.Components.length c5,zS a7 e.Meetings.length c8,zS a10 e.Allowed.length c11,zS a13 e.Hidden.length c14]]
 let h7:=zG
 refine aT func3 rfl (by kernel_rfl) (by show (2:Nat)<=101;decide) ?_;unfold nJ at hm
 refine aL (dR (v:=zA #[zS a1 e.Definitions.length c2,zS a4 e.Components.length c5,zS a7 e.Meetings.length c8,zS a10 e.Allowed.length c11,zS a13 e.Hidden.length c14]) (vs:=a8) hs rfl rfl (fun b5 w17 l2=>(aD (v:=zB false) (aG (aL (aD (v:=i64 1048576) (aG (aL (aA (eQ (us:=a8) aQx l2 (i:=0) rfl rfl rfl rfl) (aI (v:=i64 1048576) ?_))))))))));obtain ⟨l3,o8,hm⟩:=aC hm
 refine aV (vs:=[zA #[zS a1 e.Definitions.length c2,zS a4 e.Components.length c5,zS a7 e.Meetings.length c8,zS a10 e.Allowed.length c11,zS a13 e.Hidden.length c14],i64 1048576]) call4 rfl (aKD o8 l2 h3 h6 h9 e5 e6) ?_
 rintro _ w21 ⟨rfl,l4⟩
 refine aD (v:=i64 l3) (aG (aP (aL (aI (v:=i64 l3) (aA (cL rfl rfl) (aG ?_))))))
 rcases aH hm with ⟨l5,hm⟩|⟨l5,hm⟩
 ·exact cA
 ·refine aJ l5 rfl (aX (aB (aL (aA (eQ (us:=a8) aQx l4 (i:=0) rfl rfl rfl rfl) ?_))));obtain ⟨r,o9,hm⟩:=aC hm
  refine aV (vs:=e9) call6 rfl (xB o9 l4 h3 h6 h9 e5 e6) ?_
  rintro _ w41 ⟨f0,f1,d9,f2,f3,e0,f4,f5,f6,f7,f8,f9,rfl,p0,p1,p2⟩
  refine aI (v:=i64 aK) ?_;obtain ⟨K43,h8,p3,b27,p4,p5⟩:=aO.lendD' (i:=0) p2 p0 rfl rfl
  obtain ⟨K49,g0,p6,b29,p7,p8⟩:=aO.lendD' (i:=0) p4 p1 rfl rfl
  obtain ⟨K55,g1,p9,q0,q1⟩:=aO.lendSp p7 (zL h8 g0) .head
  obtain ⟨K60,g2,q2,q3,q4⟩:=aO.lendSp q0 (zL (zL h8 g0) g1) .head
  obtain ⟨K65,g3,q5,q6,q7⟩:=aO.lendSp q3 (zL (zL (zL h8 g0) g1) g2) .head
  obtain ⟨b,q8,hm⟩:=aC hm
  refine aV (vs:=[zA #[zS f0 r.Definitions.length f1,zS f2 r.Components.length f3,zS f4 r.Meetings.length f5,zS f6 r.Allowed.length f7,zS f8 r.Hidden.length f9],i64 aK]) call5 rfl (aHw q8 q6 (p3.mono (zL (zL (zL g0 g1) g2) g3)) (p6.mono (zL (zL g1 g2) g3)) (p9.mono (zL g2 g3)) (q2.mono g3) q5) ?_
  rintro _ w76 ⟨j,k,l,m,rfl,q9⟩
  have r0:=q7 _ _ q9
  have r1:=q4 _ _ r0
  have r2:=q1 _ _ r1
  have r3:=p8 _ _ r2
  have r4:=p5 _ _ r3
  refine aI (v:=Value.tuple #[zA (zCa b.1 j k l m),i64 b.2]) (aA (dJ rfl rfl) (aA (dJ rfl rfl) (dA (vs:=h7) zeroValue31 r4 rfl (fun b6 w84 r5=>(cT (i:=0) (ns:=(zC b.1 j k l m)) (us:=(zC b.1 j k l m)) sizeOf31 r5 rfl rfl rfl rfl rfl (eM rfl) rfl rfl (fun r6 (l6:aO G K (box b6 31 (zC b.1 j k l m)::bI 100 K f0 f1 (bX d9 r.Definitions)::rows [157,173,233] d9 r.Definitions::bI 102 K f2 f3 (bX e0 r.Components)::rows [2] e0 r.Components::bI 104 K f4 f5 r.Meetings::bI 9 K f6 f7 r.Allowed::bI 9 K f8 f9 r.Hidden::bI 9 K j k b.1.L::bI 94 K l m b.1.E::box b5 27 a8::L) r6)=>(aD (v:=i64 b.2) (aG (aL (aA (eQ (us:=a8) aQx l6 (i:=10) rfl rfl rfl rfl) ?_))))))))))
  obtain ⟨d,r7,hm⟩:=aC hm
  refine aV (vs:=e9) call6 rfl (xB r7 l6 h3 h6 h9 e5 e6) ?_
  rintro _ b35 ⟨y,z,b7,J,V,b8,Z,a0,a2,a3,a5,a6,rfl,i0,i1,r8⟩
  refine dA (vs:=[zS none 0 0,zS none 0 0,zS none 0 0,zS none 0 0,zS none 0 0]) zeroValue38 r8 rfl (fun e7 b36 r9=>(cT (i:=0) (ns:=[zS y d.Definitions.length z,zS J d.Components.length V,zS Z d.Meetings.length a0,zS a2 d.Allowed.length a3,zS a5 d.Hidden.length a6]) (us:=[zS y d.Definitions.length z,zS J d.Components.length V,zS Z d.Meetings.length a0,zS a2 d.Allowed.length a3,zS a5 d.Hidden.length a6]) sizeOf38 r9 rfl rfl rfl rfl rfl (eM rfl) rfl rfl (fun s0 (l7:aO G K (box e7 38 [zS y d.Definitions.length z,zS J d.Components.length V,zS Z d.Meetings.length a0,zS a2 d.Allowed.length a3,zS a5 d.Hidden.length a6]::bI 100 K y z (bX b7 d.Definitions)::rows [157,173,233] b7 d.Definitions::bI 102 K J V (bX b8 d.Components)::rows [2] b8 d.Components::bI 104 K Z a0 d.Meetings::bI 9 K a2 a3 d.Allowed::bI 9 K a5 a6 d.Hidden::box b6 31 (zC b.1 j k l m)::bI 100 K f0 f1 (bX d9 r.Definitions)::rows [157,173,233] d9 r.Definitions::bI 102 K f2 f3 (bX e0 r.Components)::rows [2] e0 r.Components::bI 104 K f4 f5 r.Meetings::bI 9 K f6 f7 r.Allowed::bI 9 K f8 f9 r.Hidden::bI 9 K j k b.1.L::bI 94 K l m b.1.E::box b5 27 a8::L) s0)=>(aG (aL (aA (eQ (us:=[zS y d.Definitions.length z,zS J d.Components.length V,zS Z d.Meetings.length a0,zS a2 d.Allowed.length a3,zS a5 d.Hidden.length a6]) aIG l7 (i:=0) rfl rfl rfl rfl) (aI (v:=i64 aK) ?_)))))))
  obtain ⟨b37,i2,s1,b38,s2,s3⟩:=aO.lendD' (i:=1) l7 i0 rfl rfl
  obtain ⟨b39,g4,s4,b40,s5,s6⟩:=aO.lendD' (i:=1) s2 i1 rfl rfl
  obtain ⟨b41,g5,s7,s8,s9⟩:=aO.lendSp s5 (zL i2 g4) zt1
  obtain ⟨b42,g6,t0,t1,t2⟩:=aO.lendSp s8 (zL (zL i2 g4) g5) zt1
  obtain ⟨b43,g7,t3,t4,t5⟩:=aO.lendSp t1 (zL (zL (zL i2 g4) g5) g6) zt1
  obtain ⟨c,t6,hm⟩:=aC hm
  refine aV (vs:=[zA #[zS y d.Definitions.length z,zS J d.Components.length V,zS Z d.Meetings.length a0,zS a2 d.Allowed.length a3,zS a5 d.Hidden.length a6],i64 aK]) call7 rfl (aCh t6 t4 hG (s1.mono (zL (zL (zL g4 g5) g6) g7)) (s4.mono (zL (zL g5 g6) g7)) (s7.mono (zL g6 g7)) (t0.mono g7) t3) ?_
  rintro _ b44 ⟨n,o,p,q,rfl,t7⟩
  have t8:=t5 _ _ t7
  have t9:=t2 _ _ t8
  have u0:=s9 _ _ t9
  have u1:=s6 _ _ u0
  have u2:=s3 _ _ u1
  refine aI (v:=Value.tuple #[zA (zCa c.1 n o p q),i64 c.2]) (aA (dJ rfl rfl) (aA (dJ rfl rfl) (dA (vs:=h7) zeroValue31 u2 rfl (fun b9 b45 u3=>(cT (i:=0) (ns:=(zC c.1 n o p q)) (us:=(zC c.1 n o p q)) sizeOf31 u3 rfl rfl rfl rfl rfl (eM rfl) rfl rfl (fun u4 (i3:aO G K (box b9 31 (zC c.1 n o p q)::bI 100 K y z (bX b7 d.Definitions)::rows [157,173,233] b7 d.Definitions::bI 102 K J V (bX b8 d.Components)::rows [2] b8 d.Components::bI 104 K Z a0 d.Meetings::bI 9 K a2 a3 d.Allowed::bI 9 K a5 a6 d.Hidden::bI 9 K n o c.1.L::bI 94 K p q c.1.E::box e7 38 [zS y d.Definitions.length z,zS J d.Components.length V,zS Z d.Meetings.length a0,zS a2 d.Allowed.length a3,zS a5 d.Hidden.length a6]::box b6 31 (zC b.1 j k l m)::bI 100 K f0 f1 (bX d9 r.Definitions)::rows [157,173,233] d9 r.Definitions::bI 102 K f2 f3 (bX e0 r.Components)::rows [2] e0 r.Components::bI 104 K f4 f5 r.Meetings::bI 9 K f6 f7 r.Allowed::bI 9 K f8 f9 r.Hidden::bI 9 K j k b.1.L::bI 94 K l m b.1.E::box b5 27 a8::L) u4)=>(aD (v:=i64 c.2) (aG (aP (aP (cO [1,2,6,7,8,9,10] (fun f w=>∃ i4,jF e aK b d c i4=some R/\f 44=zB i4/\aO G K (box b9 31 (zC c.1 n o p q)::bI 100 K y z (bX b7 d.Definitions)::rows [157,173,233] b7 d.Definitions::bI 102 K J V (bX b8 d.Components)::rows [2] b8 d.Components::bI 104 K Z a0 d.Meetings::bI 9 K a2 a3 d.Allowed::bI 9 K a5 a6 d.Hidden::bI 9 K n o c.1.L::bI 94 K p q c.1.E::box e7 38 [zS y d.Definitions.length z,zS J d.Components.length V,zS Z d.Meetings.length a0,zS a2 d.Allowed.length a3,zS a5 d.Hidden.length a6]::box b6 31 (zC b.1 j k l m)::bI 9 K j k b.1.L::bI 94 K l m b.1.E::box b5 27 a8::L) w) ?_ ?_)))))))))))
  ·rintro f b46 ⟨i4,hm,u5,u6⟩
   unfold jF at hm
   refine aB ?_
   rcases aH hm with ⟨l8,hm⟩|⟨l8,hm⟩
   ·exact cA
   ·refine aJ l8 u5 (aX (aB (aP (aP ?_))));obtain ⟨b47,b2,u7,u8,u9⟩:=aO.lendBp u6 zt10
    obtain ⟨v0,b0,v1,l9,v2⟩:=aO.lendBp u8 (.tail zt12)
    refine jN (C:=fun w'=>∃ L',aO G v0 L' w') [(0,0),(1,0),(2,1),(3,1),(4,0)] cC (by kernel_rfl) (fun _ hg=>⟨_,aO.mono l9 hg⟩) (fun b48 v3=>?_)
    have e8:=aO.mono l9 v3
    refine dZ rfl (fun _ ⟨_,e8⟩=>eP (t:=0) (vs:=[zS y d.Definitions.length z,zS J d.Components.length V,zS Z d.Meetings.length a0,zS a2 d.Allowed.length a3,zS a5 d.Hidden.length a6]) aIG e8 (u7.mono b0) rfl rfl rfl) (dZ rfl (fun _ ⟨_,e8⟩=>eP (t:=0) (vs:=a8) aQx e8 v1 rfl rfl rfl) (qW rfl ?_));obtain ⟨x,v4,hm⟩:=aC hm
    refine aV (vs:=e9) call6 rfl (xB v4 e8 (h3.mono (zL b2 b0)) (h6.mono (zL b2 b0)) (h9.mono (zL b2 b0)) (e5.mono (zL b2 b0)) (e6.mono (zL b2 b0))) ?_
    rintro _ b49 ⟨i5,i6,g8,i7,i8,g9,i9,j0,j1,j2,j3,j4,rfl,v5,v6,m0⟩
    refine cG (aB ⟨⟨_,m0⟩,?_⟩)
    refine qW rfl ?_;obtain ⟨b50,e1,v7,b51,v8,v9⟩:=aO.lendD' (i:=8) m0 i0 rfl rfl
    obtain ⟨b52,d1,w0,b53,w1,w2⟩:=aO.lendD' (i:=8) v8 i1 rfl rfl
    obtain ⟨b54,d2,w3,w4,w5⟩:=aO.lendSp w1 (zL (zL (zL b2 b0) e1) d1) zt8
    obtain ⟨b55,d3,w6,w7,w8⟩:=aO.lendSp w4 (zL (zL (zL (zL b2 b0) e1) d1) d2) zt8
    obtain ⟨b56,d4,w9,x0,x1⟩:=aO.lendSp w7 (zL (zL (zL (zL (zL b2 b0) e1) d1) d2) d3) zt8
    obtain ⟨b57,d0,x2,b58,x3,x4⟩:=aO.lendD' (i:=0) x0 v5 rfl rfl
    obtain ⟨b59,c0,x5,b60,x6,x7⟩:=aO.lendD' (i:=0) x3 v6 rfl rfl
    obtain ⟨b61,c1,x8,x9,y0⟩:=aO.lendSp x6 (zL (zL (zL (zL (zL (zL (zL (zL b2 b0) e1) d1) d2) d3) d4) d0) c0) .head
    obtain ⟨b62,c3,y1,y2,y3⟩:=aO.lendSp x9 (zL (zL (zL (zL (zL (zL (zL (zL (zL b2 b0) e1) d1) d2) d3) d4) d0) c0) c1) .head
    obtain ⟨b63,c4,y4,y5,y6⟩:=aO.lendSp y2 (zL (zL (zL (zL (zL (zL (zL (zL (zL (zL b2 b0) e1) d1) d2) d3) d4) d0) c0) c1) c3) .head
    obtain ⟨b64,y7,hm⟩:=aC hm
    refine aV (vs:=[zA #[zS y d.Definitions.length z,zS J d.Components.length V,zS Z d.Meetings.length a0,zS a2 d.Allowed.length a3,zS a5 d.Hidden.length a6],zA #[zS i5 x.Definitions.length i6,zS i7 x.Components.length i8,zS i9 x.Meetings.length j0,zS j1 x.Allowed.length j2,zS j3 x.Hidden.length j4]]) call9 rfl (aKS y7 y5 (v7.mono (zL (zL (zL (zL (zL (zL (zL (zL d1 d2) d3) d4) d0) c0) c1) c3) c4)) (w0.mono (zL (zL (zL (zL (zL (zL (zL d2 d3) d4) d0) c0) c1) c3) c4)) (w3.mono (zL (zL (zL (zL (zL (zL d3 d4) d0) c0) c1) c3) c4)) (w6.mono (zL (zL (zL (zL (zL d4 d0) c0) c1) c3) c4)) (w9.mono (zL (zL (zL (zL d0 c0) c1) c3) c4)) (x2.mono (zL (zL (zL c0 c1) c3) c4)) (x5.mono (zL (zL c1 c3) c4)) (x8.mono (zL c3 c4)) (y1.mono c4) y4) ?_
    rintro _ y8 ⟨rfl,y9⟩
    have z0:=y6 _ _ y9
    have z1:=y3 _ _ z0
    have z2:=y0 _ _ z1
    have z3:=x7 _ _ z2
    have z4:=x4 _ _ z3
    have z5:=x1 _ _ z4
    have z6:=w8 _ _ z5
    have z7:=w5 _ _ z6
    have z8:=w2 _ _ z7
    have m1:=v9 _ _ z8
    refine cG (aB ⟨⟨_,m1⟩,?_⟩)
    refine dZ rfl (fun _ _=>dB rfl) (sK ?_)
    have z9:=v2 _ _ m1
    have m2:=u9 _ _ z9
    refine aB ?_
    rcases aH hm with ⟨m3,hm⟩|⟨m3,hm⟩
    ·exact cA
    ·refine aJ m3 rfl (aX (aB (aL (aD (v:=i64 1) (aG (aL (aA (eQ (us:=[zS y d.Definitions.length z,zS J d.Components.length V,zS Z d.Meetings.length a0,zS a2 d.Allowed.length a3,zS a5 d.Hidden.length a6]) aIG m2 (i:=0) rfl rfl rfl rfl) (aI (v:=i64 1) ?_))))))))
     have a00:aO G K (bI 100 K y z (bX b7 d.Definitions)::rows [157,173,233] b7 d.Definitions::bI 102 K J V (bX b8 d.Components)::rows [2] b8 d.Components::bI 104 K Z a0 d.Meetings::bI 9 K a2 a3 d.Allowed::bI 9 K a5 a6 d.Hidden::box e7 38 [zS y d.Definitions.length z,zS J d.Components.length V,zS Z d.Meetings.length a0,zS a2 d.Allowed.length a3,zS a5 d.Hidden.length a6]::box b5 27 a8::bI 100 K i5 i6 (bX g8 x.Definitions)::rows [157,173,233] g8 x.Definitions::bI 102 K i7 i8 (bX g9 x.Components)::rows [2] g9 x.Components::bI 104 K i9 j0 x.Meetings::bI 9 K j1 j2 x.Allowed::bI 9 K j3 j4 x.Hidden::box b9 31 (zC c.1 n o p q)::bI 9 K n o c.1.L::bI 94 K p q c.1.E::box b6 31 (zC b.1 j k l m)::bI 9 K j k b.1.L::bI 94 K l m b.1.E::L) y8:=(aO.arr 9 [2,3,4,5,6,7,8,0,1] m2 rfl)
     obtain ⟨a9,a01,hm⟩:=aC hm
     refine aV (vs:=[zA #[zS y d.Definitions.length z,zS J d.Components.length V,zS Z d.Meetings.length a0,zS a2 d.Allowed.length a3,zS a5 d.Hidden.length a6],i64 1]) call10 rfl (aJa a01 a00 i0 i1) ?_
     rintro _ a02 ⟨rfl,a03,a04,a05,a06,a07,a08⟩
     have h0:aO G K (bI 100 K y z (bX b7 a9.2.1)::rows [157,173,233] b7 a9.2.1::bI 102 K J V (bX b8 a9.2.2.1)::rows [2] b8 a9.2.2.1::bI 104 K Z a0 a9.2.2.2.1::bI 9 K a2 a3 a9.2.2.2.2.1::bI 9 K a5 a6 a9.2.2.2.2.2::box e7 38 [zS y a9.2.1.length z,zS J a9.2.2.1.length V,zS Z a9.2.2.2.1.length a0,zS a2 a9.2.2.2.2.1.length a3,zS a5 a9.2.2.2.2.2.length a6]::box b5 27 a8::bI 100 K i5 i6 (bX g8 x.Definitions)::rows [157,173,233] g8 x.Definitions::bI 102 K i7 i8 (bX g9 x.Components)::rows [2] g9 x.Components::bI 104 K i9 j0 x.Meetings::bI 9 K j1 j2 x.Allowed::bI 9 K j3 j4 x.Hidden::box b9 31 (zC c.1 n o p q)::bI 9 K n o c.1.L::bI 94 K p q c.1.E::box b6 31 (zC b.1 j k l m)::bI 9 K j k b.1.L::bI 94 K l m b.1.E::L) a02:=by rw [←a03,←a04,←a05,←a06,←a07];exact a08
     refine aD (v:=i64 a9.1) (aG (aP (aP (cO [1,2,6,7,9] (fun f w=>∃ j5,iH e aK b c j5=some R/\f 65=zB j5/\aO G K (box b5 27 a8::box b9 31 (zC c.1 n o p q)::bI 9 K n o c.1.L::bI 94 K p q c.1.E::box b6 31 (zC b.1 j k l m)::bI 9 K j k b.1.L::bI 94 K l m b.1.E::L) w) ?_ ?_))))
     ·rintro f a09 ⟨j5,hm,a11,m4⟩
      unfold iH at hm
      refine aB ?_
      rcases aH hm with ⟨m5,hm⟩|⟨m5,hm⟩
      ·exact cA
      ·refine aJ m5 a11 (aX (aB (aL (aD (v:=i64 1) (aG (aL (aA (eQ (us:=(zC c.1 n o p q)) kZ m4 (i:=1) rfl rfl rfl rfl) (aI (v:=i64 1) ?_))))))))
       have a12:aO G K (bI 9 K n o c.1.L::bI 94 K p q c.1.E::box b5 27 a8::box b9 31 (zC c.1 n o p q)::box b6 31 (zC b.1 j k l m)::bI 9 K j k b.1.L::bI 94 K l m b.1.E::L) a09:=(aO.arr 4 [2,3,0,1] m4 rfl)
       obtain ⟨u,a14,hm⟩:=aC hm
       refine aV (vs:=[zA (zCa c.1 n o p q),i64 1]) call11 rfl (aLY a14 a12) ?_
       rintro _ a15 ⟨rfl,a16,a17,a18⟩
       have m6:aO G K (bI 9 K n o u.2.1::bI 94 K p q u.2.2::box b5 27 a8::box b9 31 [i64 c.1.N,i64 c.1.I,zS n u.2.1.length o,zS p u.2.2.length q]::box b6 31 (zC b.1 j k l m)::bI 9 K j k b.1.L::bI 94 K l m b.1.E::L) a15:=by rw [←a16,←a17];exact a18
       refine aD (v:=i64 u.1) (aG (aL (aD (v:=i64 1) (aG (aL (aA (eQ (us:=[i64 c.1.N,i64 c.1.I,zS n u.2.1.length o,zS p u.2.2.length q]) kZ m6 (i:=3) rfl rfl rfl rfl) (aI (v:=i64 1) ?_)))))));obtain ⟨b65,a19,a20,a21,a22⟩:=aO.lendSp m6 (zR _) .head
       obtain ⟨b66,a23,a24,a25,a26⟩:=aO.lendSp a21 a19 .head
       obtain ⟨j6,a28,hm⟩:=aC hm
       refine aV (vs:=[zA #[i64 c.1.N,i64 c.1.I,zS n u.2.1.length o,zS p u.2.2.length q],i64 1]) call12 rfl (aGQ (a:=⟨c.1.N,c.1.I,u.2.1,u.2.2⟩) a28 a25 (a20.mono a23) a24) ?_
       rintro _ b67 ⟨rfl,a29⟩
       have a30:=a26 _ _ a29
       have m7:=a22 _ _ a30
       refine aD (v:=i64 j6) (aG (aP (aL (aI (v:=i64 j6) (aA (cL rfl rfl) (aG ?_))))))
       rcases aH hm with ⟨m8,hm⟩|⟨m8,hm⟩
       ·exact cA
       ·refine aJ m8 rfl (aX (aB (aP (aL (aI (v:=i64 j6) (aI (v:=i64 u.1) (aA (gO rfl rfl) (aG ?_))))))))
        rcases aH hm with ⟨m9,hm⟩|⟨m9,hm⟩
        ·exact cA
        ·refine aJ m9 rfl (aX (aB (aL (aA (eQ (us:=a8) aQx m7 (i:=2) rfl rfl rfl rfl) ?_))));obtain ⟨b1,a32,hm⟩:=aC hm
         refine aV (vs:=e9) call6 rfl (xB a32 m7 h3 h6 h9 e5 e6) ?_
         rintro _ b68 ⟨n0,n1,n2,n3,n4,n5,n6,n7,n8,n9,o0,o1,rfl,a33,a34,a36⟩
         refine aI (v:=i64 aK) ?_;obtain ⟨b69,j7,a38,b70,a40,a41⟩:=aO.lendD' (i:=0) a36 a33 rfl rfl
         obtain ⟨b71,h1,a42,b72,a43,a44⟩:=aO.lendD' (i:=0) a40 a34 rfl rfl
         obtain ⟨b73,h2,a45,a46,a47⟩:=aO.lendSp a43 (zL j7 h1) .head
         obtain ⟨b74,h4,a48,a49,a50⟩:=aO.lendSp a46 (zL (zL j7 h1) h2) .head
         obtain ⟨b75,h5,a51,a52,a53⟩:=aO.lendSp a49 (zL (zL (zL j7 h1) h2) h4) .head
         obtain ⟨h,a54,hm⟩:=aC hm
         refine aV (vs:=[zA #[zS n0 b1.Definitions.length n1,zS n3 b1.Components.length n4,zS n6 b1.Meetings.length n7,zS n8 b1.Allowed.length n9,zS o0 b1.Hidden.length o1],i64 aK]) call7 rfl (aCh a54 a52 hG (a38.mono (zL (zL (zL h1 h2) h4) h5)) (a42.mono (zL (zL h2 h4) h5)) (a45.mono (zL h4 h5)) (a48.mono h5) a51) ?_
         rintro _ b76 ⟨d5,d6,d7,d8,rfl,a55⟩
         have a56:=a53 _ _ a55
         have a57:=a50 _ _ a56
         have a58:=a47 _ _ a57
         have a59:=a44 _ _ a58
         have a60:=a41 _ _ a59
         refine aI (v:=Value.tuple #[zA (zCa h.1 d5 d6 d7 d8),i64 h.2]) (aA (dJ rfl rfl) (aA (dJ rfl rfl) (dA (vs:=h7) zeroValue31 a60 rfl (fun a61 b77 a62=>(cT (i:=0) (ns:=(zC h.1 d5 d6 d7 d8)) (us:=(zC h.1 d5 d6 d7 d8)) sizeOf31 a62 rfl rfl rfl rfl rfl (eM rfl) rfl rfl (fun a63 (j8:aO G K (box a61 31 (zC h.1 d5 d6 d7 d8)::bI 100 K n0 n1 (bX n2 b1.Definitions)::rows [157,173,233] n2 b1.Definitions::bI 102 K n3 n4 (bX n5 b1.Components)::rows [2] n5 b1.Components::bI 104 K n6 n7 b1.Meetings::bI 9 K n8 n9 b1.Allowed::bI 9 K o0 o1 b1.Hidden::bI 9 K d5 d6 h.1.L::bI 94 K d7 d8 h.1.E::bI 9 K n o u.2.1::bI 94 K p q u.2.2::box b5 27 a8::box b9 31 [i64 c.1.N,i64 c.1.I,zS n u.2.1.length o,zS p u.2.2.length q]::box b6 31 (zC b.1 j k l m)::bI 9 K j k b.1.L::bI 94 K l m b.1.E::L) a63)=>(aD (v:=i64 h.2) (aG (aP (aP (cO [9,12] (fun f w=>∃ o2,jE c u o2=some R/\f 92=zB o2/\aO G K (bI 9 K n o u.2.1::bI 94 K p q u.2.2::box b9 31 [i64 c.1.N,i64 c.1.I,zS n u.2.1.length o,zS p u.2.2.length q]::L) w) cA (aW (aA (eQ (us:=(zC h.1 d5 d6 d7 d8)) kZ j8 (i:=0) rfl rfl rfl rfl) (aA (eQ (us:=(zC b.1 j k l m)) kZ j8 (i:=14) rfl rfl rfl rfl) ?_))))))))))))))
         obtain ⟨b78,j9,a64,a65,a66⟩:=aO.lendSp j8 (zR _) zt8
         obtain ⟨b79,k0,a67,a68,a69⟩:=aO.lendSp a65 j9 zt8
         obtain ⟨b80,k1,a70,a71,a73⟩:=aO.lendSp a68 (zL j9 k0) (.tail zt12)
         obtain ⟨b81,k2,a75,a76,a77⟩:=aO.lendSp a71 (zL (zL j9 k0) k1) (.tail zt12)
         obtain ⟨a78,a79,hm⟩:=aC hm
         refine aV (vs:=[zA (zCa h.1 d5 d6 d7 d8),zA (zCa b.1 j k l m)]) call8 rfl (aFG a79 a76 (a64.mono (zL (zL k0 k1) k2)) (a67.mono (zL k1 k2)) (a70.mono k2) a75) ?_
         rintro _ b82 ⟨rfl,a80⟩
         have a81:=a77 _ _ a80
         have a82:=a73 _ _ a81
         have a83:=a69 _ _ a82
         have o3:=a66 _ _ a83
         refine aA (dB rfl) (aI (v:=zB (!a78)) ?_)
         rcases aH hm with ⟨c6,hm⟩|⟨c6,hm⟩
         ·exact aQ c6 rfl rfl (aQ c6 rfl rfl (aQ c6 rfl rfl (aA (bH (v:=zB true) c6 rfl rfl) (aG ⟨aU,true,hm,rfl,(aO.arr 17 [12,13,15] o3 rfl)⟩))))
         ·exact bD c6 rfl rfl (aI (v:=i64 h.2) (bD c6 rfl rfl (aI (v:=i64 b.2) (bD c6 rfl rfl (aA (gO rfl rfl) (aA (bK (v:=zB (h.2 != b.2)) c6 rfl rfl) (aG ⟨aU,h.2 != b.2,hm,rfl,(aO.arr 17 [12,13,15] o3 rfl)⟩)))))))
     refine aW (aI (v:=i64 a9.1) (aA (cL rfl rfl) (aI (v:=zB (decide (a9.1 < 0))) ?_)))
     rcases aH hm with ⟨b3,hm⟩|⟨b3,hm⟩
     ·exact aQ b3 rfl rfl (aQ b3 rfl rfl (aQ b3 rfl rfl (aQ b3 rfl rfl (aA (bH (v:=zB true) b3 rfl rfl) (aI (v:=zB true) (aQ (rfl:true=true) rfl rfl (aQ (rfl:true=true) rfl rfl (aQ (rfl:true=true) rfl rfl (aA (bH (v:=zB true) (rfl:true=true) rfl rfl) (aG ⟨aU,true,hm,rfl,(aO.arr 16 [8] h0 rfl)⟩))))))))))
     ·refine bD b3 rfl rfl (aA (eQ (us:=(zC c.1 n o p q)) kZ h0 (i:=16) rfl rfl rfl rfl) (bD b3 rfl rfl (aA (eQ (us:=(zC b.1 j k l m)) kZ h0 (i:=19) rfl rfl rfl rfl) (bD b3 rfl rfl ?_))));obtain ⟨b84,k3,a84,a85,a86⟩:=aO.lendSp h0 (zR _) (.tail (.tail (.tail (.tail (.tail zt12)))))
      obtain ⟨b85,k4,a87,a88,a89⟩:=aO.lendSp a85 k3 (.tail (.tail (.tail (.tail (.tail zt12)))))
      obtain ⟨b86,k5,a91,a92,a93⟩:=aO.lendSp a88 (zL k3 k4) (.tail (.tail (.tail (.tail (.tail (.tail zt12))))))
      obtain ⟨b87,k6,a95,a96,a97⟩:=aO.lendSp a92 (zL (zL k3 k4) k5) (.tail (.tail (.tail (.tail (.tail (.tail zt12))))))
      obtain ⟨o4,a99,hm⟩:=aC hm
      refine aV (vs:=[zA (zCa c.1 n o p q),zA (zCa b.1 j k l m)]) call8 rfl (aFG a99 a96 (a84.mono (zL (zL k4 k5) k6)) (a87.mono (zL k5 k6)) (a91.mono k6) a95) ?_
      rintro _ b88 ⟨rfl,b00⟩
      have b01:=a97 _ _ b00
      have b02:=a93 _ _ b01
      have b03:=a89 _ _ b02
      have o5:=a86 _ _ b03
      refine bD b3 rfl rfl (aA (dB rfl) (aA (bK (v:=zB (!o4)) b3 rfl rfl) (aI (v:=zB (!o4)) ?_)))
      rcases aH hm with ⟨c7,hm⟩|⟨c7,hm⟩
      ·exact aQ c7 rfl rfl (aQ c7 rfl rfl (aQ c7 rfl rfl (aA (bH (v:=zB true) c7 rfl rfl) (aG ⟨aU,true,hm,rfl,(aO.arr 22 [12,20,0,1,21,2,3] o5 rfl)⟩))))
      ·exact bD c7 rfl rfl (aI (v:=i64 c.2) (bD c7 rfl rfl (aI (v:=i64 b.2) (bD c7 rfl rfl (aA (gO rfl rfl) (aA (bK (v:=zB (c.2 != b.2)) c7 rfl rfl) (aG ⟨aU,c.2 != b.2,hm,rfl,(aO.arr 22 [12,20,0,1,21,2,3] o5 rfl)⟩)))))))
  refine aW (aA (eQ (us:=(zC c.1 n o p q)) kZ i3 (i:=0) rfl rfl rfl rfl) (aA (eQ (us:=(zC b.1 j k l m)) kZ i3 (i:=11) rfl rfl rfl rfl) ?_));obtain ⟨b89,k7,b04,b05,b06⟩:=aO.lendSp i3 (zR _) zt8
  obtain ⟨b90,k8,b07,b08,b09⟩:=aO.lendSp b05 k7 zt8
  obtain ⟨b91,k9,b10,b11,b12⟩:=aO.lendSp b08 (zL k7 k8) (.tail (.tail (.tail (.tail (.tail zt12)))))
  obtain ⟨b92,l0,b13,b14,b15⟩:=aO.lendSp b11 (zL (zL k7 k8) k9) (.tail (.tail (.tail (.tail (.tail zt12)))))
  obtain ⟨b17,b18,hm⟩:=aC hm
  refine aV (vs:=[zA (zCa c.1 n o p q),zA (zCa b.1 j k l m)]) call8 rfl (aFG b18 b14 (b04.mono (zL (zL k8 k9) l0)) (b07.mono (zL k9 l0)) (b10.mono l0) b13) ?_
  rintro _ b93 ⟨rfl,b19⟩
  have b20:=b15 _ _ b19
  have b21:=b12 _ _ b20
  have b22:=b09 _ _ b21
  have o6:=b06 _ _ b22
  refine aA (dB rfl) (aI (v:=zB (!b17)) ?_)
  rcases aH hm with ⟨c9,hm⟩|⟨c9,hm⟩
  ·exact aQ c9 rfl rfl (aQ c9 rfl rfl (aQ c9 rfl rfl (aA (bH (v:=zB true) c9 rfl rfl) (aG ⟨aU,true,hm,rfl,(aO.arr 21 [4,5,6,7,8,9,10,11,0,1,12,13,2,3] o6 rfl)⟩))))
  ·exact bD c9 rfl rfl (aI (v:=i64 c.2) (bD c9 rfl rfl (aI (v:=i64 b.2) (bD c9 rfl rfl (aA (gO rfl rfl) (aA (bK (v:=zB (c.2 != b.2)) c9 rfl rfl) (aG ⟨aU,c.2 != b.2,hm,rfl,(aO.arr 21 [4,5,6,7,8,9,10,11,0,1,12,13,2,3] o6 rfl)⟩)))))))
end Gv
