/- Walks, printed by program. -/
import Derived.Test.YtfneiajlaacfoaaGreatDoorJWk5
set_option linter.all false
namespace Gv
open Gv.Hp renaming le_refl→zR
open Go.Value renaming slice→zS,bool→zB,pointer→zP,agg→zA
open Option.some renaming inj→zI
open Gv.Hp renaming le_trans→zL
open Go Go.Proofs Go.Proofs.Tryz
set_option maxRecDepth 20000
set_option maxHeartbeats 40000000
variable {G:rY} {K:Hp} {L:List fD} {w:World} {a1 a4 a7 a10:Option Addr} {c2 c8 c11 c5:Nat}
theorem aIu {e:(List aS)} {R:Int} (hm:aBF e=some R) (m:aE G K (L) w) (n:bL K a1 c2 e):
  Calls prog 61 ([zS a1 e.length c2]:List Value).toArray w (dQ fun v w'=>v=i64 R/\aE G K (L) w'):=by
 refine aN func61 rfl (by kernel_rfl) (by show (1:Nat)<=26;decide) ?_;unfold aBF at hm
 refine aL (aH (v:=i64 0) (aI (aL (aH (v:=i64 1) (aI (aJ (aL (aH (v:=i64 1) (aI (aR [] (fun f w=>∃ c,aFV c=some R/\f 3=i64 c/\aE G K (L) w) aM ?_))))))))));obtain ⟨o,i,ho⟩:=aB hm
 refine bX [0] i (fun d a f w=>f 3=i64 d/\f 4=i64 a/\aE G K (L) w) aM ?_
 ·rintro d a j f p hm hr ⟨q,g,r⟩
  unfold mB at hm
  refine aJ (aL (bI g (aG (v:=zS a1 e.length c2) (aD (bF (len:=e.length) aAu rfl) (aD (cW rfl rfl) (aI ?_))))))
  rcases aK hm with ⟨h,hm⟩|⟨h,hm⟩
  ·refine aQ h rfl (aW (aC (aJ (aR [0,4] (fun f w=>∃ b,uS a b=some j/\f 3=i64 b/\aE G K (L) w) ?_ ?_))))
   ·rintro f t ⟨b,hm,k,l⟩
    unfold uS at hm
    exact aC (aU (bI g (aD (dA rfl rfl) (aH (v:=i64 (wr (a+1))) (aI ⟨_,(zI hm).symm,bK,k,rfl,l⟩)))))
   exact aM
  ·exact aM
theorem aFj {u:(List aO)} {t:cR} {l:Nat} {R:((List aS) × (List Int) × Bool)} (hm:aDq u t=some R) (hs:aE G K (L) w) (h3:bL K a1 c2 u) (d:dU K a4 l (zC t a7 c8 a10 c11)) (h9:bL K a7 c8 t.L) (i9:bL K a10 c11 t.E):
  Calls prog 22 ([zS a1 u.length c2,cH a4 l]:List Value).toArray w (dQ fun v w'=>∃ K' j0 j1 j2 j3,v=Value.tuple #[zS j0 R.1.length j1,zS j2 R.2.1.length j3,zB R.2.2]/\Hp.le K K'/\aE G K' (own 68 K' j0 j1 R.1::own 2 K j2 j3 R.2.1::L) w'):=by
 refine aN func22 rfl (by kernel_rfl) (by show (2:Nat)<=173;decide) ?_;unfold aDq at hm
 refine aL (aH (v:=zS none 0 0) (aH (v:=zS none 0 0) (aH (v:=zB false) (aI (aL (aG (v:=zS a1 u.length c2) (aD (bF (len:=u.length) fQ rfl) (aG (v:=cH a4 l) (aD (gN rfl d) (aD (dV (k':=l+0) kZ rfl d rfl) (aD (bG (t:=0) dM hs d rfl rfl) (aD (aFR rfl rfl) ?_))))))))))));obtain ⟨a,n0,hm⟩:=aB hm
 refine aEj (e:=(false:Bool)) dB aGP rfl rfl hs rfl rfl rfl n0 rfl (fun c n1 (f7:aE G K (own 4 K c a.length a::L) n1)=>(aH (v:=zS c a.length a.length) (aI (aL (aG (v:=zS c a.length a.length) (aG (v:=cH a4 l) (aD (gN rfl d) (aD (dV (k':=l+1) aDO rfl d rfl) (aD (bG (t:=1) dM f7 d rfl rfl) ?_)))))))));obtain ⟨x1,f8,hm⟩:=aB hm
 have f9:=bV f7 (i:=0) rfl f8
 refine aD (cQ dB rfl f9 rfl rfl rfl f8) ?_;obtain ⟨j4,j5,hm⟩:=aB hm
 refine gP (i:=0) (t:=0) (ns:=[zB true]) (e':=(true:Bool)) sizeOf4 f7 rfl (zR _) rfl rfl rfl f8 j5 rfl rfl (gH rfl) rfl (fun cs h=>by cases h;rfl) (fun n2 (j6:aE G K (own 4 K c a.length j4::L) n2)=>(aI (aL (aG (v:=cH a4 l) (aD (gN rfl d) (aD (dV (k':=l+1) aDO rfl d rfl) (aD (bG (t:=1) dM j6 d rfl rfl) (bM (Kt:=K) (xs:=([t.I]:List Int)) (cs:=[i64 t.I]) (vs:=[(0,i64 t.I)]) bJ lN rfl rfl j6 rfl (by kernel_rfl) rfl rfl rfl ⟨rfl,trivial⟩ (fun g0 n3 (n4:aE G K (own 2 K g0 1 ([t.I]:List Int)::own 4 K c a.length j4::L) n3)=>(aH (v:=zS g0 ([t.I]:List Int).length 1) (aI (aJ (aL (aH (v:=i64 0) (aI (aR [0,1] (fun f w=>∃ b4,aAS u t b4=some R/\f 7=zS c b4.length a.length/\aE G K (own 4 K c a.length b4::L) w) ?_ ?_))))))))))))))))
 ·rintro f x2 ⟨b4,hm,n5,n6⟩
  unfold aAS at hm
  refine aC (aL (bI n5 ?_));obtain ⟨x3,x4,n7,n8,n9⟩:=aE.lendSp n6 (zR _) .head
  obtain ⟨b,o0,hm⟩:=aB hm
  refine aP (vs:=[zS c b4.length a.length]) call58 rfl (aFi o0 n8 n7) ?_
  rintro _ x5 ⟨g,j,rfl,o1⟩
  have j7:=n9 _ _ o1
  refine aH (v:=zS g b.length j) (aI (aJ (aL (aG (v:=zS g b.length j) (aD (bF (len:=b.length) bJ rfl) (aD (xU rfl rfl) (aI ?_)))))))
  rcases aK hm with ⟨g1,hm⟩|⟨g1,hm⟩
  ·refine aQ g1 rfl (aL (aH (v:=zS none 0 0) (aH (v:=zS none 0 0) (aH (v:=zB false) (aI ?_)))))
   have o2:=aE.nil (α:=aS) j7 68 K
   have o3:=aE.nil (α:=Int) o2 2 K
   obtain rfl:=zI hm
   exact pS (gZ (aIJ results22 rfl rfl rfl ⟨K,none,0,none,0,rfl,(zR _),(aE.arr 4 [1,0] o3 rfl)⟩))
  ·refine aT g1 rfl (aW (aC (aL (bM (Kt:=K) (xs:=([]:List aS)) (cs:=[]) (vs:=[]) aAu aKB rfl rfl j7 rfl (by kernel_rfl) rfl rfl rfl trivial (fun g2 o5 (o6:aE G K (own 68 K g2 0 ([]:List aS)::own 4 K c a.length b4::own 2 K g j b::L) o5)=>(aH (v:=zS g2 ([]:List aS).length 0) (aI (aJ (aL (aH (v:=i64 0) (aI (aR [12] (fun f w=>∃ g3 g4 j8 j9,Hp.le K g3/\aDU b g4=some R/\f 13=zS j8 g4.length j9/\aE G g3 (own 68 g3 j8 j9 g4::own 2 K g j b::L) w) aM ?_))))))))))))
   obtain ⟨x6,o7,ho⟩:=aB hm
   refine bX [0,1,12] o7 (fun p b5 f w=>∃ m x y,Hp.le K m/\f 13=zS x p.length y/\f 14=i64 b5/\aE G m (own 68 m x y p::own 2 K g j b::L) w) ?_ ?_
   ·exact ⟨K,g2,0,(zR _),rfl,rfl,(aE.arr 2 [0] o6 rfl)⟩
   ·rintro p b5 g5 f x7 hm hr ⟨m,x,y,k,o8,d1,q⟩
    unfold oA at hm
    refine aJ (aL (bI d1 (aG (v:=zS g b.length j) (aD (bF (len:=b.length) bJ rfl) (aD (cW rfl rfl) (aI ?_))))))
    rcases aK hm with ⟨k0,hm⟩|⟨k0,hm⟩
    ·refine aQ k0 rfl (aW (aC (aJ (aR [0,1,12,14] (fun f w=>∃ b9 d2 d3 d4,Hp.le m b9/\aAQ b5 d2=some g5/\f 13=zS d3 d2.length d4/\aE G b9 (own 68 b9 d3 d4 d2::own 2 K g j b::L) w) ?_ ?_))))
     ·rintro f x8 ⟨b9,d2,d3,d4,o9,hm,p0,p1⟩
      unfold aAQ at hm
      exact aC (aU (bI d1 (aD (dA rfl rfl) (aH (v:=i64 (wr (b5+1))) (aI ⟨_,(zI hm).symm,bK,b9,d3,d4,(zL k o9),p0,rfl,p1⟩)))))
     refine aJ (tH (C:=fun w'=>aE G m (own 68 m x y p::own 2 K g j b::L) w') Tryz_mixed (by kernel_rfl) (aE.mono q (eO.drew _)) (eK (fun _ q=>aY (v:=zS g b.length j) rfl) (eK (fun _ q=>aY d1) ?_)));obtain ⟨x9,c0,hm⟩:=aB hm
     have k1:=bV q (i:=1) rfl c0
     refine eK (fun _ q=>cQ bJ rfl k1 rfl rfl rfl c0) (eK (fun _ q=>nB (t:=0) dM q (i:=1) rfl c0 rfl rfl rfl) (eK (fun _ q=>aY (v:=cH a4 l) rfl) (eK (fun _ q=>gN rfl (d.mono k)) (eK (fun _ q=>dV (k':=l+0) kZ rfl (d.mono k) rfl) (eK (fun _ q=>bG (t:=0) dM q (d.mono k) rfl rfl) ?_)))));obtain ⟨b0,p2,hm⟩:=aB hm
     refine eK (fun _ q=>aGA rfl rfl p2) (eK (fun _ q=>dX (v:=i64 b0) rfl) (aDJ (fun y0 p3=>(aC (aJ ?_)))));obtain ⟨p4,b1,p5,k2,p6⟩:=aE.lendSp p3 k zt1
     refine cM (C:=fun w'=>∃ L',aE G p4 L' w') [(0,0),(1,0),(2,0),(3,0),(4,0),(5,0),(6,0),(7,0),(8,0),(9,0),(10,0),(11,0),(12,1),(13,0)] Tryz_mixed (by kernel_rfl) (fun _ hg=>⟨_,aE.mono k2 hg⟩) (fun y1 p7=>?_)
     have c1:=aE.mono k2 p7
     refine aX rfl (fun _ _=>aY (v:=zS a1 u.length c2) rfl) (aX rfl (fun _ _=>aY (v:=cH a4 l) rfl) (aX rfl (fun _ _=>aY (v:=i64 b0) rfl) (aX rfl (fun _ _=>aY (v:=zS g b.length j) rfl) (aX rfl (fun _ _=>aY d1) (aX rfl (fun _ _=>cQ bJ rfl k1 rfl rfl rfl c0) ?_)))));obtain ⟨y2,p8,p9⟩:=bL.el (sz:=1) rfl p5 c0
     cases p9
     refine aX rfl (fun _ ⟨_,c1⟩=>bG (t:=0) dM c1 p8 rfl rfl) (aX rfl (fun _ _=>aY (v:=cH a4 l) rfl) (aX rfl (fun _ _=>gN rfl (d.mono (zL k b1))) (aX rfl (fun _ _=>dV (k':=l+0) kZ rfl (d.mono (zL k b1)) rfl) (aX rfl (fun _ ⟨_,c1⟩=>bG (t:=0) dM c1 (d.mono (zL k b1)) rfl rfl) ?_))));obtain ⟨q0,q1,hm⟩:=aB hm
     refine aX rfl (fun _ _=>aIK rfl rfl q1) (gK rfl ?_);obtain ⟨a8,q2,hm⟩:=aB hm
     refine aP (vs:=[zS a1 u.length c2,cH a4 l,i64 b0,i64 q0]) call57 rfl (aAo q2 c1 (h3.mono (zL k b1)) (d.mono (zL k b1)) (h9.mono (zL k b1)) (i9.mono (zL k b1))) ?_
     rintro _ y3 ⟨b6,b7,rfl,k3⟩
     refine aZ (aC ⟨⟨_,k3⟩,?_⟩)
     refine aX rfl (fun _ _=>dX (v:=zS b6 a8.length b7) rfl) (pC ?_)
     have q3:=p6 _ _ k3
     refine aC (aL (aG (v:=zS a1 u.length c2) (aG (v:=i64 b0) ?_)));obtain ⟨o,q4,hm⟩:=aB hm
     refine aP (vs:=[zS a1 u.length c2,i64 b0]) call59 rfl (aBT q4 q3 (h3.mono k)) ?_
     rintro _ y4 ⟨rfl,q5⟩
     refine aD (cN (vs:=[(0,zB o)]) (cs:=[zB o,zB false,zS none 0 0]) bs_68 rfl (by kernel_rfl)) (cT (vs:=[zB false,zB false,zS none 0 0]) zeroValue68 q5 rfl (fun b2 y5 q6=>(eW (i:=0) (ns:=[zB o,zB false,zS none 0 0]) (us:=[zB o,zB false,zS none 0 0]) sizeOf68 q6 rfl rfl rfl rfl rfl (gH rfl) rfl rfl (fun q7 (q8:aE G m (box b2 68 [zB o,zB false,zS none 0 0]::own 2 K g j b::own 2 K b6 b7 a8::own 68 m x y p::L) q7)=>(aI (aL (aG (v:=zS a1 u.length c2) (aG (v:=i64 b0) ?_))))))))
     obtain ⟨q9,k4,hm⟩:=aB hm
     refine aD (dD fQ rfl (h3.mono k) rfl rfl rfl k4) ?_;obtain ⟨y6,k6,r0⟩:=bL.el (sz:=4) rfl h3 k4
     cases r0
     refine aD (dV (k':=b0.toNat * 4+0) uX rfl (k6.mono k) rfl) (aD (bG (t:=0) dM q8 (k6.mono k) rfl rfl) (aH (v:=i64 q9.Kind) (aI (aJ (bD [0,1,12,13,14,16,17] (fun f w=>∃ r,qN b p b5 a8 o r=some g5/\aE G m (box b2 68 [zB o,zB r,zS none 0 0]::own 2 K g j b::own 2 K b6 b7 a8::own 68 m x y p::L) w) ?_ ?_)))))
     ·rintro f y7 ⟨r,hm,r1⟩
      unfold qN at hm
      refine aC (aJ (aL (aH (v:=i64 0) (aI (aR [0,1,12,13,14,17] (fun f w=>∃ z Z a0,aAR p b5 o r z=some g5/\aE G m (own 2 K Z a0 z::box b2 68 [zB o,zB r,zS Z z.length a0]::own 2 K g j b::own 68 m x y p::L) w) ?_ ?_)))))
      ·rintro f r2 ⟨z,Z,a0,hm,k7⟩
       unfold aAR at hm
       refine aC (aU (bI o8 (aD (pB (us:=[zB o,zB r,zS Z z.length a0]) aKA k7 (i:=1) rfl rfl rfl rfl) ?_)));obtain ⟨a9,k8,r3,g6⟩:=aE.giveSp k7 k .head
       replace g6:aE G a9 (box b2 68 [zB o,zB r,zS Z z.length a0]::own 2 K g j b::own 68 m x y p::L) r2:=g6
       refine bM (Kt:=a9) (xs:=([⟨o,r,z⟩]:List aS)) (cs:=[zB o,zB r,zS Z z.length a0]) (vs:=[(0,zA #[zB o,zB r,zS Z z.length a0])]) aAu aKB rfl rfl g6 rfl (by kernel_rfl) rfl rfl rfl ⟨⟨Z,a0,rfl,r3⟩,trivial⟩ (fun r4 r5 (r6:aE G a9 (own 68 a9 r4 1 ([⟨o,r,z⟩]:List aS)::box b2 68 [zB o,zB r,zS Z z.length a0]::own 2 K g j b::own 68 m x y p::L) r5)=>?_);obtain ⟨g7,r7,hm⟩:=aB hm
       exact aFs (i:=2) a9 aAu underlying31 aKB rfl rfl r6 rfl k8 (zR _) r7 rfl rfl rfl rfl (fun _ _ _ h=>El.one h) (fun g8 g9 r8 (r9:aE G a9 (box b2 68 [zB o,zB r,zS Z z.length a0]::own 2 K g j b::own 68 a9 g8 g9 g7::L) r8)=>(aH (v:=zS g8 g7.length g9) (aZ (cL (aC ⟨bK,a9,g7,g8,g9,k8,hm,rfl,(aE.arr 3 [2,1] r9 rfl)⟩)))))
      have y8:=aE.nil (α:=Int) r1 2 K
      obtain ⟨y9,s0,ho⟩:=aB hm
      refine bX [0,1,12,13,14,16,17] s0 (fun d5 k9 f w=>∃ d6 d7,f 19=i64 k9/\aE G m (own 2 K d6 d7 d5::box b2 68 [zB o,zB r,zS d6 d5.length d7]::own 2 K g j b::own 2 K b6 b7 a8::own 68 m x y p::L) w) aM ?_
      ·rintro d5 k9 z0 f z1 hm hr ⟨d6,d7,l0,s1⟩
       unfold qM at hm
       refine aJ (aL (bI l0 (aG (v:=zS b6 a8.length b7) (aD (bF (len:=a8.length) bJ rfl) (aD (cW rfl rfl) (aI ?_))))))
       rcases aK hm with ⟨l1,hm⟩|⟨l1,hm⟩
       ·refine aQ l1 rfl (aW (aC (aJ (cD ?_))));obtain ⟨z2,d8,s2,s3,s4⟩:=aE.lendBp s1 zt1
        obtain ⟨h0,d9,l2,l3,s5⟩:=aE.lendSp s3 (zL k d8) zt2
        refine cM (C:=fun w'=>∃ L',aE G h0 L' w') [(0,0),(1,0),(2,0),(3,0),(4,0),(5,0),(6,0),(7,1),(8,1),(9,1),(10,0),(11,2)] Tryz_mixed (by kernel_rfl) (fun _ hg=>⟨_,aE.mono l3 hg⟩) (fun z3 s6=>?_)
        have c3:=aE.mono l3 s6
        refine aX rfl (fun _ _=>bU (t':=2) aGQ rfl rfl) (aX rfl (fun _ ⟨_,c3⟩=>bG (t:=2) xX c3 (s2.mono d9) rfl rfl) (aX rfl (fun _ _=>aY (v:=zS g b.length j) rfl) (aX rfl (fun _ _=>aY (v:=zS b6 a8.length b7) rfl) (aX rfl (fun _ _=>aY l0) ?_))));obtain ⟨s7,h1,hm⟩:=aB hm
        have s8:=aCi l2 h1
        refine aX rfl (fun _ _=>cQ bJ rfl s8 rfl rfl rfl h1) ?_;obtain ⟨z4,s9,t0⟩:=bL.el (sz:=1) rfl l2 h1
        cases t0
        refine aX rfl (fun _ ⟨_,c3⟩=>bG (t:=0) dM c3 s9 rfl rfl) (gK rfl ?_);obtain ⟨z5,z6,t1,t2,t3⟩:=aE.lendSp c3 (zL (zL k d8) d9) zt1
        obtain ⟨e0,t4,hm⟩:=aB hm
        refine aP (vs:=[zS g b.length j,i64 s7]) call60 rfl (aEt t4 t2 t1) ?_
        rintro _ z7 ⟨rfl,t5⟩
        have l4:=t3 _ _ t5
        refine aZ (aC ⟨⟨_,l4⟩,?_⟩)
        refine gK rfl (bM (Kt:=K) (xs:=([e0]:List Int)) (cs:=[i64 e0]) (vs:=[(0,i64 e0)]) bJ lN rfl rfl l4 rfl (by kernel_rfl) rfl rfl rfl ⟨rfl,trivial⟩ (fun t6 t7 (l5:aE G h0 (own 2 K t6 1 ([e0]:List Int)::own 2 K g j b::own 2 K d6 d7 d5::own 68 m x y p::L) t7)=>(aZ (aC ⟨⟨_,l5⟩,?_⟩))))
        refine gK rfl ?_;obtain ⟨t8,t9,hm⟩:=aB hm
        refine hJ (i:=1) bJ underlying41 lN rfl rfl l5 rfl (zL (zL k d8) d9) (zL (zL k d8) d9) t9 rfl rfl rfl rfl (fun _ h=>h) (fun u0 u1 u2 (l6:aE G h0 (own 2 K g j b::own 2 K u0 u1 t8::own 68 m x y p::L) u2)=>(aZ (aC ⟨⟨_,l6⟩,?_⟩)))
        refine aX rfl (fun _ _=>bU (t':=2) aGQ rfl rfl) ?_
        have u3:=s5 _ _ l6
        have z8:=s4 _ _ u3
        exact aM
       ·exact aM
     exact aM
    ·exact aM
 obtain ⟨z9,u4,ho⟩:=aB hm
 refine qT [0,1] u4 (fun h2 e1 c4 f w=>∃ h4 h5,f 7=zS c h2.length a.length/\f 8=zS h4 e1.length h5/\f 9=i64 c4/\aE G K (own 2 K h4 h5 e1::own 4 K c a.length h2::L) w) ?_ ?_
 ·exact ⟨g0,1,(Eq.trans rfl (congrArg (fun n=>zS c n a.length) (fP j5))),rfl,rfl,n4⟩
 ·rintro h2 e1 c4 l7 f a00 hm hr ⟨h4,h5,a01,h7,e2,u5⟩
  unfold mC at hm
  refine aJ (aL (bI e2 (bI h7 (aD (bF (len:=e1.length) bJ rfl) (aD (cW rfl rfl) (aI ?_))))))
  rcases aK hm with ⟨l8,hm⟩|⟨l8,hm⟩
  ·refine aQ l8 rfl (aW (aC (aJ (aR [0,1,9] (fun f w=>∃ e3 e4 e5 e6,aAT c4 e3 e4=some l7/\f 7=zS c e3.length a.length/\f 8=zS e5 e4.length e6/\aE G K (own 2 K e5 e6 e4::own 4 K c a.length e3::L) w) ?_ ?_))))
   ·rintro f a02 ⟨e3,e4,e5,e6,hm,u6,u7,u8⟩
    unfold aAT at hm
    exact aC (aU (bI e2 (aD (dA rfl rfl) (aH (v:=i64 (wr (c4+1))) (aI ⟨_,(zI hm).symm,bK,e5,e6,u6,u7,rfl,u8⟩)))))
   refine aJ ?_;obtain ⟨u9,a2,l9,m0,v0⟩:=aE.lendSp u5 (zR _) .head
   refine cM (C:=fun w'=>∃ L',aE G u9 L' w') [(0,0),(1,0),(2,0),(3,0),(4,0),(5,0),(6,0),(7,0),(8,0),(9,0),(10,0),(11,0),(12,0),(13,0),(14,0),(15,0),(16,0),(17,0),(18,0),(19,0),(20,1),(21,0)] Tryz_mixed (by kernel_rfl) (fun _ hg=>⟨_,aE.mono m0 hg⟩) (fun a03 v1=>?_)
   have a6:=aE.mono m0 v1
   refine aX rfl (fun _ _=>aY (v:=zS a1 u.length c2) rfl) (aX rfl (fun _ _=>aY (v:=cH a4 l) rfl) (aX rfl (fun _ _=>aY h7) (aX rfl (fun _ _=>aY e2) ?_)));obtain ⟨a04,e7,hm⟩:=aB hm
   have m1:=aCi l9 e7
   refine aX rfl (fun _ _=>cQ bJ rfl m1 rfl rfl rfl e7) ?_;obtain ⟨a05,m2,v2⟩:=bL.el (sz:=1) rfl l9 e7
   cases v2
   refine aX rfl (fun _ ⟨_,a6⟩=>bG (t:=0) dM a6 m2 rfl rfl) (aX rfl (fun _ _=>aY (v:=cH a4 l) rfl) (aX rfl (fun _ _=>gN rfl (d.mono a2)) (aX rfl (fun _ _=>dV (k':=l+0) kZ rfl (d.mono a2) rfl) (aX rfl (fun _ ⟨_,a6⟩=>bG (t:=0) dM a6 (d.mono a2) rfl rfl) ?_))));obtain ⟨v3,v4,hm⟩:=aB hm
   refine aX rfl (fun _ _=>aGA rfl rfl v4) (aX rfl (fun _ _=>aY h7) (aX rfl (fun _ _=>aY e2) (aX rfl (fun _ _=>cQ bJ rfl m1 rfl rfl rfl e7) (aX rfl (fun _ ⟨_,a6⟩=>bG (t:=0) dM a6 m2 rfl rfl) (aX rfl (fun _ _=>aY (v:=cH a4 l) rfl) (aX rfl (fun _ _=>gN rfl (d.mono a2)) (aX rfl (fun _ _=>dV (k':=l+0) kZ rfl (d.mono a2) rfl) (aX rfl (fun _ ⟨_,a6⟩=>bG (t:=0) dM a6 (d.mono a2) rfl rfl) ?_))))))));obtain ⟨v5,v6,hm⟩:=aB hm
   refine aX rfl (fun _ _=>aIK rfl rfl v6) (gK rfl ?_);obtain ⟨J,v7,hm⟩:=aB hm
   refine aP (vs:=[zS a1 u.length c2,cH a4 l,i64 v3,i64 v5]) call57 rfl (aAo v7 a6 (h3.mono a2) (d.mono a2) (h9.mono a2) (i9.mono a2)) ?_
   rintro _ a06 ⟨a3,a5,rfl,m3⟩
   refine aZ (aC ⟨⟨_,m3⟩,?_⟩)
   refine aX rfl (fun _ _=>dX (v:=zS a3 J.length a5) rfl) (pC ?_)
   have a07:=v0 _ _ m3
   refine aC (aL (aH (v:=i64 0) (aI (aR [0,1,9] (fun f w=>∃ h8 i0 m4 m5,aDV c4 h8 i0=some l7/\f 7=zS c h8.length a.length/\f 8=zS m4 i0.length m5/\aE G K (own 2 K m4 m5 i0::own 4 K c a.length h8::L) w) aM ?_))));obtain ⟨a08,v8,ho⟩:=aB hm
   refine qT [0,1,9,10] v8 (fun i1 c5 e8 f w=>∃ c6 c7,f 7=zS c i1.length a.length/\f 8=zS c6 c5.length c7/\f 11=i64 e8/\aE G K (own 2 K c6 c7 c5::own 2 K a3 a5 J::own 4 K c a.length i1::L) w) aM ?_
   ·rintro i1 c5 e8 v9 f a09 hm hr ⟨c6,c7,i2,w0,c9,d0⟩
    unfold kK at hm
    refine aJ (aL (bI c9 (aG (v:=zS a3 J.length a5) (aD (bF (len:=J.length) bJ rfl) (aD (cW rfl rfl) (aI ?_))))))
    rcases aK hm with ⟨m6,hm⟩|⟨m6,hm⟩
    ·refine aQ m6 rfl (aW (aC (aJ (aR [0,1,9,10,11] (fun f w=>∃ e9 f0 f1 f2,rR e8 e9 f0=some v9/\f 7=zS c e9.length a.length/\f 8=zS f1 f0.length f2/\aE G K (own 2 K f1 f2 f0::own 2 K a3 a5 J::own 4 K c a.length e9::L) w) ?_ ?_))))
     ·rintro f a11 ⟨e9,f0,f1,f2,hm,w1,w2,w3⟩
      unfold rR at hm
      exact aC (aU (bI c9 (aD (dA rfl rfl) (aH (v:=i64 (wr (e8+1))) (aI ⟨_,(zI hm).symm,bK,f1,f2,w1,w2,rfl,w3⟩)))))
     refine aL (bI i2 (aG (v:=zS a3 J.length a5) (bI c9 ?_)));obtain ⟨f3,b3,hm⟩:=aB hm
     have i3:=bV d0 (i:=1) rfl b3
     refine aD (cQ bJ rfl i3 rfl rfl rfl b3) (aD (nB (t:=0) dM d0 (i:=1) rfl b3 rfl rfl rfl) ?_);obtain ⟨a12,f4,hm⟩:=aB hm
     refine aD (cQ dB rfl f9 rfl rfl rfl f4) (aD (nB (t:=0) aCc d0 (i:=2) rfl f4 rfl rfl rfl) (aD (tZ rfl) (aI ?_)))
     rcases aK hm with ⟨m7,hm⟩|⟨m7,hm⟩
     ·refine aQ m7 rfl (aL (bI i2 (aG (v:=zS a3 J.length a5) (bI c9 (aD (cQ bJ rfl i3 rfl rfl rfl b3) (aD (nB (t:=0) dM d0 (i:=1) rfl b3 rfl rfl rfl) (aD (cQ dB rfl f9 rfl rfl rfl f4) ?_)))))));obtain ⟨f5,m8,hm⟩:=aB hm
      refine gP (i:=2) (t:=0) (ns:=[zB true]) (e':=(true:Bool)) sizeOf4 d0 rfl (zR _) rfl rfl rfl f4 m8 rfl rfl (gH rfl) rfl (fun cs h=>by cases h;rfl) (fun w4 (m9:aE G K (own 2 K c6 c7 c5::own 2 K a3 a5 J::own 4 K c a.length f5::L) w4)=>(aI (aU (bI w0 (aG (v:=zS a3 J.length a5) (bI c9 (aD (cQ bJ rfl i3 rfl rfl rfl b3) (aD (nB (t:=0) dM m9 (i:=1) rfl b3 rfl rfl rfl) (bM (Kt:=K) (xs:=([f3]:List Int)) (cs:=[i64 f3]) (vs:=[(0,i64 f3)]) bJ lN rfl rfl m9 rfl (by kernel_rfl) rfl rfl rfl ⟨rfl,trivial⟩ (fun w5 w6 (w7:aE G K (own 2 K w5 1 ([f3]:List Int)::own 2 K c6 c7 c5::own 2 K a3 a5 J::own 4 K c a.length f5::L) w6)=>?_))))))))))
      obtain ⟨i4,w8,hm⟩:=aB hm
      exact hJ (i:=0) bJ underlying41 lN rfl rfl w7 rfl (zR _) (zR _) w8 rfl rfl rfl rfl (fun _ h=>h) (fun i5 i6 w9 (x0:aE G K (own 2 K i5 i6 i4::own 2 K a3 a5 J::own 4 K c a.length f5::L) w9)=>(aH (v:=zS i5 i4.length i6) (aZ (cL (aC ⟨bK,f5,i4,i5,i6,hm,(Eq.trans i2 (congrArg (fun n=>zS c n a.length) (fP m8))),rfl,x0⟩)))))
     ·exact aM
    ·exact aM
  ·exact aM
theorem aAk {o:(List aO)} {t:cR} {R:((List aS) × (List (List Int)) × Int)} (hm:nI o t=some R) (hs:aE G K (L) w) (h3:bL K a1 c2 o) (h6:bL K a4 c5 t.L) (h9:bL K a7 c8 t.E):
  Calls prog 7 ([zS a1 o.length c2,zA (zCa t a4 c5 a7 c8)]:List Value).toArray w (dQ fun v w'=>∃ K' c1 c3 c4 c6,v=Value.tuple #[zS c1 R.1.length c3,zS c4 R.2.1.length c6,i64 R.2.2]/\Hp.le K K'/\aE G K' (own 68 K' c1 c3 R.1::own 41 K' c4 c6 R.2.1::L) w'):=by
 let c7:=(zC t a4 c5 a7 c8)
 refine aN func7 rfl (by kernel_rfl) (by show (2:Nat)<=54;decide) ?_;unfold nI at hm
 refine aL (gO (v:=zA (zCa t a4 c5 a7 c8)) (vs:=c7) hs rfl rfl (fun b0 i1 e5=>(aH (v:=zS none 0 0) (aH (v:=zS none 0 0) (aH (v:=i64 0) (aI (aJ (aJ (bD [0,3] (fun f w=>∃ b1,jY o t b1=some R/\f 18=zB b1/\aE G K (box b0 28 c7::L) w) ?_ ?_)))))))))
 ·rintro f e6 ⟨b1,hm,e7,e8⟩
  unfold jY at hm
  refine aC ?_
  rcases aK hm with ⟨c9,hm⟩|⟨c9,hm⟩
  ·exact aM
  ·refine aT c9 e7 (aW (aC (aL (aG (v:=zS a1 o.length c2) ?_))));obtain ⟨e9,a6,Z,b2,_⟩:=aE.lendBp e8 .head
   replace b2:aE G e9 (L) e6:=b2
   obtain ⟨a,f0,hm⟩:=aB hm
   refine aP (vs:=[zS a1 o.length c2,cH (some ⟨b0,0,none⟩) 0]) call22 (lst2 rfl (elp_b rfl)) (aFj f0 b2 (h3.mono a6) Z (h6.mono a6) (h9.mono a6)) ?_
   rintro _ i2 ⟨d,b,c,e,j,rfl,a0,f1⟩
   refine aG (v:=Value.tuple #[zS b a.1.length c,zS e a.2.1.length j,zB a.2.2]) (aD (bW rfl rfl) (aD (bW rfl rfl) (aD (bW rfl rfl) (aH (v:=zS b a.1.length c) (aH (v:=zS e a.2.1.length j) (aH (v:=zB a.2.2) (aI (aJ (aL (aG (v:=zB a.2.2) (aD (tZ rfl) (aI ?_))))))))))))
   rcases aK hm with ⟨d0,hm⟩|⟨d0,hm⟩
   ·exact aM
   ·refine aT d0 rfl (aW (aC (aL (bM (Kt:=d) (xs:=([]:List (List Int))) (cs:=[]) (vs:=[]) mN aEl rfl rfl f1 rfl (by kernel_rfl) rfl rfl rfl trivial (fun d1 f2 (i3:aE G d (own 41 d d1 0 ([]:List (List Int))::own 68 d b c a.1::own 2 K e j a.2.1::L) f2)=>(aH (v:=zS d1 ([]:List (List Int)).length 0) (aI (aJ (aL (aH (v:=i64 0) (aI (aR [7] (fun f w=>∃ p y z J,Hp.le d p/\vL a y=some R/\f 10=zS z y.length J/\aE G p (own 41 p z J y::own 68 d b c a.1::L) w) ?_ ?_))))))))))))
    ·rintro f f3 ⟨p,y,z,J,d2,hm,f4,f5⟩
     unfold vL at hm
     refine aC (aL (aG (v:=zS b a.1.length c) (bI f4 (aH (v:=zS b a.1.length c) (aH (v:=zS z y.length J) (aH (v:=i64 0) (aI ?_)))))))
     have f6:aE G p (own 41 p z J y::own 68 p b c a.1::L) f3:=aE.weak (i:=1) f5 rfl (fun _ h=>own.mono d2 h)
     obtain rfl:=zI hm
     exact pS (aIJ results7 rfl rfl rfl ⟨p,b,c,z,J,rfl,(zL (zL a6 a0) d2),(aE.arr 2 [1,0] f6 rfl)⟩)
    obtain ⟨i4,f8,ho⟩:=aB hm
    refine bX [3,7,8] f8 (fun q b3 f w=>∃ k r u,Hp.le d k/\f 10=zS r q.length u/\f 11=i64 b3/\aE G k (own 41 k r u q::own 68 d b c a.1::own 2 K e j a.2.1::L) w) aM ?_
    ·rintro q b3 i5 f f9 hm hr ⟨k,r,u,a2,g0,a8,g1⟩
     unfold aBG at hm
     refine aJ (aL (bI a8 (aG (v:=zS e a.2.1.length j) (aD (bF (len:=a.2.1.length) bJ rfl) (aD (cW rfl rfl) (aI ?_))))))
     rcases aK hm with ⟨d3,hm⟩|⟨d3,hm⟩
     ·refine aQ d3 rfl (aW (aC (aJ (cD ?_))))
      have d4:aE G k (own 2 K e j a.2.1::own 41 k r u q::own 68 d b c a.1::L) f9:=(aE.arr 3 [2,0,1] g1 rfl)
      refine cM (C:=fun w'=>∃ L',aE G k (own 2 K e j a.2.1::L') w') [(0,0),(1,0),(2,0),(3,0),(4,0),(5,0),(6,0),(7,0),(8,0),(9,0),(10,0),(11,0),(12,0),(13,0),(14,0),(15,1),(16,1),(17,1),(18,0)] Tryz_mixed (by kernel_rfl) (fun _ hg=>⟨_,aE.mono d4 hg⟩) (fun i6 g2=>?_)
      have l:=aE.mono d4 g2
      refine aX rfl (fun _ _=>aY g0) (aX rfl (fun _ _=>aY (v:=zS e a.2.1.length j) rfl) (aX rfl (fun _ _=>aY a8) ?_));obtain ⟨i7,a3,hm⟩:=aB hm
      have d5:=bV l (i:=0) rfl a3
      refine aX rfl (fun _ _=>cQ bJ rfl d5 rfl rfl rfl a3) (aX rfl (fun _ ⟨_,l⟩=>nB (t:=0) dM l (i:=0) rfl a3 rfl rfl rfl) (aX rfl (fun _ _=>dV (k':=0+0) kZ (elp_b rfl) (Z.mono (zL a0 a2)) rfl) (aX rfl (fun _ ⟨_,l⟩=>bG (t:=0) dM l (Z.mono (zL a0 a2)) rfl rfl) ?_)));obtain ⟨m,g3,hm⟩:=aB hm
      refine aX rfl (fun _ _=>aGA rfl rfl g3) (aX rfl (fun _ _=>aY (v:=zS e a.2.1.length j) rfl) (aX rfl (fun _ _=>aY a8) (aX rfl (fun _ _=>cQ bJ rfl d5 rfl rfl rfl a3) (aX rfl (fun _ ⟨_,l⟩=>nB (t:=0) dM l (i:=0) rfl a3 rfl rfl rfl) (aX rfl (fun _ _=>dV (k':=0+0) kZ (elp_b rfl) (Z.mono (zL a0 a2)) rfl) (aX rfl (fun _ ⟨_,l⟩=>bG (t:=0) dM l (Z.mono (zL a0 a2)) rfl rfl) ?_))))));obtain ⟨n,g4,hm⟩:=aB hm
      refine aX rfl (fun _ _=>aIK rfl rfl g4) (gK rfl (bM (Kt:=K) (xs:=([m,n]:List Int)) (cs:=[i64 m,i64 n]) (vs:=[(0,i64 m),(1,i64 n)]) bJ lN rfl rfl l rfl (by kernel_rfl) rfl rfl rfl ⟨rfl,rfl,trivial⟩ (fun x d6 (d7:aE G k (own 2 K x 2 ([m,n]:List Int)::own 2 K e j a.2.1::own 41 k r u q::own 68 d b c a.1::L) d6)=>(aZ (aC ⟨⟨_,(aE.arr 2 [1,0] d7 rfl)⟩,?_⟩)))))
      refine gK rfl ?_
      have g5:aE G k (rows [2] ([(x,2)]:List (Dp.Hd (List Int))) [([m,n]:List Int)]::own 2 K e j a.2.1::own 41 k r u q::own 68 d b c a.1::L) d6:=aE.rowsOne d7
      refine bM (Kt:=K) (xs:=cP ([(x,2)]:List (Dp.Hd (List Int))) ([([m,n]:List Int)]:List (List Int))) (cs:=[zS x ([m,n]:List Int).length 2]) (vs:=[(0,zS x ([m,n]:List Int).length 2)]) mN aEl rfl rfl g5 rfl (by kernel_rfl) rfl rfl rfl ⟨rfl,trivial⟩ ?_
      intro g6 d8 (d9:aE G k (own 41 K g6 1 (cP ([(x,2)]:List (Dp.Hd (List Int))) ([([m,n]:List Int)]:List (List Int)))::rows [2] ([(x,2)]:List (Dp.Hd (List Int))) ([([m,n]:List Int)]:List (List Int))::own 2 K e j a.2.1::own 41 k r u q::own 68 d b c a.1::L) d8)
      refine aZ (aC ⟨⟨_,(aE.arr 3 [2,0,1] d9 rfl)⟩,?_⟩)
      refine gK rfl ?_;obtain ⟨a9,b4,g7,_,b5,_⟩:=aE.lendD' (i:=0) d9 rfl rfl rfl
      replace b5:aE G a9 (own 2 K e j a.2.1::own 41 k r u q::own 68 d b c a.1::L) d8:=b5
      obtain ⟨e0,g8,hm⟩:=aB hm
      refine aHn (i:=1) mN underlying32 aEl rfl rfl b5 rfl b4 g7 g8 rfl rfl rfl rfl (fun b6 b7 g9 (e1:aE G a9 (own 2 K e j a.2.1::own 41 a9 b6 b7 e0::own 68 d b c a.1::L) g9)=>(aZ (aC ⟨⟨_,(aE.weakK e1 b4)⟩,?_⟩)))
      exact aX rfl (fun _ _=>dX (v:=zS b6 e0.length b7) rfl) (pC (cL (aC (aU (bI a8 (aD (dA rfl rfl) (aH (v:=i64 (wr (b3+1))) (aI ⟨_,(zI hm).symm,bK,a9,b6,b7,(zL a2 b4),rfl,rfl,(aE.arr 3 [1,2,0] e1 rfl)⟩))))))))
     ·exact aM
 refine aU (aG (v:=zS a1 o.length c2) ?_);obtain ⟨h0,h1,hm⟩:=aB hm
 refine aP (vs:=[zS a1 o.length c2]) call17 rfl (aDX h1 e5 h3) ?_
 rintro _ i8 ⟨rfl,h2⟩
 refine aD (tZ rfl) (aG (v:=zB (!h0)) ?_)
 rcases aK hm with ⟨e2,hm⟩|⟨e2,hm⟩
 ·exact aM
 ·refine bS e2 rfl rfl ?_;obtain ⟨i9,e3,h4,h5,h7⟩:=aE.lendBp h2 .head
  obtain ⟨j0,h8,hm⟩:=aB hm
  refine aP (vs:=[cH (some ⟨b0,0,none⟩) 0]) call18 rfl (aDY h8 h5 h4 (h6.mono e3) (h9.mono e3)) ?_
  rintro _ j1 ⟨rfl,i0⟩
  have j2:=h7 _ _ i0
  exact aM
theorem aHd {a:(List Int)} {many:Int} {R:Bool} (hm:qO a many=some R) (o:aE G K (L) w) (d:bL K a1 c2 a):
  Calls prog 65 ([zS a1 a.length c2,i64 many]:List Value).toArray w (dQ fun v w'=>v=zB R/\aE G K (L) w'):=by
 refine aN func65 rfl (by kernel_rfl) (by show (2:Nat)<=32;decide) ?_;unfold qO at hm
 refine aL (aH (v:=zB false) (aI (aJ (aL (aG (v:=zS a1 a.length c2) (aD (bF (len:=a.length) bJ rfl) (aG (v:=i64 0) (aI (aR [] (fun f w=>aEn=some R/\aE G K (L) w) aM ?_)))))))));obtain ⟨p,i,ho⟩:=aB hm
 refine dY [0,1,7,8] i (fun b f w=>f 9=i64 b/\aE G K (L) w) aM ?_
 ·rintro b j f q hm hr ⟨c,k⟩
  unfold jM at hm
  refine aL (aD (cW c rfl) (aI (aJ ?_)))
  rcases aK hm with ⟨e,hm⟩|⟨e,hm⟩
  ·refine aQ e rfl (aW (aC (aJ (cD (aL (bI c ?_))))));obtain ⟨l,g,hm⟩:=aB hm
   refine aD (dD bJ rfl d rfl rfl c g) ?_;obtain ⟨r,m,n⟩:=bL.el (sz:=1) rfl d g
   cases n
   exact aD (bG (t:=0) dM k m rfl rfl) (aH (v:=i64 b) (aH (v:=i64 l) (aI (aJ (bD [0,1,7,8,9] (fun f w=>∃ h,nJ b h=some j/\f 30=zB h/\aE G K (L) w) aM aM)))))
  ·exact aM
theorem uW {x_:aS} {p:(List aS)} {a:Nat} {R:Bool} (hm:uD x_ p=some R) (b:aE G K (L) w) (c:bL K a1 c2 x_.Terms) (d:dU K a4 a [zS a7 p.length c8]) (e:bL K a7 c8 p):
  Calls prog 64 ([zA #[zB x_.Greatest,zB x_.All,zS a1 x_.Terms.length c2],cH a4 a]:List Value).toArray w (dQ fun v w'=>v=zB R/\aE G K (L) w'):=by
 exact aM
theorem lK {b e:(List aS)} {c:Nat} {R:Int} (hm:cC b e=some R) (y:aE G K (L) w) (i:bL K a1 c2 b) (n:dU K a4 c [zS a7 e.length c8]) (o:bL K a7 c8 e):
  Calls prog 117 ([zS a1 b.length c2,Value.func (.func 64) #[] #[cH a4 c]]:List Value).toArray w (dQ fun v w'=>v=i64 R/\aE G K (L) w'):=by
 refine aN func117 rfl (by kernel_rfl) (by show (2:Nat)<=19;decide) ?_;unfold cC at hm
 refine aL (aH (v:=i64 0) (aI (aJ (aL (aG (v:=zS a1 b.length c2) (aD (bF (len:=b.length) aAu rfl) (aG (v:=i64 0) (aI (aR [] (fun f w=>fN=some R/\aE G K (L) w) aM ?_)))))))));obtain ⟨z,p,ho⟩:=aB hm
 refine dY [0,1,7] p (fun d f w=>f 8=i64 d/\aE G K (L) w) aM ?_
 ·rintro d J f Z hm hr ⟨j,k⟩
  unfold bE at hm
  refine aL (aD (cW j rfl) (aI (aJ ?_)))
  rcases aK hm with ⟨l,hm⟩|⟨l,hm⟩
  ·refine aQ l rfl (aW (aC (aJ (cD (aL (bI j (aH (v:=i64 d) (aI (aL (aG (v:=Value.func (.func 64) #[] #[cH a4 c]) (aG (v:=zS a1 b.length c2) (aG (v:=i64 d) ?_))))))))))));obtain ⟨a,m,hm⟩:=aB hm
   refine aD (dD aAu rfl i rfl rfl rfl m) ?_;obtain ⟨a0,q,r⟩:=bL.el (sz:=3) rfl i m
   obtain ⟨g,h,rfl,u⟩:=r
   refine aD (lV (t:=0) (vs:=[zB a.Greatest,zB a.All,zS g a.Terms.length h]) aKA k q rfl rfl rfl) ?_;obtain ⟨a2,x,hm⟩:=aB hm
   exact lM (vs:=[zA #[zB a.Greatest,zB a.All,zS g a.Terms.length h]]) (caps:=[cH a4 c]) (us:=[zA #[zB a.Greatest,zB a.All,zS g a.Terms.length h],cH a4 c]) rfl call64 rfl rfl (uW x k u n o) aM
  ·exact aM
theorem eR {a b:(List aS)} {c:Nat} {R:Bool} (hm:dJ a b=some R) (d:aE G K (L) w) (e:bL K a1 c2 a) (g:dU K a4 c [zS a7 b.length c8]) (h:bL K a7 c8 b):
  Calls prog 63 ([zS a1 a.length c2,Value.func (.func 64) #[] #[cH a4 c]]:List Value).toArray w (dQ fun v w'=>v=zB R/\aE G K (L) w'):=by
 exact aM
theorem aEw {e:(List aS)} {R:Bool} (hm:jZ e=some R) (j:aE G K (L) w) (c:bL K a1 c2 e):
  Calls prog 23 ([zS a1 e.length c2]:List Value).toArray w (dQ fun v w'=>v=zB R/\aE G K (L) w'):=by
 refine aN func23 rfl (by kernel_rfl) (by show (1:Nat)<=16;decide) ?_;unfold jZ at hm
 refine aL (gO (v:=zS a1 e.length c2) (vs:=[zS a1 e.length c2]) j rfl rfl (fun a o p=>(aH (v:=zB false) (aI (aJ (aJ (bD [1] (fun f w=>∃ b,lS e b=some R/\f 11=zB b/\aE G K (box a 31 [zS a1 e.length c2]::L) w) ?_ ?_)))))))
 ·rintro f q ⟨b,hm,k,d⟩
  unfold lS at hm
  refine aC ?_
  rcases aK hm with ⟨g,hm⟩|⟨g,hm⟩
  ·exact aM
  ·refine aT g k (aW (aC (aL (aD (eP sc_31 d (i:=0) rfl rfl rfl) (aD (lF (vs:=[zP (some ⟨a,0,none⟩)]) rfl) ?_)))));obtain ⟨r,h,l,m,t⟩:=aE.lendBp d .head
   obtain ⟨u,n,hm⟩:=aB hm
   exact aP (vs:=[zS a1 e.length c2,Value.func (.func 64) #[] #[cH (some ⟨a,0,none⟩) 0]]) call63 rfl (eR n m (c.mono h) l (c.mono h)) aM
 exact aM
theorem aIc {e:(List aS)} {R:(List aV)} (hm:aGk e=some R) (hs:aE G K (L) w) (J:bL K a1 c2 e):
  Calls prog 25 ([zS a1 e.length c2]:List Value).toArray w (dQ fun v w'=>∃ K' b3 b4,v=zS b3 R.length b4/\Hp.le K K'/\aE G K' (own 100 K' b3 b4 R::L) w'):=by
 refine aN func25 rfl (by kernel_rfl) (by show (1:Nat)<=39;decide) ?_;unfold aGk at hm
 refine aL (aH (v:=zS none 0 0) (aI (aL (aG (v:=zS a1 e.length c2) ?_))));obtain ⟨j,q5,hm⟩:=aB hm
 refine aP (vs:=[zS a1 e.length c2]) call66 rfl (xZ q5 hs J) ?_
 rintro _ w8 ⟨k,l,rfl,d4⟩
 refine aH (v:=zS k j.length l) (aI (aL (aH (v:=zS none 0 0) (aI (aJ (aL (aG (v:=zS a1 e.length c2) (aD (bF (len:=e.length) aAu rfl) (aG (v:=i64 0) (aI (aR [] (fun f w=>∃ a7 a8 b5 b6,Hp.le K a7/\aKD a8=some R/\f 4=zS b5 a8.length b6/\aE G a7 (own 100 a7 b5 b6 a8::L) w) aM ?_)))))))))))
 have f6:=aE.nil (α:=aV) d4 100 K
 obtain ⟨f7,d5,ho⟩:=aB hm
 refine bX [0,3,9,10] d5 (fun o Z f w=>∃ b p q,Hp.le K b/\f 4=zS p o.length q/\f 11=i64 Z/\aE G b (own 100 b p q o::own 2 K k l j::L) w) aM ?_
 ·rintro o Z f8 f f9 hm hr ⟨b,p,q,m,d6,a3,b7⟩
  unfold wD at hm
  refine aL (aD (cW a3 rfl) (aI (aJ ?_)))
  rcases aK hm with ⟨b8,hm⟩|⟨b8,hm⟩
  ·refine aQ b8 rfl (aW (aC (aJ (cD (aL (bI a3 ?_))))));obtain ⟨a,b9,hm⟩:=aB hm
   refine aD (dD aAu rfl (J.mono m) rfl rfl a3 b9) ?_;obtain ⟨g0,d7,d8⟩:=bL.el (sz:=3) rfl J b9
   obtain ⟨c,d,rfl,d9⟩:=d8
   refine aD (lV (t:=0) (vs:=[zB a.Greatest,zB a.All,zS c a.Terms.length d]) aKA b7 (d7.mono m) rfl rfl rfl) (cT (vs:=[zB false,zB false,zS none 0 0]) zeroValue68 b7 rfl (fun r g1 e0=>(aH (v:=i64 Z) (eW (i:=0) (ns:=[zB a.Greatest,zB a.All,zS c a.Terms.length d]) (us:=[zB a.Greatest,zB a.All,zS c a.Terms.length d]) sizeOf68 e0 rfl rfl rfl rfl rfl (gH rfl) rfl rfl (fun c0 (e1:aE G b (box r 68 [zB a.Greatest,zB a.All,zS c a.Terms.length d]::own 100 b p q o::own 2 K k l j::L) c0)=>(aI ?_))))))
   have c1:aE G b (box r 68 [zB a.Greatest,zB a.All,zS c a.Terms.length d]::own 2 K k l j::own 100 b p q o::L) c0:=(aE.arr 3 [0,2,1] e1 rfl)
   refine cM (C:=fun w'=>∃ L',aE G b (box r 68 [zB a.Greatest,zB a.All,zS c a.Terms.length d]::own 2 K k l j::L') w') [(0,0),(1,0),(2,0),(4,0),(5,0),(6,0),(7,0),(8,0),(9,0),(10,0),(11,0),(12,0),(15,0),(16,0),(3,1),(13,1),(14,0),(17,1),(18,0),(19,1),(20,1),(21,0)] Tryz_mixed (by kernel_rfl) (fun _ hg=>⟨_,aE.mono c1 hg⟩) (fun g2 e2=>?_)
   have g:=aE.mono c1 e2
   refine aX rfl (fun _ _=>aY d6) (aX rfl (fun _ _=>bU (t':=1) fa_68_1 rfl rfl) (aX rfl (fun _ ⟨_,g⟩=>eP aCc g (i:=0) rfl rfl rfl) (aX rfl (fun _ _=>aY (v:=zS k j.length l) rfl) (aX rfl (fun _ _=>aY (v:=i64 Z) rfl) ?_))));obtain ⟨u,a9,hm⟩:=aB hm
   have e3:=bV g (i:=1) rfl a9
   refine aX rfl (fun _ _=>cQ bJ rfl e3 rfl rfl rfl a9) (aX rfl (fun _ ⟨_,g⟩=>nB (t:=0) dM g (i:=1) rfl a9 rfl rfl rfl) (aX rfl (fun _ _=>aY (v:=zS a1 e.length c2) rfl) ?_));obtain ⟨e4,c3,hm⟩:=aB hm
   refine aX rfl (fun _ _=>dD aAu rfl (J.mono m) rfl rfl rfl c3) ?_;obtain ⟨g3,c4,e5⟩:=bL.el (sz:=3) rfl J c3
   obtain ⟨g4,g5,rfl,g6⟩:=e5
   refine aX rfl (fun _ _=>dV (k':=(0:Int).toNat * 3+0) fa_68_0 rfl (c4.mono m) rfl) (aX rfl (fun _ ⟨_,g⟩=>bG (t:=0) aCc g (c4.mono m) rfl rfl) (aX rfl (fun _ _=>tZ rfl) (aX rfl (fun _ _=>bU (t':=2) aGQ rfl rfl) (aX rfl (fun _ ⟨_,g⟩=>eP xX g (i:=0) rfl rfl rfl) (gK rfl ?_)))));obtain ⟨x,e6,hm⟩:=aB hm
   refine aP (vs:=[zB a.All]) call67 rfl (kL e6 g) ?_
   rintro _ g7 ⟨rfl,c5⟩
   refine aZ (aC ⟨⟨_,c5⟩,?_⟩)
   refine gK rfl ?_;obtain ⟨y,e7,hm⟩:=aB hm
   refine aP (vs:=[zB (!e4.Greatest)]) call67 rfl (kL e7 c5) ?_
   rintro _ g8 ⟨rfl,c6⟩
   refine aZ (aC ⟨⟨_,c6⟩,?_⟩)
   refine aX rfl (fun _ _=>dA rfl rfl) (gK rfl ?_);obtain ⟨z,e8,hm⟩:=aB hm
   refine aP (vs:=[zS c a.Terms.length d]) call68 rfl (iG e8 c6 (d9.mono m)) ?_
   rintro _ e9 ⟨a0,a2,rfl,c8⟩
   refine aZ (aC ⟨⟨_,(aE.arr 3 [1,2,0] c8 rfl)⟩,?_⟩)
   refine aX rfl (fun _ _=>cN (vs:=[(0,i64 x),(1,i64 (wr (u+y))),(2,zS a0 z.length a2)]) (cs:=[i64 x,i64 (wr (u+y)),zS a0 z.length a2]) bs_100 rfl (by kernel_rfl)) (gK rfl ?_);obtain ⟨n,a4,f0,b0⟩:=aE.giveSp c8 m .head
   replace b0:aE G n (box r 68 [zB a.Greatest,zB a.All,zS c a.Terms.length d]::own 2 K k l j::own 100 b p q o::L) e9:=b0
   refine bM (Kt:=n) (xs:=([⟨x,wr (u+y),z⟩]:List aV)) (cs:=[i64 x,i64 (wr (u+y)),zS a0 z.length a2]) (vs:=[(0,zA #[i64 x,i64 (wr (u+y)),zS a0 z.length a2])]) pU aJb rfl rfl b0 rfl (by kernel_rfl) rfl rfl rfl ⟨⟨a0,a2,rfl,f0⟩,trivial⟩ (fun f1 f2 (c9:aE G n (own 100 n f1 1 ([⟨x,wr (u+y),z⟩]:List aV)::box r 68 [zB a.Greatest,zB a.All,zS c a.Terms.length d]::own 2 K k l j::own 100 b p q o::L) f2)=>(aZ (aC ⟨⟨_,(aE.weakK (aE.arr 3 [1,2,0] c9 rfl) a4)⟩,?_⟩)))
   refine gK rfl ?_;obtain ⟨d0,f3,hm⟩:=aB hm
   refine aFs (i:=2) n pU underlying38 aJb rfl rfl c9 rfl a4 (zR _) f3 rfl rfl rfl rfl (fun _ _ _ h=>El.one h) (fun b1 b2 f4 (d1:aE G n (box r 68 [zB a.Greatest,zB a.All,zS c a.Terms.length d]::own 2 K k l j::own 100 n b1 b2 d0::L) f4)=>(aZ (aC ⟨⟨_,(aE.weakK d1 a4)⟩,?_⟩)))
   exact aX rfl (fun _ _=>dX (v:=zS b1 d0.length b2) rfl) (pC (cL (aC (aU (aD (dA a3 rfl) (aG (v:=i64 (wr (Z+1))) (aI ⟨_,(zI hm).symm,bK,n,b1,b2,(zL m a4),rfl,rfl,(aE.arr 3 [2,1] d1 rfl)⟩)))))))
  ·exact aM
theorem fH {x_:(List Bool)} {h:Int} {R:(List Bool)} (hm:fF x_ h=some R) (hs:aE G K (L) w) (h3:bL K a1 c2 x_):
  Calls prog 119 ([zS a1 x_.length c2,i64 h]:List Value).toArray w (dQ fun v w'=>∃ t u,v=zS t R.length u/\aE G K (own 4 K t u R::L) w'):=by
 refine aN func119 rfl (by kernel_rfl) (by show (2:Nat)<=48;decide) ?_;unfold fF at hm
 refine aL (aH (v:=zS none 0 0) (aI (jV [0,1] (fun f w=>fV x_ h=some R/\aE G K (L) w) ?_ ?_)))
 ·rintro f w4 ⟨hm,a9⟩
  unfold fV at hm
  refine aL (aG (v:=zS a1 x_.length c2) (aD (bF (len:=x_.length) dB rfl) (aD (aHo runUnderlying145 rfl ⟨_,runUnderlying3⟩) (aG (v:=i64 h) (aD (aHo runUnderlying145 rfl ⟨_,runUnderlying3⟩) ?_)))));obtain ⟨c,q7,hm⟩:=aB hm
  refine aP (vs:=[Value.int .u64 (rS (x_.length:Int)),Value.int .u64 (rS h)]) call153 rfl (lib_Mul a9 q7) ?_
  rintro _ w8 ⟨rfl,x⟩
  refine aG (v:=Value.tuple #[Value.int .u64 c.1,Value.int .u64 c.2]) (aD (bW rfl rfl) (aD (bW rfl rfl) (aH (v:=Value.int .u64 c.1) (aH (v:=Value.int .u64 c.2) (aI (jV [0,6] (fun f w=>fU x_ c=some R/\aE G K (L) w) ?_ ?_))))))
  ·rintro f d5 ⟨hm,b1⟩
   unfold fU at hm
   refine aL (aG (v:=Value.int .u64 c.2) (aD (aIO runUnderlying3 rfl ⟨_,runUnderlying145⟩) ?_));obtain ⟨a,b2,hm⟩:=aB hm
   refine aEj (e:=(false:Bool)) dB aGP rfl rfl b1 rfl rfl rfl b2 rfl (fun b b3 (y:aE G K (own 4 K b a.length a::L) b3)=>(aH (v:=zS b a.length a.length) (aI (aL (aG (v:=zS b a.length a.length) (aG (v:=zS a1 x_.length c2) ?_))))));obtain ⟨b4,z,hm⟩:=aB hm
   refine aMn dB rfl y (i:=0) rfl Cut.whole rfl rfl rfl (aKx _ _ _) aIV (aMo rfl y h3) z (fun b5 (b6:aE G K (own 4 K b a.length b4::L) b5)=>(aH (v:=i64 ((Nat.min x_.length a.length):Int)) (aI (aJ (aR [] (fun f w=>∃ j,fS j=some R/\f 7=zS b j.length a.length/\aE G K (own 4 K b a.length j::L) w) ?_ ?_)))))
   ·rintro f d6 ⟨j,hm,b7,b8⟩
    unfold fS at hm
    refine aC (aL (bI b7 (aH (v:=zS b j.length a.length) (aI ?_))));obtain rfl:=zI hm
    exact pS (rT results119 rfl ⟨b,a.length,rfl,b8⟩)
   obtain ⟨d7,c0,ho⟩:=aB hm
   refine bX [] c0 (fun k l f w=>f 7=zS b k.length a.length/\f 8=i64 l/\aE G K (own 4 K b a.length k::L) w) ?_ ?_
   ·exact ⟨(Eq.trans rfl (congrArg (fun n=>zS b n a.length) (aLb z))),rfl,b6⟩
   ·rintro k l d8 f d9 hm hr ⟨m,o,J⟩
    unfold fT at hm
    refine aJ (aL (bI o (bI m (aD (bF (len:=k.length) dB rfl) (aD (cW rfl rfl) (aI ?_))))))
    rcases aK hm with ⟨q,hm⟩|⟨q,hm⟩
    ·refine aQ q rfl (aW (aC (cD (cM (C:=fun w'=>∃ L',aE G K L' w') [(0,0),(1,0),(2,0),(3,0),(4,0),(5,0),(6,0),(7,1),(8,0),(9,0)] Tryz_mixed (by kernel_rfl) (fun _ hg=>⟨_,aE.mono J hg⟩) (fun e0 c1=>?_)))))
     have p:=aE.mono J c1
     refine aX rfl (fun _ _=>aY o) (aX rfl (fun _ _=>aY m) (aX rfl (fun _ _=>aY o) ?_));obtain ⟨c3,c4,hm⟩:=aB hm
     have c5:=aCj p (i:=0) rfl
     obtain ⟨e1,e2,Z⟩:=Cut.ex 1 b a.length l
     refine aX rfl (fun _ _=>aLp dB c5 Z rfl rfl rfl c4) (aX rfl (fun _ _=>aY m) (aX rfl (fun _ _=>aY o) ?_));obtain ⟨c6,a0,hm⟩:=aB hm
     have c7:=aCj p (i:=0) rfl
     obtain ⟨e3,e4,a2⟩:=Cut.ex 1 b a.length 0
     refine aX rfl (fun _ _=>R_slVH dB c7 a2 rfl rfl rfl a0) (gK rfl ?_);obtain ⟨c8,a3,hm⟩:=aB hm
     refine aMn dB rfl p (i:=0) rfl Z rfl rfl rfl (aKx _ _ _) aIV (aNw rfl p (i:=0) rfl a0 a2) a3 (fun c9 (a4:aE G K (own 4 K b a.length c8::L) c9)=>(aZ (aC ⟨⟨_,a4⟩,?_⟩)))
     exact aX rfl (fun _ _=>dA rfl rfl) (aX rfl (fun _ _=>dX (v:=i64 (wr (l+((Nat.min c6.length c3.length):Int)))) rfl) (pC (cL (aC ⟨_,(zI hm).symm,bK,(Eq.trans m (congrArg (fun n=>zS b n a.length) (aLb a3))),rfl,a4⟩))))
    ·refine aT q rfl (aBk (kG (kG ?_)))
     have d0:=hr _ (zI hm).symm
     subst d0
     have hm:(fS k)=some R:=ho
     exact aM
  refine aJ (bD [0,6] (fun f w=>∃ r,eM x_ c r=some R/\f 26=zB r/\aE G K (L) w) ?_ ?_)
  ·rintro f e5 ⟨r,hm,d1,d2⟩
   unfold eM at hm
   refine aC ?_
   rcases aK hm with ⟨a5,hm⟩|⟨a5,hm⟩
   ·exact aM
   ·exact aT a5 d1 (aW (aC ⟨bK,hm,d2⟩))
  refine aU (aG (v:=Value.int .u64 c.1) (aD (xU rfl rfl) (aG (v:=zB (decide (0 < c.1))) ?_)))
  rcases aK hm with ⟨d,hm⟩|⟨d,hm⟩
  ·exact bA d rfl rfl (bA d rfl rfl (aD (cX (v:=zB true) d rfl rfl) (aI ⟨bK,true,hm,rfl,x⟩)))
  ·exact bS d rfl rfl (aG (v:=Value.int .u64 c.2) (bS d rfl rfl (aD (xU rfl rfl) (aD (eD (v:=zB (decide (9223372036854775807 < c.2))) d rfl rfl) (aI ⟨bK,decide (9223372036854775807 < c.2),hm,rfl,x⟩)))))
 refine aL (aG (v:=i64 h) (aD (cW rfl rfl) (aI ?_)))
 rcases aK hm with ⟨a6,hm⟩|⟨a6,hm⟩
 ·exact aM
 ·exact aT a6 rfl (aW (aC ⟨bK,hm,hs⟩))
theorem aEu {g:(List aV)} {R:((List (List Int)) × (List Bool))} (hm:aBH g=some R) (hs:aE G K (L) w) (h3:bL K a1 c2 g):
  Calls prog 71 ([zS a1 g.length c2]:List Value).toArray w (dQ fun v w'=>∃ g7 g8 e4 g9 h0 h1,v=zP (some ⟨h1,0,none⟩)/\List.length e4=List.length R.1/\aE G K (own 41 K g7 g8 (cP e4 R.1)::rows [2] e4 R.1::own 4 K g9 h0 R.2::box h1 154 [zS a1 g.length c2,zS g7 R.1.length g8,zS g9 R.2.length h0]::L) w'):=by
 refine aN func71 rfl (by kernel_rfl) (by show (1:Nat)<=51;decide) ?_;unfold aBH at hm
 refine aL (aH (v:=zP none) (aI (aJ (bD [0] (fun f w=>∃ x5 a p b c d4 d e,yZ g x5 a=some R/\f 3=zP (some ⟨p,0,none⟩)/\List.length d4=List.length x5/\aE G K (own 4 K d e a::own 41 K b c (cP d4 x5)::rows [2] d4 x5::box p 154 [zS a1 g.length c2,zS b x5.length c,zS d a.length e]::L) w) ?_ ?_))))
 ·rintro f p3 ⟨x5,a,p,b,c,d4,d,e,hm,h2,p4,p5⟩
  unfold yZ at hm
  refine aC (aJ (aL (aG (v:=zS a1 g.length c2) (aD (bF (len:=g.length) pU rfl) (aG (v:=i64 0) (aI (aR [3] (fun f w=>∃ c1 e5,aFW a c1=some R/\List.length e5=List.length c1/\aE G K (own 4 K d e a::own 41 K b c (cP e5 c1)::rows [2] e5 c1::box p 154 [zS a1 g.length c2,zS b c1.length c,zS d a.length e]::L) w) aM ?_)))))));obtain ⟨p6,k1,ho⟩:=aB hm
  refine bX [3,18,19] k1 (fun a3 o f w=>∃ b0,f 20=i64 o/\List.length b0=List.length a3/\aE G K (own 4 K d e a::own 41 K b c (cP b0 a3)::rows [2] b0 a3::box p 154 [zS a1 g.length c2,zS b a3.length c,zS d a.length e]::L) w) aM ?_
  ·rintro a3 o h4 f p7 hm hr ⟨b0,d5,p8,h5⟩
   unfold mE at hm
   refine aL (aD (cW d5 rfl) (aI (aJ ?_)))
   rcases aK hm with ⟨h6,hm⟩|⟨h6,hm⟩
   ·refine aQ h6 rfl (aW (aC (aJ (aR [3,18,19,20] (fun f w=>∃ b1 c3,yX o b1=some h4/\List.length c3=List.length b1/\aE G K (own 4 K d e a::own 41 K b c (cP c3 b1)::rows [2] c3 b1::box p 154 [zS a1 g.length c2,zS b b1.length c,zS d a.length e]::L) w) ?_ ?_))))
    ·rintro f p9 ⟨b1,c3,hm,k2,k3⟩
     unfold yX at hm
     exact aC (aU (aD (dA d5 rfl) (aG (v:=i64 (wr (o+1))) (aI ⟨_,(zI hm).symm,bK,c3,rfl,k2,k3⟩))))
    refine aL (bI d5 ?_);obtain ⟨r,h7,hm⟩:=aB hm
    refine aD (dD pU rfl h3 rfl rfl d5 h7) ?_;obtain ⟨q0,k4,k5⟩:=bL.el (sz:=3) rfl h3 h7
    obtain ⟨d6,d7,rfl,h8⟩:=k5
    refine aD (lV (t:=0) (vs:=[i64 r.Owner,i64 r.Priority,zS d6 r.Next.length d7]) aJa h5 k4 rfl rfl rfl) (cT (vs:=[i64 0,i64 0,zS none 0 0]) zeroValue100 h5 rfl (fun k6 q1 k7=>(aH (v:=i64 o) (eW (i:=0) (ns:=[i64 r.Owner,i64 r.Priority,zS d6 r.Next.length d7]) (us:=[i64 r.Owner,i64 r.Priority,zS d6 r.Next.length d7]) sizeOf100 k7 rfl rfl rfl rfl rfl (gH rfl) rfl rfl (fun k8 (k9:aE G K (box k6 100 [i64 r.Owner,i64 r.Priority,zS d6 r.Next.length d7]::own 4 K d e a::own 41 K b c (cP b0 a3)::rows [2] b0 a3::box p 154 [zS a1 g.length c2,zS b a3.length c,zS d a.length e]::L) k8)=>(aI (aL (aD (bU (t':=2) aBo rfl rfl) (aD (eP xX k9 (i:=0) rfl rfl rfl) (aD (bF (len:=r.Next.length) bJ rfl) (aG (v:=i64 0) (aI (aR [3,18,19,20] (fun f w=>∃ c4 e6,aCW o c4=some h4/\List.length e6=List.length c4/\aE G K (own 4 K d e a::own 41 K b c (cP e6 c4)::rows [2] e6 c4::box p 154 [zS a1 g.length c2,zS b c4.length c,zS d a.length e]::L) w) aM ?_)))))))))))))
    obtain ⟨q2,l0,ho⟩:=aB hm
    refine bX [3,4,18,19,20,26,27] l0 (fun l d8 f w=>∃ k,f 28=i64 d8/\List.length k=List.length l/\aE G K (own 4 K d e a::own 41 K b c (cP k l)::rows [2] k l::box p 154 [zS a1 g.length c2,zS b l.length c,zS d a.length e]::L) w) aM ?_
    ·rintro l d8 l1 f q3 hm hr ⟨k,e7,a4,h9⟩
     unfold mD at hm
     refine aL (aD (cW e7 rfl) (aI (aJ ?_)))
     rcases aK hm with ⟨i0,hm⟩|⟨i0,hm⟩
     ·refine aQ i0 rfl (aW (aC (aJ (cD (aL ?_)))));obtain ⟨m,i1,hm⟩:=aB hm
      refine aD (dD bJ rfl h8 rfl rfl e7 i1) ?_;obtain ⟨q4,l2,l3⟩:=bL.el (sz:=1) rfl h8 i1
      cases l3
      refine aD (bG (t:=0) dM h9 l2 rfl rfl) (aH (v:=i64 m) (aI (bD [3,4,18,19,20,26,27,28] (fun f w=>∃ b2 c5,yY d8 b2=some l1/\List.length c5=List.length b2/\aE G K (own 4 K d e a::own 41 K b c (cP c5 b2)::rows [2] c5 b2::box p 154 [zS a1 g.length c2,zS b b2.length c,zS d a.length e]::L) w) ?_ ?_)))
      ·rintro f q5 ⟨b2,c5,hm,l4,l5⟩
       unfold yY at hm
       exact cL (aC (aU (aD (dA e7 rfl) (aG (v:=i64 (wr (d8+1))) (aI ⟨_,(zI hm).symm,bK,c5,rfl,l4,l5⟩)))))
      obtain ⟨z,d9,i2,l6,i3⟩:=aE.lendBp h9 zt3
      refine aDc (C:=fun w'=>∃ L',aE G z L' w') [16] Tryz_mixed (by kernel_rfl) (fun q6 l7=>?_)
      have n:=aE.mono l6 l7
      refine oV (i:=0) rfl (by kernel_rfl) ⟨_,n⟩ (fun _ _=>aY h2) (oV (i:=1) rfl (by kernel_rfl) ⟨_,n⟩ (fun _ _=>aIL rfl) (oV (i:=2) rfl (by kernel_rfl) ⟨_,n⟩ (fun _ _=>bU (t':=1) aEJ rfl rfl) (oV (i:=3) rfl (by kernel_rfl) ⟨_,n⟩ (fun _ ⟨_,n⟩=>bG (t:=1) sc_32 n i2 rfl rfl) (oV (i:=4) rfl (by kernel_rfl) ⟨_,n⟩ (fun _ _=>aY (v:=i64 m) rfl) (oV (i:=5) rfl (by kernel_rfl) ⟨_,n⟩ (fun _ _=>aY h2) (oV (i:=6) rfl (by kernel_rfl) ⟨_,n⟩ (fun _ _=>aIL rfl) (oV (i:=7) rfl (by kernel_rfl) ⟨_,n⟩ (fun _ _=>bU (t':=1) aEJ rfl rfl) (oV (i:=8) rfl (by kernel_rfl) ⟨_,n⟩ (fun _ ⟨_,n⟩=>bG (t:=1) sc_32 n i2 rfl rfl) (oV (i:=9) rfl (by kernel_rfl) ⟨_,n⟩ (fun _ _=>aY (v:=i64 m) rfl) ?_)))))))))
      obtain ⟨e0,y,hm⟩:=aB hm
      obtain ⟨⟨e1,e2⟩,a5⟩:=get_hd a4 y
      have e8:=bV n (i:=1) rfl (aGH a4 y a5)
      refine oV (i:=10) rfl (by kernel_rfl) ⟨_,n⟩ (fun _ _=>cQ mN rfl e8 rfl rfl rfl y) (oV (i:=12) rfl (by kernel_rfl) ⟨_,n⟩ (fun _ _=>aY (v:=i64 o) rfl) (aFv (i:=11) (j:=13) (by kernel_rfl) rfl rfl ?_ ?_))
      ·refine aD (nB (t:=0) xX n (i:=1) rfl (aGH a4 y a5) rfl rfl rfl) (aZ (aC ⟨fun _=>⟨_,n⟩,?_⟩))
       refine hQ (i:=13) (by kernel_rfl) rfl (bM (Kt:=K) (xs:=([o]:List Int)) (cs:=[i64 o]) (vs:=[(0,i64 o)]) bJ lN rfl rfl n rfl (by kernel_rfl) rfl rfl rfl ⟨rfl,trivial⟩ (fun e9 f0 (i4:aE G z (own 2 K e9 1 ([o]:List Int)::own 4 K d e a::own 41 K b c (cP k l)::rows [2] k l::L) f0)=>(aZ (aC ⟨fun _=>⟨_,i4⟩,?_⟩))))
       refine hQ (i:=14) (by kernel_rfl) rfl ?_
       have l8:aE G z (own 41 K b c (cP k l)::rows [2] ((k).eraseIdx m.toNat) ((l).eraseIdx m.toNat)::own 2 K e1 e2 e0::own 2 K e9 1 ([o]:List Int)::own 4 K d e a::L) f0:=aE.focusR (i:=2) i4 rfl rfl a5 y
       obtain ⟨f1,l9,hm⟩:=aB hm
       have m0:aE G z (own 2 K e9 1 ([o]:List Int)::own 41 K b c (cP k l)::rows [2] ((k).eraseIdx m.toNat) ((l).eraseIdx m.toNat)::own 2 K e1 e2 e0::own 4 K d e a::L) f0:=(aE.arr 4 [3,0,1,2] l8 rfl)
       refine hJ (i:=2) bJ underlying41 lN rfl rfl m0 rfl d9 d9 l9 rfl rfl rfl rfl (fun _ h=>h) (fun J Z i5 (f2:aE G z (own 41 K b c (cP k l)::rows [2] ((k).eraseIdx m.toNat) ((l).eraseIdx m.toNat)::own 2 K J Z f1::own 4 K d e a::L) i5)=>(aZ (aC ⟨fun _=>⟨_,f2⟩,?_⟩)))
       refine oV (i:=15) rfl (by kernel_rfl) ⟨_,f2⟩ (fun _ _=>cQ mN rfl e8 rfl rfl rfl y) (hQ (i:=16) (by kernel_rfl) rfl ?_)
       have m1:=i3 _ _ f2
       have m2:aE G K (own 2 K J Z f1::box p 154 [zS a1 g.length c2,zS b l.length c,zS d a.length e]::own 41 K b c (cP k l)::rows [2] ((k).eraseIdx m.toNat) ((l).eraseIdx m.toNat)::own 4 K d e a::L) i5:=(aE.arr 4 [3,0,1,2] m1 rfl)
       obtain ⟨b3,f3,hm⟩:=aB hm
       refine WO_stH (i:=1) (tys:=[2]) (hd':=(J,Z)) (e':=f1) (hds:=k) sizeOf41 m2 a4 rfl rfl rfl rfl rfl y a5 f3 rfl ?_
       intro i6 (m3:aE G K (own 41 K b c (cP (List.set k m.toNat (J,Z)) b3)::rows [2] (List.set k m.toNat (J,Z)) b3::box p 154 [zS a1 g.length c2,zS b l.length c,zS d a.length e]::own 4 K d e a::L) i6)
       have m4:aE G K (own 41 K b c (cP (List.set k m.toNat (J,Z)) b3)::rows [2] (List.set k m.toNat (J,Z)) b3::box p 154 [zS a1 g.length c2,zS b b3.length c,zS d a.length e]::own 4 K d e a::L) i6:=by rw [←(fP f3)];exact m3
       refine aZ (aC ⟨no_c rfl,?_⟩)
       exact wI (by kernel_rfl) (aC ⟨bK,b3,(List.set k m.toNat (J,Z)),hm,(set_len (hd:=((J,Z):Dp.Hd (List Int))) a4 f3),(aE.arr 4 [3,0,1,2] m4 rfl)⟩)
      ·refine bM (Kt:=K) (xs:=([o]:List Int)) (cs:=[i64 o]) (vs:=[(0,i64 o)]) bJ lN rfl rfl n rfl (by kernel_rfl) rfl rfl rfl ⟨rfl,trivial⟩ (fun f4 f5 (e3:aE G z (own 2 K f4 1 ([o]:List Int)::own 4 K d e a::own 41 K b c (cP k l)::rows [2] k l::L) f5)=>(aZ (aC ⟨fun _=>⟨_,e3⟩,?_⟩)))
       refine hQ (i:=11) (by kernel_rfl) rfl (aD (nB (t:=0) xX e3 (i:=2) rfl (aGH a4 y a5) rfl rfl rfl) (aZ (aC ⟨fun _=>⟨_,e3⟩,?_⟩)))
       refine hQ (i:=14) (by kernel_rfl) rfl ?_
       have m5:aE G z (own 41 K b c (cP k l)::rows [2] ((k).eraseIdx m.toNat) ((l).eraseIdx m.toNat)::own 2 K e1 e2 e0::own 2 K f4 1 ([o]:List Int)::own 4 K d e a::L) f5:=aE.focusR (i:=2) e3 rfl rfl a5 y
       obtain ⟨f6,m6,hm⟩:=aB hm
       have m7:aE G z (own 2 K f4 1 ([o]:List Int)::own 41 K b c (cP k l)::rows [2] ((k).eraseIdx m.toNat) ((l).eraseIdx m.toNat)::own 2 K e1 e2 e0::own 4 K d e a::L) f5:=(aE.arr 4 [3,0,1,2] m5 rfl)
       refine hJ (i:=2) bJ underlying41 lN rfl rfl m7 rfl d9 d9 m6 rfl rfl rfl rfl (fun _ h=>h) (fun a0 a2 i7 (f7:aE G z (own 41 K b c (cP k l)::rows [2] ((k).eraseIdx m.toNat) ((l).eraseIdx m.toNat)::own 2 K a0 a2 f6::own 4 K d e a::L) i7)=>(aZ (aC ⟨fun _=>⟨_,f7⟩,?_⟩)))
       refine oV (i:=15) rfl (by kernel_rfl) ⟨_,f7⟩ (fun _ _=>cQ mN rfl e8 rfl rfl rfl y) (hQ (i:=16) (by kernel_rfl) rfl ?_)
       have m8:=i3 _ _ f7
       have m9:aE G K (own 2 K a0 a2 f6::box p 154 [zS a1 g.length c2,zS b l.length c,zS d a.length e]::own 41 K b c (cP k l)::rows [2] ((k).eraseIdx m.toNat) ((l).eraseIdx m.toNat)::own 4 K d e a::L) i7:=(aE.arr 4 [3,0,1,2] m8 rfl)
       obtain ⟨b5,f8,hm⟩:=aB hm
       refine WO_stH (i:=1) (tys:=[2]) (hd':=(a0,a2)) (e':=f6) (hds:=k) sizeOf41 m9 a4 rfl rfl rfl rfl rfl y a5 f8 rfl ?_
       intro i8 (n0:aE G K (own 41 K b c (cP (List.set k m.toNat (a0,a2)) b5)::rows [2] (List.set k m.toNat (a0,a2)) b5::box p 154 [zS a1 g.length c2,zS b l.length c,zS d a.length e]::own 4 K d e a::L) i8)
       have n1:aE G K (own 41 K b c (cP (List.set k m.toNat (a0,a2)) b5)::rows [2] (List.set k m.toNat (a0,a2)) b5::box p 154 [zS a1 g.length c2,zS b b5.length c,zS d a.length e]::own 4 K d e a::L) i8:=by rw [←(fP f8)];exact n0
       refine aZ (aC ⟨no_c rfl,?_⟩)
       exact wI (by kernel_rfl) (aC ⟨bK,b5,(List.set k m.toNat (a0,a2)),hm,(set_len (hd:=((a0,a2):Dp.Hd (List Int))) a4 f8),(aE.arr 4 [3,0,1,2] n1 rfl)⟩)
     ·exact aM
   ·exact aM
 refine aDc (C:=fun w'=>∃ L',aE G K L' w') [] Tryz_mixed (by kernel_rfl) (fun q7 n2=>?_)
 have a7:=aE.mono hs n2
 refine oV (i:=0) rfl (by kernel_rfl) ⟨_,a7⟩ (fun _ _=>aY (v:=zS a1 g.length c2) rfl) (oV (i:=1) rfl (by kernel_rfl) ⟨_,a7⟩ (fun _ _=>aY (v:=zS a1 g.length c2) rfl) (oV (i:=2) rfl (by kernel_rfl) ⟨_,a7⟩ (fun _ _=>bF (len:=g.length) pU rfl) (oV (i:=5) rfl (by kernel_rfl) ⟨_,a7⟩ (fun _ _=>aY (v:=zS a1 g.length c2) rfl) (oV (i:=6) rfl (by kernel_rfl) ⟨_,a7⟩ (fun _ _=>bF (len:=g.length) pU rfl) (aFv (i:=3) (j:=4) (by kernel_rfl) rfl rfl ?_ ?_)))))
 ·obtain ⟨q,i9,hm⟩:=aB hm
  refine WO_mkD (tys:=[2]) (hd:=((none,0):Dp.Hd (List Int))) mN aEl rfl rfl a7 rfl rfl rfl i9 rfl (aLm _) ?_
  intro a8 n3 (j0:aE G K (own 41 K a8 q.length (cP (List.replicate (g.length:Int).toNat ((none,0):Dp.Hd (List Int))) q)::rows [2] (List.replicate (g.length:Int).toNat ((none,0):Dp.Hd (List Int))) q::L) n3)
  refine aZ (aC ⟨fun _=>⟨_,j0⟩,?_⟩)
  refine hQ (i:=4) (by kernel_rfl) rfl (bM (Kt:=K) (xs:=([true]:List Bool)) (cs:=[zB true]) (vs:=[(0,zB true)]) dB aGP rfl rfl j0 rfl (by kernel_rfl) rfl rfl rfl ⟨rfl,trivial⟩ ?_)
  intro j1 n4 (j2:aE G K (own 4 K j1 1 ([true]:List Bool)::own 41 K a8 q.length (cP (List.replicate (g.length:Int).toNat ((none,0):Dp.Hd (List Int))) q)::rows [2] (List.replicate (g.length:Int).toNat ((none,0):Dp.Hd (List Int))) q::L) n4)
  refine aZ (aC ⟨fun _=>⟨_,j2⟩,?_⟩)
  refine hQ (i:=7) (by kernel_rfl) rfl ?_;obtain ⟨q8,q9,n5,n6,n7⟩:=aE.lendSp j2 (zR _) .head
  obtain ⟨c6,n8,hm⟩:=aB hm
  refine aP (vs:=[zS j1 ([true]:List Bool).length 1,i64 (g.length:Int)]) call119 rfl (fH n8 n6 n5) ?_
  rintro _ r0 ⟨c8,c9,rfl,n9⟩
  have f9:=n7 _ _ n9
  refine aZ (aC ⟨fun _=>⟨_,f9⟩,?_⟩)
  refine oV (i:=8) rfl (by kernel_rfl) ⟨_,f9⟩ (fun _ _=>cN (vs:=[(0,zS a1 g.length c2),(1,zS a8 q.length q.length),(2,zS c8 c6.length c9)]) (cs:=[zS a1 g.length c2,zS a8 q.length q.length,zS c8 c6.length c9]) aJc rfl (by kernel_rfl)) (hQ (i:=9) (by kernel_rfl) rfl (gO (v:=zA #[zS a1 g.length c2,zS a8 q.length q.length,zS c8 c6.length c9]) (vs:=[zS a1 g.length c2,zS a8 q.length q.length,zS c8 c6.length c9]) f9 rfl rfl (fun j3 r1 g0=>(aZ (aC ⟨fun _=>⟨_,g0⟩,?_⟩)))))
  exact oV (i:=10) rfl (by kernel_rfl) ⟨_,g0⟩ (fun _ _=>dX (v:=zP (some ⟨j3,0,none⟩)) rfl) (wI (by kernel_rfl) (aC ⟨bK,q,c6,j3,a8,q.length,(List.replicate (g.length:Int).toNat ((none,0):Dp.Hd (List Int))),c8,c9,hm,rfl,(aFu (hd:=((none,0):Dp.Hd (List Int))) i9).2.1,(aE.arr 5 [2,3,4,0] g0 rfl)⟩))
 ·refine bM (Kt:=K) (xs:=([true]:List Bool)) (cs:=[zB true]) (vs:=[(0,zB true)]) dB aGP rfl rfl a7 rfl (by kernel_rfl) rfl rfl rfl ⟨rfl,trivial⟩ (fun d0 o0 (g1:aE G K (own 4 K d0 1 ([true]:List Bool)::L) o0)=>(aZ (aC ⟨fun _=>⟨_,g1⟩,?_⟩)))
  refine aFv (i:=3) (j:=7) (by kernel_rfl) rfl rfl ?_ ?_
  ·obtain ⟨u,j4,hm⟩:=aB hm
   refine WO_mkD (tys:=[2]) (hd:=((none,0):Dp.Hd (List Int))) mN aEl rfl rfl g1 rfl rfl rfl j4 rfl (aLm _) ?_
   intro b6 o1 (j5:aE G K (own 41 K b6 u.length (cP (List.replicate (g.length:Int).toNat ((none,0):Dp.Hd (List Int))) u)::rows [2] (List.replicate (g.length:Int).toNat ((none,0):Dp.Hd (List Int))) u::own 4 K d0 1 ([true]:List Bool)::L) o1)
   refine aZ (aC ⟨fun _=>⟨_,j5⟩,?_⟩)
   refine hQ (i:=7) (by kernel_rfl) rfl ?_;obtain ⟨r2,r3,o2,o3,o4⟩:=aE.lendSp j5 (zR _) zt2
   obtain ⟨d1,o5,hm⟩:=aB hm
   refine aP (vs:=[zS d0 ([true]:List Bool).length 1,i64 (g.length:Int)]) call119 rfl (fH o5 o3 o2) ?_
   rintro _ r4 ⟨d2,d3,rfl,o6⟩
   have g2:=o4 _ _ o6
   refine aZ (aC ⟨fun _=>⟨_,g2⟩,?_⟩)
   refine oV (i:=8) rfl (by kernel_rfl) ⟨_,g2⟩ (fun _ _=>cN (vs:=[(0,zS a1 g.length c2),(1,zS b6 u.length u.length),(2,zS d2 d1.length d3)]) (cs:=[zS a1 g.length c2,zS b6 u.length u.length,zS d2 d1.length d3]) aJc rfl (by kernel_rfl)) (hQ (i:=9) (by kernel_rfl) rfl (gO (v:=zA #[zS a1 g.length c2,zS b6 u.length u.length,zS d2 d1.length d3]) (vs:=[zS a1 g.length c2,zS b6 u.length u.length,zS d2 d1.length d3]) g2 rfl rfl (fun j6 r5 g3=>(aZ (aC ⟨fun _=>⟨_,g3⟩,?_⟩)))))
   exact oV (i:=10) rfl (by kernel_rfl) ⟨_,g3⟩ (fun _ _=>dX (v:=zP (some ⟨j6,0,none⟩)) rfl) (wI (by kernel_rfl) (aC ⟨bK,u,d1,j6,b6,u.length,(List.replicate (g.length:Int).toNat ((none,0):Dp.Hd (List Int))),d2,d3,hm,rfl,(aFu (hd:=((none,0):Dp.Hd (List Int))) j4).2.1,(aE.arr 5 [2,3,4,0] g3 rfl)⟩))
  ·replace hm:=ob_swap hm
   obtain ⟨r6,r7,o7,o8,o9⟩:=aE.lendSp g1 (zR _) .head
   obtain ⟨b7,p0,hm⟩:=aB hm
   refine aP (vs:=[zS d0 ([true]:List Bool).length 1,i64 (g.length:Int)]) call119 rfl (fH p0 o8 o7) ?_
   rintro _ r8 ⟨b8,b9,rfl,p1⟩
   have j7:=o9 _ _ p1
   refine aZ (aC ⟨fun _=>⟨_,j7⟩,?_⟩)
   refine hQ (i:=3) (by kernel_rfl) rfl ?_;obtain ⟨x,j8,hm⟩:=aB hm
   refine WO_mkD (tys:=[2]) (hd:=((none,0):Dp.Hd (List Int))) mN aEl rfl rfl j7 rfl rfl rfl j8 rfl (aLm _) ?_
   intro c0 p2 (g4:aE G K (own 41 K c0 x.length (cP (List.replicate (g.length:Int).toNat ((none,0):Dp.Hd (List Int))) x)::rows [2] (List.replicate (g.length:Int).toNat ((none,0):Dp.Hd (List Int))) x::own 4 K d0 1 ([true]:List Bool)::own 4 K b8 b9 b7::L) p2)
   refine aZ (aC ⟨fun _=>⟨_,g4⟩,?_⟩)
   refine oV (i:=8) rfl (by kernel_rfl) ⟨_,g4⟩ (fun _ _=>cN (vs:=[(0,zS a1 g.length c2),(1,zS c0 x.length x.length),(2,zS b8 b7.length b9)]) (cs:=[zS a1 g.length c2,zS c0 x.length x.length,zS b8 b7.length b9]) aJc rfl (by kernel_rfl)) (hQ (i:=9) (by kernel_rfl) rfl (gO (v:=zA #[zS a1 g.length c2,zS c0 x.length x.length,zS b8 b7.length b9]) (vs:=[zS a1 g.length c2,zS c0 x.length x.length,zS b8 b7.length b9]) g4 rfl rfl (fun j9 r9 g5=>(aZ (aC ⟨fun _=>⟨_,g5⟩,?_⟩)))))
   exact oV (i:=10) rfl (by kernel_rfl) ⟨_,g5⟩ (fun _ _=>dX (v:=zP (some ⟨j9,0,none⟩)) rfl) (wI (by kernel_rfl) (aC ⟨bK,x,b7,j9,c0,x.length,(List.replicate (g.length:Int).toNat ((none,0):Dp.Hd (List Int))),b8,b9,hm,rfl,(aFu (hd:=((none,0):Dp.Hd (List Int))) j8).2.1,(aE.arr 5 [4,1,2,0] g5 rfl)⟩))
theorem aCX {a:(List Bool)} {R:(List Int)} (hm:aDr a=some R) (q:aE G K (L) w) (y:bL K a1 c2 a):
  Calls prog 121 ([zS a1 a.length c2]:List Value).toArray w (dQ fun v w'=>∃ k l,v=zS k R.length l/\aE G K (own 2 K k l R::L) w'):=by
 refine aN func121 rfl (by kernel_rfl) (by show (1:Nat)<=20;decide) ?_;unfold aDr at hm
 refine aL (aH (v:=zS none 0 0) (aI (aL (aH (v:=zS none 0 0) (aI (aJ (aL (aG (v:=zS a1 a.length c2) (aD (bF (len:=a.length) dB rfl) (aG (v:=i64 0) (aI (aR [] (fun f w=>∃ g m n,aHY g=some R/\f 3=zS m g.length n/\aE G K (own 2 K m n g::L) w) aM ?_))))))))))))
 have z:=aE.nil (α:=Int) q 2 K
 obtain ⟨J,r,ho⟩:=aB hm
 refine bX [6,7] r (fun h b f w=>∃ i j,f 3=zS i h.length j/\f 8=i64 b/\aE G K (own 2 K i j h::L) w) aM ?_
 ·rintro h b t f Z hm hr ⟨i,j,a0,o,a2⟩
  unfold sU at hm
  refine aL (aD (cW o rfl) (aI (aJ ?_)))
  rcases aK hm with ⟨p,hm⟩|⟨p,hm⟩
  ·refine aQ p rfl (aW (aC (aJ (aR [6,7,8] (fun f w=>∃ c d e,zZ b c=some t/\f 3=zS d c.length e/\aE G K (own 2 K d e c::L) w) ?_ ?_))))
   ·rintro f a3 ⟨c,d,e,hm,u,x⟩
    unfold zZ at hm
    exact aC (aU (aD (dA o rfl) (aG (v:=i64 (wr (b+1))) (aI ⟨_,(zI hm).symm,bK,d,e,u,rfl,x⟩))))
   exact aM
  ·exact aM
theorem aBU {x_:eS} {a:Nat} {k R:Int} (hm:uT x_ k=some R) (e:aE G K (L) w) (c:dU K a1 a [zS a4 x_.g.length c5,zS a7 x_.back.length c8,zS a10 x_.in_.length c11]) (h:bL K a4 c5 x_.g) (z:bL K a7 c8 x_.back) (J:bL K a10 c11 x_.in_):
  Calls prog 122 ([cH a1 a,i64 k]:List Value).toArray w (dQ fun v w'=>v=i64 R/\aE G K (L) w'):=by
 refine aN func122 rfl (by kernel_rfl) (by show (2:Nat)<=32;decide) ?_;unfold uT at hm
 refine aL (aH (v:=i64 0) (aI (aL (aH (v:=i64 0) (aI (aJ (aL (aG (v:=cH a1 a) (aD (gN rfl c) (aD (dV (k':=a+0) qU rfl c rfl) (aD (bG (t:=0) zM e c rfl rfl) (aG (v:=i64 k) ?_))))))))))));obtain ⟨p,i,hm⟩:=aB hm
 refine aD (dD pU rfl h rfl rfl rfl i) ?_;obtain ⟨Z,j,q⟩:=bL.el (sz:=3) rfl h i
 obtain ⟨a0,a2,rfl,a3⟩:=q
 refine aD (dV (k':=k.toNat * 3+2) aBo rfl j rfl) (aD (bG (t:=2) xX e j rfl rfl) (aD (bF (len:=p.Next.length) bJ rfl) (aG (v:=i64 0) (aI (aR [] (fun f w=>∃ l,aDs l=some R/\f 5=i64 l/\aE G K (L) w) aM ?_)))));obtain ⟨a5,r,ho⟩:=aB hm
 refine bX [0,15,16] r (fun m b f w=>f 5=i64 m/\f 17=i64 b/\aE G K (L) w) aM ?_
 ·rintro m b u f a6 hm hr ⟨a8,n,a9⟩
  unfold iM at hm
  refine aL (aD (cW n rfl) (aI (aJ ?_)))
  rcases aK hm with ⟨o,hm⟩|⟨o,hm⟩
  ·refine aQ o rfl (aW (aC (aJ (aR [0,15,16,17] (fun f w=>∃ d,pO b d=some u/\f 5=i64 d/\aE G K (L) w) ?_ ?_))))
   ·rintro f b0 ⟨d,hm,x,y⟩
    unfold pO at hm
    exact aC (aU (aD (dA n rfl) (aG (v:=i64 (wr (b+1))) (aI ⟨_,(zI hm).symm,bK,x,rfl,y⟩))))
   exact aM
  ·exact aM
theorem jC {a R:(List Bool)} (hm:eH a=some R) (j:aE G K (L) w) (d:bL K a1 c2 a):
  Calls prog 120 ([zS a1 a.length c2]:List Value).toArray w (dQ fun v w'=>∃ e g,v=zS e R.length g/\aE G K (own 4 K e g R::L) w'):=by
 refine aN func120 rfl (by kernel_rfl) (by show (1:Nat)<=8;decide) ?_;unfold eH at hm
 refine aL (aH (v:=zS none 0 0) (aI (aJ (aL (aG (v:=zS a1 a.length c2) (aD (aLo dB rfl rfl) (aI ?_)))))))
 rcases aKy d with ⟨k,l,m⟩|n
 ·subst k;subst l;subst m
  refine aLZ rfl ?_
  replace hm:(some [])=some R:=hm
  exact aM
 ·refine aMa (Eq.trans rfl (congrArg zB n)) (aW (aC (aL (bM (Kt:=K) (xs:=([]:List Bool)) (cs:=[]) (vs:=[]) dB aGP rfl rfl j rfl (by kernel_rfl) rfl rfl rfl trivial (fun o p (q:aE G K (own 4 K o 0 ([]:List Bool)::L) p)=>(aG (v:=zS a1 a.length c2) ?_))))));obtain ⟨h,r,hm⟩:=aB hm
  refine aHn (i:=0) dB underlying35 aGP rfl rfl q rfl (zR _) d r rfl rfl rfl rfl (fun b c t (u:aE G K (own 4 K b c h::L) t)=>(aH (v:=zS b h.length c) (aI ?_)));obtain rfl:=zI hm
  exact pS (rT results120 rfl ⟨b,c,rfl,u⟩)
end Gv
namespace Gv
open Gv.Hp renaming le_refl→zR
open Go.Value renaming slice→zS,bool→zB,pointer→zP
open Option.some renaming inj→zI
open Gv.Hp renaming le_trans→zL
open Go Go.Proofs Go.Proofs.Tryz
set_option maxRecDepth 20000
set_option maxHeartbeats 40000000
variable {G:rY} {K:Hp} {L:List fD} {w:World} {a1 a4 a7 a10 a13 a16 a19 a22 a25 a28:Option Addr} {c5 c8 c11 c14 c20 c23 c26 c17 c2:Nat}
theorem kV {x_:eS} {p:Nat} {J:Int} {q R:(List Bool)} (hm:jN x_ J q=some R) (hs:aE G K (L) w) (r:dU K a1 p [zS a4 x_.g.length c5,zS a7 x_.back.length c8,zS a10 x_.in_.length c11]) (h6:bL K a4 c5 x_.g) (h9:bL K a7 c8 x_.back) (g8:bL K a10 c11 x_.in_) (d6:bL K a13 c14 q):
  Calls prog 75 ([cH a1 p,i64 J,zS a13 q.length c14]:List Value).toArray w (dQ fun v w'=>∃ d7 d8,v=zS d7 R.length d8/\aE G K (own 4 K d7 d8 R::L) w'):=by
 refine aN func75 rfl (by kernel_rfl) (by show (3:Nat)<=94;decide) ?_;unfold jN at hm
 refine aL (aH (v:=zS none 0 0) (aI (aL (aG (v:=zS a13 q.length c14) ?_))));obtain ⟨d9,g9,hm⟩:=aB hm
 refine aP (vs:=[zS a13 q.length c14]) call120 rfl (jC g9 hs d6) ?_
 rintro _ m0 ⟨b,c,rfl,h0⟩
 refine aH (v:=zS b d9.length c) (aI (aL (aMl Int Int h0 ?_)))
 intro d h1 (h2:aE G K (mpo d ([]:(List (Int × Int)))::own 4 K b c d9::L) h1)
 refine aH (v:=Value.map (some d)) (aI (aL (aG (v:=zS a13 q.length c14) ?_)));obtain ⟨h4,h5,hm⟩:=aB hm
 refine aP (vs:=[zS a13 q.length c14]) call121 rfl (aCX h5 h2 d6) ?_
 rintro _ m1 ⟨h7,h8,rfl,m2⟩
 refine aH (v:=zS h7 h4.length h8) (aI (aJ (aR [] (fun f w=>∃ c0,vM c0=some R/\f 7=zS b c0.length c/\aE G K (own 4 K b c c0::L) w) aM ?_)));obtain ⟨m3,i0,ho⟩:=aB hm
 refine qT [0,1,8] i0 (fun Z c1 a0 f w=>∃ a2 a3,f 7=zS b Z.length c/\f 9=zS a2 a0.length a3/\aE G K (own 2 K a2 a3 a0::mpo d c1::own 4 K b c Z::L) w) aM ?_
 ·rintro Z c1 a0 e0 f i1 hm hr ⟨a2,a3,m4,c2,a5⟩
  unfold gB at hm
  refine aJ (aL (bI c2 (aD (bF (len:=a0.length) bJ rfl) (aD (xU rfl rfl) (aI ?_)))))
  rcases aK hm with ⟨e1,hm⟩|⟨e1,hm⟩
  ·refine aQ e1 rfl (aW (aC (aR [0,1,8] (fun f w=>∃ a6 c3 a8 a9 b0,vN a6 c3 a8=some e0/\f 7=zS b a6.length c/\f 9=zS a9 a8.length b0/\aE G K (own 2 K a9 b0 a8::mpo d c3::own 4 K b c a6::L) w) ?_ ?_)))
   ·rintro f m5 ⟨a6,c3,a8,a9,b0,hm,i2,i3,i4⟩
    unfold vN at hm
    exact aC ⟨_,(zI hm).symm,bK,a9,b0,i2,i3,i4⟩
   refine aL (bI c2 ?_);obtain ⟨e2,c4,hm⟩:=aB hm
   have i5:=bV a5 (i:=0) rfl c4
   refine aD (cQ bJ rfl i5 rfl rfl rfl c4) (aD (nB (t:=0) dM a5 (i:=0) rfl c4 rfl rfl rfl) (aH (v:=i64 e2) (aI (aL (bI c2 ?_)))));obtain ⟨e3,e4,hm⟩:=aB hm
   have i6:=aCj a5 (i:=0) rfl
   obtain ⟨e5,e6,e7⟩:=Cut.ex 1 a2 a3 1
   refine aD (aLp bJ i6 e7 rfl rfl rfl e4) ?_
   have e8:aE G K (own 2 K e5 e6 e3::mpo d c1::own 4 K b c Z::L) i1:=aE.cutP a5 (i:=0) rfl e4 e7
   refine aH (v:=zS e5 e3.length e6) (aI (aL (aG (v:=cH a1 p) (aD (gN rfl r) (aD (dV (k':=p+1) aEJ rfl r rfl) (aD (bG (t:=1) sc_32 e8 r rfl rfl) (aG (v:=i64 e2) ?_)))))));obtain ⟨i7,e9,hm⟩:=aB hm
   refine aD (dD mN rfl h9 rfl rfl rfl e9) ?_;obtain ⟨m6,i8,i9⟩:=bL.el (sz:=1) rfl h9 e9
   obtain ⟨m7,m8,rfl,f0⟩:=i9
   refine aD (bG (t:=0) xX e8 i8 rfl rfl) (aD (bF (len:=i7.length) bJ rfl) (aG (v:=i64 0) (aI (aR [0,1,8] (fun f w=>∃ c6 f1 c7 f2 f3,aBI c6 f1 c7=some e0/\f 7=zS b c6.length c/\f 9=zS f2 c7.length f3/\aE G K (own 2 K f2 f3 c7::mpo d f1::own 4 K b c c6::L) w) aM ?_))));obtain ⟨m9,j0,ho⟩:=aB hm
   refine aEB [0,1,8,34,35] j0 (fun j l e u f w=>∃ m o,f 7=zS b j.length c/\f 9=zS m e.length o/\f 36=i64 u/\aE G K (own 2 K m o e::mpo d l::own 4 K b c j::L) w) aM ?_
   ·rintro j l e u b1 f n0 hm hr ⟨m,o,f4,j1,c9,j2⟩
    unfold gA at hm
    refine aL (aD (cW c9 rfl) (aI (aJ ?_)))
    rcases aK hm with ⟨f5,hm⟩|⟨f5,hm⟩
    ·refine aQ f5 rfl (aW (aC (aJ (aR [0,1,8,34,35,36] (fun f w=>∃ b2 d0 b3 b4 b5,iE u b2 d0 b3=some b1/\f 7=zS b b2.length c/\f 9=zS b4 b3.length b5/\aE G K (own 2 K b4 b5 b3::mpo d d0::own 4 K b c b2::L) w) ?_ ?_))))
     ·rintro f n1 ⟨b2,d0,b3,b4,b5,hm,j3,j4,j5⟩
      unfold iE at hm
      exact aC (aU (aD (dA c9 rfl) (aG (v:=i64 (wr (u+1))) (aI ⟨_,(zI hm).symm,bK,b4,b5,j3,j4,rfl,j5⟩))))
     refine aL ?_;obtain ⟨a,f6,hm⟩:=aB hm
     refine aD (dD bJ rfl f0 rfl rfl c9 f6) ?_;obtain ⟨n2,j6,j7⟩:=bL.el (sz:=1) rfl f0 f6
     cases j7
     refine aD (bG (t:=0) dM j2 j6 rfl rfl) (aH (v:=i64 a) (aI (aJ (aJ (bD [0,1,7,8,9,12,34,35,36] (fun f w=>∃ d1,kC x_ J j l e u a d1=some b1/\f 53=zB d1/\aE G K (own 2 K m o e::mpo d l::own 4 K b c j::L) w) ?_ ?_)))))
     ·rintro f n3 ⟨d1,hm,j8,b6⟩
      unfold kC at hm
      refine aC ?_
      rcases aK hm with ⟨f7,hm⟩|⟨f7,hm⟩
      ·exact aM
      ·refine aT f7 j8 (aW (aC (jV [0,1,7,8,9,12,34,35,36] (fun f w=>∃ x,kA j e u a x=some b1/\aE G K (own 2 K m o e::mpo d x::own 4 K b c j::L) w) ?_ ?_)))
       ·rintro f n4 ⟨x,hm,f8⟩
        unfold kA at hm
        refine aL (bI f4 (aG (v:=i64 a) ?_));obtain ⟨n5,d2,hm⟩:=aB hm
        have j9:=bV f8 (i:=2) rfl d2
        refine aD (cQ dB rfl j9 rfl rfl rfl d2) ?_;obtain ⟨b7,f9,hm⟩:=aB hm
        refine gP (i:=2) (t:=0) (ns:=[zB true]) (e':=(true:Bool)) sizeOf4 f8 rfl (zR _) rfl rfl rfl d2 f9 rfl rfl (gH rfl) rfl (fun cs h=>by cases h;rfl) (fun k0 (k1:aE G K (own 2 K m o e::mpo d x::own 4 K b c b7::L) k0)=>(aI (aU (bI j1 (aG (v:=i64 a) (bM (Kt:=K) (xs:=([a]:List Int)) (cs:=[i64 a]) (vs:=[(0,i64 a)]) bJ lN rfl rfl k1 rfl (by kernel_rfl) rfl rfl rfl ⟨rfl,trivial⟩ (fun k3 k4 (k5:aE G K (own 2 K k3 1 ([a]:List Int)::own 2 K m o e::mpo d x::own 4 K b c b7::L) k4)=>?_)))))))
        obtain ⟨d3,k6,hm⟩:=aB hm
        exact hJ (i:=0) bJ underlying41 lN rfl rfl k5 rfl (zR _) (zR _) k6 rfl rfl rfl rfl (fun _ h=>h) (fun d4 d5 k7 (k8:aE G K (own 2 K d4 d5 d3::mpo d x::own 4 K b c b7::L) k7)=>(aH (v:=zS d4 d3.length d5) (aZ (cL (aC ⟨bK,b7,x,d3,d4,d5,hm,(Eq.trans f4 (congrArg (fun n=>zS b n c) (fP f9))),rfl,k8⟩)))))
       refine aL (aG (v:=cH a1 p) (aD (gN rfl r) (aD (dV (k':=p+0) qU rfl r rfl) (aD (bG (t:=0) zM b6 r rfl rfl) (aG (v:=i64 a) ?_)))));obtain ⟨n6,g0,hm⟩:=aB hm
       refine aD (dD pU rfl h6 rfl rfl rfl g0) ?_;obtain ⟨n7,g1,k9⟩:=bL.el (sz:=3) rfl h6 g0
       obtain ⟨n8,n9,rfl,o0⟩:=k9
       refine aD (dV (k':=a.toNat * 3+0) aDg rfl g1 rfl) (aD (bG (t:=0) dM b6 g1 rfl rfl) (aG (v:=i64 J) (aD (aCf rfl rfl) (aI ?_))))
       rcases aK hm with ⟨g2,hm⟩|⟨g2,hm⟩
       ·refine aQ g2 rfl (jV [0,1,7,8,9,12,34,35,36] (fun f w=>∃ y,kB j e u a y=some b1/\aE G K (own 2 K m o e::mpo d y::own 4 K b c j::L) w) ?_ ?_)
        ·rintro f o1 ⟨y,hm,g3⟩
         unfold kB at hm
         refine aL (aG (v:=Value.map (some d)) (aG (v:=i64 a) (aD (aLn (kv:=y) (k:=a) (z:=(0:Int)) runUnderlying156 ko_2 zeroValue3 g3 (i:=1) rfl rfl rfl) (aD (pT rfl rfl) ?_))));obtain ⟨g4,l0,hm⟩:=aB hm
         refine aIT (i:=1) (k:=a) (v:=wr (((kF y a).getD 0) - 1)) runUnderlying156 ko_2 g3 rfl rfl rfl rfl l0 (fun l1 (l2:aE G K (own 2 K m o e::mpo d g4::own 4 K b c j::L) l1)=>(aI (aL (aG (v:=Value.map (some d)) (aG (v:=i64 a) (aD (aLn (kv:=g4) (k:=a) (z:=(0:Int)) runUnderlying156 ko_2 zeroValue3 l2 (i:=1) rfl rfl rfl) (aD (xU rfl rfl) (aI ?_))))))))
         rcases aK hm with ⟨l3,hm⟩|⟨l3,hm⟩
         ·exact aM
         ·exact aM
        refine aL (aG (v:=Value.map (some d)) (aG (v:=i64 a) (aD (R_look (kv:=l) (k:=a) (z:=(0:Int)) runUnderlying156 ko_2 zeroValue3 b6 (i:=1) rfl rfl rfl) (aG (v:=Value.tuple #[i64 ((kF l a).getD 0),zB ((kF l a).isSome)]) (aD (bW rfl rfl) (aD (bW rfl rfl) (aH (v:=i64 ((kF l a).getD 0)) (aH (v:=zB ((kF l a).isSome)) (aI (aL (aG (v:=zB ((kF l a).isSome)) (aD (tZ rfl) (aI ?_)))))))))))))
        rcases aK hm with ⟨g5,hm⟩|⟨g5,hm⟩
        ·refine aQ g5 rfl (aU (aG (v:=Value.map (some d)) (aG (v:=i64 a) (aG (v:=cH a1 p) (aG (v:=i64 a) ?_)))));obtain ⟨l4,l5,hm⟩:=aB hm
         refine aP (vs:=[cH a1 p,i64 a]) call122 rfl (aBU l5 b6 r h6 h9 g8) ?_
         rintro _ o2 ⟨rfl,l6⟩
         obtain ⟨g6,l7,hm⟩:=aB hm
         exact aIT (i:=1) (k:=a) (v:=l4) runUnderlying156 ko_2 l6 rfl rfl rfl rfl l7 (fun l8 (l9:aE G K (own 2 K m o e::mpo d g6::own 4 K b c j::L) l8)=>(aI ⟨bK,g6,hm,l9⟩))
        ·exact aM
       ·exact aM
     exact aM
    ·exact aM
  ·exact aM
theorem kW {x_:eS} {e:Nat} {o R:(List Bool)} (hm:jO x_ o=some R) (hs:aE G K (L) w) (d:dU K a1 e [zS a4 x_.g.length c5,zS a7 x_.back.length c8,zS a10 x_.in_.length c11]) (h6:bL K a4 c5 x_.g) (h9:bL K a7 c8 x_.back) (c2:bL K a10 c11 x_.in_) (a2:bL K a13 c14 o):
  Calls prog 76 ([cH a1 e,zS a13 o.length c14]:List Value).toArray w (dQ fun v w'=>∃ a3 a5 a6,v=zP (some ⟨a6,0,none⟩)/\aE G K (own 4 K a3 a5 R::box a6 154 [zS a4 x_.g.length c5,zS a7 x_.back.length c8,zS a3 R.length a5]::L) w'):=by
 refine aN func76 rfl (by kernel_rfl) (by show (2:Nat)<=49;decide) ?_;unfold jO at hm
 refine aL (aH (v:=zP none) (aI (aJ (cM (C:=fun w'=>∃ L',aE G K L' w') [(0,0),(1,0),(2,0),(3,0),(4,0),(5,0),(6,0),(7,0),(8,0),(9,0),(10,0),(11,0),(12,1),(13,0),(14,1),(15,0)] Tryz_mixed (by kernel_rfl) (fun _ hg=>⟨_,aE.mono hs hg⟩) (fun e8 c3=>?_)))))
 have k:=aE.mono hs c3
 refine aX rfl (fun _ _=>aY (v:=cH a1 e) rfl) (aX rfl (fun _ _=>gN rfl d) (aX rfl (fun _ _=>dV (k':=e+0) qU rfl d rfl) (aX rfl (fun _ ⟨_,k⟩=>bG (t:=0) zM k d rfl rfl) (aX rfl (fun _ _=>aY (v:=cH a1 e) rfl) (aX rfl (fun _ _=>gN rfl d) (aX rfl (fun _ _=>dV (k':=e+1) aEJ rfl d rfl) (aX rfl (fun _ ⟨_,k⟩=>bG (t:=1) sc_32 k d rfl rfl) (aX rfl (fun _ _=>aY (v:=cH a1 e) rfl) (aX rfl (fun _ _=>gN rfl d) (aX rfl (fun _ _=>dV (k':=e+2) uJ rfl d rfl) (aX rfl (fun _ ⟨_,k⟩=>bG (t:=2) aBp k d rfl rfl) (gK rfl ?_))))))))))))
 obtain ⟨r,c4,hm⟩:=aB hm
 refine aP (vs:=[zS a10 x_.in_.length c11]) call120 rfl (jC c4 k c2) ?_
 rintro _ e9 ⟨a,b,rfl,a8⟩
 refine aZ (aC ⟨⟨_,a8⟩,?_⟩)
 refine aX rfl (fun _ _=>cN (vs:=[(0,zS a4 x_.g.length c5),(1,zS a7 x_.back.length c8),(2,zS a r.length b)]) (cs:=[zS a4 x_.g.length c5,zS a7 x_.back.length c8,zS a r.length b]) aJc rfl (by kernel_rfl)) (gK rfl (gO (v:=Value.agg #[zS a4 x_.g.length c5,zS a7 x_.back.length c8,zS a r.length b]) (vs:=[zS a4 x_.g.length c5,zS a7 x_.back.length c8,zS a r.length b]) a8 rfl rfl (fun c f0 c6=>(aZ (aC ⟨⟨_,c6⟩,?_⟩)))))
 refine aX rfl (fun _ _=>dX (v:=zP (some ⟨c,0,none⟩)) rfl) (pC (aC (aJ (aL (aG (v:=zS a13 o.length c14) (aD (bF (len:=o.length) dB rfl) (aG (v:=i64 0) (aI (aR [5] (fun f w=>∃ y,aBJ y=some R/\aE G K (box c 154 [zS a4 x_.g.length c5,zS a7 x_.back.length c8,zS a y.length b]::own 4 K a b y::L) w) aM ?_)))))))));obtain ⟨f1,c7,ho⟩:=aB hm
 refine bX [5,23,24] c7 (fun p l f w=>f 25=i64 l/\aE G K (box c 154 [zS a4 x_.g.length c5,zS a7 x_.back.length c8,zS a p.length b]::own 4 K a b p::L) w) aM ?_
 ·rintro p l c9 f f2 hm hr ⟨u,a9⟩
  unfold iF at hm
  refine aL (aD (cW u rfl) (aI (aJ ?_)))
  rcases aK hm with ⟨b0,hm⟩|⟨b0,hm⟩
  ·refine aQ b0 rfl (aW (aC (aJ (cD (aL (bI u ?_))))));obtain ⟨q,b1,hm⟩:=aB hm
   refine aD (dD dB rfl a2 rfl rfl u b1) ?_;obtain ⟨f3,d0,d1⟩:=bL.el (sz:=1) rfl a2 b1
   cases d1
   refine aD (bG (t:=0) aCc a9 d0 rfl rfl) (aH (v:=i64 l) (aH (v:=zB q) (aI (bD [5,23,24,25] (fun f w=>∃ x,mW l x=some c9/\aE G K (box c 154 [zS a4 x_.g.length c5,zS a7 x_.back.length c8,zS a x.length b]::own 4 K a b x::L) w) ?_ ?_))))
   ·rintro f f4 ⟨x,hm,d2⟩
    unfold mW at hm
    exact cL (aC (aU (aD (dA u rfl) (aG (v:=i64 (wr (l+1))) (aI ⟨_,(zI hm).symm,bK,rfl,d2⟩)))))
   obtain ⟨f5,d3,b2,d4,b3⟩:=aE.lendBp a9 .head
   obtain ⟨d5,b4,b5,b6,b7⟩:=aE.lendSp d4 d3 .head
   refine cM (C:=fun w'=>∃ L',aE G d5 L' w') [(0,0),(1,0),(2,0),(3,0),(4,0),(5,0),(6,0),(7,0),(8,0),(9,0),(10,0),(11,0),(12,0),(13,0),(14,0),(15,0),(16,0),(17,2)] Tryz_mixed (by kernel_rfl) (fun _ hg=>⟨_,aE.mono b6 hg⟩) (fun f6 d6=>?_)
   have j:=aE.mono b6 d6
   refine aX rfl (fun _ _=>aY (v:=zP (some ⟨c,0,none⟩)) rfl) (aX rfl (fun _ _=>aIL rfl) (aX rfl (fun _ _=>bU (t':=2) uJ rfl rfl) (aX rfl (fun _ ⟨_,j⟩=>bG (t:=2) aBp j (b2.mono b4) rfl rfl) (aX rfl (fun _ _=>aY (v:=i64 l) rfl) (aX rfl (fun _ _=>aY (v:=zP (some ⟨c,0,none⟩)) rfl) (aX rfl (fun _ _=>aIL rfl) (aX rfl (fun _ _=>bU (t':=2) uJ rfl rfl) (aX rfl (fun _ ⟨_,j⟩=>bG (t:=2) aBp j (b2.mono b4) rfl rfl) (aX rfl (fun _ _=>aY (v:=i64 l) rfl) ?_)))))))))
   obtain ⟨d7,m,hm⟩:=aB hm
   have z:=aCi b5 m
   refine aX rfl (fun _ _=>cQ dB rfl z rfl rfl rfl m) ?_;obtain ⟨f7,d8,d9⟩:=bL.el (sz:=1) rfl b5 m
   cases d9
   refine aX rfl (fun _ ⟨_,j⟩=>bG (t:=0) aCc j d8 rfl rfl) (aX rfl (fun _ _=>aY (v:=zB d7) rfl) ?_)
   rcases aK hm with ⟨n,hm⟩|⟨n,hm⟩
   ·refine WE_vg rfl rfl rfl n (fun _ _=>aY (v:=zB q) rfl) (WE_vg rfl rfl rfl n (fun _ _=>tZ rfl) (aX rfl (fun _ _=>cX (v:=zB (!q)) n rfl rfl) (aX rfl (fun _ _=>cQ dB rfl z rfl rfl rfl m) ?_)))
    have e0:=b7 _ _ j
    have e1:=b3 _ _ e0
    refine aGf rfl ?_;obtain ⟨J,b8,hm⟩:=aB hm
    refine gP (i:=1) (t:=0) (ns:=[zB (!q)]) (e':=(!q:Bool)) sizeOf4 e1 rfl (zR _) rfl rfl rfl m b8 rfl rfl (gH rfl) rfl (fun cs h=>by cases h;rfl) (fun b9 (e2:aE G K (box c 154 [zS a4 x_.g.length c5,zS a7 x_.back.length c8,zS a p.length b]::own 4 K a b J::L) b9)=>?_)
    have f8:aE G K (box c 154 [zS a4 x_.g.length c5,zS a7 x_.back.length c8,zS a J.length b]::own 4 K a b J::L) b9:=by rw [←(fP b8)];exact e2
    exact aM
   ·refine WE_off rfl rfl rfl (off_f n) (WE_off rfl rfl rfl (off_f n) (aX rfl (fun _ _=>eD (v:=zB false) n rfl rfl) (aX rfl (fun _ _=>cQ dB rfl z rfl rfl rfl m) ?_)))
    have e3:=b7 _ _ j
    have e4:=b3 _ _ e3
    refine aGf rfl ?_;obtain ⟨Z,c0,hm⟩:=aB hm
    refine gP (i:=1) (t:=0) (ns:=[zB false]) (e':=(false:Bool)) sizeOf4 e4 rfl (zR _) rfl rfl rfl m c0 rfl rfl (gH rfl) rfl (fun cs h=>by cases h;rfl) (fun c1 (e5:aE G K (box c 154 [zS a4 x_.g.length c5,zS a7 x_.back.length c8,zS a p.length b]::own 4 K a b Z::L) c1)=>?_)
    have f9:aE G K (box c 154 [zS a4 x_.g.length c5,zS a7 x_.back.length c8,zS a Z.length b]::own 4 K a b Z::L) c1:=by rw [←(fP c0)];exact e5
    exact aM
  ·exact aM
theorem aAA {k:Int} {a:Nat} {p:eS} {b:Nat} {c:Int} {d:Nat} {R:Bool} (hm:aBK k p c=some R) (e:aE G K (L) w) (h:dU K a1 a [cH a4 b]) (i:dU K a4 b [zS a7 p.g.length c8,zS a10 p.back.length c11,zS a13 p.in_.length c14]) (j:bL K a7 c8 p.g) (l:bL K a10 c11 p.back) (m:bL K a13 c14 p.in_) (n:dU K a16 d [i64 c]):
  Calls prog 123 ([i64 k,cH a1 a,cH a16 d]:List Value).toArray w (dQ fun v w'=>v=zB R/\aE G K (L) w'):=by
 exact aM
theorem aAB {x_:eS} {k m:Nat} {j:eS} {a2:Nat} {a3:Int} {o:Nat} {R:(List Bool)} (hm:sV x_ j a3=some R) (hs:aE G K (L) w) (l:dU K a1 k [zS a4 x_.g.length c5,zS a7 x_.back.length c8,zS a10 x_.in_.length c11]) (h6:bL K a4 c5 x_.g) (h9:bL K a7 c8 x_.back) (a6:bL K a10 c11 x_.in_) (b7:dU K a13 m [cH a16 a2]) (b8:dU K a16 a2 [zS a19 j.g.length c20,zS a22 j.back.length c23,zS a25 j.in_.length c26]) (b9:bL K a19 c20 j.g) (c0:bL K a22 c23 j.back) (c1:bL K a25 c26 j.in_) (c2:dU K a28 o [i64 a3]):
  Calls prog 73 ([cH a1 k,Value.func (.func 123) #[] #[cH a13 m,cH a28 o]]:List Value).toArray w (dQ fun v w'=>∃ a8 a9,v=zS a8 R.length a9/\aE G K (own 4 K a8 a9 R::L) w'):=by
 refine aN func73 rfl (by kernel_rfl) (by show (2:Nat)<=35;decide) ?_;unfold sV at hm
 refine aL (aH (v:=zS none 0 0) (aI (aL (aG (v:=cH a1 k) (aD (gN rfl l) (aD (dV (k':=k+0) qU rfl l rfl) (aD (bG (t:=0) zM hs l rfl rfl) (aD (bF (len:=x_.g.length) pU rfl) ?_))))))));obtain ⟨a,c3,hm⟩:=aB hm
 refine aEj (e:=(false:Bool)) dB aGP rfl rfl hs rfl rfl rfl c3 rfl (fun b c4 (c6:aE G K (own 4 K b a.length a::L) c4)=>(aH (v:=zS b a.length a.length) (aI (aJ (aL (aG (v:=cH a1 k) (aD (gN rfl l) (aD (dV (k':=k+2) uJ rfl l rfl) (aD (bG (t:=2) aBp c6 l rfl rfl) (aD (bF (len:=x_.in_.length) dB rfl) (aG (v:=i64 0) (aI (aR [] (fun f w=>∃ u,aCw u=some R/\f 5=zS b u.length a.length/\aE G K (own 4 K b a.length u::L) w) aM ?_)))))))))))))
 obtain ⟨e3,c7,ho⟩:=aB hm
 refine bX [1,17,18] c7 (fun x c f w=>f 5=zS b x.length a.length/\f 19=i64 c/\aE G K (own 4 K b a.length x::L) w) aM ?_
 ·rintro x c c9 f e4 hm hr ⟨y,p,q⟩
  unfold iY at hm
  refine aL (aD (cW p rfl) (aI (aJ ?_)))
  rcases aK hm with ⟨b0,hm⟩|⟨b0,hm⟩
  ·refine aQ b0 rfl (aW (aC (aJ (cD (aL (bI p ?_))))));obtain ⟨z,b1,hm⟩:=aB hm
   refine aD (dD dB rfl a6 rfl rfl p b1) ?_;obtain ⟨e5,d0,d1⟩:=bL.el (sz:=1) rfl a6 b1
   cases d1
   refine aD (bG (t:=0) aCc q d0 rfl rfl) (aH (v:=i64 c) (aH (v:=zB z) (aI (bD [1,17,18,19] (fun f w=>∃ r,oB c r=some c9/\f 5=zS b r.length a.length/\aE G K (own 4 K b a.length r::L) w) ?_ ?_))))
   ·rintro f e6 ⟨r,hm,d2,d3⟩
    unfold oB at hm
    exact cL (aC (aU (aD (dA p rfl) (aG (v:=i64 (wr (c+1))) (aI ⟨_,(zI hm).symm,bK,d2,rfl,d3⟩)))))
   refine aU (bI y (aG (v:=i64 c) (aG (v:=zB z) (aG (v:=zB z) ?_))))
   rcases aK hm with ⟨d,hm⟩|⟨d,hm⟩
   ·refine cA d rfl rfl (aG (v:=Value.func (.func 123) #[] #[cH a13 m,cH a28 o]) (cA d rfl rfl (aG (v:=i64 c) (cA d rfl rfl ?_))));obtain ⟨J,d4,hm⟩:=aB hm
    refine lM (vs:=[i64 c]) (caps:=[cH a13 m,cH a28 o]) (us:=[i64 c,cH a13 m,cH a28 o]) rfl call123 rfl rfl (aAA d4 q b7 b8 b9 c0 c1 c2) ?_
    rintro _ e7 ⟨rfl,b2⟩
    refine aD (cX (v:=zB J) d rfl rfl) ?_;obtain ⟨e8,Z,hm⟩:=aB hm
    have d5:=bV b2 (i:=0) rfl Z
    refine aD (cQ dB rfl d5 rfl rfl rfl Z) ?_;obtain ⟨b3,b4,hm⟩:=aB hm
    exact gP (i:=0) (t:=0) (ns:=[zB J]) (e':=(J:Bool)) sizeOf4 b2 rfl (zR _) rfl rfl rfl Z b4 rfl rfl (gH rfl) rfl (fun cs h=>by cases h;rfl) (fun d6 (d7:aE G K (own 4 K b a.length b3::L) d6)=>(aI ⟨bK,b3,hm,(Eq.trans y (congrArg (fun n=>zS b n a.length) (fP b4))),d7⟩))
   ·refine cE d rfl rfl (cE d rfl rfl (cE d rfl rfl (aD (eD (v:=zB false) d rfl rfl) ?_)));obtain ⟨e9,a0,hm⟩:=aB hm
    have d8:=bV q (i:=0) rfl a0
    refine aD (cQ dB rfl d8 rfl rfl rfl a0) ?_;obtain ⟨b5,b6,hm⟩:=aB hm
    exact gP (i:=0) (t:=0) (ns:=[zB false]) (e':=(false:Bool)) sizeOf4 q rfl (zR _) rfl rfl rfl a0 b6 rfl rfl (gH rfl) rfl (fun cs h=>by cases h;rfl) (fun d9 (e0:aE G K (own 4 K b a.length b5::L) d9)=>(aI ⟨bK,b5,hm,(Eq.trans y (congrArg (fun n=>zS b n a.length) (fP b6))),e0⟩))
  ·exact aM
theorem aAC {k:Int} {p:(List Bool)} {a:Nat} {b:Int} {c:Nat} {R:Bool} (hm:aBL k p b=some R) (d:aE G K (L) w) (e:dU K a1 a [zS a4 p.length c5]) (g:bL K a4 c5 p) (h:dU K a7 c [i64 b]):
  Calls prog 124 ([i64 k,cH a1 a,cH a7 c]:List Value).toArray w (dQ fun v w'=>v=zB R/\aE G K (L) w'):=by
 exact aM
theorem xD {x_:eS} {j:Nat} {r:(List Bool)} {l:Nat} {a2:Int} {m:Nat} {R:(List Bool)} (hm:oC x_ r a2=some R) (hs:aE G K (L) w) (k:dU K a1 j [zS a4 x_.g.length c5,zS a7 x_.back.length c8,zS a10 x_.in_.length c11]) (h6:bL K a4 c5 x_.g) (h9:bL K a7 c8 x_.back) (a5:bL K a10 c11 x_.in_) (b6:dU K a13 l [zS a16 r.length c17]) (b7:bL K a16 c17 r) (b8:dU K a19 m [i64 a2]):
  Calls prog 73 ([cH a1 j,Value.func (.func 124) #[] #[cH a13 l,cH a19 m]]:List Value).toArray w (dQ fun v w'=>∃ a6 a8,v=zS a6 R.length a8/\aE G K (own 4 K a6 a8 R::L) w'):=by
 refine aN func73 rfl (by kernel_rfl) (by show (2:Nat)<=35;decide) ?_;unfold oC at hm
 refine aL (aH (v:=zS none 0 0) (aI (aL (aG (v:=cH a1 j) (aD (gN rfl k) (aD (dV (k':=j+0) qU rfl k rfl) (aD (bG (t:=0) zM hs k rfl rfl) (aD (bF (len:=x_.g.length) pU rfl) ?_))))))));obtain ⟨a,b9,hm⟩:=aB hm
 refine aEj (e:=(false:Bool)) dB aGP rfl rfl hs rfl rfl rfl b9 rfl (fun b c0 (c1:aE G K (own 4 K b a.length a::L) c0)=>(aH (v:=zS b a.length a.length) (aI (aJ (aL (aG (v:=cH a1 j) (aD (gN rfl k) (aD (dV (k':=j+2) uJ rfl k rfl) (aD (bG (t:=2) aBp c1 k rfl rfl) (aD (bF (len:=x_.in_.length) dB rfl) (aG (v:=i64 0) (aI (aR [] (fun f w=>∃ u,aAa u=some R/\f 5=zS b u.length a.length/\aE G K (own 4 K b a.length u::L) w) aM ?_)))))))))))))
 obtain ⟨d9,c2,ho⟩:=aB hm
 refine bX [1,17,18] c2 (fun x c f w=>f 5=zS b x.length a.length/\f 19=i64 c/\aE G K (own 4 K b a.length x::L) w) aM ?_
 ·rintro x c c3 f e0 hm hr ⟨y,o,p⟩
  unfold gC at hm
  refine aL (aD (cW o rfl) (aI (aJ ?_)))
  rcases aK hm with ⟨a9,hm⟩|⟨a9,hm⟩
  ·refine aQ a9 rfl (aW (aC (aJ (cD (aL (bI o ?_))))));obtain ⟨z,b0,hm⟩:=aB hm
   refine aD (dD dB rfl a5 rfl rfl o b0) ?_;obtain ⟨e1,c4,c6⟩:=bL.el (sz:=1) rfl a5 b0
   cases c6
   refine aD (bG (t:=0) aCc p c4 rfl rfl) (aH (v:=i64 c) (aH (v:=zB z) (aI (bD [1,17,18,19] (fun f w=>∃ q,kR c q=some c3/\f 5=zS b q.length a.length/\aE G K (own 4 K b a.length q::L) w) ?_ ?_))))
   ·rintro f e2 ⟨q,hm,c7,c9⟩
    unfold kR at hm
    exact cL (aC (aU (aD (dA o rfl) (aG (v:=i64 (wr (c+1))) (aI ⟨_,(zI hm).symm,bK,c7,rfl,c9⟩)))))
   refine aU (bI y (aG (v:=i64 c) (aG (v:=zB z) (aG (v:=zB z) ?_))))
   rcases aK hm with ⟨d,hm⟩|⟨d,hm⟩
   ·refine cA d rfl rfl (aG (v:=Value.func (.func 124) #[] #[cH a13 l,cH a19 m]) (cA d rfl rfl (aG (v:=i64 c) (cA d rfl rfl ?_))));obtain ⟨J,d0,hm⟩:=aB hm
    refine lM (vs:=[i64 c]) (caps:=[cH a13 l,cH a19 m]) (us:=[i64 c,cH a13 l,cH a19 m]) rfl call124 rfl rfl (aAC d0 p b6 b7 b8) ?_
    rintro _ e3 ⟨rfl,b1⟩
    refine aD (cX (v:=zB J) d rfl rfl) ?_;obtain ⟨e4,Z,hm⟩:=aB hm
    have d1:=bV b1 (i:=0) rfl Z
    refine aD (cQ dB rfl d1 rfl rfl rfl Z) ?_;obtain ⟨b2,b3,hm⟩:=aB hm
    exact gP (i:=0) (t:=0) (ns:=[zB J]) (e':=(J:Bool)) sizeOf4 b1 rfl (zR _) rfl rfl rfl Z b3 rfl rfl (gH rfl) rfl (fun cs h=>by cases h;rfl) (fun d2 (d3:aE G K (own 4 K b a.length b2::L) d2)=>(aI ⟨bK,b2,hm,(Eq.trans y (congrArg (fun n=>zS b n a.length) (fP b3))),d3⟩))
   ·refine cE d rfl rfl (cE d rfl rfl (cE d rfl rfl (aD (eD (v:=zB false) d rfl rfl) ?_)));obtain ⟨e5,a0,hm⟩:=aB hm
    have d4:=bV p (i:=0) rfl a0
    refine aD (cQ dB rfl d4 rfl rfl rfl a0) ?_;obtain ⟨b4,b5,hm⟩:=aB hm
    exact gP (i:=0) (t:=0) (ns:=[zB false]) (e':=(false:Bool)) sizeOf4 p rfl (zR _) rfl rfl rfl a0 b5 rfl rfl (gH rfl) rfl (fun cs h=>by cases h;rfl) (fun d5 (d6:aE G K (own 4 K b a.length b4::L) d5)=>(aI ⟨bK,b4,hm,(Eq.trans y (congrArg (fun n=>zS b n a.length) (fP b5))),d6⟩))
  ·exact aM
theorem xE {a:(List Bool)} {b:Bool} {R:Int} (hm:fO a b=some R) (e:aE G K (L) w) (g:bL K a1 c2 a):
  Calls prog 154 ([zS a1 a.length c2,zB b]:List Value).toArray w (dQ fun v w'=>v=i64 R/\aE G K (L) w'):=by
 refine aN func154 rfl (by kernel_rfl) (by show (2:Nat)<=19;decide) ?_;unfold fO at hm
 refine aL (aH (v:=i64 0) (aI (aJ (aL (aG (v:=zS a1 a.length c2) (aD (bF (len:=a.length) dB rfl) (aG (v:=i64 0) (aI (aR [] (fun f w=>pP=some R/\aE G K (L) w) aM ?_)))))))));obtain ⟨h,c,ho⟩:=aB hm
 exact dY [0,1,7] c (fun d f w=>f 8=i64 d/\aE G K (L) w) aM aM
theorem mF {a:(List Bool)} {b R:Bool} (hm:gJ a b=some R) (c:aE G K (L) w) (d:bL K a1 c2 a):
  Calls prog 125 ([zS a1 a.length c2,zB b]:List Value).toArray w (dQ fun v w'=>v=zB R/\aE G K (L) w'):=by
 exact aM
theorem aAD {p a:Int} {b:Nat} {R:Bool} (hm:aBM p a=some R) (c:aE G K (L) w) (d:dU K a1 b [i64 a]):
  Calls prog 126 ([i64 p,cH a1 b]:List Value).toArray w (dQ fun v w'=>v=zB R/\aE G K (L) w'):=by
 exact aM
theorem xF {x_:eS} {j:Nat} {Z:Int} {l:Nat} {R:(List Bool)} (hm:oD x_ Z=some R) (hs:aE G K (L) w) (k:dU K a1 j [zS a4 x_.g.length c5,zS a7 x_.back.length c8,zS a10 x_.in_.length c11]) (h6:bL K a4 c5 x_.g) (h9:bL K a7 c8 x_.back) (a2:bL K a10 c11 x_.in_) (b3:dU K a13 l [i64 Z]):
  Calls prog 73 ([cH a1 j,Value.func (.func 126) #[] #[cH a13 l]]:List Value).toArray w (dQ fun v w'=>∃ a3 a5,v=zS a3 R.length a5/\aE G K (own 4 K a3 a5 R::L) w'):=by
 refine aN func73 rfl (by kernel_rfl) (by show (2:Nat)<=35;decide) ?_;unfold oD at hm
 refine aL (aH (v:=zS none 0 0) (aI (aL (aG (v:=cH a1 j) (aD (gN rfl k) (aD (dV (k':=j+0) qU rfl k rfl) (aD (bG (t:=0) zM hs k rfl rfl) (aD (bF (len:=x_.g.length) pU rfl) ?_))))))));obtain ⟨a,b4,hm⟩:=aB hm
 refine aEj (e:=(false:Bool)) dB aGP rfl rfl hs rfl rfl rfl b4 rfl (fun b b5 (b6:aE G K (own 4 K b a.length a::L) b5)=>(aH (v:=zS b a.length a.length) (aI (aJ (aL (aG (v:=cH a1 j) (aD (gN rfl k) (aD (dV (k':=j+2) uJ rfl k rfl) (aD (bG (t:=2) aBp b6 k rfl rfl) (aD (bF (len:=x_.in_.length) dB rfl) (aG (v:=i64 0) (aI (aR [] (fun f w=>∃ q,aAb q=some R/\f 5=zS b q.length a.length/\aE G K (own 4 K b a.length q::L) w) aM ?_)))))))))))))
 obtain ⟨d4,b7,ho⟩:=aB hm
 refine bX [1,17,18] b7 (fun r c f w=>f 5=zS b r.length a.length/\f 19=i64 c/\aE G K (own 4 K b a.length r::L) w) aM ?_
 ·rintro r c b8 f d5 hm hr ⟨u,m,o⟩
  unfold gD at hm
  refine aL (aD (cW m rfl) (aI (aJ ?_)))
  rcases aK hm with ⟨c48,hm⟩|⟨c48,hm⟩
  ·refine aQ c48 rfl (aW (aC (aJ (cD (aL (bI m ?_))))));obtain ⟨x,a6,hm⟩:=aB hm
   refine aD (dD dB rfl a2 rfl rfl m a6) ?_;obtain ⟨d6,b9,c0⟩:=bL.el (sz:=1) rfl a2 a6
   cases c0
   refine aD (bG (t:=0) aCc o b9 rfl rfl) (aH (v:=i64 c) (aH (v:=zB x) (aI (bD [1,17,18,19] (fun f w=>∃ p,kS c p=some b8/\f 5=zS b p.length a.length/\aE G K (own 4 K b a.length p::L) w) ?_ ?_))))
   ·rintro f d7 ⟨p,hm,c1,c2⟩
    unfold kS at hm
    exact cL (aC (aU (aD (dA m rfl) (aG (v:=i64 (wr (c+1))) (aI ⟨_,(zI hm).symm,bK,c1,rfl,c2⟩)))))
   refine aU (bI u (aG (v:=i64 c) (aG (v:=zB x) (aG (v:=zB x) ?_))))
   rcases aK hm with ⟨d,hm⟩|⟨d,hm⟩
   ·refine cA d rfl rfl (aG (v:=Value.func (.func 126) #[] #[cH a13 l]) (cA d rfl rfl (aG (v:=i64 c) (cA d rfl rfl ?_))));obtain ⟨y,c3,hm⟩:=aB hm
    refine lM (vs:=[i64 c]) (caps:=[cH a13 l]) (us:=[i64 c,cH a13 l]) rfl call126 rfl rfl (aAD c3 o b3) ?_
    rintro _ d8 ⟨rfl,a8⟩
    refine aD (cX (v:=zB y) d rfl rfl) ?_;obtain ⟨d9,z,hm⟩:=aB hm
    have c4:=bV a8 (i:=0) rfl z
    refine aD (cQ dB rfl c4 rfl rfl rfl z) ?_;obtain ⟨a9,b0,hm⟩:=aB hm
    exact gP (i:=0) (t:=0) (ns:=[zB y]) (e':=(y:Bool)) sizeOf4 a8 rfl (zR _) rfl rfl rfl z b0 rfl rfl (gH rfl) rfl (fun cs h=>by cases h;rfl) (fun c6 (c7:aE G K (own 4 K b a.length a9::L) c6)=>(aI ⟨bK,a9,hm,(Eq.trans u (congrArg (fun n=>zS b n a.length) (fP b0))),c7⟩))
   ·refine cE d rfl rfl (cE d rfl rfl (cE d rfl rfl (aD (eD (v:=zB false) d rfl rfl) ?_)));obtain ⟨e0,J,hm⟩:=aB hm
    have c9:=bV o (i:=0) rfl J
    refine aD (cQ dB rfl c9 rfl rfl rfl J) ?_;obtain ⟨b1,b2,hm⟩:=aB hm
    exact gP (i:=0) (t:=0) (ns:=[zB false]) (e':=(false:Bool)) sizeOf4 o rfl (zR _) rfl rfl rfl J b2 rfl rfl (gH rfl) rfl (fun cs h=>by cases h;rfl) (fun d0 (d1:aE G K (own 4 K b a.length b1::L) d0)=>(aI ⟨bK,b1,hm,(Eq.trans u (congrArg (fun n=>zS b n a.length) (fP b2))),d1⟩))
  ·exact aM
theorem aAE {k:Int} {p:(List Bool)} {o:Nat} {d:Int} {q:Nat} {j:(List Bool)} {r:Nat} {R:Bool} (hm:sW k p d j=some R) (b:aE G K (L) w) (l:dU K a1 o [zS a4 p.length c5]) (e:bL K a4 c5 p) (z:dU K a7 q [i64 d]) (J:dU K a10 r [zS a13 j.length c14]) (u:bL K a13 c14 j):
  Calls prog 127 ([i64 k,cH a1 o,cH a7 q,cH a10 r]:List Value).toArray w (dQ fun v w'=>v=zB R/\aE G K (L) w'):=by
 refine aN func127 rfl (by kernel_rfl) (by show (4:Nat)<=27;decide) ?_;unfold sW at hm
 refine aL (aH (v:=zB false) (aI (aJ (bD [] (fun f w=>∃ x,oE x=some R/\f 5=zB x/\aE G K (L) w) aM (aU (aD (bG (t:=0) aBp b l rfl rfl) (aG (v:=i64 k) ?_)))))));obtain ⟨m,h,hm⟩:=aB hm
 refine aD (dD dB rfl e rfl rfl rfl h) ?_;obtain ⟨a3,n,Z⟩:=bL.el (sz:=1) rfl e h
 cases Z
 refine aD (bG (t:=0) aCc b n rfl rfl) (aG (v:=zB m) ?_)
 rcases aK hm with ⟨a,hm⟩|⟨a,hm⟩
 ·refine cA a rfl rfl (aD (bG (t:=0) dM b z rfl rfl) (cA a rfl rfl (aD (lX rfl rfl) (aD (cX (v:=zB (d == 0)) a rfl rfl) (aG (v:=zB (d == 0)) ?_)))))
  rcases aK hm with ⟨c,hm⟩|⟨c,hm⟩
  ·exact aM
  ·exact bS c rfl rfl (aD (bG (t:=0) aBp b l rfl rfl) (bS c rfl rfl (aG (v:=i64 k) (bS c rfl rfl (aD (dD dB rfl e rfl rfl rfl h) (bS c rfl rfl (aD (bG (t:=0) aCc b n rfl rfl) (bS c rfl rfl (aD (tZ rfl) (bS c rfl rfl (aG (v:=zB (!m)) (cE (nM a) rfl rfl (cE (nM a) rfl rfl (cE (nM a) rfl rfl (cE (nM a) rfl rfl (bS c rfl rfl (aD (eD (v:=zB false) (nM a) rfl rfl) (aD (eD (v:=zB false) c rfl rfl) (aH (v:=zB false) (aI ⟨bK,false,hm,rfl,b⟩))))))))))))))))))))
 ·refine cE a rfl rfl (cE a rfl rfl (aD (eD (v:=zB false) a rfl rfl) (aG (v:=zB false) (bS (by decide:¬ false=true) rfl rfl (aD (bG (t:=0) aBp b l rfl rfl) (bS (by decide:¬ false=true) rfl rfl (aG (v:=i64 k) (bS (by decide:¬ false=true) rfl rfl (aD (dD dB rfl e rfl rfl rfl h) (bS (by decide:¬ false=true) rfl rfl (aD (bG (t:=0) aCc b n rfl rfl) (bS (by decide:¬ false=true) rfl rfl (aD (tZ rfl) (bS (by decide:¬ false=true) rfl rfl (aG (v:=zB (!m)) (cA (jG a) rfl rfl (aD (bG (t:=0) aBp b J rfl rfl) (cA (jG a) rfl rfl (aG (v:=i64 k) (cA (jG a) rfl rfl ?_))))))))))))))))))))
  obtain ⟨i,y,hm⟩:=aB hm
  refine aD (dD dB rfl u rfl rfl rfl y) ?_;obtain ⟨a5,a0,a2⟩:=bL.el (sz:=1) rfl u y
  cases a2
  exact cA (jG a) rfl rfl (aD (bG (t:=0) aCc b a0 rfl rfl) (bS (by decide:¬ false=true) rfl rfl (aD (cX (v:=zB i) (jG a) rfl rfl) (aD (eD (v:=zB i) (by decide:¬ false=true) rfl rfl) (aH (v:=zB i) (aI ⟨bK,i,hm,rfl,b⟩))))))
theorem xG {x_:eS} {j:Nat} {u:(List Bool)} {l:Nat} {a5:Int} {m:Nat} {x:(List Bool)} {o:Nat} {R:(List Bool)} (hm:oF x_ u a5 x=some R) (hs:aE G K (L) w) (k:dU K a1 j [zS a4 x_.g.length c5,zS a7 x_.back.length c8,zS a10 x_.in_.length c11]) (h6:bL K a4 c5 x_.g) (h9:bL K a7 c8 x_.back) (a8:bL K a10 c11 x_.in_) (b8:dU K a13 l [zS a16 u.length c17]) (b9:bL K a16 c17 u) (c0:dU K a19 m [i64 a5]) (c1:dU K a22 o [zS a25 x.length c26]) (c2:bL K a25 c26 x):
  Calls prog 73 ([cH a1 j,Value.func (.func 127) #[] #[cH a13 l,cH a19 m,cH a22 o]]:List Value).toArray w (dQ fun v w'=>∃ a9 b0,v=zS a9 R.length b0/\aE G K (own 4 K a9 b0 R::L) w'):=by
 refine aN func73 rfl (by kernel_rfl) (by show (2:Nat)<=35;decide) ?_;unfold oF at hm
 refine aL (aH (v:=zS none 0 0) (aI (aL (aG (v:=cH a1 j) (aD (gN rfl k) (aD (dV (k':=j+0) qU rfl k rfl) (aD (bG (t:=0) zM hs k rfl rfl) (aD (bF (len:=x_.g.length) pU rfl) ?_))))))));obtain ⟨a,c3,hm⟩:=aB hm
 refine aEj (e:=(false:Bool)) dB aGP rfl rfl hs rfl rfl rfl c3 rfl (fun b c4 (c6:aE G K (own 4 K b a.length a::L) c4)=>(aH (v:=zS b a.length a.length) (aI (aJ (aL (aG (v:=cH a1 j) (aD (gN rfl k) (aD (dV (k':=j+2) uJ rfl k rfl) (aD (bG (t:=2) aBp c6 k rfl rfl) (aD (bF (len:=x_.in_.length) dB rfl) (aG (v:=i64 0) (aI (aR [] (fun f w=>∃ y,aAc y=some R/\f 5=zS b y.length a.length/\aE G K (own 4 K b a.length y::L) w) aM ?_)))))))))))))
 obtain ⟨e3,c7,ho⟩:=aB hm
 refine bX [1,17,18] c7 (fun z c f w=>f 5=zS b z.length a.length/\f 19=i64 c/\aE G K (own 4 K b a.length z::L) w) aM ?_
 ·rintro z c c9 f e4 hm hr ⟨J,p,q⟩
  unfold gE at hm
  refine aL (aD (cW p rfl) (aI (aJ ?_)))
  rcases aK hm with ⟨b1,hm⟩|⟨b1,hm⟩
  ·refine aQ b1 rfl (aW (aC (aJ (cD (aL (bI p ?_))))));obtain ⟨Z,b2,hm⟩:=aB hm
   refine aD (dD dB rfl a8 rfl rfl p b2) ?_;obtain ⟨e5,d0,d1⟩:=bL.el (sz:=1) rfl a8 b2
   cases d1
   refine aD (bG (t:=0) aCc q d0 rfl rfl) (aH (v:=i64 c) (aH (v:=zB Z) (aI (bD [1,17,18,19] (fun f w=>∃ r,kT c r=some c9/\f 5=zS b r.length a.length/\aE G K (own 4 K b a.length r::L) w) ?_ ?_))))
   ·rintro f e6 ⟨r,hm,d2,d3⟩
    unfold kT at hm
    exact cL (aC (aU (aD (dA p rfl) (aG (v:=i64 (wr (c+1))) (aI ⟨_,(zI hm).symm,bK,d2,rfl,d3⟩)))))
   refine aU (bI J (aG (v:=i64 c) (aG (v:=zB Z) (aG (v:=zB Z) ?_))))
   rcases aK hm with ⟨d,hm⟩|⟨d,hm⟩
   ·refine cA d rfl rfl (aG (v:=Value.func (.func 127) #[] #[cH a13 l,cH a19 m,cH a22 o]) (cA d rfl rfl (aG (v:=i64 c) (cA d rfl rfl ?_))));obtain ⟨a0,d4,hm⟩:=aB hm
    refine lM (vs:=[i64 c]) (caps:=[cH a13 l,cH a19 m,cH a22 o]) (us:=[i64 c,cH a13 l,cH a19 m,cH a22 o]) rfl call127 rfl rfl (aAE d4 q b8 b9 c0 c1 c2) ?_
    rintro _ e7 ⟨rfl,b3⟩
    refine aD (cX (v:=zB a0) d rfl rfl) ?_;obtain ⟨e8,a2,hm⟩:=aB hm
    have d5:=bV b3 (i:=0) rfl a2
    refine aD (cQ dB rfl d5 rfl rfl rfl a2) ?_;obtain ⟨b4,b5,hm⟩:=aB hm
    exact gP (i:=0) (t:=0) (ns:=[zB a0]) (e':=(a0:Bool)) sizeOf4 b3 rfl (zR _) rfl rfl rfl a2 b5 rfl rfl (gH rfl) rfl (fun cs h=>by cases h;rfl) (fun d6 (d7:aE G K (own 4 K b a.length b4::L) d6)=>(aI ⟨bK,b4,hm,(Eq.trans J (congrArg (fun n=>zS b n a.length) (fP b5))),d7⟩))
   ·refine cE d rfl rfl (cE d rfl rfl (cE d rfl rfl (aD (eD (v:=zB false) d rfl rfl) ?_)));obtain ⟨e9,a3,hm⟩:=aB hm
    have d8:=bV q (i:=0) rfl a3
    refine aD (cQ dB rfl d8 rfl rfl rfl a3) ?_;obtain ⟨b6,b7,hm⟩:=aB hm
    exact gP (i:=0) (t:=0) (ns:=[zB false]) (e':=(false:Bool)) sizeOf4 q rfl (zR _) rfl rfl rfl a3 b7 rfl rfl (gH rfl) rfl (fun cs h=>by cases h;rfl) (fun d9 (e0:aE G K (own 4 K b a.length b6::L) d9)=>(aI ⟨bK,b6,hm,(Eq.trans J (congrArg (fun n=>zS b n a.length) (fP b7))),e0⟩))
  ·exact aM
theorem aBV {rec_:eS->Option (List Bool)} (ih:∀ {G:rY} {K:Hp} {L:List fD} {w:World} {x_:eS} {a1:Option Addr} {b:Nat} {a4:Option Addr} {c5:Nat} {a7:Option Addr} {c8:Nat} {a10:Option Addr} {c11:Nat} {R:(List Bool)} (hm:rec_ x_=some R) (hs:aE G K (L) w) (c:dU K a1 b [zS a4 x_.g.length c5,zS a7 x_.back.length c8,zS a10 x_.in_.length c11]) (d:bL K a4 c5 x_.g) (m:bL K a7 c8 x_.back) (p:bL K a10 c11 x_.in_),
  Calls prog 77 ([cH a1 b]:List Value).toArray w (dQ fun v w'=>∃ d3 d4,v=zS d3 R.length d4/\aE G K (own 4 K d3 d4 R::L) w'))
  {G:rY} {K:Hp} {L:List fD} {w:World} {x_:eS} {a1:Option Addr} {b:Nat} {a4:Option Addr} {c5:Nat} {a7:Option Addr} {c8:Nat} {a10:Option Addr} {c11:Nat} {R:(List Bool)} (hm:uU rec_ x_=some R) (hs:aE G K (L) w) (c:dU K a1 b [zS a4 x_.g.length c5,zS a7 x_.back.length c8,zS a10 x_.in_.length c11]) (d:bL K a4 c5 x_.g) (m:bL K a7 c8 x_.back) (p:bL K a10 c11 x_.in_):
  Calls prog 77 ([cH a1 b]:List Value).toArray w (dQ fun v w'=>∃ d3 d4,v=zS d3 R.length d4/\aE G K (own 4 K d3 d4 R::L) w'):=by
 refine aN func77 rfl (by kernel_rfl) (by show (1:Nat)<=88;decide) ?_;unfold uU at hm
 refine aL (gO (v:=cH a1 b) (vs:=[cH a1 b]) hs rfl rfl (fun j z2 e8=>(aH (v:=zS none 0 0) (aI (aL (aD (eP uA e8 (i:=0) rfl rfl rfl) (aD (gN rfl c) (aD (dV (k':=b+2) uJ rfl c rfl) (aD (bG (t:=2) aBp e8 c rfl rfl) ?_)))))))));obtain ⟨q,k6,hm⟩:=aB hm
 refine aP (vs:=[zS a10 x_.in_.length c11]) call121 rfl (aCX k6 e8 p) ?_
 rintro _ z3 ⟨a5,a6,rfl,d9⟩
 refine aH (v:=zS a5 q.length a6) (aI (aJ (aL (aG (v:=zS a5 q.length a6) (aD (bF (len:=q.length) bJ rfl) (aD (lX rfl rfl) (aI ?_)))))))
 rcases aK hm with ⟨e9,hm⟩|⟨e9,hm⟩
 ·refine aQ e9 rfl (aL (aD (eP uA d9 (i:=1) rfl rfl rfl) (aD (gN rfl c) (aD (dV (k':=b+0) qU rfl c rfl) (aD (bG (t:=0) zM d9 c rfl rfl) (aD (bF (len:=x_.g.length) pU rfl) ?_))))));obtain ⟨d5,k7,hm⟩:=aB hm
  refine aEj (e:=(false:Bool)) dB aGP rfl rfl d9 rfl rfl rfl k7 rfl (fun f0 k8 (k9:aE G K (own 4 K f0 d5.length d5::own 2 K a5 a6 q::box j 116 [cH a1 b]::L) k8)=>(aH (v:=zS f0 d5.length d5.length) (aI ?_)));obtain rfl:=zI hm
  exact pS (gZ (rT results77 rfl ⟨f0,d5.length,rfl,(aE.arr 3 [0] k9 rfl)⟩))
 ·refine aT e9 rfl (aW (aC (aJ ?_)));obtain ⟨z4,c4,h5,l1,l2⟩:=aE.lendSp d9 (zR _) .head
  obtain ⟨l3,a8,l4,h7,l5⟩:=aE.lendBp l1 .head
  refine cM (C:=fun w'=>∃ L',aE G l3 L' w') [(0,0),(1,0),(2,0),(3,0),(4,0),(5,0),(6,0),(7,0),(8,0),(9,0),(10,1),(11,2)] Tryz_mixed (by kernel_rfl) (fun _ hg=>⟨_,aE.mono h7 hg⟩) (fun z5 l6=>?_)
  have x:=aE.mono h7 l6
  refine aX rfl (fun _ ⟨_,x⟩=>bG (t:=0) uA x l4 rfl rfl) (aX rfl (fun _ _=>gN rfl (c.mono (zL c4 a8))) (aX rfl (fun _ _=>dV (k':=b+0) qU rfl (c.mono (zL c4 a8)) rfl) (aX rfl (fun _ ⟨_,x⟩=>bG (t:=0) zM x (c.mono (zL c4 a8)) rfl rfl) (aX rfl (fun _ _=>aY (v:=zS a5 q.length a6) rfl) ?_))));obtain ⟨l7,f1,hm⟩:=aB hm
  have h8:=aCi (h5.mono a8) f1
  refine aX rfl (fun _ _=>cQ bJ rfl h8 rfl rfl rfl f1) ?_;obtain ⟨z6,l8,l9⟩:=bL.el (sz:=1) rfl (h5.mono a8) f1
  cases l9
  refine aX rfl (fun _ ⟨_,x⟩=>bG (t:=0) dM x l8 rfl rfl) ?_;obtain ⟨f2,i0,hm⟩:=aB hm
  refine aX rfl (fun _ _=>dD pU rfl (d.mono (zL c4 a8)) rfl rfl rfl i0) ?_;obtain ⟨z7,i1,m0⟩:=bL.el (sz:=3) rfl d i0
  obtain ⟨z8,z9,rfl,h56⟩:=m0
  refine aX rfl (fun _ _=>dV (k':=l7.toNat * 3+1) aGO rfl (i1.mono (zL c4 a8)) rfl) (aX rfl (fun _ ⟨_,x⟩=>bG (t:=1) dM x (i1.mono (zL c4 a8)) rfl rfl) (gK rfl (cT (vs:=[i64 0]) zeroValue2 x rfl (fun n w58 i2=>(aZ (aC ⟨⟨_,i2⟩,?_⟩))))))
  have m1:=l5 _ _ i2
  have m2:=l2 _ _ m1
  refine aGf rfl (eW (i:=2) (ns:=[i64 f2.Priority]) (us:=[i64 f2.Priority]) sizeOf2 m2 rfl rfl rfl rfl rfl (gH rfl) rfl rfl (fun m3 (m4:aE G K (own 2 K a5 a6 q::box j 116 [cH a1 b]::box n 2 [i64 f2.Priority]::L) m3)=>(aI (pC (aC (aJ (aL (aG (v:=zS a5 q.length a6) (aD (bF (len:=q.length) bJ rfl) (aG (v:=i64 0) (aI (aR [1,4] (fun f w=>∃ y,sX rec_ x_ y=some R/\aE G K (box j 116 [cH a1 b]::box n 2 [i64 y]::L) w) ?_ ?_))))))))))))
  ·rintro f w65 ⟨y,hm,i3⟩
   unfold sX at hm
   refine aC (aL (aD (eP dM i3 (i:=1) rfl rfl rfl) ?_));obtain ⟨r,m5,hm⟩:=aB hm
   refine aD (aIK rfl rfl m5) (cT (vs:=[i64 0]) zeroValue2 i3 rfl (fun o w70 m6=>(eW (i:=0) (ns:=[i64 r]) (us:=[i64 r]) sizeOf2 m6 rfl rfl rfl rfl rfl (gH rfl) rfl rfl (fun m7 (m8:aE G K (box o 2 [i64 r]::box j 116 [cH a1 b]::box n 2 [i64 y]::L) m7)=>(aI (aJ ?_))))));obtain ⟨K74,k,m9,n0,n1⟩:=aE.lendBp m8 .head
   obtain ⟨n2,h,f3,i4,n3⟩:=aE.lendBp n0 .head
   refine cM (C:=fun w'=>∃ L',aE G n2 L' w') [(0,0),(1,0),(2,0),(3,0),(4,1),(5,1),(6,0)] Tryz_mixed (by kernel_rfl) (fun _ hg=>⟨_,aE.mono i4 hg⟩) (fun w84 n4=>?_)
   have b6:=aE.mono i4 n4
   refine aX rfl (fun _ ⟨_,b6⟩=>bG (t:=0) uA b6 f3 rfl rfl) (aX rfl (fun _ ⟨_,b6⟩=>bG (t:=0) dM b6 (m9.mono h) rfl rfl) (aX rfl (fun _ ⟨_,b6⟩=>bG (t:=0) uA b6 f3 rfl rfl) (aX rfl (fun _ _=>lF (vs:=[zP (some ⟨j,0,none⟩),zP (some ⟨n,0,none⟩)]) rfl) (gK rfl ?_))));obtain ⟨K88,z,n5,n6,n7⟩:=aE.lendBp b6 .head
   obtain ⟨c6,n8,hm⟩:=aB hm
   refine aP (vs:=[cH a1 b,Value.func (.func 123) #[] #[cH (some ⟨j,0,none⟩) 0,cH (some ⟨n,0,none⟩) 0]]) call73 rfl (aAB n8 n6 (c.mono (zL (zL k h) z)) (d.mono (zL (zL k h) z)) (m.mono (zL (zL k h) z)) (p.mono (zL (zL k h) z)) (f3.mono z) (c.mono (zL (zL k h) z)) (d.mono (zL (zL k h) z)) (m.mono (zL (zL k h) z)) (p.mono (zL (zL k h) z)) n5) ?_
   rintro _ w97 ⟨c7,c9,rfl,n9⟩
   have i5:=n7 _ _ n9
   refine aZ (aC ⟨⟨_,i5⟩,?_⟩)
   refine gK rfl ?_;obtain ⟨a08,e0,o0,o1,o2⟩:=aE.lendSp i5 (zL k h) zt1
   obtain ⟨f4,o3,hm⟩:=aB hm
   refine aP (vs:=[cH a1 b,i64 r,zS c7 c6.length c9]) call75 rfl (kV o3 o1 (c.mono (zL (zL k h) e0)) (d.mono (zL (zL k h) e0)) (m.mono (zL (zL k h) e0)) (p.mono (zL (zL k h) e0)) o0) ?_
   rintro _ o4 ⟨f5,f6,rfl,o5⟩
   have i6:=o2 _ _ o5
   refine aZ (aC ⟨⟨_,i6⟩,?_⟩)
   refine aX rfl (fun _ _=>dX (v:=zS f5 f4.length f6) rfl) (pC ?_)
   have o6:=n3 _ _ i6
   have i7:=n1 _ _ o6
   refine aC (aL (aD (eP uA i7 (i:=1) rfl rfl rfl) (aG (v:=zS f5 f4.length f6) ?_)));obtain ⟨f7,a,o7,f8⟩:=aE.giveSp i7 (zR _) zt3
   replace f8:aE G f7 (box o 2 [i64 r]::box j 116 [cH a1 b]::own 4 K c7 c9 c6::box n 2 [i64 y]::L) o4:=f8
   obtain ⟨u,o8,hm⟩:=aB hm
   refine aP (vs:=[cH a1 b,zS f5 f4.length f6]) call76 rfl (kW o8 f8 (c.mono a) (d.mono a) (m.mono a) (p.mono a) o7) ?_
   rintro _ a09 ⟨a9,b0,J,rfl,o9⟩
   refine aH (v:=zP (some ⟨J,0,none⟩)) (aI (aL (aG (v:=zP (some ⟨J,0,none⟩)) ?_)));obtain ⟨a11,i8,p0,p1,p2⟩:=aE.lendSp o9 a .head
   obtain ⟨a12,f9,p3,p4,p5⟩:=aE.lendBp p1 .head
   obtain ⟨Z,p6,hm⟩:=aB hm
   refine aP (vs:=[cH (some ⟨J,0,none⟩) 0]) call77 rfl (ih (x_:=⟨x_.g,x_.back,u⟩) p6 p4 p3 (d.mono (zL (zL a i8) f9)) (m.mono (zL (zL a i8) f9)) (p0.mono f9)) ?_
   rintro _ a13 ⟨a0,a2,rfl,p7⟩
   have p8:=p5 _ _ p7
   have p9:=p2 _ _ p8
   refine cT (vs:=[zS none 0 0]) zeroValue35 p9 rfl (fun b1 a14 q0=>(eW (i:=0) (ns:=[zS a0 Z.length a2]) (us:=[zS a0 Z.length a2]) sizeOf35 q0 rfl rfl rfl rfl rfl (gH rfl) rfl rfl (fun q1 (q2:aE G f7 (box b1 35 [zS a0 Z.length a2]::own 4 K a9 b0 u::box J 154 [zS a4 x_.g.length c5,zS a7 x_.back.length c8,zS a9 u.length b0]::own 4 K a0 a2 Z::box o 2 [i64 r]::box j 116 [cH a1 b]::own 4 K c7 c9 c6::box n 2 [i64 y]::L) q1)=>(aI (aL (aG (v:=zP (some ⟨J,0,none⟩)) (aD (lF (vs:=[zP (some ⟨b1,0,none⟩),zP (some ⟨o,0,none⟩)]) rfl) ?_)))))))
   obtain ⟨a15,g0,q3,q4,q5⟩:=aE.lendSp q2 a zt1
   obtain ⟨a16,e1,q6,q7,q8⟩:=aE.lendBp q4 zt1
   obtain ⟨a17,e2,q9,r0,r1⟩:=aE.lendSp q7 (zL (zL a g0) e1) zt1
   obtain ⟨a19,d6,r2,r3,r4⟩:=aE.lendBp r0 .head
   obtain ⟨a20,d0,r5,r6,r7⟩:=aE.lendBp r3 .head
   obtain ⟨b2,r8,hm⟩:=aB hm
   refine aP (vs:=[cH (some ⟨J,0,none⟩) 0,Value.func (.func 124) #[] #[cH (some ⟨b1,0,none⟩) 0,cH (some ⟨o,0,none⟩) 0]]) call73 rfl (xD (x_:=⟨x_.g,x_.back,u⟩) r8 r6 (q6.mono (zL (zL e2 d6) d0)) (d.mono (zL (zL (zL (zL (zL a g0) e1) e2) d6) d0)) (m.mono (zL (zL (zL (zL (zL a g0) e1) e2) d6) d0)) (q3.mono (zL (zL (zL e1 e2) d6) d0)) (r2.mono d0) (q9.mono (zL d6 d0)) r5) ?_
   rintro _ a21 ⟨b3,b4,rfl,r9⟩
   have s0:=r7 _ _ r9
   have s1:=r4 _ _ s0
   have s2:=r1 _ _ s1
   have s3:=q8 _ _ s2
   have s4:=q5 _ _ s3
   refine aH (v:=zS b3 b2.length b4) (aI (aJ (aL (aG (v:=zS b3 b2.length b4) ?_))));obtain ⟨a22,a23,s5,s6,s7⟩:=aE.lendSp s4 a zt5
   obtain ⟨a24,s8,hm⟩:=aB hm
   refine aP (vs:=[zS b3 b2.length b4,zB true]) call125 rfl (mF s8 s6 s5) ?_
   rintro _ a26 ⟨rfl,s9⟩
   have d7:=s7 _ _ s9
   refine aD (tZ rfl) (aI ?_)
   rcases aK hm with ⟨g1,hm⟩|⟨g1,hm⟩
   ·refine aQ g1 rfl (aL (aD (eP uA d7 (i:=6) rfl rfl rfl) (aD (lF (vs:=[zP (some ⟨o,0,none⟩)]) rfl) ?_)));obtain ⟨a27,e3,t0,t1,t2⟩:=aE.lendBp d7 zt5
    obtain ⟨t3,t4,hm⟩:=aB hm
    refine aP (vs:=[cH a1 b,Value.func (.func 126) #[] #[cH (some ⟨o,0,none⟩) 0]]) call73 rfl (xF t4 t1 (c.mono (zL a e3)) (d.mono (zL a e3)) (m.mono (zL a e3)) (p.mono (zL a e3)) t0) ?_
    rintro _ a28 ⟨i9,j0,rfl,t5⟩
    have t6:=t2 _ _ t5
    refine aH (v:=zS i9 t3.length j0) (aI ?_);obtain rfl:=zI hm
    exact pS (gZ (rT results77 rfl ⟨i9,j0,rfl,(aE.weakK (aE.arr 10 [1] t6 rfl) a)⟩))
   ·refine aT g1 rfl (aW (aC (aL (aD (eP uA d7 (i:=6) rfl rfl rfl) (aD (eP dM d7 (i:=5) rfl rfl rfl) (aD (pT rfl rfl) (aG (v:=zS b3 b2.length b4) ?_)))))));obtain ⟨a29,e4,t8,t9,u0⟩:=aE.lendSp d7 a .head
    obtain ⟨b7,u1,hm⟩:=aB hm
    refine aP (vs:=[cH a1 b,i64 (wr (1 - r)),zS b3 b2.length b4]) call75 rfl (kV u1 t9 (c.mono (zL a e4)) (d.mono (zL a e4)) (m.mono (zL a e4)) (p.mono (zL a e4)) t8) ?_
    rintro _ a30 ⟨b8,b9,rfl,u2⟩
    have u3:=u0 _ _ u2
    refine cT (vs:=[zS none 0 0]) zeroValue35 u3 rfl (fun d8 a31 u4=>(eW (i:=0) (ns:=[zS b8 b7.length b9]) (us:=[zS b8 b7.length b9]) sizeOf35 u4 rfl rfl rfl rfl rfl (gH rfl) rfl rfl (fun j1 (g2:aE G f7 (box d8 35 [zS b8 b7.length b9]::own 4 K b3 b4 b2::own 4 K b8 b9 b7::own 4 K a9 b0 u::box J 154 [zS a4 x_.g.length c5,zS a7 x_.back.length c8,zS a9 u.length b0]::own 4 K a0 a2 Z::box b1 35 [zS a0 Z.length a2]::box o 2 [i64 r]::box j 116 [cH a1 b]::own 4 K c7 c9 c6::box n 2 [i64 y]::L) j1)=>(aI (aL (aD (eP uA g2 (i:=8) rfl rfl rfl) (aD (eP aBp g2 (i:=0) rfl rfl rfl) ?_)))))))
    obtain ⟨j2,l,j3,g3⟩:=aE.giveSp g2 a zt2
    replace g3:aE G j2 (box d8 35 [zS b8 b7.length b9]::own 4 K b3 b4 b2::own 4 K a9 b0 u::box J 154 [zS a4 x_.g.length c5,zS a7 x_.back.length c8,zS a9 u.length b0]::own 4 K a0 a2 Z::box b1 35 [zS a0 Z.length a2]::box o 2 [i64 r]::box j 116 [cH a1 b]::own 4 K c7 c9 c6::box n 2 [i64 y]::L) j1:=g3
    obtain ⟨g4,u5,hm⟩:=aB hm
    refine aP (vs:=[cH a1 b,zS b8 b7.length b9]) call76 rfl (kW u5 g3 (c.mono (zL a l)) (d.mono (zL a l)) (m.mono (zL a l)) (p.mono (zL a l)) j3) ?_
    rintro _ a32 ⟨j4,j5,j6,rfl,u6⟩
    obtain ⟨a33,j7,u7,u8,u9⟩:=aE.lendSp u6 (zL a l) .head
    obtain ⟨a34,g5,v0,v1,v2⟩:=aE.lendBp u8 .head
    obtain ⟨e5,v3,hm⟩:=aB hm
    refine aP (vs:=[cH (some ⟨j6,0,none⟩) 0]) call77 rfl (ih (x_:=⟨x_.g,x_.back,g4⟩) v3 v1 v0 (d.mono (zL (zL (zL a l) j7) g5)) (m.mono (zL (zL (zL a l) j7) g5)) (u7.mono g5)) ?_
    rintro _ a35 ⟨e6,e7,rfl,v4⟩
    have v5:=v2 _ _ v4
    have v6:=u9 _ _ v5
    refine eW (i:=8) (ns:=[zS e6 e5.length e7]) (us:=[zS e6 e5.length e7]) sizeOf35 v6 rfl rfl rfl rfl rfl (gH rfl) rfl rfl (fun v7 (j8:aE G j2 (own 4 K j4 j5 g4::box j6 154 [zS a4 x_.g.length c5,zS a7 x_.back.length c8,zS j4 g4.length j5]::own 4 K e6 e7 e5::box d8 35 [zS b8 b7.length b9]::own 4 K b3 b4 b2::own 4 K a9 b0 u::box J 154 [zS a4 x_.g.length c5,zS a7 x_.back.length c8,zS a9 u.length b0]::own 4 K a0 a2 Z::box b1 35 [zS e6 e5.length e7]::box o 2 [i64 r]::box j 116 [cH a1 b]::own 4 K c7 c9 c6::box n 2 [i64 y]::L) v7)=>(aI (aL (aD (eP uA j8 (i:=10) rfl rfl rfl) (aD (lF (vs:=[zP (some ⟨d8,0,none⟩),zP (some ⟨o,0,none⟩),zP (some ⟨b1,0,none⟩)]) rfl) ?_)))))
    obtain ⟨a36,d1,v8,v9,w0⟩:=aE.lendBp j8 zt3
    obtain ⟨a37,c0,w1,w2,w3⟩:=aE.lendBp v9 zt8
    obtain ⟨a38,c1,w4,w5,w6⟩:=aE.lendSp w2 (zL (zL (zL a l) d1) c0) zt2
    obtain ⟨a39,b5,w7,w8,w9⟩:=aE.lendBp w5 zt6
    obtain ⟨x0,x1,hm⟩:=aB hm
    refine aP (vs:=[cH a1 b,Value.func (.func 127) #[] #[cH (some ⟨d8,0,none⟩) 0,cH (some ⟨o,0,none⟩) 0,cH (some ⟨b1,0,none⟩) 0]]) call73 rfl (xG x1 w8 (c.mono (zL (zL (zL (zL (zL a l) d1) c0) c1) b5)) (d.mono (zL (zL (zL (zL (zL a l) d1) c0) c1) b5)) (m.mono (zL (zL (zL (zL (zL a l) d1) c0) c1) b5)) (p.mono (zL (zL (zL (zL (zL a l) d1) c0) c1) b5)) (v8.mono (zL (zL c0 c1) b5)) (j3.mono (zL (zL (zL d1 c0) c1) b5)) (w1.mono (zL c1 b5)) w7 (w4.mono b5)) ?_
    rintro _ a40 ⟨j9,k0,rfl,x2⟩
    have x3:=w9 _ _ x2
    have x4:=w6 _ _ x3
    have x5:=w3 _ _ x4
    have x6:=w0 _ _ x5
    refine aH (v:=zS j9 x0.length k0) (aI ?_);obtain rfl:=zI hm
    exact pS (rT results77 rfl ⟨j9,k0,rfl,(aE.weakK (aE.arr 14 [4] x6 rfl) (zL a l))⟩)
  obtain ⟨a41,x8,ho⟩:=aB hm
  refine bX [1,4,37,38] x8 (fun c2 g6 f w=>f 39=i64 g6/\aE G K (own 2 K a5 a6 q::box j 116 [cH a1 b]::box n 2 [i64 c2]::L) w) ?_ ?_
  ·exact ⟨rfl,m4⟩
  ·rintro c2 g6 a42 f a43 hm hr ⟨g7,g8⟩
   unfold iZ at hm
   refine aL (aD (cW g7 rfl) (aI (aJ ?_)))
   rcases aK hm with ⟨g9,hm⟩|⟨g9,hm⟩
   ·refine aQ g9 rfl (aW (aC (aJ (cD (aL ?_)))));obtain ⟨h0,k1,hm⟩:=aB hm
    refine aD (cQ bJ rfl h8 rfl rfl g7 k1) (aD (nB (t:=0) dM g8 (i:=0) rfl k1 rfl rfl rfl) (aH (v:=i64 h0) (aI ?_)));obtain ⟨a44,d2,x9,y0,y1⟩:=aE.lendBp g8 zt1
    obtain ⟨y2,c3,y3,k3,y4⟩:=aE.lendBp y0 zt1
    refine cM (C:=fun w'=>∃ L',aE G y2 L' w') [(0,0),(1,0),(2,0),(3,0),(4,0),(5,0),(6,0),(7,0),(8,0),(9,0),(10,2)] Tryz_mixed (by kernel_rfl) (fun _ hg=>⟨_,aE.mono k3 hg⟩) (fun a45 y5=>?_)
    have a3:=aE.mono k3 y5
    refine aX rfl (fun _ ⟨_,a3⟩=>bG (t:=0) dM a3 y3 rfl rfl) (aX rfl (fun _ ⟨_,a3⟩=>bG (t:=0) uA a3 (x9.mono c3) rfl rfl) (aX rfl (fun _ _=>gN rfl (c.mono (zL d2 c3))) (aX rfl (fun _ _=>dV (k':=b+0) qU rfl (c.mono (zL d2 c3)) rfl) (aX rfl (fun _ ⟨_,a3⟩=>bG (t:=0) zM a3 (c.mono (zL d2 c3)) rfl rfl) (aX rfl (fun _ _=>aY (v:=i64 h0) rfl) ?_)))));obtain ⟨h1,k4,hm⟩:=aB hm
    refine aX rfl (fun _ _=>dD pU rfl (d.mono (zL d2 c3)) rfl rfl rfl k4) ?_;obtain ⟨a46,k5,y6⟩:=bL.el (sz:=3) rfl d k4
    obtain ⟨a47,a48,rfl,a49⟩:=y6
    refine aX rfl (fun _ _=>dV (k':=h0.toNat * 3+1) aGO rfl (k5.mono (zL d2 c3)) rfl) (aX rfl (fun _ ⟨_,a3⟩=>bG (t:=1) dM a3 (k5.mono (zL d2 c3)) rfl rfl) (aX rfl (fun _ _=>R_min rfl rfl) ?_))
    have y7:=y4 _ _ a3
    have y8:=y1 _ _ y7
    exact aGf rfl (eW (i:=1) (ns:=[i64 (mnI c2 h1.Priority)]) (us:=[i64 (mnI c2 h1.Priority)]) sizeOf2 y8 rfl rfl rfl rfl rfl (gH rfl) rfl rfl (fun y9 (z0:aE G K (box j 116 [cH a1 b]::box n 2 [i64 (mnI c2 h1.Priority)]::own 2 K a5 a6 q::L) y9)=>(aI (pC (cL (aC (aU (aD (dA g7 rfl) (aG (v:=i64 (wr (g6+1))) (aI ⟨_,(zI hm).symm,bK,rfl,(aE.arr 3 [2,0,1] z0 rfl)⟩))))))))))
   ·refine aT g9 rfl (aBk (kG (kG ?_)))
    have z1:=hr _ (zI hm).symm
    subst z1
    have hm:(sX rec_ x_ c2)=some R:=ho
    clear hr ho
    exact uF (aC ⟨bK,c2,hm,(aE.arr 1 [] g8 rfl)⟩)
theorem aBW (n:Nat):∀ {G:rY} {K:Hp} {L:List fD} {w:World} {x_:eS} {a1:Option Addr} {h:Nat} {a4:Option Addr} {c5:Nat} {a7:Option Addr} {c8:Nat} {a10:Option Addr} {c11:Nat} {R:(List Bool)} (hm:oQ n x_=some R) (a:aE G K (L) w) (b:dU K a1 h [zS a4 x_.g.length c5,zS a7 x_.back.length c8,zS a10 x_.in_.length c11]) (c:bL K a4 c5 x_.g) (d:bL K a7 c8 x_.back) (e:bL K a10 c11 x_.in_),
  Calls prog 77 ([cH a1 h]:List Value).toArray w (dQ fun v w'=>∃ i j,v=zS i R.length j/\aE G K (own 4 K i j R::L) w'):=by
 induction n with
 |zero=>
  intro G K L w x_ a1 h a4 c5 a7 c8 a10 c11 R hm a b c d e
  unfold oQ at hm
  cases hm
 |succ n ih=>
  intro G K L w x_ a1 h a4 c5 a7 c8 a10 c11 R hm a b c d e
  exact aBV (rec_:=oQ n) (fun hm a b c d e=>ih hm a b c d e) hm a b c d e
theorem aDz {x_:eS} {k2:Nat} {R:(List Bool)} (hm:aEV x_=some R) (hs:aE G K (L) w) (h3:dU K a1 k2 [zS a4 x_.g.length c5,zS a7 x_.back.length c8,zS a10 x_.in_.length c11]) (h6:bL K a4 c5 x_.g) (h9:bL K a7 c8 x_.back) (h12:bL K a10 c11 x_.in_):
  Calls prog 77 ([cH a1 k2]:List Value).toArray w (dQ fun v w'=>∃ ra0 rc0,v=zS ra0 R.length rc0/\aE G K (own 4 K ra0 rc0 R::L) w'):=aBW 100000 hm hs h3 h6 h9 h12
theorem aAl {k:Int} {p:(List aV)} {a:Nat} {b:Int} {c:Nat} {R:Bool} (hm:qZ k p b=some R) (e:aE G K (L) w) (g:dU K a1 a [zS a4 p.length c5]) (h:bL K a4 c5 p) (i:dU K a7 c [i64 b]):
  Calls prog 74 ([i64 k,cH a1 a,cH a7 c]:List Value).toArray w (dQ fun v w'=>v=zB R/\aE G K (L) w'):=by
 refine aN func74 rfl (by kernel_rfl) (by show (3:Nat)<=21;decide) ?_;unfold qZ at hm
 exact aL (aH (v:=zB false) (aI (aJ (bD [] (fun f w=>∃ d,qP d=some R/\f 4=zB d/\aE G K (L) w) aM aM))))
theorem xH {x_:eS} {j:Nat} {r:(List aV)} {l:Nat} {a2:Int} {m:Nat} {R:(List Bool)} (hm:jA x_ r a2=some R) (hs:aE G K (L) w) (k:dU K a1 j [zS a4 x_.g.length c5,zS a7 x_.back.length c8,zS a10 x_.in_.length c11]) (h6:bL K a4 c5 x_.g) (h9:bL K a7 c8 x_.back) (a5:bL K a10 c11 x_.in_) (b6:dU K a13 l [zS a16 r.length c17]) (b7:bL K a16 c17 r) (b8:dU K a19 m [i64 a2]):
  Calls prog 73 ([cH a1 j,Value.func (.func 74) #[] #[cH a13 l,cH a19 m]]:List Value).toArray w (dQ fun v w'=>∃ a6 a8,v=zS a6 R.length a8/\aE G K (own 4 K a6 a8 R::L) w'):=by
 refine aN func73 rfl (by kernel_rfl) (by show (2:Nat)<=35;decide) ?_;unfold jA at hm
 refine aL (aH (v:=zS none 0 0) (aI (aL (aG (v:=cH a1 j) (aD (gN rfl k) (aD (dV (k':=j+0) qU rfl k rfl) (aD (bG (t:=0) zM hs k rfl rfl) (aD (bF (len:=x_.g.length) pU rfl) ?_))))))));obtain ⟨a,b9,hm⟩:=aB hm
 refine aEj (e:=(false:Bool)) dB aGP rfl rfl hs rfl rfl rfl b9 rfl (fun b c0 (c1:aE G K (own 4 K b a.length a::L) c0)=>(aH (v:=zS b a.length a.length) (aI (aJ (aL (aG (v:=cH a1 j) (aD (gN rfl k) (aD (dV (k':=j+2) uJ rfl k rfl) (aD (bG (t:=2) aBp c1 k rfl rfl) (aD (bF (len:=x_.in_.length) dB rfl) (aG (v:=i64 0) (aI (aR [] (fun f w=>∃ u,aAd u=some R/\f 5=zS b u.length a.length/\aE G K (own 4 K b a.length u::L) w) aM ?_)))))))))))))
 obtain ⟨d9,c2,ho⟩:=aB hm
 refine bX [1,17,18] c2 (fun x c f w=>f 5=zS b x.length a.length/\f 19=i64 c/\aE G K (own 4 K b a.length x::L) w) aM ?_
 ·rintro x c c3 f e0 hm hr ⟨y,o,p⟩
  unfold gF at hm
  refine aL (aD (cW o rfl) (aI (aJ ?_)))
  rcases aK hm with ⟨a9,hm⟩|⟨a9,hm⟩
  ·refine aQ a9 rfl (aW (aC (aJ (cD (aL (bI o ?_))))));obtain ⟨z,b0,hm⟩:=aB hm
   refine aD (dD dB rfl a5 rfl rfl o b0) ?_;obtain ⟨e1,c4,c6⟩:=bL.el (sz:=1) rfl a5 b0
   cases c6
   refine aD (bG (t:=0) aCc p c4 rfl rfl) (aH (v:=i64 c) (aH (v:=zB z) (aI (bD [1,17,18,19] (fun f w=>∃ q,kU c q=some c3/\f 5=zS b q.length a.length/\aE G K (own 4 K b a.length q::L) w) ?_ ?_))))
   ·rintro f e2 ⟨q,hm,c7,c9⟩
    unfold kU at hm
    exact cL (aC (aU (aD (dA o rfl) (aG (v:=i64 (wr (c+1))) (aI ⟨_,(zI hm).symm,bK,c7,rfl,c9⟩)))))
   refine aU (bI y (aG (v:=i64 c) (aG (v:=zB z) (aG (v:=zB z) ?_))))
   rcases aK hm with ⟨d,hm⟩|⟨d,hm⟩
   ·refine cA d rfl rfl (aG (v:=Value.func (.func 74) #[] #[cH a13 l,cH a19 m]) (cA d rfl rfl (aG (v:=i64 c) (cA d rfl rfl ?_))));obtain ⟨J,d0,hm⟩:=aB hm
    refine lM (vs:=[i64 c]) (caps:=[cH a13 l,cH a19 m]) (us:=[i64 c,cH a13 l,cH a19 m]) rfl call74 rfl rfl (aAl d0 p b6 b7 b8) ?_
    rintro _ e3 ⟨rfl,b1⟩
    refine aD (cX (v:=zB J) d rfl rfl) ?_;obtain ⟨e4,Z,hm⟩:=aB hm
    have d1:=bV b1 (i:=0) rfl Z
    refine aD (cQ dB rfl d1 rfl rfl rfl Z) ?_;obtain ⟨b2,b3,hm⟩:=aB hm
    exact gP (i:=0) (t:=0) (ns:=[zB J]) (e':=(J:Bool)) sizeOf4 b1 rfl (zR _) rfl rfl rfl Z b3 rfl rfl (gH rfl) rfl (fun cs h=>by cases h;rfl) (fun d2 (d3:aE G K (own 4 K b a.length b2::L) d2)=>(aI ⟨bK,b2,hm,(Eq.trans y (congrArg (fun n=>zS b n a.length) (fP b3))),d3⟩))
   ·refine cE d rfl rfl (cE d rfl rfl (cE d rfl rfl (aD (eD (v:=zB false) d rfl rfl) ?_)));obtain ⟨e5,a0,hm⟩:=aB hm
    have d4:=bV p (i:=0) rfl a0
    refine aD (cQ dB rfl d4 rfl rfl rfl a0) ?_;obtain ⟨b4,b5,hm⟩:=aB hm
    exact gP (i:=0) (t:=0) (ns:=[zB false]) (e':=(false:Bool)) sizeOf4 p rfl (zR _) rfl rfl rfl a0 b5 rfl rfl (gH rfl) rfl (fun cs h=>by cases h;rfl) (fun d5 (d6:aE G K (own 4 K b a.length b4::L) d5)=>(aI ⟨bK,b4,hm,(Eq.trans y (congrArg (fun n=>zS b n a.length) (fP b5))),d6⟩))
  ·exact aM
theorem xI {b:Int} {h:Nat} {p:eS} {d:Nat} {e:(List aV)} {c:Nat} {R:(List Bool)} (hm:wZ b p e=some R) (m:aE G K (L) w) (n:dU K a1 h [cH a4 d]) (o:dU K a4 d [zS a7 p.g.length c8,zS a10 p.back.length c11,zS a13 p.in_.length c14]) (q:bL K a7 c8 p.g) (r:bL K a10 c11 p.back) (u:bL K a13 c14 p.in_) (x:dU K a16 c [zS a19 e.length c20]) (y:bL K a19 c20 e):
  Calls prog 72 ([i64 b,cH a1 h,cH a16 c]:List Value).toArray w (dQ fun v w'=>∃ i j,v=zS i R.length j/\aE G K (own 4 K i j R::L) w'):=by
 refine aN func72 rfl (by kernel_rfl) (by show (3:Nat)<=8;decide) ?_;unfold wZ at hm
 refine aL (gO (v:=i64 b) (vs:=[i64 b]) m rfl rfl (fun k a0 l=>(aH (v:=zS none 0 0) (aI (aL (aD (bG (t:=0) uA l n rfl rfl) (aD (lF (vs:=[cH a16 c,zP (some ⟨k,0,none⟩)]) rfl) ?_)))))));obtain ⟨a2,a,z,J,a3⟩:=aE.lendBp l .head
 obtain ⟨a5,Z,hm⟩:=aB hm
 exact aP (vs:=[cH a4 d,Value.func (.func 74) #[] #[cH a16 c,cH (some ⟨k,0,none⟩) 0]]) call73 rfl (xH Z J (o.mono a) (q.mono a) (r.mono a) (u.mono a) (x.mono a) (y.mono a) z) aM
theorem aBX {g:(List aV)} {R:(List Int)} (hm:wE g=some R) (hs:aE G K (L) w) (J:bL K a1 c2 g):
  Calls prog 27 ([zS a1 g.length c2]:List Value).toArray w (dQ fun v w'=>∃ h1 h2,v=zS h1 R.length h2/\aE G K (own 2 K h1 h2 R::L) w'):=by
 refine aN func27 rfl (by kernel_rfl) (by show (1:Nat)<=58;decide) ?_;unfold wE at hm
 refine aL (gO (v:=zS a1 g.length c2) (vs:=[zS a1 g.length c2]) hs rfl rfl (fun j w5 h4=>(aH (v:=zS none 0 0) (aI (aL (aD (eP zM h4 (i:=0) rfl rfl rfl) ?_))))));obtain ⟨a,q8,hm⟩:=aB hm
 refine aP (vs:=[zS a1 g.length c2]) call71 rfl (aEu q8 h4 J) ?_
 rintro _ y6 ⟨a9,c1,h5,c7,c8,b,rfl,c9,k8⟩
 refine cT (vs:=[zP none]) zeroValue116 k8 rfl (fun k y7 k9=>(eW (i:=0) (ns:=[zP (some ⟨b,0,none⟩)]) (us:=[zP (some ⟨b,0,none⟩)]) sizeOf116 k9 rfl rfl rfl rfl rfl (gH rfl) rfl rfl (fun l0 (l1:aE G K (box k 116 [zP (some ⟨b,0,none⟩)]::own 41 K a9 c1 (cP h5 a.1)::rows [2] h5 a.1::own 4 K c7 c8 a.2::box b 154 [zS a1 g.length c2,zS a9 a.1.length c1,zS c7 a.2.length c8]::box j 38 [zS a1 g.length c2]::L) l0)=>(aI (aL (aD (lF (vs:=[zP (some ⟨k,0,none⟩),zP (some ⟨j,0,none⟩)]) rfl) (aH (v:=Value.func (.func 72) #[] #[zP (some ⟨k,0,none⟩),zP (some ⟨j,0,none⟩)]) (aI (aJ ?_)))))))))
 obtain ⟨l2,c3,h6,h7,l3⟩:=aE.lendBp l1 .head
 refine cM (C:=fun w'=>∃ L',aE G l2 L' w') [(0,0),(1,0),(2,1),(3,1),(4,0)] Tryz_mixed (by kernel_rfl) (fun _ hg=>⟨_,aE.mono h7 hg⟩) (fun y8 l4=>?_)
 have e5:=aE.mono h7 l4
 refine aX rfl (fun _ ⟨_,e5⟩=>bG (t:=0) uA e5 h6 rfl rfl) (aX rfl (fun _ _=>aY (v:=Value.func (.func 72) #[] #[zP (some ⟨k,0,none⟩),zP (some ⟨j,0,none⟩)]) rfl) (gK rfl ?_));obtain ⟨y9,d5,l5,z0,l6,l7⟩:=aE.lendD' (i:=0) e5 c9 rfl rfl
 obtain ⟨z1,d6,l8,l9,m0⟩:=aE.lendSp l6 (zL c3 d5) .head
 obtain ⟨z2,d0,m1,m2,m3⟩:=aE.lendBp l9 .head
 obtain ⟨z3,c4,m4,m5,m6⟩:=aE.lendBp m2 .head
 obtain ⟨a3,m7,hm⟩:=aB hm
 refine lM (vs:=[i64 0]) (caps:=[cH (some ⟨k,0,none⟩) 0,cH (some ⟨j,0,none⟩) 0]) (us:=[i64 0,cH (some ⟨k,0,none⟩) 0,cH (some ⟨j,0,none⟩) 0]) rfl call72 rfl rfl (xI (p:=⟨g,a.1,a.2⟩) m7 m5 (show dU _ _ _ [cH (some ⟨b,0,none⟩) 0] from (h6.mono (zL (zL (zL d5 d6) d0) c4))) (m1.mono c4) (J.mono (zL (zL (zL (zL c3 d5) d6) d0) c4)) (l5.mono (zL (zL d6 d0) c4)) (l8.mono (zL d0 c4)) m4 (J.mono (zL (zL (zL (zL c3 d5) d6) d0) c4))) ?_
 rintro _ z4 ⟨a4,a5,rfl,m8⟩
 have m9:=m6 _ _ m8
 have n0:=m3 _ _ m9
 have n1:=m0 _ _ n0
 have h8:=l7 _ _ n1
 refine aZ (aC ⟨⟨_,h8⟩,?_⟩)
 refine gK rfl ?_;obtain ⟨z5,e6,n2,z6,n3,n4⟩:=aE.lendD' (i:=0) h8 c9 rfl rfl
 obtain ⟨z7,e7,n5,n6,n7⟩:=aE.lendSp n3 (zL c3 e6) .head
 obtain ⟨z8,d7,n8,n9,o0⟩:=aE.lendBp n6 .head
 obtain ⟨z9,d8,o1,o2,o3⟩:=aE.lendSp n9 (zL (zL (zL c3 e6) e7) d7) zt1
 obtain ⟨b7,o4,hm⟩:=aB hm
 refine aP (vs:=[cH (some ⟨b,0,none⟩) 0,i64 1,zS a4 a3.length a5]) call75 rfl (kV (x_:=⟨g,a.1,a.2⟩) o4 o2 (n8.mono d8) (J.mono (zL (zL (zL (zL c3 e6) e7) d7) d8)) (n2.mono (zL (zL e7 d7) d8)) (n5.mono (zL d7 d8)) o1) ?_
 rintro _ w88 ⟨b8,b9,rfl,o5⟩
 have o6:=o3 _ _ o5
 have o7:=o0 _ _ o6
 have o8:=n7 _ _ o7
 have h9:=n4 _ _ o8
 refine aZ (aC ⟨⟨_,h9⟩,?_⟩)
 refine aX rfl (fun _ _=>dX (v:=zS b8 b7.length b9) rfl) (pC ?_)
 have o9:=l3 _ _ h9
 refine aC (aJ ?_);obtain ⟨p0,c5,i0,i1,p1⟩:=aE.lendBp o9 .head
 refine cM (C:=fun w'=>∃ L',aE G p0 L' w') [(0,0),(1,0),(2,1),(3,1),(4,0)] Tryz_mixed (by kernel_rfl) (fun _ hg=>⟨_,aE.mono i1 hg⟩) (fun a01 p2=>?_)
 have e8:=aE.mono i1 p2
 refine aX rfl (fun _ ⟨_,e8⟩=>bG (t:=0) uA e8 i0 rfl rfl) (aX rfl (fun _ _=>aY (v:=Value.func (.func 72) #[] #[zP (some ⟨k,0,none⟩),zP (some ⟨j,0,none⟩)]) rfl) (gK rfl ?_));obtain ⟨a02,d9,p3,a03,p4,p5⟩:=aE.lendD' (i:=0) e8 c9 rfl rfl
 obtain ⟨a04,e0,p6,p7,p8⟩:=aE.lendSp p4 (zL c5 d9) .head
 obtain ⟨a05,d1,p9,q0,q1⟩:=aE.lendBp p7 .head
 obtain ⟨a06,c6,q2,q3,q4⟩:=aE.lendBp q0 zt2
 obtain ⟨a6,q5,hm⟩:=aB hm
 refine lM (vs:=[i64 1]) (caps:=[cH (some ⟨k,0,none⟩) 0,cH (some ⟨j,0,none⟩) 0]) (us:=[i64 1,cH (some ⟨k,0,none⟩) 0,cH (some ⟨j,0,none⟩) 0]) rfl call72 rfl rfl (xI (p:=⟨g,a.1,a.2⟩) q5 q3 (show dU _ _ _ [cH (some ⟨b,0,none⟩) 0] from (i0.mono (zL (zL (zL d9 e0) d1) c6))) (p9.mono c6) (J.mono (zL (zL (zL (zL c5 d9) e0) d1) c6)) (p3.mono (zL (zL e0 d1) c6)) (p6.mono (zL d1 c6)) q2 (J.mono (zL (zL (zL (zL c5 d9) e0) d1) c6))) ?_
 rintro _ a07 ⟨a7,a8,rfl,q6⟩
 have q7:=q4 _ _ q6
 have q9:=q1 _ _ q7
 have r0:=p8 _ _ q9
 have i2:=p5 _ _ r0
 refine aZ (aC ⟨⟨_,i2⟩,?_⟩)
 refine gK rfl ?_;obtain ⟨a08,e9,r1,a09,r2,r3⟩:=aE.lendD' (i:=0) i2 c9 rfl rfl
 obtain ⟨a10,f0,r4,r5,r6⟩:=aE.lendSp r2 (zL c5 e9) .head
 obtain ⟨a11,e1,r8,r9,s0⟩:=aE.lendBp r5 .head
 obtain ⟨a12,e2,s1,s2,s3⟩:=aE.lendSp r9 (zL (zL (zL c5 e9) f0) e1) zt1
 obtain ⟨Z,s4,hm⟩:=aB hm
 refine aP (vs:=[cH (some ⟨b,0,none⟩) 0,i64 0,zS a7 a6.length a8]) call75 rfl (kV (x_:=⟨g,a.1,a.2⟩) s4 s2 (r8.mono e2) (J.mono (zL (zL (zL (zL c5 e9) f0) e1) e2)) (r1.mono (zL (zL f0 e1) e2)) (r4.mono (zL e1 e2)) s1) ?_
 rintro _ e3 ⟨a0,a2,rfl,s5⟩
 have s6:=s3 _ _ s5
 have s7:=s0 _ _ s6
 have s8:=r6 _ _ s7
 have i3:=r3 _ _ s8
 refine aZ (aC ⟨⟨_,i3⟩,?_⟩)
 refine aX rfl (fun _ _=>dX (v:=zS a0 Z.length a2) rfl) (pC ?_)
 have i4:=p1 _ _ i3
 refine aC (aL (aD (eP uA i4 (i:=0) rfl rfl rfl) (aG (v:=zS b8 b7.length b9) ?_)));obtain ⟨s9,x,f1,_,f2,_⟩:=aE.lendD' (i:=1) i4 c9 rfl rfl
 replace f2:aE G s9 (box k 116 [zP (some ⟨b,0,none⟩)]::own 4 K c7 c8 a.2::box b 154 [zS a1 g.length c2,zS a9 a.1.length c1,zS c7 a.2.length c8]::own 4 K a7 a8 a6::own 4 K a0 a2 Z::box j 38 [zS a1 g.length c2]::own 4 K a4 a5 a3::own 4 K b8 b9 b7::L) e3:=f2
 obtain ⟨t0,q,t1,f3⟩:=aE.giveSp f2 x zt1
 replace f3:aE G t0 (box k 116 [zP (some ⟨b,0,none⟩)]::box b 154 [zS a1 g.length c2,zS a9 a.1.length c1,zS c7 a.2.length c8]::own 4 K a7 a8 a6::own 4 K a0 a2 Z::box j 38 [zS a1 g.length c2]::own 4 K a4 a5 a3::own 4 K b8 b9 b7::L) e3:=f3
 obtain ⟨t2,m,t3,f4,_⟩:=aE.lendBp f3 zt1
 replace f4:aE G t2 (box k 116 [zP (some ⟨b,0,none⟩)]::own 4 K a7 a8 a6::own 4 K a0 a2 Z::box j 38 [zS a1 g.length c2]::own 4 K a4 a5 a3::own 4 K b8 b9 b7::L) e3:=f4
 obtain ⟨t4,o,f5,f6⟩:=aE.giveSp f4 (zL (zL x q) m) zt5
 replace f6:aE G t4 (box k 116 [cH (some ⟨b,0,none⟩) 0]::own 4 K a7 a8 a6::own 4 K a0 a2 Z::box j 38 [zS a1 g.length c2]::own 4 K a4 a5 a3::L) e3:=f6
 obtain ⟨i5,t5,hm⟩:=aB hm
 refine aP (vs:=[cH (some ⟨b,0,none⟩) 0,zS b8 b7.length b9]) call76 (lst2 (elp_b rfl) rfl) (kW (x_:=⟨g,a.1,a.2⟩) t5 f6 (t3.mono o) (J.mono (zL (zL (zL x q) m) o)) (f1.mono (zL (zL q m) o)) (t1.mono (zL m o)) f5) ?_
 rintro _ f7 ⟨t6,t7,i6,rfl,t8⟩
 refine aG (v:=zS a0 Z.length a2) ?_;obtain ⟨t9,y,u0,f8⟩:=aE.giveSp t8 (zL (zL (zL x q) m) o) .head
 replace f8:aE G t9 (box i6 154 [zS a1 g.length c2,zS a9 a.1.length c1,zS t6 i5.length t7]::box k 116 [cH (some ⟨b,0,none⟩) 0]::own 4 K a7 a8 a6::own 4 K a0 a2 Z::box j 38 [zS a1 g.length c2]::own 4 K a4 a5 a3::L) f7:=f8
 obtain ⟨u1,r,u2,f9,_⟩:=aE.lendBp f8 .head
 replace f9:aE G u1 (box k 116 [cH (some ⟨b,0,none⟩) 0]::own 4 K a7 a8 a6::own 4 K a0 a2 Z::box j 38 [zS a1 g.length c2]::own 4 K a4 a5 a3::L) f7:=f9
 obtain ⟨b1,u,g0,g1⟩:=aE.giveSp f9 (zL (zL (zL (zL (zL x q) m) o) y) r) zt2
 replace g1:aE G b1 (box k 116 [cH (some ⟨b,0,none⟩) 0]::own 4 K a7 a8 a6::box j 38 [zS a1 g.length c2]::own 4 K a4 a5 a3::L) f7:=g1
 obtain ⟨g2,u3,hm⟩:=aB hm
 refine aP (vs:=[cH (some ⟨i6,0,none⟩) 0,zS a0 Z.length a2]) call76 (lst2 (elp_b rfl) rfl) (kW (x_:=⟨g,a.1,i5⟩) u3 g1 (u2.mono u) (J.mono (zL (zL (zL (zL (zL (zL x q) m) o) y) r) u)) (f1.mono (zL (zL (zL (zL (zL q m) o) y) r) u)) (u0.mono (zL r u)) g0) ?_
 rintro _ a14 ⟨i7,i8,i9,rfl,u4⟩
 obtain ⟨a15,j0,u5,u6,u7⟩:=aE.lendSp u4 (zL (zL (zL (zL (zL (zL x q) m) o) y) r) u) .head
 obtain ⟨a16,g3,u8,u9,v0⟩:=aE.lendBp u6 .head
 obtain ⟨b2,v1,hm⟩:=aB hm
 refine aP (vs:=[cH (some ⟨i9,0,none⟩) 0]) call77 rfl (aDz (x_:=⟨g,a.1,g2⟩) v1 u9 u8 (J.mono (zL (zL (zL (zL (zL (zL (zL (zL x q) m) o) y) r) u) j0) g3)) (f1.mono (zL (zL (zL (zL (zL (zL (zL q m) o) y) r) u) j0) g3)) (u5.mono g3)) ?_
 rintro _ a17 ⟨b3,b5,rfl,v2⟩
 have v3:=v0 _ _ v2
 have j1:=u7 _ _ v3
 refine aH (v:=zS b3 b2.length b5) (aI (aL (aD (eP zM j1 (i:=5) rfl rfl rfl) (aD (bF (len:=g.length) pU rfl) ?_))));obtain ⟨d,v4,hm⟩:=aB hm
 refine aEj (e:=(0:Int)) bJ lN rfl rfl j1 rfl rfl rfl v4 rfl (fun l v5 (v6:aE G b1 (own 2 K l d.length d::own 4 K i7 i8 g2::box i9 154 [zS a1 g.length c2,zS a9 a.1.length c1,zS i7 g2.length i8]::own 4 K b3 b5 b2::box k 116 [cH (some ⟨b,0,none⟩) 0]::own 4 K a7 a8 a6::box j 38 [zS a1 g.length c2]::own 4 K a4 a5 a3::L) v5)=>(aH (v:=zS l d.length d.length) (aI (aJ (aL (aD (eP zM v6 (i:=6) rfl rfl rfl) (aD (bF (len:=g.length) pU rfl) (aG (v:=i64 0) (aI (aR [] (fun f w=>∃ d2,aAU d2=some R/\f 8=zS l d2.length d.length/\aE G b1 (own 2 K l d.length d2::L) w) ?_ ?_))))))))))
 ·rintro f a18 ⟨d2,hm,v7,v8⟩
  unfold aAU at hm
  refine aC (aL (bI v7 (aH (v:=zS l d2.length d.length) (aI ?_))));obtain rfl:=zI hm
  exact pS (rT results27 rfl ⟨l,d.length,rfl,(aE.weakK v8 (zL (zL (zL (zL (zL (zL x q) m) o) y) r) u))⟩)
 obtain ⟨a19,w0,ho⟩:=aB hm
 refine bX [5,6,7,31] w0 (fun d3 b0 f w=>f 8=zS l d3.length d.length/\f 32=i64 b0/\aE G b1 (own 2 K l d.length d3::own 4 K b3 b5 b2::L) w) aM ?_
 ·rintro d3 b0 w1 f a20 hm hr ⟨d4,g4,b6⟩
  unfold oG at hm
  refine aL (aD (cW g4 rfl) (aI (aJ ?_)))
  rcases aK hm with ⟨g5,hm⟩|⟨g5,hm⟩
  ·refine aQ g5 rfl (aW (aC (aJ (cD (aL (bI g4 (aH (v:=i64 b0) (aI (bD [5,6,7,31,32] (fun f w=>∃ e4,tS b0 e4=some w1/\f 8=zS l e4.length d.length/\aE G b1 (own 2 K l d.length e4::own 4 K b3 b5 b2::L) w) ?_ ?_)))))))))
   ·rintro f a21 ⟨e4,hm,w2,w3⟩
    unfold tS at hm
    exact cL (aC (aU (aD (dA g4 rfl) (aG (v:=i64 (wr (b0+1))) (aI ⟨_,(zI hm).symm,bK,w2,rfl,w3⟩)))))
   refine aU (bI d4 (aG (v:=i64 b0) (aG (v:=zS b8 b7.length b9) (aG (v:=i64 b0) ?_))));obtain ⟨w4,j2,hm⟩:=aB hm
   refine aD (dD dB rfl (f5.mono (zL (zL y r) u)) rfl rfl rfl j2) ?_;obtain ⟨a22,w6,w7⟩:=bL.el (sz:=1) rfl f5 j2
   cases w7
   refine aD (bG (t:=0) aCc b6 (w6.mono (zL (zL y r) u)) rfl rfl) (aG (v:=zB w4) ?_)
   rcases aK hm with ⟨c,hm⟩|⟨c,hm⟩
   ·refine bA c rfl rfl (bA c rfl rfl (bA c rfl rfl (bA c rfl rfl (bA c rfl rfl (bA c rfl rfl (uG (g:=47) rfl rfl (uG (g:=47) rfl rfl (uG (g:=47) rfl rfl (uG (g:=47) rfl rfl (bA c rfl rfl (aD (cX (v:=zB true) c rfl rfl) ?_)))))))))));obtain ⟨j3,w8,hm⟩:=aB hm
    refine aP (vs:=[zB true]) call67 rfl (kL w8 b6) ?_
    rintro _ a23 ⟨rfl,j4⟩
    obtain ⟨a24,g6,hm⟩:=aB hm
    have w9:=bV j4 (i:=0) rfl g6
    refine aD (cQ bJ rfl w9 rfl rfl rfl g6) ?_;obtain ⟨j5,j6,hm⟩:=aB hm
    exact gP (i:=0) (t:=0) (ns:=[i64 j3]) (e':=(j3:Int)) sizeOf2 j4 rfl (zL (zL (zL (zL (zL (zL x q) m) o) y) r) u) rfl rfl rfl g6 j6 rfl rfl (gH rfl) rfl (fun cs h=>by cases h;rfl) (fun x0 (x1:aE G b1 (own 2 K l d.length j5::own 4 K b3 b5 b2::L) x0)=>(aI ⟨bK,j5,hm,(Eq.trans d4 (congrArg (fun n=>zS l n d.length) (fP j6))),x1⟩))
   ·refine bS c rfl rfl (aG (v:=zS a0 Z.length a2) (bS c rfl rfl (aG (v:=i64 b0) (bS c rfl rfl ?_))));obtain ⟨x2,j7,hm⟩:=aB hm
    refine aD (dD dB rfl g0 rfl rfl rfl j7) ?_;obtain ⟨a25,x3,x4⟩:=bL.el (sz:=1) rfl g0 j7
    cases x4
    refine bS c rfl rfl (aD (bG (t:=0) aCc b6 x3 rfl rfl) (bS c rfl rfl (aD (tZ rfl) (bS c rfl rfl (aG (v:=zB (!x2)) ?_)))))
    rcases aK hm with ⟨z,hm⟩|⟨z,hm⟩
    ·refine cA z rfl rfl (aG (v:=zS b3 b2.length b5) (cA z rfl rfl (aG (v:=i64 b0) (cA z rfl rfl ?_))));obtain ⟨g7,g8,hm⟩:=aB hm
     have x5:=bV b6 (i:=1) rfl g8
     refine aD (cQ dB rfl x5 rfl rfl rfl g8) (cA z rfl rfl (aD (nB (t:=0) aCc b6 (i:=1) rfl g8 rfl rfl rfl) (bS c rfl rfl (aD (cX (v:=zB g7) z rfl rfl) (aD (eD (v:=zB g7) c rfl rfl) ?_)))));obtain ⟨j8,x6,hm⟩:=aB hm
     refine aP (vs:=[zB g7]) call67 rfl (kL x6 b6) ?_
     rintro _ a26 ⟨rfl,j9⟩
     obtain ⟨a27,g9,hm⟩:=aB hm
     have x7:=bV j9 (i:=0) rfl g9
     refine aD (cQ bJ rfl x7 rfl rfl rfl g9) ?_;obtain ⟨k0,k1,hm⟩:=aB hm
     exact gP (i:=0) (t:=0) (ns:=[i64 j8]) (e':=(j8:Int)) sizeOf2 j9 rfl (zL (zL (zL (zL (zL (zL x q) m) o) y) r) u) rfl rfl rfl g9 k1 rfl rfl (gH rfl) rfl (fun cs h=>by cases h;rfl) (fun x8 (x9:aE G b1 (own 2 K l d.length k0::own 4 K b3 b5 b2::L) x8)=>(aI ⟨bK,k0,hm,(Eq.trans d4 (congrArg (fun n=>zS l n d.length) (fP k1))),x9⟩))
    ·refine cE z rfl rfl (cE z rfl rfl (cE z rfl rfl (cE z rfl rfl (bS c rfl rfl (aD (eD (v:=zB false) z rfl rfl) (aD (eD (v:=zB false) c rfl rfl) ?_))))));obtain ⟨k2,y0,hm⟩:=aB hm
     refine aP (vs:=[zB false]) call67 rfl (kL y0 b6) ?_
     rintro _ a28 ⟨rfl,k3⟩
     obtain ⟨a29,h0,hm⟩:=aB hm
     have y1:=bV k3 (i:=0) rfl h0
     refine aD (cQ bJ rfl y1 rfl rfl rfl h0) ?_;obtain ⟨k4,k5,hm⟩:=aB hm
     exact gP (i:=0) (t:=0) (ns:=[i64 k2]) (e':=(k2:Int)) sizeOf2 k3 rfl (zL (zL (zL (zL (zL (zL x q) m) o) y) r) u) rfl rfl rfl h0 k5 rfl rfl (gH rfl) rfl (fun cs h=>by cases h;rfl) (fun y2 (y3:aE G b1 (own 2 K l d.length k4::own 4 K b3 b5 b2::L) y2)=>(aI ⟨bK,k4,hm,(Eq.trans d4 (congrArg (fun n=>zS l n d.length) (fP k5))),y3⟩))
  ·refine aT g5 rfl (aBk (kG (kG ?_)))
   have y4:=hr _ (zI hm).symm
   subst y4
   have hm:(aAU d3)=some R:=ho
   clear hr ho
   exact uF (aC ⟨bK,d3,hm,d4,(aE.arr 2 [0] b6 rfl)⟩)
theorem aHe {e:(List aS)} {R:(List Bool)} (hm:aDW e=some R) (l:aE G K (L) w) (m:bL K a1 c2 e):
  Calls prog 24 ([zS a1 e.length c2]:List Value).toArray w (dQ fun v w'=>∃ b c,v=zS b R.length c/\aE G K (own 4 K b c R::L) w'):=by
 refine aN func24 rfl (by kernel_rfl) (by show (1:Nat)<=21;decide) ?_;unfold aDW at hm
 refine aL (aH (v:=zS none 0 0) (aI (aL (aH (v:=zS none 0 0) (aI (aJ (aL (aG (v:=zS a1 e.length c2) ?_))))))));obtain ⟨n,o,hm⟩:=aB hm
 refine aP (vs:=[zS a1 e.length c2]) call25 rfl (aIc o l m) ?_
 rintro _ a4 ⟨d,p,q,rfl,a5,r⟩
 obtain ⟨a6,a7,t,u,x⟩:=aE.lendSp r (zR _) .head
 obtain ⟨g,y,hm⟩:=aB hm
 refine aP (vs:=[zS p n.length q]) call27 rfl (aBX y u t) ?_
 rintro _ a9 ⟨z,J,rfl,Z⟩
 have a0:=x _ _ Z
 refine aD (bF (len:=g.length) bJ rfl) (aG (v:=i64 0) (aI (aR [] (fun f w=>∃ a h i,aJg a=some R/\f 3=zS h a.length i/\aE G d (own 4 K h i a::L) w) aM ?_)))
 have b0:=aE.nil (α:=Bool) a0 4 K
 obtain ⟨b1,a2,ho⟩:=aB hm
 exact bX [8,9] a2 (fun j a3 f w=>∃ k c45,f 3=zS k j.length c45/\f 10=i64 a3/\aE G d (own 4 K k c45 j::own 2 K z J g::L) w) aM aM
theorem yA {e:(List aS)} {R:((List Bool) × Int)} (hm:tT e=some R) (c:aE G K (L) w) (d:bL K a1 c2 e):
  Calls prog 8 ([zS a1 e.length c2]:List Value).toArray w (dQ fun v w'=>∃ a b,v=Value.tuple #[zS a R.1.length b,i64 R.2]/\aE G K (own 4 K a b R.1::L) w'):=by
 exact aM
end Gv
