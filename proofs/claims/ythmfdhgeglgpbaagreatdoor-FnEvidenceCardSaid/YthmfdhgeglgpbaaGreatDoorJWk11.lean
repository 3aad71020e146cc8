/- Walks, printed by program. -/
import Derived.Test.YthmfdhgeglgpbaaGreatDoorJWk9
set_option linter.all false
namespace Gv
open Gv.Hp renaming le_refl→zR
open Go.Value renaming slice→zS,bool→zB,pointer→zP,agg→zA,tuple→zT
open Option.some renaming inj→zI
open Gv.Hp renaming le_trans→zL
open Go Go.Proofs Go.Proofs.Tryz
set_option maxRecDepth 20000
set_option maxHeartbeats 40000000
variable {G:rT} {K:Hp} {L:List fM} {w:World} {a1 a4 a7 a10 a13 a16 a19:Option Addr} {c2 c5 c8 c11 c17 c20:Nat}
theorem aEu {rec_:(List aO)->(List Bool)->Option (List Bool)} (ih:∀ {G:rT} {K:Hp} {L:List fM} {w:World} {g:(List aO)} {a1:Option Addr} {c2:Nat} {a:(List Bool)} {a4:Option Addr} {c5:Nat} {R:(List Bool)} (hm:rec_ g a=some R) (hs:aF G K (L) w) (r:bI K a1 c2 g) (u:bI K a4 c5 a),
  Calls prog 178 ([zS a1 g.length c2,zS a4 a.length c5]:List Value).toArray w (dL fun v w'=>∃ a3 a5,v=zS a3 R.length a5/\aF G K (own 4 K a3 a5 R::L) w'))
  {G:rT} {K:Hp} {L:List fM} {w:World} {g:(List aO)} {a1:Option Addr} {c2:Nat} {a:(List Bool)} {a4:Option Addr} {c5:Nat} {R:(List Bool)} (hm:aFu rec_ g a=some R) (hs:aF G K (L) w) (r:bI K a1 c2 g) (u:bI K a4 c5 a):
  Calls prog 178 ([zS a1 g.length c2,zS a4 a.length c5]:List Value).toArray w (dL fun v w'=>∃ a3 a5,v=zS a3 R.length a5/\aF G K (own 4 K a3 a5 R::L) w'):=by
 refine aP func178 rfl (by kernel_rfl) (by show (2:Nat)<=137;decide) ?_;unfold aFu at hm
 refine aL (aH (v:=zS none 0 0) (aI (aL (aH (v:=i64 (-1)) (aI (aK (aL (aH (v:=i64 0) (aI (aS [0,1] (fun f w=>∃ z,aEi rec_ g a z=some R/\f 5=i64 z/\aF G K (L) w) ?_ ?_))))))))))
 ·rintro f w9 ⟨z,hm,e8,e4⟩
  unfold aEi at hm
  refine aC (aK (aL (bA e8 (aD (cH rfl rfl) (aI ?_)))))
  rcases aM hm with ⟨c7,hm⟩|⟨c7,hm⟩
  ·refine aR c7 rfl (aL (aG (v:=zS a1 g.length c2) (aD (bC (len:=g.length) eL rfl) ?_)));obtain ⟨a6,h2,hm⟩:=aB hm
   refine aBb (e:=(false:Bool)) cQ aEy rfl rfl e4 rfl rfl rfl h2 rfl (fun c8 h4 (h5:aF G K (own 4 K c8 a6.length a6::L) h4)=>(aH (v:=zS c8 a6.length a6.length) (aI ?_)));obtain rfl:=zI hm
   exact nD (kJ (oW results178 rfl ⟨c8,a6.length,rfl,h5⟩))
  ·refine aX c7 rfl (aW (aC (aL (bA e8 ?_))));obtain ⟨m,h8,hm⟩:=aB hm
   refine aD (aME rfl rfl h8) (aH (v:=i64 m) (aI (aL (aG (v:=zS a1 g.length c2) (aD (bC (len:=g.length) eL rfl) ?_)))));obtain ⟨c,h9,hm⟩:=aB hm
   refine aBb (e:=(false:Bool)) cQ aEy rfl rfl e4 rfl rfl rfl h9 rfl (fun d i0 (r3:aF G K (own 4 K d c.length c::L) i0)=>(aH (v:=zS d c.length c.length) (aI (aK (aL (aH (v:=i64 0) (aI (aS [0,1,7] (fun f w=>∃ a7,aEh rec_ g a m a7=some R/\f 8=zS d a7.length c.length/\aF G K (own 4 K d c.length a7::L) w) ?_ ?_))))))))
   ·rintro f r4 ⟨a7,hm,i1,i2⟩
    unfold aEh at hm
    refine aC (aL (aG (v:=zS a4 a.length c5) (aG (v:=zS a1 g.length c2) (aG (v:=zS a4 a.length c5) (aG (v:=i64 m) (bA i1 ?_))))));obtain ⟨r5,e5,i3,i4,i5⟩:=aF.lendSp i2 (zR _) .head
    obtain ⟨i6,i7,hm⟩:=aB hm
    refine aQ (vs:=[zS a1 g.length c2,zS a4 a.length c5,i64 m,zS d a7.length c.length]) call175 rfl (qX i7 i4 (r.mono e5) (u.mono e5) i3) ?_
    rintro _ r6 ⟨i8,i9,rfl,j0⟩
    have j1:=i5 _ _ j0
    obtain ⟨r7,j2,j3,j4,j5⟩:=aF.lendSp j1 (zR _) zt1
    obtain ⟨b4,j6,hm⟩:=aB hm
    refine aQ (vs:=[zS a4 a.length c5,zS i8 i6.length i9]) call177 rfl (vY j6 j4 (u.mono j2) j3) ?_
    rintro _ r8 ⟨b5,b6,rfl,j7⟩
    have j8:=j5 _ _ j7
    refine aH (v:=zS b5 b4.length b6) (aI (aL (aG (v:=zS a1 g.length c2) (aG (v:=zS b5 b4.length b6) ?_))));obtain ⟨r9,j9,k0,k1,k2⟩:=aF.lendSp j8 (zR _) zt1
    obtain ⟨b7,k3,hm⟩:=aB hm
    refine aQ (vs:=[zS a1 g.length c2,zS b5 b4.length b6]) call178 rfl (ih k3 k1 (r.mono j9) k0) ?_
    rintro _ s0 ⟨b8,b9,rfl,k4⟩
    have k5:=k2 _ _ k4
    refine aH (v:=zS b8 b7.length b9) (aI (aL (aG (v:=zS b8 b7.length b9) (aH (v:=zS b8 b7.length b9) (aI (gQ [0,1,7] (fun f w=>∃ x J Z,aAK rec_ g a m x=some R/\f 12=zS J x.length Z/\aF G K (own 4 K J Z x::L) w) ?_ ?_))))))
    ·rintro f s1 ⟨x,J,Z,hm,e6,k6⟩
     unfold aAK at hm
     refine aK (aL (bA e6 ?_));obtain ⟨s2,s3,k7,k8,k9⟩:=aF.lendSp k6 (zR _) .head
     obtain ⟨e7,l0,hm⟩:=aB hm
     refine aQ (vs:=[zS J x.length Z]) call215 rfl (aIs l0 k8 k7) ?_
     rintro _ s4 ⟨l1,l2,rfl,l3⟩
     have e9:=k9 _ _ l3
     refine aD (bC (len:=e7.length) bF rfl) (aD (kK rfl rfl) (aI ?_))
     rcases aM hm with ⟨c9,hm⟩|⟨c9,hm⟩
     ·refine aR c9 rfl (aK (aL (aG (v:=i64 m) (aD (kK rfl rfl) (aI ?_)))))
      rcases aM hm with ⟨f0,hm⟩|⟨f0,hm⟩
      ·exact aN
      ·refine aX f0 rfl (aW (aC (aL (aG (v:=zS a1 g.length c2) (aD (bC (len:=g.length) eL rfl) ?_)))));obtain ⟨a8,l4,hm⟩:=aB hm
       refine aBb (e:=(false:Bool)) cQ aEy rfl rfl e9 rfl rfl rfl l4 rfl (fun d0 l5 (l6:aF G K (own 4 K d0 a8.length a8::own 4 K J Z x::own 2 K l1 l2 e7::L) l5)=>(aH (v:=zS d0 a8.length a8.length) (aI ?_)));obtain rfl:=zI hm
       exact nD (kJ (oW results178 rfl ⟨d0,a8.length,rfl,(aF.arr 3 [0] l6 rfl)⟩))
     ·refine aX c9 rfl (aW (aC (aL (aG (v:=zS a1 g.length c2) (aG (v:=zS a4 a.length c5) (aG (v:=i64 m) (aD (oX rfl rfl) (bA e6 ?_))))))));obtain ⟨s5,f1,l8,l9,m0⟩:=aF.lendSp e9 (zR _) .head
      obtain ⟨o,m1,hm⟩:=aB hm
      refine aQ (vs:=[zS a1 g.length c2,zS a4 a.length c5,i64 (wr (1 - m)),zS J x.length Z]) call175 rfl (qX m1 l9 (r.mono f1) (u.mono f1) l8) ?_
      rintro _ s6 ⟨p,q,rfl,m2⟩
      have m3:=m0 _ _ m2
      refine aH (v:=zS p o.length q) (aI (aL (aG (v:=zS a1 g.length c2) (aG (v:=zS a4 a.length c5) (aG (v:=zS p o.length q) ?_)))));obtain ⟨s7,m4,m5,m6,m7⟩:=aF.lendSp m3 (zR _) zt1
      obtain ⟨m8,m9,hm⟩:=aB hm
      refine aQ (vs:=[zS a4 a.length c5,zS p o.length q]) call177 rfl (vY m9 m6 (u.mono m4) m5) ?_
      rintro _ s8 ⟨n0,n1,rfl,n2⟩
      have n3:=m7 _ _ n2
      obtain ⟨s9,n4,n5,n6,n7⟩:=aF.lendSp n3 (zR _) zt1
      obtain ⟨n8,n9,hm⟩:=aB hm
      refine aQ (vs:=[zS a1 g.length c2,zS n0 m8.length n1]) call178 rfl (ih n9 n6 (r.mono n4) n5) ?_
      rintro _ t0 ⟨j,k,rfl,o0⟩
      have t1:=n7 _ _ o0
      refine aH (v:=zS j n8.length k) (aI (gQ [] (fun f w=>∃ d1,aEf d1=some R/\f 14=zS j d1.length k/\aF G K (own 4 K j k d1::L) w) aN (aL (aG (v:=i64 m) (aD (kK rfl rfl) (aI ?_))))))
      rcases aM hm with ⟨f2,hm⟩|⟨f2,hm⟩
      ·refine aR f2 rfl (aL (aH (v:=i64 0) (aI (aS [] (fun f w=>∃ a9,aEg a9=some R/\f 14=zS j a9.length k/\aF G K (own 4 K j k a9::L) w) ?_ ?_))))
       ·rintro f t2 ⟨a9,hm,o1,o2⟩
        unfold aEg at hm
        exact aC ⟨bG,a9,hm,o1,o2⟩
       obtain ⟨t3,o3,ho⟩:=aB hm
       refine bN [0,13] o3 (fun d2 c0 f w=>f 14=zS j d2.length k/\f 15=i64 c0/\aF G K (own 4 K j k d2::own 4 K p q o::L) w) aN ?_
       ·rintro d2 c0 o4 f t4 hm hr ⟨c1,b0,a0⟩
        unfold aHY at hm
        refine aK (aL (bA b0 (aG (v:=zS a1 g.length c2) (aD (bC (len:=g.length) eL rfl) (aD (cH rfl rfl) (aI ?_))))))
        rcases aM hm with ⟨f3,hm⟩|⟨f3,hm⟩
        ·refine aR f3 rfl (aW (aC (aK (bZ (bD [0,13,15] (fun f w=>∃ c3,aAJ c0 c3=some o4/\f 14=zS j c3.length k/\aF G K (own 4 K j k c3::own 4 K p q o::L) w) ?_ ?_)))))
         ·rintro f t5 ⟨c3,hm,o5,o6⟩
          unfold aAJ at hm
          exact bW (aC (aU (bA b0 (aD (cJ rfl rfl) (aH (v:=i64 (wr (c0+1))) (aI ⟨_,(zI hm).symm,bG,o5,rfl,o6⟩))))))
         refine aU (bA c1 (bA b0 (bA c1 (bA b0 ?_))));obtain ⟨o7,y,hm⟩:=aB hm
         have d3:=bM a0 (i:=0) rfl y
         refine aD (cB cQ rfl d3 rfl rfl rfl y) (aD (lH (t:=0) wX a0 (i:=0) rfl y rfl rfl rfl) (aG (v:=zB o7) ?_))
         rcases aM hm with ⟨l,hm⟩|⟨l,hm⟩
         ·refine eG l rfl rfl (eG l rfl rfl (eG l rfl rfl (eG l rfl rfl (aD (fN (v:=zB true) l rfl rfl) (aD (cB cQ rfl d3 rfl rfl rfl y) ?_)))));obtain ⟨f4,f5,hm⟩:=aB hm
          exact eC (i:=0) (t:=0) (ns:=[zB true]) (e':=(true:Bool)) sizeOf4 a0 rfl (zR _) rfl rfl rfl y f5 rfl rfl (eB rfl) rfl (fun cs h=>by cases h;rfl) (fun o8 (o9:aF G K (own 4 K j k f4::own 4 K p q o::L) o8)=>(aI ⟨bG,f4,hm,(Eq.trans c1 (congrArg (fun n=>zS j n k) (dH f5))),o9⟩))
         ·refine cR l rfl rfl (aG (v:=zS p o.length q) (cR l rfl rfl (bA b0 (cR l rfl rfl ?_))));obtain ⟨d4,d5,hm⟩:=aB hm
          have p0:=bM a0 (i:=1) rfl d5
          refine aD (cB cQ rfl p0 rfl rfl rfl d5) (cR l rfl rfl (aD (lH (t:=0) wX a0 (i:=1) rfl d5 rfl rfl rfl) (aD (eJ (v:=zB d4) l rfl rfl) (aD (cB cQ rfl d3 rfl rfl rfl y) ?_))));obtain ⟨f6,f7,hm⟩:=aB hm
          exact eC (i:=0) (t:=0) (ns:=[zB d4]) (e':=(d4:Bool)) sizeOf4 a0 rfl (zR _) rfl rfl rfl y f7 rfl rfl (eB rfl) rfl (fun cs h=>by cases h;rfl) (fun p1 (p2:aF G K (own 4 K j k f6::own 4 K p q o::L) p1)=>(aI ⟨bG,f6,hm,(Eq.trans c1 (congrArg (fun n=>zS j n k) (dH f7))),p2⟩))
        ·exact aN
      ·exact aN
    refine aL (aG (v:=i64 m) (aD (kK rfl rfl) (aI ?_)))
    rcases aM hm with ⟨f8,hm⟩|⟨f8,hm⟩
    ·refine aR f8 rfl (aU (aG (v:=zS b5 b4.length b6) (aG (v:=zS b8 b7.length b9) ?_)));obtain ⟨t6,p3,t7,p4,t8⟩:=aF.lendSp k5 (zR _) .head
     obtain ⟨t9,u0,u1,u2,u3⟩:=aF.lendSp p4 p3 .head
     exact aN
    ·exact aN
   obtain ⟨u4,p5,ho⟩:=aB hm
   refine bN [0,1,5,7] p5 (fun d6 b1 f w=>f 8=zS d d6.length c.length/\f 9=i64 b1/\aF G K (own 4 K d c.length d6::L) w) aN ?_
   ·rintro d6 b1 p6 f u5 hm hr ⟨d7,b2,a2⟩
    unfold aHZ at hm
    refine aK (aL (bA b2 (aG (v:=zS a1 g.length c2) (aD (bC (len:=g.length) eL rfl) (aD (cH rfl rfl) (aI ?_))))))
    rcases aM hm with ⟨f9,hm⟩|⟨f9,hm⟩
    ·refine aR f9 rfl (aW (aC (aK (bZ (bD [0,1,5,7,9] (fun f w=>∃ c4,aAL b1 c4=some p6/\f 8=zS d c4.length c.length/\aF G K (own 4 K d c.length c4::L) w) ?_ ?_)))))
     ·rintro f u6 ⟨c4,hm,p7,p8⟩
      unfold aAL at hm
      exact bW (aC (aU (bA b2 (aD (cJ rfl rfl) (aH (v:=i64 (wr (b1+1))) (aI ⟨_,(zI hm).symm,bG,p7,rfl,p8⟩))))))
     refine aU (bA d7 (bA b2 (aG (v:=zS a4 a.length c5) (bA b2 ?_))));obtain ⟨p9,g0,hm⟩:=aB hm
     refine aD (cU cQ rfl u rfl rfl rfl g0) ?_;obtain ⟨u7,q0,q1⟩:=bI.el (sz:=1) rfl u g0
     cases q1
     refine aD (bE (t:=0) wX a2 q0 rfl rfl) (aG (v:=zB p9) ?_)
     rcases aM hm with ⟨b,hm⟩|⟨b,hm⟩
     ·refine bP b rfl rfl (aG (v:=zS a1 g.length c2) (bP b rfl rfl (bA b2 (bP b rfl rfl ?_))));obtain ⟨d8,g1,hm⟩:=aB hm
      refine aD (cU eL rfl r rfl rfl rfl g1) ?_;obtain ⟨u8,g2,q2⟩:=bI.el (sz:=3) rfl r g1
      obtain ⟨u9,v0,rfl,v1⟩:=q2
      refine bP b rfl rfl (aD (cV (k':=b1.toNat * 3+1) aFG rfl g2 rfl) (bP b rfl rfl (aD (bE (t:=1) dJ a2 g2 rfl rfl) (bP b rfl rfl (bA e8 (bP b rfl rfl (aD (kK rfl rfl) (aD (fN (v:=zB (d8.Priority == z)) b rfl rfl) ?_))))))));obtain ⟨v2,d9,hm⟩:=aB hm
      have q3:=bM a2 (i:=0) rfl d9
      refine aD (cB cQ rfl q3 rfl rfl rfl d9) ?_;obtain ⟨g3,g4,hm⟩:=aB hm
      exact eC (i:=0) (t:=0) (ns:=[zB (d8.Priority == z)]) (e':=(d8.Priority == z:Bool)) sizeOf4 a2 rfl (zR _) rfl rfl rfl d9 g4 rfl rfl (eB rfl) rfl (fun cs h=>by cases h;rfl) (fun q4 (q5:aF G K (own 4 K d c.length g3::L) q4)=>(aI ⟨bG,g3,hm,(Eq.trans d7 (congrArg (fun n=>zS d n c.length) (dH g4))),q5⟩))
     ·refine bK b rfl rfl (bK b rfl rfl (bK b rfl rfl (bK b rfl rfl (bK b rfl rfl (bK b rfl rfl (bK b rfl rfl (aD (eJ (v:=zB false) b rfl rfl) ?_)))))));obtain ⟨v3,e0,hm⟩:=aB hm
      have q6:=bM a2 (i:=0) rfl e0
      refine aD (cB cQ rfl q6 rfl rfl rfl e0) ?_;obtain ⟨g5,g6,hm⟩:=aB hm
      exact eC (i:=0) (t:=0) (ns:=[zB false]) (e':=(false:Bool)) sizeOf4 a2 rfl (zR _) rfl rfl rfl e0 g6 rfl rfl (eB rfl) rfl (fun cs h=>by cases h;rfl) (fun q7 (q8:aF G K (own 4 K d c.length g5::L) q7)=>(aI ⟨bG,g5,hm,(Eq.trans d7 (congrArg (fun n=>zS d n c.length) (dH g6))),q8⟩))
    ·exact aN
 obtain ⟨v4,q9,ho⟩:=aB hm
 refine bN [0,1] q9 (fun e1 b3 f w=>f 5=i64 e1/\f 6=i64 b3/\aF G K (L) w) aN ?_
 ·rintro e1 b3 g7 f v5 hm hr ⟨v6,g8,v7⟩
  unfold aGY at hm
  refine aK (aL (bA g8 (aG (v:=zS a1 g.length c2) (aD (bC (len:=g.length) eL rfl) (aD (cH rfl rfl) (aI ?_))))))
  rcases aM hm with ⟨g9,hm⟩|⟨g9,hm⟩
  ·refine aR g9 rfl (aW (aC (aK (aS [0,1,6] (fun f w=>∃ e2,yK b3 e2=some g7/\f 5=i64 e2/\aF G K (L) w) ?_ ?_))))
   ·rintro f v8 ⟨e2,hm,r0,r1⟩
    unfold yK at hm
    exact aC (aU (bA g8 (aD (cJ rfl rfl) (aH (v:=i64 (wr (b3+1))) (aI ⟨_,(zI hm).symm,bG,r0,rfl,r1⟩)))))
   exact aK (bD [0,1,5,6] (fun f w=>∃ h0,yL g e1 b3 h0=some g7/\f 38=zB h0/\aF G K (L) w) aN aN)
  ·exact aN
theorem aEv (n:Nat):∀ {G:rT} {K:Hp} {L:List fM} {w:World} {g:(List aO)} {a1:Option Addr} {c2:Nat} {a:(List Bool)} {a4:Option Addr} {c5:Nat} {R:(List Bool)} (hm:xX n g a=some R) (b:aF G K (L) w) (c:bI K a1 c2 g) (d:bI K a4 c5 a),
  Calls prog 178 ([zS a1 g.length c2,zS a4 a.length c5]:List Value).toArray w (dL fun v w'=>∃ e h,v=zS e R.length h/\aF G K (own 4 K e h R::L) w'):=by
 induction n with
 |zero=>
  intro G K L w g a1 c2 a a4 c5 R hm b c d
  unfold xX at hm
  cases hm
 |succ n ih=>
  intro G K L w g a1 c2 a a4 c5 R hm b c d
  exact aEu (rec_:=xX n) (fun hm b c d=>ih hm b c d) hm b c d
theorem aGe {g:(List aO)} {alive R:(List Bool)} (hm:aLL g alive=some R) (hs:aF G K (L) w) (h3:bI K a1 c2 g) (h6:bI K a4 c5 alive):
  Calls prog 178 ([zS a1 g.length c2,zS a4 alive.length c5]:List Value).toArray w (dL fun v w'=>∃ ra0 rc0,v=zS ra0 R.length rc0/\aF G K (own 4 K ra0 rc0 R::L) w'):=aEv 100000 hm hs h3 h6
theorem aAS {g:(List aO)} {R:(List Int)} (hm:aDf g=some R) (hs:aF G K (L) w) (l:bI K a1 c2 g):
  Calls prog 110 ([zS a1 g.length c2]:List Value).toArray w (dL fun v w'=>∃ a2 a3,v=zS a2 R.length a3/\aF G K (own 2 K a2 a3 R::L) w'):=by
 refine aP func110 rfl (by kernel_rfl) (by show (1:Nat)<=55;decide) ?_;unfold aDf at hm
 refine aL (aH (v:=zS none 0 0) (aI (aL (aG (v:=zS a1 g.length c2) (aD (bC (len:=g.length) eL rfl) ?_)))));obtain ⟨a,q5,hm⟩:=aB hm
 refine aQ (vs:=[i64 (g.length:Int)]) call174 rfl (aHj q5 hs) ?_
 rintro _ w8 ⟨b,c,rfl,c6⟩
 refine aH (v:=zS b a.length c) (aI (aL (aG (v:=zS a1 g.length c2) (aG (v:=zS b a.length c) (aG (v:=zS a1 g.length c2) (aG (v:=zS b a.length c) ?_))))));obtain ⟨k0,c8,c9,d0,d1⟩:=aF.lendSp c6 (zR _) .head
 obtain ⟨a4,d2,hm⟩:=aB hm
 refine aQ (vs:=[zS a1 g.length c2,zS b a.length c,i64 1]) call176 rfl (aEt d2 d0 (l.mono c8) c9) ?_
 rintro _ k1 ⟨a5,a7,rfl,d3⟩
 have d4:=d1 _ _ d3
 obtain ⟨k2,a8,d5,d6,d7⟩:=aF.lendSp d4 (zR _) .head
 obtain ⟨k3,a9,d8,d9,e0⟩:=aF.lendSp d6 a8 .head
 obtain ⟨m,e1,hm⟩:=aB hm
 refine aQ (vs:=[zS a1 g.length c2,zS b a.length c,i64 0,zS a5 a4.length a7]) call175 rfl (qX e1 d9 (l.mono (zL a8 a9)) (d5.mono a9) d8) ?_
 rintro _ k4 ⟨n,o,rfl,e2⟩
 have e3:=e0 _ _ e2
 have e4:=d7 _ _ e3
 refine aH (v:=zS n m.length o) (aI (aL (aG (v:=zS b a.length c) (aG (v:=zS n m.length o) ?_))));obtain ⟨k5,e5,e6,e7,e8⟩:=aF.lendSp e4 (zR _) .head
 obtain ⟨k6,e9,f0,f1,f2⟩:=aF.lendSp e7 e5 zt1
 obtain ⟨d,f3,hm⟩:=aB hm
 refine aQ (vs:=[zS b a.length c,zS n m.length o]) call177 rfl (vY f3 f1 (e6.mono e9) f0) ?_
 rintro _ k7 ⟨e,h,rfl,f4⟩
 have f5:=f2 _ _ f4
 have f6:=e8 _ _ f5
 refine aH (v:=zS e d.length h) (aI (aL (aG (v:=zS a1 g.length c2) (aG (v:=zS e d.length h) (aG (v:=zS a1 g.length c2) (aG (v:=zS e d.length h) ?_))))));obtain ⟨k8,f7,f8,f9,g0⟩:=aF.lendSp f6 (zR _) zt2
 obtain ⟨b0,g1,hm⟩:=aB hm
 refine aQ (vs:=[zS a1 g.length c2,zS e d.length h,i64 0]) call176 rfl (aEt g1 f9 (l.mono f7) f8) ?_
 rintro _ k9 ⟨b1,b2,rfl,g2⟩
 have g3:=g0 _ _ g2
 obtain ⟨l0,b3,g4,g5,g6⟩:=aF.lendSp g3 (zR _) .head
 obtain ⟨l1,b4,g7,g8,g9⟩:=aF.lendSp g5 b3 .head
 obtain ⟨i,h0,hm⟩:=aB hm
 refine aQ (vs:=[zS a1 g.length c2,zS e d.length h,i64 1,zS b1 b0.length b2]) call175 rfl (qX h0 g8 (l.mono (zL b3 b4)) (g4.mono b4) g7) ?_
 rintro _ l2 ⟨j,k,rfl,h1⟩
 have h2:=g9 _ _ h1
 have h4:=g6 _ _ h2
 refine aH (v:=zS j i.length k) (aI (aL (aG (v:=zS a1 g.length c2) (aG (v:=zS e d.length h) (aG (v:=zS j i.length k) ?_)))));obtain ⟨l3,h5,h6,h7,h8⟩:=aF.lendSp h4 (zR _) .head
 obtain ⟨l4,h9,i0,i1,i2⟩:=aF.lendSp h7 h5 zt1
 obtain ⟨b5,i3,hm⟩:=aB hm
 refine aQ (vs:=[zS e d.length h,zS j i.length k]) call177 rfl (vY i3 i1 (h6.mono h9) i0) ?_
 rintro _ l5 ⟨b6,b7,rfl,i4⟩
 have i5:=i2 _ _ i4
 have i6:=h8 _ _ i5
 obtain ⟨l6,i7,i8,i9,j0⟩:=aF.lendSp i6 (zR _) zt2
 obtain ⟨p,j1,hm⟩:=aB hm
 refine aQ (vs:=[zS a1 g.length c2,zS b6 b5.length b7]) call178 rfl (aGe j1 i9 (l.mono i7) i8) ?_
 rintro _ l7 ⟨q,r,rfl,j2⟩
 have j3:=j0 _ _ j2
 refine aH (v:=zS q p.length r) (aI (aL (bO (Kt:=K) (xs:=([]:List Int)) (cs:=[]) (vs:=[]) bF jV rfl rfl j3 rfl (by kernel_rfl) rfl rfl rfl trivial (fun b8 j4 (l8:aF G K (own 2 K b8 0 ([]:List Int)::own 4 K b6 b7 b5::own 4 K q r p::own 4 K e h d::own 4 K j k i::own 4 K b1 b2 b0::own 4 K b c a::own 4 K n o m::own 4 K a5 a7 a4::L) j4)=>(aH (v:=zS b8 ([]:List Int).length 0) (aI (aK (aL (aH (v:=i64 0) (aI (aS [] (fun f w=>∃ z b9 c0,aGZ z=some R/\f 8=zS b9 z.length c0/\aF G K (own 2 K b9 c0 z::L) w) aN ?_)))))))))))
 obtain ⟨l9,j5,ho⟩:=aB hm
 refine bN [0,6,7] j5 (fun J t f w=>∃ Z a0,f 8=zS Z J.length a0/\f 9=i64 t/\aF G K (own 2 K Z a0 J::own 4 K q r p::own 4 K j k i::L) w) aN ?_
 ·rintro J t j6 f m0 hm hr ⟨Z,a0,m1,c1,m2⟩
  unfold aHa at hm
  refine aK (aL (bA c1 (aG (v:=zS a1 g.length c2) (aD (bC (len:=g.length) eL rfl) (aD (cH rfl rfl) (aI ?_))))))
  rcases aM hm with ⟨c3,hm⟩|⟨c3,hm⟩
  ·refine aR c3 rfl (aW (aC (aK (bZ (bD [0,6,7,9] (fun f w=>∃ u x y,yM t u=some j6/\f 8=zS x u.length y/\aF G K (own 2 K x y u::own 4 K q r p::own 4 K j k i::L) w) ?_ ?_)))))
   ·rintro f m3 ⟨u,x,y,hm,j7,j8⟩
    unfold yM at hm
    exact bW (aC (aU (bA c1 (aD (cJ rfl rfl) (aH (v:=i64 (wr (t+1))) (aI ⟨_,(zI hm).symm,bG,x,y,j7,rfl,j8⟩))))))
   exact aN
  ·exact aN
theorem aJs {g R:(List aO)} (hm:aNa g=some R) (hs:aF G K (L) w) (h3:bI K a1 c2 g):
  Calls prog 111 ([zS a1 g.length c2]:List Value).toArray w (dL fun v w'=>∃ o u x,v=zS u R.length x/\Hp.le K o/\aF G o (own 123 o u x R::L) w'):=by
 refine aBM func111 ?_;unfold aNa at hm
 refine aAW ?_;refine bO (Kt:=K) (xs:=([]:List aO)) (cs:=[]) (vs:=[]) eL aBk rfl rfl hs rfl (by kernel_rfl) rfl rfl rfl trivial (fun a4 w5 (c5:aF G K (own 123 K a4 0 ([]:List aO)::L) w5)=>(aAW ?_))
 refine aS [] (fun f w=>∃ p q y z,Hp.le K p/\aLM q=some R/\f 3=zS y q.length z/\aF G p (own 123 p y z q::L) w) aN ?_;obtain ⟨c6,b0,ho⟩:=aB hm
 refine bN [0] b0 (fun e J f w=>∃ c j k,Hp.le K c/\f 3=zS j e.length k/\f 4=i64 J/\aF G c (own 123 c j k e::L) w) aN ?_
 ·rintro e J c7 f c8 hm hr ⟨c,j,k,r,c9,d0,d1⟩
  unfold aLN at hm
  refine aAW ?_
  rcases aM hm with ⟨b1,hm⟩|⟨b1,hm⟩
  ·refine aAW ?_;refine bZ (aGG [(0,0),(1,0),(2,0),(3,0),(4,0),(5,0),(6,0),(7,0),(8,0),(9,0),(10,0),(11,0),(12,0),(13,0),(14,0),(15,0),(16,1),(17,0),(18,1),(19,1),(20,0)] fun d2 b2=>?_)
   refine aAW ?_;obtain ⟨a,b3,hm⟩:=aB hm
   refine aAW ?_;obtain ⟨d3,d4,b4⟩:=bI.el (sz:=3) rfl h3 b3
   obtain ⟨d5,d6,rfl,b5⟩:=b4
   refine aAW ?_;refine fR rfl ?_
   obtain ⟨d,b6,hm⟩:=aB hm
   refine aAZ call109 (mL b6 b2 (b5.mono r)) ?_
   rintro _ b7 ⟨l,m,rfl,Z⟩
   refine aY (aC ⟨⟨_,Z⟩,?_⟩)
   refine aZ rfl (fun _ _=>cO (vs:=[(0,i64 a.Owner),(1,i64 a.Priority),(2,zS l d.length m)]) (cs:=[i64 a.Owner,i64 a.Priority,zS l d.length m]) aKX rfl (by kernel_rfl)) (fR rfl ?_);obtain ⟨b,n,b8,t⟩:=aF.giveSp Z r .head
   replace t:aF G b (own 123 c j k e::L) b7:=t
   refine bO (Kt:=b) (xs:=([⟨a.Owner,a.Priority,d⟩]:List aO)) (cs:=[i64 a.Owner,i64 a.Priority,zS l d.length m]) (vs:=[(0,zA #[i64 a.Owner,i64 a.Priority,zS l d.length m])]) eL aBk rfl rfl t rfl (by kernel_rfl) rfl rfl rfl ⟨⟨l,m,rfl,b8⟩,trivial⟩ (fun b9 c0 (a0:aF G b (own 123 b b9 1 ([⟨a.Owner,a.Priority,d⟩]:List aO)::own 123 c j k e::L) c0)=>(aY (aC ⟨⟨_,(aF.weakK a0 n)⟩,?_⟩)))
   refine fR rfl ?_;obtain ⟨c1,c3,hm⟩:=aB hm
   refine aEC (i:=0) b eL underlying94 aBk rfl rfl a0 rfl n (zR _) c3 rfl rfl rfl rfl (fun _ _ _ h=>El.one h) (fun a2 a3 c4 (a5:aF G b (own 123 b a2 a3 c1::L) c4)=>(aY (aC ⟨⟨_,(aF.weakK a5 n)⟩,?_⟩)))
   refine aAW ?_;refine lV (aAW ?_)
   exact ⟨_,(zI hm).symm,bG,b,a2,a3,(zL r n),rfl,rfl,a5⟩
  ·exact aN
theorem aIt {a b:(List Int)} {R:Bool} (hm:aLe a b=some R) (g:aF G K (L) w) (h:bI K a1 c2 a) (i:bI K a4 c5 b):
  Calls prog 112 ([zS a1 a.length c2,zS a4 b.length c5]:List Value).toArray w (dL fun v w'=>v=zB R/\aF G K (L) w'):=by
 refine aBM func112 ?_;unfold aLe at hm
 refine aAW ?_
 rcases aM hm with ⟨c,hm⟩|⟨c,hm⟩
 ·exact aN
 ·refine aAW ?_;refine aS [] (fun f w=>aKC=some R/\aF G K (L) w) aN ?_
  obtain ⟨j,d,ho⟩:=aB hm
  exact eK [0,1] d (fun e f w=>f 5=i64 e/\aF G K (L) w) aN aN
theorem aMk {g:(List aO)} {R:((List Int) × (List Int))} (hm:aNb g=some R) (hs:aF G K (L) w) (h3:bI K a1 c2 g):
  Calls prog 64 ([zS a1 g.length c2]:List Value).toArray w (dL fun v w'=>∃ d5 d6 d7 d8,v=zT #[zS d5 R.1.length d6,zS d7 R.2.length d8]/\aF G K (own 2 K d5 d6 R.1::own 2 K d7 d8 R.2::L) w'):=by
 refine aBM func64 ?_;unfold aNb at hm
 refine aAW ?_;obtain ⟨c,q5,hm⟩:=aB hm
 refine aAZ call110 (aAS q5 hs h3) ?_
 rintro _ w8 ⟨e,h,rfl,f6⟩
 refine aAW ?_;obtain ⟨l9,f7,hm⟩:=aB hm
 refine aAZ call111 (aJs f7 f6 h3) ?_
 rintro _ m0 ⟨d9,a,b,rfl,a8,m1⟩
 refine aAW ?_;refine aCp ([]:List Int) fun m2 m3 m4=>?_
 refine aAW ?_;refine aS [4] (fun f w=>∃ e0 c1 e1 e2,Hp.le d9 e0/\aJn c c1=some R/\f 6=zS e1 c1.length e2/\aF G e0 (own 2 K e1 e2 c1::own 2 K e h c::L) w) aN ?_
 obtain ⟨m5,f8,ho⟩:=aB hm
 refine lR [0,4] f8 (fun c3 d m f w=>∃ r j k,Hp.le d9 r/\f 5=zS a c3.length b/\f 6=zS j d.length k/\f 7=i64 m/\aF G r (own 2 K j k d::own 123 r a b c3::own 2 K e h c::L) w) aN ?_
 ·rintro c3 d m c4 f m6 hm hr ⟨r,j,k,z,m7,m8,m9,c5⟩
  unfold aJp at hm
  refine aAW ?_
  rcases aM hm with ⟨f9,hm⟩|⟨f9,hm⟩
  ·refine aAW ?_;refine aS [0,4,7] (fun f w=>∃ J a9 b0 b1 b2,Hp.le r J/\aFv m a9 b0=some c4/\f 5=zS a a9.length b/\f 6=zS b1 b0.length b2/\aF G J (own 2 K b1 b2 b0::own 123 J a b a9::own 2 K e h c::L) w) ?_ ?_
   ·rintro f n0 ⟨J,a9,b0,b1,b2,g0,hm,g1,g2,g3⟩
    unfold aFv at hm
    refine aAW ?_;exact ⟨_,(zI hm).symm,bG,J,b1,b2,(zL z g0),g1,g2,rfl,g3⟩
   refine aAW ?_;obtain ⟨g4,c6,hm⟩:=aB hm
   have u:=bM c5 (i:=1) rfl c6
   refine aD (cB eL rfl u rfl rfl rfl c6) (aD (aBi (k':=m.toNat * 3+2) lS u rfl rfl) ?_);obtain ⟨n1,g5,g6⟩:=aMJ (sz:=3) rfl c5 (i:=1) rfl c6
   obtain ⟨g7,g8,rfl,g9⟩:=g6
   refine aD (R_ldC (t:=2) (v:=zS g7 g4.Next.length g8) oZ g5 rfl rfl) ?_;obtain ⟨l,h0,hm⟩:=aB hm
   refine aAZ call109 (mL h0 c5 g9) ?_
   rintro _ n2 ⟨o,p,rfl,n3⟩
   refine aAW ?_;refine aS [0,4,6,7,9] (fun f w=>∃ x Z a0,Hp.le r x/\aFw d m l Z a0=some c4/\f 5=zS a Z.length b/\f 8=i64 a0/\aF G x (own 2 K o p l::own 2 K j k d::own 123 x a b Z::own 2 K e h c::L) w) ?_ ?_
   ·rintro f h1 ⟨x,Z,a0,e3,hm,h2,n4,h4⟩
    unfold aFw at hm
    iterate 1 refine aBh ?_
    refine gQ [0,4,6,7,8] (fun f w=>∃ a2 a3,Hp.le x a2/\aBK d m a0 a3=some c4/\f 5=zS a a3.length b/\aF G a2 (own 2 K j k d::own 123 a2 a b a3::own 2 K e h c::L) w) ?_ ?_
    ·rintro f n5 ⟨a2,a3,h5,hm,h6,n6⟩
     unfold aBK at hm
     refine aAW ?_;refine aCp ([a0]:List Int) fun n7 n8 n9=>?_
     obtain ⟨h7,o0,hm⟩:=aB hm
     refine aNS fun h8 h9 o1 i0=>?_;refine aAW ?_
     exact ⟨bG,a2,a3,h7,h8,h9,(zL e3 h5),hm,h6,rfl,i0⟩
    refine aAW ?_
    rcases aM hm with ⟨i1,hm⟩|⟨i1,hm⟩
    ·refine aAW ?_;obtain ⟨e4,e5,hm⟩:=aB hm
     refine aD (cB eL rfl u rfl rfl rfl e5) (aD (aBi (k':=m.toNat * 3+2) lS u rfl rfl) ?_);obtain ⟨b3,e6,i2,c8⟩:=aF.giveSp h4 (zL (zL a8 z) e3) .head
     replace c8:aF G b3 (own 2 K j k d::own 123 x a b Z::own 2 K e h c::L) h1:=c8
     obtain ⟨e7,e8,hm⟩:=aB hm
     refine eC (i:=1) (t:=2) (ns:=[zS o l.length p]) (e':=(⟨e4.Owner,e4.Priority,l⟩:aO)) sizeOf88 c8 rfl e6 rfl rfl rfl e5 e8 rfl rfl (eB rfl) rfl (fun _ i3=>by obtain ⟨o2,o3,rfl,o4⟩:=i3;exact ⟨o,p,rfl,i2⟩) (fun i4 (i5:aF G b3 (own 2 K j k d::own 123 b3 a b e7::own 2 K e h c::L) i4)=>(aAW ?_));exact ⟨bG,b3,e7,e6,hm,(Eq.trans h2 (congrArg (fun n=>zS a n b) (dH e8))),i5⟩
    ·exact aN
   obtain ⟨o5,i6,ho⟩:=aB hm
   refine lR [0,4,6,7,9] i6 (fun y b4 b5 f w=>∃ q,Hp.le r q/\f 5=zS a y.length b/\f 8=i64 b4/\f 10=i64 b5/\aF G q (own 2 K o p l::own 2 K j k d::own 123 q a b y::own 2 K e h c::L) w) aN ?_
   ·rintro y b4 b5 e9 f o6 hm hr ⟨q,b6,c9,i7,o7,o8⟩
    unfold aJo at hm
    refine aAW ?_;refine bD [0,4,5,6,7,8,9,10] (fun f w=>∃ d0,xY c m l y b4 b5 d0=some e9/\f 47=zB d0/\aF G q (own 2 K o p l::own 2 K j k d::own 123 q a b y::own 2 K e h c::L) w) ?_ ?_
    ·rintro f o9 ⟨d0,hm,p0,i8⟩
     unfold xY at hm
     refine aAW ?_
     rcases aM hm with ⟨i9,hm⟩|⟨i9,hm⟩
     ·refine aAW ?_;refine aS [0,4,6,7,9,10] (fun f w=>∃ a4 b7 d1,Hp.le q a4/\aBL b5 b7 d1=some e9/\f 5=zS a b7.length b/\f 8=i64 d1/\aF G a4 (own 2 K o p l::own 2 K j k d::own 123 a4 a b b7::own 2 K e h c::L) w) ?_ ?_
      ·rintro f p1 ⟨a4,b7,d1,j0,hm,j1,j2,j3⟩
       unfold aBL at hm
       refine aAW ?_;exact ⟨_,(zI hm).symm,bG,a4,(zL b6 j0),j1,j2,rfl,j3⟩
      refine aAW ?_;obtain ⟨b8,d2,hm⟩:=aB hm
      have f0:=bM i8 (i:=0) rfl d2
      refine aD (cB bF rfl f0 rfl rfl rfl d2) (aAW ?_);refine aCp ([b8]:List Int) fun f1 j4 j5=>?_
      obtain ⟨f2,f3,hm⟩:=aB hm
      refine aD (cB eL rfl u rfl rfl rfl f3) (aD (aBi (k':=m.toNat * 3+2) lS u rfl rfl) ?_);obtain ⟨a5,a7,j6,d3⟩:=aF.giveSp j5 (zL (zL a8 z) b6) .head
      replace d3:aF G a5 (own 2 K o p l::own 2 K j k d::own 123 q a b y::own 2 K e h c::L) j4:=d3
      obtain ⟨b9,c0,hm⟩:=aB hm
      refine eC (i:=2) (t:=2) (ns:=[zS f1 ([b8]:List Int).length 1]) (e':=(⟨f2.Owner,f2.Priority,([b8]:List Int)⟩:aO)) sizeOf88 d3 rfl a7 rfl rfl rfl f3 c0 rfl rfl (eB rfl) rfl (fun _ j7=>by obtain ⟨p2,p3,rfl,p4⟩:=j7;exact ⟨f1,1,rfl,j6⟩) (fun j8 (j9:aF G a5 (own 2 K o p l::own 2 K j k d::own 123 a5 a b b9::own 2 K e h c::L) j8)=>?_)
      iterate 4 refine aBh ?_
      refine bA (v:=zS a b9.length b) (Eq.trans c9 (congrArg (fun n=>zS a n b) (dH c0))) ?_;obtain ⟨p5,p6,k0,k1,k2⟩:=aF.lendSp j9 (zR _) zt2
      obtain ⟨p7,k3,hm⟩:=aB hm
      refine aAZ call110 (aAS k3 k1 k0) ?_
      rintro _ p8 ⟨p9,q0,rfl,k4⟩
      have k5:=k2 _ _ k4
      refine aAW ?_;obtain ⟨q1,k6,k7,k8,k9⟩:=aF.lendSp k5 (zL (zL (zL a8 z) b6) a7) zt1
      obtain ⟨q2,l0,l1,l2,l3⟩:=aF.lendSp k8 (zL (zL (zL (zL a8 z) b6) a7) k6) zt3
      obtain ⟨q3,l4,hm⟩:=aB hm
      refine aAZ call112 (aIt l4 l2 (k7.mono l0) l1) ?_
      rintro _ q4 ⟨rfl,l5⟩
      have l6:=l3 _ _ l5
      have q6:=k9 _ _ l6
      refine aAW ?_
      rcases aM hm with ⟨l7,hm⟩|⟨l7,hm⟩
      ·iterate 4 refine aBh ?_
       refine aD (cB bF rfl f0 rfl rfl rfl d2) (aAW ?_);exact ⟨bG,a5,b9,b8,a7,hm,(Eq.trans c9 (congrArg (fun n=>zS a n b) (dH c0))),rfl,aCN⟩
      ·refine aAW ?_;exact ⟨bG,a5,b9,b4,a7,hm,(Eq.trans c9 (congrArg (fun n=>zS a n b) (dH c0))),i7,aCN⟩
     ·exact aN
    exact aN
  ·exact aN
theorem aMl {a:Bool} {R:Int} (hm:aRJ a=some R) (b:aF G K (L) w):
  Calls prog 65 ([zB a]:List Value).toArray w (dL fun v w'=>v=i64 R/\aF G K (L) w'):=by
 exact aN
theorem aHk {x_:aMR} {b:Nat} {t:cN} {c:Nat} {R:aFF} (hm:aNc x_ t=some R) (i:aF G K (L) w) (j:dR K a1 b [zS a4 x_.e.length c5,zS a7 x_.places.length c8,zS a10 x_.g.length c11,i64 x_.start]) (k:bI K a4 c5 x_.e) (l:bI K a7 c8 x_.places) (m:bI K a10 c11 x_.g) (n:dR K a13 c (zC t a16 c17 a19 c20)) (o:bI K a16 c17 t.L) (p:bI K a19 c20 t.E):
  Calls prog 21 ([cE a1 b,cE a13 c]:List Value).toArray w (dL fun v w'=>∃ d h a,v=zA #[zB R.Verdict,zS d R.Rows.length h]/\List.length a=List.length R.Rows/\aF G K (own 88 K d h (cA a R.Rows)::rows [2] a R.Rows::L) w'):=by
 exact aN
theorem aJt {t:cN} {a:Nat} {edges:(List Edge)} {R:cN} (hm:aQz t edges=some R) (g:aF G K (L) w) (h:dR K a1 a (zC t a4 c5 a7 c8)) (i:bI K a4 c5 t.L) (j:bI K a7 c8 t.E) (k:bI K a10 c11 edges):
  Calls prog 22 ([cE a1 a,zS a10 edges.length c11]:List Value).toArray w (dL fun v w'=>∃ b c d e,v=zA (zCa R b c d e)/\aF G K (own 9 K b c R.L::own 68 K d e R.E::L) w'):=by
 exact aN
theorem aHl {a:(List aT)} {t:cN} {b:Nat} {p:aFF} {c:Nat} {R:(List Edge)} (hm:aNd a t p=some R) (g:aF G K (L) w) (h:bI K a1 c2 a) (i:dR K a4 b (zC t a7 c8 a10 c11)) (j:bI K a7 c8 t.L) (k:bI K a10 c11 t.E) (l:dR K a13 c [zB p.Verdict,zS a16 p.Rows.length c17]) (m:bI K a16 c17 p.Rows):
  Calls prog 23 ([zS a1 a.length c2,cE a4 b,cE a13 c]:List Value).toArray w (dL fun v w'=>∃ d e,v=zS d R.length e/\aF G K (own 68 K d e R::L) w'):=by
 exact aN
theorem aHn {h:(List aT)} {t:cN} {R:(cN × Bool × Int)} (hm:sJ h t=some R) (hs:aF G K (L) w) (h3:bI K a1 c2 h) (q:bI K a4 c5 t.L) (r:bI K a7 c8 t.E):
  Calls prog 7 ([zS a1 h.length c2,zA (zCa t a4 c5 a7 c8)]:List Value).toArray w (dL fun v w'=>∃ b6 b7 b8 b9,v=zT #[zA (zCa R.1 b6 b7 b8 b9),zB R.2.1,i64 R.2.2]/\aF G K (own 9 K b6 b7 R.1.L::own 68 K b8 b9 R.1.E::L) w'):=by
 let u:=zG
 refine aBM func7 ?_;unfold sJ at hm
 refine aAW ?_;refine aGg fun x j3 j4=>?_
 refine aEx fun y j5 d3=>?_
 iterate 6 refine aBh ?_
 refine bD [0,3,4] (fun f w=>∃ b3,nZ h t b3=some R/\f 16=zB b3/\aF G K (box y 28 u::box x 28 (zC t a4 c5 a7 c8)::L) w) ?_ ?_
 ·rintro f d4 ⟨b3,hm,j6,d5⟩
  unfold nZ at hm
  refine aAW ?_
  rcases aM hm with ⟨d6,hm⟩|⟨d6,hm⟩
  ·exact aN
  ·refine aAW ?_;obtain ⟨d7,d,a2,b4,_⟩:=aF.lendBp d5 zt1
   replace b4:aF G d7 (box y 28 u::L) d4:=b4
   obtain ⟨a,d8,hm⟩:=aB hm
   refine aQ (vs:=[zS a1 h.length c2,cE (some ⟨x,0,none⟩) 0]) call20 (lst2 rfl (aLC rfl)) (aIr d8 b4 (h3.mono d) a2 (q.mono d) (r.mono d)) ?_
   rintro _ c0 ⟨j,a3,a5,a6,a8,a9,b0,k,rfl,e,d9⟩
   rcases aM hm with ⟨b1,hm⟩|⟨b1,hm⟩
   ·have e0:aF G j (own 102 j a3 a5 a.1::own 2 K a6 a8 a.2.1::own 123 j a9 b0 a.2.2.1::box k 118 [zS a3 a.1.length a5,zS a6 a.2.1.length a8,zS a9 a.2.2.1.length b0,i64 a.2.2.2.1]::box y 28 u::L) c0:=aF.bxcE (i:=3) d9 rfl b1
    refine bA (v:=zT #[zP (some ⟨k,0,none⟩),zB true]) (congrArg (fun b:Bool=>zT #[zP (if b=true then some ⟨k,0,none⟩ else none),zB b]) b1) (aAW ?_);obtain ⟨j7,z,e1,e2,e3⟩:=aF.lendSp e0 (zR _) .head
    obtain ⟨j8,J,e4,e5,e6⟩:=aF.lendSp e2 (zL (zL d e) z) .head
    obtain ⟨j9,Z,e7,e8,e9⟩:=aF.lendSp e5 (zL z J) .head
    obtain ⟨k0,l,f0,f1,f2⟩:=aF.lendBp e8 .head
    obtain ⟨c1,f3,hm⟩:=aB hm
    refine aQ (vs:=[cE (some ⟨k,0,none⟩) 0,cE (some ⟨x,0,none⟩) 0]) call21 (lst2 rfl (aLC rfl)) (aHk (x_:=⟨a.1,a.2.1,a.2.2.1,a.2.2.2.1⟩) f3 f1 f0 (e1.mono (zL (zL J Z) l)) (e4.mono (zL Z l)) (e7.mono l) (a2.mono (zL (zL (zL (zL e z) J) Z) l)) (q.mono (zL (zL (zL (zL (zL d e) z) J) Z) l)) (r.mono (zL (zL (zL (zL (zL d e) z) J) Z) l))) ?_
    rintro _ k1 ⟨f4,f5,c3,rfl,f6,f7⟩
    have f8:=f2 _ _ f7
    have f9:=e9 _ _ f8
    have g0:=e6 _ _ f9
    have k2:=e3 _ _ g0
    refine aEx fun g1 k3 k4=>?_;refine aFy fun k5 g2=>?_
    refine aAW ?_;obtain ⟨g3,g,g4,k6,g5⟩:=aF.lendBp g2 .head
    refine aGG [(0,0),(3,0),(4,0),(1,1),(2,1),(5,1),(6,2),(7,2)] fun k7 g6=>?_;refine aAW ?_
    refine fR rfl ?_;obtain ⟨k8,a0,g7,k9,g8,g9⟩:=aF.lendD' (i:=4) g6 f6 rfl rfl
    obtain ⟨c4,h0,hm⟩:=aB hm
    refine aQ (vs:=[zS a1 h.length c2,cE (some ⟨x,0,none⟩) 0,cE (some ⟨g1,0,none⟩) 0]) call23 (lst3 rfl (aLC rfl) rfl) (aHl h0 g8 (h3.mono (zL (zL (zL d e) g) a0)) (a2.mono (zL (zL e g) a0)) (q.mono (zL (zL (zL d e) g) a0)) (r.mono (zL (zL (zL d e) g) a0)) (g4.mono a0) g7) ?_
    rintro _ l0 ⟨c6,c7,rfl,h1⟩
    have c9:=g9 _ _ h1
    refine aY (aC ⟨⟨_,c9⟩,?_⟩)
    refine fR rfl ?_;obtain ⟨l1,b5,h2,h4,h5⟩:=aF.lendSp c9 (zL (zL d e) g) zt2
    obtain ⟨c,h7,hm⟩:=aB hm
    refine aQ (vs:=[cE (some ⟨x,0,none⟩) 0,zS c6 c4.length c7]) call22 (lst2 (aLC rfl) rfl) (aJt h7 h4 (a2.mono (zL (zL e g) b5)) (q.mono (zL (zL (zL d e) g) b5)) (r.mono (zL (zL (zL d e) g) b5)) h2) ?_
    rintro _ l2 ⟨m,n,o,p,rfl,h8⟩
    have d0:=h5 _ _ h8
    refine aY (aC ⟨⟨_,d0⟩,?_⟩)
    refine fR rfl (dP (i:=9) (ns:=(zC c m n o p)) (us:=(zC c m n o p)) sizeOf28 d0 rfl rfl rfl rfl rfl (eB rfl) rfl rfl (fun i0 (d1:aF G g3 (own 68 K c6 c7 c4::own 9 K m n c.L::own 68 K o p c.E::own 88 K f4 f5 (cA c3 c1.Rows)::rows [2] c3 c1.Rows::own 102 j a3 a5 a.1::own 2 K a6 a8 a.2.1::own 123 j a9 b0 a.2.2.1::box k 118 [zS a3 a.1.length a5,zS a6 a.2.1.length a8,zS a9 a.2.2.1.length b0,i64 a.2.2.2.1]::box y 28 (zC c m n o p)::L) i0)=>(aY (aC ⟨⟨_,d1⟩,?_⟩))))
    have i1:=g5 _ _ d1
    refine aHm rfl (aAW ?_);refine aHm rfl (aAW ?_)
    refine lV (aAW ?_);obtain rfl:=zI hm
    exact nD (retQ_m3 results7 (aHB (vs:=(zC c m n o p)) rfl sQ i1 (i:=10) rfl rfl rfl) (aKQ rfl rfl) (aKQ rfl rfl) ⟨m,n,o,p,rfl,aCN⟩)
   ·have l3:aF G j (box y 28 u::L) c0:=aCN
    refine bA (v:=zT #[zP none,zB false]) (congrArg (fun b:Bool=>zT #[zP (if b=true then some ⟨k,0,none⟩ else none),zB b]) (aHz b1)) ?_
    iterate 16 refine aBh ?_
    refine aD (cO (vs:=[]) (cs:=u) bs_28 rfl (by kernel_rfl)) (aFy fun l4 i3=>?_);refine aAW ?_
    have l5:=aF.nil (α:=aJ) i3 9 K
    exact aN
 refine aAW ?_;obtain ⟨l6,i4,hm⟩:=aB hm
 refine aAZ call13 (aGD i4 d3 h3) ?_
 rintro _ l7 ⟨rfl,i5⟩
 refine aAW ?_
 rcases aM hm with ⟨i6,hm⟩|⟨i6,hm⟩
 ·exact aN
 ·refine aAW ?_;obtain ⟨l8,d2,i7,i8,i9⟩:=aF.lendBp i5 zt1
  obtain ⟨l9,j0,hm⟩:=aB hm
  refine aAZ call14 (aGE j0 i8 i7 (q.mono d2) (r.mono d2)) ?_
  rintro _ m0 ⟨rfl,j1⟩
  have m1:=i9 _ _ j1
  exact aN
theorem rS {c:(List aT)} {t:cN} {k:Int} {R:(List Bool)} (hm:kY c t k=some R) (hs:aF G K (L) w) (hG:G.lo=0) (h3:bI K a1 c2 c) (h6:bI K a4 c5 t.L) (h9:bI K a7 c8 t.E):
  Calls prog 25 ([zS a1 c.length c2,zA (zCa t a4 c5 a7 c8),zS none 0 0,i64 k]:List Value).toArray w (dL fun v w'=>∃ q r,v=zS q R.length r/\aF G K (own 4 K q r R::L) w'):=by
 let d:=(zC t a4 c5 a7 c8)
 refine aBM func25 ?_;unfold kY at hm
 refine aAW ?_;refine aGg fun g d2 a8=>?_
 refine aAW ?_;obtain ⟨a,a9,hm⟩:=aB hm
 refine aBb (e:=(false:Bool)) cQ aEy rfl rfl a8 rfl rfl rfl a9 rfl (fun b b0 (b1:aF G K (own 4 K b a.length a::box g 28 d::L) b0)=>(aAW ?_));obtain ⟨d3,b2,hm⟩:=aB hm
 refine aAZ call74 (uR b2 b1 hG h3 h6 h9) ?_
 rintro _ d4 ⟨j,d5,d6,rfl,b3,b4⟩
 obtain ⟨d7,d8,b5,b6,b7⟩:=aF.lendSp b4 (zR _) .head
 obtain ⟨u,b8,hm⟩:=aB hm
 refine aAZ call73 (vW b8 b6 b5) ?_
 rintro _ d9 ⟨x,y,rfl,b9⟩
 have e0:=b7 _ _ b9
 refine aAW ?_;refine aS [] (fun f w=>∃ l,aET l=some R/\f 9=zS b l.length a.length/\aF G j (own 4 K b a.length l::L) w) aN ?_
 obtain ⟨e1,c0,ho⟩:=aB hm
 refine bN [3,5,10,21] c0 (fun m z f w=>f 9=zS b m.length a.length/\f 22=i64 z/\aF G j (own 2 K x y u::own 4 K b a.length m::box g 28 d::L) w) aN ?_
 ·rintro m z e2 f e3 hm hr ⟨c1,e4,o⟩
  unfold kX at hm
  refine aAW ?_
  rcases aM hm with ⟨c3,hm⟩|⟨c3,hm⟩
  ·refine aAW ?_;refine bZ (aAW ?_)
   obtain ⟨J,Z,hm⟩:=aB hm
   have c4:=bM o (i:=0) rfl Z
   refine aD (cB bF rfl c4 rfl rfl rfl Z) (aAW ?_);obtain ⟨e5,p,hm⟩:=aB hm
   have c6:=bM o (i:=1) rfl p
   refine aD (cB cQ rfl c6 rfl rfl rfl p) ?_;obtain ⟨c7,a0,hm⟩:=aB hm
   refine eC (i:=1) (t:=0) (ns:=[zB (J == 0)]) (e':=(J == 0:Bool)) sizeOf4 o rfl b3 rfl rfl rfl p a0 rfl rfl (eB rfl) rfl (fun cs h=>by cases h;rfl) (fun c9 (d0:aF G j (own 2 K x y u::own 4 K b a.length c7::box g 28 d::L) c9)=>(aAW ?_));exact ⟨_,(zI hm).symm,bG,(Eq.trans c1 (congrArg (fun n=>zS b n a.length) (dH a0))),rfl,d0⟩
  ·exact aN
theorem xE {a:(List aT)} {t:cN} {R:(Bool × Int)} (hm:sK a t=some R) (hs:aF G K (L) w) (c:G.lo=0) (d:bI K a1 c2 a) (e:bI K a4 c5 t.L) (g:bI K a7 c8 t.E):
  Calls prog 8 ([zS a1 a.length c2,zA (zCa t a4 c5 a7 c8)]:List Value).toArray w (dL fun v w'=>v=zT #[zB R.1,i64 R.2]/\aF G K (L) w'):=by
 refine aBM func8 ?_;unfold sK at hm
 refine aAW ?_;refine aGg fun l a5 m=>?_
 refine aAW ?_;refine bO (Kt:=K) (xs:=([a]:List (List aT))) (cs:=[zS a1 a.length c2]) (vs:=[(0,zS a1 a.length c2)]) aMU ez_24 rfl rfl m rfl (by kernel_rfl) rfl rfl rfl ⟨⟨a1,c2,rfl,d⟩,trivial⟩ (fun n o (p:aF G K (own 24 K n 1 ([a]:List (List aT))::box l 28 (zC t a4 c5 a7 c8)::L) o)=>?_)
 obtain ⟨a6,h,q,r,u⟩:=aF.lendSp p (zR _) .head
 obtain ⟨a8,x,hm⟩:=aB hm
 refine aAZ call24 (zD x r c (e.mono h) (g.mono h) q) ?_
 rintro _ a9 ⟨rfl,y⟩
 have z:=u _ _ y
 refine aAW ?_
 rcases aM hm with ⟨J,hm⟩|⟨J,hm⟩
 ·exact aN
 ·refine aAW ?_;obtain ⟨b0,b,b1,b2,b3⟩:=aF.lendBp z zt1
  refine aGG [(0,0),(1,0),(3,0),(4,0),(2,1),(5,0),(6,1),(7,0),(8,0)] fun b4 Z=>?_;refine aAW ?_
  refine fR rfl ?_;obtain ⟨b5,a0,hm⟩:=aB hm
  refine aAZ call25 (rS a0 Z c (d.mono b) (e.mono b) (g.mono b)) ?_
  rintro _ b6 ⟨b7,b8,rfl,j⟩
  refine aY (aC ⟨⟨_,j⟩,?_⟩)
  obtain ⟨b9,k,hm⟩:=aB hm
  have a2:=bM j (i:=0) rfl k
  exact aZ rfl (fun _ _=>cB cQ rfl a2 rfl rfl rfl k) (fR rfl aN)
theorem aMm {d:(List aT)} {t:cN} {edges:(List Edge)} {R:Bool} (hm:nP d t edges=some R) (hs:aF G K (L) w) (l:G.lo=0) (m:bI K a1 c2 d) (n:bI K a4 c5 t.L) (o:bI K a7 c8 t.E) (J:bI K a10 c11 edges):
  Calls prog 28 ([zS a1 d.length c2,zA (zCa t a4 c5 a7 c8),zS a10 edges.length c11]:List Value).toArray w (dL fun v w'=>v=zB R/\aF G K (L) w'):=by
 let p:=(zC t a4 c5 a7 c8)
 refine aBM func28 ?_;unfold nP at hm
 refine aAW ?_;refine aGg fun d3 d4 Z=>?_
 refine aAW ?_;obtain ⟨a0,a,e,q,d5⟩:=aF.lendBp Z .head
 refine W_regionF (C:=fun w'=>∃ L',aF G a0 L' w') [(0,0),(1,0),(3,0),(4,0),(7,0),(8,0),(9,0),(12,0),(13,0),(2,1),(5,0),(6,0),(10,1),(11,1),(14,0),(15,0),(16,0),(17,0)] Tryz_mixed (by kernel_rfl) (fun _ hg=>⟨_,aF.mono q hg⟩) (fun d6 a2=>?_)
 have b:=aF.mono q a2
 refine aJy rfl (fun _ _=>aV (v:=zS a1 d.length c2) rfl) (aJy rfl (fun _ ⟨_,b⟩=>jQ (t:=0) (vs:=p) sQ b e rfl rfl rfl) (aJy rfl (fun _ _=>bU (t':=1) aEG rfl rfl) (aJy rfl (fun _ ⟨_,b⟩=>bE (t:=1) dJ b e rfl rfl) (aJy rfl (fun _ _=>aV (v:=zS a1 d.length c2) rfl) (aJy rfl (fun _ ⟨_,b⟩=>jQ (t:=0) (vs:=p) sQ b e rfl rfl rfl) (aJy rfl (fun _ _=>aV (v:=zS a10 edges.length c11) rfl) (aJy rfl (fun _ _=>bU (t':=1) aEG rfl rfl) (aJy rfl (fun _ ⟨_,b⟩=>bE (t:=1) dJ b e rfl rfl) (WF_e rfl ?_)))))))))
 obtain ⟨d7,a3,hm⟩:=aB hm
 refine aAZ call25 (rS a3 b l (m.mono a) (n.mono a) (o.mono a)) ?_
 rintro _ d8 ⟨d9,e0,rfl,a5⟩
 obtain ⟨a6,c,r,g,e1⟩:=aF.lendSp a5 a .head
 refine aY (aC ⟨fun w'=>∃ L',aF G a6 L' w',fun _ ⟨_,h⟩=>⟨_,aF.weakK h c⟩,⟨_,g⟩,?_⟩)
 obtain ⟨a8,i,hm⟩:=aB hm
 have a9:=wF r i
 refine aJy rfl (fun _ _=>cB cQ rfl a9 rfl rfl rfl i) ?_;obtain ⟨e2,b0,b1⟩:=bI.el (sz:=1) rfl r i
 cases b1
 refine aJy rfl (fun _ ⟨_,g⟩=>bE (t:=0) wX g b0 rfl rfl) (WF_e rfl ?_);obtain ⟨e3,b2,hm⟩:=aB hm
 refine aAZ call18 (vX b2 g (n.mono (zL a c)) (o.mono (zL a c)) (J.mono (zL a c))) ?_
 rintro _ e4 ⟨e5,c45,e6,e7,rfl,u⟩
 refine aY (aC ⟨_,fun _ h=>h,⟨_,u⟩,?_⟩)
 refine WF_e rfl ?_;obtain ⟨e8,x,b3,b4,b5⟩:=aF.lendSp u (zL a c) .head
 obtain ⟨e9,y,b6,b7,b8⟩:=aF.lendSp b4 (zL (zL a c) x) .head
 obtain ⟨f0,b9,hm⟩:=aB hm
 refine aAZ call25 (rS b9 b7 l (m.mono (zL (zL (zL a c) x) y)) (b3.mono y) b6) ?_
 rintro _ f1 ⟨f2,f3,rfl,c0⟩
 have c1:=b8 _ _ c0
 have c3:=b5 _ _ c1
 obtain ⟨c4,c6,z,j,f4⟩:=aF.lendSp c3 (zL a c) zt2
 refine aY (aC ⟨fun w'=>∃ L',aF G c4 L' w',fun _ ⟨_,h⟩=>⟨_,aF.weakK h c6⟩,⟨_,j⟩,?_⟩)
 obtain ⟨c7,k,hm⟩:=aB hm
 have c9:=wF z k
 refine aJy rfl (fun _ _=>cB cQ rfl c9 rfl rfl rfl k) ?_;obtain ⟨f5,d0,d1⟩:=bI.el (sz:=1) rfl z k
 cases d1
 exact aJy rfl (fun _ ⟨_,j⟩=>bE (t:=0) wX j d0 rfl rfl) (aJy rfl (fun _ _=>R_eqlB runUnderlying4 rfl rfl) (aJy rfl (fun _ _=>cY (v:=zB (a8 == c7)) rfl) (WF_nil aN)))
theorem aBf {g:(List aT)} {t:cN} {R:((List Edge) × Int)} (hm:sL g t=some R) (hs:aF G K (L) w) (hG:G.lo=0) (J:bI K a1 c2 g) (Z:bI K a4 c5 t.L) (h9:bI K a7 c8 t.E):
  Calls prog 9 ([zS a1 g.length c2,zA (zCa t a4 c5 a7 c8)]:List Value).toArray w (dL fun v w'=>∃ a9 b0,v=zT #[zS a9 R.1.length b0,i64 R.2]/\aF G K (own 68 K a9 b0 R.1::L) w'):=by
 let o:=(zC t a4 c5 a7 c8)
 refine aBM func9 ?_;unfold sL at hm
 refine aAW ?_;refine aGg fun p i1 b9=>?_
 refine aAW ?_;obtain ⟨a,c0,hm⟩:=aB hm
 refine aAZ call16 (zH c0 b9 hG J Z h9) ?_
 rintro _ c1 ⟨c,c3,c4,b1,b2,b3,b4,a2,rfl,d,b5,c6⟩
 rcases aM hm with ⟨a3,hm⟩|⟨a3,hm⟩
 ·exact aN
 ·have c7:aF G c (own 88 c b1 b2 a.2.1::own 123 c b3 b4 a.2.2.1::box a2 98 [zS a1 g.length c2,i64 t.N,i64 t.I,zS a4 t.L.length c5,zS a7 t.E.length c8,zS c3 a.1.length c4,zS b1 a.2.1.length b2,zS b3 a.2.2.1.length b4,i64 a.2.2.2.1]::box p 28 o::L) c1:=aF.bxcE (i:=2) c6 rfl (aHz a3)
  refine bA (v:=zT #[zP (some ⟨a2,0,none⟩),i64 a.2.2.2.2]) (congrArg (fun b:Bool=>zT #[zP (if b=false then some ⟨a2,0,none⟩ else none),i64 a.2.2.2.2]) (aHz a3)) (aAW ?_);obtain ⟨i2,k,c9,d0,d1⟩:=aF.lendSp c7 (zR _) .head
  obtain ⟨i3,l,d2,d3,d4⟩:=aF.lendSp d0 k .head
  obtain ⟨i4,h,d5,d6,d7⟩:=aF.lendBp d3 .head
  obtain ⟨i5,d8,hm⟩:=aB hm
  refine aAZ call17 (tN (x_:=⟨g,⟨t.N,t.I,t.L,t.E⟩,a.1,a.2.1,a.2.2.1,a.2.2.2.1⟩) d8 d6 d5 (J.mono (zL (zL (zL d k) l) h)) (Z.mono (zL (zL (zL d k) l) h)) (h9.mono (zL (zL (zL d k) l) h)) (b5.mono (zL (zL k l) h)) (c9.mono (zL l h)) (d2.mono h)) ?_
  rintro _ i6 ⟨i7,i8,i9,rfl,d9,e0⟩
  have e1:=d7 _ _ e0
  have e2:=d4 _ _ e1
  have e3:=d1 _ _ e2
  obtain ⟨j0,m,e4,e5,e6⟩:=aF.lendSp e3 (zR _) .head
  obtain ⟨j1,n,e7,e8,e9⟩:=aF.lendSp e5 m .head
  obtain ⟨j2,j,f0,f1,f2⟩:=aF.lendBp e8 .head
  obtain ⟨j3,e,f3,j4,f4,f5⟩:=aF.lendD' (i:=0) f1 d9 rfl rfl
  obtain ⟨j5,f6,hm⟩:=aB hm
  refine aAZ call19 (uS (x_:=⟨g,⟨t.N,t.I,t.L,t.E⟩,a.1,a.2.1,a.2.2.1,a.2.2.2.1⟩) f6 f4 hG (f0.mono e) (J.mono (zL (zL (zL (zL d m) n) j) e)) (Z.mono (zL (zL (zL (zL d m) n) j) e)) (h9.mono (zL (zL (zL (zL d m) n) j) e)) (b5.mono (zL (zL (zL m n) j) e)) (e4.mono (zL (zL n j) e)) (e7.mono (zL j e)) f3) ?_
  rintro _ j6 ⟨j7,j8,rfl,f7⟩
  have f8:=f5 _ _ f7
  have f9:=f2 _ _ f8
  have g0:=e9 _ _ f9
  have j9:=e6 _ _ g0
  refine aAW ?_;refine aS [] (fun f w=>∃ a5 b6 b7,xB a5=some R/\f 8=zS b6 a5.length b7/\aF G c (own 68 K b6 b7 a5::L) w) aN ?_
  obtain ⟨k0,g1,ho⟩:=aB hm
  refine bN [0,3] g1 (fun q b8 f w=>∃ r u,f 8=zS r q.length u/\f 9=i64 b8/\aF G c (own 68 K r u q::box p 28 o::L) w) aN ?_
  ·rintro q b8 g2 f k1 hm hr ⟨r,u,k2,k3,g3⟩
   unfold gP at hm
   refine aAW ?_
   rcases aM hm with ⟨g4,hm⟩|⟨g4,hm⟩
   ·refine aAW ?_;refine aS [0,3] (fun f w=>∃ x a6 y z,oA x a6=some g2/\f 8=zS y x.length z/\f 9=i64 a6/\aF G c (own 68 K y z x::box p 28 o::L) w) ?_ ?_
    ·rintro f k4 ⟨x,a6,y,z,hm,g5,g6,g7⟩
     unfold oA at hm
     refine aAW ?_;exact ⟨_,(zI hm).symm,bG,y,z,g5,g6,g7⟩
    refine aAW ?_;obtain ⟨k5,k6,g8,g9,h0⟩:=aF.lendSp g3 d .head
    obtain ⟨h1,h2,hm⟩:=aB hm
    refine aAZ call27 (lB h2 g9 g8) ?_
    rintro _ h4 ⟨h5,h7,rfl,h8⟩
    have k7:=h0 _ _ h8
    refine aAW ?_
    have k8:aF G c (own 68 K h5 h7 h1::own 68 K r u q::box p 28 o::L) h4:=aCN
    exact aN
   ·exact aN
theorem tO {b:(List Edge)} {a:Edge} {R:Int} (hm:fF b a=some R) (n:aF G K (L) w) (d:bI K a1 c2 b):
  Calls prog 137 ([zS a1 b.length c2,zA #[i64 a.F,i64 a.B,i64 a.To]]:List Value).toArray w (dL fun v w'=>v=i64 R/\aF G K (L) w'):=by
 refine aBM func137 ?_;unfold fF at hm
 refine aAW ?_;refine aGg fun e o p=>?_
 refine aAW ?_;refine aS [] (fun f w=>lU=some R/\aF G K (L) w) aN ?_
 obtain ⟨q,g,ho⟩:=aB hm
 refine eK [0,3,7] g (fun c f w=>f 8=i64 c/\aF G K (box e 68 [i64 a.F,i64 a.B,i64 a.To]::L) w) aN ?_
 ·rintro c r f t hm hr ⟨u,h⟩
  unfold dI at hm
  refine aAW ?_
  rcases aM hm with ⟨i,hm⟩|⟨i,hm⟩
  ·refine aAW ?_;refine bZ (aAW ?_)
   refine aOY ?_;refine aAW ?_
   obtain ⟨j,k,hm⟩:=aB hm
   refine aAW ?_;obtain ⟨z,J,l⟩:=bI.el (sz:=3) rfl d k
   cases l
   refine aAW ?_;refine cW (fun _ h=>R_eqlG (eq_68 (x:=a) (y:=j)) rfl rfl) (aAm (fun Z a0=>(aAW ?_)))
   rcases aM hm with ⟨m,hm⟩|⟨m,hm⟩
   ·exact aN
   ·exact aN
  ·exact aN
theorem rL {b:(List Edge)} {a:Edge} {R:Bool} (hm:eR b a=some R) (c:aF G K (L) w) (d:bI K a1 c2 b):
  Calls prog 75 ([zS a1 b.length c2,zA #[i64 a.F,i64 a.B,i64 a.To]]:List Value).toArray w (dL fun v w'=>v=zB R/\aF G K (L) w'):=by
 exact aN
theorem aJH {t:cN} {edges:(List Edge)} {R:Bool} (hm:xZ t edges=some R) (l:aF G K (L) w) (m:bI K a1 c2 t.L) (n:bI K a4 c5 t.E) (e:bI K a7 c8 edges):
  Calls prog 29 ([zA (zCa t a1 c2 a4 c5),zS a7 edges.length c8]:List Value).toArray w (dL fun v w'=>v=zB R/\aF G K (L) w'):=by
 let b:=(zC t a1 c2 a4 c5)
 refine aBM func29 ?_;unfold xZ at hm
 refine aAW ?_;refine aGg fun c o p=>?_
 refine aAW ?_;refine aS [] (fun f w=>aFW=some R/\aF G K (L) w) aN ?_
 obtain ⟨q,g,ho⟩:=aB hm
 refine eK [1,2,7,8] g (fun a f w=>f 9=i64 a/\aF G K (box c 28 b::L) w) aN ?_
 ·rintro a h f r hm hr ⟨u,x⟩
  unfold kE at hm
  refine aAW ?_
  rcases aM hm with ⟨i,hm⟩|⟨i,hm⟩
  ·refine aAW ?_;refine bZ (aAW ?_)
   obtain ⟨y,j,hm⟩:=aB hm
   refine aAW ?_;obtain ⟨z,J,k⟩:=bI.el (sz:=3) rfl e j
   cases k
   refine aAW ?_;refine aEx fun Z a0 a2=>?_
   refine aAW ?_;refine aFy fun a3 a5=>?_
   refine aAW ?_;exact bD [1,2,7,8,9] (fun f w=>∃ d,oT a d=some h/\f 32=zB d/\aF G K (box c 28 b::L) w) aN aN
  ·exact aN
end Gv
namespace Gv
open Gv.Hp renaming le_refl→zR
open Go.Value renaming slice→zS,bool→zB,agg→zA,tuple→zT
open Gv.Hp renaming le_trans→zL
open Go Go.Proofs Go.Proofs.Tryz
set_option maxRecDepth 20000
set_option maxHeartbeats 40000000
variable {G:rT} {K:Hp} {L:List fM} {w:World} {a1 a4 a7 a10:Option Addr} {c2 c5 c8 c11:Nat}
theorem aEX {a:(List aT)} {t:cN} {edges:(List Edge)} {R:(Bool × Int)} (hm:aDg a t edges=some R) (b:aF G K (L) w) (c:G.lo=0) (d:bI K a1 c2 a) (e:bI K a4 c5 t.L) (g:bI K a7 c8 t.E) (h:bI K a10 c11 edges):
  Calls prog 10 ([zS a1 a.length c2,zA (zCa t a4 c5 a7 c8),zS a10 edges.length c11]:List Value).toArray w (dL fun v w'=>v=zT #[zB R.1,i64 R.2]/\aF G K (L) w'):=by
 exact aN
theorem aEY {p:(List UInt8)} {R:Bool} (hm:aDh p=some R) (hs:aF G K (L) w) (r:G.lo=0) (h3:bI K a1 c2 p):
  Calls prog 3 ([zS a1 p.length c2]:List Value).toArray w (dL fun v w'=>v=zB R/\aF G K (L) w'):=by
 refine aP func3 rfl (by kernel_rfl) (by show (1:Nat)<=119;decide) ?_;unfold aDh at hm
 refine aL (aH (v:=zB false) (aI (aK (aL (aG (v:=zS a1 p.length c2) ?_)))));obtain ⟨r4,q5,hm⟩:=aB hm
 refine aQ (vs:=[zS a1 p.length c2]) call4 rfl (aIc q5 hs h3) ?_
 rintro _ w6 ⟨rfl,c9⟩
 refine aI ?_
 rcases aM hm with ⟨c8,hm⟩|⟨c8,hm⟩
 ·exact aN
 ·refine aX c8 rfl (aW (aC (aL (aG (v:=zS a1 p.length c2) ?_))));obtain ⟨a,d0,hm⟩:=aB hm
  refine aQ (vs:=[zS a1 p.length c2]) call5 rfl (aIi d0 c9 h3) ?_
  rintro _ j0 ⟨u,h,j,c,d,e,g,rfl,k,t,d1⟩
  refine aG (v:=zT #[zS h a.1.length j,zA (zCa a.2 c d e g)]) (aD (bY rfl rfl) (aD (bY rfl rfl) (cF (vs:=zG) zeroValue28 d1 rfl (fun a0 j1 d2=>(aH (v:=zS h a.1.length j) (dP (i:=0) (ns:=(zC a.2 c d e g)) (us:=(zC a.2 c d e g)) sizeOf28 d2 rfl rfl rfl rfl rfl (eB rfl) rfl rfl (fun d3 (a8:aF G u (box a0 28 (zC a.2 c d e g)::own 9 K c d a.2.L::own 68 K e g a.2.E::L) d3)=>(aI (aL (aG (v:=zS h a.1.length j) (aD (nK (us:=(zC a.2 c d e g)) sQ a8 (i:=0) rfl rfl rfl rfl) ?_)))))))))))
  obtain ⟨j2,a9,d4,d5,d6⟩:=aF.lendSp a8 k zt1
  obtain ⟨j3,b0,d7,d8,d9⟩:=aF.lendSp d5 (zL k a9) zt1
  obtain ⟨b,e0,hm⟩:=aB hm
  refine aQ (vs:=[zS h a.1.length j,zA (zCa a.2 c d e g)]) call6 rfl (aBe e0 d8 r (t.mono (zL a9 b0)) (d4.mono b0) d7) ?_
  rintro _ j4 ⟨l,m,n,o,rfl,e1⟩
  have e2:=d9 _ _ e1
  have e3:=d6 _ _ e2
  refine aG (v:=zT #[zA (zCa b.1 l m n o),zB b.2.1,i64 b.2.2]) (aD (bY rfl rfl) (aD (bY rfl rfl) (aD (bY rfl rfl) (cF (vs:=zG) zeroValue28 e3 rfl (fun b1 j5 e4=>(dP (i:=0) (ns:=(zC b.1 l m n o)) (us:=(zC b.1 l m n o)) sizeOf28 e4 rfl rfl rfl rfl rfl (eB rfl) rfl rfl (fun e5 (b2:aF G u (box b1 28 (zC b.1 l m n o)::own 9 K c d a.2.L::own 68 K e g a.2.E::own 9 K l m b.1.L::own 68 K n o b.1.E::box a0 28 (zC a.2 c d e g)::L) e5)=>(aH (v:=zB b.2.1) (aH (v:=i64 b.2.2) (aI (aK (aL (aG (v:=i64 b.2.2) (aD (aFA rfl rfl) (aI ?_)))))))))))))))
  rcases aM hm with ⟨b3,hm⟩|⟨b3,hm⟩
  ·exact aN
  ·refine aX b3 rfl (aW (aC (aL (aG (v:=zS h a.1.length j) (aD (nK (us:=(zC a.2 c d e g)) sQ b2 (i:=5) rfl rfl rfl rfl) ?_)))));obtain ⟨j6,b4,e6,e7,e8⟩:=aF.lendSp b2 k zt1
   obtain ⟨j7,b5,e9,f0,f1⟩:=aF.lendSp e7 (zL k b4) zt1
   obtain ⟨x,f2,hm⟩:=aB hm
   refine aQ (vs:=[zS h a.1.length j,zA (zCa a.2 c d e g)]) call8 rfl (xE f2 f0 r (t.mono (zL b4 b5)) (e6.mono b5) e9) ?_
   rintro _ j8 ⟨rfl,f3⟩
   have f4:=f1 _ _ f3
   have b6:=e8 _ _ f4
   refine aG (v:=zT #[zB x.1,i64 x.2]) (aD (bY rfl rfl) (aD (bY rfl rfl) (aH (v:=zB x.1) (aH (v:=i64 x.2) (aI (aL (aG (v:=zS h a.1.length j) (aD (nK (us:=(zC b.1 l m n o)) sQ b6 (i:=2) rfl rfl rfl rfl) ?_))))))));obtain ⟨j9,b7,f5,f6,f7⟩:=aF.lendSp b6 k zt3
   obtain ⟨k0,b8,f8,f9,g0⟩:=aF.lendSp f6 (zL k b7) zt3
   obtain ⟨y,g1,hm⟩:=aB hm
   refine aQ (vs:=[zS h a.1.length j,zA (zCa b.1 l m n o)]) call8 rfl (xE g1 f9 r (t.mono (zL b7 b8)) (f5.mono b8) f8) ?_
   rintro _ k1 ⟨rfl,g2⟩
   have g3:=g0 _ _ g2
   have k2:=f7 _ _ g3
   refine aG (v:=zT #[zB y.1,i64 y.2]) (aD (bY rfl rfl) (aD (bY rfl rfl) (aH (v:=zB y.1) (aH (v:=i64 y.2) (aI (aK (aK (bD [3,4,5] (fun f w=>∃ a2,lM a b a2=some R/\f 79=zB a2/\aF G u (own 9 K l m b.1.L::own 68 K n o b.1.E::own 9 K c d a.2.L::own 68 K e g a.2.E::box b1 28 (zC b.1 l m n o)::box a0 28 (zC a.2 c d e g)::L) w) ?_ ?_))))))))
   ·rintro f k3 ⟨a2,hm,g4,b9⟩
    unfold lM at hm
    refine aC ?_
    rcases aM hm with ⟨c0,hm⟩|⟨c0,hm⟩
    ·exact aN
    ·refine aX c0 g4 (aW (aC (aL (aG (v:=zS h a.1.length j) (aD (nK (us:=(zC a.2 c d e g)) sQ b9 (i:=5) rfl rfl rfl rfl) ?_)))));obtain ⟨k4,c1,g5,g6,g7⟩:=aF.lendSp b9 k zt2
     obtain ⟨k5,c3,g8,g9,h0⟩:=aF.lendSp g6 (zL k c1) zt2
     obtain ⟨q,h1,hm⟩:=aB hm
     refine aQ (vs:=[zS h a.1.length j,zA (zCa a.2 c d e g)]) call9 rfl (aBf h1 g9 r (t.mono (zL c1 c3)) (g5.mono c3) g8) ?_
     rintro _ k6 ⟨z,J,rfl,h2⟩
     have h4:=h0 _ _ h2
     have c4:=g7 _ _ h4
     refine aG (v:=zT #[zS z q.1.length J,i64 q.2]) (aD (bY rfl rfl) (aD (bY rfl rfl) (aH (v:=zS z q.1.length J) (aH (v:=i64 q.2) (aI (aL (aG (v:=zS h a.1.length j) (aD (nK (us:=(zC a.2 c d e g)) sQ c4 (i:=6) rfl rfl rfl rfl) (aG (v:=zS z q.1.length J) ?_)))))))));obtain ⟨k7,a3,h5,h6,h7⟩:=aF.lendSp c4 k .head
     obtain ⟨k8,a4,h8,h9,i0⟩:=aF.lendSp h6 (zL k a3) .head
     obtain ⟨k9,a5,i1,i2,i3⟩:=aF.lendSp h9 (zL (zL k a3) a4) .head
     obtain ⟨Z,i4,hm⟩:=aB hm
     refine aQ (vs:=[zS h a.1.length j,zA (zCa a.2 c d e g),zS z q.1.length J]) call10 rfl (aEX i4 i2 r (t.mono (zL (zL a3 a4) a5)) (h5.mono (zL a4 a5)) (h8.mono a5) i1) ?_
     rintro _ l0 ⟨rfl,i5⟩
     have i6:=i3 _ _ i5
     have i7:=i0 _ _ i6
     have l1:=h7 _ _ i7
     exact aG (v:=zT #[zB Z.1,i64 Z.2]) (aD (bY rfl rfl) (aD (bY rfl rfl) (aH (v:=zB Z.1) (aH (v:=i64 Z.2) (aI (aK (bD [] (fun f w=>∃ c5,nR c5=some R/\f 2=zB c5/\aF G u (L) w) aN aN)))))))
   exact aN
end Gv
