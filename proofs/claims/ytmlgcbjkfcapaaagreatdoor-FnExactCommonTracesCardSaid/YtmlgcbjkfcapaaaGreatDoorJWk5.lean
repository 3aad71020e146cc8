/- Walks, printed by program. -/
import Derived.Test.YtmlgcbjkfcapaaaGreatDoorJWk1
import Derived.Test.YtmlgcbjkfcapaaaGreatDoorJWk2
import Derived.Test.YtmlgcbjkfcapaaaGreatDoorJWk3
import Derived.Test.YtmlgcbjkfcapaaaGreatDoorJWk4
set_option linter.all false
namespace Gv
open Go.Value renaming slice→zS,bool→zB,pointer→zP,agg→zA
open Option.some renaming inj→zI
open Gv.Hp renaming le_trans→zL,le_refl→zR
open Go Go.Proofs
set_option maxRecDepth 20000
set_option maxHeartbeats 40000000
variable {G:Env} {K:Hp} {L:List pH} {w:World} {a1 a4 a7 a10:Option Addr} {c5 c8 c2 c11:Nat}
theorem aFf {d:cN} {p:Nat} {R:cN} (hs:aK G K (L) w) (Z:kR K a1 p (zC d a4 c5 a7 c8)) (h6:dB K a4 c5 d.L) (h9:dB K a7 c8 d.E) (q:xM d=some R):
  Calls Tryz.prog 48 ([dC a1 p]:List Value).toArray w (iK fun v w'=>∃ (k5:Option Addr) (k6:Nat) (k7:Option Addr) (k8:Nat),v=zA (zCa R k5 k6 k7 k8)∧aK G K (aN 9 K k5 k6 R.L::aN 63 K k7 k8 R.E::L) w'):=by
 let l:=zG
 refine aX Tryz.func48 rfl (by kernel_rfl) (by show (1:Nat)≤87;decide) ?_
 unfold xM at q
 refine aM (bS (vs:=l) Tryz.zeroValue29 hs rfl (fun b v9 m2=>(aI (aM (aP (v:=dC a1 p) ?_)))))
 obtain ⟨c,m3,q⟩:=aD q
 refine aU (vs:=[dC a1 p]) Tryz.call109 rfl (aFe m2 Z h6 h9 m3) ?_
 rintro _ w0 ⟨e,g,rfl,i2⟩
 refine aH (v:=zS e c.length g) (aI (aM (aP (v:=zS e c.length g) ?_)))
 obtain ⟨b1,i3,q⟩:=aD q
 have i4:=cY i2 (i:=0) rfl i3
 refine aF (dW bY rfl i4 rfl rfl rfl i3) (aF (jL (t:=0) cV i2 (i:=0) rfl i3 rfl rfl rfl) (cT (Kt:=K) (xs:=([b1]:List Int)) (cs:=[i64 b1]) (vs:=[(0,i64 b1)]) bY lR rfl rfl i2 rfl (by kernel_rfl) rfl rfl rfl ⟨rfl,trivial⟩ (fun d0 m4 (m5:aK G K (aN 2 K d0 1 ([b1]:List Int)::aN 2 K e g c::box b 29 l::L) m4)=>(aH (v:=zS d0 ([b1]:List Int).length 1) (aI (aM (cT (Kt:=K) (xs:=([0]:List Int)) (cs:=[i64 0]) (vs:=[(0,i64 0)]) bY lR rfl rfl m5 rfl (by kernel_rfl) rfl rfl rfl ⟨rfl,trivial⟩ (fun f3 m6 (m7:aK G K (aN 2 K f3 1 ([0]:List Int)::aN 2 K d0 1 ([b1]:List Int)::aN 2 K e g c::box b 29 l::L) m6)=>(aH (v:=zS f3 ([0]:List Int).length 1) (aI (aM (cT (Kt:=K) (xs:=([]:List Edge)) (cs:=[]) (vs:=[]) cK mD rfl rfl m7 rfl (by kernel_rfl) rfl rfl rfl trivial (fun i5 m8 (m9:aK G K (aN 63 K i5 0 ([]:List Edge)::aN 2 K f3 1 ([0]:List Int)::aN 2 K d0 1 ([b1]:List Int)::aN 2 K e g c::box b 29 l::L) m8)=>(aH (v:=zS i5 ([]:List Edge).length 0) (aI (aQ (aM (aH (v:=i64 0) (aI (bE (fun f w=>∃ (u:List Int) (y:List Edge) (d1:Option Addr) (d2:Nat) (a0:Option Addr) (a2:Nat),mY d u y=some R∧f 0=dC a1 p∧f 2=zP (some ⟨b,0,none⟩)∧f 4=zS d1 u.length d2∧f 6=zS a0 y.length a2∧aK G K (aN 63 K a0 a2 y::aN 2 K d1 d2 u::box b 29 l::L) w) ?_ ?_))))))))))))))))))))
 ·rintro f w1 ⟨u,y,d1,d2,a0,a2,q,n0,k9,n1,n2,l0⟩
  unfold mY at q
  refine aC (aM (aT n1 (aF (bN (len:=u.length) bY rfl) (aT n0 (aF (dE rfl Z) (aF (cR (k':=p+2) eG rfl Z rfl) (aF (bK (t:=2) iT l0 Z rfl rfl) (aT n2 (aF (fD (vs:=[(0,i64 (u.length:Int)),(2,zS a4 d.L.length c5),(3,zS a0 y.length a2)]) (cs:=[i64 (u.length:Int),i64 0,zS a4 d.L.length c5,zS a0 y.length a2]) tI rfl (by kernel_rfl)) (bS (vs:=l) Tryz.zeroValue29 l0 rfl (fun i6 w2 n3=>(bR (i:=0) (ns:=[i64 (u.length:Int),i64 0,zS a4 d.L.length c5,zS a0 y.length a2]) (us:=[i64 (u.length:Int),i64 0,zS a4 d.L.length c5,zS a0 y.length a2]) Tryz.sizeOf29 n3 rfl rfl rfl rfl rfl (cX rfl) rfl rfl (fun n4 (n5:aK G K (box i6 29 [i64 (u.length:Int),i64 0,zS a4 d.L.length c5,zS a0 y.length a2]::aN 63 K a0 a2 y::aN 2 K d1 d2 u::box b 29 l::L) n4)=>(aI (aM ?_)))))))))))))))
  obtain ⟨w3,n6,n7,n8,n9⟩:=aK.lendS (i:=1) n5 (zR _) rfl
  obtain ⟨w4,l1,o0,o1,o2⟩:=aK.lendB (i:=0) n8 rfl
  obtain ⟨m,o3,q⟩:=aD q
  refine aU (vs:=[dC (some ⟨i6,0,none⟩) 0]) Tryz.call111 rfl (aHs (t:=⟨(u.length:Int),0,d.L,y⟩) o1 o0 (h6.mono (zL n6 l1)) (n7.mono l1) o3) ?_
  rintro _ w5 ⟨b6,b7,b8,b9,rfl,o4⟩
  have o5:=o2 _ _ o4
  have o6:=n9 _ _ o5
  refine bR (i:=5) (ns:=(zC m b6 b7 b8 b9)) (us:=(zC m b6 b7 b8 b9)) Tryz.sizeOf29 o6 rfl k9 rfl rfl rfl (cX rfl) rfl rfl (fun o7 (l2:aK G K (aN 63 K a0 a2 y::box i6 29 [i64 (u.length:Int),i64 0,zS a4 d.L.length c5,zS a0 y.length a2]::aN 9 K b6 b7 m.L::aN 63 K b8 b9 m.E::aN 2 K d1 d2 u::box b 29 (zC m b6 b7 b8 b9)::L) o7)=>(aI ?_))
  obtain rfl:=zI q
  exact bH (aBK Tryz.results48 (dZ (vs:=(zC m b6 b7 b8 b9)) rfl dI l2 (i:=5) rfl k9 rfl) ⟨b6,b7,b8,b9,rfl,(aK.arr 6 [2,3] l2 rfl)⟩)
 obtain ⟨w6,o9,q⟩:=aD q
 refine cD o9 (fun (s:(List Int × List Int × List Edge × Int)) f w=>match s with|(b2,f4,c0,k)=>∃ (d3:Option Addr) (d4:Nat) (f5:Option Addr) (f6:Nat) (d5:Option Addr) (d6:Nat),f 0=dC a1 p∧f 2=zP (some ⟨b,0,none⟩)∧f 3=zS e c.length g∧f 4=zS d3 b2.length d4∧f 5=zS f5 f4.length f6∧f 6=zS d5 c0.length d6∧f 7=i64 k∧aK G K (aN 63 K d5 d6 c0::aN 2 K f5 f6 f4::aN 2 K d3 d4 b2::aN 2 K e g c::box b 29 l::L) w) ?_ ?_
 ·exact ⟨d0,1,f3,1,i5,0,rfl,rfl,rfl,rfl,rfl,rfl,rfl,m9⟩
 ·rintro ⟨b2,f4,c0,k⟩ f7 f w7 n p0 ⟨d3,d4,f5,f6,d5,d6,l3,l4,p1,i7,p2,l5,l6,l7⟩
  replace n:gQ d c b2 f4 c0 k=some f7:=n
  unfold gQ at n
  refine aQ (aM (aT l6 (aT i7 (aF (bN (len:=b2.length) bY rfl) (aF (cG rfl rfl) (aI ?_))))))
  rcases aJ n with ⟨i8,n⟩|⟨i8,n⟩
  ·refine aO i8 rfl (aY (aC (aQ (bE (fun f w=>∃ (d7:List Int) (d8:List Int) (d9:List Edge) (f8:Option Addr) (f9:Nat) (g0:Option Addr) (g1:Nat) (g2:Option Addr) (g3:Nat),vA k d7 d8 d9=some f7∧f 0=dC a1 p∧f 2=zP (some ⟨b,0,none⟩)∧f 3=zS e c.length g∧f 4=zS f8 d7.length f9∧f 5=zS g0 d8.length g1∧f 6=zS g2 d9.length g3∧f 7=i64 k∧aK G K (aN 63 K g2 g3 d9::aN 2 K g0 g1 d8::aN 2 K f8 f9 d7::aN 2 K e g c::box b 29 l::L) w) ?_ ?_))))
   ·rintro f w8 ⟨d7,d8,d9,f8,f9,g0,g1,g2,g3,n,p3,p4,p5,p6,p7,p8,p9,q0⟩
    unfold vA at n
    exact aC (aS (aT p9 (aF (cQ rfl rfl) (aH (v:=i64 (wr (k+1))) (aI ⟨(d7,d8,d9,wr (k+1)),(zI n).symm,f8,f9,g0,g1,g2,g3,p3,p4,p5,p6,p7,p8,rfl,q0⟩)))))
   refine aM (aH (v:=i64 1) (aI (bE (fun f w=>∃ (e0:List Int) (e1:List Int) (e2:List Edge) (g4:Option Addr) (g5:Nat) (g6:Option Addr) (g7:Nat) (g8:Option Addr) (g9:Nat),qF k e0 e1 e2=some f7∧f 0=dC a1 p∧f 2=zP (some ⟨b,0,none⟩)∧f 3=zS e c.length g∧f 4=zS g4 e0.length g5∧f 5=zS g6 e1.length g7∧f 6=zS g8 e2.length g9∧f 7=i64 k∧aK G K (aN 63 K g8 g9 e2::aN 2 K g6 g7 e1::aN 2 K g4 g5 e0::aN 2 K e g c::box b 29 l::L) w) ?_ ?_)))
   ·rintro f w9 ⟨e0,e1,e2,g4,g5,g6,g7,g8,g9,n,q1,q2,q3,q4,q5,q6,q7,q8⟩
    unfold qF at n
    exact bG (aC ⟨e0,e1,e2,g4,g5,g6,g7,g8,g9,n,q1,q2,q3,q4,q5,q6,q7,q8⟩)
   obtain ⟨x0,q9,n⟩:=aD n
   refine cD q9 (fun (s:(List Int × List Int × List Edge × Int)) f w=>match s with|(x,V,o,r)=>∃ (a8:Option Addr) (a9:Nat) (a3:Option Addr) (a5:Nat) (z:Option Addr) (J:Nat),f 0=dC a1 p∧f 2=zP (some ⟨b,0,none⟩)∧f 3=zS e c.length g∧f 4=zS a8 x.length a9∧f 5=zS a3 V.length a5∧f 6=zS z o.length J∧f 7=i64 k∧f 8=i64 r∧aK G K (aN 63 K z J o::aN 2 K a3 a5 V::aN 2 K a8 a9 x::aN 2 K e g c::box b 29 l::L) w) ?_ ?_
   ·exact ⟨d3,d4,f5,f6,d5,d6,l3,l4,p1,i7,p2,l5,l6,rfl,l7⟩
   ·rintro ⟨x,V,o,r⟩ i9 f x1 a r0 ⟨a8,a9,a3,a5,z,J,b3,h0,c1,c2,e3,h1,e4,e5,j⟩
    replace a:jE d c k x V o r=some i9:=a
    unfold jE at a
    refine aQ (aM (aT e5 (aT b3 (aF (dE rfl Z) (aF (cR (k':=p+2) eG rfl Z rfl) (aF (bK (t:=2) iT j Z rfl rfl) (aF (bN (len:=d.L.length) cF rfl) (aF (cG rfl rfl) (aI ?_)))))))))
    rcases aJ a with ⟨j0,a⟩|⟨j0,a⟩
    ·refine aO j0 rfl (aY (aC (aQ (bE (fun f w=>∃ (e6:List Int) (e7:List Int) (e8:List Edge) (h2:Option Addr) (h4:Nat) (h5:Option Addr) (h7:Nat) (h8:Option Addr) (i0:Nat),mZ r e6 e7 e8=some i9∧f 0=dC a1 p∧f 2=zP (some ⟨b,0,none⟩)∧f 3=zS e c.length g∧f 4=zS h2 e6.length h4∧f 5=zS h5 e7.length h7∧f 6=zS h8 e8.length i0∧f 7=i64 k∧f 8=i64 r∧aK G K (aN 63 K h8 i0 e8::aN 2 K h5 h7 e7::aN 2 K h2 h4 e6::aN 2 K e g c::box b 29 l::L) w) ?_ ?_))))
     ·rintro f x2 ⟨e6,e7,e8,h2,h4,h5,h7,h8,i0,a,r1,r2,r3,r4,r5,r6,r7,r8,r9⟩
      unfold mZ at a
      exact aC (aS (aT r8 (aF (cQ rfl rfl) (aH (v:=i64 (wr (r+1))) (aI ⟨(e6,e7,e8,wr (r+1)),(zI a).symm,h2,h4,h5,h7,h8,i0,r1,r2,r3,r4,r5,r6,r7,rfl,r9⟩)))))
     refine aQ (dR (C:=fun w'=>aK G K (aN 63 K z J o::aN 2 K a3 a5 V::aN 2 K a8 a9 x::aN 2 K e g c::box b 29 l::L) w') bT (by kernel_rfl) (aK.mono j (dQ.drew _)) (aW (fun _ j=>aZ b3) (aW (fun _ j=>aZ e3) (aW (fun _ j=>aZ e4) ?_))))
     obtain ⟨s0,j1,a⟩:=aD a
     have s1:=cY j (i:=1) rfl j1
     refine aW (fun _ j=>dW bY rfl s1 rfl rfl rfl j1) (aW (fun _ j=>jL (t:=0) cV j (i:=1) rfl j1 rfl rfl rfl) (aW (fun _ j=>aZ b3) (aW (fun _ j=>dE rfl Z) (aW (fun _ j=>cR (k':=p+2) eG rfl Z rfl) (aW (fun _ j=>bK (t:=2) iT j Z rfl rfl) (aW (fun _ j=>aZ e5) ?_))))))
     obtain ⟨s2,l8,a⟩:=aD a
     refine aW (fun _ j=>dN cF rfl h6 rfl rfl rfl l8) ?_
     obtain ⟨x3,s3,s4⟩:=dB.el (sz:=1) rfl h6 l8
     cases s4
     refine aW (fun _ j=>bK (t:=0) mV j s3 rfl rfl) ?_
     obtain ⟨a6,s5,a⟩:=aD a
     refine pK (vs:=[dC a1 p,i64 s0,str s2]) (v:=i64 a6) Tryz.call110 rfl (fun _ j=>(aCO j Z h6 h9 s5)) (aW (fun _ j=>dH (v:=i64 a6) rfl) (eF (fun x4 j2=>(aC (aQ (aM (aP (v:=i64 a6) (aF (cG rfl rfl) (aI ?_)))))))))
     rcases aJ a with ⟨j3,a⟩|⟨j3,a⟩
     ·exact aO j3 rfl (cB (aV (bJ (aC ⟨x,V,o,a8,a9,a3,a5,z,J,a,b3,h0,c1,c2,e3,h1,e4,e5,j2⟩))))
     ·refine aL j3 rfl (aY (aC (aM (aT c2 (aT c1 (aP (v:=i64 a6) ?_))))))
      obtain ⟨e9,i1,a⟩:=aD a
      refine aF (dW bY rfl i4 rfl rfl rfl i1) (aF (jL (t:=0) cV j2 (i:=3) rfl i1 rfl rfl rfl) ?_)
      obtain ⟨x5,x6,s6,s7,s8⟩:=aK.lendS (i:=2) j2 (zR _) rfl
      obtain ⟨j4,s9,a⟩:=aD a
      refine aU (vs:=[zS a8 x.length a9,i64 e9]) Tryz.call70 rfl (qL s7 s6 s9) ?_
      rintro _ x7 ⟨rfl,t0⟩
      have j5:=s8 _ _ t0
      refine aH (v:=i64 j4) (aI (aAo (fun f w=>∃ (b4:List Int) (b5:List Int) (b0:Int) (c3:Option Addr) (c4:Nat) (c6:Option Addr) (c7:Nat),lS k o r b4 b5 b0=some i9∧f 0=dC a1 p∧f 2=zP (some ⟨b,0,none⟩)∧f 3=zS e c.length g∧f 4=zS c3 b4.length c4∧f 5=zS c6 b5.length c7∧f 6=zS z o.length J∧f 7=i64 k∧f 8=i64 r∧f 10=i64 b0∧aK G K (aN 2 K c6 c7 b5::aN 2 K c3 c4 b4::aN 63 K z J o::aN 2 K e g c::box b 29 l::L) w) ?_ ?_))
      ·rintro f x8 ⟨b4,b5,b0,c3,c4,c6,c7,a,t1,t2,t3,t4,t5,t6,l9,m0,t7,t8⟩
       unfold lS at a
       refine aS (aT t6 (aT l9 (aT m0 (aT t7 (aF (fD (vs:=[(0,i64 k),(1,i64 r),(2,i64 b0)]) (cs:=[i64 k,i64 r,i64 b0]) aHb rfl (by kernel_rfl)) (cT (Kt:=K) (xs:=([⟨k,r,b0⟩]:List Edge)) (cs:=[i64 k,i64 r,i64 b0]) (vs:=[(0,zA #[i64 k,i64 r,i64 b0])]) cK mD rfl rfl t8 rfl (by kernel_rfl) rfl rfl rfl ⟨rfl,trivial⟩ (fun t9 u0 (u1:aK G K (aN 63 K t9 1 ([⟨k,r,b0⟩]:List Edge)::aN 2 K c6 c7 b5::aN 2 K c3 c4 b4::aN 63 K z J o::aN 2 K e g c::box b 29 l::L) u0)=>?_)))))))
       obtain ⟨j6,u2,a⟩:=aD a
       exact eI (i:=2) cK Tryz.underlying27 mD rfl rfl u1 rfl (zR _) (zR _) u2 rfl rfl rfl rfl (fun _ h=>h) (fun j7 j8 u3 (u4:aK G K (aN 2 K c6 c7 b5::aN 2 K c3 c4 b4::aN 63 K j7 j8 j6::aN 2 K e g c::box b 29 l::L) u3)=>(aH (v:=zS j7 j6.length j8) (bA (bG (aC ⟨b4,b5,j6,c3,c4,c6,c7,j7,j8,a,t1,t2,t3,t4,t5,rfl,l9,m0,(aK.arr 3 [2,0,1] u4 rfl)⟩)))))
      refine aM (aP (v:=i64 j4) (aF (cG rfl rfl) (aI ?_)))
      rcases aJ a with ⟨j9,a⟩|⟨j9,a⟩
      ·refine aO j9 rfl (aM (aT c2 (aF (bN (len:=x.length) bY rfl) (aH (v:=i64 (x.length:Int)) (aI (aM (aT c2 (aT c1 (aP (v:=i64 a6) (aF (dW bY rfl i4 rfl rfl rfl i1) (aF (jL (t:=0) cV j5 (i:=3) rfl i1 rfl rfl rfl) (cT (Kt:=K) (xs:=([e9]:List Int)) (cs:=[i64 e9]) (vs:=[(0,i64 e9)]) bY lR rfl rfl j5 rfl (by kernel_rfl) rfl rfl rfl ⟨rfl,trivial⟩ (fun u5 u6 (u7:aK G K (aN 2 K u5 1 ([e9]:List Int)::aN 2 K a8 a9 x::aN 63 K z J o::aN 2 K a3 a5 V::aN 2 K e g c::box b 29 l::L) u6)=>?_)))))))))))))
       obtain ⟨f0,u8,a⟩:=aD a
       refine eI (i:=0) bY Tryz.underlying38 lR rfl rfl u7 rfl (zR _) (zR _) u8 rfl rfl rfl rfl (fun _ h=>h) (fun f1 f2 u9 (v0:aK G K (aN 2 K f1 f2 f0::aN 63 K z J o::aN 2 K a3 a5 V::aN 2 K e g c::box b 29 l::L) u9)=>(aH (v:=zS f1 f0.length f2) (aI (aS (aT e3 (aP (v:=i64 a6) (cT (Kt:=K) (xs:=([a6]:List Int)) (cs:=[i64 a6]) (vs:=[(0,i64 a6)]) bY lR rfl rfl v0 rfl (by kernel_rfl) rfl rfl rfl ⟨rfl,trivial⟩ (fun v1 v2 (v3:aK G K (aN 2 K v1 1 ([a6]:List Int)::aN 2 K f1 f2 f0::aN 63 K z J o::aN 2 K a3 a5 V::aN 2 K e g c::box b 29 l::L) v2)=>?_))))))))
       obtain ⟨k0,v4,a⟩:=aD a
       exact eI (i:=2) bY Tryz.underlying38 lR rfl rfl v3 rfl (zR _) (zR _) v4 rfl rfl rfl rfl (fun _ h=>h) (fun k1 k3 v5 (v6:aK G K (aN 2 K f1 f2 f0::aN 63 K z J o::aN 2 K k1 k3 k0::aN 2 K e g c::box b 29 l::L) v5)=>(aH (v:=zS k1 k0.length k3) (aI ⟨f0,k0,(x.length:Int),f1,f2,k1,k3,a,b3,h0,c1,rfl,rfl,h1,e4,e5,rfl,(aK.arr 3 [2,0,1] v6 rfl)⟩)))
      ·exact aL j9 rfl (aY (aC ⟨x,V,j4,a8,a9,a3,a5,a,b3,h0,c1,c2,e3,h1,e4,e5,rfl,(aK.arr 3 [2,0,1] j5 rfl)⟩))
    ·refine aL j0 rfl (cB (aV (aV ?_)))
     have v7:=r0 _ (zI a).symm
     subst v7
     have n:(qF k x V o)=some f7:=n
     exact bJ (aC ⟨x,V,o,a8,a9,a3,a5,z,J,n,b3,h0,c1,c2,e3,h1,e4,j⟩)
  ·refine aL i8 rfl (cB (aV (aV ?_)))
   have v8:=p0 _ (zI n).symm
   subst v8
   have q:(mY d b2 c0)=some R:=q
   exact bJ (aC ⟨b2,c0,d3,d4,d5,d6,q,l3,l4,i7,l5,(aK.arr 4 [0,2] l7 rfl)⟩)
theorem oK {a b:cN} {R:(cN × Int)} (hs:aK G K (L) w) (h3:dB K a1 c2 a.L) (h6:dB K a4 c5 a.E) (h9:dB K a7 c8 b.L) (f0:dB K a10 c11 b.E) (h:rX a b=some R):
  Calls Tryz.prog 13 ([zA (zCa a a1 c2 a4 c5),zA (zCa b a7 c8 a10 c11)]:List Value).toArray w (iK fun v w'=>∃ (f1:Option Addr) (f2:Nat) (f3:Option Addr) (f4:Nat),v=Value.tuple #[zA (zCa R.1 f1 f2 f3 f4),i64 R.2]∧aK G K (aN 9 K f1 f2 R.1.L::aN 63 K f3 f4 R.1.E::L) w'):=by
 let j:=zG
 let V:=(zC b a7 c8 a10 c11)
 let Z:=(zC a a1 c2 a4 c5)
 refine aX Tryz.func13 rfl (by kernel_rfl) (by show (2:Nat)≤46;decide) ?_
 unfold rX at h
 refine aM (gP (v:=zA (zCa a a1 c2 a4 c5)) (vs:=Z) hs rfl rfl (fun t v7 h2=>(gP (v:=zA (zCa b a7 c8 a10 c11)) (vs:=V) h2 rfl rfl (fun u v8 h4=>(bS (vs:=j) Tryz.zeroValue29 h4 rfl (fun a0 v9 h5=>(aH (v:=i64 0) (aI (aQ (aQ (dF (fun f w=>∃ (e0:Bool),nK a b e0=some R∧f 2=zP (some ⟨t,0,none⟩)∧f 3=zP (some ⟨u,0,none⟩)∧f 4=zP (some ⟨a0,0,none⟩)∧f 19=zB e0∧aK G K (box a0 29 j::box u 29 V::box t 29 Z::L) w) ?_ ?_)))))))))))
 ·rintro f w0 ⟨e0,h,h7,h8,a2,f5,f6⟩
  unfold nK at h
  refine aC ?_
  rcases aJ h with ⟨e1,h⟩|⟨e1,h⟩
  ·refine aO e1 f5 (aM (aF (fD (vs:=[]) (cs:=j) tI rfl (by kernel_rfl)) (bR (i:=0) (ns:=j) (us:=j) Tryz.sizeOf29 f6 rfl a2 rfl rfl rfl (cX rfl) rfl rfl (fun i0 (i1:aK G K (box a0 29 j::box u 29 V::box t 29 Z::L) i0)=>(aH (v:=i64 1) (aI ?_))))))
   have i2:=aK.nil (α:=bB) i1 9 K
   have f7:=aK.nil (α:=Edge) i2 63 K
   obtain rfl:=zI h
   exact bH (aR (mT Tryz.results13 (dZ (vs:=j) rfl dI f7 (i:=2) rfl a2 rfl) (gW rfl rfl) ⟨none,0,none,0,rfl,(aK.arr 5 [1,0] f7 rfl)⟩))
  ·refine aL e1 f5 (aY (aC (aM ?_)))
   obtain ⟨w1,d3,i4,i5,i6⟩:=aK.lendB (i:=2) f6 rfl
   obtain ⟨w2,c4,i7,i8,i9⟩:=aK.lendB (i:=1) i5 rfl
   obtain ⟨c,j0,h⟩:=aD h
   refine aU (vs:=[dC (some ⟨t,0,none⟩) 0,dC (some ⟨u,0,none⟩) 0]) Tryz.call44 (lst2 h7 h8) (aIA i8 (i4.mono c4) (h3.mono (zL d3 c4)) (h6.mono (zL d3 c4)) i7 (h9.mono (zL d3 c4)) (f0.mono (zL d3 c4)) j0) ?_
   rintro _ w3 ⟨k,c48,l,m,n,o,p,q,rfl,j1⟩
   have j2:=i9 _ _ j1
   have j3:=i6 _ _ j2
   refine aP (v:=Value.tuple #[zA (zCa c.1 k c48 l m),zA (zCa c.2.1 n o p q),zB c.2.2]) (aF (bM rfl rfl) (aF (bM rfl rfl) (aF (bM rfl rfl) (bS (vs:=j) Tryz.zeroValue29 j3 rfl (fun a3 w4 j4=>(bS (vs:=j) Tryz.zeroValue29 j4 rfl (fun a5 w5 j5=>(bR (i:=1) (ns:=(zC c.1 k c48 l m)) (us:=(zC c.1 k c48 l m)) Tryz.sizeOf29 j5 rfl rfl rfl rfl rfl (cX rfl) rfl rfl (fun j6 (j7:aK G K (box a5 29 j::box a3 29 (zC c.1 k c48 l m)::box t 29 Z::box u 29 V::aN 9 K k c48 c.1.L::aN 63 K l m c.1.E::aN 9 K n o c.2.1.L::aN 63 K p q c.2.1.E::box a0 29 j::L) j6)=>(bR (i:=0) (ns:=(zC c.2.1 n o p q)) (us:=(zC c.2.1 n o p q)) Tryz.sizeOf29 j7 rfl rfl rfl rfl rfl (cX rfl) rfl rfl (fun j8 (f8:aK G K (box a5 29 (zC c.2.1 n o p q)::box a3 29 (zC c.1 k c48 l m)::box t 29 Z::box u 29 V::aN 9 K k c48 c.1.L::aN 63 K l m c.1.E::aN 9 K n o c.2.1.L::aN 63 K p q c.2.1.E::box a0 29 j::L) j8)=>(aH (v:=zB c.2.2) (aI (aQ (aM (aP (v:=zB c.2.2) (aF (fC rfl) (aI ?_))))))))))))))))))
   rcases aJ h with ⟨e2,h⟩|⟨e2,h⟩
   ·refine aO e2 rfl (aM (aF (fD (vs:=[]) (cs:=j) tI rfl (by kernel_rfl)) (bR (i:=8) (ns:=j) (us:=j) Tryz.sizeOf29 f8 rfl a2 rfl rfl rfl (cX rfl) rfl rfl (fun j9 (k0:aK G K (box a5 29 (zC c.2.1 n o p q)::box a3 29 (zC c.1 k c48 l m)::box t 29 Z::box u 29 V::aN 9 K k c48 c.1.L::aN 63 K l m c.1.E::aN 9 K n o c.2.1.L::aN 63 K p q c.2.1.E::box a0 29 j::L) j9)=>(aH (v:=i64 5) (aI ?_))))))
    have k1:=aK.nil (α:=bB) k0 9 K
    have f9:=aK.nil (α:=Edge) k1 63 K
    obtain rfl:=zI h
    exact bH (aR (mT Tryz.results13 (dZ (vs:=j) rfl dI f9 (i:=10) rfl a2 rfl) (gW rfl rfl) ⟨none,0,none,0,rfl,(aK.arr 11 [1,0] f9 rfl)⟩))
   ·refine aL e2 rfl (aY (aC (aM ?_)))
    obtain ⟨w6,e3,k3,k4,k5⟩:=aK.lendS (i:=4) f8 (zR _) rfl
    obtain ⟨w7,e4,k6,k7,k8⟩:=aK.lendS (i:=4) k4 e3 rfl
    obtain ⟨w8,d4,k9,l0,l1⟩:=aK.lendB (i:=1) k7 rfl
    obtain ⟨w9,d5,l2,l3,l4⟩:=aK.lendS (i:=3) l0 (zL (zL e3 e4) d4) rfl
    obtain ⟨x0,d6,l5,l6,l7⟩:=aK.lendS (i:=3) l3 (zL (zL (zL e3 e4) d4) d5) rfl
    obtain ⟨x1,c6,l8,l9,m0⟩:=aK.lendB (i:=0) l6 rfl
    obtain ⟨b2,m1,h⟩:=aD h
    refine aU (vs:=[dC (some ⟨a3,0,none⟩) 0,dC (some ⟨a5,0,none⟩) 0]) Tryz.call46 rfl (aFO l9 (k9.mono (zL (zL d5 d6) c6)) (k3.mono (zL (zL (zL (zL e4 d4) d5) d6) c6)) (k6.mono (zL (zL (zL d4 d5) d6) c6)) l8 (l2.mono (zL d6 c6)) (l5.mono c6) m1) ?_
    rintro _ x2 ⟨b3,b4,rfl,m2⟩
    have m3:=m0 _ _ m2
    have m4:=l7 _ _ m3
    have m5:=l4 _ _ m4
    have m6:=l1 _ _ m5
    have m7:=k8 _ _ m6
    have m8:=k5 _ _ m7
    obtain ⟨x3,d7,m9,n0,n1⟩:=aK.lendS (i:=0) m8 (zR _) rfl
    obtain ⟨x4,d8,n2,n3,n4⟩:=aK.lendS (i:=0) n0 d7 rfl
    obtain ⟨x5,c7,n5,n6,n7⟩:=aK.lendB (i:=0) n3 rfl
    obtain ⟨x6,c9,n8,n9,o0⟩:=aK.lendS (i:=0) n6 (zL (zL d7 d8) c7) rfl
    obtain ⟨x7,d0,o1,o2,o3⟩:=aK.lendS (i:=0) n9 (zL (zL (zL d7 d8) c7) c9) rfl
    obtain ⟨x8,b5,o4,o5,o6⟩:=aK.lendB (i:=0) o2 rfl
    obtain ⟨x9,b6,o7,o8,o9⟩:=aK.lendS (i:=0) o5 (zL (zL (zL (zL (zL d7 d8) c7) c9) d0) b5) rfl
    obtain ⟨d,p0,h⟩:=aD h
    refine aU (vs:=[dC (some ⟨a3,0,none⟩) 0,dC (some ⟨a5,0,none⟩) 0,zS b3 b2.length b4]) Tryz.call45 rfl (aFd o8 (n5.mono (zL (zL (zL c9 d0) b5) b6)) (m9.mono (zL (zL (zL (zL (zL d8 c7) c9) d0) b5) b6)) (n2.mono (zL (zL (zL (zL c7 c9) d0) b5) b6)) (o4.mono b6) (n8.mono (zL (zL d0 b5) b6)) (o1.mono (zL b5 b6)) o7 p0) ?_
    rintro _ y0 ⟨x,y,z,J,rfl,p1⟩
    have p2:=o9 _ _ p1
    have p3:=o6 _ _ p2
    have p4:=o3 _ _ p3
    have p5:=o0 _ _ p4
    have p6:=n7 _ _ p5
    have p7:=n4 _ _ p6
    have p8:=n1 _ _ p7
    refine aP (v:=Value.tuple #[zA (zCa d.1 x y z J),zB d.2]) (aF (bM rfl rfl) (aF (bM rfl rfl) (bS (vs:=j) Tryz.zeroValue29 p8 rfl (fun b7 y1 p9=>(bR (i:=0) (ns:=(zC d.1 x y z J)) (us:=(zC d.1 x y z J)) Tryz.sizeOf29 p9 rfl rfl rfl rfl rfl (cX rfl) rfl rfl (fun q0 (g0:aK G K (box b7 29 (zC d.1 x y z J)::aN 9 K k c48 c.1.L::aN 63 K l m c.1.E::box a3 29 (zC c.1 k c48 l m)::aN 9 K n o c.2.1.L::aN 63 K p q c.2.1.E::box a5 29 (zC c.2.1 n o p q)::aN 9 K b3 b4 b2::aN 9 K x y d.1.L::aN 63 K z J d.1.E::box t 29 Z::box u 29 V::box a0 29 j::L) q0)=>(aH (v:=zB d.2) (aI (aQ (aM (aP (v:=zB d.2) (aF (fC rfl) (aI ?_)))))))))))))
    rcases aJ h with ⟨e5,h⟩|⟨e5,h⟩
    ·refine aO e5 rfl (aM (aF (fD (vs:=[]) (cs:=j) tI rfl (by kernel_rfl)) (bR (i:=12) (ns:=j) (us:=j) Tryz.sizeOf29 g0 rfl a2 rfl rfl rfl (cX rfl) rfl rfl (fun q1 (q2:aK G K (box b7 29 (zC d.1 x y z J)::aN 9 K k c48 c.1.L::aN 63 K l m c.1.E::box a3 29 (zC c.1 k c48 l m)::aN 9 K n o c.2.1.L::aN 63 K p q c.2.1.E::box a5 29 (zC c.2.1 n o p q)::aN 9 K b3 b4 b2::aN 9 K x y d.1.L::aN 63 K z J d.1.E::box t 29 Z::box u 29 V::box a0 29 j::L) q1)=>(aH (v:=i64 5) (aI ?_))))))
     have q3:=aK.nil (α:=bB) q2 9 K
     have g1:=aK.nil (α:=Edge) q3 63 K
     obtain rfl:=zI h
     exact bH (aR (mT Tryz.results13 (dZ (vs:=j) rfl dI g1 (i:=14) rfl a2 rfl) (gW rfl rfl) ⟨none,0,none,0,rfl,(aK.arr 15 [1,0] g1 rfl)⟩))
    ·refine aL e5 rfl (aY (aC (aM ?_)))
     obtain ⟨y2,q5,q6,q7,q8⟩:=aK.lendS (i:=8) g0 (zR _) rfl
     obtain ⟨y3,q9,r0,r1,r2⟩:=aK.lendS (i:=8) q7 q5 rfl
     obtain ⟨y4,g2,r3,r4,r5⟩:=aK.lendB (i:=0) r1 rfl
     obtain ⟨e,r6,h⟩:=aD h
     refine aU (vs:=[dC (some ⟨b7,0,none⟩) 0]) Tryz.call47 rfl (aBq r4 r3 (q6.mono (zL q9 g2)) (r0.mono g2) r6) ?_
     rintro _ y5 ⟨a6,a8,a9,b0,d1,d2,b8,rfl,y6,r7⟩
     have r8:=r5 _ _ r7
     have r9:=r2 _ _ r8
     have s0:=q8 _ _ r9
     refine aP (v:=Value.tuple #[zA (zCa e.1 a6 a8 a9 b0),zS d1 e.2.1.length d2,zB e.2.2]) (aF (bM rfl rfl) (aF (bM rfl rfl) (aF (bM rfl rfl) (bS (vs:=j) Tryz.zeroValue29 s0 rfl (fun d9 y7 s1=>(bR (i:=0) (ns:=(zC e.1 a6 a8 a9 b0)) (us:=(zC e.1 a6 a8 a9 b0)) Tryz.sizeOf29 s1 rfl rfl rfl rfl rfl (cX rfl) rfl rfl (fun s2 (g3:aK G K (box d9 29 (zC e.1 a6 a8 a9 b0)::aN 9 K x y d.1.L::aN 63 K z J d.1.E::box b7 29 (zC d.1 x y z J)::aN 9 K a6 a8 e.1.L::aN 63 K a9 b0 e.1.E::aN 38 K d1 d2 (dK b8 e.2.1)::rows [2] b8 e.2.1::aN 9 K k c48 c.1.L::aN 63 K l m c.1.E::box a3 29 (zC c.1 k c48 l m)::aN 9 K n o c.2.1.L::aN 63 K p q c.2.1.E::box a5 29 (zC c.2.1 n o p q)::aN 9 K b3 b4 b2::box t 29 Z::box u 29 V::box a0 29 j::L) s2)=>(aH (v:=zS d1 e.2.1.length d2) (aH (v:=zB e.2.2) (aI (aQ (aM (aP (v:=zB e.2.2) (aF (fC rfl) (aI ?_)))))))))))))))
     rcases aJ h with ⟨e6,h⟩|⟨e6,h⟩
     ·refine aO e6 rfl (aM (aF (fD (vs:=[]) (cs:=j) tI rfl (by kernel_rfl)) (bR (i:=17) (ns:=j) (us:=j) Tryz.sizeOf29 g3 rfl a2 rfl rfl rfl (cX rfl) rfl rfl (fun s3 (s4:aK G K (box d9 29 (zC e.1 a6 a8 a9 b0)::aN 9 K x y d.1.L::aN 63 K z J d.1.E::box b7 29 (zC d.1 x y z J)::aN 9 K a6 a8 e.1.L::aN 63 K a9 b0 e.1.E::aN 38 K d1 d2 (dK b8 e.2.1)::rows [2] b8 e.2.1::aN 9 K k c48 c.1.L::aN 63 K l m c.1.E::box a3 29 (zC c.1 k c48 l m)::aN 9 K n o c.2.1.L::aN 63 K p q c.2.1.E::box a5 29 (zC c.2.1 n o p q)::aN 9 K b3 b4 b2::box t 29 Z::box u 29 V::box a0 29 j::L) s3)=>(aH (v:=i64 5) (aI ?_))))))
      have s5:=aK.nil (α:=bB) s4 9 K
      have g4:=aK.nil (α:=Edge) s5 63 K
      obtain rfl:=zI h
      exact bH (aR (mT Tryz.results13 (dZ (vs:=j) rfl dI g4 (i:=19) rfl a2 rfl) (gW rfl rfl) ⟨none,0,none,0,rfl,(aK.arr 20 [1,0] g4 rfl)⟩))
     ·refine aL e6 rfl (aY (aC (aM ?_)))
      obtain ⟨y8,s7,s8,s9,t0⟩:=aK.lendS (i:=4) g3 (zR _) rfl
      obtain ⟨y9,t1,t2,t3,t4⟩:=aK.lendS (i:=4) s9 s7 rfl
      obtain ⟨z0,g5,t5,t6,t7⟩:=aK.lendB (i:=0) t3 rfl
      obtain ⟨r,t8,h⟩:=aD h
      refine aU (vs:=[dC (some ⟨d9,0,none⟩) 0]) Tryz.call48 rfl (aFf t6 t5 (s8.mono (zL t1 g5)) (t2.mono g5) t8) ?_
      rintro _ z1 ⟨b9,c0,c1,c3,rfl,t9⟩
      have u0:=t7 _ _ t9
      have u1:=t4 _ _ u0
      have u2:=t0 _ _ u1
      refine bR (i:=19) (ns:=(zC r b9 c0 c1 c3)) (us:=(zC r b9 c0 c1 c3)) Tryz.sizeOf29 u2 rfl a2 rfl rfl rfl (cX rfl) rfl rfl (fun u3 (g6:aK G K (aN 9 K a6 a8 e.1.L::aN 63 K a9 b0 e.1.E::box d9 29 (zC e.1 a6 a8 a9 b0)::aN 9 K b9 c0 r.L::aN 63 K c1 c3 r.E::aN 9 K x y d.1.L::aN 63 K z J d.1.E::box b7 29 (zC d.1 x y z J)::aN 38 K d1 d2 (dK b8 e.2.1)::rows [2] b8 e.2.1::aN 9 K k c48 c.1.L::aN 63 K l m c.1.E::box a3 29 (zC c.1 k c48 l m)::aN 9 K n o c.2.1.L::aN 63 K p q c.2.1.E::box a5 29 (zC c.2.1 n o p q)::aN 9 K b3 b4 b2::box t 29 Z::box u 29 V::box a0 29 (zC r b9 c0 c1 c3)::L) u3)=>(aH (v:=i64 0) (aI ?_)))
      obtain rfl:=zI h
      exact bH (mT Tryz.results13 (dZ (vs:=(zC r b9 c0 c1 c3)) rfl dI g6 (i:=19) rfl a2 rfl) (gW rfl rfl) ⟨b9,c0,c1,c3,rfl,(aK.arr 20 [3,4] g6 rfl)⟩)
 refine aS ?_
 obtain ⟨z2,g7,u5,u6,u7⟩:=aK.lendB (i:=2) h5 rfl
 obtain ⟨u8,u9,h⟩:=aD h
 refine aU (vs:=[dC (some ⟨t,0,none⟩) 0]) Tryz.call23 rfl (aFc u6 u5 (h3.mono g7) (h6.mono g7) u9) ?_
 rintro _ z3 ⟨rfl,v0⟩
 have g8:=u7 _ _ v0
 refine aF (fC rfl) (aP (v:=zB (!u8)) ?_)
 rcases aJ h with ⟨b1,h⟩|⟨b1,h⟩
 ·exact bC b1 rfl rfl (bC b1 rfl rfl (aF (bO (v:=zB true) b1 rfl rfl) (aI ⟨true,h,rfl,rfl,rfl,rfl,(aK.arr 3 [1,2,0] g8 rfl)⟩)))
 ·refine bP b1 rfl rfl ?_
  obtain ⟨z4,g9,v1,v2,v3⟩:=aK.lendB (i:=2) g8 rfl
  obtain ⟨h0,v4,h⟩:=aD h
  refine aU (vs:=[dC (some ⟨u,0,none⟩) 0]) Tryz.call23 rfl (aFc v2 v1 (h9.mono g9) (f0.mono g9) v4) ?_
  rintro _ z5 ⟨rfl,v5⟩
  have v6:=v3 _ _ v5
  exact bP b1 rfl rfl (aF (fC rfl) (aF (bV (v:=zB (!h0)) b1 rfl rfl) (aI ⟨!h0,h,rfl,rfl,rfl,rfl,(aK.arr 3 [2,0,1] v6 rfl)⟩)))
theorem vM {t:cN} {k:Int} {R:Bool} (c:aK G K (L) w) (j:dB K a1 c2 t.L) (l:dB K a4 c5 t.E) (a:oD t k=some R):
  Calls Tryz.prog 78 ([zA (zCa t a1 c2 a4 c5),i64 k]:List Value).toArray w (iK fun v w'=>v=zB R∧aK G K (L) w'):=by
 refine aX Tryz.func78 rfl (by kernel_rfl) (by show (2:Nat)≤10;decide) ?_
 unfold oD at a
 refine aM (gP (v:=zA (zCa t a1 c2 a4 c5)) (vs:=(zC t a1 c2 a4 c5)) c rfl rfl (fun m n b=>(aH (v:=zB false) (aI (aM (aP (v:=i64 k) (aF (bL (t':=0) iZ rfl rfl) (aF (cC cV b (i:=0) rfl rfl rfl) (aF (kL rfl rfl) ?_)))))))))
 obtain ⟨d,e,a⟩:=aD a
 refine aU (vs:=[i64 k,i64 0,i64 (wr (t.N - 1))]) Tryz.call77 rfl (uR b e) ?_
 rintro _ o ⟨rfl,g⟩
 refine aH (v:=zB d) (aI ?_)
 obtain rfl:=zI a
 exact bH (bF Tryz.results78 rfl ⟨rfl,(aK.arr 1 [] g rfl)⟩)
theorem aJH {i many:Int} {R:Bool} (b:aK G K (L) w) (a:aFa i many=some R):
  Calls Tryz.prog 80 ([i64 i,i64 many]:List Value).toArray w (iK fun v w'=>v=zB R∧aK G K (L) w'):=by
 refine aX Tryz.func80 rfl (by kernel_rfl) (by show (2:Nat)≤9;decide) ?_
 unfold aFa at a
 refine aM (aH (v:=zB false) (aI (aM (aP (v:=i64 i) (aP (v:=i64 many) (aF (kL rfl rfl) ?_))))))
 obtain ⟨c,d,a⟩:=aD a
 refine aU (vs:=[i64 i,i64 0,i64 (wr (many - 1))]) Tryz.call77 rfl (uR b d) ?_
 rintro _ h ⟨rfl,e⟩
 refine aH (v:=zB c) (aI ?_)
 obtain rfl:=zI a
 exact bH (bF Tryz.results80 rfl ⟨rfl,e⟩)
theorem nE {t:cN} {R:Bool} (hs:aK G K (L) w) (hG:G.lo=0) (h3:dB K a1 c2 t.L) (h6:dB K a4 c5 t.E) (b:oG t=some R):
  Calls Tryz.prog 31 ([zA (zCa t a1 c2 a4 c5)]:List Value).toArray w (iK fun v w'=>v=zB R∧aK G K (L) w'):=by
 let y:=(zC t a1 c2 a4 c5)
 refine aX Tryz.func31 rfl (by kernel_rfl) (by show (1:Nat)≤109;decide) ?_
 unfold oG at b
 refine aM (gP (v:=zA (zCa t a1 c2 a4 c5)) (vs:=y) hs rfl rfl (fun l w8 d3=>(aH (v:=zB false) (aI (aQ (aQ (dF (fun f w=>∃ (b5:Bool),oF t b5=some R∧f 1=zP (some ⟨l,0,none⟩)∧f 30=zB b5∧aK G K (box l 29 y::L) w) ?_ ?_)))))))
 ·rintro f k3 ⟨b5,b,d4,d5,b6⟩
  unfold oF at b
  refine aC ?_
  rcases aJ b with ⟨b8,b⟩|⟨b8,b⟩
  ·refine aO b8 d5 (aM (aH (v:=zB false) (aI ?_)))
   obtain rfl:=zI b
   exact bH (aR (bF Tryz.results31 rfl ⟨rfl,(aK.arr 1 [] b6 rfl)⟩))
  ·refine aL b8 d5 (aY (aC (aQ (aM (aF (bL (t':=2) eG d4 rfl) (aF (cC iT b6 (i:=0) rfl rfl rfl) (aF (bN (len:=t.L.length) cF rfl) (aP (v:=i64 0) (aI (bE (fun f w=>uO t=some R∧f 1=zP (some ⟨l,0,none⟩)∧aK G K (box l 29 y::L) w) ?_ ?_))))))))))
   ·rintro f k4 ⟨b,d6,d7⟩
    unfold uO at b
    refine aC (aQ (aM (aF (bL (t':=3) eR d6 rfl) (aF (cC lK d7 (i:=0) rfl rfl rfl) (aF (bN (len:=t.E.length) cK rfl) (aP (v:=i64 0) (aI (bE (fun f w=>yY=some R∧aK G K (L) w) ?_ ?_))))))))
    ·rintro f k5 ⟨b,f7⟩
     unfold yY at b
     refine aC (aM (aH (v:=zB true) (aI ?_)))
     obtain rfl:=zI b
     exact bH (bF Tryz.results31 rfl ⟨rfl,f7⟩)
    obtain ⟨k6,f9,b⟩:=aD b
    refine cD f9 (fun (z:Int) f w=>f 1=zP (some ⟨l,0,none⟩)∧f 65=zS a4 t.E.length c5∧f 66=i64 (t.E.length:Int)∧f 67=i64 z∧aK G K (box l 29 y::L) w) ?_ ?_
    ·exact ⟨d6,rfl,rfl,rfl,d7⟩
    ·rintro z d8 f k7 c d9 ⟨V,a5,a6,Z,b9⟩
     replace c:qV t z=some d8:=c
     unfold qV at c
     refine aM (aF (cG Z a6) (aI (aQ ?_)))
     rcases aJ c with ⟨c0,c⟩|⟨c0,c⟩
     ·refine aO c0 rfl (aY (aC (aQ (cW (aM (aT Z ?_))))))
      obtain ⟨e,e0,c⟩:=aD c
      refine aF (dN cK rfl h6 a5 rfl Z e0) ?_
      obtain ⟨k8,g0,g1⟩:=dB.el (sz:=3) rfl h6 e0
      cases g1
      refine aF (fZ (t:=0) (vs:=[i64 e.F,i64 e.B,i64 e.To]) lU b9 g0 rfl rfl rfl) (bS (vs:=[i64 0,i64 0,i64 0]) Tryz.zeroValue63 b9 rfl (fun e1 k9 g2=>(aH (v:=i64 z) (bR (i:=0) (ns:=[i64 e.F,i64 e.B,i64 e.To]) (us:=[i64 e.F,i64 e.B,i64 e.To]) Tryz.sizeOf63 g2 rfl rfl rfl rfl rfl (cX rfl) rfl rfl (fun g3 (a:aK G K (box e1 63 [i64 e.F,i64 e.B,i64 e.To]::box l 29 y::L) g3)=>(aI (aQ (dF (fun f w=>∃ (c1:Bool),mG z c1=some d8∧f 1=zP (some ⟨l,0,none⟩)∧f 65=zS a4 t.E.length c5∧f 66=i64 (t.E.length:Int)∧f 67=i64 z∧f 107=zB c1∧aK G K (box l 29 y::L) w) ?_ ?_))))))))
      ·rintro f l0 ⟨c1,c,g4,g5,g6,g7,e2,e3⟩
       unfold mG at c
       refine aC ?_
       rcases aJ c with ⟨c3,c⟩|⟨c3,c⟩
       ·refine aO c3 e2 (aM (aH (v:=zB false) (aI (bH (bQ (aR (aR ?_)))))))
        have g8:=d9 _ (zI c).symm
        subst g8
        have b:(some false)=some R:=b
        obtain rfl:=zI b
        exact bQ (aR (aR (bF Tryz.results31 rfl ⟨rfl,(aK.arr 1 [] e3 rfl)⟩)))
       ·exact aL c3 e2 (aY (bG (aC (aS (aF (cQ g7 rfl) (aP (v:=i64 (wr (z+1))) (aI ⟨wr (z+1),(zI c).symm,g4,g5,g6,rfl,e3⟩)))))))
      refine dR (C:=fun w'=>aK G K (box e1 63 [i64 e.F,i64 e.B,i64 e.To]::box l 29 y::L) w') bT (by kernel_rfl) (aK.mono a (dQ.drew _)) (aW (fun _ a=>dX (us:=y) dI a (i:=1) rfl V rfl rfl) (aW (fun _ a=>bL (t':=0) kG rfl rfl) (aW (fun _ a=>cC cV a (i:=0) rfl rfl rfl) ?_)))
      obtain ⟨e4,h0,c⟩:=aD c
      refine pK (vs:=[zA (zCa t a1 c2 a4 c5),i64 e.F]) (v:=zB e4) Tryz.call78 rfl (fun _ a=>(vM a h3 h6 h0)) (aW (fun _ a=>fC rfl) (aW (fun _ a=>aZ (v:=zB (!e4)) rfl) ?_))
      rcases aJ c with ⟨n,c⟩|⟨n,c⟩
      ·refine bD (g:=77) rfl rfl (cJ n) (bD (g:=77) rfl rfl (cJ n) (bD (g:=77) rfl rfl (cJ n) (bD (g:=77) rfl rfl (cJ n) (bD (g:=77) rfl rfl (cJ n) (aW (fun _ a=>bO (v:=zB true) n rfl rfl) (aW (fun _ a=>aZ (v:=zB true) rfl) (bD (g:=84) rfl rfl (cJ (rfl:true=true)) (bD (g:=84) rfl rfl (cJ (rfl:true=true)) (bD (g:=84) rfl rfl (cJ (rfl:true=true)) (bD (g:=84) rfl rfl (cJ (rfl:true=true)) (bD (g:=84) rfl rfl (cJ (rfl:true=true)) (bD (g:=84) rfl rfl (cJ (rfl:true=true)) (bD (g:=84) rfl rfl (cJ (rfl:true=true)) (aW (fun _ a=>bO (v:=zB true) (rfl:true=true) rfl rfl) (aW (fun _ a=>aZ (v:=zB true) rfl) (bD (g:=93) rfl rfl (cJ (rfl:true=true)) (bD (g:=93) rfl rfl (cJ (rfl:true=true)) (bD (g:=93) rfl rfl (cJ (rfl:true=true)) (cM (g:=96) rfl rfl (cM (g:=96) rfl rfl (cM (g:=96) rfl rfl (cM (g:=96) rfl rfl (cM (g:=96) rfl rfl ?_)))))))))))))))))))))))
       exact cM (g:=96) rfl rfl (cM (g:=96) rfl rfl (cM (g:=96) rfl rfl (cM (g:=96) rfl rfl (bD (g:=93) rfl rfl (cJ (rfl:true=true)) (aW (fun _ a=>bO (v:=zB true) (rfl:true=true) rfl rfl) (eF (fun l1 h1=>(aC ⟨true,c,V,a5,a6,Z,rfl,(aK.arr 1 [] h1 rfl)⟩))))))))
      ·refine bW (g:=77) rfl rfl (cI n) (aW (fun _ a=>dX (us:=y) dI a (i:=1) rfl V rfl rfl) (bW (g:=77) rfl rfl (cI n) (aW (fun _ a=>bL (t':=2) gX rfl rfl) (bW (g:=77) rfl rfl (cI n) (aW (fun _ a=>cC cV a (i:=0) rfl rfl rfl) (bW (g:=77) rfl rfl (cI n) ?_))))))
       obtain ⟨c4,h2,c⟩:=aD c
       refine pK (vs:=[zA (zCa t a1 c2 a4 c5),i64 e.To]) (v:=zB c4) Tryz.call78 rfl (fun _ a=>(vM a h3 h6 h2)) (bW (g:=77) rfl rfl (cI n) (aW (fun _ a=>fC rfl) (aW (fun _ a=>bV (v:=zB (!c4)) n rfl rfl) (aW (fun _ a=>aZ (v:=zB (!c4)) rfl) ?_))))
       rcases aJ c with ⟨k,c⟩|⟨k,c⟩
       ·refine bD (g:=84) rfl rfl (cJ k) (bD (g:=84) rfl rfl (cJ k) (bD (g:=84) rfl rfl (cJ k) (bD (g:=84) rfl rfl (cJ k) (bD (g:=84) rfl rfl (cJ k) (bD (g:=84) rfl rfl (cJ k) (bD (g:=84) rfl rfl (cJ k) (aW (fun _ a=>bO (v:=zB true) k rfl rfl) (aW (fun _ a=>aZ (v:=zB true) rfl) (bD (g:=93) rfl rfl (cJ (rfl:true=true)) (bD (g:=93) rfl rfl (cJ (rfl:true=true)) (bD (g:=93) rfl rfl (cJ (rfl:true=true)) (cM (g:=96) rfl rfl (cM (g:=96) rfl rfl (cM (g:=96) rfl rfl (cM (g:=96) rfl rfl (cM (g:=96) rfl rfl (cM (g:=96) rfl rfl (cM (g:=96) rfl rfl (cM (g:=96) rfl rfl (cM (g:=96) rfl rfl (bD (g:=93) rfl rfl (cJ (rfl:true=true)) (aW (fun _ a=>bO (v:=zB true) (rfl:true=true) rfl rfl) (eF ?_)))))))))))))))))))))))
        intro l2 h4
        exact aC ⟨true,c,V,a5,a6,Z,rfl,(aK.arr 1 [] h4 rfl)⟩
       ·refine bW (g:=84) rfl rfl (cI k) (aW (fun _ a=>bL (t':=1) iF rfl rfl) (bW (g:=84) rfl rfl (cI k) (aW (fun _ a=>cC cV a (i:=0) rfl rfl rfl) (bW (g:=84) rfl rfl (cI k) (aW (fun _ a=>bL (t':=2) eG V rfl) (bW (g:=84) rfl rfl (cI k) (aW (fun _ a=>cC iT a (i:=1) rfl rfl rfl) (bW (g:=84) rfl rfl (cI k) (aW (fun _ a=>bN (len:=t.L.length) cF rfl) (bW (g:=84) rfl rfl (cI k) ?_))))))))))
        obtain ⟨c6,h5,c⟩:=aD c
        refine pK (vs:=[i64 e.B,i64 (t.L.length:Int)]) (v:=zB c6) Tryz.call80 rfl (fun _ a=>(aJH a h5)) (bW (g:=84) rfl rfl (cI k) (aW (fun _ a=>fC rfl) (aW (fun _ a=>bV (v:=zB (!c6)) k rfl rfl) (aW (fun _ a=>aZ (v:=zB (!c6)) rfl) ?_))))
        rcases aJ c with ⟨o,c⟩|⟨o,c⟩
        ·exact bD (g:=93) rfl rfl (cJ o) (bD (g:=93) rfl rfl (cJ o) (bD (g:=93) rfl rfl (cJ o) (cM (g:=96) rfl rfl (cM (g:=96) rfl rfl (cM (g:=96) rfl rfl (cM (g:=96) rfl rfl (cM (g:=96) rfl rfl (cM (g:=96) rfl rfl (cM (g:=96) rfl rfl (cM (g:=96) rfl rfl (cM (g:=96) rfl rfl (bD (g:=93) rfl rfl (cJ o) (aW (fun _ a=>bO (v:=zB true) o rfl rfl) (eF (fun l3 h7=>(aC ⟨true,c,V,a5,a6,Z,rfl,(aK.arr 1 [] h7 rfl)⟩))))))))))))))))
        ·refine bW (g:=93) rfl rfl (cI o) (aW (fun _ a=>aZ (v:=i64 z) rfl) (bW (g:=93) rfl rfl (cI o) (aW (fun _ a=>oM rfl rfl) (bW (g:=93) rfl rfl (cI o) (aW (fun _ a=>aZ (v:=zB (decide (0 < z))) rfl) ?_)))))
         rcases aJ c with ⟨h,c⟩|⟨h,c⟩
         ·refine bW (g:=96) rfl rfl h (aW (fun _ a=>bL (t':=3) eR V rfl) (bW (g:=96) rfl rfl h (aW (fun _ a=>cC lK a (i:=1) rfl rfl rfl) (bW (g:=96) rfl rfl h (aW (fun _ a=>aZ (v:=i64 z) rfl) (bW (g:=96) rfl rfl h (aW (fun _ a=>kL rfl rfl) (bW (g:=96) rfl rfl h ?_))))))))
          obtain ⟨a7,e5,c⟩:=aD c
          refine aW (fun _ a=>dN cK rfl h6 rfl rfl rfl e5) ?_
          obtain ⟨l4,h8,h9⟩:=dB.el (sz:=3) rfl h6 e5
          cases h9
          refine bW (g:=96) rfl rfl h (aW (fun _ a=>fZ (t:=0) (vs:=[i64 a7.F,i64 a7.B,i64 a7.To]) lU a h8 rfl rfl rfl) (bW (g:=96) rfl rfl h (aW (fun _ a=>dX (us:=[i64 e.F,i64 e.B,i64 e.To]) lU a (i:=0) rfl rfl rfl rfl) (bW (g:=96) rfl rfl h ?_))))
          obtain ⟨b3,i0,c⟩:=aD c
          exact pK (vs:=[zA #[i64 a7.F,i64 a7.B,i64 a7.To],zA #[i64 e.F,i64 e.B,i64 e.To]]) (v:=i64 b3) Tryz.call81 rfl (fun _ a=>(aAt a i0)) (bW (g:=96) rfl rfl h (aW (fun _ a=>tU rfl rfl) (bW (g:=93) rfl rfl (cI o) (aW (fun _ a=>bO (v:=zB (decide (0≤b3))) h rfl rfl) (aW (fun _ a=>bV (v:=zB (decide (0≤b3))) o rfl rfl) (eF (fun l5 i1=>(aC ⟨decide (0≤b3),c,V,a5,a6,Z,rfl,(aK.arr 1 [] i1 rfl)⟩))))))))
         ·exact bD (g:=96) rfl rfl (dD h) (bD (g:=96) rfl rfl (dD h) (bD (g:=96) rfl rfl (dD h) (bD (g:=96) rfl rfl (dD h) (bD (g:=96) rfl rfl (dD h) (bD (g:=96) rfl rfl (dD h) (bD (g:=96) rfl rfl (dD h) (bD (g:=96) rfl rfl (dD h) (bD (g:=96) rfl rfl (dD h) (bW (g:=93) rfl rfl (cI o) (aW (fun _ a=>bV (v:=zB false) h rfl rfl) (aW (fun _ a=>bV (v:=zB false) o rfl rfl) (eF (fun l6 i2=>(aC ⟨false,c,V,a5,a6,Z,rfl,(aK.arr 1 [] i2 rfl)⟩))))))))))))))
     ·refine aL c0 rfl (cB (aV (aV ?_)))
      have i3:=d9 _ (zI c).symm
      subst i3
      have b:(yY)=some R:=b
      exact bJ (aC ⟨b,(aK.arr 1 [] b9 rfl)⟩)
   obtain ⟨l7,i4,b⟩:=aD b
   refine cD i4 (fun (m:Int) f w=>f 1=zP (some ⟨l,0,none⟩)∧f 32=zS a1 t.L.length c2∧f 33=i64 (t.L.length:Int)∧f 34=i64 m∧aK G K (box l 29 y::L) w) ?_ ?_
   ·exact ⟨d4,rfl,rfl,rfl,b6⟩
   ·rintro m e6 f l8 d e7 ⟨a8,b1,b2,a3,c7⟩
    replace d:qW t m=some e6:=d
    unfold qW at d
    refine aM (aF (cG a3 b2) (aI (aQ ?_)))
    rcases aJ d with ⟨c8,d⟩|⟨c8,d⟩
    ·refine aO c8 rfl (aY (aC (aQ (cW (aM (aT a3 ?_))))))
     obtain ⟨p,e8,d⟩:=aD d
     refine aF (dN cF rfl h3 b1 rfl a3 e8) ?_
     obtain ⟨l9,i5,i6⟩:=dB.el (sz:=1) rfl h3 e8
     cases i6
     refine aF (bK (t:=0) mV c7 i5 rfl rfl) (aH (v:=i64 m) (aH (v:=str p) (aI (aQ (dF (fun f w=>∃ (c9:Bool),oE m c9=some e6∧f 1=zP (some ⟨l,0,none⟩)∧f 32=zS a1 t.L.length c2∧f 33=i64 (t.L.length:Int)∧f 34=i64 m∧f 62=zB c9∧aK G K (box l 29 y::L) w) ?_ ?_)))))
     ·rintro f m0 ⟨c9,d,i7,i8,i9,j0,e9,f0⟩
      unfold oE at d
      refine aC ?_
      rcases aJ d with ⟨d0,d⟩|⟨d0,d⟩
      ·refine aO d0 e9 (aM (aH (v:=zB false) (aI (bH (bQ (aR (aR ?_)))))))
       have j1:=e7 _ (zI d).symm
       subst j1
       have b:(some false)=some R:=b
       obtain rfl:=zI b
       exact bQ (aR (aR (bF Tryz.results31 rfl ⟨rfl,(aK.arr 1 [] f0 rfl)⟩)))
      ·exact aL d0 e9 (aY (bG (aC (aS (aF (cQ j0 rfl) (aP (v:=i64 (wr (m+1))) (aI ⟨wr (m+1),(zI d).symm,i7,i8,i9,rfl,f0⟩)))))))
     refine aS (aP (v:=str p) ?_)
     obtain ⟨j3,j4,d⟩:=aD d
     refine aU (vs:=[str p]) Tryz.call79 rfl (aHk c7 hG j4) ?_
     rintro _ m1 ⟨rfl,a9⟩
     refine aF (fC rfl) (aP (v:=zB (!j3)) ?_)
     rcases aJ d with ⟨q,d⟩|⟨q,d⟩
     ·exact bC q rfl rfl (bC q rfl rfl (bC q rfl rfl (bC q rfl rfl (bC q rfl rfl (aF (bO (v:=zB true) q rfl rfl) (aP (v:=zB true) (bC (rfl:true=true) rfl rfl (bC (rfl:true=true) rfl rfl (bC (rfl:true=true) rfl rfl (fY (g:=52) rfl rfl (fY (g:=52) rfl rfl (fY (g:=52) rfl rfl (fY (g:=52) rfl rfl (fY (g:=52) rfl rfl (fY (g:=52) rfl rfl (fY (g:=52) rfl rfl (fY (g:=52) rfl rfl (bC (rfl:true=true) rfl rfl (aF (bO (v:=zB true) (rfl:true=true) rfl rfl) (aI ⟨true,d,a8,b1,b2,a3,rfl,a9⟩))))))))))))))))))))
     ·refine bP q rfl rfl (aP (v:=str p) (bP q rfl rfl (aF (wN rfl rfl) (bP q rfl rfl (aP (v:=i64 m) (bP q rfl rfl (aF (oN rfl rfl) (bP q rfl rfl (aF (R_neqB Tryz.runUnderlying4 rfl rfl) (aF (bV (v:=zB ((p == ([116,97,117]:bB)) != (m == 0))) q rfl rfl) (aP (v:=zB ((p == ([116,97,117]:bB)) != (m == 0))) ?_)))))))))))
      rcases aJ d with ⟨r,d⟩|⟨r,d⟩
      ·exact bC r rfl rfl (bC r rfl rfl (bC r rfl rfl (fY (g:=52) rfl rfl (fY (g:=52) rfl rfl (fY (g:=52) rfl rfl (fY (g:=52) rfl rfl (fY (g:=52) rfl rfl (fY (g:=52) rfl rfl (fY (g:=52) rfl rfl (fY (g:=52) rfl rfl (bC r rfl rfl (aF (bO (v:=zB true) r rfl rfl) (aI ⟨true,d,a8,b1,b2,a3,rfl,a9⟩)))))))))))))
      ·refine bP r rfl rfl (aP (v:=i64 m) (bP r rfl rfl (aF (oM rfl rfl) (bP r rfl rfl (aP (v:=zB (decide (1 < m))) ?_)))))
       rcases aJ d with ⟨j,d⟩|⟨j,d⟩
       ·refine bU j rfl rfl (aP (v:=str p) (bU j rfl rfl (aF (bL (t':=2) eG a8 rfl) (bU j rfl rfl (aF (cC iT a9 (i:=0) rfl rfl rfl) (bU j rfl rfl (aP (v:=i64 m) (bU j rfl rfl (aF (kL rfl rfl) (bU j rfl rfl ?_))))))))))
        obtain ⟨b0,f1,d⟩:=aD d
        refine aF (dN cF rfl h3 rfl rfl rfl f1) ?_
        obtain ⟨m2,j5,j6⟩:=dB.el (sz:=1) rfl h3 f1
        cases j6
        exact bU j rfl rfl (aF (bK (t:=0) mV a9 j5 rfl rfl) (bU j rfl rfl (aF (R_leqS rfl rfl) (bP r rfl rfl (aF (bO (v:=zB (vU p b0||p == b0)) j rfl rfl) (aF (bV (v:=zB (vU p b0||p == b0)) r rfl rfl) (aI ⟨(vU p b0||p == b0),d,a8,b1,b2,a3,rfl,a9⟩)))))))
       ·exact bI j rfl rfl (bI j rfl rfl (bI j rfl rfl (bI j rfl rfl (bI j rfl rfl (bI j rfl rfl (bI j rfl rfl (bI j rfl rfl (bP r rfl rfl (aF (bV (v:=zB false) j rfl rfl) (aF (bV (v:=zB false) r rfl rfl) (aI ⟨false,d,a8,b1,b2,a3,rfl,a9⟩)))))))))))
    ·refine aL c8 rfl (cB (aV (aV ?_)))
     have j7:=e7 _ (zI d).symm
     subst j7
     have b:(uO t)=some R:=b
     exact bJ (aC ⟨b,a8,c7⟩)
 refine aS (aF (bL (t':=0) iZ rfl rfl) (aF (cC cV d3 (i:=0) rfl rfl rfl) ?_))
 obtain ⟨j8,j9,b⟩:=aD b
 refine aU (vs:=[i64 t.N,i64 1,i64 40]) Tryz.call77 rfl (uR d3 j9) ?_
 rintro _ m3 ⟨rfl,b4⟩
 refine aF (fC rfl) (aP (v:=zB (!j8)) ?_)
 rcases aJ b with ⟨u,b⟩|⟨u,b⟩
 ·exact bC u rfl rfl (bC u rfl rfl (bC u rfl rfl (bC u rfl rfl (bC u rfl rfl (aF (bO (v:=zB true) u rfl rfl) (aP (v:=zB true) (bC (rfl:true=true) rfl rfl (bC (rfl:true=true) rfl rfl (bC (rfl:true=true) rfl rfl (bC (rfl:true=true) rfl rfl (bC (rfl:true=true) rfl rfl (aF (bO (v:=zB true) (rfl:true=true) rfl rfl) (aP (v:=zB true) (bC (rfl:true=true) rfl rfl (bC (rfl:true=true) rfl rfl (bC (rfl:true=true) rfl rfl (bC (rfl:true=true) rfl rfl (aF (bO (v:=zB true) (rfl:true=true) rfl rfl) (aI ⟨true,b,rfl,rfl,b4⟩)))))))))))))))))))
 ·refine bP u rfl rfl (aF (dX (us:=y) dI b4 (i:=0) rfl rfl rfl rfl) (bP u rfl rfl (aF (bL (t':=1) sN rfl rfl) (bP u rfl rfl (aF (cC cV b4 (i:=0) rfl rfl rfl) (bP u rfl rfl ?_))))))
  obtain ⟨f2,k0,b⟩:=aD b
  refine aU (vs:=[zA (zCa t a1 c2 a4 c5),i64 t.I]) Tryz.call78 rfl (vM b4 h3 h6 k0) ?_
  rintro _ m4 ⟨rfl,d1⟩
  refine bP u rfl rfl (aF (fC rfl) (aF (bV (v:=zB (!f2)) u rfl rfl) (aP (v:=zB (!f2)) ?_)))
  rcases aJ b with ⟨x,b⟩|⟨x,b⟩
  ·exact bC x rfl rfl (bC x rfl rfl (bC x rfl rfl (bC x rfl rfl (bC x rfl rfl (aF (bO (v:=zB true) x rfl rfl) (aP (v:=zB true) (bC (rfl:true=true) rfl rfl (bC (rfl:true=true) rfl rfl (bC (rfl:true=true) rfl rfl (bC (rfl:true=true) rfl rfl (aF (bO (v:=zB true) (rfl:true=true) rfl rfl) (aI ⟨true,b,rfl,rfl,d1⟩))))))))))))
  ·refine bP x rfl rfl (aF (bL (t':=2) eG rfl rfl) (bP x rfl rfl (aF (cC iT d1 (i:=0) rfl rfl rfl) (bP x rfl rfl (aF (bN (len:=t.L.length) cF rfl) (bP x rfl rfl ?_))))))
   obtain ⟨f3,k1,b⟩:=aD b
   refine aU (vs:=[i64 (t.L.length:Int),i64 1,i64 12]) Tryz.call77 rfl (uR d1 k1) ?_
   rintro _ m5 ⟨rfl,d2⟩
   refine bP x rfl rfl (aF (fC rfl) (aF (bV (v:=zB (!f3)) x rfl rfl) (aP (v:=zB (!f3)) ?_)))
   rcases aJ b with ⟨J,b⟩|⟨J,b⟩
   ·exact bC J rfl rfl (bC J rfl rfl (bC J rfl rfl (bC J rfl rfl (aF (bO (v:=zB true) J rfl rfl) (aI ⟨true,b,rfl,rfl,d2⟩)))))
   ·exact bP J rfl rfl (aF (bL (t':=3) eR rfl rfl) (bP J rfl rfl (aF (cC lK d2 (i:=0) rfl rfl rfl) (bP J rfl rfl (aF (bN (len:=t.E.length) cK rfl) (bP J rfl rfl (aF (oM rfl rfl) (aF (bV (v:=zB (decide (300 < (t.E.length:Int)))) J rfl rfl) (aI ⟨decide (300 < (t.E.length:Int)),b,rfl,rfl,d2⟩)))))))))
theorem pF {c R:(List Edge)} (hs:aK G K (aN 63 K a1 c2 c::L) w) (d:eE c=some R):
  Calls Tryz.prog 169 ([zS a1 c.length c2]:List Value).toArray w (iK fun v w'=>∃ (c7:Option Addr) (c8:Nat),v=zS c7 R.length c8∧aK G K (aN 63 K c7 c8 R::L) w'):=by
 refine aX Tryz.func169 rfl (by kernel_rfl) (by show (1:Nat)≤61;decide) ?_
 unfold eE at d
 refine aM (aH (v:=zS none 0 0) (aI (aQ (aM (aP (v:=zS a1 c.length c2) (aF (bN (len:=c.length) cK rfl) (aF (cG rfl rfl) (aI ?_))))))))
 rcases aJ d with ⟨c3,d⟩|⟨c3,d⟩
 ·refine aO c3 rfl (aM (aP (v:=zS a1 c.length c2) (aH (v:=zS a1 c.length c2) (aI ?_))))
  obtain rfl:=zI d
  exact bH (aR (bF Tryz.results169 rfl ⟨a1,c2,rfl,hs⟩))
 ·refine aL c3 rfl (aY (aC (aQ (aM (aH (v:=i64 1) (aI (bE (fun f w=>eS c=some R∧f 0=zS a1 c.length c2∧aK G K (aN 63 K a1 c2 c::L) w) ?_ ?_)))))))
  ·rintro f w6 ⟨d,e5,f0⟩
   unfold eS at d
   refine aC (aM (aT e5 (aH (v:=zS a1 c.length c2) (aI ?_))))
   obtain rfl:=zI d
   exact bH (bF Tryz.results169 rfl ⟨a1,c2,rfl,f0⟩)
  obtain ⟨h6,f2,d⟩:=aD d
  refine cD f2 (fun (k:Int) f w=>f 0=zS a1 c.length c2∧f 3=i64 k∧aK G K (aN 63 K a1 c2 c::L) w) ?_ ?_
  ·exact ⟨rfl,rfl,hs⟩
  ·rintro k Z f h7 a c9 ⟨o,q,e⟩
   replace a:dG c k=some Z:=a
   unfold dG at a
   refine aQ (aM (aT q (aT o (aF (bN (len:=c.length) cK rfl) (aF (cG rfl rfl) (aI ?_))))))
   rcases aJ a with ⟨b3,a⟩|⟨b3,a⟩
   ·refine aO b3 rfl (aY (aC (aQ (bE (fun f w=>eT k=some Z∧f 0=zS a1 c.length c2∧f 3=i64 k∧aK G K (aN 63 K a1 c2 c::L) w) ?_ ?_))))
    ·rintro f h8 ⟨a,f3,f4,f5⟩
     unfold eT at a
     exact aC (aS (aT f4 (aF (cQ rfl rfl) (aH (v:=i64 (wr (k+1))) (aI ⟨wr (k+1),(zI a).symm,f3,rfl,f5⟩)))))
    refine aQ (dR (C:=fun w'=>aK G K (aN 63 K a1 c2 c::L) w') bT (by kernel_rfl) (aK.mono e (dQ.drew _)) (aW (fun _ e=>aZ o) (aW (fun _ e=>aZ q) ?_)))
    obtain ⟨a0,b4,a⟩:=aD a
    have r:=cY e (i:=0) rfl b4
    refine aW (fun _ e=>dW cK rfl r rfl rfl rfl b4) (aW (fun _ e=>tL (t:=0) (vs:=[i64 a0.F,i64 a0.B,i64 a0.To]) lU e (i:=0) rfl b4 rfl rfl rfl rfl) (aW (fun _ e=>aZ o) (aW (fun _ e=>aZ q) (aW (fun _ e=>kL rfl rfl) ?_))))
    obtain ⟨a2,d0,a⟩:=aD a
    refine aW (fun _ e=>dW cK rfl r rfl rfl rfl d0) (aW (fun _ e=>tL (t:=0) (vs:=[i64 a2.F,i64 a2.B,i64 a2.To]) lU e (i:=0) rfl d0 rfl rfl rfl rfl) (aW (fun _ e=>R_eqlG (eq_63 (x:=a0) (y:=a2)) rfl rfl) (eF (fun h9 b5=>(aC ?_)))))
    rcases aJ a with ⟨c45,a⟩|⟨c45,a⟩
    ·refine aO c45 rfl (aM (aT o (aT q ?_)))
     obtain ⟨J,a3,a⟩:=aD a
     have a4:=yP b5 (i:=0) rfl
     obtain ⟨b6,b7,a5⟩:=Cut.ex 3 a1 c2 k
     refine aF (aDs cK a4 a5 rfl rfl rfl a3) (aH (v:=zS b6 J.length b7) (aI (aQ (aM (aH (v:=i64 1) (aI (bE (fun f w=>∃ (a6:List Edge) (a7:Int),eU a6 a7=some Z∧f 0=zS a1 a6.length c2∧f 3=i64 a7∧aK G K (aN 63 K a1 c2 a6::L) w) ?_ ?_)))))))
     ·rintro f i0 ⟨a6,a7,a,d1,d2,d3⟩
      unfold eU at a
      refine aC (aM (aT d1 (aT d2 ?_)))
      obtain ⟨i1,f6,a⟩:=aD a
      have f7:=yP d3 (i:=0) rfl
      obtain ⟨i2,i3,d4⟩:=Cut.ex 3 a1 c2 a7
      refine aF (aDs cK f7 d4 rfl rfl rfl f6) ?_
      obtain ⟨d5,d6,a⟩:=aD a
      refine aFB cK mD rfl d3 (i:=0) rfl d4 rfl rfl d6 (fun d7 (d8:aK G K (aN 63 K a1 c2 d5::L) d7)=>(aI (aM (aT (v:=zS a1 d5.length c2) (Eq.trans d1 (congrArg (fun n=>zS a1 n c2) (aJr d6))) (aT d2 ?_)))))
      obtain ⟨b8,d9,a⟩:=aD a
      have f8:=yP d8 (i:=0) rfl
      obtain ⟨b9,c0,e0⟩:=Cut.ex 3 a1 c2 0
      refine aF (aJC cK f8 e0 rfl rfl rfl d9) (aH (v:=zS b9 b8.length c0) (aI (bH (bQ (aR (aR (aR ?_)))))))
      have f9:=c9 _ (zI a).symm
      subst f9
      have d:(some b8)=some R:=d
      have g0:aK G K (aN 63 K b9 c0 b8::L) d7:=aK.cutP d8 (i:=0) rfl d9 e0
      obtain rfl:=zI d
      exact bQ (aR (aR (bF Tryz.results169 rfl ⟨b9,c0,rfl,g0⟩)))
     obtain ⟨i4,g2,a⟩:=aD a
     refine cD g2 (fun (s:(List Edge × Int × Int)) f w=>match s with|(l,m,p)=>f 0=zS a1 l.length c2∧f 3=i64 m∧f 4=zS b6 J.length b7∧f 5=i64 p∧aK G K (aN 63 K a1 c2 l::L) w) ?_ ?_
     ·exact ⟨o,q,rfl,rfl,b5⟩
     ·rintro ⟨l,m,p⟩ e1 f i5 b g3 ⟨a8,a9,u,z,g⟩
      replace b:gJ k J l m p=some e1:=b
      unfold gJ at b
      refine aQ (aM (aT z (aT u (aF (bN (len:=J.length) cK rfl) (aF (cG rfl rfl) (aI ?_))))))
      rcases aJ b with ⟨c1,b⟩|⟨c1,b⟩
      ·refine aO c1 rfl (aY (aC (aQ (bE (fun f w=>∃ (V:List Edge) (b0:Int),eV p V b0=some e1∧f 0=zS a1 V.length c2∧f 3=i64 b0∧f 4=zS b6 J.length b7∧f 5=i64 p∧aK G K (aN 63 K a1 c2 V::L) w) ?_ ?_))))
       ·rintro f i6 ⟨V,b0,b,g4,g5,g6,g7,g8⟩
        unfold eV at b
        exact aC (aS (aT g7 (aF (cQ rfl rfl) (aH (v:=i64 (wr (p+1))) (aI ⟨(V,b0,wr (p+1)),(zI b).symm,g4,g5,g6,rfl,g8⟩)))))
       refine aQ (dR (C:=fun w'=>aK G K (aN 63 K a1 c2 l::L) w') bT (by kernel_rfl) (aK.mono g (dQ.drew _)) (aW (fun _ g=>aZ u) (aW (fun _ g=>aZ z) ?_)))
       obtain ⟨i7,e2,b⟩:=aD b
       obtain ⟨j,e3,b⟩:=aD b
       refine aW (fun _ g=>aET cK r a5 a3 a4 rfl rfl rfl e2 rfl) (aW (fun _ g=>tL (t:=0) (vs:=[i64 j.F,i64 j.B,i64 j.To]) lU g (i:=0) rfl e3 rfl rfl rfl rfl) (aW (fun _ g=>aZ u) (aW (fun _ g=>aZ z) (aW (fun _ g=>kL rfl rfl) ?_))))
       obtain ⟨i8,g9,b⟩:=aD b
       obtain ⟨b1,h0,b⟩:=aD b
       refine aW (fun _ g=>aET cK r a5 a3 a4 rfl rfl rfl g9 rfl) (aW (fun _ g=>tL (t:=0) (vs:=[i64 b1.F,i64 b1.B,i64 b1.To]) lU g (i:=0) rfl h0 rfl rfl rfl rfl) (aW (fun _ g=>R_neqG (eq_63 (x:=j) (y:=b1)) rfl rfl) (eF (fun i9 c4=>(aC ?_)))))
       rcases aJ b with ⟨c5,b⟩|⟨c5,b⟩
       ·refine aO c5 rfl (aM (aT a8 (aT a9 (aT u (aT z (aF (aET cK r a5 a3 a4 rfl rfl rfl e2 rfl) (aF (tL (t:=0) (vs:=[i64 j.F,i64 j.B,i64 j.To]) lU c4 (i:=0) rfl e3 rfl rfl rfl rfl) ?_)))))))
        obtain ⟨j0,e4,b⟩:=aD b
        refine aF (dW cK rfl r rfl rfl rfl e4) ?_
        obtain ⟨e6,e7,b⟩:=aD b
        exact mW (i:=0) (t:=0) (ns:=[i64 j.F,i64 j.B,i64 j.To]) (e':=(⟨j.F,j.B,j.To⟩:Edge)) Tryz.sizeOf63 c4 rfl (zR _) rfl rfl rfl e4 e7 rfl rfl (cX rfl) rfl (fun cs h=>by cases h;rfl) (fun h1 (h2:aK G K (aN 63 K a1 c2 e6::L) h1)=>(aI (aS (aT a9 (aF (cQ rfl rfl) (aH (v:=i64 (wr (m+1))) (bA (bG (aC ⟨e6,wr (m+1),b,(Eq.trans a8 (congrArg (fun n=>zS a1 n c2) (jP e7))),rfl,u,z,h2⟩)))))))))
       ·exact aL c5 rfl (aY (bG (aC ⟨l,m,b,a8,a9,u,z,c4⟩)))
      ·refine aL c1 rfl (cB (aV (aV ?_)))
       have h3:=g3 _ (zI b).symm
       subst h3
       have a:(eU l m)=some Z:=a
       exact bJ (aC ⟨l,m,a,a8,a9,g⟩)
    ·exact aL c45 rfl (aY (bG (aC ⟨a,o,q,b5⟩)))
   ·refine aL b3 rfl (cB (aV (aV ?_)))
    have h4:=c9 _ (zI a).symm
    subst h4
    have d:(eS c)=some R:=d
    exact bJ (aC ⟨d,o,e⟩)
theorem sF {c R:(List bB)} (hs:aK G K (aN 9 K a1 c2 c::L) w) (d:fJ c=some R):
  Calls Tryz.prog 189 ([zS a1 c.length c2]:List Value).toArray w (iK fun v w'=>∃ (b9:Option Addr) (c0:Nat),v=zS b9 R.length c0∧aK G K (aN 9 K b9 c0 R::L) w'):=by
 refine aX Tryz.func189 rfl (by kernel_rfl) (by show (1:Nat)≤61;decide) ?_
 unfold fJ at d
 refine aM (aH (v:=zS none 0 0) (aI (aQ (aM (aP (v:=zS a1 c.length c2) (aF (bN (len:=c.length) cF rfl) (aF (cG rfl rfl) (aI ?_))))))))
 rcases aJ d with ⟨c3,d⟩|⟨c3,d⟩
 ·refine aO c3 rfl (aM (aP (v:=zS a1 c.length c2) (aH (v:=zS a1 c.length c2) (aI ?_))))
  obtain rfl:=zI d
  exact bH (aR (bF Tryz.results189 rfl ⟨a1,c2,rfl,hs⟩))
 ·refine aL c3 rfl (aY (aC (aQ (aM (aH (v:=i64 1) (aI (bE (fun f w=>fV c=some R∧f 0=zS a1 c.length c2∧aK G K (aN 9 K a1 c2 c::L) w) ?_ ?_)))))))
  ·rintro f w6 ⟨d,e5,e4⟩
   unfold fV at d
   refine aC (aM (aT e5 (aH (v:=zS a1 c.length c2) (aI ?_))))
   obtain rfl:=zI d
   exact bH (bF Tryz.results189 rfl ⟨a1,c2,rfl,e4⟩)
  obtain ⟨h1,e7,d⟩:=aD d
  refine cD e7 (fun (j:Int) f w=>f 0=zS a1 c.length c2∧f 3=i64 j∧aK G K (aN 9 K a1 c2 c::L) w) ?_ ?_
  ·exact ⟨rfl,rfl,hs⟩
  ·rintro j z f h2 a c1 ⟨m,p,e⟩
   replace a:dV c j=some z:=a
   unfold dV at a
   refine aQ (aM (aT p (aT m (aF (bN (len:=c.length) cF rfl) (aF (cG rfl rfl) (aI ?_))))))
   rcases aJ a with ⟨a7,a⟩|⟨a7,a⟩
   ·refine aO a7 rfl (aY (aC (aQ (bE (fun f w=>fW j=some z∧f 0=zS a1 c.length c2∧f 3=i64 j∧aK G K (aN 9 K a1 c2 c::L) w) ?_ ?_))))
    ·rintro f h3 ⟨a,e8,e9,f0⟩
     unfold fW at a
     exact aC (aS (aT e9 (aF (cQ rfl rfl) (aH (v:=i64 (wr (j+1))) (aI ⟨wr (j+1),(zI a).symm,e8,rfl,f0⟩)))))
    refine aQ (dR (C:=fun w'=>aK G K (aN 9 K a1 c2 c::L) w') bT (by kernel_rfl) (aK.mono e (dQ.drew _)) (aW (fun _ e=>aZ m) (aW (fun _ e=>aZ p) ?_)))
    obtain ⟨h4,a8,a⟩:=aD a
    have q:=cY e (i:=0) rfl a8
    refine aW (fun _ e=>dW cF rfl q rfl rfl rfl a8) (aW (fun _ e=>jL (t:=0) mV e (i:=0) rfl a8 rfl rfl rfl) (aW (fun _ e=>aZ m) (aW (fun _ e=>aZ p) (aW (fun _ e=>kL rfl rfl) ?_))))
    obtain ⟨h5,c4,a⟩:=aD a
    refine aW (fun _ e=>dW cF rfl q rfl rfl rfl c4) (aW (fun _ e=>jL (t:=0) mV e (i:=0) rfl c4 rfl rfl rfl) (aW (fun _ e=>wN rfl rfl) (eF (fun h6 a9=>(aC ?_)))))
    rcases aJ a with ⟨c45,a⟩|⟨c45,a⟩
    ·refine aO c45 rfl (aM (aT m (aT p ?_)))
     obtain ⟨x,J,a⟩:=aD a
     have V:=yP a9 (i:=0) rfl
     obtain ⟨b0,b1,Z⟩:=Cut.ex 1 a1 c2 j
     refine aF (aDs cF V Z rfl rfl rfl J) (aH (v:=zS b0 x.length b1) (aI (aQ (aM (aH (v:=i64 1) (aI (bE (fun f w=>∃ (a0:List bB) (a2:Int),eP a0 a2=some z∧f 0=zS a1 a0.length c2∧f 3=i64 a2∧aK G K (aN 9 K a1 c2 a0::L) w) ?_ ?_)))))))
     ·rintro f h7 ⟨a0,a2,a,c5,c6,c7⟩
      unfold eP at a
      refine aC (aM (aT c5 (aT c6 ?_)))
      obtain ⟨h8,f1,a⟩:=aD a
      have f2:=yP c7 (i:=0) rfl
      obtain ⟨h9,i0,c8⟩:=Cut.ex 1 a1 c2 a2
      refine aF (aDs cF f2 c8 rfl rfl rfl f1) ?_
      obtain ⟨c9,d0,a⟩:=aD a
      refine aFB cF vJ rfl c7 (i:=0) rfl c8 rfl rfl d0 (fun d1 (d2:aK G K (aN 9 K a1 c2 c9::L) d1)=>(aI (aM (aT (v:=zS a1 c9.length c2) (Eq.trans c5 (congrArg (fun n=>zS a1 n c2) (aJr d0))) (aT c6 ?_)))))
      obtain ⟨b2,d3,a⟩:=aD a
      have f3:=yP d2 (i:=0) rfl
      obtain ⟨b3,b4,d4⟩:=Cut.ex 1 a1 c2 0
      refine aF (aJC cF f3 d4 rfl rfl rfl d3) (aH (v:=zS b3 b2.length b4) (aI (bH (bQ (aR (aR (aR ?_)))))))
      have f4:=c1 _ (zI a).symm
      subst f4
      have d:(some b2)=some R:=d
      have f5:aK G K (aN 9 K b3 b4 b2::L) d1:=aK.cutP d2 (i:=0) rfl d3 d4
      obtain rfl:=zI d
      exact bQ (aR (aR (bF Tryz.results189 rfl ⟨b3,b4,rfl,f5⟩)))
     obtain ⟨i1,f7,a⟩:=aD a
     refine cD f7 (fun (s:(List bB × Int × Int)) f w=>match s with|(k,l,o)=>f 0=zS a1 k.length c2∧f 3=i64 l∧f 4=zS b0 x.length b1∧f 5=i64 o∧aK G K (aN 9 K a1 c2 k::L) w) ?_ ?_
     ·exact ⟨m,p,rfl,rfl,a9⟩
     ·rintro ⟨k,l,o⟩ d5 f i2 b f8 ⟨a3,a4,r,u,g⟩
      replace b:dU j x k l o=some d5:=b
      unfold dU at b
      refine aQ (aM (aT u (aT r (aF (bN (len:=x.length) cF rfl) (aF (cG rfl rfl) (aI ?_))))))
      rcases aJ b with ⟨b5,b⟩|⟨b5,b⟩
      ·refine aO b5 rfl (aY (aC (aQ (bE (fun f w=>∃ (y:List bB) (a5:Int),eQ o y a5=some d5∧f 0=zS a1 y.length c2∧f 3=i64 a5∧f 4=zS b0 x.length b1∧f 5=i64 o∧aK G K (aN 9 K a1 c2 y::L) w) ?_ ?_))))
       ·rintro f i3 ⟨y,a5,b,f9,g0,g1,g2,g3⟩
        unfold eQ at b
        exact aC (aS (aT g2 (aF (cQ rfl rfl) (aH (v:=i64 (wr (o+1))) (aI ⟨(y,a5,wr (o+1)),(zI b).symm,f9,g0,g1,rfl,g3⟩)))))
       refine aQ (dR (C:=fun w'=>aK G K (aN 9 K a1 c2 k::L) w') bT (by kernel_rfl) (aK.mono g (dQ.drew _)) (aW (fun _ g=>aZ r) (aW (fun _ g=>aZ u) ?_)))
       obtain ⟨i4,d6,b⟩:=aD b
       obtain ⟨d7,d8,b⟩:=aD b
       refine aW (fun _ g=>aET cF q Z J V rfl rfl rfl d6 rfl) (aW (fun _ g=>jL (t:=0) mV g (i:=0) rfl d8 rfl rfl rfl) (aW (fun _ g=>aZ r) (aW (fun _ g=>aZ u) (aW (fun _ g=>kL rfl rfl) ?_))))
       obtain ⟨i5,g4,b⟩:=aD b
       obtain ⟨i6,g5,b⟩:=aD b
       refine aW (fun _ g=>aET cF q Z J V rfl rfl rfl g4 rfl) (aW (fun _ g=>jL (t:=0) mV g (i:=0) rfl g5 rfl rfl rfl) (aW (fun _ g=>aEq rfl rfl) (eF (fun i7 b6=>(aC ?_)))))
       rcases aJ b with ⟨b7,b⟩|⟨b7,b⟩
       ·refine aO b7 rfl (aM (aT a3 (aT a4 (aT r (aT u (aF (aET cF q Z J V rfl rfl rfl d6 rfl) (aF (jL (t:=0) mV b6 (i:=0) rfl d8 rfl rfl rfl) ?_)))))))
        obtain ⟨i8,d9,b⟩:=aD b
        refine aF (dW cF rfl q rfl rfl rfl d9) ?_
        obtain ⟨e0,e1,b⟩:=aD b
        exact mW (i:=0) (t:=0) (ns:=[str d7]) (e':=(d7:bB)) Tryz.sizeOf9 b6 rfl (zR _) rfl rfl rfl d9 e1 rfl rfl (cX rfl) rfl (fun cs h=>by cases h;rfl) (fun g6 (g7:aK G K (aN 9 K a1 c2 e0::L) g6)=>(aI (aS (aT a4 (aF (cQ rfl rfl) (aH (v:=i64 (wr (l+1))) (bA (bG (aC ⟨e0,wr (l+1),b,(Eq.trans a3 (congrArg (fun n=>zS a1 n c2) (jP e1))),rfl,r,u,g7⟩)))))))))
       ·exact aL b7 rfl (aY (bG (aC ⟨k,l,b,a3,a4,r,u,b6⟩)))
      ·refine aL b5 rfl (cB (aV (aV ?_)))
       have g8:=f8 _ (zI b).symm
       subst g8
       have a:(eP k l)=some z:=a
       exact bJ (aC ⟨k,l,a,a3,a4,g⟩)
    ·exact aL c45 rfl (aY (bG (aC ⟨a,m,p,a9⟩)))
   ·refine aL a7 rfl (cB (aV (aV ?_)))
    have g9:=c1 _ (zI a).symm
    subst g9
    have d:(fV c)=some R:=d
    exact bJ (aC ⟨d,m,e⟩)
theorem tP {d:(List bB)} {e:bB} {R:Int} (q:aK G K (L) w) (k:dB K a1 c2 d) (b:fQ d e=some R):
  Calls Tryz.prog 190 ([zS a1 d.length c2,str e]:List Value).toArray w (iK fun v w'=>v=i64 R∧aK G K (L) w'):=by
 refine aX Tryz.func190 rfl (by kernel_rfl) (by show (2:Nat)≤19;decide) ?_
 unfold fQ at b
 refine aM (aH (v:=i64 0) (aI (aQ (aM (aP (v:=zS a1 d.length c2) (aF (bN (len:=d.length) cF rfl) (aP (v:=i64 0) (aI (bE (fun f w=>gK=some R∧aK G K (L) w) ?_ ?_)))))))))
 ·rintro f w4 ⟨b,r⟩
  unfold gK at b
  refine aC (aM (aH (v:=i64 (-1)) (aI ?_)))
  obtain rfl:=zI b
  exact bH (bF Tryz.results190 rfl ⟨rfl,r⟩)
 obtain ⟨a3,x,b⟩:=aD b
 refine cD x (fun (c:Int) f w=>f 0=zS a1 d.length c2∧f 1=str e∧f 7=i64 (d.length:Int)∧f 8=i64 c∧aK G K (L) w) ?_ ?_
 ·exact ⟨rfl,rfl,rfl,rfl,q⟩
 ·rintro c y f a4 a l ⟨m,n,o,h,g⟩
  replace a:eA d e c=some y:=a
  unfold eA at a
  refine aM (aF (cG h o) (aI (aQ ?_)))
  rcases aJ a with ⟨i,a⟩|⟨i,a⟩
  ·refine aO i rfl (aY (aC (aQ (cW (aM (aT h (aH (v:=i64 c) (aI (aM (aT n (aT m (aP (v:=i64 c) ?_))))))))))))
   obtain ⟨a5,p,a⟩:=aD a
   refine aF (dN cF rfl k rfl rfl rfl p) ?_
   obtain ⟨a6,z,J⟩:=dB.el (sz:=1) rfl k p
   cases J
   refine aF (bK (t:=0) mV g z rfl rfl) (aF (wN rfl rfl) (aI ?_))
   rcases aJ a with ⟨j,a⟩|⟨j,a⟩
   ·refine aO j rfl (aM (aP (v:=i64 c) (aH (v:=i64 c) (aI (bH (bQ (aR (aR ?_))))))))
    have V:=l _ (zI a).symm
    subst V
    have b:(some c)=some R:=b
    obtain rfl:=zI b
    exact bQ (aR (aR (bF Tryz.results190 rfl ⟨rfl,g⟩)))
   ·exact aL j rfl (aY (bG (aC (aS (aF (cQ h rfl) (aP (v:=i64 (wr (c+1))) (aI ⟨wr (c+1),(zI a).symm,m,n,o,rfl,g⟩)))))))
  ·refine aL i rfl (cB (aV (aV ?_)))
   have a0:=l _ (zI a).symm
   subst a0
   have b:(gK)=some R:=b
   exact bJ (aC ⟨b,g⟩)
theorem sG {d e:Int} {labels:(List bB)} {arcs:(List iC)} {R:cN} (hs:aK G K (L) w) (h3:dB K a1 c2 labels) (h6:dB K a4 c5 arcs) (j:aDA d e labels arcs=some R):
  Calls Tryz.prog 118 ([i64 d,i64 e,zS a1 labels.length c2,zS a4 arcs.length c5]:List Value).toArray w (iK fun v w'=>∃ (c3:Option Addr) (c4:Nat) (c6:Option Addr) (c7:Nat),v=zA (zCa R c3 c4 c6 c7)∧aK G K (aN 9 K c3 c4 R.L::aN 63 K c6 c7 R.E::L) w'):=by
 let l:=zG
 refine aX Tryz.func118 rfl (by kernel_rfl) (by show (4:Nat)≤55;decide) ?_
 unfold aDA at j
 refine aM (bS (vs:=l) Tryz.zeroValue29 hs rfl (fun k w8 e8=>(aI (aM (aP (v:=i64 d) (aP (v:=i64 e) (cT (Kt:=K) (xs:=([([116,97,117]:bB)]:List bB)) (cs:=[str ([116,97,117]:bB)]) (vs:=[(0,str ([116,97,117]:bB))]) cF vJ rfl rfl e8 rfl (by kernel_rfl) rfl rfl rfl ⟨rfl,trivial⟩ (fun e9 f0 (f1:aK G K (aN 9 K e9 1 ([([116,97,117]:bB)]:List bB)::box k 29 l::L) f0)=>(aP (v:=zS a1 labels.length c2) ?_)))))))))
 obtain ⟨y,f2,j⟩:=aD j
 refine aCJ (i:=0) cF Tryz.underlying22 vJ rfl rfl f1 rfl (zR _) h3 f2 rfl rfl rfl rfl (fun n o f3 (f4:aK G K (aN 9 K n o y::box k 29 l::L) f3)=>(aF (fD (vs:=[(0,i64 d),(1,i64 e),(2,zS n y.length o)]) (cs:=[i64 d,i64 e,zS n y.length o,zS none 0 0]) tI rfl (by kernel_rfl)) (bS (vs:=l) Tryz.zeroValue29 f4 rfl (fun p k4 f5=>(bR (i:=0) (ns:=[i64 d,i64 e,zS n y.length o,zS none 0 0]) (us:=[i64 d,i64 e,zS n y.length o,zS none 0 0]) Tryz.sizeOf29 f5 rfl rfl rfl rfl rfl (cX rfl) rfl rfl (fun c8 (c9:aK G K (box p 29 [i64 d,i64 e,zS n y.length o,zS none 0 0]::aN 9 K n o y::box k 29 l::L) c8)=>(aI (aM (aF (bL (t':=2) eG rfl rfl) (aF (cC iT c9 (i:=0) rfl rfl rfl) ?_))))))))))
 have f6:aK G K (aN 9 K n o y::box p 29 [i64 d,i64 e,zS n y.length o,zS none 0 0]::box k 29 l::L) c8:=(aK.arr 2 [1,0] c9 rfl)
 obtain ⟨b2,f7,j⟩:=aD j
 refine aU (vs:=[zS n y.length o,Value.func (.func 188) #[] #[]]) Tryz.call187 rfl (lib_SortStr f6 f7) ?_
 rintro _ f8 ⟨rfl,f9,g0⟩
 have d0:aK G K (aN 9 K n o b2::box p 29 [i64 d,i64 e,zS n b2.length o,zS none 0 0]::box k 29 l::L) f8:=by rw [←f9];exact g0
 refine aI (aM (aF (bL (t':=2) eG rfl rfl) (aF (cC iT d0 (i:=1) rfl rfl rfl) ?_)))
 obtain ⟨a,g1,j⟩:=aD j
 refine aU (vs:=[zS n b2.length o]) Tryz.call189 rfl (sF d0 g1) ?_
 rintro _ k5 ⟨b,c,rfl,g2⟩
 refine aF (bL (t':=2) eG rfl rfl) (bR (i:=1) (ns:=[zS b a.length c]) (us:=[i64 d,i64 e,zS b a.length c,zS none 0 0]) Tryz.sizeOf22 g2 rfl rfl rfl rfl rfl (cX rfl) rfl rfl (fun g3 (g4:aK G K (aN 9 K b c a::box p 29 [i64 d,i64 e,zS b a.length c,zS none 0 0]::box k 29 l::L) g3)=>(aI (aQ (aM (aP (v:=zS a4 arcs.length c5) (aF (bN (len:=arcs.length) oQ rfl) (aP (v:=i64 0) (aI (bE (fun f w=>∃ (a8:List Edge) (J:Option Addr) (V:Nat),aCt d e a a8=some R∧f 8=zP (some ⟨k,0,none⟩)∧f 9=zP (some ⟨p,0,none⟩)∧aK G K (aN 63 K J V a8::aN 9 K b c a::box p 29 [i64 d,i64 e,zS b a.length c,zS J a8.length V]::box k 29 l::L) w) ?_ ?_))))))))))
 ·rintro f k6 ⟨a8,J,V,j,d1,b1,d2⟩
  unfold aCt at j
  refine aC (aM (aF (bL (t':=3) eR b1 rfl) (aF (cC lK d2 (i:=2) rfl rfl rfl) ?_)))
  obtain ⟨b3,g5,j⟩:=aD j
  refine aU (vs:=[zS J a8.length V,Value.func (.func 81) #[] #[]]) Tryz.call85 rfl (lib_SortEdge d2 g5) ?_
  rintro _ g6 ⟨rfl,g7,g8⟩
  have d3:aK G K (aN 63 K J V b3::aN 9 K b c a::box p 29 [i64 d,i64 e,zS b a.length c,zS J b3.length V]::box k 29 l::L) g6:=by rw [←g7];exact g8
  refine aI (aM (aF (bL (t':=3) eR b1 rfl) (aF (cC lK d3 (i:=2) rfl rfl rfl) ?_)))
  obtain ⟨u,g9,j⟩:=aD j
  refine aU (vs:=[zS J b3.length V]) Tryz.call169 rfl (pF d3 g9) ?_
  rintro _ k7 ⟨q,r,rfl,h0⟩
  refine aF (bL (t':=3) eR b1 rfl) (bR (i:=2) (ns:=[zS q u.length r]) (us:=[i64 d,i64 e,zS b a.length c,zS q u.length r]) Tryz.sizeOf27 h0 rfl rfl rfl rfl rfl (cX rfl) rfl rfl (fun h1 (d4:aK G K (aN 63 K q r u::aN 9 K b c a::box p 29 [i64 d,i64 e,zS b a.length c,zS q u.length r]::box k 29 l::L) h1)=>(aI (aM (aF (dX (us:=[i64 d,i64 e,zS b a.length c,zS q u.length r]) dI d4 (i:=2) rfl b1 rfl rfl) (bR (i:=3) (ns:=[i64 d,i64 e,zS b a.length c,zS q u.length r]) (us:=[i64 d,i64 e,zS b a.length c,zS q u.length r]) Tryz.sizeOf29 d4 rfl d1 rfl rfl rfl (cX rfl) rfl rfl (fun h2 (d5:aK G K (aN 63 K q r u::aN 9 K b c a::box p 29 [i64 d,i64 e,zS b a.length c,zS q u.length r]::box k 29 [i64 d,i64 e,zS b a.length c,zS q u.length r]::L) h2)=>(aI ?_))))))))
  obtain rfl:=zI j
  exact bH (aBK Tryz.results118 (dZ (vs:=[i64 d,i64 e,zS b a.length c,zS q u.length r]) rfl dI d5 (i:=3) rfl d1 rfl) ⟨b,c,q,r,rfl,(aK.arr 4 [1,0] d5 rfl)⟩)
 have h5:=aK.nil (α:=Edge) g4 63 K
 obtain ⟨k8,h7,j⟩:=aD j
 refine cD h7 (fun (s:(List Edge × Int)) f w=>match s with|(z,a9)=>∃ (Z:Option Addr) (a0:Nat),f 8=zP (some ⟨k,0,none⟩)∧f 9=zP (some ⟨p,0,none⟩)∧f 25=zS a4 arcs.length c5∧f 26=i64 (arcs.length:Int)∧f 27=i64 a9∧aK G K (aN 63 K Z a0 z::aN 9 K b c a::box p 29 [i64 d,i64 e,zS b a.length c,zS Z z.length a0]::box k 29 l::L) w) ?_ ?_
 ·exact ⟨none,0,rfl,rfl,rfl,rfl,rfl,h5⟩
 ·rintro ⟨z,a9⟩ h8 f k9 m h9 ⟨Z,a0,d6,b0,d7,d8,b4,b5⟩
  replace m:xN arcs a z a9=some h8:=m
  unfold xN at m
  refine aM (aF (cG b4 d8) (aI (aQ ?_)))
  rcases aJ m with ⟨b6,m⟩|⟨b6,m⟩
  ·refine aO b6 rfl (aY (aC (aQ (cW (aM ?_)))))
   obtain ⟨g,d9,m⟩:=aD m
   refine aF (dN oQ rfl h6 d7 rfl b4 d9) ?_
   obtain ⟨l0,i0,i1⟩:=dB.el (sz:=3) rfl h6 d9
   cases i1
   refine aF (fZ (t:=0) (vs:=[i64 g.from_,str g.label,i64 g.to_]) ag_160 b5 i0 rfl rfl rfl) (bS (vs:=[i64 0,str ([]:bB),i64 0]) Tryz.zeroValue160 b5 rfl (fun e0 l1 i2=>(bR (i:=0) (ns:=[i64 g.from_,str g.label,i64 g.to_]) (us:=[i64 g.from_,str g.label,i64 g.to_]) Tryz.sizeOf160 i2 rfl rfl rfl rfl rfl (cX rfl) rfl rfl (fun i3 (i4:aK G K (box e0 160 [i64 g.from_,str g.label,i64 g.to_]::aN 63 K Z a0 z::aN 9 K b c a::box p 29 [i64 d,i64 e,zS b a.length c,zS Z z.length a0]::box k 29 l::L) i3)=>(aI ?_)))))
   obtain ⟨l2,b8,b9,i5,i6⟩:=aK.lendB (i:=0) i4 rfl
   obtain ⟨c0,a2,e1,e2,i7⟩:=aK.lendB (i:=2) i5 rfl
   refine gA (C:=fun w'=>∃ L',aK G c0 L' w') [(0,0),(1,0),(2,0),(3,0),(4,0),(5,0),(6,0),(7,0),(9,0),(10,0),(8,1),(11,0),(12,1),(13,1),(14,0),(15,2)] bT (by kernel_rfl) (fun _ hg=>⟨_,aK.mono e2 hg⟩) (fun l3 i8=>?_)
   have x:=aK.mono e2 i8
   refine bZ rfl (fun _ _=>bL (t':=3) eR b0 rfl) (bZ rfl (fun _ ⟨_,x⟩=>bK (t:=3) lK x e1 rfl rfl) (bZ rfl (fun _ _=>bL (t':=0) fa_160_0 rfl rfl) (bZ rfl (fun _ ⟨_,x⟩=>bK (t:=0) cV x (b9.mono a2) rfl rfl) (bZ rfl (fun _ _=>bL (t':=2) eG b0 rfl) (bZ rfl (fun _ ⟨_,x⟩=>bK (t:=2) iT x e1 rfl rfl) (bZ rfl (fun _ _=>bL (t':=1) aKI rfl rfl) (bZ rfl (fun _ ⟨_,x⟩=>bK (t:=1) mV x (b9.mono a2) rfl rfl) (bZ rfl (fun _ _=>bL (t':=2) fa_160_2 rfl rfl) (bZ rfl (fun _ ⟨_,x⟩=>bK (t:=2) cV x (b9.mono a2) rfl rfl) (kD rfl ?_))))))))))
   obtain ⟨l4,l5,i9,j0,j1⟩:=aK.lendS (i:=1) x (zL b8 a2) rfl
   obtain ⟨a3,j2,m⟩:=aD m
   refine aU (vs:=[zS b a.length c,str g.label]) Tryz.call190 rfl (tP j0 i9 j2) ?_
   rintro _ l6 ⟨rfl,j3⟩
   have e3:=j1 _ _ j3
   refine bA (aC ⟨⟨_,e3⟩,?_⟩)
   refine bZ rfl (fun _ _=>fD (vs:=[(0,i64 g.from_),(1,i64 a3),(2,i64 g.to_)]) (cs:=[i64 g.from_,i64 a3,i64 g.to_]) aHb rfl (by kernel_rfl)) (kD rfl (cT (Kt:=K) (xs:=([⟨g.from_,a3,g.to_⟩]:List Edge)) (cs:=[i64 g.from_,i64 a3,i64 g.to_]) (vs:=[(0,zA #[i64 g.from_,i64 a3,i64 g.to_])]) cK mD rfl rfl e3 rfl (by kernel_rfl) rfl rfl rfl ⟨rfl,trivial⟩ (fun j4 j5 (e4:aK G c0 (aN 63 K j4 1 ([⟨g.from_,a3,g.to_⟩]:List Edge)::aN 9 K b c a::aN 63 K Z a0 z::box k 29 l::L) j5)=>(bA (aC ⟨⟨_,e4⟩,?_⟩)))))
   refine kD rfl ?_
   obtain ⟨a5,j6,m⟩:=aD m
   refine eI (i:=1) cK Tryz.underlying27 mD rfl rfl e4 rfl (zL b8 a2) (zL b8 a2) j6 rfl rfl rfl rfl (fun _ h=>h) (fun a6 a7 j7 (e5:aK G c0 (aN 9 K b c a::aN 63 K a6 a7 a5::box k 29 l::L) j7)=>(bA (aC ⟨⟨_,e5⟩,?_⟩)))
   refine bZ rfl (fun _ _=>bL (t':=3) eR b0 rfl) ?_
   have j8:=i7 _ _ e5
   have j9:=i6 _ _ j8
   exact aFy rfl (bR (i:=1) (ns:=[zS a6 a5.length a7]) (us:=[i64 d,i64 e,zS b a.length c,zS a6 a5.length a7]) Tryz.sizeOf27 j9 rfl rfl rfl rfl rfl (cX rfl) rfl rfl (fun k0 (k1:aK G K (box e0 160 [i64 g.from_,str g.label,i64 g.to_]::box p 29 [i64 d,i64 e,zS b a.length c,zS a6 a5.length a7]::aN 9 K b c a::aN 63 K a6 a7 a5::box k 29 l::L) k0)=>(aI (lY (bG (aC (aS (aF (cQ b4 rfl) (aP (v:=i64 (wr (a9+1))) (aI ⟨(a5,wr (a9+1)),(zI m).symm,a6,a7,d6,b0,d7,d8,rfl,(aK.arr 4 [3,2,1] k1 rfl)⟩))))))))))
  ·refine aL b6 rfl (cB (aV (aV ?_)))
   have k2:=h9 _ (zI m).symm
   subst k2
   have j:(aCt d e a z)=some R:=j
   exact bJ (aC ⟨z,Z,a0,j,d6,b0,b5⟩)
theorem vE {arcs:(List iC)} {R:(List bB)} (hs:aK G K (L) w) (y:dB K a1 c2 arcs) (c:yG arcs=some R):
  Calls Tryz.prog 182 ([zS a1 arcs.length c2]:List Value).toArray w (iK fun v w'=>∃ (z:Option Addr) (J:Nat),v=zS z R.length J∧aK G K (aN 9 K z J R::L) w'):=by
 refine aX Tryz.func182 rfl (by kernel_rfl) (by show (1:Nat)≤19;decide) ?_
 unfold yG at c
 refine aM (aH (v:=zS none 0 0) (aI (aM (aH (v:=zS none 0 0) (aI (aQ (aM (aP (v:=zS a1 arcs.length c2) (aF (bN (len:=arcs.length) oQ rfl) (aP (v:=i64 0) (aI (bE (fun f w=>∃ (j:List bB) (k:Option Addr) (l:Nat),yZ j=some R∧f 3=zS k j.length l∧aK G K (aN 9 K k l j::L) w) ?_ ?_))))))))))))
 ·rintro f w8 ⟨j,k,l,c,e7,a7⟩
  unfold yZ at c
  refine aC (aM (aT e7 (aH (v:=zS k j.length l) (aI ?_))))
  obtain rfl:=zI c
  exact bH (bF Tryz.results182 rfl ⟨k,l,rfl,a7⟩)
 have a9:=aK.nil (α:=bB) hs 9 K
 obtain ⟨c7,b0,c⟩:=aD c
 refine cD b0 (fun (s:(List bB × Int)) f w=>match s with|(d,m)=>∃ (e:Option Addr) (g:Nat),f 3=zS e d.length g∧f 6=zS a1 arcs.length c2∧f 7=i64 (arcs.length:Int)∧f 8=i64 m∧aK G K (aN 9 K e g d::L) w) ?_ ?_
 ·exact ⟨none,0,rfl,rfl,rfl,rfl,a9⟩
 ·rintro ⟨d,m⟩ b1 f c8 b b2 ⟨e,g,V,Z,a0,n,o⟩
  replace b:qX arcs d m=some b1:=b
  unfold qX at b
  refine aM (aF (cG n a0) (aI (aQ ?_)))
  rcases aJ b with ⟨p,b⟩|⟨p,b⟩
  ·refine aO p rfl (aY (aC (aQ (cW (aM ?_)))))
   obtain ⟨a,a2,b⟩:=aD b
   refine aF (dN oQ rfl y Z rfl n a2) ?_
   obtain ⟨c9,b3,b4⟩:=dB.el (sz:=3) rfl y a2
   cases b4
   refine aF (fZ (t:=0) (vs:=[i64 a.from_,str a.label,i64 a.to_]) ag_160 o b3 rfl rfl rfl) (bS (vs:=[i64 0,str ([]:bB),i64 0]) Tryz.zeroValue160 o rfl (fun q d0 b5=>(bR (i:=0) (ns:=[i64 a.from_,str a.label,i64 a.to_]) (us:=[i64 a.from_,str a.label,i64 a.to_]) Tryz.sizeOf160 b5 rfl rfl rfl rfl rfl (cX rfl) rfl rfl (fun b6 (a3:aK G K (box q 160 [i64 a.from_,str a.label,i64 a.to_]::aN 9 K e g d::L) b6)=>(aI (aS (aT V (aF (bL (t':=1) aKI rfl rfl) (aF (cC mV a3 (i:=0) rfl rfl rfl) (cT (Kt:=K) (xs:=([a.label]:List bB)) (cs:=[str a.label]) (vs:=[(0,str a.label)]) cF vJ rfl rfl a3 rfl (by kernel_rfl) rfl rfl rfl ⟨rfl,trivial⟩ (fun b7 b8 (b9:aK G K (aN 9 K b7 1 ([a.label]:List bB)::box q 160 [i64 a.from_,str a.label,i64 a.to_]::aN 9 K e g d::L) b8)=>?_)))))))))))
   obtain ⟨r,c0,b⟩:=aD b
   exact eI (i:=1) cF Tryz.underlying22 vJ rfl rfl b9 rfl (zR _) (zR _) c0 rfl rfl rfl rfl (fun _ h=>h) (fun u x c1 (c3:aK G K (box q 160 [i64 a.from_,str a.label,i64 a.to_]::aN 9 K u x r::L) c1)=>(aH (v:=zS u r.length x) (bA (bG (aC (aS (aF (cQ n rfl) (aP (v:=i64 (wr (m+1))) (aI ⟨(r,wr (m+1)),(zI b).symm,u,x,rfl,Z,a0,rfl,(aK.arr 1 [] c3 rfl)⟩)))))))))
  ·refine aL p rfl (cB (aV (aV ?_)))
   have c4:=b2 _ (zI b).symm
   subst c4
   have c:(yZ d)=some R:=c
   exact bJ (aC ⟨d,e,g,c,V,o⟩)
theorem vN {d:(List Int)} {e R:Int} (q:aK G K (L) w) (k:dB K a1 c2 d) (b:gG d e=some R):
  Calls Tryz.prog 83 ([zS a1 d.length c2,i64 e]:List Value).toArray w (iK fun v w'=>v=i64 R∧aK G K (L) w'):=by
 refine aX Tryz.func83 rfl (by kernel_rfl) (by show (2:Nat)≤19;decide) ?_
 unfold gG at b
 refine aM (aH (v:=i64 0) (aI (aQ (aM (aP (v:=zS a1 d.length c2) (aF (bN (len:=d.length) bY rfl) (aP (v:=i64 0) (aI (bE (fun f w=>gZ=some R∧aK G K (L) w) ?_ ?_)))))))))
 ·rintro f w4 ⟨b,r⟩
  unfold gZ at b
  refine aC (aM (aH (v:=i64 (-1)) (aI ?_)))
  obtain rfl:=zI b
  exact bH (bF Tryz.results83 rfl ⟨rfl,r⟩)
 obtain ⟨a3,x,b⟩:=aD b
 refine cD x (fun (c:Int) f w=>f 0=zS a1 d.length c2∧f 1=i64 e∧f 7=i64 (d.length:Int)∧f 8=i64 c∧aK G K (L) w) ?_ ?_
 ·exact ⟨rfl,rfl,rfl,rfl,q⟩
 ·rintro c y f a4 a l ⟨m,n,o,h,g⟩
  replace a:eJ d e c=some y:=a
  unfold eJ at a
  refine aM (aF (cG h o) (aI (aQ ?_)))
  rcases aJ a with ⟨i,a⟩|⟨i,a⟩
  ·refine aO i rfl (aY (aC (aQ (cW (aM (aT h (aH (v:=i64 c) (aI (aM (aT n (aT m (aP (v:=i64 c) ?_))))))))))))
   obtain ⟨a5,p,a⟩:=aD a
   refine aF (dN bY rfl k rfl rfl rfl p) ?_
   obtain ⟨a6,z,J⟩:=dB.el (sz:=1) rfl k p
   cases J
   refine aF (bK (t:=0) cV g z rfl rfl) (aF (oN rfl rfl) (aI ?_))
   rcases aJ a with ⟨j,a⟩|⟨j,a⟩
   ·refine aO j rfl (aM (aP (v:=i64 c) (aH (v:=i64 c) (aI (bH (bQ (aR (aR ?_))))))))
    have V:=l _ (zI a).symm
    subst V
    have b:(some c)=some R:=b
    obtain rfl:=zI b
    exact bQ (aR (aR (bF Tryz.results83 rfl ⟨rfl,g⟩)))
   ·exact aL j rfl (aY (bG (aC (aS (aF (cQ h rfl) (aP (v:=i64 (wr (c+1))) (aI ⟨wr (c+1),(zI a).symm,m,n,o,rfl,g⟩)))))))
  ·refine aL i rfl (cB (aV (aV ?_)))
   have a0:=l _ (zI a).symm
   subst a0
   have b:(gZ)=some R:=b
   exact bJ (aC ⟨b,g⟩)
end Gv
