/- Walks, printed by program. -/
import Derived.Test.YtlehiakgdejgkaaGreatDoorJWk1
import Derived.Test.YtlehiakgdejgkaaGreatDoorJWk3
import Derived.Test.YtlehiakgdejgkaaGreatDoorJT
set_option linter.all false
namespace Gv
open Go.Value renaming slice→zS,bool→zB,agg→zA
open Option.some renaming inj→zI
open Gv.Hp renaming le_trans→zL,le_refl→zR
open Go Go.Proofs Go.Proofs.Tryz
set_option maxRecDepth 20000
set_option maxHeartbeats 40000000
variable {G:Env} {K:Hp} {L:List iI} {w:World} {b1 c3 c2 c5 c8 c11:Nat} {a2 a1 a4 a7 a10:Option Addr}
theorem aEG {j:(List UInt8)} {d7 d8:Int} {R:(aS × aS × Int × Int)} (hm:zW j d7 d8=some R) (hs:aD G K (box b1 89 [zS a2 j.length c3,i64 d7,Value.int .u64 d8]::L) w) (Z:aW K a2 c3 j):
  Calls Tryz.prog 15 ([Value.pointer (some ⟨b1,0,none⟩)]:List Value).toArray w (dS fun v w'=>∃ f9 g0 g1 g2 g3 g4 g5 g6,v=Value.tuple #[zA (zCa R.1 f9 g0 g1 g2),zA (zCa R.2.1 g3 g4 g5 g6)]/\aD G K (aH 9 K f9 g0 R.1.L::aH 52 K g1 g2 R.1.E::aH 9 K g3 g4 R.2.1.L::aH 52 K g5 g6 R.2.1.E::box b1 89 [zS a2 j.length c3,i64 R.2.2.1,Value.int .u64 R.2.2.2]::L) w'):=by
 let c:=zG
 refine cM func15 ?_;unfold zW at hm
 refine aF ?_;refine iN fun n w6 t7=>?_
 refine iN fun o w9 t8=>?_;refine aF ?_
 have i5:aD G K (box b1 89 [zS a2 j.length c3,i64 d7,Value.int .u64 d8]::box o 27 c::box n 27 c::L) w9:=lY
 obtain ⟨u,i6,hm⟩:=aB hm
 refine cC call38 (aId i6 i5 Z) ?_
 rintro _ t9 ⟨d9,e0,e1,e2,rfl,u0⟩
 refine iN fun p u1 u2=>?_;refine gM fun i7 u3=>?_
 iterate 2 refine cE ?_
 refine mZ [0,2,3,4] (fun f w=>∃ c1 c2 k l a b d e g h,oJ j c1 c2 k l a b=some R/\aD G K (aH 52 K g h b::aH 9 K d e a::box p 27 [i64 k,i64 l,zS d a.length e,zS g b.length h]::box b1 89 [zS a2 j.length c3,i64 c1,Value.int .u64 c2]::box o 27 c::box n 27 c::L) w) ?_ ?_
 ·rintro f i8 ⟨c1,c2,k,l,a,b,d,e,g,h,hm,u4⟩
  unfold oJ at hm
  refine aF ?_
  have i9:aD G K (box b1 89 [zS a2 j.length c3,i64 c1,Value.int .u64 c2]::aH 52 K g h b::aH 9 K d e a::box p 27 [i64 k,i64 l,zS d a.length e,zS g b.length h]::box o 27 c::box n 27 c::L) i8:=lY
  obtain ⟨m,j0,hm⟩:=aB hm
  refine cC call41 (aCc j0 i9 Z) ?_
  rintro _ u5 ⟨c4,c5,c6,c7,rfl,u6⟩
  refine iN fun z u7 u8=>?_;refine gM fun u9 j1=>?_
  iterate 2 refine cE ?_
  refine mZ [0,2,3,4,5] (fun f w=>∃ c8 c9 b0 b2 a4 a5 b3 b4 b6 b7,lQ j k l a b c8 c9 b0 b2 a4 a5=some R/\aD G K (aH 52 K b6 b7 a5::aH 9 K b3 b4 a4::box z 27 [i64 b0,i64 b2,zS b3 a4.length b4,zS b6 a5.length b7]::box b1 89 [zS a2 j.length c3,i64 c8,Value.int .u64 c9]::aH 52 K g h b::aH 9 K d e a::box p 27 [i64 k,i64 l,zS d a.length e,zS g b.length h]::box o 27 c::box n 27 c::L) w) ?_ ?_
  ·rintro f j2 ⟨c8,c9,b0,b2,a4,a5,b3,b4,b6,b7,hm,v0⟩
   unfold lQ at hm
   refine mZ [0,2,3,4,5] (fun f w=>∃ e3 e4 J V q a0 x y a1 a3,lP j k l a b e3 e4 J V q a0=some R/\aD G K (aH 52 K a1 a3 a0::aH 9 K x y q::box z 27 [i64 J,i64 V,zS x q.length y,zS a1 a0.length a3]::box b1 89 [zS a2 j.length c3,i64 e3,Value.int .u64 e4]::aH 52 K g h b::aH 9 K d e a::box p 27 [i64 k,i64 l,zS d a.length e,zS g b.length h]::box o 27 c::box n 27 c::L) w) ?_ ?_
   ·rintro f v1 ⟨e3,e4,J,V,q,a0,x,y,a1,a3,hm,v2⟩
    unfold lP at hm
    refine mZ [0,2,3,4,5] (fun f w=>∃ e5 e6 a6 d0 d1,oG j k l a b J V q e5 e6 a6=some R/\aD G K (aH 52 K d0 d1 a6::aH 9 K x y q::box z 27 [i64 J,i64 V,zS x q.length y,zS d0 a6.length d1]::box b1 89 [zS a2 j.length c3,i64 e5,Value.int .u64 e6]::aH 52 K g h b::aH 9 K d e a::box p 27 [i64 k,i64 l,zS d a.length e,zS g b.length h]::box o 27 c::box n 27 c::L) w) ?_ ?_
    ·rintro f v3 ⟨e5,e6,a6,d0,d1,hm,j3⟩
     unfold oG at hm
     refine aF ?_;obtain ⟨v4,e7,j4,j5,v5⟩:=aD.lendBp j3 (.tail (.tail .head))
     obtain ⟨v6,d2,v7,v8,v9⟩:=aD.lendBp j5 (.tail (.tail (.tail (.tail (.tail .head)))))
     refine wI [(0,0),(1,0),(2,1),(3,1),(4,1),(5,2)] fun w0 e8=>?_;refine aF ?_
     refine eQ rfl (aM (nA (t:=0) (vs:=[i64 J,i64 V,zS x q.length y,zS d0 a6.length d1]) mS e8 (j4.mono d2) rfl rfl rfl) (aL (aC ⟨⟨_,e8⟩,?_⟩)))
     refine eQ rfl ?_;obtain ⟨w1,g7,j6,j7,w2⟩:=aD.lendSp e8 (zL e7 d2) (.tail .head)
     obtain ⟨w3,g8,j8,j9,k0⟩:=aD.lendSp j7 (zL (zL e7 d2) g7) .head
     obtain ⟨w4,k1,hm⟩:=aB hm
     refine cC call46 (aIc (t:=⟨J,V,q,a6⟩) k1 j9 (Z.mono (zL (zL (zL e7 d2) g7) g8)) (j6.mono g8) j8) ?_
     rintro _ w5 ⟨w7,w8,x0,x1,rfl,k2⟩
     have x2:=k0 _ _ k2
     exact aI
    iterate 1 refine cE ?_
    refine aY [0,2,3,4,5] (fun f w=>∃ d3 d4 e9,oH j k l a b J V q a0 d3 d4 e9=some R/\f 67=zB e9/\aD G K (aH 52 K a1 a3 a0::aH 9 K x y q::box z 27 [i64 J,i64 V,zS x q.length y,zS a1 a0.length a3]::box b1 89 [zS a2 j.length c3,i64 d3,Value.int .u64 d4]::aH 52 K g h b::aH 9 K d e a::box p 27 [i64 k,i64 l,zS d a.length e,zS g b.length h]::box o 27 c::box n 27 c::L) w) ?_ ?_
    ·rintro f k3 ⟨d3,d4,e9,hm,x3,x4⟩
     unfold oH at hm
     refine aF ?_
     rcases aG hm with ⟨k4,hm⟩|⟨k4,hm⟩
     ·refine aF ?_
      have k5:aD G K (box b1 89 [zS a2 j.length c3,i64 d3,Value.int .u64 d4]::aH 52 K a1 a3 a0::aH 9 K x y q::box z 27 [i64 J,i64 V,zS x q.length y,zS a1 a0.length a3]::aH 52 K g h b::aH 9 K d e a::box p 27 [i64 k,i64 l,zS d a.length e,zS g b.length h]::box o 27 c::box n 27 c::L) k3:=lY
      obtain ⟨f0,k6,hm⟩:=aB hm
      refine cC call43 (bM k6 k5 Z) ?_
      rintro _ x5 ⟨rfl,k7⟩
      refine aF ?_;obtain ⟨k8,x6,x7,x8,k9⟩:=aD.lendBp k7 (.tail (.tail (.tail .head)))
      refine wI [(0,0),(1,0),(2,0),(3,0),(4,0),(5,0),(6,0),(7,0),(8,0),(9,1),(10,0),(11,2)] fun x9 f1=>?_;refine aF ?_
      obtain ⟨y0,g9,hm⟩:=aB hm
      have l0:=pS f1 (i:=1) rfl
      obtain ⟨y1,y2,h0⟩:=Cut.ex 3 a1 a3 0
      refine cI rfl (fun _ _=>aHF iY l0 h0 rfl rfl rfl g9) (aF ?_);obtain ⟨y3,h1,hm⟩:=aB hm
      have l1:=pS f1 (i:=1) rfl
      obtain ⟨y4,y5,h2⟩:=Cut.ex 3 a1 a3 (wr (f0.1+1))
      refine cI rfl (fun _ _=>aBb iY l1 h2 rfl rfl rfl h1) (eQ rfl ?_);obtain ⟨l2,l3,hm⟩:=aB hm
      refine WO_appV (i:=1) iY underlying25 aHH rfl rfl f1 rfl g9 h0 h1 h2 l3 rfl rfl rfl rfl (fun l4 l5 l6 (h3:aD G k8 (box b1 89 [zS a2 j.length c3,i64 f0.2.1,Value.int .u64 f0.2.2]::aH 52 K l4 l5 l2::aH 9 K x y q::aH 52 K g h b::aH 9 K d e a::box p 27 [i64 k,i64 l,zS d a.length e,zS g b.length h]::box o 27 c::box n 27 c::L) l6)=>(aL (aC ⟨⟨_,h3⟩,?_⟩)))
      refine aF ?_
      have y6:=k9 _ _ h3
      exact aI
     ·exact aI
    exact aI
   refine aF ?_
   have l7:aD G K (box b1 89 [zS a2 j.length c3,i64 c8,Value.int .u64 c9]::aH 52 K b6 b7 a5::aH 9 K b3 b4 a4::box z 27 [i64 b0,i64 b2,zS b3 a4.length b4,zS b6 a5.length b7]::aH 52 K g h b::aH 9 K d e a::box p 27 [i64 k,i64 l,zS d a.length e,zS g b.length h]::box o 27 c::box n 27 c::L) j2:=lY
   obtain ⟨y7,l8,hm⟩:=aB hm
   refine cC call39 (qZ l8 l7 Z) ?_
   rintro _ y8 ⟨rfl,l9⟩
   refine aF ?_
   rcases aG hm with ⟨m0,hm⟩|⟨m0,hm⟩
   ·refine aF ?_;obtain ⟨y9,m1,m2,m3,m4⟩:=aD.lendSp l9 (zR _) (.tail (.tail .head))
    obtain ⟨z0,m5,m6,m7,m8⟩:=aD.lendSp m3 m1 (.tail .head)
    obtain ⟨z1,h5,m9,n0,n1⟩:=aD.lendBp m7 (.tail .head)
    obtain ⟨z2,n2,hm⟩:=aB hm
    refine cC call45 (aIb (t:=⟨b0,b2,a4,a5⟩) n2 n0 m9 (m2.mono (zL m5 h5)) (m6.mono h5)) ?_
    rintro _ z3 ⟨z4,z5,z6,z7,z8,z9,a00,rfl,a01,n3⟩
    have n4:=n1 _ _ n3
    have n5:=m8 _ _ n4
    have a02:=m4 _ _ n5
    exact aI
   ·exact aI
  iterate 1 refine cE ?_
  refine aY [0,2,3,4,5] (fun f w=>∃ f2 f3 f4,jS j k l a b m f2 f3 f4=some R/\f 24=zB f4/\aD G K (box z 27 (zC m.1 c4 c5 c6 c7)::aH 9 K c4 c5 m.1.L::aH 52 K c6 c7 m.1.E::box b1 89 [zS a2 j.length c3,i64 f2,Value.int .u64 f3]::aH 52 K g h b::aH 9 K d e a::box p 27 [i64 k,i64 l,zS d a.length e,zS g b.length h]::box o 27 c::box n 27 c::L) w) ?_ ?_
  ·rintro f a03 ⟨f2,f3,f4,hm,a04,n6⟩
   unfold jS at hm
   refine aF ?_
   rcases aG hm with ⟨n7,hm⟩|⟨n7,hm⟩
   ·refine aF ?_;obtain ⟨a05,n8,n9,o0,o1⟩:=aD.lendSp n6 (zR _) (.tail (.tail (.tail (.tail (.tail .head)))))
    obtain ⟨a06,o2,o3,o4,o5⟩:=aD.lendSp o0 n8 (.tail (.tail (.tail (.tail .head))))
    obtain ⟨a07,h6,o6,o7,o8⟩:=aD.lendBp o4 (.tail (.tail (.tail (.tail .head))))
    obtain ⟨r,o9,hm⟩:=aB hm
    refine cC call44 (aCs (t:=⟨k,l,a,b⟩) o9 o7 o6 (n9.mono (zL o2 h6)) (o3.mono h6)) ?_
    rintro _ a08 ⟨b9,c0,a7,a8,rfl,p0⟩
    have p1:=o8 _ _ p0
    have p2:=o5 _ _ p1
    have a09:=o1 _ _ p2
    refine gM fun a10 a11=>?_
    iterate 3 refine cE ?_
    refine aY [0,2,3,4,5] (fun f w=>∃ d5 d6 f5,oI j k l a b r d5 d6 f5=some R/\f 33=zB f5/\aD G K (aH 9 K d e a::aH 52 K g h b::box p 27 [i64 k,i64 l,zS d a.length e,zS g b.length h]::aH 9 K b9 c0 r.L::aH 52 K a7 a8 r.E::box z 27 (zC r b9 c0 a7 a8)::box b1 89 [zS a2 j.length c3,i64 d5,Value.int .u64 d6]::box o 27 c::box n 27 c::L) w) ?_ ?_
    ·rintro f p3 ⟨d5,d6,f5,hm,a12,a13⟩
     unfold oI at hm
     refine aF ?_
     rcases aG hm with ⟨p4,hm⟩|⟨p4,hm⟩
     ·refine aF ?_
      have p5:aD G K (box b1 89 [zS a2 j.length c3,i64 d5,Value.int .u64 d6]::aH 9 K d e a::aH 52 K g h b::box p 27 [i64 k,i64 l,zS d a.length e,zS g b.length h]::aH 9 K b9 c0 r.L::aH 52 K a7 a8 r.E::box z 27 (zC r b9 c0 a7 a8)::box o 27 c::box n 27 c::L) p3:=lY
      obtain ⟨f6,p6,hm⟩:=aB hm
      refine cC call43 (bM p6 p5 Z) ?_
      rintro _ a15 ⟨rfl,p7⟩
      refine aF ?_;obtain ⟨p8,a17,a18,a19,p9⟩:=aD.lendBp p7 (.tail (.tail (.tail (.tail (.tail (.tail .head))))))
      refine wI [(0,0),(1,0),(2,0),(3,0),(4,0),(5,0),(6,0),(7,0),(8,0),(9,1),(10,0),(11,2)] fun a20 f7=>?_;refine aF ?_
      obtain ⟨a21,h7,hm⟩:=aB hm
      have q0:=pS f7 (i:=5) rfl
      obtain ⟨a22,a23,h8⟩:=Cut.ex 3 a7 a8 0
      refine cI rfl (fun _ _=>aHF iY q0 h8 rfl rfl rfl h7) (aF ?_);obtain ⟨a24,h9,hm⟩:=aB hm
      have q1:=pS f7 (i:=5) rfl
      obtain ⟨a25,a26,i0⟩:=Cut.ex 3 a7 a8 (wr (f6.1+1))
      refine cI rfl (fun _ _=>aBb iY q1 i0 rfl rfl rfl h9) (eQ rfl ?_);obtain ⟨q2,q3,hm⟩:=aB hm
      refine WO_appV (i:=5) iY underlying25 aHH rfl rfl f7 rfl h7 h8 h9 i0 q3 rfl rfl rfl rfl (fun q4 q5 q6 (i1:aD G p8 (box b1 89 [zS a2 j.length c3,i64 f6.2.1,Value.int .u64 f6.2.2]::aH 9 K d e a::aH 52 K g h b::box p 27 [i64 k,i64 l,zS d a.length e,zS g b.length h]::aH 9 K b9 c0 r.L::aH 52 K q4 q5 q2::box o 27 c::box n 27 c::L) q6)=>(aL (aC ⟨⟨_,i1⟩,?_⟩)))
      refine aF ?_
      have a27:=p9 _ _ i1
      exact aI
     ·exact aI
    exact aI
   ·exact aI
  refine aF ?_;obtain ⟨a28,q7,q8,q9,r0⟩:=aD.lendSp j1 (zR _) (.tail (.tail (.tail (.tail (.tail .head)))))
  obtain ⟨a29,r1,r2,r3,r4⟩:=aD.lendSp q9 q7 (.tail (.tail (.tail (.tail .head))))
  obtain ⟨a31,i2,r5,r6,r7⟩:=aD.lendBp r3 (.tail (.tail (.tail (.tail .head))))
  obtain ⟨a32,r8,hm⟩:=aB hm
  refine cC call42 (aKj (t:=⟨k,l,a,b⟩) r8 r6 r5 (q8.mono (zL r1 i2)) (r2.mono i2)) ?_
  rintro _ r9 ⟨rfl,s0⟩
  have s1:=r7 _ _ s0
  have s2:=r4 _ _ s1
  have a34:=r0 _ _ s2
  refine aF ?_
  rcases aG hm with ⟨s3,hm⟩|⟨s3,hm⟩
  ·refine aF ?_
   have s4:aD G K (box b1 89 [zS a2 j.length c3,i64 m.2.1,Value.int .u64 m.2.2]::aH 9 K d e a::aH 52 K g h b::box p 27 [i64 k,i64 l,zS d a.length e,zS g b.length h]::box z 27 (zC m.1 c4 c5 c6 c7)::aH 9 K c4 c5 m.1.L::aH 52 K c6 c7 m.1.E::box o 27 c::box n 27 c::L) r9:=lY
   obtain ⟨f8,s5,hm⟩:=aB hm
   refine cC call43 (bM s5 s4 Z) ?_
   rintro _ a35 ⟨rfl,a36⟩
   refine aF ?_;exact ⟨bD,f8.2.1,f8.2.2,decide (0 < f8.1),hm,rfl,lY⟩
  ·refine aF ?_;exact ⟨bD,m.2.1,m.2.2,false,hm,rfl,lY⟩
 refine aF ?_
 have s6:aD G K (box b1 89 [zS a2 j.length c3,i64 u.2.1,Value.int .u64 u.2.2]::box p 27 (zC u.1 d9 e0 e1 e2)::aH 9 K d9 e0 u.1.L::aH 52 K e1 e2 u.1.E::box o 27 c::box n 27 c::L) i7:=lY
 obtain ⟨i3,s7,hm⟩:=aB hm
 refine cC call39 (qZ s7 s6 Z) ?_
 rintro _ a37 ⟨rfl,s8⟩
 refine aF ?_
 rcases aG hm with ⟨s9,hm⟩|⟨s9,hm⟩
 ·refine aF ?_;obtain ⟨a9,t0,hm⟩:=aB hm
  refine cC call40 (aEF t0 s8 Z) ?_
  rintro _ a38 ⟨t1,t2,t3,t4,rfl,a39⟩
  refine gM fun a41 a43=>?_;refine aF ?_
  exact ⟨bD,a9.2.1,a9.2.2,a9.1.N,a9.1.I,a9.1.L,a9.1.E,t1,t2,t3,t4,hm,lY⟩
 ·refine aF ?_;exact ⟨bD,i3.2.1,i3.2.2,u.1.N,u.1.I,u.1.L,u.1.E,d9,e0,e1,e2,hm,lY⟩
theorem aFs {n:(List UInt8)} {R:(aS × aS)} (hm:aBu n=some R) (hs:aD G K (L) w) (h3:aW K a1 c2 n):
  Calls Tryz.prog 5 ([zS a1 n.length c2]:List Value).toArray w (dS fun v w'=>∃ q b9 c0 c1 c3 c4 c5 c6 c7,v=Value.tuple #[zA (zCa R.1 b9 c0 c1 c3),zA (zCa R.2 c4 c5 c6 c7)]/\Hp.le K q/\aW q b9 c0 R.1.L/\aW q c1 c3 R.1.E/\aW q c4 c5 R.2.L/\aW q c6 c7 R.2.E/\aD G q (L) w'):=by
 let x:=zG
 refine cM func5 ?_;unfold aBu at hm
 refine aF ?_;refine iN fun o w5 j9=>?_
 refine iN fun p w8 e0=>?_;refine aF ?_
 obtain ⟨k1,e1,hm⟩:=aB hm
 refine cC call14 (aHY e1 e0 h3) ?_
 rintro _ k2 ⟨r,rfl,k3⟩
 refine aF ?_;refine aK [2,3] (fun f w=>aCU=some R/\aD G K (box p 27 x::box o 27 x::L) w) ?_ ?_
 ·rintro f k4 ⟨hm,k5⟩
  unfold aCU at hm
  refine aF ?_;refine lI ([([116,97,117]:aJ),([97]:aJ)]:List aJ) fun h k6 k7=>?_
  refine aM (cK (vs:=[(1,i64 1)]) (cs:=[i64 0,i64 1,i64 0]) aJa rfl (by kernel_rfl)) (lI ([⟨0,1,0⟩]:List Edge) fun d k8 k9=>?_);refine aM (cK (vs:=[(0,i64 1),(2,zS h ([([116,97,117]:aJ),([97]:aJ)]:List aJ).length 2),(3,zS d ([⟨0,1,0⟩]:List Edge).length 1)]) (cs:=[i64 1,i64 0,zS h ([([116,97,117]:aJ),([97]:aJ)]:List aJ).length 2,zS d ([⟨0,1,0⟩]:List Edge).length 1]) aMF rfl (by kernel_rfl)) (iN fun c8 l0 l1=>?_)
  refine gM fun l2 e2=>?_;refine aF ?_
  obtain ⟨l3,l4,l5,l6,e3⟩:=aD.lendBp e2 .head
  refine wI [(0,0),(1,0),(2,1),(3,2)] fun l7 l8=>?_;refine aF ?_
  refine eQ rfl (gM fun l9 c9=>?_);refine aL (aC ⟨⟨_,c9⟩,?_⟩)
  have m0:=e3 _ _ c9
  refine aFJ rfl (gM fun d0 e4=>?_);refine aF ?_
  refine yO (aF ?_);obtain ⟨e5,d1,d2,a9⟩:=aD.giveSp e4 (zR _) (.tail (.tail .head))
  replace a9:aD G e5 (box c8 27 [i64 1,i64 0,zS h ([([116,97,117]:aJ),([97]:aJ)]:List aJ).length 2,zS d ([⟨0,1,0⟩]:List Edge).length 1]::aH 52 K d 1 ([⟨0,1,0⟩]:List Edge)::box p 27 [i64 1,i64 0,zS h ([([116,97,117]:aJ),([97]:aJ)]:List aJ).length 2,zS d ([⟨0,1,0⟩]:List Edge).length 1]::box o 27 [i64 1,i64 0,zS h ([([116,97,117]:aJ),([97]:aJ)]:List aJ).length 2,zS d ([⟨0,1,0⟩]:List Edge).length 1]::L) d0:=a9
  obtain ⟨d3,b0,d4,y⟩:=aD.giveSp a9 d1 (.tail .head)
  replace y:aD G d3 (box c8 27 [i64 1,i64 0,zS h ([([116,97,117]:aJ),([97]:aJ)]:List aJ).length 2,zS d ([⟨0,1,0⟩]:List Edge).length 1]::box p 27 [i64 1,i64 0,zS h ([([116,97,117]:aJ),([97]:aJ)]:List aJ).length 2,zS d ([⟨0,1,0⟩]:List Edge).length 1]::box o 27 [i64 1,i64 0,zS h ([([116,97,117]:aJ),([97]:aJ)]:List aJ).length 2,zS d ([⟨0,1,0⟩]:List Edge).length 1]::L) d0:=y
  obtain rfl:=zI hm
  exact jJ (aDt results5 (pR (vs:=[i64 1,i64 0,zS h ([([116,97,117]:aJ),([97]:aJ)]:List aJ).length 2,zS d ([⟨0,1,0⟩]:List Edge).length 1]) rfl mS y (i:=2) rfl rfl rfl) (pR (vs:=[i64 1,i64 0,zS h ([([116,97,117]:aJ),([97]:aJ)]:List aJ).length 2,zS d ([⟨0,1,0⟩]:List Edge).length 1]) rfl mS y (i:=1) rfl rfl rfl) ⟨d3,h,2,d,1,h,2,d,1,rfl,(zL d1 b0),(d2.mono b0),d4,(d2.mono b0),d4,lY⟩)
 obtain ⟨m1,e7,ho⟩:=aB hm
 refine lK [2,3,4] e7 (fun d5 d6 d7 f w=>f 5=i64 d7/\aD G K (box r 89 [zS a1 n.length c2,i64 d5,Value.int .u64 d6]::box p 27 x::box o 27 x::L) w) aI ?_
 ·rintro d5 d6 d7 m2 f m3 hm hr ⟨m4,e8⟩
  unfold uF at hm
  refine aF ?_
  rcases aG hm with ⟨e9,hm⟩|⟨e9,hm⟩
  ·refine aF ?_;refine cA (aF ?_)
   obtain ⟨a,f0,hm⟩:=aB hm
   refine cC call15 (aEG f0 e8 h3) ?_
   rintro _ m5 ⟨l,m,j,k,e,g,b,c,rfl,m6⟩
   refine aF ?_;refine iN fun z m7 m8=>?_
   refine iN fun J m9 n0=>?_;refine gM fun n1 n2=>?_
   refine gM fun n3 f1=>?_;refine aF ?_
   obtain ⟨n4,b1,f2,f3,f4⟩:=aD.lendSp f1 (zR _) (.tail (.tail .head))
   obtain ⟨n5,b2,f5,f6,f7⟩:=aD.lendSp f3 b1 (.tail (.tail .head))
   obtain ⟨n6,V,f8,f9,g0⟩:=aD.lendBp f6 (.tail .head)
   obtain ⟨n7,Z,g1,g2,g3⟩:=aD.lendSp f9 (zL (zL b1 b2) V) (.tail .head)
   obtain ⟨n8,a0,g4,g5,g6⟩:=aD.lendSp g2 (zL (zL (zL b1 b2) V) Z) (.tail .head)
   obtain ⟨n9,u,g7,g8,g9⟩:=aD.lendBp g5 .head
   obtain ⟨o0,h0,hm⟩:=aB hm
   refine cC call16 (aFW h0 g8 (f8.mono (zL (zL Z a0) u)) (f2.mono (zL (zL (zL (zL b2 V) Z) a0) u)) (f5.mono (zL (zL (zL V Z) a0) u)) g7 (g1.mono (zL a0 u)) (g4.mono u)) ?_
   rintro _ o1 ⟨rfl,h1⟩
   have h2:=g9 _ _ h1
   have h4:=g6 _ _ h2
   have h5:=g3 _ _ h4
   have h6:=g0 _ _ h5
   have h7:=f7 _ _ h6
   have h8:=f4 _ _ h7
   refine aF ?_
   rcases aG hm with ⟨h9,hm⟩|⟨h9,hm⟩
   ·refine aF ?_;obtain ⟨o2,o3,i0,i1,i2⟩:=aD.lendBp h8 (.tail (.tail .head))
    obtain ⟨o4,i3,i4,o5,i5⟩:=aD.lendBp i1 (.tail (.tail (.tail (.tail .head))))
    refine wI [(0,0),(1,0),(2,1),(3,2)] fun o6 a2=>?_;refine cI rfl (fun _ ⟨_,a2⟩=>nA (t:=0) (vs:=(zC a.1 l m j k)) mS a2 (i0.mono i3) rfl rfl rfl) (cI rfl (fun _ ⟨_,a2⟩=>nA (t:=0) (vs:=(zC a.2.1 e g b c)) mS a2 i4 rfl rfl rfl) (eQ rfl (gM fun o7 d8=>?_)))
    refine aL (aC ⟨⟨_,d8⟩,?_⟩)
    have i6:=i5 _ _ d8
    have o8:=i2 _ _ i6
    refine aFJ rfl (gM fun a3 i7=>?_);refine aF ?_
    refine yO (aF ?_);refine jJ (fE (bE (bE ?_)))
    have i8:=hr _ (zI hm).symm
    subst i8
    have hm:(some (a.1,a.2.1))=some R:=ho
    clear hr ho
    obtain ⟨i9,a4,j0,b3⟩:=aD.giveSp i7 (zR _) (.tail (.tail .head))
    replace b3:aD G i9 (box z 27 (zC a.1 l m j k)::box J 27 (zC a.2.1 e g b c)::aH 52 K j k a.1.E::aH 9 K e g a.2.1.L::aH 52 K b c a.2.1.E::box r 89 [zS a1 n.length c2,i64 a.2.2.1,Value.int .u64 a.2.2.2]::box p 27 (zC a.2.1 e g b c)::box o 27 (zC a.1 l m j k)::L) a3:=b3
    obtain ⟨j1,a5,j2,b5⟩:=aD.giveSp b3 a4 (.tail (.tail .head))
    replace b5:aD G j1 (box z 27 (zC a.1 l m j k)::box J 27 (zC a.2.1 e g b c)::aH 9 K e g a.2.1.L::aH 52 K b c a.2.1.E::box r 89 [zS a1 n.length c2,i64 a.2.2.1,Value.int .u64 a.2.2.2]::box p 27 (zC a.2.1 e g b c)::box o 27 (zC a.1 l m j k)::L) a3:=b5
    obtain ⟨j3,a6,j4,b6⟩:=aD.giveSp b5 (zL a4 a5) (.tail (.tail .head))
    replace b6:aD G j3 (box z 27 (zC a.1 l m j k)::box J 27 (zC a.2.1 e g b c)::aH 52 K b c a.2.1.E::box r 89 [zS a1 n.length c2,i64 a.2.2.1,Value.int .u64 a.2.2.2]::box p 27 (zC a.2.1 e g b c)::box o 27 (zC a.1 l m j k)::L) a3:=b6
    obtain ⟨d9,a7,j5,a8⟩:=aD.giveSp b6 (zL (zL a4 a5) a6) (.tail (.tail .head))
    replace a8:aD G d9 (box z 27 (zC a.1 l m j k)::box J 27 (zC a.2.1 e g b c)::box r 89 [zS a1 n.length c2,i64 a.2.2.1,Value.int .u64 a.2.2.2]::box p 27 (zC a.2.1 e g b c)::box o 27 (zC a.1 l m j k)::L) a3:=a8
    obtain rfl:=zI hm
    exact fE (bE (bE (aDt results5 (pR (vs:=(zC a.1 l m j k)) rfl mS a8 (i:=4) rfl rfl rfl) (pR (vs:=(zC a.2.1 e g b c)) rfl mS a8 (i:=3) rfl rfl rfl) ⟨d9,l,m,j,k,e,g,b,c,rfl,(zL (zL (zL a4 a5) a6) a7),(j0.mono (zL (zL a5 a6) a7)),(j2.mono (zL a6 a7)),(j4.mono a7),j5,lY⟩)))
   ·exact aI
  ·exact aI
theorem aJB {t:aS} {k:Int} {R:Bool} (hm:vB t k=some R) (a:aD G K (L) w) (b:aW K a1 c2 t.L) (c:aW K a4 c5 t.E):
  Calls Tryz.prog 91 ([zA (zCa t a1 c2 a4 c5),i64 k]:List Value).toArray w (dS fun v w'=>v=zB R/\aD G K (L) w'):=by
 exact aI
theorem aPp {i many:Int} {R:Bool} (hm:aMd i many=some R) (a:aD G K (L) w):
  Calls Tryz.prog 93 ([i64 i,i64 many]:List Value).toArray w (dS fun v w'=>v=zB R/\aD G K (L) w'):=by
 exact aI
theorem uM {t:aS} {R:Bool} (hm:nC t=some R) (z:aD G K (L) w) (J:G.lo=0) (i:aW K a1 c2 t.L) (j:aW K a4 c5 t.E):
  Calls Tryz.prog 48 ([zA (zCa t a1 c2 a4 c5)]:List Value).toArray w (dS fun v w'=>v=zB R/\aD G K (L) w'):=by
 let a:=(zC t a1 c2 a4 c5)
 refine cM func48 ?_;unfold nC at hm
 refine aF ?_;refine oE fun b V Z=>?_
 iterate 5 refine cE ?_
 refine aY [1] (fun f w=>∃ c,rG t c=some R/\f 30=zB c/\aD G K (box b 27 a::L) w) ?_ ?_
 ·rintro f a0 ⟨c,hm,a2,a3⟩
  unfold rG at hm
  refine aF ?_
  rcases aG hm with ⟨k,hm⟩|⟨k,hm⟩
  ·exact aI
  ·refine aF ?_;refine aK [1] (fun f w=>aCm t=some R/\aD G K (box b 27 a::L) w) ?_ ?_
   ·rintro f a5 ⟨hm,a6⟩
    unfold aCm at hm
    refine aF ?_;refine aK [] (fun f w=>aJf=some R/\aD G K (L) w) aI ?_
    obtain ⟨a7,l,ho⟩:=aB hm
    refine dX [1,65,66] l (fun d f w=>f 67=i64 d/\aD G K (box b 27 a::L) w) aI ?_
    ·rintro d m f a8 hm hr ⟨a9,b0⟩
     unfold zY at hm
     refine aF ?_
     rcases aG hm with ⟨n,hm⟩|⟨n,hm⟩
     ·refine aF ?_;refine cA (aF ?_)
      obtain ⟨b1,o,hm⟩:=aB hm
      refine aF ?_;obtain ⟨b2,b3,p⟩:=aW.el (sz:=3) rfl j o
      cases p
      refine aF ?_;refine iN fun b4 b5 b6=>?_
      refine aF ?_;refine gM fun b8 b9=>?_
      refine aF ?_;exact aY [1,65,66,67] (fun f w=>∃ g,rF d g=some m/\f 107=zB g/\aD G K (box b 27 a::L) w) aI aI
     ·exact aI
   obtain ⟨c0,q,ho⟩:=aB hm
   refine dX [1,32,33] q (fun e f w=>f 34=i64 e/\aD G K (box b 27 a::L) w) aI ?_
   ·rintro e r f c1 hm hr ⟨c3,c4⟩
    unfold zZ at hm
    refine aF ?_
    rcases aG hm with ⟨u,hm⟩|⟨u,hm⟩
    ·refine aF ?_;refine cA (aF ?_)
     obtain ⟨c6,x,hm⟩:=aB hm
     refine aF ?_;obtain ⟨c7,c8,y⟩:=aW.el (sz:=1) rfl i x
     cases y
     iterate 6 refine cE ?_
     exact aY [1,32,33,34] (fun f w=>∃ h,vC e h=some r/\f 62=zB h/\aD G K (box b 27 a::L) w) aI aI
    ·exact aI
 exact aI
theorem aEY {t:aS} {R:Bool} (hm:jU t=some R) (q:aD G K (L) w) (g:G.lo=0) (h:aW K a1 c2 t.L) (b:aW K a4 c5 t.E):
  Calls Tryz.prog 23 ([zA (zCa t a1 c2 a4 c5)]:List Value).toArray w (dS fun v w'=>v=zB R/\aD G K (L) w'):=by
 let c:=(zC t a1 c2 a4 c5)
 refine cM func23 ?_;unfold jU at hm
 refine aF ?_;refine oE fun d r i=>?_
 refine aF ?_;obtain ⟨u,j,hm⟩:=aB hm
 refine cC call48 (uM j i g h b) ?_
 rintro _ x ⟨rfl,y⟩
 refine aF ?_
 rcases aG hm with ⟨k,hm⟩|⟨k,hm⟩
 ·exact aI
 ·refine aF ?_;refine aK [] (fun f w=>aAN=some R/\aD G K (L) w) aI ?_
  obtain ⟨z,l,ho⟩:=aB hm
  refine dX [1,9,10] l (fun a f w=>f 11=i64 a/\aD G K (box d 27 c::L) w) aI ?_
  ·rintro a m f J hm hr ⟨V,Z⟩
   unfold jT at hm
   refine aF ?_
   rcases aG hm with ⟨n,hm⟩|⟨n,hm⟩
   ·refine aF ?_;refine cA (aF ?_)
    obtain ⟨a0,o,hm⟩:=aB hm
    refine aF ?_;obtain ⟨a2,a3,p⟩:=aW.el (sz:=3) rfl b o
    cases p
    refine aF ?_;refine iN fun a5 a6 a7=>?_
    refine aF ?_;refine gM fun a8 a9=>?_
    refine aF ?_;exact aY [1,9,10,11] (fun f w=>∃ e,gV a e=some m/\f 46=zB e/\aD G K (box d 27 c::L) w) aI aI
   ·exact aI
theorem yT {t p:aS} {R:Int} (hm:sH t p=some R) (c:aD G K (L) w) (d:G.lo=0) (e:aW K a1 c2 t.L) (g:aW K a4 c5 t.E) (h:aW K a7 c8 p.L) (i:aW K a10 c11 p.E):
  Calls Tryz.prog 17 ([zA (zCa t a1 c2 a4 c5),zA (zCa p a7 c8 a10 c11)]:List Value).toArray w (dS fun v w'=>v=i64 R/\aD G K (L) w'):=by
 refine cM func17 ?_;unfold sH at hm
 refine aF ?_;refine oE fun j k l=>?_
 refine oE fun b m n=>?_;refine aF ?_
 refine cA ?_
 iterate 1 refine cE ?_
 exact aY [3] (fun f w=>∃ a,vX p a=some R/\f 5=zB a/\aD G K (box b 27 (zC p a7 c8 a10 c11)::L) w) aI aI
theorem xC {t:aS} {k:Int} {R:(List Edge)} (hm:pL t k=some R) (y:aD G K (L) w) (z:aW K a1 c2 t.L) (J:aW K a4 c5 t.E):
  Calls Tryz.prog 30 ([zA (zCa t a1 c2 a4 c5),i64 k]:List Value).toArray w (dS fun v w'=>∃ j l,v=zS j R.length l/\aD G K (aH 52 K j l R::L) w'):=by
 refine cM func30 ?_;unfold pL at hm
 refine aF ?_;refine oE fun V Z o=>?_
 refine aF ?_;refine aK [] (fun f w=>∃ d m n,aDF d=some R/\f 5=zS m d.length n/\aD G K (aH 52 K m n d::L) w) aI ?_
 have a0:=aD.nil (α:=Edge) o 52 K
 obtain ⟨a2,p,ho⟩:=aB hm
 refine bV [1,9,10] p (fun e g f w=>∃ h i,f 5=zS h e.length i/\f 11=i64 g/\aD G K (aH 52 K h i e::L) w) aI ?_
 ·rintro e g q f a3 hm hr ⟨h,i,a5,a6,a7⟩
  unfold pZ at hm
  refine aF ?_
  rcases aG hm with ⟨r,hm⟩|⟨r,hm⟩
  ·refine aF ?_;refine aK [1,9,10,11] (fun f w=>∃ a b c,xU g a=some q/\f 5=zS b a.length c/\aD G K (aH 52 K b c a::L) w) ?_ ?_
   ·rintro f a8 ⟨a,b,c,hm,u,x⟩
    unfold xU at hm
    refine aF ?_;exact ⟨_,(zI hm).symm,bD,b,c,u,rfl,x⟩
   exact aI
  ·exact aI
theorem aAB {a:(List Int)} {b R:Int} (hm:fT a b=some R) (e:aD G K (L) w) (g:aW K a1 c2 a):
  Calls Tryz.prog 138 ([zS a1 a.length c2,i64 b]:List Value).toArray w (dS fun v w'=>v=i64 R/\aD G K (L) w'):=by
 refine cM func138 ?_;unfold fT at hm
 refine aF ?_;refine aK [] (fun f w=>qA=some R/\aD G K (L) w) aI ?_
 obtain ⟨h,c,ho⟩:=aB hm
 exact dX [0,1,7] c (fun d f w=>f 8=i64 d/\aD G K (L) w) aI aI
theorem yB {a:(List Int)} {b:Int} {R:Bool} (hm:eN a b=some R) (c:aD G K (L) w) (d:aW K a1 c2 a):
  Calls Tryz.prog 96 ([zS a1 a.length c2,i64 b]:List Value).toArray w (dS fun v w'=>v=zB R/\aD G K (L) w'):=by
 exact aI
end Gv
namespace Gv
open Go.Value renaming slice→zS,bool→zB,pointer→zP,agg→zA,tuple→zT
open Option.some renaming inj→zI
open Gv.Hp renaming le_trans→zL
open Go Go.Proofs Go.Proofs.Tryz
set_option maxRecDepth 20000
set_option maxHeartbeats 40000000
variable {G:Env} {K:Hp} {L:List iI} {w:World} {a1 a4 a7 a2 a5 a8 a11 a10 a14 a17 a20 a23 a13 a16 a19 a22 a25:Option Addr} {c2 c5 c8 b1 c12 c11 b13 c24 c20 c14 c17 c23 c26 c9 c21:Nat}
theorem nO {a R:(List Int)} (hm:cV a=some R) (hs:aD G K (aH 2 K a1 c2 a::L) w):
  Calls Tryz.prog 125 ([zS a1 a.length c2]:List Value).toArray w (dS fun v w'=>∃ u x,v=zS u R.length x/\aD G K (aH 2 K u x R::L) w'):=by
 refine cM func125 ?_;unfold cV at hm
 refine aF ?_
 rcases aG hm with ⟨c3,hm⟩|⟨c3,hm⟩
 ·exact aI
 ·refine aF ?_;refine aK [0] (fun f w=>oQ a=some R/\aD G K (aH 2 K a1 c2 a::L) w) aI ?_
  obtain ⟨e3,b5,ho⟩:=aB hm
  refine dX [0] b5 (fun c f w=>f 3=i64 c/\aD G K (aH 2 K a1 c2 a::L) w) aI ?_
  ·rintro c y f e4 hm hr ⟨e5,m⟩
   unfold eA at hm
   refine aF ?_
   rcases aG hm with ⟨b6,hm⟩|⟨b6,hm⟩
   ·refine aF ?_;refine aK [0] (fun f w=>fY c=some y/\f 3=i64 c/\aD G K (aH 2 K a1 c2 a::L) w) ?_ ?_
    ·rintro f e6 ⟨hm,e7,b7⟩
     unfold fY at hm
     refine aF ?_;exact ⟨_,(zI hm).symm,bD,rfl,b7⟩
    refine aF ?_;refine aLO ?_
    refine aF ?_;obtain ⟨e8,z,hm⟩:=aB hm
    have b:=bS m (i:=0) rfl z
    refine fS (fun _ m=>cS iX rfl b rfl rfl rfl z) (aF ?_);obtain ⟨e9,b8,hm⟩:=aB hm
    refine fS (fun _ m=>cS iX rfl b rfl rfl rfl b8) (aF ?_);refine wH (fun f0 b9=>(aF ?_))
    rcases aG hm with ⟨c0,hm⟩|⟨c0,hm⟩
    ·refine aF ?_;obtain ⟨f1,d,hm⟩:=aB hm
     have e:=pS b9 (i:=0) rfl
     obtain ⟨f2,f3,g⟩:=Cut.ex 1 a1 c2 c
     refine aM (aBb iX e g rfl rfl rfl d) (aF ?_);refine aK [] (fun f w=>∃ j k,fZ j k=some y/\f 0=zS a1 j.length c2/\f 3=i64 k/\aD G K (aH 2 K a1 c2 j::L) w) ?_ ?_
     ·rintro f f4 ⟨j,k,hm,c1,f5,J⟩
      unfold fZ at hm
      refine aF ?_;obtain ⟨f6,c4,hm⟩:=aB hm
      have c5:=pS J (i:=0) rfl
      obtain ⟨f7,f8,V⟩:=Cut.ex 1 a1 c2 k
      refine aM (aBb iX c5 V rfl rfl rfl c4) ?_;obtain ⟨Z,a0,hm⟩:=aB hm
      refine aKP iX aEW rfl J (i:=0) rfl V rfl rfl a0 (fun a2 (a3:aD G K (aH 2 K a1 c2 Z::L) a2)=>?_)
      iterate 4 refine cE ?_
      refine cW (v:=zS a1 Z.length c2) (Eq.trans c1 (congrArg (fun n=>zS a1 n c2) (aJN a0))) (aF ?_);obtain ⟨a4,a5,hm⟩:=aB hm
      have c6:=pS a3 (i:=0) rfl
      obtain ⟨c7,c8,a6⟩:=Cut.ex 1 a1 c2 0
      refine aM (aHF iX c6 a6 rfl rfl rfl a5) (aF ?_);refine jJ (fE (bE (bE (bE ?_))))
      have c9:=hr _ (zI hm).symm
      subst c9
      have hm:(some a4)=some R:=ho
      clear hr ho
      have f9:aD G K (aH 2 K c7 c8 a4::L) a2:=aD.cutP a3 (i:=0) rfl a5 a6
      exact aI
     obtain ⟨g0,d0,ho⟩:=aB hm
     refine lK [4] d0 (fun o p q f w=>f 0=zS a1 o.length c2/\f 3=i64 p/\f 5=i64 q/\aD G K (aH 2 K a1 c2 o::L) w) aI ?_
     ·rintro o p q d1 f g1 hm hr ⟨d2,g2,g3,a7⟩
      unfold dZ at hm
      refine aF ?_
      rcases aG hm with ⟨d3,hm⟩|⟨d3,hm⟩
      ·refine aF ?_;refine aK [4,5] (fun f w=>∃ l r,dY q l r=some d1/\f 0=zS a1 l.length c2/\f 3=i64 r/\aD G K (aH 2 K a1 c2 l::L) w) ?_ ?_
       ·rintro f g4 ⟨l,r,hm,d4,d5,d6⟩
        unfold dY at hm
        refine aF ?_;exact ⟨_,(zI hm).symm,bD,d4,d5,rfl,d6⟩
       refine aF ?_;refine aLO ?_
       refine aF ?_;obtain ⟨g5,a8,hm⟩:=aB hm
       obtain ⟨a9,d7,hm⟩:=aB hm
       refine fS (fun _ a7=>aJW iX b g d e rfl rfl rfl a8 rfl) (aF ?_);obtain ⟨g6,d8,hm⟩:=aB hm
       obtain ⟨g7,g8,hm⟩:=aB hm
       refine fS (fun _ a7=>aJW iX b g d e rfl rfl rfl d8 rfl) (aF ?_);refine wH (fun g9 b0=>(aF ?_))
       rcases aG hm with ⟨d9,hm⟩|⟨d9,hm⟩
       ·refine aF ?_;refine aM (aJW iX b g d e rfl rfl rfl a8 rfl) (aM (yC (t:=0) lD b0 (i:=0) rfl d7 rfl rfl rfl) ?_)
        obtain ⟨h0,b1,hm⟩:=aB hm
        refine aM (cS iX rfl b rfl rfl rfl b1) ?_;obtain ⟨b2,b3,hm⟩:=aB hm
        refine oO (i:=0) (t:=0) (ns:=[i64 a9]) (e':=(a9:Int)) sizeOf2 b0 rfl (Hp.le_refl _) rfl rfl rfl b1 b3 rfl rfl (nI rfl) rfl (fun cs h=>by cases h;rfl) (fun e0 (e1:aD G K (aH 2 K a1 c2 b2::L) e0)=>(aF ?_));exact ⟨bD,b2,wr (p+1),hm,(Eq.trans d2 (congrArg (fun n=>zS a1 n c2) (jM b3))),rfl,e1⟩
       ·exact aI
      ·exact aI
    ·exact aI
   ·exact aI
theorem aFt {t:aS} {m:(List Int)} {q:aJ} {R:(List Int)} (hm:kO t m q=some R) (hs:aD G K (L) w) (h3:aW K a1 c2 t.L) (z:aW K a4 c5 t.E) (h9:aW K a7 c8 m):
  Calls Tryz.prog 77 ([zA (zCa t a1 c2 a4 c5),zS a7 m.length c8,str q]:List Value).toArray w (dS fun v w'=>∃ r u,v=zS r R.length u/\aD G K (aH 2 K r u R::L) w'):=by
 let o:=(zC t a1 c2 a4 c5)
 refine cM func77 ?_;unfold kO at hm
 refine aF ?_;refine oE fun p b8 J=>?_
 refine aF ?_;refine aK [] (fun f w=>∃ d a b,pM d=some R/\f 7=zS a d.length b/\aD G K (aH 2 K a b d::L) w) ?_ ?_
 ·rintro f b9 ⟨d,a,b,hm,V,Z⟩
  unfold pM at hm
  refine aF ?_;obtain ⟨a0,a2,hm⟩:=aB hm
  refine cC call97 (aHV Z a2) ?_
  rintro _ c0 ⟨rfl,a3,a5⟩
  iterate 4 refine cE ?_
  refine cW (v:=zS a a0.length b) (Eq.trans V (congrArg (fun n=>zS a n b) a3)) ?_;obtain ⟨c1,a6,hm⟩:=aB hm
  exact cC call125 (nO a6 a5) aI
 have c3:=aD.nil (α:=Int) J 2 K
 obtain ⟨c4,a8,ho⟩:=aB hm
 refine bV [1,2,3,11,12] a8 (fun c e f w=>∃ g h,f 7=zS g c.length h/\f 13=i64 e/\aD G K (aH 2 K g h c::box p 27 o::L) w) aI ?_
 ·rintro c e x f c6 hm hr ⟨g,h,c7,c9,d0⟩
  unfold gG at hm
  refine aF ?_
  rcases aG hm with ⟨a9,hm⟩|⟨a9,hm⟩
  ·refine aF ?_;refine aK [1,2,3,11,12,13] (fun f w=>∃ i j k,nD e i=some x/\f 7=zS j i.length k/\aD G K (aH 2 K j k i::box p 27 o::L) w) ?_ ?_
   ·rintro f d1 ⟨i,j,k,hm,b0,b1⟩
    unfold nD at hm
    refine aF ?_;exact ⟨_,(zI hm).symm,bD,j,k,b0,rfl,b1⟩
   refine aF ?_;obtain ⟨l,b2,hm⟩:=aB hm
   refine aF ?_;obtain ⟨d2,d3,b3⟩:=aW.el (sz:=3) rfl z b2
   cases b3
   refine aF ?_;refine iN fun b4 d4 d5=>?_
   refine gM fun d6 d7=>?_
   iterate 3 refine cE ?_
   exact aY [1,2,3,7,9,11,12,13] (fun f w=>∃ y,pN c e l y=some x/\f 30=zB y/\aD G K (box b4 52 [i64 l.F,i64 l.B,i64 l.To]::aH 2 K g h c::box p 27 o::L) w) aI aI
  ·exact aI
theorem iK {t:aS} {k:Int} {a:aJ} {R:Int} (hm:lR t k a=some R) (d:aD G K (L) w) (e:aW K a1 c2 t.L) (g:aW K a4 c5 t.E):
  Calls Tryz.prog 35 ([zA (zCa t a1 c2 a4 c5),i64 k,str a]:List Value).toArray w (dS fun v w'=>v=i64 R/\aD G K (L) w'):=by
 refine cM func35 ?_;unfold lR at hm
 refine aF ?_;refine oE fun h i j=>?_
 refine aF ?_
 rcases aG hm with ⟨b,hm⟩|⟨b,hm⟩
 ·exact aI
 ·refine aF ?_;refine lI ([k]:List Int) fun l m c=>?_
  refine aF ?_;obtain ⟨n,o,p,q,r⟩:=aD.lendSp c (Hp.le_refl _) .head
  exact aI
theorem kG {d:(List Bool)} {l:Int} {R:(List Bool)} (hm:eL d l=some R) (hs:aD G K (L) w) (h3:aW K a1 c2 d):
  Calls Tryz.prog 152 ([zS a1 d.length c2,i64 l]:List Value).toArray w (dS fun v w'=>∃ u x,v=zS u R.length x/\aD G K (aH 4 K u x R::L) w'):=by
 refine cM func152 ?_;unfold eL at hm
 iterate 5 refine cE ?_
 refine mZ [0,1] (fun f w=>iB d l=some R/\aD G K (L) w) ?_ ?_
 ·rintro f w4 ⟨hm,a8⟩
  unfold iB at hm
  refine bC (aR (v:=zS a1 d.length c2) (aM (gU (len:=d.length) mF rfl) (aM (aKJ runUnderlying183 rfl ⟨_,runUnderlying3⟩) (aR (v:=i64 l) (aM (aKJ runUnderlying183 rfl ⟨_,runUnderlying3⟩) ?_)))));obtain ⟨c,q7,hm⟩:=aB hm
  refine cC call198 (lib_Mul a8 q7) ?_
  rintro _ w8 ⟨rfl,y⟩
  refine aR (v:=zT #[Value.int .u64 c.1,Value.int .u64 c.2]) (aM (eC rfl rfl) (aM (eC rfl rfl) (aT (v:=Value.int .u64 c.1) (aT (v:=Value.int .u64 c.2) (aU (mZ [0,6] (fun f w=>iA d c=some R/\aD G K (L) w) ?_ ?_))))))
  ·rintro f d3 ⟨hm,b0⟩
   unfold iA at hm
   refine bC (aR (v:=Value.int .u64 c.2) (aM (aMy runUnderlying3 rfl ⟨_,runUnderlying183⟩) ?_));obtain ⟨a,b1,hm⟩:=aB hm
   refine aLu (e:=(false:Bool)) mF ez_4 rfl rfl b0 rfl rfl rfl b1 rfl (fun b b2 (z:aD G K (aH 4 K b a.length a::L) b2)=>(aT (v:=zS b a.length a.length) (aU (bC (aR (v:=zS b a.length a.length) (aR (v:=zS a1 d.length c2) ?_))))));obtain ⟨b3,J,hm⟩:=aB hm
   refine aQo mF rfl z (i:=0) rfl Cut.whole rfl rfl rfl (aOo _ _ _) aMD (aQp rfl z h3) J (fun b4 (b5:aD G K (aH 4 K b a.length b3::L) b4)=>(aT (v:=i64 ((Nat.min d.length a.length):Int)) (aU (bB (aK [] (fun f w=>∃ j,gZ j=some R/\f 7=zS b j.length a.length/\aD G K (aH 4 K b a.length j::L) w) ?_ ?_)))))
   ·rintro f d4 ⟨j,hm,b6,b7⟩
    unfold gZ at hm
    refine aC (bC (cW b6 (aT (v:=zS b j.length a.length) (aU ?_))));obtain rfl:=zI hm
    exact st_E results152 ⟨b,a.length,rfl,b7⟩
   obtain ⟨d5,b9,ho⟩:=aB hm
   refine bV [] b9 (fun k m f w=>f 7=zS b k.length a.length/\f 8=i64 m/\aD G K (aH 4 K b a.length k::L) w) ?_ ?_
   ·exact ⟨(Eq.trans rfl (congrArg (fun n=>zS b n a.length) (aJN J))),rfl,b5⟩
   ·rintro k m d6 f d7 hm hr ⟨o,p,d8⟩
    unfold hY at hm
    refine bB (bC (cW p (cW o (aM (gU (len:=k.length) mF rfl) (aM (pD rfl rfl) (aU ?_))))))
    rcases aG hm with ⟨r,hm⟩|⟨r,hm⟩
    ·refine bP r rfl (cN (aC (cA (wI [(0,0),(1,0),(2,0),(3,0),(4,0),(5,0),(6,0),(7,1),(8,0),(9,0)] fun d9 q=>?_))));refine cI rfl (fun _ _=>cX p) (cI rfl (fun _ _=>cX o) (cI rfl (fun _ _=>cX p) ?_))
     obtain ⟨c0,c1,hm⟩:=aB hm
     have c3:=pS q (i:=0) rfl
     obtain ⟨e0,e1,V⟩:=Cut.ex 1 b a.length m
     refine cI rfl (fun _ _=>aBb mF c3 V rfl rfl rfl c1) (cI rfl (fun _ _=>cX o) (cI rfl (fun _ _=>cX p) ?_));obtain ⟨c4,Z,hm⟩:=aB hm
     have c5:=pS q (i:=0) rfl
     obtain ⟨e2,e3,a0⟩:=Cut.ex 1 b a.length 0
     refine cI rfl (fun _ _=>aHF mF c5 a0 rfl rfl rfl Z) (eQ rfl ?_);obtain ⟨c6,a2,hm⟩:=aB hm
     refine aQo mF rfl q (i:=0) rfl V rfl rfl rfl (aOo _ _ _) aMD (aRM rfl q (i:=0) rfl Z a0) a2 (fun c7 (a3:aD G K (aH 4 K b a.length c6::L) c7)=>(aL (aC ⟨⟨_,a3⟩,?_⟩)))
     exact cI rfl (fun _ _=>rO rfl rfl) (cI rfl (fun _ _=>fP (v:=i64 (wr (m+((Nat.min c4.length c0.length):Int)))) rfl) (yO (iC (aC ⟨_,(zI hm).symm,bD,(Eq.trans o (congrArg (fun n=>zS b n a.length) (aJN a2))),rfl,a3⟩))))
    ·refine bT r rfl (aAZ (iW (iW ?_)))
     have c8:=hr _ (zI hm).symm
     subst c8
     have hm:(gZ k)=some R:=ho
     exact aI
  refine bB (aY [0,6] (fun f w=>∃ t,eW d c t=some R/\f 26=zB t/\aD G K (L) w) ?_ ?_)
  ·rintro f e4 ⟨t,hm,c9,d0⟩
   unfold eW at hm
   refine aC ?_
   rcases aG hm with ⟨a4,hm⟩|⟨a4,hm⟩
   ·exact aI
   ·exact bT a4 c9 (cN (aC ⟨bD,hm,d0⟩))
  refine bR (aR (v:=Value.int .u64 c.1) (aM (aHv rfl rfl) (aR (v:=zB (decide (0 < c.1))) ?_)))
  rcases aG hm with ⟨h,hm⟩|⟨h,hm⟩
  ·exact dT h rfl rfl (dT h rfl rfl (aM (wG (v:=zB true) h rfl rfl) (aU ⟨bD,true,hm,rfl,y⟩)))
  ·exact fW h rfl rfl (aR (v:=Value.int .u64 c.2) (fW h rfl rfl (aM (aHv rfl rfl) (aM (yY (v:=zB (decide (9223372036854775807 < c.2))) h rfl rfl) (aU ⟨bD,decide (9223372036854775807 < c.2),hm,rfl,y⟩)))))
 refine aF ?_
 rcases aG hm with ⟨a5,hm⟩|⟨a5,hm⟩
 ·exact aI
 ·exact bT a5 rfl (cN (aC ⟨bD,hm,hs⟩))
theorem pG {a b:Int} {p:(List (List Bool))} {c:Nat} {R:Bool} (hm:jV a b p=some R) (e:aD G K (L) w) (g:cT K a1 c [zS a4 p.length c5]) (h:aW K a4 c5 p):
  Calls Tryz.prog 153 ([i64 a,i64 b,cD a1 c]:List Value).toArray w (dS fun v w'=>v=zB R/\aD G K (L) w'):=by
 refine cM func153 ?_;unfold jV at hm
 iterate 6 refine cE ?_
 exact aY [] (fun f w=>∃ d,sI d=some R/\f 5=zB d/\aD G K (L) w) aI aI
theorem wC {a b:Int} {e:Nat} {d:(List (List Bool))} {c:Nat} {R:Bool} (hm:nT a b d=some R) (h:aD G K (L) w) (m:cT K a1 e [Value.func (.func 153) #[] #[cD a4 c]]) (i:cT K a4 c [zS a7 d.length c8]) (j:aW K a7 c8 d):
  Calls Tryz.prog 129 ([i64 a,i64 b,cD a1 e]:List Value).toArray w (dS fun v w'=>v=zB R/\aD G K (L) w'):=by
 refine cM func129 ?_;unfold nT at hm
 iterate 6 refine cE ?_
 refine aY [] (fun f w=>∃ g,pE g=some R/\f 5=zB g/\aD G K (L) w) aI (aF ?_)
 rcases aG hm with ⟨k,hm⟩|⟨k,hm⟩
 ·exact aI
 ·refine aF ?_;obtain ⟨n,l,hm⟩:=aB hm
  exact fR (vs:=[i64 a,i64 b]) (caps:=[cD a4 c]) (us:=[i64 a,i64 b,cD a4 c]) rfl call153 rfl rfl (pG l h i j) aI
theorem tX {a b:Int} {p:Bool} {e c:Nat} {d:(List (List Bool))} {g:Nat} {R:Bool} (hm:mU a b p d=some R) (i:aD G K (box b1 4 [zB p]::L) w) (o:cT K a2 e [Value.func (.func 129) #[] #[cD a5 c]]) (j:cT K a5 c [Value.func (.func 153) #[] #[cD a8 g]]) (k:cT K a8 g [zS a11 d.length c12]) (l:aW K a11 c12 d):
  Calls Tryz.prog 155 ([i64 a,i64 b,zP (some ⟨b1,0,none⟩),cD a2 e]:List Value).toArray w (dS fun v w'=>v=zT #[]/\aD G K (box b1 4 [zB R]::L) w'):=by
 refine cM func155 ?_;unfold mU at hm
 refine aY [] (fun f w=>∃ h,wV h=some R/\aD G K (box b1 4 [zB h]::L) w) aI (aF ?_)
 rcases aG hm with ⟨m,hm⟩|⟨m,hm⟩
 ·exact aI
 ·refine aF ?_;obtain ⟨q,n,hm⟩:=aB hm
  exact fR (vs:=[i64 a,i64 b]) (caps:=[cD a5 c]) (us:=[i64 a,i64 b,cD a5 c]) rfl call129 rfl rfl (wC n i j k l) aI
theorem aBV {o:bZ} {u y:Int} {x:Bool} {d z:Nat} {l:(List (List Bool))} {J:Nat} {R:Bool} (hm:sJ o u y x l=some R) (hs:aD G K (box b13 4 [zB x]::L) w) (V:aW K a1 c2 o.t.L) (h6:aW K a4 c5 o.t.E) (h9:aW K a7 c8 o.p.L) (b4:aW K a10 c11 o.p.E) (Z:cT K a14 d [Value.func (.func 129) #[] #[cD a17 z]]) (a0:cT K a17 z [Value.func (.func 153) #[] #[cD a20 J]]) (a2:cT K a20 J [zS a23 l.length c24]) (a3:aW K a23 c24 l):
  Calls Tryz.prog 154 ([zA #[i64 o.t.N,i64 o.t.I,zS a1 o.t.L.length c2,zS a4 o.t.E.length c5,i64 o.p.N,i64 o.p.I,zS a7 o.p.L.length c8,zS a10 o.p.E.length c11],i64 u,i64 y,Value.func (.func 155) #[] #[zP (some ⟨b13,0,none⟩),cD a14 d]]:List Value).toArray w (dS fun v w'=>v=zT #[]/\aD G K (box b13 4 [zB R]::L) w'):=by
 let m:=[i64 o.t.N,i64 o.t.I,zS a1 o.t.L.length c2,zS a4 o.t.E.length c5,i64 o.p.N,i64 o.p.I,zS a7 o.p.L.length c8,zS a10 o.p.E.length c11]
 refine cM func154 ?_;unfold sJ at hm
 refine aF ?_;refine oE fun n e4 b5=>?_
 refine aF ?_;obtain ⟨g,b6,hm⟩:=aB hm
 refine cC call30 (xC b6 b5 V h6) ?_
 rintro _ e5 ⟨h,j,rfl,e6⟩
 refine aF ?_;refine aK [] (fun f w=>∃ a5,yS a5=some R/\aD G K (box b13 4 [zB a5]::L) w) aI ?_
 obtain ⟨e7,b7,ho⟩:=aB hm
 refine bV [2,3,4,13,14] b7 (fun k q f w=>f 15=i64 q/\aD G K (aH 52 K h j g::box n 56 m::box b13 4 [zB k]::L) w) aI ?_
 ·rintro k q b8 f e8 hm hr ⟨b9,c0⟩
  unfold lB at hm
  refine aF ?_
  rcases aG hm with ⟨c1,hm⟩|⟨c1,hm⟩
  ·refine aF ?_;refine aK [2,3,4,13,14,15] (fun f w=>∃ r,nK q r=some b8/\aD G K (aH 52 K h j g::box n 56 m::box b13 4 [zB r]::L) w) ?_ ?_
   ·rintro f e9 ⟨r,hm,c3⟩
    unfold nK at hm
    refine aF ?_;exact ⟨_,(zI hm).symm,bD,rfl,c3⟩
   refine aF ?_;obtain ⟨c,a6,hm⟩:=aB hm
   have c4:=bS c0 (i:=0) rfl a6
   refine aM (cS iY rfl c4 rfl rfl b9 a6) (aF ?_);refine iN fun c6 f0 f1=>?_
   refine gM fun c7 c9=>?_;refine aF ?_
   rcases aG hm with ⟨d0,hm⟩|⟨d0,hm⟩
   ·refine aF ?_
    have d1:aD G K (box b13 4 [zB k]::box c6 52 [i64 c.F,i64 c.B,i64 c.To]::aH 52 K h j g::box n 56 m::L) c7:=lY
    obtain ⟨f2,d2,hm⟩:=aB hm
    exact fR (vs:=[i64 c.To,i64 y]) (caps:=[zP (some ⟨b13,0,none⟩),cD a14 d]) (us:=[i64 c.To,i64 y,zP (some ⟨b13,0,none⟩),cD a14 d]) rfl call155 rfl rfl (tX d2 d1 Z a0 a2 a3) aI
   ·refine aF ?_;obtain ⟨f3,e,a8,d3,f4⟩:=aD.lendBp c9 .head
    obtain ⟨d4,b,a9,f5,d5⟩:=aD.lendBp d3 (.tail .head)
    refine wI [(0,0),(1,0),(2,0),(3,0),(4,0),(5,0),(6,0),(7,0),(8,0),(9,0),(10,0),(11,0),(12,0),(13,1),(14,1)] fun f6 a=>?_;refine aF ?_
    refine cI rfl (fun _ ⟨_,a⟩=>bU (t:=2) lD a (a8.mono b) rfl rfl) (cI rfl (fun _ _=>dF (t':=4) aIF rfl rfl) (cI rfl (fun _ ⟨_,a⟩=>nA (t:=4) (vs:=(zC o.p a7 c8 a10 c11)) mS a a9 rfl rfl rfl) (cI rfl (fun _ _=>cX (v:=i64 y) rfl) (cI rfl (fun _ _=>dF (t':=0) aIE rfl rfl) (cI rfl (fun _ _=>dF (t':=2) vU rfl rfl) (cI rfl (fun _ ⟨_,a⟩=>bU (t:=2) uC a a9 rfl rfl) (cI rfl (fun _ _=>dF (t':=1) aDv rfl rfl) (cI rfl (fun _ ⟨_,a⟩=>bU (t:=1) lD a (a8.mono b) rfl rfl) ?_))))))))
    obtain ⟨f7,d6,hm⟩:=aB hm
    refine aF ?_;obtain ⟨f8,f9,d7⟩:=aW.el (sz:=1) rfl V d6
    cases d7
    refine aF ?_;refine eQ rfl ?_
    obtain ⟨b0,d8,hm⟩:=aB hm
    refine cC call35 (iK d8 a (h9.mono (zL e b)) (b4.mono (zL e b))) ?_
    rintro _ d9 ⟨rfl,e0⟩
    refine aL (aC ⟨⟨_,e0⟩,?_⟩)
    refine eQ rfl ?_
    have e1:aD G d4 (box b13 4 [zB k]::aH 52 K h j g::L) d9:=lY
    obtain ⟨g0,e2,hm⟩:=aB hm
    refine fR (vs:=[i64 c.To,i64 b0]) (caps:=[zP (some ⟨b13,0,none⟩),cD a14 d]) (us:=[i64 c.To,i64 b0,zP (some ⟨b13,0,none⟩),cD a14 d]) rfl call155 rfl rfl (tX e2 e1 (Z.mono (zL e b)) (a0.mono (zL e b)) (a2.mono (zL e b)) (a3.mono (zL e b))) ?_
    rintro _ g1 ⟨rfl,b1⟩
    refine aL (aC ⟨⟨_,b1⟩,?_⟩)
    refine yO ?_
    have g2:=d5 _ _ b1
    exact aI
  ·exact aI
theorem aDn {o:bZ} {c y:Int} {d:Nat} {b:(List (List Bool))} {e:Nat} {R:Bool} (hm:aBv o c y b=some R) (J:aD G K (L) w) (g:aW K a1 c2 o.t.L) (h:aW K a4 c5 o.t.E) (i:aW K a7 c8 o.p.L) (j:aW K a10 c11 o.p.E) (k:cT K a13 d [Value.func (.func 153) #[] #[cD a16 e]]) (l:cT K a16 e [zS a19 b.length c20]) (m:aW K a19 c20 b):
  Calls Tryz.prog 128 ([zA #[i64 o.t.N,i64 o.t.I,zS a1 o.t.L.length c2,zS a4 o.t.E.length c5,i64 o.p.N,i64 o.p.I,zS a7 o.p.L.length c8,zS a10 o.p.E.length c11],i64 c,i64 y,Value.func (.func 129) #[] #[cD a13 d]]:List Value).toArray w (dS fun v w'=>v=zB R/\aD G K (L) w'):=by
 refine cM func128 ?_;unfold aBv at hm
 refine aF ?_;refine oE fun V Z a0=>?_
 refine oE fun n a2 a3=>?_;refine aF ?_
 refine iN fun q a5 a6=>?_;refine gM fun a8 r=>?_
 iterate 7 refine cE ?_
 refine aM (fF (vs:=[zP (some ⟨q,0,none⟩),zP (some ⟨n,0,none⟩)]) rfl) ?_;obtain ⟨a9,a,u,x,b0⟩:=aD.lendBp r (.tail .head)
 obtain ⟨b1,z,hm⟩:=aB hm
 exact cC call154 (aBV z x (g.mono a) (h.mono a) (i.mono a) (j.mono a) u (k.mono a) (l.mono a) (m.mono a)) aI
theorem aAf {c y:Int} {b:(List (List Bool))} {d:Nat} {p:bZ} {e:Nat} {R:Bool} (hm:rT c y b p=some R) (u:aD G K (L) w) (g:cT K a1 d [zS a4 b.length c5]) (h:aW K a4 c5 b) (x:cT K a7 e [i64 p.t.N,i64 p.t.I,zS a10 p.t.L.length c11,zS a13 p.t.E.length c14,i64 p.p.N,i64 p.p.I,zS a16 p.p.L.length c17,zS a19 p.p.E.length c20]) (i:aW K a10 c11 p.t.L) (j:aW K a13 c14 p.t.E) (k:aW K a16 c17 p.p.L) (l:aW K a19 c20 p.p.E):
  Calls Tryz.prog 127 ([i64 c,i64 y,Value.func (.func 153) #[] #[cD a1 d],cD a7 e]:List Value).toArray w (dS fun v w'=>v=zB R/\aD G K (L) w'):=by
 refine cM func127 ?_;unfold rT at hm
 refine aF ?_;refine oE fun m z n=>?_
 iterate 8 refine cE ?_
 refine aM (fF (vs:=[zP (some ⟨m,0,none⟩)]) rfl) ?_;obtain ⟨J,a,o,q,V⟩:=aD.lendBp n .head
 obtain ⟨Z,r,hm⟩:=aB hm
 exact cC call128 (aDn r q (i.mono a) (j.mono a) (k.mono a) (l.mono a) o (g.mono a) (h.mono a)) aI
theorem aBI {o:bZ} {e:Bool} {d:bZ} {b7:Nat} {R:(List (List Bool))} (hm:vY o e d=some R) (hs:aD G K (L) w) (h3:aW K a1 c2 o.t.L) (h6:aW K a4 c5 o.t.E) (h9:aW K a7 c8 o.p.L) (n4:aW K a10 c11 o.p.E) (g7:cT K a13 b7 [i64 d.t.N,i64 d.t.I,zS a16 d.t.L.length c17,zS a19 d.t.E.length c20,i64 d.p.N,i64 d.p.I,zS a22 d.p.L.length c23,zS a25 d.p.E.length c26]) (g8:aW K a16 c17 d.t.L) (g9:aW K a19 c20 d.t.E) (h0:aW K a22 c23 d.p.L) (h1:aW K a25 c26 d.p.E):
  Calls Tryz.prog 126 ([zA #[i64 o.t.N,i64 o.t.I,zS a1 o.t.L.length c2,zS a4 o.t.E.length c5,i64 o.p.N,i64 o.p.I,zS a7 o.p.L.length c8,zS a10 o.p.E.length c11],zB e,Value.func (.func 127) #[] #[cD a13 b7]]:List Value).toArray w (dS fun v w'=>∃ e9 f0 c9,v=zS e9 R.length f0/\List.length c9=List.length R/\aD G K (aH 113 K e9 f0 (aP c9 R)::rows [4] c9 R::L) w'):=by
 let a0:=[i64 o.t.N,i64 o.t.I,zS a1 o.t.L.length c2,zS a4 o.t.E.length c5,i64 o.p.N,i64 o.p.I,zS a7 o.p.L.length c8,zS a10 o.p.E.length c11]
 refine cM func126 ?_;unfold vY at hm
 refine aF ?_;refine oE fun a2 n5 h2=>?_
 refine aF ?_;obtain ⟨a,f1,hm⟩:=aB hm
 refine WO_mkD (tys:=[4]) (hd:=((none,0):Dp.Hd (List Bool))) aHJ ez_113 rfl rfl h2 rfl rfl rfl f1 rfl (pcs_nil _) ?_
 intro b h4 (n6:aD G K (aH 113 K b a.length (aP (List.replicate o.t.N.toNat ((none,0):Dp.Hd (List Bool))) a)::rows [4] (List.replicate o.t.N.toNat ((none,0):Dp.Hd (List Bool))) a::box a2 56 a0::L) h4)
 refine iN fun c n7 n8=>?_;refine gM fun n9 h5=>?_
 refine aF ?_;refine aK [1,2,7] (fun f w=>∃ x b8,oY e d x=some R/\List.length b8=List.length x/\aD G K (box c 82 [zS b x.length a.length]::aH 113 K b a.length (aP b8 x)::rows [4] b8 x::L) w) ?_ ?_
 ·rintro f o0 ⟨x,b8,hm,o1,o2⟩
  unfold oY at hm
  iterate 3 refine cE ?_
  refine aM (fF (vs:=[zP (some ⟨c,0,none⟩)]) rfl) (aF ?_);refine aK [7] (fun f w=>∃ a3 d0,wW a3=some R/\List.length d0=List.length a3/\aD G K (box c 82 [zS b a3.length a.length]::aH 113 K b a.length (aP d0 a3)::rows [4] d0 a3::L) w) aI ?_
  obtain ⟨o3,h7,ho⟩:=aB hm
  refine bV [1,2,7,9] h7 (fun a5 f2 f w=>∃ b9,f 10=zB f2/\List.length b9=List.length a5/\aD G K (box c 82 [zS b a5.length a.length]::aH 113 K b a.length (aP b9 a5)::rows [4] b9 a5::L) w) aI ?_
  ·rintro a5 f2 f3 f o4 hm hr ⟨b9,o5,o6,o7⟩
   unfold oX at hm
   refine aF ?_
   rcases aG hm with ⟨h8,hm⟩|⟨h8,hm⟩
   ·refine aF ?_;refine aK [1,2,7,9] (fun f w=>∃ y d1 a6,wX y d1=some f3/\f 10=zB d1/\List.length a6=List.length y/\aD G K (box c 82 [zS b y.length a.length]::aH 113 K b a.length (aP a6 y)::rows [4] a6 y::L) w) ?_ ?_
    ·rintro f o8 ⟨y,d1,a6,hm,i0,i1,i2⟩
     unfold wX at hm
     refine aF ?_;exact ⟨_,(zI hm).symm,bD,a6,i0,i1,i2⟩
    refine aF ?_;refine aK [1,2,7,9] (fun f w=>∃ a8 f4 d2,aCF a8 f4=some f3/\f 10=zB f4/\List.length d2=List.length a8/\aD G K (box c 82 [zS b a8.length a.length]::aH 113 K b a.length (aP d2 a8)::rows [4] d2 a8::L) w) aI ?_
    obtain ⟨o9,i3,ho⟩:=aB hm
    refine lK [1,2,7,9,35] i3 (fun a9 f5 r f w=>∃ c0,f 10=zB f5/\f 36=i64 r/\List.length c0=List.length a9/\aD G K (box c 82 [zS b a9.length a.length]::aH 113 K b a.length (aP c0 a9)::rows [4] c0 a9::L) w) aI ?_
    ·rintro a9 f5 r f6 f p0 hm hr ⟨c0,p1,p2,d3,f7⟩
     unfold mI at hm
     refine aF ?_
     rcases aG hm with ⟨i4,hm⟩|⟨i4,hm⟩
     ·refine aF ?_;refine aK [1,2,7,9,35,36] (fun f w=>∃ z d4 b0,qB r z d4=some f6/\f 10=zB d4/\List.length b0=List.length z/\aD G K (box c 82 [zS b z.length a.length]::aH 113 K b a.length (aP b0 z)::rows [4] b0 z::L) w) ?_ ?_
      ·rintro f p3 ⟨z,d4,b0,hm,i5,i6,i7⟩
       unfold qB at hm
       refine aF ?_;exact ⟨_,(zI hm).symm,bD,b0,i5,rfl,i6,i7⟩
      refine aF ?_;obtain ⟨i8,c1,hm⟩:=aB hm
      obtain ⟨⟨p4,p5⟩,f8⟩:=aCT d3 c1
      have d5:=bS f7 (i:=1) rfl (mE d3 c1 f8)
      refine aM (cS aHJ rfl d5 rfl rfl rfl c1) (aM (yC (t:=0) aJw f7 (i:=1) rfl (mE d3 c1 f8) rfl rfl rfl) (aM (gU (len:=i8.length) mF rfl) (aR (v:=i64 0) (aU (aK [1,2,7,9,35,36] (fun f w=>∃ b1 f9 d6,wY r b1 f9=some f6/\f 10=zB f9/\List.length d6=List.length b1/\aD G K (box c 82 [zS b b1.length a.length]::aH 113 K b a.length (aP d6 b1)::rows [4] d6 b1::L) w) aI ?_)))));obtain ⟨p6,i9,ho⟩:=aB hm
      refine lK [1,2,7,9,11,35,36,43] i9 (fun j d7 l f w=>∃ h,f 10=zB d7/\f 44=i64 l/\List.length h=List.length j/\aD G K (box c 82 [zS b j.length a.length]::aH 113 K b a.length (aP h j)::rows [4] h j::L) w) aI ?_
      ·rintro j d7 l g0 f p7 hm hr ⟨h,p8,p9,u,c3⟩
       unfold fU at hm
       refine aF ?_
       rcases aG hm with ⟨j0,hm⟩|⟨j0,hm⟩
       ·refine aF ?_;refine aK [1,2,7,9,11,35,36,43,44] (fun f w=>∃ J d8 b2,iE l J d8=some g0/\f 10=zB d8/\List.length b2=List.length J/\aD G K (box c 82 [zS b J.length a.length]::aH 113 K b a.length (aP b2 J)::rows [4] b2 J::L) w) ?_ ?_
        ·rintro f q0 ⟨J,d8,b2,hm,j1,j2,j3⟩
         unfold iE at hm
         refine aF ?_;exact ⟨_,(zI hm).symm,bD,b2,j1,rfl,j2,j3⟩
        iterate 7 refine cE ?_
        refine aY [1,2,7,9,10,11,12,35,36,43,44] (fun f w=>∃ d9,iF e r j d7 l d9=some g0/\f 62=zB d9/\aD G K (box c 82 [zS b j.length a.length]::aH 113 K b a.length (aP h j)::rows [4] h j::L) w) ?_ ?_
        ·rintro f q1 ⟨d9,hm,q2,e0⟩
         unfold iF at hm
         refine aF ?_
         rcases aG hm with ⟨j4,hm⟩|⟨j4,hm⟩
         ·refine aF ?_;obtain ⟨q3,b3,hm⟩:=aB hm
          refine aM (cS aHJ rfl d5 rfl rfl rfl b3) ?_;obtain ⟨⟨q4,q5⟩,e1⟩:=aCT u b3
          refine aM (yC (t:=0) aJw e0 (i:=1) rfl (mE u b3 e1) rfl rfl rfl) (aR (v:=i64 l) (aR (v:=zB e) (aM (aMs rfl) ?_)));obtain ⟨q6,e2,hm⟩:=aB hm
          have j5:=bS (aD.rowOut (i:=2) e0 rfl e1 (aHB b3)) (i:=0) rfl e2
          refine aM (cS mF rfl j5 rfl rfl rfl e2) ?_;obtain ⟨q7,j6,hm⟩:=aB hm
          obtain ⟨V,e3,hm⟩:=aB hm
          refine WO_stR (i:=1) (t:=0) (ns:=[zB (!e)]) (e':=(!e:Bool)) sizeOf4 e0 u rfl rfl e1 b3 rfl rfl rfl e2 j6 e3 rfl rfl (nI rfl) rfl rfl (fun g1 (j7:aD G K (aH 113 K b a.length (aP h V)::rows [4] h V::box c 82 [zS b j.length a.length]::L) g1)=>?_)
          have q8:aD G K (aH 113 K b a.length (aP h V)::rows [4] h V::box c 82 [zS b V.length a.length]::L) g1:=by rw [←(jM e3)];exact j7
          refine aF ?_;exact ⟨bD,V,true,h,hm,rfl,(u.trans (jM e3)),lY⟩
         ·exact aI
        refine aF ?_;obtain ⟨q9,b4,hm⟩:=aB hm
        refine aM (cS aHJ rfl d5 rfl rfl rfl b4) ?_;obtain ⟨⟨r0,r1⟩,e4⟩:=aCT u b4
        refine aM (yC (t:=0) aJw c3 (i:=1) rfl (mE u b4 e4) rfl rfl rfl) (aR (v:=i64 l) ?_);obtain ⟨r2,e5,hm⟩:=aB hm
        have j8:=bS (aD.rowOut (i:=2) c3 rfl e4 (aHB b4)) (i:=0) rfl e5
        refine aM (cS mF rfl j8 rfl rfl rfl e5) (aM (yC (t:=0) sc_4 (aD.rowOut (i:=2) c3 rfl e4 (aHB b4)) (i:=0) rfl e5 rfl rfl rfl) (aR (v:=zB e) (aM (R_eqlB runUnderlying4 rfl rfl) (aF ?_))))
        rcases aG hm with ⟨j9,hm⟩|⟨j9,hm⟩
        ·refine aF ?_;obtain ⟨r3,b5,k0,r4,k1,k2⟩:=aD.lendD' (i:=1) c3 u rfl rfl
         obtain ⟨r5,Z,k3,k4,k5⟩:=aD.lendBp k1 .head
         obtain ⟨k6,k7,hm⟩:=aB hm
         refine fR (vs:=[i64 r,i64 l,Value.func (.func 153) #[] #[cD (some ⟨c,0,none⟩) 0]]) (caps:=[cD a13 b7]) (us:=[i64 r,i64 l,Value.func (.func 153) #[] #[cD (some ⟨c,0,none⟩) 0],cD a13 b7]) rfl call127 rfl rfl (aAf k7 k4 k3 (k0.mono Z) (g7.mono (zL b5 Z)) (g8.mono (zL b5 Z)) (g9.mono (zL b5 Z)) (h0.mono (zL b5 Z)) (h1.mono (zL b5 Z))) ?_
         rintro _ r6 ⟨rfl,k8⟩
         have k9:=k5 _ _ k8
         have l0:=k2 _ _ k9
         refine aF ?_;exact ⟨bD,k6,hm,rfl,(aD.arr 3 [2,0,1] l0 rfl)⟩
        ·exact aI
       ·exact aI
     ·exact aI
   ·exact aI
 obtain ⟨r7,l1,ho⟩:=aB hm
 refine bV [1,2,3,7,18] l1 (fun k m f w=>∃ g,f 19=i64 m/\List.length g=List.length k/\aD G K (box c 82 [zS b k.length a.length]::aH 113 K b a.length (aP g k)::rows [4] g k::box a2 56 a0::L) w) ?_ ?_
 ·exact ⟨(List.replicate o.t.N.toNat ((none,0):Dp.Hd (List Bool))),rfl,(aKL (hd:=((none,0):Dp.Hd (List Bool))) f1).2.1,h5⟩
 ·rintro k m r8 f r9 hm hr ⟨g,s0,c4,l2⟩
  unfold lL at hm
  refine aF ?_
  rcases aG hm with ⟨l3,hm⟩|⟨l3,hm⟩
  ·refine aF ?_;refine cA (aF ?_)
   obtain ⟨s1,l4,l5,l6,l7⟩:=aD.lendBp l2 .head
   obtain ⟨s2,g2,l8,s3,l9⟩:=aD.lendBp l6 (.tail (.tail .head))
   refine wI [(0,0),(1,0),(2,0),(4,0),(5,0),(6,0),(3,1),(7,1),(8,0),(9,2)] fun s4 c6=>?_;refine cI rfl (fun _ ⟨_,c6⟩=>bU (t:=0) sc_82 c6 (l5.mono g2) rfl rfl) (cI rfl (fun _ _=>cX (v:=i64 m) rfl) (cI rfl (fun _ _=>cX (v:=zB e) rfl) (cI rfl (fun _ _=>dF (t':=4) aIF rfl rfl) (cI rfl (fun _ _=>dF (t':=4) aAk rfl rfl) (cI rfl (fun _ ⟨_,c6⟩=>bU (t:=4) lD c6 l8 rfl rfl) (eQ rfl (lI ([e]:List Bool) fun e6 s5 g3=>?_)))))))
   refine aL (aC ⟨⟨_,g3⟩,?_⟩)
   refine eQ rfl ?_;obtain ⟨s6,s7,m0,m1,m2⟩:=aD.lendSp g3 (zL l4 g2) .head
   obtain ⟨g4,m3,hm⟩:=aB hm
   refine cC call152 (kG m3 m1 m0) ?_
   rintro _ m4 ⟨n,q,rfl,m5⟩
   have e7:=m2 _ _ m5
   refine aL (aC ⟨⟨_,e7⟩,?_⟩)
   obtain ⟨s8,c7,hm⟩:=aB hm
   obtain ⟨⟨s9,t0⟩,g5⟩:=aCT c4 c7
   have m6:=bS e7 (i:=2) rfl (mE c4 c7 g5)
   refine cI rfl (fun _ _=>cS aHJ rfl m6 rfl rfl rfl c7) ?_
   have m7:=l9 _ _ e7
   have t1:=l7 _ _ m7
   refine aFJ rfl ?_
   have m8:aD G K (aH 4 K n q g4::box c 82 [zS b k.length a.length]::box a2 56 a0::aH 4 K e6 1 ([e]:List Bool)::aH 113 K b a.length (aP g k)::rows [4] g k::L) m4:=lY
   obtain ⟨b6,e8,hm⟩:=aB hm
   refine WO_stD (i:=3) (tys:=[4]) (hd':=(n,q)) (e':=g4) (hds:=g) sizeOf113 m8 c4 rfl rfl rfl rfl rfl c7 g5 e8 rfl ?_
   intro g6 (m9:aD G K (aH 113 K b a.length (aP (List.set g m.toNat (n,q)) b6)::rows [4] (List.set g m.toNat (n,q)) b6::box c 82 [zS b k.length a.length]::box a2 56 a0::aH 4 K e6 1 ([e]:List Bool)::L) g6)
   have t2:aD G K (aH 113 K b a.length (aP (List.set g m.toNat (n,q)) b6)::rows [4] (List.set g m.toNat (n,q)) b6::box c 82 [zS b b6.length a.length]::box a2 56 a0::aH 4 K e6 1 ([e]:List Bool)::L) g6:=by rw [←(jM e8)];exact m9
   refine aF ?_;refine yO (aF ?_)
   exact ⟨_,(zI hm).symm,bD,(List.set g m.toNat (n,q)),rfl,(set_len (hd:=((n,q):Dp.Hd (List Bool))) c4 e8),lY⟩
  ·exact aI
theorem aHt {o:bZ} {R:(List (List Bool))} (hm:sK o=some R) (q:aD G K (L) w) (c:aW K a1 c2 o.t.L) (d:aW K a4 c5 o.t.E) (e:aW K a7 c8 o.p.L) (g:aW K a10 c11 o.p.E):
  Calls Tryz.prog 78 ([zA #[i64 o.t.N,i64 o.t.I,zS a1 o.t.L.length c2,zS a4 o.t.E.length c5,i64 o.p.N,i64 o.p.I,zS a7 o.p.L.length c8,zS a10 o.p.E.length c11]]:List Value).toArray w (dS fun v w'=>∃ h i b,v=zS h R.length i/\List.length b=List.length R/\aD G K (aH 113 K h i (aP b R)::rows [4] b R::L) w'):=by
 refine cM func78 ?_;unfold sK at hm
 refine aF ?_;refine oE fun j r k=>?_
 iterate 6 refine cE ?_
 refine aM (fF (vs:=[zP (some ⟨j,0,none⟩)]) rfl) ?_;obtain ⟨u,a,l,m,x⟩:=aD.lendBp k .head
 obtain ⟨y,n,hm⟩:=aB hm
 exact cC call126 (aBI n m (c.mono a) (d.mono a) (e.mono a) (g.mono a) l (c.mono a) (d.mono a) (e.mono a) (g.mono a)) aI
theorem pH {a b:Int} {p:Bool} {e:Nat} {d:(List (List Bool))} {c:Nat} {R:Bool} (hm:jW a b p d=some R) (h:aD G K (box b1 4 [zB p]::L) w) (m:cT K a2 e [Value.func (.func 153) #[] #[cD a5 c]]) (i:cT K a5 c [zS a8 d.length c9]) (j:aW K a8 c9 d):
  Calls Tryz.prog 155 ([i64 a,i64 b,zP (some ⟨b1,0,none⟩),cD a2 e]:List Value).toArray w (dS fun v w'=>v=zT #[]/\aD G K (box b1 4 [zB R]::L) w'):=by
 refine cM func155 ?_;unfold jW at hm
 refine aY [] (fun f w=>∃ g,sL g=some R/\aD G K (box b1 4 [zB g]::L) w) aI (aF ?_)
 rcases aG hm with ⟨k,hm⟩|⟨k,hm⟩
 ·exact aI
 ·refine aF ?_;obtain ⟨n,l,hm⟩:=aB hm
  exact fR (vs:=[i64 a,i64 b]) (caps:=[cD a5 c]) (us:=[i64 a,i64 b,cD a5 c]) rfl call153 rfl rfl (pG l h i j) aI
theorem aAg {o:bZ} {u y:Int} {x:Bool} {d:Nat} {l:(List (List Bool))} {z:Nat} {R:Bool} (hm:nL o u y x l=some R) (hs:aD G K (box b13 4 [zB x]::L) w) (J:aW K a1 c2 o.t.L) (h6:aW K a4 c5 o.t.E) (h9:aW K a7 c8 o.p.L) (b2:aW K a10 c11 o.p.E) (V:cT K a14 d [Value.func (.func 153) #[] #[cD a17 z]]) (Z:cT K a17 z [zS a20 l.length c21]) (a0:aW K a20 c21 l):
  Calls Tryz.prog 154 ([zA #[i64 o.t.N,i64 o.t.I,zS a1 o.t.L.length c2,zS a4 o.t.E.length c5,i64 o.p.N,i64 o.p.I,zS a7 o.p.L.length c8,zS a10 o.p.E.length c11],i64 u,i64 y,Value.func (.func 155) #[] #[zP (some ⟨b13,0,none⟩),cD a14 d]]:List Value).toArray w (dS fun v w'=>v=zT #[]/\aD G K (box b13 4 [zB R]::L) w'):=by
 let m:=[i64 o.t.N,i64 o.t.I,zS a1 o.t.L.length c2,zS a4 o.t.E.length c5,i64 o.p.N,i64 o.p.I,zS a7 o.p.L.length c8,zS a10 o.p.E.length c11]
 refine cM func154 ?_;unfold nL at hm
 refine aF ?_;refine oE fun n e2 b3=>?_
 refine aF ?_;obtain ⟨g,b4,hm⟩:=aB hm
 refine cC call30 (xC b4 b3 J h6) ?_
 rintro _ e3 ⟨h,j,rfl,e4⟩
 refine aF ?_;refine aK [] (fun f w=>∃ a2,tS a2=some R/\aD G K (box b13 4 [zB a2]::L) w) aI ?_
 obtain ⟨e5,b5,ho⟩:=aB hm
 refine bV [2,3,4,13,14] b5 (fun k q f w=>f 15=i64 q/\aD G K (aH 52 K h j g::box n 56 m::box b13 4 [zB k]::L) w) aI ?_
 ·rintro k q b6 f e6 hm hr ⟨b7,b8⟩
  unfold iP at hm
  refine aF ?_
  rcases aG hm with ⟨b9,hm⟩|⟨b9,hm⟩
  ·refine aF ?_;refine aK [2,3,4,13,14,15] (fun f w=>∃ r,kP q r=some b6/\aD G K (aH 52 K h j g::box n 56 m::box b13 4 [zB r]::L) w) ?_ ?_
   ·rintro f e7 ⟨r,hm,c0⟩
    unfold kP at hm
    refine aF ?_;exact ⟨_,(zI hm).symm,bD,rfl,c0⟩
   refine aF ?_;obtain ⟨b,a3,hm⟩:=aB hm
   have c1:=bS b8 (i:=0) rfl a3
   refine aM (cS iY rfl c1 rfl rfl b7 a3) (aF ?_);refine iN fun c3 e8 e9=>?_
   refine gM fun c4 c6=>?_;refine aF ?_
   rcases aG hm with ⟨c7,hm⟩|⟨c7,hm⟩
   ·refine aF ?_
    have c9:aD G K (box b13 4 [zB k]::box c3 52 [i64 b.F,i64 b.B,i64 b.To]::aH 52 K h j g::box n 56 m::L) c4:=lY
    obtain ⟨f0,d0,hm⟩:=aB hm
    exact fR (vs:=[i64 b.To,i64 y]) (caps:=[zP (some ⟨b13,0,none⟩),cD a14 d]) (us:=[i64 b.To,i64 y,zP (some ⟨b13,0,none⟩),cD a14 d]) rfl call155 rfl rfl (pH d0 c9 V Z a0) aI
   ·refine aF ?_;obtain ⟨f1,e,a5,d1,f2⟩:=aD.lendBp c6 .head
    obtain ⟨d2,c,a6,f3,d3⟩:=aD.lendBp d1 (.tail .head)
    refine wI [(0,0),(1,0),(2,0),(3,0),(4,0),(5,0),(6,0),(7,0),(8,0),(9,0),(10,0),(11,0),(12,0),(13,1),(14,1)] fun f4 a=>?_;refine aF ?_
    refine cI rfl (fun _ ⟨_,a⟩=>bU (t:=2) lD a (a5.mono c) rfl rfl) (cI rfl (fun _ _=>dF (t':=4) aIF rfl rfl) (cI rfl (fun _ ⟨_,a⟩=>nA (t:=4) (vs:=(zC o.p a7 c8 a10 c11)) mS a a6 rfl rfl rfl) (cI rfl (fun _ _=>cX (v:=i64 y) rfl) (cI rfl (fun _ _=>dF (t':=0) aIE rfl rfl) (cI rfl (fun _ _=>dF (t':=2) vU rfl rfl) (cI rfl (fun _ ⟨_,a⟩=>bU (t:=2) uC a a6 rfl rfl) (cI rfl (fun _ _=>dF (t':=1) aDv rfl rfl) (cI rfl (fun _ ⟨_,a⟩=>bU (t:=1) lD a (a5.mono c) rfl rfl) ?_))))))))
    obtain ⟨f5,d4,hm⟩:=aB hm
    refine aF ?_;obtain ⟨f6,f7,d5⟩:=aW.el (sz:=1) rfl J d4
    cases d5
    refine aF ?_;refine eQ rfl ?_
    obtain ⟨a8,d6,hm⟩:=aB hm
    refine cC call35 (iK d6 a (h9.mono (zL e c)) (b2.mono (zL e c))) ?_
    rintro _ d7 ⟨rfl,d8⟩
    refine aL (aC ⟨⟨_,d8⟩,?_⟩)
    refine eQ rfl ?_
    have d9:aD G d2 (box b13 4 [zB k]::aH 52 K h j g::L) d7:=lY
    obtain ⟨f8,e0,hm⟩:=aB hm
    refine fR (vs:=[i64 b.To,i64 a8]) (caps:=[zP (some ⟨b13,0,none⟩),cD a14 d]) (us:=[i64 b.To,i64 a8,zP (some ⟨b13,0,none⟩),cD a14 d]) rfl call155 rfl rfl (pH e0 d9 (V.mono (zL e c)) (Z.mono (zL e c)) (a0.mono (zL e c))) ?_
    rintro _ f9 ⟨rfl,a9⟩
    refine aL (aC ⟨⟨_,a9⟩,?_⟩)
    refine yO ?_
    have g0:=d3 _ _ a9
    exact aI
  ·exact aI
theorem aGR {o:bZ} {c y:Int} {b:(List (List Bool))} {d:Nat} {R:Bool} (hm:vZ o c y b=some R) (x:aD G K (L) w) (e:aW K a1 c2 o.t.L) (g:aW K a4 c5 o.t.E) (h:aW K a7 c8 o.p.L) (i:aW K a10 c11 o.p.E) (j:cT K a13 d [zS a16 b.length c17]) (k:aW K a16 c17 b):
  Calls Tryz.prog 128 ([zA #[i64 o.t.N,i64 o.t.I,zS a1 o.t.L.length c2,zS a4 o.t.E.length c5,i64 o.p.N,i64 o.p.I,zS a7 o.p.L.length c8,zS a10 o.p.E.length c11],i64 c,i64 y,Value.func (.func 153) #[] #[cD a13 d]]:List Value).toArray w (dS fun v w'=>v=zB R/\aD G K (L) w'):=by
 refine cM func128 ?_;unfold vZ at hm
 refine aF ?_;refine oE fun z J V=>?_
 refine oE fun l Z a0=>?_;refine aF ?_
 refine iN fun m a2 a3=>?_;refine gM fun a5 n=>?_
 iterate 7 refine cE ?_
 refine aM (fF (vs:=[zP (some ⟨m,0,none⟩),zP (some ⟨l,0,none⟩)]) rfl) ?_;obtain ⟨a6,a,q,r,a8⟩:=aD.lendBp n (.tail .head)
 obtain ⟨a9,u,hm⟩:=aB hm
 exact cC call154 (aAg u r (e.mono a) (g.mono a) (h.mono a) (i.mono a) q (j.mono a) (k.mono a)) aI
theorem aAP {b y:Int} {a:(List (List Bool))} {c:Nat} {p:bZ} {d:Nat} {R:Bool} (hm:oR b y a p=some R) (g:aD G K (L) w) (h:cT K a1 c [zS a4 a.length c5]) (i:aW K a4 c5 a) (j:cT K a7 d [i64 p.t.N,i64 p.t.I,zS a10 p.t.L.length c11,zS a13 p.t.E.length c14,i64 p.p.N,i64 p.p.I,zS a16 p.p.L.length c17,zS a19 p.p.E.length c20]) (k:aW K a10 c11 p.t.L) (l:aW K a13 c14 p.t.E) (m:aW K a16 c17 p.p.L) (n:aW K a19 c20 p.p.E):
  Calls Tryz.prog 130 ([i64 b,i64 y,Value.func (.func 153) #[] #[cD a1 c],cD a7 d]:List Value).toArray w (dS fun v w'=>v=zB R/\aD G K (L) w'):=by
 refine cM func130 ?_;unfold oR at hm
 iterate 6 refine cE ?_
 exact aY [] (fun f w=>∃ e,vL e=some R/\f 7=zB e/\aD G K (L) w) aI aI
theorem yF {o:bZ} {e:Bool} {d:bZ} {b7:Nat} {R:(List (List Bool))} (hm:qC o e d=some R) (hs:aD G K (L) w) (h3:aW K a1 c2 o.t.L) (h6:aW K a4 c5 o.t.E) (h9:aW K a7 c8 o.p.L) (n4:aW K a10 c11 o.p.E) (g7:cT K a13 b7 [i64 d.t.N,i64 d.t.I,zS a16 d.t.L.length c17,zS a19 d.t.E.length c20,i64 d.p.N,i64 d.p.I,zS a22 d.p.L.length c23,zS a25 d.p.E.length c26]) (g8:aW K a16 c17 d.t.L) (g9:aW K a19 c20 d.t.E) (h0:aW K a22 c23 d.p.L) (h1:aW K a25 c26 d.p.E):
  Calls Tryz.prog 126 ([zA #[i64 o.t.N,i64 o.t.I,zS a1 o.t.L.length c2,zS a4 o.t.E.length c5,i64 o.p.N,i64 o.p.I,zS a7 o.p.L.length c8,zS a10 o.p.E.length c11],zB e,Value.func (.func 130) #[] #[cD a13 b7]]:List Value).toArray w (dS fun v w'=>∃ e9 f0 c9,v=zS e9 R.length f0/\List.length c9=List.length R/\aD G K (aH 113 K e9 f0 (aP c9 R)::rows [4] c9 R::L) w'):=by
 let a0:=[i64 o.t.N,i64 o.t.I,zS a1 o.t.L.length c2,zS a4 o.t.E.length c5,i64 o.p.N,i64 o.p.I,zS a7 o.p.L.length c8,zS a10 o.p.E.length c11]
 refine cM func126 ?_;unfold qC at hm
 refine aF ?_;refine oE fun a2 n5 h2=>?_
 refine aF ?_;obtain ⟨a,f1,hm⟩:=aB hm
 refine WO_mkD (tys:=[4]) (hd:=((none,0):Dp.Hd (List Bool))) aHJ ez_113 rfl rfl h2 rfl rfl rfl f1 rfl (pcs_nil _) ?_
 intro b h4 (n6:aD G K (aH 113 K b a.length (aP (List.replicate o.t.N.toNat ((none,0):Dp.Hd (List Bool))) a)::rows [4] (List.replicate o.t.N.toNat ((none,0):Dp.Hd (List Bool))) a::box a2 56 a0::L) h4)
 refine iN fun c n7 n8=>?_;refine gM fun n9 h5=>?_
 refine aF ?_;refine aK [1,2,7] (fun f w=>∃ x b8,mA e d x=some R/\List.length b8=List.length x/\aD G K (box c 82 [zS b x.length a.length]::aH 113 K b a.length (aP b8 x)::rows [4] b8 x::L) w) ?_ ?_
 ·rintro f o0 ⟨x,b8,hm,o1,o2⟩
  unfold mA at hm
  iterate 3 refine cE ?_
  refine aM (fF (vs:=[zP (some ⟨c,0,none⟩)]) rfl) (aF ?_);refine aK [7] (fun f w=>∃ a3 d0,sM a3=some R/\List.length d0=List.length a3/\aD G K (box c 82 [zS b a3.length a.length]::aH 113 K b a.length (aP d0 a3)::rows [4] d0 a3::L) w) aI ?_
  obtain ⟨o3,h7,ho⟩:=aB hm
  refine bV [1,2,7,9] h7 (fun a5 f2 f w=>∃ b9,f 10=zB f2/\List.length b9=List.length a5/\aD G K (box c 82 [zS b a5.length a.length]::aH 113 K b a.length (aP b9 a5)::rows [4] b9 a5::L) w) aI ?_
  ·rintro a5 f2 f3 f o4 hm hr ⟨b9,o5,o6,o7⟩
   unfold lZ at hm
   refine aF ?_
   rcases aG hm with ⟨h8,hm⟩|⟨h8,hm⟩
   ·refine aF ?_;refine aK [1,2,7,9] (fun f w=>∃ y d1 a6,sO y d1=some f3/\f 10=zB d1/\List.length a6=List.length y/\aD G K (box c 82 [zS b y.length a.length]::aH 113 K b a.length (aP a6 y)::rows [4] a6 y::L) w) ?_ ?_
    ·rintro f o8 ⟨y,d1,a6,hm,i0,i1,i2⟩
     unfold sO at hm
     refine aF ?_;exact ⟨_,(zI hm).symm,bD,a6,i0,i1,i2⟩
    refine aF ?_;refine aK [1,2,7,9] (fun f w=>∃ a8 f4 d2,aAO a8 f4=some f3/\f 10=zB f4/\List.length d2=List.length a8/\aD G K (box c 82 [zS b a8.length a.length]::aH 113 K b a.length (aP d2 a8)::rows [4] d2 a8::L) w) aI ?_
    obtain ⟨o9,i3,ho⟩:=aB hm
    refine lK [1,2,7,9,35] i3 (fun a9 f5 r f w=>∃ c0,f 10=zB f5/\f 36=i64 r/\List.length c0=List.length a9/\aD G K (box c 82 [zS b a9.length a.length]::aH 113 K b a.length (aP c0 a9)::rows [4] c0 a9::L) w) aI ?_
    ·rintro a9 f5 r f6 f p0 hm hr ⟨c0,p1,p2,d3,f7⟩
     unfold jX at hm
     refine aF ?_
     rcases aG hm with ⟨i4,hm⟩|⟨i4,hm⟩
     ·refine aF ?_;refine aK [1,2,7,9,35,36] (fun f w=>∃ z d4 b0,mV r z d4=some f6/\f 10=zB d4/\List.length b0=List.length z/\aD G K (box c 82 [zS b z.length a.length]::aH 113 K b a.length (aP b0 z)::rows [4] b0 z::L) w) ?_ ?_
      ·rintro f p3 ⟨z,d4,b0,hm,i5,i6,i7⟩
       unfold mV at hm
       refine aF ?_;exact ⟨_,(zI hm).symm,bD,b0,i5,rfl,i6,i7⟩
      refine aF ?_;obtain ⟨i8,c1,hm⟩:=aB hm
      obtain ⟨⟨p4,p5⟩,f8⟩:=aCT d3 c1
      have d5:=bS f7 (i:=1) rfl (mE d3 c1 f8)
      refine aM (cS aHJ rfl d5 rfl rfl rfl c1) (aM (yC (t:=0) aJw f7 (i:=1) rfl (mE d3 c1 f8) rfl rfl rfl) (aM (gU (len:=i8.length) mF rfl) (aR (v:=i64 0) (aU (aK [1,2,7,9,35,36] (fun f w=>∃ b1 f9 d6,sP r b1 f9=some f6/\f 10=zB f9/\List.length d6=List.length b1/\aD G K (box c 82 [zS b b1.length a.length]::aH 113 K b a.length (aP d6 b1)::rows [4] d6 b1::L) w) aI ?_)))));obtain ⟨p6,i9,ho⟩:=aB hm
      refine lK [1,2,7,9,11,35,36,43] i9 (fun j d7 l f w=>∃ h,f 10=zB d7/\f 44=i64 l/\List.length h=List.length j/\aD G K (box c 82 [zS b j.length a.length]::aH 113 K b a.length (aP h j)::rows [4] h j::L) w) aI ?_
      ·rintro j d7 l g0 f p7 hm hr ⟨h,p8,p9,u,c3⟩
       unfold eD at hm
       refine aF ?_
       rcases aG hm with ⟨j0,hm⟩|⟨j0,hm⟩
       ·refine aF ?_;refine aK [1,2,7,9,11,35,36,43,44] (fun f w=>∃ J d8 b2,fG l J d8=some g0/\f 10=zB d8/\List.length b2=List.length J/\aD G K (box c 82 [zS b J.length a.length]::aH 113 K b a.length (aP b2 J)::rows [4] b2 J::L) w) ?_ ?_
        ·rintro f q0 ⟨J,d8,b2,hm,j1,j2,j3⟩
         unfold fG at hm
         refine aF ?_;exact ⟨_,(zI hm).symm,bD,b2,j1,rfl,j2,j3⟩
        iterate 7 refine cE ?_
        refine aY [1,2,7,9,10,11,12,35,36,43,44] (fun f w=>∃ d9,fH e r j d7 l d9=some g0/\f 62=zB d9/\aD G K (box c 82 [zS b j.length a.length]::aH 113 K b a.length (aP h j)::rows [4] h j::L) w) ?_ ?_
        ·rintro f q1 ⟨d9,hm,q2,e0⟩
         unfold fH at hm
         refine aF ?_
         rcases aG hm with ⟨j4,hm⟩|⟨j4,hm⟩
         ·refine aF ?_;obtain ⟨q3,b3,hm⟩:=aB hm
          refine aM (cS aHJ rfl d5 rfl rfl rfl b3) ?_;obtain ⟨⟨q4,q5⟩,e1⟩:=aCT u b3
          refine aM (yC (t:=0) aJw e0 (i:=1) rfl (mE u b3 e1) rfl rfl rfl) (aR (v:=i64 l) (aR (v:=zB e) (aM (aMs rfl) ?_)));obtain ⟨q6,e2,hm⟩:=aB hm
          have j5:=bS (aD.rowOut (i:=2) e0 rfl e1 (aHB b3)) (i:=0) rfl e2
          refine aM (cS mF rfl j5 rfl rfl rfl e2) ?_;obtain ⟨q7,j6,hm⟩:=aB hm
          obtain ⟨V,e3,hm⟩:=aB hm
          refine WO_stR (i:=1) (t:=0) (ns:=[zB (!e)]) (e':=(!e:Bool)) sizeOf4 e0 u rfl rfl e1 b3 rfl rfl rfl e2 j6 e3 rfl rfl (nI rfl) rfl rfl (fun g1 (j7:aD G K (aH 113 K b a.length (aP h V)::rows [4] h V::box c 82 [zS b j.length a.length]::L) g1)=>?_)
          have q8:aD G K (aH 113 K b a.length (aP h V)::rows [4] h V::box c 82 [zS b V.length a.length]::L) g1:=by rw [←(jM e3)];exact j7
          refine aF ?_;exact ⟨bD,V,true,h,hm,rfl,(u.trans (jM e3)),lY⟩
         ·exact aI
        refine aF ?_;obtain ⟨q9,b4,hm⟩:=aB hm
        refine aM (cS aHJ rfl d5 rfl rfl rfl b4) ?_;obtain ⟨⟨r0,r1⟩,e4⟩:=aCT u b4
        refine aM (yC (t:=0) aJw c3 (i:=1) rfl (mE u b4 e4) rfl rfl rfl) (aR (v:=i64 l) ?_);obtain ⟨r2,e5,hm⟩:=aB hm
        have j8:=bS (aD.rowOut (i:=2) c3 rfl e4 (aHB b4)) (i:=0) rfl e5
        refine aM (cS mF rfl j8 rfl rfl rfl e5) (aM (yC (t:=0) sc_4 (aD.rowOut (i:=2) c3 rfl e4 (aHB b4)) (i:=0) rfl e5 rfl rfl rfl) (aR (v:=zB e) (aM (R_eqlB runUnderlying4 rfl rfl) (aF ?_))))
        rcases aG hm with ⟨j9,hm⟩|⟨j9,hm⟩
        ·refine aF ?_;obtain ⟨r3,b5,k0,r4,k1,k2⟩:=aD.lendD' (i:=1) c3 u rfl rfl
         obtain ⟨r5,Z,k3,k4,k5⟩:=aD.lendBp k1 .head
         obtain ⟨k6,k7,hm⟩:=aB hm
         refine fR (vs:=[i64 r,i64 l,Value.func (.func 153) #[] #[cD (some ⟨c,0,none⟩) 0]]) (caps:=[cD a13 b7]) (us:=[i64 r,i64 l,Value.func (.func 153) #[] #[cD (some ⟨c,0,none⟩) 0],cD a13 b7]) rfl call130 rfl rfl (aAP k7 k4 k3 (k0.mono Z) (g7.mono (zL b5 Z)) (g8.mono (zL b5 Z)) (g9.mono (zL b5 Z)) (h0.mono (zL b5 Z)) (h1.mono (zL b5 Z))) ?_
         rintro _ r6 ⟨rfl,k8⟩
         have k9:=k5 _ _ k8
         have l0:=k2 _ _ k9
         refine aF ?_;exact ⟨bD,k6,hm,rfl,(aD.arr 3 [2,0,1] l0 rfl)⟩
        ·exact aI
       ·exact aI
     ·exact aI
   ·exact aI
 obtain ⟨r7,l1,ho⟩:=aB hm
 refine bV [1,2,3,7,18] l1 (fun k m f w=>∃ g,f 19=i64 m/\List.length g=List.length k/\aD G K (box c 82 [zS b k.length a.length]::aH 113 K b a.length (aP g k)::rows [4] g k::box a2 56 a0::L) w) ?_ ?_
 ·exact ⟨(List.replicate o.t.N.toNat ((none,0):Dp.Hd (List Bool))),rfl,(aKL (hd:=((none,0):Dp.Hd (List Bool))) f1).2.1,h5⟩
 ·rintro k m r8 f r9 hm hr ⟨g,s0,c4,l2⟩
  unfold jD at hm
  refine aF ?_
  rcases aG hm with ⟨l3,hm⟩|⟨l3,hm⟩
  ·refine aF ?_;refine cA (aF ?_)
   obtain ⟨s1,l4,l5,l6,l7⟩:=aD.lendBp l2 .head
   obtain ⟨s2,g2,l8,s3,l9⟩:=aD.lendBp l6 (.tail (.tail .head))
   refine wI [(0,0),(1,0),(2,0),(4,0),(5,0),(6,0),(3,1),(7,1),(8,0),(9,2)] fun s4 c6=>?_;refine cI rfl (fun _ ⟨_,c6⟩=>bU (t:=0) sc_82 c6 (l5.mono g2) rfl rfl) (cI rfl (fun _ _=>cX (v:=i64 m) rfl) (cI rfl (fun _ _=>cX (v:=zB e) rfl) (cI rfl (fun _ _=>dF (t':=4) aIF rfl rfl) (cI rfl (fun _ _=>dF (t':=4) aAk rfl rfl) (cI rfl (fun _ ⟨_,c6⟩=>bU (t:=4) lD c6 l8 rfl rfl) (eQ rfl (lI ([e]:List Bool) fun e6 s5 g3=>?_)))))))
   refine aL (aC ⟨⟨_,g3⟩,?_⟩)
   refine eQ rfl ?_;obtain ⟨s6,s7,m0,m1,m2⟩:=aD.lendSp g3 (zL l4 g2) .head
   obtain ⟨g4,m3,hm⟩:=aB hm
   refine cC call152 (kG m3 m1 m0) ?_
   rintro _ m4 ⟨n,q,rfl,m5⟩
   have e7:=m2 _ _ m5
   refine aL (aC ⟨⟨_,e7⟩,?_⟩)
   obtain ⟨s8,c7,hm⟩:=aB hm
   obtain ⟨⟨s9,t0⟩,g5⟩:=aCT c4 c7
   have m6:=bS e7 (i:=2) rfl (mE c4 c7 g5)
   refine cI rfl (fun _ _=>cS aHJ rfl m6 rfl rfl rfl c7) ?_
   have m7:=l9 _ _ e7
   have t1:=l7 _ _ m7
   refine aFJ rfl ?_
   have m8:aD G K (aH 4 K n q g4::box c 82 [zS b k.length a.length]::box a2 56 a0::aH 4 K e6 1 ([e]:List Bool)::aH 113 K b a.length (aP g k)::rows [4] g k::L) m4:=lY
   obtain ⟨b6,e8,hm⟩:=aB hm
   refine WO_stD (i:=3) (tys:=[4]) (hd':=(n,q)) (e':=g4) (hds:=g) sizeOf113 m8 c4 rfl rfl rfl rfl rfl c7 g5 e8 rfl ?_
   intro g6 (m9:aD G K (aH 113 K b a.length (aP (List.set g m.toNat (n,q)) b6)::rows [4] (List.set g m.toNat (n,q)) b6::box c 82 [zS b k.length a.length]::box a2 56 a0::aH 4 K e6 1 ([e]:List Bool)::L) g6)
   have t2:aD G K (aH 113 K b a.length (aP (List.set g m.toNat (n,q)) b6)::rows [4] (List.set g m.toNat (n,q)) b6::box c 82 [zS b b6.length a.length]::box a2 56 a0::aH 4 K e6 1 ([e]:List Bool)::L) g6:=by rw [←(jM e8)];exact m9
   refine aF ?_;refine yO (aF ?_)
   exact ⟨_,(zI hm).symm,bD,(List.set g m.toNat (n,q)),rfl,(set_len (hd:=((n,q):Dp.Hd (List Bool))) c4 e8),lY⟩
  ·exact aI
theorem aIe {o:bZ} {R:(List (List Bool))} (hm:uG o=some R) (q:aD G K (L) w) (c:aW K a1 c2 o.t.L) (d:aW K a4 c5 o.t.E) (e:aW K a7 c8 o.p.L) (g:aW K a10 c11 o.p.E):
  Calls Tryz.prog 79 ([zA #[i64 o.t.N,i64 o.t.I,zS a1 o.t.L.length c2,zS a4 o.t.E.length c5,i64 o.p.N,i64 o.p.I,zS a7 o.p.L.length c8,zS a10 o.p.E.length c11]]:List Value).toArray w (dS fun v w'=>∃ h i b,v=zS h R.length i/\List.length b=List.length R/\aD G K (aH 113 K h i (aP b R)::rows [4] b R::L) w'):=by
 refine cM func79 ?_;unfold uG at hm
 refine aF ?_;refine oE fun j r k=>?_
 iterate 6 refine cE ?_
 refine aM (fF (vs:=[zP (some ⟨j,0,none⟩)]) rfl) ?_;obtain ⟨u,a,l,m,x⟩:=aD.lendBp k .head
 obtain ⟨y,n,hm⟩:=aB hm
 exact cC call126 (yF n m (c.mono a) (d.mono a) (e.mono a) (g.mono a) l (c.mono a) (d.mono a) (e.mono a) (g.mono a)) aI
end Gv
