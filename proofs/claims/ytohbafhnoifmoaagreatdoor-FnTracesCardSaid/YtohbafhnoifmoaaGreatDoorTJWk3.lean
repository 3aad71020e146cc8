/- Walks, printed by program. -/
import Derived.Test.YtohbafhnoifmoaaGreatDoorTJWk1
import Derived.Test.YtohbafhnoifmoaaGreatDoorTJWk2
set_option linter.all false
namespace Gv
open Go.Value renaming slice→zS,bool→zB,pointer→zP
open Option.some renaming inj→zI
open Gv.Hp renaming le_trans→zL,le_refl→zR
open Go Go.Proofs Go.Proofs.Tryz
set_option maxRecDepth 20000
set_option maxHeartbeats 40000000
variable {G:Env} {K:Hp} {L:List nJ} {w:World} {a1 a4 a7 a10:Option Addr} {c5 c8 c11 c2:Nat}
theorem aCB {t:cG} {j:Nat} {p:(List Int)} {u:Bool} {R:cG} (hs:aI G K (L) w) (k:kK K a1 j (zC t a4 c5 a7 c8)) (h6:cX K a4 c5 t.L) (h9:cX K a7 c8 t.E) (m:cX K a10 c11 p) (a:rC t p u=some R):
  Calls Tryz.prog 49 ([cU a1 j,zS a10 p.length c11,zB u]:List Value).toArray w (gK fun v w'=>∃ (g0:Option Addr) (g1:Nat) (g2:Option Addr) (g3:Nat),v=Value.agg (zCa R g0 g1 g2 g3)∧aI G K (aK 9 K g0 g1 R.L::aK 69 K g2 g3 R.E::L) w'):=by
 let l:=zG
 refine aW func49 rfl (by kernel_rfl) (by show (3:Nat)≤92;decide) ?_
 unfold rC at a
 refine aL (bW (vs:=l) zeroValue27 hs rfl (fun c s0 j9=>(aG (aL (bR (Kt:=K) (xs:=([]:List Edge)) (cs:=[]) (vs:=[]) cM gZ rfl rfl j9 rfl (by kernel_rfl) rfl rfl rfl trivial (fun d7 k0 (k1:aI G K (aK 69 K d7 0 ([]:List Edge)::box c 27 l::L) k0)=>(aF (v:=zS d7 ([]:List Edge).length 0) (aG (aQ (aL (aF (v:=i64 0) (aG (bB (fun f w=>∃ (b2:List Edge) (b3:Option Addr) (b4:Nat),oZ t p u b2=some R∧f 0=cU a1 j∧f 1=zS a10 p.length c11∧f 2=zB u∧f 6=zP (some ⟨c,0,none⟩)∧f 7=zS b3 b2.length b4∧aI G K (aK 69 K b3 b4 b2::box c 27 l::L) w) ?_ ?_)))))))))))))
 ·rintro f s1 ⟨b2,b3,b4,a,d8,d9,k3,g4,g5,g6⟩
  unfold oZ at a
  refine aA (uV (fun f w=>∃ (Z:List Edge) (b5:Option Addr) (b6:Nat),mN t p Z=some R∧f 0=cU a1 j∧f 1=zS a10 p.length c11∧f 6=zP (some ⟨c,0,none⟩)∧f 7=zS b5 Z.length b6∧aI G K (aK 69 K b5 b6 Z::box c 27 l::L) w) ?_ ?_)
  ·rintro f s2 ⟨Z,b5,b6,a,g7,g8,g9,k4,h0⟩
   unfold mN at a
   refine aQ (fK (C:=fun w'=>∃ L',aI G K L' w') [(0,0),(2,0),(3,0),(4,0),(5,0),(6,0),(7,0),(8,0),(9,0),(10,0),(11,0),(12,0),(13,0),(1,1),(14,1),(15,2)] bZ (by kernel_rfl) (fun _ hg=>⟨_,aI.mono h0 hg⟩) (fun s3 k5=>?_))
   have x:=aI.mono h0 k5
   refine bS rfl (fun _ _=>bE g8) (bS rfl (fun _ _=>bE g8) (bS rfl (fun _ _=>bE g7) (bS rfl (fun _ _=>cJ rfl k) (bS rfl (fun _ _=>bO (k':=j+1) oP rfl k rfl) (bS rfl (fun _ ⟨_,x⟩=>bH (t:=1) cK x k rfl rfl) ?_)))))
   obtain ⟨k6,h1,a⟩:=aB a
   refine bS rfl (fun _ _=>dI cF rfl m rfl rfl rfl h1) ?_
   obtain ⟨s4,k7,k8⟩:=cX.el (sz:=1) rfl m h1
   cases k8
   refine bS rfl (fun _ ⟨_,x⟩=>bH (t:=0) cK x k7 rfl rfl) (bS rfl (fun _ _=>bE g7) (bS rfl (fun _ _=>cJ rfl k) (bS rfl (fun _ _=>bO (k':=j+2) fL rfl k rfl) (bS rfl (fun _ ⟨_,x⟩=>bH (t:=2) iT x k rfl rfl) (bS rfl (fun _ _=>bE k4) (kY rfl ?_))))))
   obtain ⟨k9,l0,a⟩:=aB a
   refine aS (vs:=[zS a10 p.length c11]) call83 rfl (aDC x m l0) ?_
   rintro _ s5 ⟨rfl,h2⟩
   refine aZ (aA ⟨⟨_,h2⟩,?_⟩)
   refine kY rfl ?_
   obtain ⟨s6,l1,l2,l3,l4⟩:=aI.lendS (i:=0) h2 (zR _) rfl
   obtain ⟨d,l5,a⟩:=aB a
   refine aS (vs:=[i64 k9,i64 k6,zS a4 t.L.length c5,zS b5 Z.length b6]) call43 rfl (zF l3 (h6.mono l1) l2 l5) ?_
   rintro _ s7 ⟨a0,a2,a3,a5,rfl,l6⟩
   have h4:=l4 _ _ l6
   refine aZ (aA ⟨⟨_,h4⟩,?_⟩)
   refine aGa rfl (bY (i:=3) (ns:=(zC d a0 a2 a3 a5)) (us:=(zC d a0 a2 a3 a5)) sizeOf27 h4 rfl g9 rfl rfl rfl (dE rfl) rfl rfl (fun l7 (h5:aI G K (aK 69 K b5 b6 Z::aK 9 K a0 a2 d.L::aK 69 K a3 a5 d.E::box c 27 (zC d a0 a2 a3 a5)::L) l7)=>(aG (lF (aA ?_)))))
   obtain rfl:=zI a
   exact bM (vY results49 (fV (vs:=(zC d a0 a2 a3 a5)) rfl dJ h5 (i:=3) rfl g9 rfl) ⟨a0,a2,a3,a5,rfl,(aI.arr 4 [1,2] h5 rfl)⟩)
  refine aL (aN k3 (aG ?_))
  rcases aH a with ⟨e0,a⟩|⟨e0,a⟩
  ·refine aM e0 rfl (aL (aN d8 (aN d9 ?_)))
   obtain ⟨l9,m0,a⟩:=aB a
   refine aS (vs:=[cU a1 j,zS a10 p.length c11]) call87 rfl (aCY g6 k h6 h9 m m0) ?_
   rintro _ s8 ⟨m1,m2,rfl,m3⟩
   obtain ⟨s9,t0,m4,m5,m6⟩:=aI.lendS (i:=0) m3 (zR _) rfl
   obtain ⟨b7,m7,a⟩:=aB a
   refine aS (vs:=[zS m1 l9.length m2]) call86 rfl (aIF m5 m4 m7) ?_
   rintro _ t1 ⟨e1,e2,rfl,m8⟩
   have m9:=m6 _ _ m8
   refine aF (v:=zS e1 b7.length e2) (aG (aL (aF (v:=i64 0) (aG (bB (fun f w=>∃ (b8:List Edge) (c6:Option Addr) (c7:Nat),oY t p b8=some R∧f 0=cU a1 j∧f 1=zS a10 p.length c11∧f 6=zP (some ⟨c,0,none⟩)∧f 7=zS c6 b8.length c7∧aI G K (aK 69 K c6 c7 b8::box c 27 l::L) w) ?_ ?_)))))
   ·rintro f t2 ⟨b8,c6,c7,a,n0,n1,n2,n3,n4⟩
    unfold oY at a
    exact aA ⟨b8,c6,c7,a,n0,n1,n2,n3,n4⟩
   obtain ⟨t3,n5,a⟩:=aB a
   refine cE n5 (fun (s:(List Edge × Int)) f w=>match s with|(y,b9)=>∃ (c0:Option Addr) (c1:Nat),f 0=cU a1 j∧f 1=zS a10 p.length c11∧f 6=zP (some ⟨c,0,none⟩)∧f 7=zS c0 y.length c1∧f 10=zS e1 b7.length e2∧f 11=i64 b9∧aI G K (aK 2 K e1 e2 b7::aK 69 K c0 c1 y::box c 27 l::L) w) ?_ ?_
   ·exact ⟨b3,b4,d8,d9,g4,g5,rfl,rfl,(aI.arr 1 [] m9 rfl)⟩
   ·rintro ⟨y,b9⟩ n6 f t4 g n7 ⟨c0,c1,h7,c9,h8,i0,d0,d1,i1⟩
    replace g:iB p b7 y b9=some n6:=g
    unfold iB at g
    refine aQ (aL (aN d1 (aN d0 (aD (bU (len:=b7.length) cF rfl) (aD (cL rfl rfl) (aG ?_))))))
    rcases aH g with ⟨e3,g⟩|⟨e3,g⟩
    ·refine aM e3 rfl (bA (aA (aQ (cY ?_))))
     obtain ⟨e4,a6,i2,i3,n8⟩:=aI.lendS (i:=0) i1 (zR _) rfl
     refine fK (C:=fun w'=>∃ L',aI G e4 L' w') [(0,0),(1,0),(2,0),(3,0),(4,0),(5,0),(6,0),(7,0),(8,0),(9,0),(10,0),(11,0),(12,0),(13,0),(14,0),(15,0),(16,1),(17,1),(18,0)] bZ (by kernel_rfl) (fun _ hg=>⟨_,aI.mono i3 hg⟩) (fun t5 n9=>?_)
     have q:=aI.mono i3 n9
     refine bS rfl (fun _ _=>bE i0) (bS rfl (fun _ _=>bE c9) (bS rfl (fun _ _=>bE d0) (bS rfl (fun _ _=>bE d1) ?_)))
     obtain ⟨t6,d2,g⟩:=aB g
     have i4:=aGc i2 d2
     refine bS rfl (fun _ _=>dT cF rfl i4 rfl rfl rfl d2) ?_
     obtain ⟨t7,i5,o0⟩:=cX.el (sz:=1) rfl i2 d2
     cases o0
     refine bS rfl (fun _ ⟨_,q⟩=>bH (t:=0) cK q i5 rfl rfl) ?_
     obtain ⟨n,e5,g⟩:=aB g
     refine bS rfl (fun _ _=>dI cF rfl (m.mono a6) rfl rfl rfl e5) ?_
     obtain ⟨t8,i6,o1⟩:=cX.el (sz:=1) rfl m e5
     cases o1
     refine bS rfl (fun _ ⟨_,q⟩=>bH (t:=0) cK q (i6.mono a6) rfl rfl) (bS rfl (fun _ _=>bE c9) (bS rfl (fun _ _=>bE d0) (bS rfl (fun _ _=>bE d1) (bS rfl (fun _ _=>dT cF rfl i4 rfl rfl rfl d2) (bS rfl (fun _ ⟨_,q⟩=>bH (t:=0) cK q i5 rfl rfl) (bS rfl (fun _ _=>dI cF rfl (m.mono a6) rfl rfl rfl e5) (bS rfl (fun _ ⟨_,q⟩=>bH (t:=0) cK q (i6.mono a6) rfl rfl) (bS rfl (fun _ _=>dL (vs:=[(0,i64 n),(2,i64 n)]) (cs:=[i64 n,i64 0,i64 n]) aFy rfl (by kernel_rfl)) (kY rfl (bR (Kt:=K) (xs:=([⟨n,0,n⟩]:List Edge)) (cs:=[i64 n,i64 0,i64 n]) (vs:=[(0,Value.agg #[i64 n,i64 0,i64 n])]) cM gZ rfl rfl q rfl (by kernel_rfl) rfl rfl rfl ⟨rfl,trivial⟩ (fun o2 o3 (i7:aI G e4 (aK 69 K o2 1 ([⟨n,0,n⟩]:List Edge)::aK 69 K c0 c1 y::box c 27 l::L) o3)=>(aZ (aA ⟨⟨_,i7⟩,?_⟩)))))))))))))
     refine kY rfl ?_
     obtain ⟨e6,o4,g⟩:=aB g
     refine dG (i:=0) cM underlying25 gZ rfl rfl i7 rfl a6 a6 o4 rfl rfl rfl rfl (fun _ h=>h) (fun e7 e8 o5 (i8:aI G e4 (aK 69 K e7 e8 e6::box c 27 l::L) o5)=>(aZ (aA ⟨⟨_,i8⟩,?_⟩)))
     refine bS rfl (fun _ _=>dV (v:=zS e7 e6.length e8) rfl) (lF ?_)
     have o6:=n8 _ _ i8
     exact bC (aA (aP (aN d1 (aD (cP rfl rfl) (aF (v:=i64 (wr (b9+1))) (aG ⟨(e6,wr (b9+1)),(zI g).symm,e7,e8,h7,c9,h8,rfl,d0,rfl,o6⟩))))))
    ·refine aJ e3 rfl (cA (aT (aT ?_)))
     have o7:=n7 _ (zI g).symm
     subst o7
     have a:(oY t p y)=some R:=a
     exact bJ (aA ⟨y,c0,c1,a,h7,c9,h8,i0,(aI.arr 1 [] i1 rfl)⟩)
  ·exact aJ e0 rfl (bA (aA ⟨b2,b3,b4,a,d8,d9,g4,g5,g6⟩))
 obtain ⟨t9,o8,a⟩:=aB a
 refine cE o8 (fun (s:(List Edge × Int)) f w=>match s with|(r,z)=>∃ (J:Option Addr) (V:Nat),f 0=cU a1 j∧f 1=zS a10 p.length c11∧f 2=zB u∧f 6=zP (some ⟨c,0,none⟩)∧f 7=zS J r.length V∧f 8=i64 z∧aI G K (aK 69 K J V r::box c 27 l::L) w) ?_ ?_
 ·exact ⟨d7,0,rfl,rfl,rfl,rfl,rfl,rfl,k1⟩
 ·rintro ⟨r,z⟩ i9 f u0 b o9 ⟨J,V,c2,a8,e9,f0,f1,d3,c3⟩
  replace b:iC t p r z=some i9:=b
  unfold iC at b
  refine aQ (aL (aN d3 (aN c2 (aD (cJ rfl k) (aD (bO (k':=j+3) cV rfl k rfl) (aD (bH (t:=3) fH c3 k rfl rfl) (aD (bU (len:=t.E.length) cM rfl) (aD (cL rfl rfl) (aG ?_)))))))))
  rcases aH b with ⟨f2,b⟩|⟨f2,b⟩
  ·refine aM f2 rfl (bA (aA (aQ (bB (fun f w=>∃ (c4:List Edge) (d4:Option Addr) (d5:Nat),pA z c4=some i9∧f 0=cU a1 j∧f 1=zS a10 p.length c11∧f 2=zB u∧f 6=zP (some ⟨c,0,none⟩)∧f 7=zS d4 c4.length d5∧f 8=i64 z∧aI G K (aK 69 K d4 d5 c4::box c 27 l::L) w) ?_ ?_))))
   ·rintro f u1 ⟨c4,d4,d5,b,p0,p1,p2,p3,p4,p5,p6⟩
    unfold pA at b
    exact aA (aP (aN p5 (aD (cP rfl rfl) (aF (v:=i64 (wr (z+1))) (aG ⟨(c4,wr (z+1)),(zI b).symm,d4,d5,p0,p1,p2,p3,p4,rfl,p6⟩)))))
   refine aL (aN c2 (aD (cJ rfl k) (aD (bO (k':=j+3) cV rfl k rfl) (aD (bH (t:=3) fH c3 k rfl rfl) (aN d3 ?_)))))
   obtain ⟨e,j0,b⟩:=aB b
   refine aD (dI cM rfl h9 rfl rfl rfl j0) ?_
   obtain ⟨u2,p7,p8⟩:=cX.el (sz:=3) rfl h9 j0
   cases p8
   refine aD (gT (t:=0) (vs:=[i64 e.F,i64 e.B,i64 e.To]) mQ c3 p7 rfl rfl rfl) (bW (vs:=[i64 0,i64 0,i64 0]) zeroValue69 c3 rfl (fun j1 u3 p9=>(bY (i:=0) (ns:=[i64 e.F,i64 e.B,i64 e.To]) (us:=[i64 e.F,i64 e.B,i64 e.To]) sizeOf69 p9 rfl rfl rfl rfl rfl (dE rfl) rfl rfl (fun q0 (q1:aI G K (box j1 69 [i64 e.F,i64 e.B,i64 e.To]::aK 69 K J V r::box c 27 l::L) q0)=>(aG (aL (aN a8 ?_)))))))
   obtain ⟨u4,q2,q3,q4,q5⟩:=aI.lendB (i:=0) q1 rfl
   obtain ⟨u5,q6,b⟩:=aB b
   refine aS (vs:=[cU (some ⟨j1,0,none⟩) 0,zS a10 p.length c11]) call85 rfl (wI q4 q3 (m.mono q2) q6) ?_
   rintro _ u6 ⟨rfl,q7⟩
   have j2:=q5 _ _ q7
   refine aD (eJ rfl) (aG ?_)
   rcases aH b with ⟨f3,b⟩|⟨f3,b⟩
   ·refine aM f3 rfl ?_
    obtain ⟨f4,a9,f5,j3,q8⟩:=aI.lendB (i:=0) j2 rfl
    refine fK (C:=fun w'=>∃ L',aI G f4 L' w') [(0,0),(1,0),(2,0),(3,0),(4,0),(5,0),(6,0),(7,0),(8,0),(9,0),(10,0),(11,0),(12,0),(13,0),(14,1),(15,1),(16,0)] bZ (by kernel_rfl) (fun _ hg=>⟨_,aI.mono j3 hg⟩) (fun u7 q9=>?_)
    have o:=aI.mono j3 q9
    refine bS rfl (fun _ _=>bE f1) (bS rfl (fun _ _=>bE a8) (bS rfl (fun _ _=>bT (t':=0) hQ rfl rfl) (bS rfl (fun _ ⟨_,o⟩=>bH (t:=0) cK o f5 rfl rfl) ?_)))
    obtain ⟨b0,j4,b⟩:=aB b
    refine bS rfl (fun _ _=>dI cF rfl (m.mono a9) rfl rfl rfl j4) ?_
    obtain ⟨u8,r0,r1⟩:=cX.el (sz:=1) rfl m j4
    cases r1
    refine bS rfl (fun _ ⟨_,o⟩=>bH (t:=0) cK o (r0.mono a9) rfl rfl) (bS rfl (fun _ _=>bT (t':=1) iZ rfl rfl) (bS rfl (fun _ ⟨_,o⟩=>bH (t:=1) cK o f5 rfl rfl) (bS rfl (fun _ _=>bE a8) (bS rfl (fun _ _=>bT (t':=2) gR rfl rfl) (bS rfl (fun _ ⟨_,o⟩=>bH (t:=2) cK o f5 rfl rfl) ?_)))))
    obtain ⟨b1,j5,b⟩:=aB b
    refine bS rfl (fun _ _=>dI cF rfl (m.mono a9) rfl rfl rfl j5) ?_
    obtain ⟨u9,r2,r3⟩:=cX.el (sz:=1) rfl m j5
    cases r3
    refine bS rfl (fun _ ⟨_,o⟩=>bH (t:=0) cK o (r2.mono a9) rfl rfl) (bS rfl (fun _ _=>dL (vs:=[(0,i64 b0),(1,i64 e.B),(2,i64 b1)]) (cs:=[i64 b0,i64 e.B,i64 b1]) aFy rfl (by kernel_rfl)) (kY rfl (bR (Kt:=K) (xs:=([⟨b0,e.B,b1⟩]:List Edge)) (cs:=[i64 b0,i64 e.B,i64 b1]) (vs:=[(0,Value.agg #[i64 b0,i64 e.B,i64 b1])]) cM gZ rfl rfl o rfl (by kernel_rfl) rfl rfl rfl ⟨rfl,trivial⟩ (fun r4 r5 (j6:aI G f4 (aK 69 K r4 1 ([⟨b0,e.B,b1⟩]:List Edge)::aK 69 K J V r::box c 27 l::L) r5)=>(aZ (aA ⟨⟨_,j6⟩,?_⟩))))))
    refine kY rfl ?_
    obtain ⟨f6,r6,b⟩:=aB b
    refine dG (i:=0) cM underlying25 gZ rfl rfl j6 rfl a9 a9 r6 rfl rfl rfl rfl (fun _ h=>h) (fun f7 f8 r7 (j7:aI G f4 (aK 69 K f7 f8 f6::box c 27 l::L) r7)=>(aZ (aA ⟨⟨_,j7⟩,?_⟩)))
    refine bS rfl (fun _ _=>dV (v:=zS f7 f6.length f8) rfl) (lF ?_)
    have r8:=q8 _ _ j7
    exact bC (aA ⟨f6,f7,f8,b,c2,a8,e9,f0,rfl,d3,(aI.arr 1 [] r8 rfl)⟩)
   ·exact aJ f3 rfl (bA (bC (aA ⟨r,J,V,b,c2,a8,e9,f0,f1,d3,(aI.arr 1 [] j2 rfl)⟩)))
  ·refine aJ f2 rfl (cA (aT (aT ?_)))
   have r9:=o9 _ (zI b).symm
   subst r9
   have a:(oZ t p u r)=some R:=a
   exact bJ (aA ⟨r,J,V,a,c2,a8,e9,f0,f1,c3⟩)
theorem aHF {t:cG} {o:Nat} {p:(List Int)} {k:Int} {R:(List Bool)} (hs:aI G K (L) w) (r:kK K a1 o (zC t a4 c5 a7 c8)) (h6:cX K a4 c5 t.L) (h9:cX K a7 c8 t.E) (e8:cX K a10 c11 p) (l:aCj t p k=some R):
  Calls Tryz.prog 153 ([cU a1 o,zS a10 p.length c11,i64 k]:List Value).toArray w (gK fun v w'=>∃ (d0:Option Addr) (d1:Nat),v=zS d0 R.length d1∧aI G K (aK 4 K d0 d1 R::L) w'):=by
 refine aW func153 rfl (by kernel_rfl) (by show (3:Nat)≤58;decide) ?_
 unfold aCj at l
 refine aL (aF (v:=zS none 0 0) (aG (aL (aO (v:=cU a1 o) (aD (cJ rfl r) (aD (bO (k':=o+0) gS rfl r rfl) (aD (bH (t:=0) cK hs r rfl rfl) ?_)))))))
 obtain ⟨b,e9,l⟩:=aB l
 refine aFu (e:=(false:Bool)) fO ez_4 rfl rfl hs rfl rfl rfl e9 rfl (fun c f0 (d2:aI G K (aK 4 K c b.length b::L) f0)=>(aF (v:=zS c b.length b.length) (aG (aL (aO (v:=zS c b.length b.length) (aO (v:=i64 k) ?_))))))
 obtain ⟨k3,b7,l⟩:=aB l
 have b1:=dA d2 (i:=0) rfl b7
 refine aD (dT fO rfl b1 rfl rfl rfl b7) ?_
 obtain ⟨f1,d3,l⟩:=aB l
 refine nG (i:=0) (t:=0) (ns:=[zB true]) (e':=(true:Bool)) sizeOf4 d2 rfl (zR _) rfl rfl rfl b7 d3 rfl rfl (dE rfl) rfl (fun cs h=>by cases h;rfl) (fun f2 (f3:aI G K (aK 4 K c b.length f1::L) f2)=>(aG (aQ (aL (aF (v:=zB true) (aG (bB (fun f w=>∃ (a0:List Bool),aAv a0=some R∧f 7=zS c a0.length b.length∧aI G K (aK 4 K c b.length a0::L) w) ?_ ?_)))))))
 ·rintro f k4 ⟨a0,l,f4,f5⟩
  unfold aAv at l
  refine aA (aL (aN f4 (aF (v:=zS c a0.length b.length) (aG ?_))))
  obtain rfl:=zI l
  exact bM (bP results153 rfl ⟨c,b.length,rfl,f5⟩)
 obtain ⟨k5,f7,l⟩:=aB l
 refine cE f7 (fun (s:(List Bool × Bool)) f w=>match s with|(J,b8)=>f 0=cU a1 o∧f 1=zS a10 p.length c11∧f 7=zS c J.length b.length∧f 8=zB b8∧aI G K (aK 4 K c b.length J::L) w) ?_ ?_
 ·exact ⟨rfl,rfl,(Eq.trans rfl (congrArg (fun n=>zS c n b.length) (lE d3))),rfl,f3⟩
 ·rintro ⟨J,b8⟩ b2 f k6 j f8 ⟨f9,g0,d4,g1,d5⟩
  replace j:oE t p J b8=some b2:=j
  unfold oE at j
  refine aQ (aL (aN g1 (aG ?_)))
  rcases aH j with ⟨b9,j⟩|⟨b9,j⟩
  ·refine aM b9 rfl (bA (aA (bB (fun f w=>∃ (a2:List Bool) (b3:Bool),aDd a2 b3=some b2∧f 0=cU a1 o∧f 1=zS a10 p.length c11∧f 7=zS c a2.length b.length∧f 8=zB b3∧aI G K (aK 4 K c b.length a2::L) w) ?_ ?_)))
   ·rintro f k7 ⟨a2,b3,j,g2,g3,g4,g5,g6⟩
    unfold aDd at j
    exact aA ⟨(a2,b3),(zI j).symm,g2,g3,g4,g5,g6⟩
   refine aL (aF (v:=zB false) (aG (aL (aF (v:=i64 0) (aG (bB (fun f w=>∃ (a3:List Bool) (b4:Bool),aAw a3 b4=some b2∧f 0=cU a1 o∧f 1=zS a10 p.length c11∧f 7=zS c a3.length b.length∧f 8=zB b4∧aI G K (aK 4 K c b.length a3::L) w) ?_ ?_))))))
   ·rintro f k8 ⟨a3,b4,j,g7,g8,g9,h0,h1⟩
    unfold aAw at j
    exact bC (aA ⟨a3,b4,j,g7,g8,g9,h0,h1⟩)
   obtain ⟨k9,h2,j⟩:=aB j
   refine cE h2 (fun (s:(List Bool × Bool × Int)) f w=>match s with|(q,x,u)=>f 0=cU a1 o∧f 1=zS a10 p.length c11∧f 7=zS c q.length b.length∧f 8=zB x∧f 9=i64 u∧aI G K (aK 4 K c b.length q::L) w) ?_ ?_
   ·exact ⟨f9,g0,d4,rfl,rfl,d5⟩
   ·rintro ⟨q,x,u⟩ c0 f l0 a h4 ⟨V,a5,Z,b5,a6,a8⟩
    replace a:mD t p q x u=some c0:=a
    unfold mD at a
    refine aQ (aL (aN a6 (aN V (aD (cJ rfl r) (aD (bO (k':=o+3) cV rfl r rfl) (aD (bH (t:=3) fH a8 r rfl rfl) (aD (bU (len:=t.E.length) cM rfl) (aD (cL rfl rfl) (aG ?_)))))))))
    rcases aH a with ⟨c1,a⟩|⟨c1,a⟩
    ·refine aM c1 rfl (bA (aA (aQ (bB (fun f w=>∃ (a9:List Bool) (b6:Bool),rD u a9 b6=some c0∧f 0=cU a1 o∧f 1=zS a10 p.length c11∧f 7=zS c a9.length b.length∧f 8=zB b6∧f 9=i64 u∧aI G K (aK 4 K c b.length a9::L) w) ?_ ?_))))
     ·rintro f l1 ⟨a9,b6,a,h5,h7,h8,i0,i1,i2⟩
      unfold rD at a
      exact aA (aP (aN i1 (aD (cP rfl rfl) (aF (v:=i64 (wr (u+1))) (aG ⟨(a9,b6,wr (u+1)),(zI a).symm,h5,h7,h8,i0,rfl,i2⟩)))))
     refine aL (aN V (aD (cJ rfl r) (aD (bO (k':=o+3) cV rfl r rfl) (aD (bH (t:=3) fH a8 r rfl rfl) (aN a6 ?_)))))
     obtain ⟨d,d6,a⟩:=aB a
     refine aD (dI cM rfl h9 rfl rfl rfl d6) ?_
     obtain ⟨l2,i3,i4⟩:=cX.el (sz:=3) rfl h9 d6
     cases i4
     refine aD (gT (t:=0) (vs:=[i64 d.F,i64 d.B,i64 d.To]) mQ a8 i3 rfl rfl rfl) (bW (vs:=[i64 0,i64 0,i64 0]) zeroValue69 a8 rfl (fun b0 l3 i5=>(bY (i:=0) (ns:=[i64 d.F,i64 d.B,i64 d.To]) (us:=[i64 d.F,i64 d.B,i64 d.To]) sizeOf69 i5 rfl rfl rfl rfl rfl (dE rfl) rfl rfl (fun i6 (y:aI G K (box b0 69 [i64 d.F,i64 d.B,i64 d.To]::aK 4 K c b.length q::L) i6)=>(aG (aQ (cN (fun f w=>∃ (c2:Bool),mC q x u d c2=some c0∧f 0=cU a1 o∧f 1=zS a10 p.length c11∧f 7=zS c q.length b.length∧f 8=zB x∧f 9=i64 u∧f 10=zP (some ⟨b0,0,none⟩)∧f 52=zB c2∧aI G K (box b0 69 [i64 d.F,i64 d.B,i64 d.To]::aK 4 K c b.length q::L) w) ?_ ?_)))))))
     ·rintro f l4 ⟨c2,a,d7,d8,c3,i7,d9,i8,e0,c4⟩
      unfold mC at a
      refine aA ?_
      rcases aH a with ⟨c6,a⟩|⟨c6,a⟩
      ·refine aM c6 e0 (aL (aN c3 (aD (bT (t':=2) gR i8 rfl) (aD (dS cK c4 (i:=0) rfl rfl rfl) ?_))))
       obtain ⟨l5,e1,a⟩:=aB a
       refine aD (dT fO rfl b1 rfl rfl rfl e1) ?_
       obtain ⟨e2,e3,a⟩:=aB a
       exact nG (i:=1) (t:=0) (ns:=[zB true]) (e':=(true:Bool)) sizeOf4 c4 rfl (zR _) rfl rfl rfl e1 e3 rfl rfl (dE rfl) rfl (fun cs h=>by cases h;rfl) (fun i9 (j0:aI G K (box b0 69 [i64 d.F,i64 d.B,i64 d.To]::aK 4 K c b.length e2::L) i9)=>(aG (aP (aF (v:=zB true) (aZ (bC (aA ⟨e2,true,a,d7,d8,(Eq.trans c3 (congrArg (fun n=>zS c n b.length) (lE e3))),rfl,d9,(aI.arr 1 [] j0 rfl)⟩)))))))
      ·exact aJ c6 e0 (bA (bC (aA ⟨q,x,a,d7,d8,c3,i7,d9,(aI.arr 1 [] c4 rfl)⟩)))
     refine aP (aN Z (aD (bT (t':=0) hQ rfl rfl) (aD (dS cK y (i:=0) rfl rfl rfl) ?_)))
     obtain ⟨j1,e4,a⟩:=aB a
     refine aD (dT fO rfl b1 rfl rfl rfl e4) (aD (gP (t:=0) aDW y (i:=1) rfl e4 rfl rfl rfl) (aO (v:=zB j1) ?_))
     rcases aH a with ⟨m,a⟩|⟨m,a⟩
     ·refine bD m rfl rfl (aN Z (bD m rfl rfl (aD (bT (t':=2) gR rfl rfl) (bD m rfl rfl (aD (dS cK y (i:=0) rfl rfl rfl) (bD m rfl rfl ?_))))))
      obtain ⟨e5,e6,a⟩:=aB a
      refine aD (dT fO rfl b1 rfl rfl rfl e6) (bD m rfl rfl (aD (gP (t:=0) aDW y (i:=1) rfl e6 rfl rfl rfl) (bD m rfl rfl (aD (eJ rfl) (aD (bL (v:=zB (!e5)) m rfl rfl) (aO (v:=zB (!e5)) ?_))))))
      rcases aH a with ⟨z,a⟩|⟨z,a⟩
      ·refine bD z rfl rfl (aN a5 (bD z rfl rfl ?_))
       obtain ⟨l6,j2,j3,j4,j5⟩:=aI.lendB (i:=0) y rfl
       obtain ⟨e7,j6,a⟩:=aB a
       refine aS (vs:=[cU (some ⟨b0,0,none⟩) 0,zS a10 p.length c11]) call85 rfl (wI j4 j3 (e8.mono j2) j6) ?_
       rintro _ l7 ⟨rfl,j7⟩
       have j8:=j5 _ _ j7
       exact aD (bL (v:=zB e7) z rfl rfl) (aG ⟨e7,a,V,a5,Z,b5,a6,rfl,rfl,j8⟩)
      ·exact aR z rfl rfl (aR z rfl rfl (aD (bK (v:=zB false) z rfl rfl) (aG ⟨false,a,V,a5,Z,b5,a6,rfl,rfl,y⟩)))
     ·exact aR m rfl rfl (aR m rfl rfl (aR m rfl rfl (aR m rfl rfl (aR m rfl rfl (aR m rfl rfl (aD (bK (v:=zB false) m rfl rfl) (aO (v:=zB false) (aR (by decide:¬ false=true) rfl rfl (aR (by decide:¬ false=true) rfl rfl (aD (bK (v:=zB false) (by decide:¬ false=true) rfl rfl) (aG ⟨false,a,V,a5,Z,b5,a6,rfl,rfl,y⟩)))))))))))
    ·refine aJ c1 rfl (cA (aT (aT ?_)))
     have j9:=h4 _ (zI a).symm
     subst j9
     have j:(aAw q x)=some b2:=j
     exact bJ (aA ⟨q,x,j,V,a5,Z,b5,a8⟩)
  ·refine aJ b9 rfl (cA (aT (aT ?_)))
   have k0:=f8 _ (zI j).symm
   subst k0
   have l:(aAv J)=some R:=l
   exact bJ (aA ⟨J,l,d4,d5⟩)
theorem aGO {t:cG} {h:Nat} {p:(List Int)} {k:Int} {R:(List Int)} (hs:aI G K (L) w) (r:kK K a1 h (zC t a4 c5 a7 c8)) (h6:cX K a4 c5 t.L) (h9:cX K a7 c8 t.E) (a0:cX K a10 c11 p) (d:aBa t p k=some R):
  Calls Tryz.prog 125 ([cU a1 h,zS a10 p.length c11,i64 k]:List Value).toArray w (gK fun v w'=>∃ (c1:Option Addr) (c2:Nat),v=zS c1 R.length c2∧aI G K (aK 2 K c1 c2 R::L) w'):=by
 refine aW func125 rfl (by kernel_rfl) (by show (3:Nat)≤56;decide) ?_
 unfold aBa at d
 refine aL (aF (v:=zS none 0 0) (aG (aL (aO (v:=cU a1 h) (aO (v:=zS a10 p.length c11) (aO (v:=i64 k) ?_))))))
 obtain ⟨e,e3,d⟩:=aB d
 refine aS (vs:=[cU a1 h,zS a10 p.length c11,i64 k]) call153 rfl (aHF hs r h6 h9 a0 e3) ?_
 rintro _ i7 ⟨j,l,rfl,e4⟩
 refine aF (v:=zS j e.length l) (aG (aL (bR (Kt:=K) (xs:=([]:List Int)) (cs:=[]) (vs:=[]) cF jC rfl rfl e4 rfl (by kernel_rfl) rfl rfl rfl trivial (fun b1 e5 (e6:aI G K (aK 2 K b1 0 ([]:List Int)::aK 4 K j l e::L) e5)=>(aF (v:=zS b1 ([]:List Int).length 0) (aG (aQ (aL (aF (v:=i64 0) (aG (bB (fun f w=>∃ (x:List Int) (y:Option Addr) (z:Nat),xX x=some R∧f 8=zS y x.length z∧aI G K (aK 2 K y z x::L) w) ?_ ?_)))))))))))
 ·rintro f i8 ⟨x,y,z,d,e7,e8⟩
  unfold xX at d
  refine aA (aL (aN e7 (aF (v:=zS y x.length z) (aG ?_))))
  obtain rfl:=zI d
  exact bM (bP results125 rfl ⟨y,z,rfl,e8⟩)
 obtain ⟨i9,f0,d⟩:=aB d
 refine cE f0 (fun (s:(List Int × Int)) f w=>match s with|(c,m)=>∃ (n:Option Addr) (o:Nat),f 0=cU a1 h∧f 1=zS a10 p.length c11∧f 7=zS j e.length l∧f 8=zS n c.length o∧f 9=i64 m∧aI G K (aK 2 K n o c::aK 4 K j l e::L) w) ?_ ?_
 ·exact ⟨b1,0,rfl,rfl,rfl,rfl,rfl,e6⟩
 ·rintro ⟨c,m⟩ b2 f j0 a f1 ⟨n,o,a2,b3,b4,b5,a3,J⟩
  replace a:jJ t p e c m=some b2:=a
  unfold jJ at a
  refine aQ (aL (aN a3 (aN a2 (aD (cJ rfl r) (aD (bO (k':=h+3) cV rfl r rfl) (aD (bH (t:=3) fH J r rfl rfl) (aD (bU (len:=t.E.length) cM rfl) (aD (cL rfl rfl) (aG ?_)))))))))
  rcases aH a with ⟨b6,a⟩|⟨b6,a⟩
  ·refine aM b6 rfl (bA (aA (aQ (bB (fun f w=>∃ (V:List Int) (a5:Option Addr) (a6:Nat),pB m V=some b2∧f 0=cU a1 h∧f 1=zS a10 p.length c11∧f 7=zS j e.length l∧f 8=zS a5 V.length a6∧f 9=i64 m∧aI G K (aK 2 K a5 a6 V::aK 4 K j l e::L) w) ?_ ?_))))
   ·rintro f j1 ⟨V,a5,a6,a,f2,f3,f4,f5,f6,f7⟩
    unfold pB at a
    exact aA (aP (aN f6 (aD (cP rfl rfl) (aF (v:=i64 (wr (m+1))) (aG ⟨(V,wr (m+1)),(zI a).symm,a5,a6,f2,f3,f4,f5,rfl,f7⟩)))))
   refine aL (aN a2 (aD (cJ rfl r) (aD (bO (k':=h+3) cV rfl r rfl) (aD (bH (t:=3) fH J r rfl rfl) (aN a3 ?_)))))
   obtain ⟨b,c3,a⟩:=aB a
   refine aD (dI cM rfl h9 rfl rfl rfl c3) ?_
   obtain ⟨j2,f8,f9⟩:=cX.el (sz:=3) rfl h9 c3
   cases f9
   refine aD (gT (t:=0) (vs:=[i64 b.F,i64 b.B,i64 b.To]) mQ J f8 rfl rfl rfl) (bW (vs:=[i64 0,i64 0,i64 0]) zeroValue69 J rfl (fun a8 j3 g0=>(bY (i:=0) (ns:=[i64 b.F,i64 b.B,i64 b.To]) (us:=[i64 b.F,i64 b.B,i64 b.To]) sizeOf69 g0 rfl rfl rfl rfl rfl (dE rfl) rfl rfl (fun g1 (Z:aI G K (box a8 69 [i64 b.F,i64 b.B,i64 b.To]::aK 2 K n o c::aK 4 K j l e::L) g1)=>(aG (aQ (cN (fun f w=>∃ (b7:Bool),mU p c m b b7=some b2∧f 0=cU a1 h∧f 1=zS a10 p.length c11∧f 7=zS j e.length l∧f 8=zS n c.length o∧f 9=i64 m∧f 10=zP (some ⟨a8,0,none⟩)∧f 41=zB b7∧aI G K (box a8 69 [i64 b.F,i64 b.B,i64 b.To]::aK 2 K n o c::aK 4 K j l e::L) w) ?_ ?_)))))))
   ·rintro f j4 ⟨b7,a,c4,a9,c6,c7,c9,d0,d1,d2⟩
    unfold mU at a
    refine aA ?_
    rcases aH a with ⟨b8,a⟩|⟨b8,a⟩
    ·refine aM b8 d1 ?_
     obtain ⟨g2,b9,d3,d4,g3⟩:=aI.lendB (i:=0) d2 rfl
     refine fK (C:=fun w'=>∃ L',aI G g2 L' w') [(0,0),(1,0),(2,0),(3,0),(4,0),(5,0),(6,0),(7,0),(8,0),(9,0),(10,0),(11,0),(12,1),(13,0)] bZ (by kernel_rfl) (fun _ hg=>⟨_,aI.mono d4 hg⟩) (fun j5 g4=>?_)
     have u:=aI.mono d4 g4
     refine bS rfl (fun _ _=>bE c7) (bS rfl (fun _ _=>bT (t':=1) iZ d0 rfl) (bS rfl (fun _ ⟨_,u⟩=>bH (t:=1) cK u d3 rfl rfl) (bS rfl (fun _ _=>bE a9) (bS rfl (fun _ _=>bU (len:=p.length) cF rfl) (bS rfl (fun _ _=>aCO rfl rfl) (bS rfl (fun _ _=>bE a9) (bS rfl (fun _ _=>bT (t':=2) gR d0 rfl) (bS rfl (fun _ ⟨_,u⟩=>bH (t:=2) cK u d3 rfl rfl) ?_))))))))
     obtain ⟨g5,d5,a⟩:=aB a
     refine bS rfl (fun _ _=>dI cF rfl (a0.mono b9) rfl rfl rfl d5) ?_
     obtain ⟨j6,g6,g7⟩:=cX.el (sz:=1) rfl a0 d5
     cases g7
     refine bS rfl (fun _ ⟨_,u⟩=>bH (t:=0) cK u (g6.mono b9) rfl rfl) (bS rfl (fun _ _=>cP rfl rfl) (kY rfl ?_))
     obtain ⟨j7,j8,g8,g9,h0⟩:=aI.lendS (i:=0) u b9 rfl
     obtain ⟨d6,h1,a⟩:=aB a
     refine aS (vs:=[zS n c.length o,i64 (wr ((wr (b.B * (p.length:Int)))+g5))]) call154 rfl (aFA g9 g8 h1) ?_
     rintro _ j9 ⟨d7,d8,rfl,h2⟩
     have d9:=h0 _ _ h2
     refine aZ (aA ⟨⟨_,d9⟩,?_⟩)
     refine bS rfl (fun _ _=>dV (v:=zS d7 d6.length d8) rfl) (lF ?_)
     have h4:=g3 _ _ d9
     exact bC (aA ⟨d6,d7,d8,a,c4,a9,c6,rfl,c9,(aI.arr 2 [] h4 rfl)⟩)
    ·exact aJ b8 d1 (bA (bC (aA ⟨c,n,o,a,c4,a9,c6,c7,c9,(aI.arr 1 [] d2 rfl)⟩)))
   refine aP (aN b4 (aD (bT (t':=0) hQ rfl rfl) (aD (dS cK Z (i:=0) rfl rfl rfl) ?_)))
   obtain ⟨h5,c0,a⟩:=aB a
   have h7:=dA Z (i:=2) rfl c0
   refine aD (dT fO rfl h7 rfl rfl rfl c0) (aD (gP (t:=0) aDW Z (i:=2) rfl c0 rfl rfl rfl) (aO (v:=zB h5) ?_))
   rcases aH a with ⟨q,a⟩|⟨q,a⟩
   ·refine bD q rfl rfl (aN b3 (bD q rfl rfl ?_))
    obtain ⟨k0,h8,i0,i1,i2⟩:=aI.lendB (i:=0) Z rfl
    obtain ⟨e0,i3,a⟩:=aB a
    refine aS (vs:=[cU (some ⟨a8,0,none⟩) 0,zS a10 p.length c11]) call85 rfl (wI i1 i0 (a0.mono h8) i3) ?_
    rintro _ k1 ⟨rfl,i4⟩
    have i5:=i2 _ _ i4
    exact bD q rfl rfl (aD (eJ rfl) (aD (bL (v:=zB (!e0)) q rfl rfl) (aG ⟨!e0,a,a2,b3,b4,b5,a3,rfl,rfl,i5⟩)))
   ·exact aR q rfl rfl (aR q rfl rfl (aR q rfl rfl (aD (bK (v:=zB false) q rfl rfl) (aG ⟨false,a,a2,b3,b4,b5,a3,rfl,rfl,Z⟩))))
  ·refine aJ b6 rfl (cA (aT (aT ?_)))
   have i6:=f1 _ (zI a).symm
   subst i6
   have d:(xX c)=some R:=d
   exact bJ (aA ⟨c,n,o,d,b5,(aI.arr 2 [0] J rfl)⟩)
theorem aGP {t:cG} {k2:Nat} {p:(List Int)} {b4:Bool} {R:(List Int)} (hs:aI G K (L) w) (h3:kK K a1 k2 (zC t a4 c5 a7 c8)) (h6:cX K a4 c5 t.L) (h9:cX K a7 c8 t.E) (b8:cX K a10 c11 p) (q:aBb t p b4=some R):
  Calls Tryz.prog 88 ([cU a1 k2,zS a10 p.length c11,zB b4]:List Value).toArray w (gK fun v w'=>∃ (j3:Option Addr) (j4:Nat),v=zS j3 R.length j4∧aI G K (aK 2 K j3 j4 R::L) w'):=by
 refine aW func88 rfl (by kernel_rfl) (by show (3:Nat)≤96;decide) ?_
 unfold aBb at q
 refine aL (aF (v:=zS none 0 0) (aG (aL (aO (v:=cU a1 k2) (aO (v:=zS a10 p.length c11) ?_)))))
 obtain ⟨z,n7,q⟩:=aB q
 refine aS (vs:=[cU a1 k2,zS a10 p.length c11]) call87 rfl (aCY hs h3 h6 h9 b8 n7) ?_
 rintro _ x7 ⟨V,Z,rfl,n8⟩
 refine aF (v:=zS V z.length Z) (aG (aL (bR (Kt:=K) (xs:=([]:List (List Int))) (cs:=[]) (vs:=[]) oQ aEB rfl rfl n8 rfl (by kernel_rfl) rfl rfl rfl trivial (fun e8 n9 (o0:aI G K (aK 35 K e8 0 ([]:List (List Int))::aK 4 K V Z z::L) n9)=>(aF (v:=zS e8 ([]:List (List Int)).length 0) (aG (aQ (aL (aF (v:=i64 0) (aG (bB (fun f w=>∃ (c:Hp) (j:List (List Int)) (l:Option Addr) (m:Nat),Hp.le K c∧qU p j=some R∧f 1=zS a10 p.length c11∧f 8=zS l j.length m∧aI G c (aK 35 c l m j::L) w) ?_ ?_)))))))))))
 ·rintro f x8 ⟨c,j,l,m,b5,q,o1,o2,o3⟩
  unfold qU at q
  refine aA (aL (bR (Kt:=K) (xs:=([]:List Int)) (cs:=[]) (vs:=[]) cF jC rfl rfl o3 rfl (by kernel_rfl) rfl rfl rfl trivial (fun e9 o4 (o5:aI G c (aK 2 K e9 0 ([]:List Int)::aK 35 c l m j::L) o4)=>(aF (v:=zS e9 ([]:List Int).length 0) (aG (aL (aF (v:=i64 0) (aG (aQ (aL (aF (v:=i64 0) (aG (bB (fun f w=>∃ (c1:List Int) (c2:Option Addr) (c3:Nat),xY c1=some R∧f 11=zS c2 c1.length c3∧aI G c (aK 2 K c2 c3 c1::L) w) ?_ ?_)))))))))))))
  ·rintro f x9 ⟨c1,c2,c3,q,o6,o7⟩
   unfold xY at q
   refine aA (aL (aN o6 (aF (v:=zS c2 c1.length c3) (aG ?_))))
   obtain rfl:=zI q
   exact bM (bP results88 rfl ⟨c2,c3,rfl,(aI.weakK o7 b5)⟩)
  obtain ⟨y0,o9,q⟩:=aB q
  refine cE o9 (fun (s:(List Int × Int × Int)) f w=>match s with|(k,J,o)=>∃ (r:Option Addr) (u:Nat),f 1=zS a10 p.length c11∧f 8=zS l j.length m∧f 11=zS r k.length u∧f 12=i64 J∧f 13=i64 o∧aI G c (aK 2 K r u k::aK 35 c l m j::L) w) ?_ ?_
  ·exact ⟨e9,0,o1,o2,rfl,rfl,rfl,o5⟩
  ·rintro ⟨k,J,o⟩ c4 f y1 d p0 ⟨r,u,j5,p1,j6,p2,j7,j8⟩
   replace d:aCm p j k J o=some c4:=d
   unfold aCm at d
   refine aQ (aL (aN j7 (aN j5 (aD (bU (len:=p.length) cF rfl) (aD (cL rfl rfl) (aG ?_))))))
   rcases aH d with ⟨f0,d⟩|⟨f0,d⟩
   ·refine aM f0 rfl (bA (aA (aQ (bB (fun f w=>∃ (c6:List Int) (d4:Int) (d5:Option Addr) (d6:Nat),aCk o c6 d4=some c4∧f 1=zS a10 p.length c11∧f 8=zS l j.length m∧f 11=zS d5 c6.length d6∧f 12=i64 d4∧f 13=i64 o∧aI G c (aK 2 K d5 d6 c6::aK 35 c l m j::L) w) ?_ ?_))))
    ·rintro f y2 ⟨c6,d4,d5,d6,d,p3,p4,p5,p6,p7,p8⟩
     unfold aCk at d
     exact aA (aP (aN p7 (aD (cP rfl rfl) (aF (v:=i64 (wr (o+1))) (aG ⟨(c6,d4,wr (o+1)),(zI d).symm,d5,d6,p3,p4,p5,p6,rfl,p8⟩)))))
    refine aL (aF (v:=i64 (-1)) (aG (aQ (aL (aF (v:=i64 0) (aG (bB (fun f w=>∃ (d7:Int),yA k J o d7=some c4∧f 1=zS a10 p.length c11∧f 8=zS l j.length m∧f 11=zS r k.length u∧f 12=i64 J∧f 13=i64 o∧f 14=i64 d7∧aI G c (aK 2 K r u k::aK 35 c l m j::L) w) ?_ ?_)))))))
    ·rintro f y3 ⟨d7,d,j9,k0,k1,f1,k3,k4,k5⟩
     unfold yA at d
     refine aA (uV (fun f w=>∃ (d8:Int) (b6:Int),xZ k o d8 b6=some c4∧f 1=zS a10 p.length c11∧f 8=zS l j.length m∧f 11=zS r k.length u∧f 12=i64 d8∧f 13=i64 o∧f 14=i64 b6∧aI G c (aK 2 K r u k::aK 35 c l m j::L) w) ?_ ?_)
     ·rintro f y4 ⟨d8,b6,d,p9,q0,q1,q2,q3,q4,q5⟩
      unfold xZ at d
      refine aP (aN q1 (aN q4 (bR (Kt:=K) (xs:=([b6]:List Int)) (cs:=[i64 b6]) (vs:=[(0,i64 b6)]) cF jC rfl rfl q5 rfl (by kernel_rfl) rfl rfl rfl ⟨rfl,trivial⟩ (fun q6 q7 (q8:aI G c (aK 2 K q6 1 ([b6]:List Int)::aK 2 K r u k::aK 35 c l m j::L) q7)=>?_))))
      obtain ⟨f2,q9,d⟩:=aB d
      exact dG (i:=0) cF underlying35 jC rfl rfl q8 rfl b5 b5 q9 rfl rfl rfl rfl (fun _ h=>h) (fun f3 f4 r0 (r1:aI G c (aK 2 K f3 f4 f2::aK 35 c l m j::L) r0)=>(aF (v:=zS f3 f2.length f4) (aZ (bC (aA ⟨f2,d8,f3,f4,d,p9,q0,rfl,q2,q3,r1⟩)))))
     refine aL (aN k4 (aD (cL rfl rfl) (aG ?_)))
     rcases aH d with ⟨f5,d⟩|⟨f5,d⟩
     ·exact aM f5 rfl (aL (aN f1 (aF (v:=i64 J) (aG (aP (aN f1 (aD (cP rfl rfl) (aF (v:=i64 (wr (J+1))) (aG ⟨wr (J+1),J,d,j9,k0,k1,rfl,k3,rfl,k5⟩)))))))))
     ·exact aJ f5 rfl (bA (aA ⟨J,d7,d,j9,k0,k1,f1,k3,k4,k5⟩))
    obtain ⟨y5,r2,d⟩:=aB d
    refine cE r2 (fun (s:(Int × Int)) f w=>match s with|(a3,a5)=>f 1=zS a10 p.length c11∧f 8=zS l j.length m∧f 11=zS r k.length u∧f 12=i64 J∧f 13=i64 o∧f 14=i64 a3∧f 15=i64 a5∧aI G c (aK 2 K r u k::aK 35 c l m j::L) w) ?_ ?_
    ·exact ⟨j5,p1,j6,p2,j7,rfl,rfl,j8⟩
    ·rintro ⟨a3,a5⟩ d9 f y6 a r3 ⟨k6,k7,k8,k9,f6,f7,f8,l0⟩
     replace a:aCl p j k o a3 a5=some d9:=a
     unfold aCl at a
     refine aQ (aQ (cN (fun f w=>∃ (f9:Bool),yD p j k o a3 a5 f9=some d9∧f 1=zS a10 p.length c11∧f 8=zS l j.length m∧f 11=zS r k.length u∧f 12=i64 J∧f 13=i64 o∧f 14=i64 a3∧f 15=i64 a5∧f 59=zB f9∧aI G c (aK 2 K r u k::aK 35 c l m j::L) w) ?_ ?_))
     ·rintro f y7 ⟨f9,a,c7,c9,g0,g1,d0,g2,e0,l1,l2⟩
      unfold yD at a
      refine aA ?_
      rcases aH a with ⟨g3,a⟩|⟨g3,a⟩
      ·refine aM g3 l1 (bA (aA (aQ (bB (fun f w=>∃ (e1:Int),yB a5 e1=some d9∧f 1=zS a10 p.length c11∧f 8=zS l j.length m∧f 11=zS r k.length u∧f 12=i64 J∧f 13=i64 o∧f 14=i64 e1∧f 15=i64 a5∧aI G c (aK 2 K r u k::aK 35 c l m j::L) w) ?_ ?_))))
       ·rintro f y8 ⟨e1,a,r4,r5,r6,r7,r8,r9,s0,s1⟩
        unfold yB at a
        exact aA (aP (aN s0 (aD (cP rfl rfl) (aF (v:=i64 (wr (a5+1))) (aG ⟨(e1,wr (a5+1)),(zI a).symm,r4,r5,r6,r7,r8,r9,rfl,s1⟩)))))
       refine aQ (cN (fun f w=>∃ (g4:Bool),yC k a3 a5 g4=some d9∧f 1=zS a10 p.length c11∧f 8=zS l j.length m∧f 11=zS r k.length u∧f 12=i64 J∧f 13=i64 o∧f 14=i64 a3∧f 15=i64 a5∧f 81=zB g4∧aI G c (aK 2 K r u k::aK 35 c l m j::L) w) ?_ ?_)
       ·rintro f y9 ⟨g4,a,l3,l4,g5,l5,l6,s2,g6,l7,e2⟩
        unfold yC at a
        refine aA ?_
        rcases aH a with ⟨g7,a⟩|⟨g7,a⟩
        ·refine aM g7 l7 (aP (aN g5 (aN g6 ?_)))
         obtain ⟨l8,g8,a⟩:=aB a
         have s3:=dA e2 (i:=0) rfl g8
         exact aD (dT cF rfl s3 rfl rfl rfl g8) (aD (gP (t:=0) cK e2 (i:=0) rfl g8 rfl rfl rfl) (aF (v:=i64 l8) (aZ (bC (aA ⟨l8,a,l3,l4,g5,l5,l6,rfl,g6,e2⟩)))))
        ·exact aJ g7 l7 (bA (bC (aA ⟨a3,a,l3,l4,g5,l5,l6,s2,g6,e2⟩)))
       obtain ⟨s4,e3,g9,e,l9⟩:=aI.lendS (i:=1) l2 (zR _) rfl
       refine eR (C:=fun w'=>aI G s4 (aK 2 K r u k::L) w') bZ (by kernel_rfl) (aI.mono e (eC.drew _)) (bF (fun _ e=>bE c7) (bF (fun _ e=>bE e0) ?_))
       obtain ⟨s5,m0,a⟩:=aB a
       refine bF (fun _ e=>dI cF rfl (b8.mono (zL b5 e3)) rfl rfl rfl m0) ?_
       obtain ⟨z0,s6,s7⟩:=cX.el (sz:=1) rfl b8 m0
       cases s7
       refine bF (fun _ e=>bH (t:=0) cK e (s6.mono (zL b5 e3)) rfl rfl) (bF (fun _ e=>bE c7) (bF (fun _ e=>bE d0) ?_))
       obtain ⟨s8,m1,a⟩:=aB a
       refine bF (fun _ e=>dI cF rfl (b8.mono (zL b5 e3)) rfl rfl rfl m1) ?_
       obtain ⟨z1,s9,t0⟩:=cX.el (sz:=1) rfl b8 m1
       cases t0
       refine bF (fun _ e=>bH (t:=0) cK e (s9.mono (zL b5 e3)) rfl rfl) (bF (fun _ e=>gE rfl rfl) (bF (fun _ e=>bE (v:=zB (s5 == s8)) rfl) ?_))
       rcases aH a with ⟨n,a⟩|⟨n,a⟩
       ·refine cC (g:=71) rfl rfl n (bF (fun _ e=>bE c9) (cC (g:=71) rfl rfl n (bF (fun _ e=>bE e0) (cC (g:=71) rfl rfl n ?_))))
        obtain ⟨t1,h0,a⟩:=aB a
        have m2:=aGc g9 h0
        refine bF (fun _ e=>dT oQ rfl m2 rfl rfl rfl h0) (cC (g:=71) rfl rfl n ?_)
        obtain ⟨z2,t2,t3⟩:=cX.el (sz:=1) rfl g9 h0
        obtain ⟨t4,t5,rfl,t6⟩:=t3
        refine bF (fun _ e=>bH (t:=0) aIt e t2 rfl rfl) (cC (g:=71) rfl rfl n (bF (fun _ e=>bE c9) (cC (g:=71) rfl rfl n (bF (fun _ e=>bE d0) (cC (g:=71) rfl rfl n ?_)))))
        obtain ⟨t7,m3,a⟩:=aB a
        refine bF (fun _ e=>dT oQ rfl m2 rfl rfl rfl m3) (cC (g:=71) rfl rfl n ?_)
        obtain ⟨z3,t8,t9⟩:=cX.el (sz:=1) rfl g9 m3
        obtain ⟨u0,u1,rfl,u2⟩:=t9
        refine bF (fun _ e=>bH (t:=0) aIt e t8 rfl rfl) (cC (g:=71) rfl rfl n ?_)
        obtain ⟨h1,u3,a⟩:=aB a
        refine pZ (vs:=[zS t4 t1.length t5,zS u0 t7.length u1]) (v:=zB h1) call54 rfl (fun _ e=>(tL e t6 u2 u3)) (bF (fun _ e=>bL (v:=zB h1) n rfl rfl) (fE (fun z4 u4=>?_)))
        have u5:=l9 _ _ u4
        exact aA ⟨h1,a,c7,c9,g0,g1,d0,g2,e0,rfl,(aI.arr 2 [1,0] u5 rfl)⟩
       ·refine bI (g:=71) rfl rfl (dQ n) (bI (g:=71) rfl rfl (dQ n) (bI (g:=71) rfl rfl (dQ n) (bI (g:=71) rfl rfl (dQ n) (bI (g:=71) rfl rfl (dQ n) (bI (g:=71) rfl rfl (dQ n) (bI (g:=71) rfl rfl (dQ n) (bI (g:=71) rfl rfl (dQ n) (bI (g:=71) rfl rfl (dQ n) (bF (fun _ e=>bK (v:=zB false) n rfl rfl) (fE (fun z5 u6=>?_)))))))))))
        have u7:=l9 _ _ u6
        exact aA ⟨false,a,c7,c9,g0,g1,d0,g2,e0,rfl,(aI.arr 2 [1,0] u7 rfl)⟩
      ·refine aJ g3 l1 (cA (aT (aT ?_)))
       have u8:=r3 _ (zI a).symm
       subst u8
       have d:(yA k J o a3)=some c4:=d
       exact bJ (aA ⟨a3,d,c7,c9,g0,g1,d0,g2,l2⟩)
     refine aP (aN f8 (aN f6 (aD (cL rfl rfl) (aO (v:=zB (decide (a5 < o))) ?_))))
     rcases aH a with ⟨b7,a⟩|⟨b7,a⟩
     ·exact bD b7 rfl rfl (aN f7 (bD b7 rfl rfl (aD (cL rfl rfl) (aD (bL (v:=zB (decide (a3 < 0))) b7 rfl rfl) (aG ⟨decide (a3 < 0),a,k6,k7,k8,k9,f6,f7,f8,rfl,l0⟩)))))
     ·exact aR b7 rfl rfl (aR b7 rfl rfl (aD (bK (v:=zB false) b7 rfl rfl) (aG ⟨false,a,k6,k7,k8,k9,f6,f7,f8,rfl,l0⟩)))
   ·refine aJ f0 rfl (cA (aT (aT ?_)))
    have u9:=p0 _ (zI d).symm
    subst u9
    have q:(xY k)=some R:=q
    exact bJ (aA ⟨k,r,u,q,j6,(aI.arr 2 [0] j8 rfl)⟩)
 obtain ⟨z6,v0,q⟩:=aB q
 refine cE v0 (fun (s:(List (List Int) × Int)) f w=>match s with|(y,a9)=>∃ (x:Hp) (a0:Option Addr) (a2:Nat),Hp.le K x∧f 0=cU a1 k2∧f 1=zS a10 p.length c11∧f 2=zB b4∧f 7=zS V z.length Z∧f 8=zS a0 y.length a2∧f 9=i64 a9∧aI G x (aK 35 x a0 a2 y::aK 4 K V Z z::L) w) ?_ ?_
 ·exact ⟨K,e8,0,(zR _),rfl,rfl,rfl,rfl,rfl,rfl,o0⟩
 ·rintro ⟨y,a9⟩ h2 f z7 b v1 ⟨x,a0,a2,a6,e4,e5,h4,h5,h7,d1,h8⟩
  replace b:iM t p b4 z y a9=some h2:=b
  unfold iM at b
  refine aQ (aL (aN d1 (aN e4 (aD (cJ rfl (h3.mono a6)) (aD (bO (k':=k2+0) gS rfl (h3.mono a6) rfl) (aD (bH (t:=0) cK h8 (h3.mono a6) rfl rfl) (aD (cL rfl rfl) (aG ?_))))))))
  rcases aH b with ⟨i0,b⟩|⟨i0,b⟩
  ·refine aM i0 rfl (bA (aA (aQ (cY (aL (aN e4 (aN e5 (aN d1 ?_))))))))
   obtain ⟨b9,v2,b⟩:=aB b
   refine aS (vs:=[cU a1 k2,zS a10 p.length c11,i64 a9]) call125 rfl (aGO h8 (h3.mono a6) (h6.mono a6) (h9.mono a6) (b8.mono a6) v2) ?_
   rintro _ z8 ⟨d2,d3,rfl,e6⟩
   refine aF (v:=zS d2 b9.length d3) (aG (uV (fun f w=>∃ (b0:List Int) (b2:Option Addr) (b3:Nat),nK y a9 b0=some h2∧f 0=cU a1 k2∧f 1=zS a10 p.length c11∧f 2=zB b4∧f 7=zS V z.length Z∧f 8=zS a0 y.length a2∧f 9=i64 a9∧f 10=zS b2 b0.length b3∧aI G x (aK 2 K b2 b3 b0::aK 35 x a0 a2 y::aK 4 K V Z z::L) w) ?_ ?_))
   ·rintro f v3 ⟨b0,b2,b3,b,v4,v5,v6,v7,v8,v9,w0,w1⟩
    unfold nK at b
    refine aP (aN v8 (aN w0 ?_))
    have w2:aI G x (rows [2] ([(b2,b3)]:List (Dp.Hd (List Int))) [b0]::aK 35 x a0 a2 y::aK 4 K V Z z::L) v3:=aI.rowsOne w1
    refine bR (Kt:=K) (xs:=eD ([(b2,b3)]:List (Dp.Hd (List Int))) ([b0]:List (List Int))) (cs:=[zS b2 b0.length b3]) (vs:=[(0,zS b2 b0.length b3)]) oQ aEB rfl rfl w2 rfl (by kernel_rfl) rfl rfl rfl ⟨rfl,trivial⟩ ?_
    intro w3 m4 (w4:aI G x (aK 35 K w3 1 (eD ([(b2,b3)]:List (Dp.Hd (List Int))) ([b0]:List (List Int)))::rows [2] ([(b2,b3)]:List (Dp.Hd (List Int))) ([b0]:List (List Int))::aK 35 x a0 a2 y::aK 4 K V Z z::L) m4)
    obtain ⟨e7,m5,w5,_,i1,_⟩:=aI.lendD' (i:=0) w4 rfl rfl rfl
    replace i1:aI G e7 (aK 35 x a0 a2 y::aK 4 K V Z z::L) m4:=i1
    obtain ⟨i2,w6,b⟩:=aB b
    exact lW (i:=0) oQ underlying53 aEB rfl rfl i1 rfl m5 w5 w6 rfl rfl rfl rfl (fun i3 i4 w7 (w8:aI G e7 (aK 35 e7 i3 i4 i2::aK 4 K V Z z::L) w7)=>(aF (v:=zS i3 i2.length i4) (aZ (bC (aA (aP (aN v9 (aD (cP rfl rfl) (aF (v:=i64 (wr (a9+1))) (aG ⟨(i2,wr (a9+1)),(zI b).symm,e7,i3,i4,(zL a6 m5),v4,v5,v6,v7,rfl,rfl,w8⟩))))))))))
   refine aQ (cN (fun f w=>∃ (i5:Bool),nL y a9 b9 i5=some h2∧f 0=cU a1 k2∧f 1=zS a10 p.length c11∧f 2=zB b4∧f 7=zS V z.length Z∧f 8=zS a0 y.length a2∧f 9=i64 a9∧f 10=zS d2 b9.length d3∧f 38=zB i5∧aI G x (aK 2 K d2 d3 b9::aK 35 x a0 a2 y::aK 4 K V Z z::L) w) ?_ ?_)
   ·rintro f z9 ⟨i5,b,m6,m7,m8,m9,n0,n1,n2,n3,n4⟩
    unfold nL at b
    refine aA ?_
    rcases aH b with ⟨i6,b⟩|⟨i6,b⟩
    ·refine aM i6 n3 (aP (aN n2 (bR (Kt:=K) (xs:=([(-1)]:List Int)) (cs:=[i64 (-1)]) (vs:=[(0,i64 (-1))]) cF jC rfl rfl n4 rfl (by kernel_rfl) rfl rfl rfl ⟨rfl,trivial⟩ (fun w9 x0 (x1:aI G x (aK 2 K w9 1 ([(-1)]:List Int)::aK 2 K d2 d3 b9::aK 35 x a0 a2 y::aK 4 K V Z z::L) x0)=>?_))))
     obtain ⟨i7,x2,b⟩:=aB b
     exact dG (i:=0) cF underlying35 jC rfl rfl x1 rfl a6 a6 x2 rfl rfl rfl rfl (fun _ h=>h) (fun i8 i9 x3 (x4:aI G x (aK 2 K i8 i9 i7::aK 35 x a0 a2 y::aK 4 K V Z z::L) x3)=>(aF (v:=zS i8 i7.length i9) (aG ⟨i7,i8,i9,b,m6,m7,m8,m9,n0,n1,rfl,x4⟩)))
    ·exact aJ i6 n3 (bA (aA ⟨b9,d2,d3,b,m6,m7,m8,m9,n0,n1,n2,n4⟩))
   refine aP (aN h4 (aO (v:=zB b4) ?_))
   rcases aH b with ⟨a8,b⟩|⟨a8,b⟩
   ·refine bD a8 rfl rfl (aN h5 (bD a8 rfl rfl (aN d1 (bD a8 rfl rfl ?_))))
    obtain ⟨n5,j0,b⟩:=aB b
    have x5:=dA e6 (i:=2) rfl j0
    exact aD (dT fO rfl x5 rfl rfl rfl j0) (bD a8 rfl rfl (aD (gP (t:=0) aDW e6 (i:=2) rfl j0 rfl rfl rfl) (aD (bL (v:=zB n5) a8 rfl rfl) (aG ⟨n5,b,e4,e5,h4,h5,h7,d1,rfl,rfl,e6⟩))))
   ·exact aR a8 rfl rfl (aR a8 rfl rfl (aR a8 rfl rfl (aR a8 rfl rfl (aD (bK (v:=zB false) a8 rfl rfl) (aG ⟨false,b,e4,e5,h4,h5,h7,d1,rfl,rfl,e6⟩)))))
  ·refine aJ i0 rfl (cA (aT (aT ?_)))
   have x6:=v1 _ (zI b).symm
   subst x6
   have q:(qU p y)=some R:=q
   exact bJ (aA ⟨x,y,a0,a2,a6,q,e5,h7,(aI.arr 2 [0] h8 rfl)⟩)
theorem aIG {t:cG} {h:Nat} {m:Bool} {R:(List Int)} (x:aI G K (L) w) (o:kK K a1 h (zC t a4 c5 a7 c8)) (h6:cX K a4 c5 t.L) (h9:cX K a7 c8 t.E) (b:aDw t m=some R):
  Calls Tryz.prog 50 ([cU a1 h,zB m]:List Value).toArray w (gK fun v w'=>∃ (y:Option Addr) (z:Nat),v=zS y R.length z∧aI G K (aK 2 K y z R::L) w'):=by
 refine aW func50 rfl (by kernel_rfl) (by show (2:Nat)≤21;decide) ?_
 unfold aDw at b
 refine aL (aF (v:=zS none 0 0) (aG (aL (aO (v:=cU a1 h) (aD (cJ rfl o) (aD (bO (k':=h+0) gS rfl o rfl) (aD (bH (t:=0) cK x o rfl rfl) ?_)))))))
 obtain ⟨n,a3,b⟩:=aB b
 refine aFu (e:=(0:Int)) cF jC rfl rfl x rfl rfl rfl a3 rfl (fun p a5 (a6:aI G K (aK 2 K p n.length n::L) a5)=>(aF (v:=zS p n.length n.length) (aG (cY ?_))))
 obtain ⟨d3,a8,b⟩:=aB b
 refine cE a8 (fun (c:List Int) f w=>∃ (d:Option Addr) (g:Nat),f 0=cU a1 h∧f 1=zB m∧f 5=zS d c.length g∧aI G K (aK 2 K d g c::L) w) ?_ ?_
 ·exact ⟨p,n.length,rfl,rfl,rfl,a6⟩
 ·rintro c a9 f d4 a b0 ⟨d,g,J,V,q,b1⟩
  replace a:uF t m c=some a9:=a
  unfold uF at a
  refine cY (aL (aN J (aN q (aN V ?_))))
  obtain ⟨d5,r,b2,b3,b4⟩:=aI.lendS (i:=0) b1 (zR _) rfl
  obtain ⟨j,b5,a⟩:=aB a
  refine aS (vs:=[cU a1 h,zS d c.length g,zB m]) call88 rfl (aGP b3 (o.mono r) (h6.mono r) (h9.mono r) b2 b5) ?_
  rintro _ d6 ⟨k,l,rfl,b6⟩
  have b7:=b4 _ _ b6
  refine aF (v:=zS k j.length l) (aG (aQ (aL (aO (v:=zS k j.length l) (aN q ?_)))))
  obtain ⟨d7,b8,b9,c0,c1⟩:=aI.lendS (i:=1) b7 (zR _) rfl
  obtain ⟨d8,c2,c3,c4,c6⟩:=aI.lendS (i:=0) c0 b8 rfl
  obtain ⟨d9,c7,a⟩:=aB a
  refine aS (vs:=[zS k j.length l,zS d c.length g]) call54 rfl (tL c4 (b9.mono c2) c3 c7) ?_
  rintro _ e0 ⟨rfl,c9⟩
  have d0:=c6 _ _ c9
  have Z:=c1 _ _ d0
  refine aG ?_
  rcases aH a with ⟨u,a⟩|⟨u,a⟩
  ·refine aM u rfl (aL (aN q (aF (v:=zS d c.length g) (aG (bM (aV (bV (aV ?_))))))))
   have d1:=b0 _ (zI a).symm
   subst d1
   have b:(some c)=some R:=b
   obtain rfl:=zI b
   exact bV (bP results50 rfl ⟨d,g,rfl,(aI.arr 1 [] Z rfl)⟩)
  ·exact aJ u rfl (bA (aA (aP (aO (v:=zS k j.length l) (aF (v:=zS k j.length l) (aZ (bC (aA ⟨j,(zI a).symm,k,l,J,V,rfl,(aI.arr 2 [0] Z rfl)⟩))))))))
theorem aEl {t:cG} {d:Nat} {e:Bool} {R:cG} (hs:aI G K (L) w) (V:kK K a1 d (zC t a4 c5 a7 c8)) (Z:cX K a4 c5 t.L) (h9:cX K a7 c8 t.E) (c:sO t e=some R):
  Calls Tryz.prog 21 ([cU a1 d,zB e]:List Value).toArray w (gK fun v w'=>∃ (a2:Option Addr) (a3:Nat) (a5:Option Addr) (a6:Nat),v=Value.agg (zCa R a2 a3 a5 a6)∧aI G K (aK 9 K a2 a3 R.L::aK 69 K a5 a6 R.E::L) w'):=by
 let q:=zG
 refine aW func21 rfl (by kernel_rfl) (by show (2:Nat)≤14;decide) ?_
 unfold sO at c
 refine aL (bW (vs:=q) zeroValue27 hs rfl (fun a8 g7 b7=>(aG (aL (aO (v:=cU a1 d) (aO (v:=cU a1 d) ?_))))))
 obtain ⟨r,b8,c⟩:=aB c
 refine aS (vs:=[cU a1 d]) call46 rfl (aBs b7 V Z h9 b8) ?_
 rintro _ g8 ⟨u,x,rfl,b9⟩
 obtain ⟨g9,y,c0,c1,c2⟩:=aI.lendS (i:=0) b9 (zR _) rfl
 obtain ⟨a,c3,c⟩:=aB c
 refine aS (vs:=[cU a1 d,zS u r.length x]) call45 rfl (aCA c1 (V.mono y) (Z.mono y) (h9.mono y) c0 c3) ?_
 rintro _ h0 ⟨g,h,j,k,rfl,c4⟩
 have c6:=c2 _ _ c4
 refine bW (vs:=q) zeroValue27 c6 rfl (fun p h1 c7=>(bY (i:=0) (ns:=(zC a g h j k)) (us:=(zC a g h j k)) sizeOf27 c7 rfl rfl rfl rfl rfl (dE rfl) rfl rfl (fun c9 (d0:aI G K (box p 27 (zC a g h j k)::aK 2 K u x r::aK 9 K g h a.L::aK 69 K j k a.E::box a8 27 q::L) c9)=>(aG (aL (aO (v:=zB e) ?_))))))
 obtain ⟨h2,d1,d2,d3,d4⟩:=aI.lendS (i:=2) d0 (zR _) rfl
 obtain ⟨h4,d5,d6,d7,d8⟩:=aI.lendS (i:=2) d3 d1 rfl
 obtain ⟨h5,a9,d9,e0,e1⟩:=aI.lendB (i:=0) d7 rfl
 obtain ⟨b0,e2,c⟩:=aB c
 refine aS (vs:=[cU (some ⟨p,0,none⟩) 0,zB e]) call50 rfl (aIG e0 d9 (d2.mono (zL d5 a9)) (d6.mono a9) e2) ?_
 rintro _ h7 ⟨b1,b2,rfl,e3⟩
 have e4:=e1 _ _ e3
 have e5:=d8 _ _ e4
 have e6:=d4 _ _ e5
 refine aO (v:=zB e) ?_
 obtain ⟨h8,b3,e7,e8,e9⟩:=aI.lendS (i:=0) e6 (zR _) rfl
 obtain ⟨i0,b4,f0,f1,f2⟩:=aI.lendS (i:=0) e8 b3 rfl
 obtain ⟨i1,z,f3,f4,f5⟩:=aI.lendB (i:=0) f1 rfl
 obtain ⟨i2,J,f6,f7,f8⟩:=aI.lendS (i:=0) f4 (zL (zL b3 b4) z) rfl
 obtain ⟨b,f9,c⟩:=aB c
 refine aS (vs:=[cU (some ⟨p,0,none⟩) 0,zS b1 b0.length b2,zB e]) call49 rfl (aCB f7 (f3.mono J) (e7.mono (zL (zL b4 z) J)) (f0.mono (zL z J)) f6 f9) ?_
 rintro _ i3 ⟨l,m,n,o,rfl,g0⟩
 have g1:=f8 _ _ g0
 have g2:=f5 _ _ g1
 have g3:=f2 _ _ g2
 have g4:=e9 _ _ g3
 refine bY (i:=7) (ns:=(zC b l m n o)) (us:=(zC b l m n o)) sizeOf27 g4 rfl rfl rfl rfl rfl (dE rfl) rfl rfl (fun g5 (b5:aI G K (aK 9 K g h a.L::aK 69 K j k a.E::box p 27 (zC a g h j k)::aK 2 K b1 b2 b0::aK 9 K l m b.L::aK 69 K n o b.E::aK 2 K u x r::box a8 27 (zC b l m n o)::L) g5)=>(aG ?_))
 obtain rfl:=zI c
 exact bM (vY results21 (fV (vs:=(zC b l m n o)) rfl dJ b5 (i:=7) rfl rfl rfl) ⟨l,m,n,o,rfl,(aI.arr 8 [4,5] b5 rfl)⟩)
theorem aHG {n:Int} {m R:(List Bool)} (hs:aI G K (aK 4 K a1 c2 m::L) w) (e:aCn n m=some R):
  Calls Tryz.prog 155 ([i64 n,zS a1 m.length c2]:List Value).toArray w (gK fun v w'=>v=Value.tuple #[]∧m.length=R.length∧aI G K (aK 4 K a1 c2 R::L) w'):=by
 refine aW func155 rfl (by kernel_rfl) (by show (2:Nat)≤59;decide) ?_
 unfold aCn at e
 refine aQ (aL (aF (v:=i64 0) (aG (bB (fun f w=>∃ (V:List Bool),sP n V=some R∧f 0=i64 n∧f 1=zS a1 V.length c2∧m.length=V.length∧aI G K (aK 4 K a1 c2 V::L) w) ?_ ?_))))
 ·rintro f w7 ⟨V,e,e5,e6,e7,e8⟩
  unfold sP at e
  refine aA (aL (aF (v:=i64 0) (aG (bB (fun f w=>∃ (m9:List Bool),aAx m9=some R∧m.length=m9.length∧aI G K (aK 4 K a1 c2 m9::L) w) ?_ ?_))))
  ·rintro f k1 ⟨m9,e,e9,f0⟩
   unfold aAx at e
   obtain rfl:=zI e
   exact aKG results155 ⟨rfl,e9,f0⟩
  obtain ⟨k2,f2,e⟩:=aB e
  refine cE f2 (fun (s:(List Bool × Int)) f w=>match s with|(o,d)=>f 0=i64 n∧f 1=zS a1 o.length c2∧f 5=i64 d∧m.length=o.length∧aI G K (aK 4 K a1 c2 o::L) w) ?_ ?_
  ·exact ⟨e5,e6,rfl,e7,e8⟩
  ·rintro ⟨o,d⟩ a6 f k3 c f3 ⟨d2,f4,d3,d4,d5⟩
   replace c:mG n o d=some a6:=c
   unfold mG at c
   refine aQ (aL (aN d3 (aN d2 (aD (cL rfl rfl) (aG ?_)))))
   rcases aH c with ⟨b6,c⟩|⟨b6,c⟩
   ·refine aM b6 rfl (bA (aA (aQ (bB (fun f w=>∃ (r:List Bool),aAy d r=some a6∧f 0=i64 n∧f 1=zS a1 r.length c2∧f 5=i64 d∧m.length=r.length∧aI G K (aK 4 K a1 c2 r::L) w) ?_ ?_))))
    ·rintro f k4 ⟨r,c,f5,f6,f7,f8,f9⟩
     unfold aAy at c
     exact aA (aP (aN f7 (aD (cP rfl rfl) (aF (v:=i64 (wr (d+1))) (aG ⟨(r,wr (d+1)),(zI c).symm,f5,f6,rfl,f8,f9⟩)))))
    refine aL (aF (v:=i64 0) (aG (bB (fun f w=>∃ (u:List Bool),vF d u=some a6∧f 0=i64 n∧f 1=zS a1 u.length c2∧f 5=i64 d∧m.length=u.length∧aI G K (aK 4 K a1 c2 u::L) w) ?_ ?_)))
    ·rintro f k5 ⟨u,c,g0,g1,g2,g3,g4⟩
     unfold vF at c
     exact bC (aA ⟨u,c,g0,g1,g2,g3,g4⟩)
    obtain ⟨k6,g5,c⟩:=aB c
    refine cE g5 (fun (s:(List Bool × Int)) f w=>match s with|(k,g)=>f 0=i64 n∧f 1=zS a1 k.length c2∧f 5=i64 d∧f 6=i64 g∧m.length=k.length∧aI G K (aK 4 K a1 c2 k::L) w) ?_ ?_
    ·exact ⟨d2,f4,d3,rfl,d4,d5⟩
    ·rintro ⟨k,g⟩ a7 f k7 a g6 ⟨Z,a8,a9,b0,b7,a0⟩
     replace a:mF n d k g=some a7:=a
     unfold mF at a
     refine aQ (aL (aN b0 (aN Z (aD (cL rfl rfl) (aG ?_)))))
     rcases aH a with ⟨b8,a⟩|⟨b8,a⟩
     ·refine aM b8 rfl (bA (aA (aQ (bB (fun f w=>∃ (x:List Bool),vG g x=some a7∧f 0=i64 n∧f 1=zS a1 x.length c2∧f 5=i64 d∧f 6=i64 g∧m.length=x.length∧aI G K (aK 4 K a1 c2 x::L) w) ?_ ?_))))
      ·rintro f k8 ⟨x,a,g7,g8,g9,h0,h1,h2⟩
       unfold vG at a
       exact aA (aP (aN h0 (aD (cP rfl rfl) (aF (v:=i64 (wr (g+1))) (aG ⟨(x,wr (g+1)),(zI a).symm,g7,g8,g9,rfl,h1,h2⟩)))))
      refine aQ (aL (aN a8 (aN b0 (aN Z (aD (aCO rfl rfl) (aN a9 (aD (cP rfl rfl) ?_)))))))
      obtain ⟨k9,b9,a⟩:=aB a
      have c0:=dA a0 (i:=0) rfl b9
      refine aD (dT fO rfl c0 rfl rfl rfl b9) (aD (gP (t:=0) aDW a0 (i:=0) rfl b9 rfl rfl rfl) (aD (eJ rfl) (aG ?_)))
      rcases aH a with ⟨c1,a⟩|⟨c1,a⟩
      ·exact aM c1 rfl (cA (aT (bJ (aA ⟨k,a,Z,a8,a9,b0,b7,a0⟩))))
      ·refine aJ c1 rfl (bA (aA (aL (aF (v:=i64 0) (aG (bB (fun f w=>∃ (y:List Bool),vH g y=some a7∧f 0=i64 n∧f 1=zS a1 y.length c2∧f 5=i64 d∧f 6=i64 g∧m.length=y.length∧aI G K (aK 4 K a1 c2 y::L) w) ?_ ?_))))))
       ·rintro f l0 ⟨y,a,h3,h4,h5,h6,h7,h8⟩
        unfold vH at a
        exact bC (aA ⟨y,a,h3,h4,h5,h6,h7,h8⟩)
       obtain ⟨l1,h9,a⟩:=aB a
       refine cE h9 (fun (s:(List Bool × Int)) f w=>match s with|(l,p)=>f 0=i64 n∧f 1=zS a1 l.length c2∧f 5=i64 d∧f 6=i64 g∧f 7=i64 p∧m.length=l.length∧aI G K (aK 4 K a1 c2 l::L) w) ?_ ?_
       ·exact ⟨Z,a8,a9,b0,rfl,b7,a0⟩
       ·rintro ⟨l,p⟩ d6 f l2 b i0 ⟨z,a2,b1,b2,a3,c3,b3⟩
        replace b:mE n d g l p=some d6:=b
        unfold mE at b
        refine aQ (aL (aN a3 (aN z (aD (cL rfl rfl) (aG ?_)))))
        rcases aH b with ⟨c4,b⟩|⟨c4,b⟩
        ·refine aM c4 rfl (bA (aA (aQ (bB (fun f w=>∃ (J:List Bool),vI p J=some d6∧f 0=i64 n∧f 1=zS a1 J.length c2∧f 5=i64 d∧f 6=i64 g∧f 7=i64 p∧m.length=J.length∧aI G K (aK 4 K a1 c2 J::L) w) ?_ ?_))))
         ·rintro f l3 ⟨J,b,i1,i2,i3,i4,i5,i6,i7⟩
          unfold vI at b
          exact aA (aP (aN i5 (aD (cP rfl rfl) (aF (v:=i64 (wr (p+1))) (aG ⟨(J,wr (p+1)),(zI b).symm,i1,i2,i3,i4,rfl,i6,i7⟩)))))
         refine aL (aN a2 (aN b1 (aN z (aD (aCO rfl rfl) (aN a3 (aD (cP rfl rfl) ?_))))))
         obtain ⟨l4,d7,b⟩:=aB b
         refine aD (dT fO rfl c0 rfl rfl rfl d7) (aD (gP (t:=0) aDW b3 (i:=0) rfl d7 rfl rfl rfl) (aG ?_))
         rcases aH b with ⟨c5,b⟩|⟨c5,b⟩
         ·refine aM c5 rfl (aP (aN a2 (aN b2 (aN z (aD (aCO rfl rfl) (aN a3 (aD (cP rfl rfl) ?_)))))))
          obtain ⟨l5,d8,b⟩:=aB b
          refine aD (dT fO rfl c0 rfl rfl rfl d8) ?_
          obtain ⟨d9,c6,b⟩:=aB b
          exact nG (i:=0) (t:=0) (ns:=[zB true]) (e':=(true:Bool)) sizeOf4 b3 rfl (zR _) rfl rfl rfl d8 c6 rfl rfl (dE rfl) rfl (fun cs h=>by cases h;rfl) (fun i8 (i9:aI G K (aK 4 K a1 c2 d9::L) i8)=>(aZ (bC (aA ⟨d9,b,z,(Eq.trans a2 (congrArg (fun n=>zS a1 n c2) (lE c6))),b1,b2,a3,(c3.trans (lE c6)),i9⟩))))
         ·exact aJ c5 rfl (bA (bC (aA ⟨l,b,z,a2,b1,b2,a3,c3,b3⟩)))
        ·refine aJ c4 rfl (cA (aT (aT ?_)))
         have j0:=i0 _ (zI b).symm
         subst j0
         have a:(vH g l)=some a7:=a
         exact bJ (aA ⟨l,a,z,a2,b1,b2,c3,b3⟩)
     ·refine aJ b8 rfl (cA (aT (aT ?_)))
      have j1:=g6 _ (zI a).symm
      subst j1
      have c:(vF d k)=some a6:=c
      exact bJ (aA ⟨k,c,Z,a8,a9,b7,a0⟩)
   ·refine aJ b6 rfl (cA (aT (aT ?_)))
    have j2:=f3 _ (zI c).symm
    subst j2
    have e:(aAx o)=some R:=e
    exact bJ (aA ⟨o,e,d4,d5⟩)
 obtain ⟨l6,j3,e⟩:=aB e
 refine cE j3 (fun (s:(List Bool × Int)) f w=>match s with|(q,a4)=>f 0=i64 n∧f 1=zS a1 q.length c2∧f 4=i64 a4∧m.length=q.length∧aI G K (aK 4 K a1 c2 q::L) w) ?_ ?_
 ·exact ⟨rfl,rfl,rfl,rfl,hs⟩
 ·rintro ⟨q,a4⟩ j4 f l7 j j5 ⟨b4,c7,b5,e0,c8⟩
  replace j:kU n q a4=some j4:=j
  unfold kU at j
  refine aQ (aL (aN b5 (aN b4 (aD (cL rfl rfl) (aG ?_)))))
  rcases aH j with ⟨c9,j⟩|⟨c9,j⟩
  ·refine aM c9 rfl (bA (aA (aQ (cY (aP (aN c7 (aN b5 (aN b4 (aD (aCO rfl rfl) (aN b5 (aD (cP rfl rfl) ?_)))))))))))
   obtain ⟨l8,d0,j⟩:=aB j
   have j6:=dA c8 (i:=0) rfl d0
   refine aD (dT fO rfl j6 rfl rfl rfl d0) ?_
   obtain ⟨e1,d1,j⟩:=aB j
   exact nG (i:=0) (t:=0) (ns:=[zB true]) (e':=(true:Bool)) sizeOf4 c8 rfl (zR _) rfl rfl rfl d0 d1 rfl rfl (dE rfl) rfl (fun cs h=>by cases h;rfl) (fun j7 (j8:aI G K (aK 4 K a1 c2 e1::L) j7)=>(aZ (bC (aA (aP (aN b5 (aD (cP rfl rfl) (aF (v:=i64 (wr (a4+1))) (aG ⟨(e1,wr (a4+1)),(zI j).symm,b4,(Eq.trans c7 (congrArg (fun n=>zS a1 n c2) (lE d1))),rfl,(e0.trans (lE d1)),j8⟩)))))))))
  ·refine aJ c9 rfl (cA (aT (aT ?_)))
   have j9:=j5 _ (zI j).symm
   subst j9
   have e:(sP n q)=some R:=e
   exact bJ (aA ⟨q,e,b4,c7,e0,c8⟩)
theorem aHH {t:cG} {j:Nat} {R:(List Bool)} (hs:aI G K (L) w) (c:kK K a1 j (zC t a4 c5 a7 c8)) (h6:cX K a4 c5 t.L) (y:cX K a7 c8 t.E) (g:aCo t=some R):
  Calls Tryz.prog 126 ([cU a1 j]:List Value).toArray w (gK fun v w'=>∃ (a5:Option Addr) (a6:Nat),v=zS a5 R.length a6∧aI G K (aK 4 K a5 a6 R::L) w'):=by
 refine aW func126 rfl (by kernel_rfl) (by show (1:Nat)≤57;decide) ?_
 unfold aCo at g
 refine aL (aF (v:=zS none 0 0) (aG (aL (aO (v:=cU a1 j) (aD (cJ rfl c) (aD (bO (k':=j+0) gS rfl c rfl) (aD (bH (t:=0) cK hs c rfl rfl) (aF (v:=i64 t.N) (aG (aL (aO (v:=i64 t.N) (aO (v:=i64 t.N) (aD (aCO rfl rfl) ?_)))))))))))))
 obtain ⟨b,b3,g⟩:=aB g
 refine aFu (e:=(false:Bool)) fO ez_4 rfl rfl hs rfl rfl rfl b3 rfl (fun d b4 (b5:aI G K (aK 4 K d b.length b::L) b4)=>(aF (v:=zS d b.length b.length) (aG (aQ (aL (aF (v:=i64 0) (aG (bB (fun f w=>∃ (u:List Bool),vJ t u=some R∧f 3=i64 t.N∧f 4=zS d u.length b.length∧aI G K (aK 4 K d b.length u::L) w) ?_ ?_))))))))
 ·rintro f d8 ⟨u,g,b6,a8,b7⟩
  unfold vJ at g
  refine aA (aL (aN b6 (aN a8 ?_)))
  obtain ⟨a9,b8,g⟩:=aB g
  refine aS (vs:=[i64 t.N,zS d u.length b.length]) call155 rfl (aHG b7 b8) ?_
  rintro _ d9 ⟨rfl,b9,c0⟩
  refine aG (aL (aN (v:=zS d a9.length b.length) (Eq.trans a8 (congrArg (fun n=>zS d n b.length) b9)) (aF (v:=zS d a9.length b.length) (aG ?_))))
  obtain rfl:=zI g
  exact bM (bP results126 rfl ⟨d,b.length,rfl,c0⟩)
 obtain ⟨e0,c2,g⟩:=aB g
 refine cE c2 (fun (s:(List Bool × Int)) f w=>match s with|(m,k)=>f 0=cU a1 j∧f 3=i64 t.N∧f 4=zS d m.length b.length∧f 5=i64 k∧aI G K (aK 4 K d b.length m::L) w) ?_ ?_
 ·exact ⟨rfl,rfl,rfl,rfl,b5⟩
 ·rintro ⟨m,k⟩ b0 f e1 a c3 ⟨p,z,J,q,o⟩
  replace a:mH t m k=some b0:=a
  unfold mH at a
  refine aQ (aL (aN q (aN p (aD (cJ rfl c) (aD (bO (k':=j+3) cV rfl c rfl) (aD (bH (t:=3) fH o c rfl rfl) (aD (bU (len:=t.E.length) cM rfl) (aD (cL rfl rfl) (aG ?_)))))))))
  rcases aH a with ⟨Z,a⟩|⟨Z,a⟩
  ·refine aM Z rfl (bA (aA (aQ (bB (fun f w=>∃ (x:List Bool),vK k x=some b0∧f 0=cU a1 j∧f 3=i64 t.N∧f 4=zS d x.length b.length∧f 5=i64 k∧aI G K (aK 4 K d b.length x::L) w) ?_ ?_))))
   ·rintro f e2 ⟨x,a,c4,c6,c7,c9,d0⟩
    unfold vK at a
    exact aA (aP (aN c9 (aD (cP rfl rfl) (aF (v:=i64 (wr (k+1))) (aG ⟨(x,wr (k+1)),(zI a).symm,c4,c6,c7,rfl,d0⟩)))))
   refine aL (aN p (aD (cJ rfl c) (aD (bO (k':=j+3) cV rfl c rfl) (aD (bH (t:=3) fH o c rfl rfl) (aN q ?_)))))
   obtain ⟨e3,V,a⟩:=aB a
   refine aD (dI cM rfl y rfl rfl rfl V) ?_
   obtain ⟨e4,r,d1⟩:=cX.el (sz:=3) rfl y V
   cases d1
   refine aD (bO (k':=k.toNat * 3+1) iZ rfl r rfl) (aD (bH (t:=1) cK o r rfl rfl) (aD (gE rfl rfl) (aG ?_)))
   rcases aH a with ⟨a0,a⟩|⟨a0,a⟩
   ·refine aM a0 rfl (fK (C:=fun w'=>∃ L',aI G K L' w') [(0,0),(1,0),(2,0),(3,0),(4,0),(5,0),(6,0),(7,0),(8,0),(9,0),(10,0),(11,0),(12,0),(13,0),(14,0),(15,0),(16,0),(17,0),(18,0),(19,0),(20,0),(21,2)] bZ (by kernel_rfl) (fun _ hg=>⟨_,aI.mono o hg⟩) (fun e5 d2=>?_))
    have l:=aI.mono o d2
    refine bS rfl (fun _ _=>bE J) (bS rfl (fun _ _=>bE p) (bS rfl (fun _ _=>cJ rfl c) (bS rfl (fun _ _=>bO (k':=j+3) cV rfl c rfl) (bS rfl (fun _ ⟨_,l⟩=>bH (t:=3) fH l c rfl rfl) (bS rfl (fun _ _=>bE q) (bS rfl (fun _ _=>dI cM rfl y rfl rfl rfl V) (bS rfl (fun _ _=>bO (k':=k.toNat * 3+0) hQ rfl r rfl) (bS rfl (fun _ ⟨_,l⟩=>bH (t:=0) cK l r rfl rfl) (bS rfl (fun _ _=>bE z) (bS rfl (fun _ _=>aCO rfl rfl) (bS rfl (fun _ _=>bE p) (bS rfl (fun _ _=>cJ rfl c) (bS rfl (fun _ _=>bO (k':=j+3) cV rfl c rfl) (bS rfl (fun _ ⟨_,l⟩=>bH (t:=3) fH l c rfl rfl) (bS rfl (fun _ _=>bE q) (bS rfl (fun _ _=>dI cM rfl y rfl rfl rfl V) (bS rfl (fun _ _=>bO (k':=k.toNat * 3+2) gR rfl r rfl) (bS rfl (fun _ ⟨_,l⟩=>bH (t:=2) cK l r rfl rfl) (bS rfl (fun _ _=>cP rfl rfl) ?_)))))))))))))))))))
    obtain ⟨e6,a2,a⟩:=aB a
    have d3:=dA l (i:=0) rfl a2
    refine bS rfl (fun _ _=>dT fO rfl d3 rfl rfl rfl a2) (aGa rfl ?_)
    obtain ⟨b1,b2,a⟩:=aB a
    exact nG (i:=0) (t:=0) (ns:=[zB true]) (e':=(true:Bool)) sizeOf4 l rfl (zR _) rfl rfl rfl a2 b2 rfl rfl (dE rfl) rfl (fun cs h=>by cases h;rfl) (fun d4 (d5:aI G K (aK 4 K d b.length b1::L) d4)=>(aG (lF (bC (aA ⟨b1,a,p,z,(Eq.trans J (congrArg (fun n=>zS d n b.length) (lE b2))),q,d5⟩)))))
   ·exact aJ a0 rfl (bA (bC (aA ⟨m,a,p,z,J,q,o⟩)))
  ·refine aJ Z rfl (cA (aT (aT ?_)))
   have d6:=c3 _ (zI a).symm
   subst d6
   have g:(vJ t m)=some R:=g
   exact bJ (aA ⟨m,g,z,J,o⟩)
theorem aIH {t:cG} {q:Nat} {m:(List Bool)} {r u:Int} {R:(List Bool)} (hs:aI G K (L) w) (y:kK K a1 q (zC t a4 c5 a7 c8)) (h6:cX K a4 c5 t.L) (h9:cX K a7 c8 t.E) (Z:cX K a10 c11 m) (k:aDx t m r u=some R):
  Calls Tryz.prog 127 ([cU a1 q,zS a10 m.length c11,i64 r,i64 u]:List Value).toArray w (gK fun v w'=>∃ (e7:Option Addr) (e8:Nat),v=zS e7 R.length e8∧aI G K (aK 4 K e7 e8 R::L) w'):=by
 refine aW func127 rfl (by kernel_rfl) (by show (4:Nat)≤90;decide) ?_
 unfold aDx at k
 refine aL (aF (v:=zS none 0 0) (aG (aL (aO (v:=cU a1 q) (aD (cJ rfl y) (aD (bO (k':=q+0) gS rfl y rfl) (aD (bH (t:=0) cK hs y rfl rfl) (aF (v:=i64 t.N) (aG (aL (aO (v:=i64 t.N) ?_)))))))))))
 obtain ⟨b,h2,k⟩:=aB k
 refine aFu (e:=(false:Bool)) fO ez_4 rfl rfl hs rfl rfl rfl h2 rfl (fun c h4 (e9:aI G K (aK 4 K c b.length b::L) h4)=>(aF (v:=zS c b.length b.length) (aG (aQ (aL (aO (v:=i64 u) (aD (gE rfl rfl) (aG ?_))))))))
 rcases aH k with ⟨c2,k⟩|⟨c2,k⟩
 ·refine aM c2 rfl (aQ (aL (aF (v:=i64 0) (aG (bB (fun f w=>∃ (a3:List Bool),aBL a3=some R∧f 10=zS c a3.length b.length∧aI G K (aK 4 K c b.length a3::L) w) ?_ ?_)))))
  ·rintro f n8 ⟨a3,k,h5,h7⟩
   unfold aBL at k
   refine aA (aL (aN h5 (aF (v:=zS c a3.length b.length) (aG ?_))))
   obtain rfl:=zI k
   exact bM (aV (bP results127 rfl ⟨c,b.length,rfl,h7⟩))
  obtain ⟨n9,i0,k⟩:=aB k
  refine cE i0 (fun (s:(List Bool × Int)) f w=>match s with|(a0,a5)=>f 1=zS a10 m.length c11∧f 2=i64 r∧f 9=i64 t.N∧f 10=zS c a0.length b.length∧f 11=i64 a5∧aI G K (aK 4 K c b.length a0::L) w) ?_ ?_
  ·exact ⟨rfl,rfl,rfl,rfl,rfl,e9⟩
  ·rintro ⟨a0,a5⟩ i1 f o0 o i2 ⟨f0,f1,c3,c4,b6,b7⟩
   replace o:nS t m r a0 a5=some i1:=o
   unfold nS at o
   refine aQ (aL (aN b6 (aN c3 (aD (cL rfl rfl) (aG ?_)))))
   rcases aH o with ⟨c6,o⟩|⟨c6,o⟩
   ·refine aM c6 rfl (bA (aA (aQ (cY (aP (aN c4 (aN b6 (aN f0 (aN f1 (aN c3 (aD (aCO rfl rfl) (aN b6 (aD (cP rfl rfl) ?_)))))))))))))
    obtain ⟨f2,f3,o⟩:=aB o
    refine aD (dI fO rfl Z rfl rfl rfl f3) ?_
    obtain ⟨o1,i3,i4⟩:=cX.el (sz:=1) rfl Z f3
    cases i4
    refine aD (bH (t:=0) aDW b7 i3 rfl rfl) ?_
    obtain ⟨o2,c7,o⟩:=aB o
    have i5:=dA b7 (i:=0) rfl c7
    refine aD (dT fO rfl i5 rfl rfl rfl c7) ?_
    obtain ⟨f4,f5,o⟩:=aB o
    exact nG (i:=0) (t:=0) (ns:=[zB f2]) (e':=(f2:Bool)) sizeOf4 b7 rfl (zR _) rfl rfl rfl c7 f5 rfl rfl (dE rfl) rfl (fun cs h=>by cases h;rfl) (fun i6 (i7:aI G K (aK 4 K c b.length f4::L) i6)=>(aZ (bC (aA (aP (aN b6 (aD (cP rfl rfl) (aF (v:=i64 (wr (a5+1))) (aG ⟨(f4,wr (a5+1)),(zI o).symm,f0,f1,c3,(Eq.trans c4 (congrArg (fun n=>zS c n b.length) (lE f5))),rfl,i7⟩)))))))))
   ·refine aJ c6 rfl (cA (aT (aT ?_)))
    have i8:=i2 _ (zI o).symm
    subst i8
    have k:(aBL a0)=some R:=k
    exact bJ (aA ⟨a0,k,c4,b7⟩)
 ·refine aJ c2 rfl (bA (aA (aQ (aL (aF (v:=i64 0) (aG (bB (fun f w=>∃ (a6:List Bool),aBM a6=some R∧f 10=zS c a6.length b.length∧aI G K (aK 4 K c b.length a6::L) w) ?_ ?_)))))))
  ·rintro f o3 ⟨a6,k,i9,j0⟩
   unfold aBM at k
   refine aA (aL (aN i9 (aF (v:=zS c a6.length b.length) (aG ?_))))
   obtain rfl:=zI k
   exact bM (bP results127 rfl ⟨c,b.length,rfl,j0⟩)
  obtain ⟨o4,j2,k⟩:=aB k
  refine cE j2 (fun (s:(List Bool × Int)) f w=>match s with|(x,p)=>f 0=cU a1 q∧f 1=zS a10 m.length c11∧f 2=i64 r∧f 3=i64 u∧f 9=i64 t.N∧f 10=zS c x.length b.length∧f 12=i64 p∧aI G K (aK 4 K c b.length x::L) w) ?_ ?_
  ·exact ⟨rfl,rfl,rfl,rfl,rfl,rfl,rfl,e9⟩
  ·rintro ⟨x,p⟩ a8 f o5 a j3 ⟨b8,c9,d0,d1,d2,d3,b9,a9⟩
   replace a:nU t m r u x p=some a8:=a
   unfold nU at a
   refine aQ (aL (aN b9 (aN b8 (aD (cJ rfl y) (aD (bO (k':=q+3) cV rfl y rfl) (aD (bH (t:=3) fH a9 y rfl rfl) (aD (bU (len:=t.E.length) cM rfl) (aD (cL rfl rfl) (aG ?_)))))))))
   rcases aH a with ⟨d4,a⟩|⟨d4,a⟩
   ·refine aM d4 rfl (bA (aA (aQ (bB (fun f w=>∃ (b0:List Bool),uG p b0=some a8∧f 0=cU a1 q∧f 1=zS a10 m.length c11∧f 2=i64 r∧f 3=i64 u∧f 9=i64 t.N∧f 10=zS c b0.length b.length∧f 12=i64 p∧aI G K (aK 4 K c b.length b0::L) w) ?_ ?_))))
    ·rintro f o6 ⟨b0,a,j4,j5,j6,j7,j8,j9,k0,k1⟩
     unfold uG at a
     exact aA (aP (aN k0 (aD (cP rfl rfl) (aF (v:=i64 (wr (p+1))) (aG ⟨(b0,wr (p+1)),(zI a).symm,j4,j5,j6,j7,j8,j9,rfl,k1⟩)))))
    refine aL (aN b8 (aD (cJ rfl y) (aD (bO (k':=q+3) cV rfl y rfl) (aD (bH (t:=3) fH a9 y rfl rfl) (aN b9 ?_)))))
    obtain ⟨d,f6,a⟩:=aB a
    refine aD (dI cM rfl h9 rfl rfl rfl f6) ?_
    obtain ⟨o7,k3,k4⟩:=cX.el (sz:=3) rfl h9 f6
    cases k4
    refine aD (gT (t:=0) (vs:=[i64 d.F,i64 d.B,i64 d.To]) mQ a9 k3 rfl rfl rfl) (bW (vs:=[i64 0,i64 0,i64 0]) zeroValue69 a9 rfl (fun z o8 k5=>(bY (i:=0) (ns:=[i64 d.F,i64 d.B,i64 d.To]) (us:=[i64 d.F,i64 d.B,i64 d.To]) sizeOf69 k5 rfl rfl rfl rfl rfl (dE rfl) rfl rfl (fun k6 (b1:aI G K (box z 69 [i64 d.F,i64 d.B,i64 d.To]::aK 4 K c b.length x::L) k6)=>(aG (aQ (aQ (cN (fun f w=>∃ (d5:Bool),uH t m x p d d5=some a8∧f 0=cU a1 q∧f 1=zS a10 m.length c11∧f 2=i64 r∧f 3=i64 u∧f 9=i64 t.N∧f 10=zS c x.length b.length∧f 12=i64 p∧f 13=zP (some ⟨z,0,none⟩)∧f 71=zB d5∧aI G K (box z 69 [i64 d.F,i64 d.B,i64 d.To]::aK 4 K c b.length x::L) w) ?_ ?_))))))))
    ·rintro f o9 ⟨d5,a,f7,f8,f9,g0,g1,g2,g3,k7,g4,g5⟩
     unfold uH at a
     refine aA ?_
     rcases aH a with ⟨d6,a⟩|⟨d6,a⟩
     ·exact aM d6 g4 (cA (aT (bJ (aA ⟨x,a,f7,f8,f9,g0,g1,g2,g3,(aI.arr 1 [] g5 rfl)⟩))))
     ·refine aJ d6 g4 (bA (aA (aL (aF (v:=i64 0) (aG (bB (fun f w=>∃ (b2:List Bool),yE p b2=some a8∧f 0=cU a1 q∧f 1=zS a10 m.length c11∧f 2=i64 r∧f 3=i64 u∧f 9=i64 t.N∧f 10=zS c b2.length b.length∧f 12=i64 p∧aI G K (aK 4 K c b.length b2::L) w) ?_ ?_))))))
      ·rintro f p0 ⟨b2,a,k8,k9,l0,l1,l2,l3,l4,l5⟩
       unfold yE at a
       exact bC (aA ⟨b2,a,k8,k9,l0,l1,l2,l3,l4,l5⟩)
      obtain ⟨p1,l6,a⟩:=aB a
      refine cE l6 (fun (s:(List Bool × Int)) f w=>match s with|(J,V)=>f 0=cU a1 q∧f 1=zS a10 m.length c11∧f 2=i64 r∧f 3=i64 u∧f 9=i64 t.N∧f 10=zS c J.length b.length∧f 12=i64 p∧f 13=zP (some ⟨z,0,none⟩)∧f 14=i64 V∧aI G K (box z 69 [i64 d.F,i64 d.B,i64 d.To]::aK 4 K c b.length J::L) w) ?_ ?_
      ·exact ⟨f7,f8,f9,g0,g1,g2,g3,k7,rfl,g5⟩
      ·rintro ⟨J,V⟩ g6 f p2 l l7 ⟨d7,c0,d8,d9,b3,c1,e0,e1,b4,a2⟩
       replace l:nT t m d J V=some g6:=l
       unfold nT at l
       refine aQ (aL (aN b4 (aN b3 (aD (cL rfl rfl) (aG ?_)))))
       rcases aH l with ⟨e2,l⟩|⟨e2,l⟩
       ·refine aM e2 rfl (bA (aA (aQ (bB (fun f w=>∃ (b5:List Bool),yF V b5=some g6∧f 0=cU a1 q∧f 1=zS a10 m.length c11∧f 2=i64 r∧f 3=i64 u∧f 9=i64 t.N∧f 10=zS c b5.length b.length∧f 12=i64 p∧f 13=zP (some ⟨z,0,none⟩)∧f 14=i64 V∧aI G K (box z 69 [i64 d.F,i64 d.B,i64 d.To]::aK 4 K c b.length b5::L) w) ?_ ?_))))
        ·rintro f p3 ⟨b5,l,l8,l9,m0,m1,m2,m3,m4,m5,m6,m7⟩
         unfold yF at l
         exact aA (aP (aN m6 (aD (cP rfl rfl) (aF (v:=i64 (wr (V+1))) (aG ⟨(b5,wr (V+1)),(zI l).symm,l8,l9,m0,m1,m2,m3,m4,m5,rfl,m7⟩)))))
        refine aL (aN c0 (aD (bT (t':=2) gR e1 rfl) (aD (dS cK a2 (i:=0) rfl rfl rfl) (aN b3 (aD (aCO rfl rfl) (aN b4 (aD (cP rfl rfl) ?_)))))))
        obtain ⟨p4,g7,l⟩:=aB l
        refine aD (dI fO rfl Z rfl rfl rfl g7) ?_
        obtain ⟨p5,m8,m9⟩:=cX.el (sz:=1) rfl Z g7
        cases m9
        refine aD (bH (t:=0) aDW a2 m8 rfl rfl) (aG ?_)
        rcases aH l with ⟨e3,l⟩|⟨e3,l⟩
        ·refine aM e3 rfl (aP (aN c1 (aN b4 ?_)))
         obtain ⟨p6,e4,l⟩:=aB l
         have n0:=dA a2 (i:=1) rfl e4
         refine aD (dT fO rfl n0 rfl rfl rfl e4) ?_
         obtain ⟨g8,g9,l⟩:=aB l
         exact nG (i:=1) (t:=0) (ns:=[zB true]) (e':=(true:Bool)) sizeOf4 a2 rfl (zR _) rfl rfl rfl e4 g9 rfl rfl (dE rfl) rfl (fun cs h=>by cases h;rfl) (fun n1 (n2:aI G K (box z 69 [i64 d.F,i64 d.B,i64 d.To]::aK 4 K c b.length g8::L) n1)=>(aZ (bC (aA ⟨g8,l,d7,c0,d8,d9,b3,(Eq.trans c1 (congrArg (fun n=>zS c n b.length) (lE g9))),e0,e1,b4,n2⟩))))
        ·exact aJ e3 rfl (bA (bC (aA ⟨J,l,d7,c0,d8,d9,b3,c1,e0,e1,b4,a2⟩)))
       ·refine aJ e2 rfl (cA (aT (aT ?_)))
        have n3:=l7 _ (zI l).symm
        subst n3
        have a:(yE p J)=some a8:=a
        exact bJ (aA ⟨J,a,d7,c0,d8,d9,b3,c1,e0,(aI.arr 1 [] a2 rfl)⟩)
    refine aP (aD (bT (t':=1) iZ rfl rfl) (aD (dS cK b1 (i:=0) rfl rfl rfl) (aN d1 (aD (aBw rfl rfl) (aO (v:=zB (d.B != u)) ?_)))))
    rcases aH a with ⟨j,a⟩|⟨j,a⟩
    ·exact aX j rfl rfl (aX j rfl rfl (aX j rfl rfl (aX j rfl rfl (aX j rfl rfl (aX j rfl rfl (aX j rfl rfl (aX j rfl rfl (aX j rfl rfl (aX j rfl rfl (aD (bL (v:=zB true) j rfl rfl) (aG ⟨true,a,b8,c9,d0,d1,d2,d3,b9,rfl,rfl,b1⟩)))))))))))
    ·refine bG j rfl rfl (aN c9 (bG j rfl rfl (aN d0 (bG j rfl rfl (aN d2 (bG j rfl rfl (aD (aCO rfl rfl) (bG j rfl rfl (aD (bT (t':=0) hQ rfl rfl) (bG j rfl rfl (aD (dS cK b1 (i:=0) rfl rfl rfl) (bG j rfl rfl (aD (cP rfl rfl) (bG j rfl rfl ?_))))))))))))))
     obtain ⟨h0,h1,a⟩:=aB a
     refine aD (dI fO rfl Z rfl rfl rfl h1) ?_
     obtain ⟨p7,n4,n5⟩:=cX.el (sz:=1) rfl Z h1
     cases n5
     exact bG j rfl rfl (aD (bH (t:=0) aDW b1 n4 rfl rfl) (bG j rfl rfl (aD (eJ rfl) (aD (bK (v:=zB (!h0)) j rfl rfl) (aG ⟨!h0,a,b8,c9,d0,d1,d2,d3,b9,rfl,rfl,b1⟩)))))
   ·refine aJ d4 rfl (cA (aT (aT ?_)))
    have n6:=j3 _ (zI a).symm
    subst n6
    have k:(aBM x)=some R:=k
    exact bJ (aA ⟨x,k,d3,a9⟩)
end Gv
