/- Walks, printed by program. -/
import Derived.Test.YtkgakibhmcbflaaGreatDoorJWk1
import Derived.Test.YtkgakibhmcbflaaGreatDoorJWk2
set_option linter.all false
namespace Gv
open Go.Value renaming slice→zS,bool→zB,pointer→zP,agg→zA
open Option.some renaming inj→zI
open Gv.Hp renaming le_trans→zL,le_refl→zR
open Go Go.Proofs
set_option maxRecDepth 20000
set_option maxHeartbeats 40000000
variable {G:Env} {K:Hp} {L:List nG} {w:World} {a1 a4 a7 a10 a2 a5:Option Addr} {c5 c8 c11 b1 c3 c6:Nat}
theorem aEw {t:cD} {j:Nat} {p:(List Int)} {u:Bool} {R:cD} (hs:aI G K (L) w) (k:fP K a1 j (zC t a4 c5 a7 c8)) (h6:bX K a4 c5 t.L) (h9:bX K a7 c8 t.E) (m:bX K a10 c11 p) (a:uW t p u=some R):
  Calls Tryz.prog 43 ([cP a1 j,zS a10 p.length c11,zB u]:List Value).toArray w (gQ fun v w'=>∃ (g0:Option Addr) (g1:Nat) (g2:Option Addr) (g3:Nat),v=zA (zCa R g0 g1 g2 g3)∧aI G K (aR 9 K g0 g1 R.L::aR 51 K g2 g3 R.E::L) w'):=by
 let l:=zG
 refine aS Tryz.func43 rfl (by kernel_rfl) (by show (3:Nat)≤92;decide) ?_
 unfold uW at a
 refine aK (cQ (vs:=l) Tryz.zeroValue27 hs rfl (fun c s0 j9=>(aG (aK (cJ (Kt:=K) (xs:=([]:List Edge)) (cs:=[]) (vs:=[]) cN jD rfl rfl j9 rfl (by kernel_rfl) rfl rfl rfl trivial (fun d7 k0 (k1:aI G K (aR 51 K d7 0 ([]:List Edge)::box c 27 l::L) k0)=>(aF (v:=zS d7 ([]:List Edge).length 0) (aG (aO (aK (aF (v:=i64 0) (aG (aZ (fun f w=>∃ (b2:List Edge) (b3:Option Addr) (b4:Nat),pH t p u b2=some R∧f 0=cP a1 j∧f 1=zS a10 p.length c11∧f 2=zB u∧f 6=zP (some ⟨c,0,none⟩)∧f 7=zS b3 b2.length b4∧aI G K (aR 51 K b3 b4 b2::box c 27 l::L) w) ?_ ?_)))))))))))))
 ·rintro f s1 ⟨b2,b3,b4,a,d8,d9,k3,g4,g5,g6⟩
  unfold pH at a
  refine aA (lV (fun f w=>∃ (Z:List Edge) (b5:Option Addr) (b6:Nat),mH t p Z=some R∧f 0=cP a1 j∧f 1=zS a10 p.length c11∧f 6=zP (some ⟨c,0,none⟩)∧f 7=zS b5 Z.length b6∧aI G K (aR 51 K b5 b6 Z::box c 27 l::L) w) ?_ ?_)
  ·rintro f s2 ⟨Z,b5,b6,a,g7,g8,g9,k4,h0⟩
   unfold mH at a
   refine aO (dQ (C:=fun w'=>∃ L',aI G K L' w') [(0,0),(2,0),(3,0),(4,0),(5,0),(6,0),(7,0),(8,0),(9,0),(10,0),(11,0),(12,0),(13,0),(1,1),(14,1),(15,2)] bP (by kernel_rfl) (fun _ hg=>⟨_,aI.mono h0 hg⟩) (fun s3 k5=>?_))
   have x:=aI.mono h0 k5
   refine bJ rfl (fun _ _=>aW g8) (bJ rfl (fun _ _=>aW g8) (bJ rfl (fun _ _=>aW g7) (bJ rfl (fun _ _=>cX rfl k) (bJ rfl (fun _ _=>cG (k':=j+1) oV rfl k rfl) (bJ rfl (fun _ ⟨_,x⟩=>bG (t:=1) bY x k rfl rfl) ?_)))))
   obtain ⟨k6,h1,a⟩:=aC a
   refine bJ rfl (fun _ _=>cU bO rfl m rfl rfl rfl h1) ?_
   obtain ⟨s4,k7,k8⟩:=bX.el (sz:=1) rfl m h1
   cases k8
   refine bJ rfl (fun _ ⟨_,x⟩=>bG (t:=0) bY x k7 rfl rfl) (bJ rfl (fun _ _=>aW g7) (bJ rfl (fun _ _=>cX rfl k) (bJ rfl (fun _ _=>cG (k':=j+2) gV rfl k rfl) (bJ rfl (fun _ ⟨_,x⟩=>bG (t:=2) oC x k rfl rfl) (bJ rfl (fun _ _=>aW k4) (gZ rfl ?_))))))
   obtain ⟨k9,l0,a⟩:=aC a
   refine aQ (vs:=[zS a10 p.length c11]) Tryz.call77 rfl (aCl x m l0) ?_
   rintro _ s5 ⟨rfl,h2⟩
   refine bM (aA ⟨⟨_,h2⟩,?_⟩)
   refine gZ rfl ?_
   obtain ⟨s6,l1,l2,l3,l4⟩:=aI.lendS (i:=0) h2 (zR _) rfl
   obtain ⟨d,l5,a⟩:=aC a
   refine aQ (vs:=[i64 k9,i64 k6,zS a4 t.L.length c5,zS b5 Z.length b6]) Tryz.call20 rfl (nC l3 (h6.mono l1) l2 l5) ?_
   rintro _ s7 ⟨a0,a2,a3,a5,rfl,l6⟩
   have h4:=l4 _ _ l6
   refine bM (aA ⟨⟨_,h4⟩,?_⟩)
   refine aGr rfl (cZ (i:=3) (ns:=(zC d a0 a2 a3 a5)) (us:=(zC d a0 a2 a3 a5)) Tryz.sizeOf27 h4 rfl g9 rfl rfl rfl (fO rfl) rfl rfl (fun l7 (h5:aI G K (aR 51 K b5 b6 Z::aR 9 K a0 a2 d.L::aR 51 K a3 a5 d.E::box c 27 (zC d a0 a2 a3 a5)::L) l7)=>(aG (gR (aA ?_)))))
   obtain rfl:=zI a
   exact bK (vF Tryz.results43 (oB (vs:=(zC d a0 a2 a3 a5)) rfl dB h5 (i:=3) rfl g9 rfl) ⟨a0,a2,a3,a5,rfl,(aI.arr 4 [1,2] h5 rfl)⟩)
  refine aK (aN k3 (aG ?_))
  rcases aH a with ⟨e0,a⟩|⟨e0,a⟩
  ·refine aM e0 rfl (aK (aN d8 (aN d9 ?_)))
   obtain ⟨l9,m0,a⟩:=aC a
   refine aQ (vs:=[cP a1 j,zS a10 p.length c11]) Tryz.call76 rfl (aBH g6 k h6 h9 m m0) ?_
   rintro _ s8 ⟨m1,m2,rfl,m3⟩
   obtain ⟨s9,t0,m4,m5,m6⟩:=aI.lendS (i:=0) m3 (zR _) rfl
   obtain ⟨b7,m7,a⟩:=aC a
   refine aQ (vs:=[zS m1 l9.length m2]) Tryz.call75 rfl (aHp m5 m4 m7) ?_
   rintro _ t1 ⟨e1,e2,rfl,m8⟩
   have m9:=m6 _ _ m8
   refine aF (v:=zS e1 b7.length e2) (aG (aK (aF (v:=i64 0) (aG (aZ (fun f w=>∃ (b8:List Edge) (c6:Option Addr) (c7:Nat),pG t p b8=some R∧f 0=cP a1 j∧f 1=zS a10 p.length c11∧f 6=zP (some ⟨c,0,none⟩)∧f 7=zS c6 b8.length c7∧aI G K (aR 51 K c6 c7 b8::box c 27 l::L) w) ?_ ?_)))))
   ·rintro f t2 ⟨b8,c6,c7,a,n0,n1,n2,n3,n4⟩
    unfold pG at a
    exact aA ⟨b8,c6,c7,a,n0,n1,n2,n3,n4⟩
   obtain ⟨t3,n5,a⟩:=aC a
   refine cC n5 (fun (s:(List Edge × Int)) f w=>match s with|(y,b9)=>∃ (c0:Option Addr) (c1:Nat),f 0=cP a1 j∧f 1=zS a10 p.length c11∧f 6=zP (some ⟨c,0,none⟩)∧f 7=zS c0 y.length c1∧f 10=zS e1 b7.length e2∧f 11=i64 b9∧aI G K (aR 2 K e1 e2 b7::aR 51 K c0 c1 y::box c 27 l::L) w) ?_ ?_
   ·exact ⟨b3,b4,d8,d9,g4,g5,rfl,rfl,(aI.arr 1 [] m9 rfl)⟩
   ·rintro ⟨y,b9⟩ n6 f t4 g n7 ⟨c0,c1,h7,c9,h8,i0,d0,d1,i1⟩
    replace g:iJ p b7 y b9=some n6:=g
    unfold iJ at g
    refine aO (aK (aN d1 (aN d0 (aD (bT (len:=b7.length) bO rfl) (aD (cT rfl rfl) (aG ?_))))))
    rcases aH g with ⟨e3,g⟩|⟨e3,g⟩
    ·refine aM e3 rfl (aY (aA (aO (cI ?_))))
     obtain ⟨e4,a6,i2,i3,n8⟩:=aI.lendS (i:=0) i1 (zR _) rfl
     refine dQ (C:=fun w'=>∃ L',aI G e4 L' w') [(0,0),(1,0),(2,0),(3,0),(4,0),(5,0),(6,0),(7,0),(8,0),(9,0),(10,0),(11,0),(12,0),(13,0),(14,0),(15,0),(16,1),(17,1),(18,0)] bP (by kernel_rfl) (fun _ hg=>⟨_,aI.mono i3 hg⟩) (fun t5 n9=>?_)
     have q:=aI.mono i3 n9
     refine bJ rfl (fun _ _=>aW i0) (bJ rfl (fun _ _=>aW c9) (bJ rfl (fun _ _=>aW d0) (bJ rfl (fun _ _=>aW d1) ?_)))
     obtain ⟨t6,d2,g⟩:=aC g
     have i4:=aEQ i2 d2
     refine bJ rfl (fun _ _=>eM bO rfl i4 rfl rfl rfl d2) ?_
     obtain ⟨t7,i5,o0⟩:=bX.el (sz:=1) rfl i2 d2
     cases o0
     refine bJ rfl (fun _ ⟨_,q⟩=>bG (t:=0) bY q i5 rfl rfl) ?_
     obtain ⟨n,e5,g⟩:=aC g
     refine bJ rfl (fun _ _=>cU bO rfl (m.mono a6) rfl rfl rfl e5) ?_
     obtain ⟨t8,i6,o1⟩:=bX.el (sz:=1) rfl m e5
     cases o1
     refine bJ rfl (fun _ ⟨_,q⟩=>bG (t:=0) bY q (i6.mono a6) rfl rfl) (bJ rfl (fun _ _=>aW c9) (bJ rfl (fun _ _=>aW d0) (bJ rfl (fun _ _=>aW d1) (bJ rfl (fun _ _=>eM bO rfl i4 rfl rfl rfl d2) (bJ rfl (fun _ ⟨_,q⟩=>bG (t:=0) bY q i5 rfl rfl) (bJ rfl (fun _ _=>cU bO rfl (m.mono a6) rfl rfl rfl e5) (bJ rfl (fun _ ⟨_,q⟩=>bG (t:=0) bY q (i6.mono a6) rfl rfl) (bJ rfl (fun _ _=>nH (vs:=[(0,i64 n),(2,i64 n)]) (cs:=[i64 n,i64 0,i64 n]) aEd rfl (by kernel_rfl)) (gZ rfl (cJ (Kt:=K) (xs:=([⟨n,0,n⟩]:List Edge)) (cs:=[i64 n,i64 0,i64 n]) (vs:=[(0,zA #[i64 n,i64 0,i64 n])]) cN jD rfl rfl q rfl (by kernel_rfl) rfl rfl rfl ⟨rfl,trivial⟩ (fun o2 o3 (i7:aI G e4 (aR 51 K o2 1 ([⟨n,0,n⟩]:List Edge)::aR 51 K c0 c1 y::box c 27 l::L) o3)=>(bM (aA ⟨⟨_,i7⟩,?_⟩)))))))))))))
     refine gZ rfl ?_
     obtain ⟨e6,o4,g⟩:=aC g
     refine eK (i:=0) cN Tryz.underlying25 jD rfl rfl i7 rfl a6 a6 o4 rfl rfl rfl rfl (fun _ h=>h) (fun e7 e8 o5 (i8:aI G e4 (aR 51 K e7 e8 e6::box c 27 l::L) o5)=>(bM (aA ⟨⟨_,i8⟩,?_⟩)))
     refine bJ rfl (fun _ _=>gB (v:=zS e7 e6.length e8) rfl) (gR ?_)
     have o6:=n8 _ _ i8
     exact bA (aA (aP (aN d1 (aD (cK rfl rfl) (aF (v:=i64 (wr (b9+1))) (aG ⟨(e6,wr (b9+1)),(zI g).symm,e7,e8,h7,c9,h8,rfl,d0,rfl,o6⟩))))))
    ·refine aJ e3 rfl (cA (aV (aV ?_)))
     have o7:=n7 _ (zI g).symm
     subst o7
     have a:(pG t p y)=some R:=a
     exact bN (aA ⟨y,c0,c1,a,h7,c9,h8,i0,(aI.arr 1 [] i1 rfl)⟩)
  ·exact aJ e0 rfl (aY (aA ⟨b2,b3,b4,a,d8,d9,g4,g5,g6⟩))
 obtain ⟨t9,o8,a⟩:=aC a
 refine cC o8 (fun (s:(List Edge × Int)) f w=>match s with|(r,z)=>∃ (J:Option Addr) (V:Nat),f 0=cP a1 j∧f 1=zS a10 p.length c11∧f 2=zB u∧f 6=zP (some ⟨c,0,none⟩)∧f 7=zS J r.length V∧f 8=i64 z∧aI G K (aR 51 K J V r::box c 27 l::L) w) ?_ ?_
 ·exact ⟨d7,0,rfl,rfl,rfl,rfl,rfl,rfl,k1⟩
 ·rintro ⟨r,z⟩ i9 f u0 b o9 ⟨J,V,c2,a8,e9,f0,f1,d3,c3⟩
  replace b:iK t p r z=some i9:=b
  unfold iK at b
  refine aO (aK (aN d3 (aN c2 (aD (cX rfl k) (aD (cG (k':=j+3) dY rfl k rfl) (aD (bG (t:=3) jR c3 k rfl rfl) (aD (bT (len:=t.E.length) cN rfl) (aD (cT rfl rfl) (aG ?_)))))))))
  rcases aH b with ⟨f2,b⟩|⟨f2,b⟩
  ·refine aM f2 rfl (aY (aA (aO (aZ (fun f w=>∃ (c4:List Edge) (d4:Option Addr) (d5:Nat),pI z c4=some i9∧f 0=cP a1 j∧f 1=zS a10 p.length c11∧f 2=zB u∧f 6=zP (some ⟨c,0,none⟩)∧f 7=zS d4 c4.length d5∧f 8=i64 z∧aI G K (aR 51 K d4 d5 c4::box c 27 l::L) w) ?_ ?_))))
   ·rintro f u1 ⟨c4,d4,d5,b,p0,p1,p2,p3,p4,p5,p6⟩
    unfold pI at b
    exact aA (aP (aN p5 (aD (cK rfl rfl) (aF (v:=i64 (wr (z+1))) (aG ⟨(c4,wr (z+1)),(zI b).symm,d4,d5,p0,p1,p2,p3,p4,rfl,p6⟩)))))
   refine aK (aN c2 (aD (cX rfl k) (aD (cG (k':=j+3) dY rfl k rfl) (aD (bG (t:=3) jR c3 k rfl rfl) (aN d3 ?_)))))
   obtain ⟨e,j0,b⟩:=aC b
   refine aD (cU cN rfl h9 rfl rfl rfl j0) ?_
   obtain ⟨u2,p7,p8⟩:=bX.el (sz:=3) rfl h9 j0
   cases p8
   refine aD (iD (t:=0) (vs:=[i64 e.F,i64 e.B,i64 e.To]) kW c3 p7 rfl rfl rfl) (cQ (vs:=[i64 0,i64 0,i64 0]) Tryz.zeroValue51 c3 rfl (fun j1 u3 p9=>(cZ (i:=0) (ns:=[i64 e.F,i64 e.B,i64 e.To]) (us:=[i64 e.F,i64 e.B,i64 e.To]) Tryz.sizeOf51 p9 rfl rfl rfl rfl rfl (fO rfl) rfl rfl (fun q0 (q1:aI G K (box j1 51 [i64 e.F,i64 e.B,i64 e.To]::aR 51 K J V r::box c 27 l::L) q0)=>(aG (aK (aN a8 ?_)))))))
   obtain ⟨u4,q2,q3,q4,q5⟩:=aI.lendB (i:=0) q1 rfl
   obtain ⟨u5,q6,b⟩:=aC b
   refine aQ (vs:=[cP (some ⟨j1,0,none⟩) 0,zS a10 p.length c11]) Tryz.call74 rfl (vT q4 q3 (m.mono q2) q6) ?_
   rintro _ u6 ⟨rfl,q7⟩
   have j2:=q5 _ _ q7
   refine aD (eR rfl) (aG ?_)
   rcases aH b with ⟨f3,b⟩|⟨f3,b⟩
   ·refine aM f3 rfl ?_
    obtain ⟨f4,a9,f5,j3,q8⟩:=aI.lendB (i:=0) j2 rfl
    refine dQ (C:=fun w'=>∃ L',aI G f4 L' w') [(0,0),(1,0),(2,0),(3,0),(4,0),(5,0),(6,0),(7,0),(8,0),(9,0),(10,0),(11,0),(12,0),(13,0),(14,1),(15,1),(16,0)] bP (by kernel_rfl) (fun _ hg=>⟨_,aI.mono j3 hg⟩) (fun u7 q9=>?_)
    have o:=aI.mono j3 q9
    refine bJ rfl (fun _ _=>aW f1) (bJ rfl (fun _ _=>aW a8) (bJ rfl (fun _ _=>bL (t':=0) iY rfl rfl) (bJ rfl (fun _ ⟨_,o⟩=>bG (t:=0) bY o f5 rfl rfl) ?_)))
    obtain ⟨b0,j4,b⟩:=aC b
    refine bJ rfl (fun _ _=>cU bO rfl (m.mono a9) rfl rfl rfl j4) ?_
    obtain ⟨u8,r0,r1⟩:=bX.el (sz:=1) rfl m j4
    cases r1
    refine bJ rfl (fun _ ⟨_,o⟩=>bG (t:=0) bY o (r0.mono a9) rfl rfl) (bJ rfl (fun _ _=>bL (t':=1) iZ rfl rfl) (bJ rfl (fun _ ⟨_,o⟩=>bG (t:=1) bY o f5 rfl rfl) (bJ rfl (fun _ _=>aW a8) (bJ rfl (fun _ _=>bL (t':=2) iC rfl rfl) (bJ rfl (fun _ ⟨_,o⟩=>bG (t:=2) bY o f5 rfl rfl) ?_)))))
    obtain ⟨b1,j5,b⟩:=aC b
    refine bJ rfl (fun _ _=>cU bO rfl (m.mono a9) rfl rfl rfl j5) ?_
    obtain ⟨u9,r2,r3⟩:=bX.el (sz:=1) rfl m j5
    cases r3
    refine bJ rfl (fun _ ⟨_,o⟩=>bG (t:=0) bY o (r2.mono a9) rfl rfl) (bJ rfl (fun _ _=>nH (vs:=[(0,i64 b0),(1,i64 e.B),(2,i64 b1)]) (cs:=[i64 b0,i64 e.B,i64 b1]) aEd rfl (by kernel_rfl)) (gZ rfl (cJ (Kt:=K) (xs:=([⟨b0,e.B,b1⟩]:List Edge)) (cs:=[i64 b0,i64 e.B,i64 b1]) (vs:=[(0,zA #[i64 b0,i64 e.B,i64 b1])]) cN jD rfl rfl o rfl (by kernel_rfl) rfl rfl rfl ⟨rfl,trivial⟩ (fun r4 r5 (j6:aI G f4 (aR 51 K r4 1 ([⟨b0,e.B,b1⟩]:List Edge)::aR 51 K J V r::box c 27 l::L) r5)=>(bM (aA ⟨⟨_,j6⟩,?_⟩))))))
    refine gZ rfl ?_
    obtain ⟨f6,r6,b⟩:=aC b
    refine eK (i:=0) cN Tryz.underlying25 jD rfl rfl j6 rfl a9 a9 r6 rfl rfl rfl rfl (fun _ h=>h) (fun f7 f8 r7 (j7:aI G f4 (aR 51 K f7 f8 f6::box c 27 l::L) r7)=>(bM (aA ⟨⟨_,j7⟩,?_⟩)))
    refine bJ rfl (fun _ _=>gB (v:=zS f7 f6.length f8) rfl) (gR ?_)
    have r8:=q8 _ _ j7
    exact bA (aA ⟨f6,f7,f8,b,c2,a8,e9,f0,rfl,d3,(aI.arr 1 [] r8 rfl)⟩)
   ·exact aJ f3 rfl (aY (bA (aA ⟨r,J,V,b,c2,a8,e9,f0,f1,d3,(aI.arr 1 [] j2 rfl)⟩)))
  ·refine aJ f2 rfl (cA (aV (aV ?_)))
   have r9:=o9 _ (zI b).symm
   subst r9
   have a:(pH t p u r)=some R:=a
   exact bN (aA ⟨r,J,V,a,c2,a8,e9,f0,f1,c3⟩)
theorem aGv {t:cD} {d:Nat} {e:Bool} {R:cD} (hs:aI G K (L) w) (V:fP K a1 d (zC t a4 c5 a7 c8)) (Z:bX K a4 c5 t.L) (h9:bX K a7 c8 t.E) (c:aBn t e=some R):
  Calls Tryz.prog 17 ([cP a1 d,zB e]:List Value).toArray w (gQ fun v w'=>∃ (a2:Option Addr) (a3:Nat) (a5:Option Addr) (a6:Nat),v=zA (zCa R a2 a3 a5 a6)∧aI G K (aR 9 K a2 a3 R.L::aR 51 K a5 a6 R.E::L) w'):=by
 let q:=zG
 refine aS Tryz.func17 rfl (by kernel_rfl) (by show (2:Nat)≤14;decide) ?_
 unfold aBn at c
 refine aK (cQ (vs:=q) Tryz.zeroValue27 hs rfl (fun a8 g7 b7=>(aG (aK (aL (v:=cP a1 d) (aL (v:=cP a1 d) ?_))))))
 obtain ⟨r,b8,c⟩:=aC c
 refine aQ (vs:=[cP a1 d]) Tryz.call42 rfl (aCE b7 V Z h9 b8) ?_
 rintro _ g8 ⟨u,x,rfl,b9⟩
 obtain ⟨g9,y,c0,c1,c2⟩:=aI.lendS (i:=0) b9 (zR _) rfl
 obtain ⟨a,c3,c⟩:=aC c
 refine aQ (vs:=[cP a1 d,zS u r.length x]) Tryz.call41 rfl (aDi c1 (V.mono y) (Z.mono y) (h9.mono y) c0 c3) ?_
 rintro _ h0 ⟨g,h,j,k,rfl,c4⟩
 have c6:=c2 _ _ c4
 refine cQ (vs:=q) Tryz.zeroValue27 c6 rfl (fun p h1 c7=>(cZ (i:=0) (ns:=(zC a g h j k)) (us:=(zC a g h j k)) Tryz.sizeOf27 c7 rfl rfl rfl rfl rfl (fO rfl) rfl rfl (fun c9 (d0:aI G K (box p 27 (zC a g h j k)::aR 2 K u x r::aR 9 K g h a.L::aR 51 K j k a.E::box a8 27 q::L) c9)=>(aG (aK (aL (v:=zB e) ?_))))))
 obtain ⟨h2,d1,d2,d3,d4⟩:=aI.lendS (i:=2) d0 (zR _) rfl
 obtain ⟨h4,d5,d6,d7,d8⟩:=aI.lendS (i:=2) d3 d1 rfl
 obtain ⟨h5,a9,d9,e0,e1⟩:=aI.lendB (i:=0) d7 rfl
 obtain ⟨b0,e2,c⟩:=aC c
 refine aQ (vs:=[cP (some ⟨p,0,none⟩) 0,zB e]) Tryz.call34 rfl (aDh e0 d9 (d2.mono (zL d5 a9)) (d6.mono a9) e2) ?_
 rintro _ h7 ⟨b1,b2,rfl,e3⟩
 have e4:=e1 _ _ e3
 have e5:=d8 _ _ e4
 have e6:=d4 _ _ e5
 refine aL (v:=zB e) ?_
 obtain ⟨h8,b3,e7,e8,e9⟩:=aI.lendS (i:=0) e6 (zR _) rfl
 obtain ⟨i0,b4,f0,f1,f2⟩:=aI.lendS (i:=0) e8 b3 rfl
 obtain ⟨i1,z,f3,f4,f5⟩:=aI.lendB (i:=0) f1 rfl
 obtain ⟨i2,J,f6,f7,f8⟩:=aI.lendS (i:=0) f4 (zL (zL b3 b4) z) rfl
 obtain ⟨b,f9,c⟩:=aC c
 refine aQ (vs:=[cP (some ⟨p,0,none⟩) 0,zS b1 b0.length b2,zB e]) Tryz.call43 rfl (aEw f7 (f3.mono J) (e7.mono (zL (zL b4 z) J)) (f0.mono (zL z J)) f6 f9) ?_
 rintro _ i3 ⟨l,m,n,o,rfl,g0⟩
 have g1:=f8 _ _ g0
 have g2:=f5 _ _ g1
 have g3:=f2 _ _ g2
 have g4:=e9 _ _ g3
 refine cZ (i:=7) (ns:=(zC b l m n o)) (us:=(zC b l m n o)) Tryz.sizeOf27 g4 rfl rfl rfl rfl rfl (fO rfl) rfl rfl (fun g5 (b5:aI G K (aR 9 K g h a.L::aR 51 K j k a.E::box p 27 (zC a g h j k)::aR 2 K b1 b2 b0::aR 9 K l m b.L::aR 51 K n o b.E::aR 2 K u x r::box a8 27 (zC b l m n o)::L) g5)=>(aG ?_))
 obtain rfl:=zI c
 exact bK (vF Tryz.results17 (oB (vs:=(zC b l m n o)) rfl dB b5 (i:=7) rfl rfl rfl) ⟨l,m,n,o,rfl,(aI.arr 8 [4,5] b5 rfl)⟩)
theorem aHq {t:cD} {g:Nat} {p:(List Int)} {k:Int} {R:(List Int)} (hs:aI G K (L) w) (b:fP K a1 g (zC t a4 c5 a7 c8)) (h6:bX K a4 c5 t.L) (z:bX K a7 c8 t.E) (a9:bX K a10 c11 p) (e:aCh t p k=some R):
  Calls Tryz.prog 100 ([cP a1 g,zS a10 p.length c11,i64 k]:List Value).toArray w (gQ fun v w'=>∃ (b0:Option Addr) (b1:Nat),v=zS b0 R.length b1∧aI G K (aR 2 K b0 b1 R::L) w'):=by
 refine aS Tryz.func100 rfl (by kernel_rfl) (by show (3:Nat)≤55;decide) ?_
 unfold aCh at e
 refine aK (aF (v:=zS none 0 0) (aG (aK (cJ (Kt:=K) (xs:=([]:List Int)) (cs:=[]) (vs:=[]) bO jU rfl rfl hs rfl (by kernel_rfl) rfl rfl rfl trivial (fun a2 b9 (c0:aI G K (aR 2 K a2 0 ([]:List Int)::L) b9)=>(aF (v:=zS a2 ([]:List Int).length 0) (aG (aO (aK (aF (v:=i64 0) (aG (aZ (fun f w=>∃ (r:List Int) (u:Option Addr) (x:Nat),aAN r=some R∧f 7=zS u r.length x∧aI G K (aR 2 K u x r::L) w) ?_ ?_))))))))))))
 ·rintro f e7 ⟨r,u,x,e,c1,c2⟩
  unfold aAN at e
  refine aA (aK (aN c1 (aF (v:=zS u r.length x) (aG ?_))))
  obtain rfl:=zI e
  exact bK (bE Tryz.results100 rfl ⟨u,x,rfl,c2⟩)
 obtain ⟨e8,c4,e⟩:=aC e
 refine cC c4 (fun (s:(List Int × Int)) f w=>match s with|(h,d)=>∃ (l:Option Addr) (m:Nat),f 0=cP a1 g∧f 1=zS a10 p.length c11∧f 2=i64 k∧f 7=zS l h.length m∧f 8=i64 d∧aI G K (aR 2 K l m h::L) w) ?_ ?_
 ·exact ⟨a2,0,rfl,rfl,rfl,rfl,rfl,c0⟩
 ·rintro ⟨h,d⟩ b2 f e9 a c6 ⟨l,m,n,J,a3,a5,o,j⟩
  replace a:lX t p k h d=some b2:=a
  unfold lX at a
  refine aO (aK (aN o (aN n (aD (cX rfl b) (aD (cG (k':=g+3) dY rfl b rfl) (aD (bG (t:=3) jR j b rfl rfl) (aD (bT (len:=t.E.length) cN rfl) (aD (cT rfl rfl) (aG ?_)))))))))
  rcases aH a with ⟨a6,a⟩|⟨a6,a⟩
  ·refine aM a6 rfl (aY (aA (aO (aZ (fun f w=>∃ (y:List Int) (V:Option Addr) (Z:Nat),xM d y=some b2∧f 0=cP a1 g∧f 1=zS a10 p.length c11∧f 2=i64 k∧f 7=zS V y.length Z∧f 8=i64 d∧aI G K (aR 2 K V Z y::L) w) ?_ ?_))))
   ·rintro f f0 ⟨y,V,Z,a,c7,c9,d0,d1,d2,d3⟩
    unfold xM at a
    exact aA (aP (aN d2 (aD (cK rfl rfl) (aF (v:=i64 (wr (d+1))) (aG ⟨(y,wr (d+1)),(zI a).symm,V,Z,c7,c9,d0,d1,rfl,d3⟩)))))
   refine aK (aN n (aD (cX rfl b) (aD (cG (k':=g+3) dY rfl b rfl) (aD (bG (t:=3) jR j b rfl rfl) (aN o ?_)))))
   obtain ⟨d4,a0,a⟩:=aC a
   refine aD (cU cN rfl z rfl rfl rfl a0) ?_
   obtain ⟨f1,q,d5⟩:=bX.el (sz:=3) rfl z a0
   cases d5
   refine aD (cG (k':=d.toNat * 3+0) iY rfl q rfl) (aD (bG (t:=0) bY j q rfl rfl) (aN a3 (aD (lA rfl rfl) (aG ?_))))
   rcases aH a with ⟨a8,a⟩|⟨a8,a⟩
   ·refine aM a8 rfl (dQ (C:=fun w'=>∃ L',aI G K L' w') [(0,0),(1,0),(2,0),(3,0),(4,0),(5,0),(6,0),(7,0),(8,0),(9,0),(10,0),(11,0),(12,0),(13,0),(14,0),(15,0),(16,0),(17,0),(18,0),(19,0),(20,0),(21,0),(22,0),(23,0),(24,1),(25,0)] bP (by kernel_rfl) (fun _ hg=>⟨_,aI.mono j hg⟩) (fun f2 d6=>?_))
    have c:=aI.mono j d6
    refine bJ rfl (fun _ _=>aW a5) (bJ rfl (fun _ _=>aW n) (bJ rfl (fun _ _=>cX rfl b) (bJ rfl (fun _ _=>cG (k':=g+3) dY rfl b rfl) (bJ rfl (fun _ ⟨_,c⟩=>bG (t:=3) jR c b rfl rfl) (bJ rfl (fun _ _=>aW o) (bJ rfl (fun _ _=>cU cN rfl z rfl rfl rfl a0) (bJ rfl (fun _ _=>cG (k':=d.toNat * 3+1) iZ rfl q rfl) (bJ rfl (fun _ ⟨_,c⟩=>bG (t:=1) bY c q rfl rfl) (bJ rfl (fun _ _=>aW J) (bJ rfl (fun _ _=>bT (len:=p.length) bO rfl) (bJ rfl (fun _ _=>R_mul rfl rfl) (bJ rfl (fun _ _=>aW J) (bJ rfl (fun _ _=>aW n) (bJ rfl (fun _ _=>cX rfl b) (bJ rfl (fun _ _=>cG (k':=g+3) dY rfl b rfl) (bJ rfl (fun _ ⟨_,c⟩=>bG (t:=3) jR c b rfl rfl) (bJ rfl (fun _ _=>aW o) (bJ rfl (fun _ _=>cU cN rfl z rfl rfl rfl a0) (bJ rfl (fun _ _=>cG (k':=d.toNat * 3+2) iC rfl q rfl) (bJ rfl (fun _ ⟨_,c⟩=>bG (t:=2) bY c q rfl rfl) ?_))))))))))))))))))))
    obtain ⟨d7,b3,a⟩:=aC a
    refine bJ rfl (fun _ _=>cU bO rfl a9 rfl rfl rfl b3) ?_
    obtain ⟨f3,d8,d9⟩:=bX.el (sz:=1) rfl a9 b3
    cases d9
    refine bJ rfl (fun _ ⟨_,c⟩=>bG (t:=0) bY c d8 rfl rfl) (bJ rfl (fun _ _=>cK rfl rfl) (gZ rfl ?_))
    obtain ⟨f4,f5,e0,e1,e2⟩:=aI.lendS (i:=0) c (zR _) rfl
    obtain ⟨b4,e3,a⟩:=aC a
    refine aQ (vs:=[zS l h.length m,i64 (wr ((wr (d4.B * (p.length:Int)))+d7))]) Tryz.call132 rfl (aEf e1 e0 e3) ?_
    rintro _ f6 ⟨b5,b6,rfl,e4⟩
    have b7:=e2 _ _ e4
    refine bM (aA ⟨⟨_,b7⟩,?_⟩)
    exact bJ rfl (fun _ _=>gB (v:=zS b5 b4.length b6) rfl) (gR (bA (aA ⟨b4,b5,b6,a,n,J,a3,rfl,o,(aI.arr 1 [] b7 rfl)⟩)))
   ·exact aJ a8 rfl (aY (bA (aA ⟨h,l,m,a,n,J,a3,a5,o,j⟩)))
  ·refine aJ a6 rfl (cA (aV (aV ?_)))
   have e5:=c6 _ (zI a).symm
   subst e5
   have e:(aAN h)=some R:=e
   exact bN (aA ⟨h,l,m,e,a5,j⟩)
theorem aCm {t:cD} {k2:Nat} {p R:(List Int)} (hs:aI G K (L) w) (h3:fP K a1 k2 (zC t a4 c5 a7 c8)) (h6:bX K a4 c5 t.L) (h9:bX K a7 c8 t.E) (b3:bX K a10 c11 p) (r:wR t p=some R):
  Calls Tryz.prog 69 ([cP a1 k2,zS a10 p.length c11]:List Value).toArray w (gQ fun v w'=>∃ (g9:Option Addr) (h0:Nat),v=zS g9 R.length h0∧aI G K (aR 2 K g9 h0 R::L) w'):=by
 refine aS Tryz.func69 rfl (by kernel_rfl) (by show (2:Nat)≤78;decide) ?_
 unfold wR at r
 refine aK (aF (v:=zS none 0 0) (aG (aK (cJ (Kt:=K) (xs:=([]:List (List Int))) (cs:=[]) (vs:=[]) fD qD rfl rfl hs rfl (by kernel_rfl) rfl rfl rfl trivial (fun d6 k9 (l0:aI G K (aR 40 K d6 0 ([]:List (List Int))::L) k9)=>(aF (v:=zS d6 ([]:List (List Int)).length 0) (aG (aO (aK (aF (v:=i64 0) (aG (aZ (fun f w=>∃ (b:Hp) (e:List (List Int)) (k:Option Addr) (l:Nat),Hp.le K b∧lP p e=some R∧f 1=zS a10 p.length c11∧f 5=zS k e.length l∧aI G b (aR 40 b k l e::L) w) ?_ ?_))))))))))))
 ·rintro f t4 ⟨b,e,k,l,a0,r,l1,l2,l3⟩
  unfold lP at r
  refine aA (aK (cJ (Kt:=K) (xs:=([]:List Int)) (cs:=[]) (vs:=[]) bO jU rfl rfl l3 rfl (by kernel_rfl) rfl rfl rfl trivial (fun d7 l4 (l5:aI G b (aR 2 K d7 0 ([]:List Int)::aR 40 b k l e::L) l4)=>(aF (v:=zS d7 ([]:List Int).length 0) (aG (aK (aF (v:=i64 0) (aG (aO (aK (aF (v:=i64 0) (aG (aZ (fun f w=>∃ (b4:List Int) (b5:Option Addr) (b6:Nat),xN b4=some R∧f 7=zS b5 b4.length b6∧aI G b (aR 2 K b5 b6 b4::L) w) ?_ ?_)))))))))))))
  ·rintro f t5 ⟨b4,b5,b6,r,l6,l7⟩
   unfold xN at r
   refine aA (aK (aN l6 (aF (v:=zS b5 b4.length b6) (aG ?_))))
   obtain rfl:=zI r
   exact bK (bE Tryz.results69 rfl ⟨b5,b6,rfl,(aI.weakK l7 a0)⟩)
  obtain ⟨t6,l9,r⟩:=aC r
  refine cC l9 (fun (s:(List Int × Int × Int)) f w=>match s with|(j,u,n)=>∃ (o:Option Addr) (q:Nat),f 1=zS a10 p.length c11∧f 5=zS k e.length l∧f 7=zS o j.length q∧f 8=i64 u∧f 9=i64 n∧aI G b (aR 2 K o q j::aR 40 b k l e::L) w) ?_ ?_
  ·exact ⟨d7,0,l1,l2,rfl,rfl,rfl,l5⟩
  ·rintro ⟨j,u,n⟩ b7 f t7 c m0 ⟨o,q,h1,m1,h2,m2,h4,h5⟩
   replace c:kA p e j u n=some b7:=c
   unfold kA at c
   refine aO (aK (aN h4 (aN h1 (aD (bT (len:=p.length) bO rfl) (aD (cT rfl rfl) (aG ?_))))))
   rcases aH c with ⟨d8,c⟩|⟨d8,c⟩
   ·refine aM d8 rfl (aY (aA (aO (aZ (fun f w=>∃ (b8:List Int) (c3:Int) (c4:Option Addr) (c6:Nat),xO n b8 c3=some b7∧f 1=zS a10 p.length c11∧f 5=zS k e.length l∧f 7=zS c4 b8.length c6∧f 8=i64 c3∧f 9=i64 n∧aI G b (aR 2 K c4 c6 b8::aR 40 b k l e::L) w) ?_ ?_))))
    ·rintro f t8 ⟨b8,c3,c4,c6,c,m3,m4,m5,m6,m7,m8⟩
     unfold xO at c
     exact aA (aP (aN m7 (aD (cK rfl rfl) (aF (v:=i64 (wr (n+1))) (aG ⟨(b8,c3,wr (n+1)),(zI c).symm,c4,c6,m3,m4,m5,m6,rfl,m8⟩)))))
    refine aK (aF (v:=i64 (-1)) (aG (aO (aK (aF (v:=i64 0) (aG (aZ (fun f w=>∃ (c7:Int),sU j u n c7=some b7∧f 1=zS a10 p.length c11∧f 5=zS k e.length l∧f 7=zS o j.length q∧f 8=i64 u∧f 9=i64 n∧f 10=i64 c7∧aI G b (aR 2 K o q j::aR 40 b k l e::L) w) ?_ ?_)))))))
    ·rintro f t9 ⟨c7,c,h7,h8,i0,d9,i1,i2,i3⟩
     unfold sU at c
     refine aA (lV (fun f w=>∃ (c9:Int) (a2:Int),sT j n c9 a2=some b7∧f 1=zS a10 p.length c11∧f 5=zS k e.length l∧f 7=zS o j.length q∧f 8=i64 c9∧f 9=i64 n∧f 10=i64 a2∧aI G b (aR 2 K o q j::aR 40 b k l e::L) w) ?_ ?_)
     ·rintro f u0 ⟨c9,a2,c,m9,n0,n1,n2,n3,n4,n5⟩
      unfold sT at c
      refine aP (aN n1 (aN n4 (cJ (Kt:=K) (xs:=([a2]:List Int)) (cs:=[i64 a2]) (vs:=[(0,i64 a2)]) bO jU rfl rfl n5 rfl (by kernel_rfl) rfl rfl rfl ⟨rfl,trivial⟩ (fun n6 n7 (n8:aI G b (aR 2 K n6 1 ([a2]:List Int)::aR 2 K o q j::aR 40 b k l e::L) n7)=>?_))))
      obtain ⟨e0,n9,c⟩:=aC c
      exact eK (i:=0) bO Tryz.underlying40 jU rfl rfl n8 rfl a0 a0 n9 rfl rfl rfl rfl (fun _ h=>h) (fun e1 e2 o0 (o1:aI G b (aR 2 K e1 e2 e0::aR 40 b k l e::L) o0)=>(aF (v:=zS e1 e0.length e2) (bM (bA (aA ⟨e0,c9,e1,e2,c,m9,n0,rfl,n2,n3,o1⟩)))))
     refine aK (aN i2 (aD (cT rfl rfl) (aG ?_)))
     rcases aH c with ⟨e3,c⟩|⟨e3,c⟩
     ·exact aM e3 rfl (aK (aN d9 (aF (v:=i64 u) (aG (aP (aN d9 (aD (cK rfl rfl) (aF (v:=i64 (wr (u+1))) (aG ⟨wr (u+1),u,c,h7,h8,i0,rfl,i1,rfl,i3⟩)))))))))
     ·exact aJ e3 rfl (aY (aA ⟨u,c7,c,h7,h8,i0,d9,i1,i2,i3⟩))
    obtain ⟨u1,o2,c⟩:=aC c
    refine cC o2 (fun (s:(Int × Int)) f w=>match s with|(x,y)=>f 1=zS a10 p.length c11∧f 5=zS k e.length l∧f 7=zS o j.length q∧f 8=i64 u∧f 9=i64 n∧f 10=i64 x∧f 11=i64 y∧aI G b (aR 2 K o q j::aR 40 b k l e::L) w) ?_ ?_
    ·exact ⟨h1,m1,h2,m2,h4,rfl,rfl,h5⟩
    ·rintro ⟨x,y⟩ d0 f u2 a o3 ⟨i4,i5,i6,i7,e4,e5,e6,i8⟩
     replace a:lD p e j n x y=some d0:=a
     unfold lD at a
     refine aO (aO (dO (fun f w=>∃ (e7:Bool),mW p e j n x y e7=some d0∧f 1=zS a10 p.length c11∧f 5=zS k e.length l∧f 7=zS o j.length q∧f 8=i64 u∧f 9=i64 n∧f 10=i64 x∧f 11=i64 y∧f 41=zB e7∧aI G b (aR 2 K o q j::aR 40 b k l e::L) w) ?_ ?_))
     ·rintro f u3 ⟨e7,a,b9,c0,e8,e9,c1,f0,d1,i9,j0⟩
      unfold mW at a
      refine aA ?_
      rcases aH a with ⟨f1,a⟩|⟨f1,a⟩
      ·refine aM f1 i9 (aY (aA (aO (aZ (fun f w=>∃ (d2:Int),pJ y d2=some d0∧f 1=zS a10 p.length c11∧f 5=zS k e.length l∧f 7=zS o j.length q∧f 8=i64 u∧f 9=i64 n∧f 10=i64 d2∧f 11=i64 y∧aI G b (aR 2 K o q j::aR 40 b k l e::L) w) ?_ ?_))))
       ·rintro f u4 ⟨d2,a,o4,o5,o6,o7,o8,o9,p0,p1⟩
        unfold pJ at a
        exact aA (aP (aN p0 (aD (cK rfl rfl) (aF (v:=i64 (wr (y+1))) (aG ⟨(d2,wr (y+1)),(zI a).symm,o4,o5,o6,o7,o8,o9,rfl,p1⟩)))))
       refine aO (dO (fun f w=>∃ (f2:Bool),mV j x y f2=some d0∧f 1=zS a10 p.length c11∧f 5=zS k e.length l∧f 7=zS o j.length q∧f 8=i64 u∧f 9=i64 n∧f 10=i64 x∧f 11=i64 y∧f 63=zB f2∧aI G b (aR 2 K o q j::aR 40 b k l e::L) w) ?_ ?_)
       ·rintro f u5 ⟨f2,a,j1,j2,f3,j3,j4,p2,f4,j5,d3⟩
        unfold mV at a
        refine aA ?_
        rcases aH a with ⟨f5,a⟩|⟨f5,a⟩
        ·refine aM f5 j5 (aP (aN f3 (aN f4 ?_)))
         obtain ⟨j6,f6,a⟩:=aC a
         have p3:=dZ d3 (i:=0) rfl f6
         exact aD (eM bO rfl p3 rfl rfl rfl f6) (aD (lB (t:=0) bY d3 (i:=0) rfl f6 rfl rfl rfl) (aF (v:=i64 j6) (bM (bA (aA ⟨j6,a,j1,j2,f3,j3,j4,rfl,f4,d3⟩)))))
        ·exact aJ f5 j5 (aY (bA (aA ⟨x,a,j1,j2,f3,j3,j4,p2,f4,d3⟩)))
       obtain ⟨p4,d4,f7,d,j7⟩:=aI.lendS (i:=1) j0 (zR _) rfl
       refine eL (C:=fun w'=>aI G p4 (aR 2 K o q j::L) w') bP (by kernel_rfl) (aI.mono d (dN.drew _)) (bC (fun _ d=>aW b9) (bC (fun _ d=>aW d1) ?_))
       obtain ⟨p5,j8,a⟩:=aC a
       refine bC (fun _ d=>cU bO rfl (b3.mono (zL a0 d4)) rfl rfl rfl j8) ?_
       obtain ⟨u6,p6,p7⟩:=bX.el (sz:=1) rfl b3 j8
       cases p7
       refine bC (fun _ d=>bG (t:=0) bY d (p6.mono (zL a0 d4)) rfl rfl) (bC (fun _ d=>aW b9) (bC (fun _ d=>aW c1) ?_))
       obtain ⟨p8,j9,a⟩:=aC a
       refine bC (fun _ d=>cU bO rfl (b3.mono (zL a0 d4)) rfl rfl rfl j9) ?_
       obtain ⟨u7,p9,q0⟩:=bX.el (sz:=1) rfl b3 j9
       cases q0
       refine bC (fun _ d=>bG (t:=0) bY d (p9.mono (zL a0 d4)) rfl rfl) (bC (fun _ d=>lA rfl rfl) (bC (fun _ d=>aW (v:=zB (p5 == p8)) rfl) ?_))
       rcases aH a with ⟨m,a⟩|⟨m,a⟩
       ·refine dA (g:=53) rfl rfl m (bC (fun _ d=>aW c0) (dA (g:=53) rfl rfl m (bC (fun _ d=>aW d1) (dA (g:=53) rfl rfl m ?_))))
        obtain ⟨q1,f8,a⟩:=aC a
        have k0:=aEQ f7 f8
        refine bC (fun _ d=>eM fD rfl k0 rfl rfl rfl f8) (dA (g:=53) rfl rfl m ?_)
        obtain ⟨u8,q2,q3⟩:=bX.el (sz:=1) rfl f7 f8
        obtain ⟨q4,q5,rfl,q6⟩:=q3
        refine bC (fun _ d=>bG (t:=0) sD d q2 rfl rfl) (dA (g:=53) rfl rfl m (bC (fun _ d=>aW c0) (dA (g:=53) rfl rfl m (bC (fun _ d=>aW c1) (dA (g:=53) rfl rfl m ?_)))))
        obtain ⟨q7,k1,a⟩:=aC a
        refine bC (fun _ d=>eM fD rfl k0 rfl rfl rfl k1) (dA (g:=53) rfl rfl m ?_)
        obtain ⟨u9,q8,q9⟩:=bX.el (sz:=1) rfl f7 k1
        obtain ⟨r0,r1,rfl,r2⟩:=q9
        refine bC (fun _ d=>bG (t:=0) sD d q8 rfl rfl) (dA (g:=53) rfl rfl m ?_)
        obtain ⟨f9,r3,a⟩:=aC a
        refine yW (vs:=[zS q4 q1.length q5,zS r0 q7.length r1]) (v:=zB f9) Tryz.call68 rfl (fun _ d=>(yA d q6 r2 r3)) (bC (fun _ d=>bF (v:=zB f9) m rfl rfl) (fT (fun v0 r4=>?_)))
        have r5:=j7 _ _ r4
        exact aA ⟨f9,a,b9,c0,e8,e9,c1,f0,d1,rfl,(aI.arr 2 [1,0] r5 rfl)⟩
       ·refine bQ (g:=53) rfl rfl (dC m) (bQ (g:=53) rfl rfl (dC m) (bQ (g:=53) rfl rfl (dC m) (bQ (g:=53) rfl rfl (dC m) (bQ (g:=53) rfl rfl (dC m) (bQ (g:=53) rfl rfl (dC m) (bQ (g:=53) rfl rfl (dC m) (bQ (g:=53) rfl rfl (dC m) (bQ (g:=53) rfl rfl (dC m) (bC (fun _ d=>bH (v:=zB false) m rfl rfl) (fT (fun v1 r6=>?_)))))))))))
        have r7:=j7 _ _ r6
        exact aA ⟨false,a,b9,c0,e8,e9,c1,f0,d1,rfl,(aI.arr 2 [1,0] r7 rfl)⟩
      ·refine aJ f1 i9 (cA (aV (aV ?_)))
       have r8:=o3 _ (zI a).symm
       subst r8
       have c:(sU j u n x)=some b7:=c
       exact bN (aA ⟨x,c,b9,c0,e8,e9,c1,f0,j0⟩)
     refine aP (aN e6 (aN e4 (aD (cT rfl rfl) (aL (v:=zB (decide (y < n))) ?_))))
     rcases aH a with ⟨a3,a⟩|⟨a3,a⟩
     ·exact bB a3 rfl rfl (aN e5 (bB a3 rfl rfl (aD (cT rfl rfl) (aD (bF (v:=zB (decide (x < 0))) a3 rfl rfl) (aG ⟨decide (x < 0),a,i4,i5,i6,i7,e4,e5,e6,rfl,i8⟩)))))
     ·exact aU a3 rfl rfl (aU a3 rfl rfl (aD (bH (v:=zB false) a3 rfl rfl) (aG ⟨false,a,i4,i5,i6,i7,e4,e5,e6,rfl,i8⟩)))
   ·refine aJ d8 rfl (cA (aV (aV ?_)))
    have r9:=m0 _ (zI c).symm
    subst r9
    have r:(xN j)=some R:=r
    exact bN (aA ⟨j,o,q,r,h2,(aI.arr 2 [0] h5 rfl)⟩)
 obtain ⟨v2,s0,r⟩:=aC r
 refine cC s0 (fun (s:(List (List Int) × Int)) f w=>match s with|(V,a8)=>∃ (J:Hp) (a5:Option Addr) (a6:Nat),Hp.le K J∧f 0=cP a1 k2∧f 1=zS a10 p.length c11∧f 5=zS a5 V.length a6∧f 6=i64 a8∧aI G J (aR 40 J a5 a6 V::L) w) ?_ ?_
 ·exact ⟨K,d6,0,(zR _),rfl,rfl,rfl,rfl,l0⟩
 ·rintro ⟨V,a8⟩ s1 f v3 z s2 ⟨J,a5,a6,Z,g0,g1,k3,g2,g3⟩
  replace z:jG t p V a8=some s1:=z
  unfold jG at z
  refine aO (aK (aN g2 (aN g0 (aD (cX rfl (h3.mono Z)) (aD (cG (k':=k2+0) dP rfl (h3.mono Z) rfl) (aD (bG (t:=0) bY g3 (h3.mono Z) rfl rfl) (aD (cT rfl rfl) (aG ?_))))))))
  rcases aH z with ⟨g4,z⟩|⟨g4,z⟩
  ·refine aM g4 rfl (aY (aA (aO (cI (aP (aN k3 (aN g0 (aN g1 (aN g2 ?_)))))))))
   obtain ⟨a9,s3,z⟩:=aC z
   refine aQ (vs:=[cP a1 k2,zS a10 p.length c11,i64 a8]) Tryz.call100 rfl (aHq g3 (h3.mono Z) (h6.mono Z) (h9.mono Z) (b3.mono Z) s3) ?_
   rintro _ s4 ⟨b0,b1,rfl,s5⟩
   have s6:aI G J (rows [2] ([(b0,b1)]:List (Dp.Hd (List Int))) [a9]::aR 40 J a5 a6 V::L) s4:=aI.rowsOne s5
   refine cJ (Kt:=K) (xs:=bU ([(b0,b1)]:List (Dp.Hd (List Int))) ([a9]:List (List Int))) (cs:=[zS b0 a9.length b1]) (vs:=[(0,zS b0 a9.length b1)]) fD qD rfl rfl s6 rfl (by kernel_rfl) rfl rfl rfl ⟨rfl,trivial⟩ ?_
   intro s7 k4 (s8:aI G J (aR 40 K s7 1 (bU ([(b0,b1)]:List (Dp.Hd (List Int))) ([a9]:List (List Int)))::rows [2] ([(b0,b1)]:List (Dp.Hd (List Int))) ([a9]:List (List Int))::aR 40 J a5 a6 V::L) k4)
   obtain ⟨d5,k5,s9,_,g5,_⟩:=aI.lendD' (i:=0) s8 rfl rfl rfl
   replace g5:aI G d5 (aR 40 J a5 a6 V::L) k4:=g5
   obtain ⟨g6,t0,z⟩:=aC z
   exact aAr (i:=0) fD Tryz.underlying33 qD rfl rfl g5 rfl k5 s9 t0 rfl rfl rfl rfl (fun g7 g8 t1 (t2:aI G d5 (aR 40 d5 g7 g8 g6::L) t1)=>(aF (v:=zS g7 g6.length g8) (bM (bA (aA (aP (aN g2 (aD (cK rfl rfl) (aF (v:=i64 (wr (a8+1))) (aG ⟨(g6,wr (a8+1)),(zI z).symm,d5,g7,g8,(zL Z k5),g0,g1,rfl,rfl,t2⟩))))))))))
  ·refine aJ g4 rfl (cA (aV (aV ?_)))
   have t3:=s2 _ (zI z).symm
   subst t3
   have r:(lP p V)=some R:=r
   exact bN (aA ⟨J,V,a5,a6,Z,r,g1,k3,g3⟩)
theorem aFS {t:cD} {j:Nat} {R:((List Int) × Int)} (x:aI G K (L) w) (o:fP K a1 j (zC t a4 c5 a7 c8)) (h6:bX K a4 c5 t.L) (h9:bX K a7 c8 t.E) (b:aAl t=some R):
  Calls Tryz.prog 66 ([cP a1 j]:List Value).toArray w (gQ fun v w'=>∃ (y:Option Addr) (z:Nat),v=Value.tuple #[zS y R.1.length z,i64 R.2]∧aI G K (aR 2 K y z R.1::L) w'):=by
 refine aS Tryz.func66 rfl (by kernel_rfl) (by show (1:Nat)≤23;decide) ?_
 unfold aAl at b
 refine aK (aF (v:=zS none 0 0) (aF (v:=i64 0) (aG (aK (aL (v:=cP a1 j) (aD (cX rfl o) (aD (cG (k':=j+0) dP rfl o rfl) (aD (bG (t:=0) bY x o rfl rfl) ?_))))))))
 obtain ⟨n,a3,b⟩:=aC b
 refine aDY (e:=(0:Int)) bO jU rfl rfl x rfl rfl rfl a3 rfl (fun p a5 (a6:aI G K (aR 2 K p n.length n::L) a5)=>(aF (v:=zS p n.length n.length) (aG (aK (aF (v:=i64 0) (aG (cI ?_)))))))
 obtain ⟨d3,a8,b⟩:=aC b
 refine cC a8 (fun (s:(List Int × Int)) f w=>match s with|(c,d)=>∃ (g:Option Addr) (h:Nat),f 0=cP a1 j∧f 4=zS g c.length h∧f 5=i64 d∧aI G K (aR 2 K g h c::L) w) ?_ ?_
 ·exact ⟨p,n.length,rfl,rfl,rfl,a6⟩
 ·rintro ⟨c,d⟩ a9 f d4 a b0 ⟨g,h,J,q,V,b1⟩
  replace a:lE t c d=some a9:=a
  unfold lE at a
  refine aO (cI (aK (aN J (aN q ?_))))
  obtain ⟨d5,r,b2,b3,b4⟩:=aI.lendS (i:=0) b1 (zR _) rfl
  obtain ⟨k,b5,a⟩:=aC a
  refine aQ (vs:=[cP a1 j,zS g c.length h]) Tryz.call69 rfl (aCm b3 (o.mono r) (h6.mono r) (h9.mono r) b2 b5) ?_
  rintro _ d6 ⟨l,m,rfl,b6⟩
  have b7:=b4 _ _ b6
  refine aF (v:=zS l k.length m) (aG (aO (aK (aL (v:=zS l k.length m) (aN q ?_)))))
  obtain ⟨d7,b8,b9,c0,c1⟩:=aI.lendS (i:=1) b7 (zR _) rfl
  obtain ⟨d8,c2,c3,c4,c6⟩:=aI.lendS (i:=0) c0 b8 rfl
  obtain ⟨d9,c7,a⟩:=aC a
  refine aQ (vs:=[zS l k.length m,zS g c.length h]) Tryz.call68 rfl (yA c4 (b9.mono c2) c3 c7) ?_
  rintro _ e0 ⟨rfl,c9⟩
  have d0:=c6 _ _ c9
  have Z:=c1 _ _ d0
  refine aG ?_
  rcases aH a with ⟨u,a⟩|⟨u,a⟩
  ·refine aM u rfl (aK (aN q (aN V (aF (v:=zS g c.length h) (aF (v:=i64 d) (aG (bK (aX (bS (aX (aX ?_)))))))))))
   have d1:=b0 _ (zI a).symm
   subst d1
   have b:(some (c,d))=some R:=b
   obtain rfl:=zI b
   exact bS (sA Tryz.results66 rfl rfl ⟨g,h,rfl,(aI.arr 1 [] Z rfl)⟩)
  ·exact aJ u rfl (aY (aA (aP (aL (v:=zS l k.length m) (aF (v:=zS l k.length m) (bM (bA (aA (aP (aN V (aD (cK rfl rfl) (aF (v:=i64 (wr (d+1))) (aG ⟨(k,wr (d+1)),(zI a).symm,l,m,J,rfl,rfl,(aI.arr 2 [0] Z rfl)⟩)))))))))))))
theorem aDj {t:cD} {d:Nat} {R:(List Int)} (i:aI G K (L) w) (j:fP K a1 d (zC t a4 c5 a7 c8)) (k:bX K a4 c5 t.L) (l:bX K a7 c8 t.E) (e:aAY t=some R):
  Calls Tryz.prog 33 ([cP a1 d]:List Value).toArray w (gQ fun v w'=>∃ (g:Option Addr) (h:Nat),v=zS g R.length h∧aI G K (aR 2 K g h R::L) w'):=by
 refine aS Tryz.func33 rfl (by kernel_rfl) (by show (1:Nat)≤11;decide) ?_
 unfold aAY at e
 refine aK (aF (v:=zS none 0 0) (aG (aK (aL (v:=cP a1 d) ?_))))
 obtain ⟨a,m,e⟩:=aC e
 refine aQ (vs:=[cP a1 d]) Tryz.call66 rfl (aFS i j k l m) ?_
 rintro _ p ⟨b,c,rfl,n⟩
 refine aL (v:=Value.tuple #[zS b a.1.length c,i64 a.2]) (aD (cH rfl rfl) (aD (cH rfl rfl) (aF (v:=zS b a.1.length c) (aF (v:=i64 a.2) (aG (aK (aL (v:=zS b a.1.length c) (aF (v:=zS b a.1.length c) (aG ?_)))))))))
 obtain rfl:=zI e
 exact bK (bE Tryz.results33 rfl ⟨b,c,rfl,n⟩)
theorem aEx {t:cD} {k:Nat} {p:(List Int)} {R:cD} (hs:aI G K (L) w) (e:fP K a1 k (zC t a4 c5 a7 c8)) (h6:bX K a4 c5 t.L) (h9:bX K a7 c8 t.E) (m:bX K a10 c11 p) (d:rT t p=some R):
  Calls Tryz.prog 44 ([cP a1 k,zS a10 p.length c11]:List Value).toArray w (gQ fun v w'=>∃ (b9:Option Addr) (c0:Nat) (c1:Option Addr) (c2:Nat),v=zA (zCa R b9 c0 c1 c2)∧aI G K (aR 9 K b9 c0 R.L::aR 51 K c1 c2 R.E::L) w'):=by
 let n:=zG
 refine aS Tryz.func44 rfl (by kernel_rfl) (by show (2:Nat)≤56;decide) ?_
 unfold rT at d
 refine aK (cQ (vs:=n) Tryz.zeroValue27 hs rfl (fun j i5 e3=>(aG (aK (cJ (Kt:=K) (xs:=([]:List Edge)) (cs:=[]) (vs:=[]) cN jD rfl rfl e3 rfl (by kernel_rfl) rfl rfl rfl trivial (fun b0 e4 (e5:aI G K (aR 51 K b0 0 ([]:List Edge)::box j 27 n::L) e4)=>(aF (v:=zS b0 ([]:List Edge).length 0) (aG (aO (aK (aF (v:=i64 0) (aG (aZ (fun f w=>∃ (q:List Edge) (a2:Option Addr) (a3:Nat),pK t p q=some R∧f 0=cP a1 k∧f 1=zS a10 p.length c11∧f 4=zP (some ⟨j,0,none⟩)∧f 5=zS a2 q.length a3∧aI G K (aR 51 K a2 a3 q::box j 27 n::L) w) ?_ ?_)))))))))))))
 ·rintro f i6 ⟨q,a2,a3,d,c3,c4,c6,e6,c7⟩
  unfold pK at d
  refine aA (aO (dQ (C:=fun w'=>∃ L',aI G K L' w') [(0,0),(2,0),(3,0),(4,0),(5,0),(6,0),(7,0),(8,0),(9,0),(10,0),(11,0),(12,0),(13,0),(1,1),(14,1),(15,2)] bP (by kernel_rfl) (fun _ hg=>⟨_,aI.mono c7 hg⟩) (fun i7 e7=>?_)))
  have o:=aI.mono c7 e7
  refine bJ rfl (fun _ _=>aW c4) (bJ rfl (fun _ _=>aW c4) (bJ rfl (fun _ _=>aW c3) (bJ rfl (fun _ _=>cX rfl e) (bJ rfl (fun _ _=>cG (k':=k+1) oV rfl e rfl) (bJ rfl (fun _ ⟨_,o⟩=>bG (t:=1) bY o e rfl rfl) ?_)))))
  obtain ⟨e8,c9,d⟩:=aC d
  refine bJ rfl (fun _ _=>cU bO rfl m rfl rfl rfl c9) ?_
  obtain ⟨i8,e9,f0⟩:=bX.el (sz:=1) rfl m c9
  cases f0
  refine bJ rfl (fun _ ⟨_,o⟩=>bG (t:=0) bY o e9 rfl rfl) (bJ rfl (fun _ _=>aW c3) (bJ rfl (fun _ _=>cX rfl e) (bJ rfl (fun _ _=>cG (k':=k+2) gV rfl e rfl) (bJ rfl (fun _ ⟨_,o⟩=>bG (t:=2) oC o e rfl rfl) (bJ rfl (fun _ _=>aW e6) (gZ rfl ?_))))))
  obtain ⟨f1,f2,d⟩:=aC d
  refine aQ (vs:=[zS a10 p.length c11]) Tryz.call77 rfl (aCl o m f2) ?_
  rintro _ i9 ⟨rfl,d0⟩
  refine bM (aA ⟨⟨_,d0⟩,?_⟩)
  refine gZ rfl ?_
  obtain ⟨j0,f3,f4,f5,f6⟩:=aI.lendS (i:=0) d0 (zR _) rfl
  obtain ⟨a,f7,d⟩:=aC d
  refine aQ (vs:=[i64 f1,i64 e8,zS a4 t.L.length c5,zS a2 q.length a3]) Tryz.call20 rfl (nC f5 (h6.mono f3) f4 f7) ?_
  rintro _ j1 ⟨r,u,x,y,rfl,f8⟩
  have d1:=f6 _ _ f8
  refine bM (aA ⟨⟨_,d1⟩,?_⟩)
  refine aGr rfl (cZ (i:=3) (ns:=(zC a r u x y)) (us:=(zC a r u x y)) Tryz.sizeOf27 d1 rfl c6 rfl rfl rfl (fO rfl) rfl rfl (fun f9 (d2:aI G K (aR 51 K a2 a3 q::aR 9 K r u a.L::aR 51 K x y a.E::box j 27 (zC a r u x y)::L) f9)=>(aG (gR (aA ?_)))))
  obtain rfl:=zI d
  exact bK (vF Tryz.results44 (oB (vs:=(zC a r u x y)) rfl dB d2 (i:=3) rfl c6 rfl) ⟨r,u,x,y,rfl,(aI.arr 4 [1,2] d2 rfl)⟩)
 obtain ⟨j2,g1,d⟩:=aC d
 refine cC g1 (fun (s:(List Edge × Int)) f w=>match s with|(l,a5)=>∃ (z:Option Addr) (J:Nat),f 0=cP a1 k∧f 1=zS a10 p.length c11∧f 4=zP (some ⟨j,0,none⟩)∧f 5=zS z l.length J∧f 6=i64 a5∧aI G K (aR 51 K z J l::box j 27 n::L) w) ?_ ?_
 ·exact ⟨b0,0,rfl,rfl,rfl,rfl,rfl,e5⟩
 ·rintro ⟨l,a5⟩ g2 f j3 c g3 ⟨z,J,a8,a9,d3,d4,b1,a6⟩
  replace c:mI t p l a5=some g2:=c
  unfold mI at c
  refine aO (aK (aN b1 (aN a8 (aD (cX rfl e) (aD (cG (k':=k+3) dY rfl e rfl) (aD (bG (t:=3) jR a6 e rfl rfl) (aD (bT (len:=t.E.length) cN rfl) (aD (cT rfl rfl) (aG ?_)))))))))
  rcases aH c with ⟨b2,c⟩|⟨b2,c⟩
  ·refine aM b2 rfl (aY (aA (aO (cI (aK (aN a8 (aD (cX rfl e) (aD (cG (k':=k+3) dY rfl e rfl) (aD (bG (t:=3) jR a6 e rfl rfl) (aN b1 ?_))))))))))
   obtain ⟨b,d5,c⟩:=aC c
   refine aD (cU cN rfl h9 rfl rfl rfl d5) ?_
   obtain ⟨j4,g4,g5⟩:=bX.el (sz:=3) rfl h9 d5
   cases g5
   refine aD (iD (t:=0) (vs:=[i64 b.F,i64 b.B,i64 b.To]) kW a6 g4 rfl rfl rfl) (cQ (vs:=[i64 0,i64 0,i64 0]) Tryz.zeroValue51 a6 rfl (fun g6 j5 g7=>(cZ (i:=0) (ns:=[i64 b.F,i64 b.B,i64 b.To]) (us:=[i64 b.F,i64 b.B,i64 b.To]) Tryz.sizeOf51 g7 rfl rfl rfl rfl rfl (fO rfl) rfl rfl (fun g8 (g9:aI G K (box g6 51 [i64 b.F,i64 b.B,i64 b.To]::aR 51 K z J l::box j 27 n::L) g8)=>(aG ?_)))))
   obtain ⟨b3,V,b4,d6,h0⟩:=aI.lendB (i:=0) g9 rfl
   refine dQ (C:=fun w'=>∃ L',aI G b3 L' w') [(0,0),(1,0),(2,0),(3,0),(4,0),(5,0),(6,0),(7,0),(8,0),(9,0),(10,0),(11,0),(12,0),(13,0),(14,1),(15,1),(16,0)] bP (by kernel_rfl) (fun _ hg=>⟨_,aI.mono d6 hg⟩) (fun j6 h1=>?_)
   have g:=aI.mono d6 h1
   refine bJ rfl (fun _ _=>aW d4) (bJ rfl (fun _ _=>aW a9) (bJ rfl (fun _ _=>bL (t':=0) iY rfl rfl) (bJ rfl (fun _ ⟨_,g⟩=>bG (t:=0) bY g b4 rfl rfl) ?_)))
   obtain ⟨Z,d7,c⟩:=aC c
   refine bJ rfl (fun _ _=>cU bO rfl (m.mono V) rfl rfl rfl d7) ?_
   obtain ⟨j7,h2,h4⟩:=bX.el (sz:=1) rfl m d7
   cases h4
   refine bJ rfl (fun _ ⟨_,g⟩=>bG (t:=0) bY g (h2.mono V) rfl rfl) (bJ rfl (fun _ _=>bL (t':=1) iZ rfl rfl) (bJ rfl (fun _ ⟨_,g⟩=>bG (t:=1) bY g b4 rfl rfl) (bJ rfl (fun _ _=>aW a9) (bJ rfl (fun _ _=>bL (t':=2) iC rfl rfl) (bJ rfl (fun _ ⟨_,g⟩=>bG (t:=2) bY g b4 rfl rfl) ?_)))))
   obtain ⟨a0,d8,c⟩:=aC c
   refine bJ rfl (fun _ _=>cU bO rfl (m.mono V) rfl rfl rfl d8) ?_
   obtain ⟨j8,h5,h7⟩:=bX.el (sz:=1) rfl m d8
   cases h7
   refine bJ rfl (fun _ ⟨_,g⟩=>bG (t:=0) bY g (h5.mono V) rfl rfl) (bJ rfl (fun _ _=>nH (vs:=[(0,i64 Z),(1,i64 b.B),(2,i64 a0)]) (cs:=[i64 Z,i64 b.B,i64 a0]) aEd rfl (by kernel_rfl)) (gZ rfl (cJ (Kt:=K) (xs:=([⟨Z,b.B,a0⟩]:List Edge)) (cs:=[i64 Z,i64 b.B,i64 a0]) (vs:=[(0,zA #[i64 Z,i64 b.B,i64 a0])]) cN jD rfl rfl g rfl (by kernel_rfl) rfl rfl rfl ⟨rfl,trivial⟩ (fun h8 i0 (d9:aI G b3 (aR 51 K h8 1 ([⟨Z,b.B,a0⟩]:List Edge)::aR 51 K z J l::box j 27 n::L) i0)=>(bM (aA ⟨⟨_,d9⟩,?_⟩))))))
   refine gZ rfl ?_
   obtain ⟨b5,i1,c⟩:=aC c
   refine eK (i:=0) cN Tryz.underlying25 jD rfl rfl d9 rfl V V i1 rfl rfl rfl rfl (fun _ h=>h) (fun b6 b7 i2 (e0:aI G b3 (aR 51 K b6 b7 b5::box j 27 n::L) i2)=>(bM (aA ⟨⟨_,e0⟩,?_⟩)))
   refine bJ rfl (fun _ _=>gB (v:=zS b6 b5.length b7) rfl) (gR ?_)
   have i3:=h0 _ _ e0
   exact bA (aA (aP (aN b1 (aD (cK rfl rfl) (aF (v:=i64 (wr (a5+1))) (aG ⟨(b5,wr (a5+1)),(zI c).symm,b6,b7,a8,a9,d3,rfl,rfl,(aI.arr 1 [] i3 rfl)⟩))))))
  ·refine aJ b2 rfl (cA (aV (aV ?_)))
   have i4:=g3 _ (zI c).symm
   subst i4
   have d:(pK t p l)=some R:=d
   exact bN (aA ⟨l,z,J,d,a8,a9,d3,d4,a6⟩)
theorem aGw {t:cD} {d:Nat} {R:cD} (hs:aI G K (L) w) (J:fP K a1 d (zC t a4 c5 a7 c8)) (V:bX K a4 c5 t.L) (Z:bX K a7 c8 t.E) (c:aBo t=some R):
  Calls Tryz.prog 19 ([cP a1 d]:List Value).toArray w (gQ fun v w'=>∃ (a0:Option Addr) (a2:Nat) (a3:Option Addr) (a5:Nat),v=zA (zCa R a0 a2 a3 a5)∧aI G K (aR 9 K a0 a2 R.L::aR 51 K a3 a5 R.E::L) w'):=by
 let p:=zG
 refine aS Tryz.func19 rfl (by kernel_rfl) (by show (1:Nat)≤10;decide) ?_
 unfold aBo at c
 refine aK (cQ (vs:=p) Tryz.zeroValue27 hs rfl (fun a6 g6 b6=>(aG (aK (aL (v:=cP a1 d) (aL (v:=cP a1 d) ?_))))))
 obtain ⟨q,b7,c⟩:=aC c
 refine aQ (vs:=[cP a1 d]) Tryz.call42 rfl (aCE b6 J V Z b7) ?_
 rintro _ g7 ⟨r,u,rfl,b8⟩
 obtain ⟨g8,x,b9,c0,c1⟩:=aI.lendS (i:=0) b8 (zR _) rfl
 obtain ⟨a,c2,c⟩:=aC c
 refine aQ (vs:=[cP a1 d,zS r q.length u]) Tryz.call41 rfl (aDi c0 (J.mono x) (V.mono x) (Z.mono x) b9 c2) ?_
 rintro _ g9 ⟨e,g,h,j,rfl,c3⟩
 have c4:=c1 _ _ c3
 refine cQ (vs:=p) Tryz.zeroValue27 c4 rfl (fun o h0 c6=>(cZ (i:=0) (ns:=(zC a e g h j)) (us:=(zC a e g h j)) Tryz.sizeOf27 c6 rfl rfl rfl rfl rfl (fO rfl) rfl rfl (fun c7 (c9:aI G K (box o 27 (zC a e g h j)::aR 2 K r u q::aR 9 K e g a.L::aR 51 K h j a.E::box a6 27 p::L) c7)=>(aG (aK ?_)))))
 obtain ⟨h1,d0,d1,d2,d3⟩:=aI.lendS (i:=2) c9 (zR _) rfl
 obtain ⟨h2,d4,d5,d6,d7⟩:=aI.lendS (i:=2) d2 d0 rfl
 obtain ⟨h4,a8,d8,d9,e0⟩:=aI.lendB (i:=0) d6 rfl
 obtain ⟨a9,e1,c⟩:=aC c
 refine aQ (vs:=[cP (some ⟨o,0,none⟩) 0]) Tryz.call33 rfl (aDj d9 d8 (d1.mono (zL d4 a8)) (d5.mono a8) e1) ?_
 rintro _ h5 ⟨b0,b1,rfl,e2⟩
 have e3:=e0 _ _ e2
 have e4:=d7 _ _ e3
 have e5:=d3 _ _ e4
 obtain ⟨h7,b2,e6,e7,e8⟩:=aI.lendS (i:=0) e5 (zR _) rfl
 obtain ⟨h8,b3,e9,f0,f1⟩:=aI.lendS (i:=0) e7 b2 rfl
 obtain ⟨i0,y,f2,f3,f4⟩:=aI.lendB (i:=0) f0 rfl
 obtain ⟨i1,z,f5,f6,f7⟩:=aI.lendS (i:=0) f3 (zL (zL b2 b3) y) rfl
 obtain ⟨b,f8,c⟩:=aC c
 refine aQ (vs:=[cP (some ⟨o,0,none⟩) 0,zS b0 a9.length b1]) Tryz.call44 rfl (aEx f6 (f2.mono z) (e6.mono (zL (zL b3 y) z)) (e9.mono (zL y z)) f5 f8) ?_
 rintro _ i2 ⟨k,l,m,n,rfl,f9⟩
 have g0:=f7 _ _ f9
 have g1:=f4 _ _ g0
 have g2:=f1 _ _ g1
 have g3:=e8 _ _ g2
 refine cZ (i:=7) (ns:=(zC b k l m n)) (us:=(zC b k l m n)) Tryz.sizeOf27 g3 rfl rfl rfl rfl rfl (fO rfl) rfl rfl (fun g4 (b4:aI G K (aR 9 K e g a.L::aR 51 K h j a.E::box o 27 (zC a e g h j)::aR 2 K b0 b1 a9::aR 9 K k l b.L::aR 51 K m n b.E::aR 2 K r u q::box a6 27 (zC b k l m n)::L) g4)=>(aG ?_))
 obtain rfl:=zI c
 exact bK (vF Tryz.results19 (oB (vs:=(zC b k l m n)) rfl dB b4 (i:=7) rfl rfl rfl) ⟨k,l,m,n,rfl,(aI.arr 8 [4,5] b4 rfl)⟩)
theorem aBs {e:(List UInt8)} {g h:Int} {R:(Int × Int × Int)} (c:aI G K (box b1 79 [zS a2 e.length c3,i64 g,Value.int .u64 h]::L) w) (p:bX K a2 c3 e) (a:rU e g h=some R):
  Calls Tryz.prog 39 ([zP (some ⟨b1,0,none⟩)]:List Value).toArray w (gQ fun v w'=>v=i64 R.1∧aI G K (box b1 79 [zS a2 e.length c3,i64 R.2.1,Value.int .u64 R.2.2]::L) w'):=by
 let l:=[zS a2 e.length c3,i64 g,Value.int .u64 h]
 let q:=[zS a2 e.length c3,i64 (wr (g+1)),Value.int .u64 h]
 refine aS Tryz.func39 rfl (by kernel_rfl) (by show (1:Nat)≤62;decide) ?_
 unfold rU at a
 refine aK (aF (v:=i64 0) (aG (aK (aF (v:=i64 0) (aG (lV (fun f w=>∃ (j:Int),mJ e g h j=some R∧f 0=zP (some ⟨b1,0,none⟩)∧f 3=i64 j∧aI G K (box b1 79 l::L) w) ?_ ?_))))))
 ·rintro f w8 ⟨j,a,k,r,u⟩
  unfold mJ at a
  refine aK (aN k (aD (aBe rfl) (aD (bL (t':=1) aEZ rfl rfl) (aD (dG sc_3 u (i:=0) rfl rfl rfl) (aD (cK rfl rfl) (aD (aBe rfl) (aD (bL (t':=1) aEZ rfl rfl) (cZ (i:=0) (ns:=[i64 (wr (g+1))]) (us:=q) Tryz.sizeOf3 u rfl rfl rfl rfl rfl (fO rfl) rfl rfl (fun J (x:aI G K (box b1 79 q::L) J)=>(aG (aK (aN k (aN k (aD (aBe rfl) (aD (bL (t':=2) aJB rfl rfl) (aD (dG sc_77 x (i:=0) rfl rfl rfl) (aD (R_u64mul rfl rfl) (aN r (aD (R_convu64 Tryz.runUnderlying77 rfl ⟨_,Tryz.runUnderlying3⟩) (aD (aKh rfl rfl) (aD (aKh rfl rfl) (aD (aBe rfl) (aD (bL (t':=2) aJB rfl rfl) ?_)))))))))))))))))))))))
  refine cZ (i:=0) (ns:=[Value.int .u64 (qC ((qC ((qC (h * 6364136223846793005))+(qC j)))+1442695040888963407))]) (us:=[zS a2 e.length c3,i64 (wr (g+1)),Value.int .u64 (qC ((qC ((qC (h * 6364136223846793005))+(qC j)))+1442695040888963407))]) Tryz.sizeOf77 x rfl rfl rfl rfl rfl (fO rfl) rfl rfl ?_
  intro V (d:aI G K (box b1 79 [zS a2 e.length c3,i64 (wr (g+1)),Value.int .u64 (qC ((qC ((qC (h * 6364136223846793005))+(qC j)))+1442695040888963407))]::L) V)
  refine aG (aO (aO (eL (C:=fun w'=>aI G K (box b1 79 [zS a2 e.length c3,i64 (wr (g+1)),Value.int .u64 (qC ((qC ((qC (h * 6364136223846793005))+(qC j)))+1442695040888963407))]::L) w') bP (by kernel_rfl) (aI.mono d (dN.drew _)) (bC (fun _ d=>aW k) (bC (fun _ d=>aBe rfl) (bC (fun _ d=>bL (t':=1) aEZ rfl rfl) (bC (fun _ d=>dG sc_3 d (i:=0) rfl rfl rfl) (bC (fun _ d=>aW k) (bC (fun _ d=>aBe rfl) (bC (fun _ d=>bL (t':=0) aJA rfl rfl) (bC (fun _ d=>dG sc_22 d (i:=0) rfl rfl rfl) (bC (fun _ d=>bT (len:=e.length) aHf rfl) (bC (fun _ d=>aGU rfl rfl) (fT (fun a8 m=>(aA ?_))))))))))))))))
  rcases aH a with ⟨n,a⟩|⟨n,a⟩
  ·refine aM n rfl (aK (aN r (aF (v:=i64 j) (aG ?_))))
   obtain rfl:=zI a
   exact bK (aX (bE Tryz.results39 rfl ⟨rfl,m⟩))
  ·refine aJ n rfl (aY (aA (aK (aN k (aD (aBe rfl) (aD (bL (t':=2) aJB rfl rfl) (aD (dG sc_77 m (i:=0) rfl rfl rfl) ?_)))))))
   obtain ⟨a0,a1,a⟩:=aC a
   refine aD (R_shrU rfl rfl a1) (aD (R_andU rfl rfl) (aD (aGY Tryz.runUnderlying2 rfl ⟨_,Tryz.runUnderlying77⟩) (aF (v:=i64 (wr (anU a0 255))) (aG ?_))))
   obtain rfl:=zI a
   exact bK (bE Tryz.results39 rfl ⟨rfl,m⟩)
 refine aO (eL (C:=fun w'=>aI G K (box b1 79 l::L) w') bP (by kernel_rfl) (aI.mono c (dN.drew _)) (bC (fun _ c=>aW (v:=zP (some ⟨b1,0,none⟩)) rfl) (bC (fun _ c=>aBe rfl) (bC (fun _ c=>bL (t':=1) aEZ rfl rfl) (bC (fun _ c=>dG sc_3 c (i:=0) rfl rfl rfl) (bC (fun _ c=>aW (v:=zP (some ⟨b1,0,none⟩)) rfl) (bC (fun _ c=>aBe rfl) (bC (fun _ c=>bL (t':=0) aJA rfl rfl) (bC (fun _ c=>dG sc_22 c (i:=0) rfl rfl rfl) (bC (fun _ c=>bT (len:=e.length) aHf rfl) (bC (fun _ c=>cT rfl rfl) (fT (fun a9 b=>(aA ?_))))))))))))))
 rcases aH a with ⟨o,a⟩|⟨o,a⟩
 ·refine aM o rfl (eL (C:=fun w'=>aI G K (box b1 79 l::L) w') bP (by kernel_rfl) (aI.mono b (dN.drew _)) (bC (fun _ b=>aW (v:=zP (some ⟨b1,0,none⟩)) rfl) (bC (fun _ b=>aBe rfl) (bC (fun _ b=>bL (t':=0) aJA rfl rfl) (bC (fun _ b=>dG sc_22 b (i:=0) rfl rfl rfl) (bC (fun _ b=>aW (v:=zP (some ⟨b1,0,none⟩)) rfl) (bC (fun _ b=>aBe rfl) (bC (fun _ b=>bL (t':=1) aEZ rfl rfl) (bC (fun _ b=>dG sc_3 b (i:=0) rfl rfl rfl) ?_)))))))))
  obtain ⟨y,z,a⟩:=aC a
  refine bC (fun _ b=>cU aHf rfl p rfl rfl rfl z) ?_
  obtain ⟨b0,a4,a5⟩:=bX.el (sz:=1) rfl p z
  cases a5
  exact bC (fun _ b=>bG (t:=0) sc_5 b a4 rfl rfl) (bC (fun _ b=>aGY Tryz.runUnderlying3 rfl ⟨_,Tryz.runUnderlying5⟩) (bC (fun _ b=>gB (v:=i64 (wr (y.toNat:Int))) rfl) (fT (fun b2 a6=>(aA ⟨wr (y.toNat:Int),a,rfl,rfl,a6⟩)))))
 ·exact aJ o rfl (aY (aA ⟨0,a,rfl,rfl,b⟩))
theorem cB {c:(List UInt8)} {k l n:Int} {R:(Int × Int × Int)} (m:aI G K (box b1 79 [zS a2 c.length c3,i64 k,Value.int .u64 l]::L) w) (o:bX K a2 c3 c) (a:cL c k l n=some R):
  Calls Tryz.prog 15 ([zP (some ⟨b1,0,none⟩),i64 n]:List Value).toArray w (gQ fun v w'=>v=i64 R.1∧aI G K (box b1 79 [zS a2 c.length c3,i64 R.2.1,Value.int .u64 R.2.2]::L) w'):=by
 refine aS Tryz.func15 rfl (by kernel_rfl) (by show (2:Nat)≤20;decide) ?_
 unfold cL at a
 refine aK (aF (v:=i64 0) (aG (aO (aK (aL (v:=i64 n) (aD (aGU rfl rfl) (aG ?_)))))))
 rcases aH a with ⟨e,a⟩|⟨e,a⟩
 ·refine aM e rfl (aK (aF (v:=i64 0) (aG ?_)))
  obtain rfl:=zI a
  exact bK (aX (bE Tryz.results15 rfl ⟨rfl,m⟩))
 ·refine aJ e rfl (aY (aA (aK (aL (v:=zP (some ⟨b1,0,none⟩)) ?_))))
  obtain ⟨b,r,a⟩:=aC a
  refine aQ (vs:=[zP (some ⟨b1,0,none⟩)]) Tryz.call39 rfl (aBs m o r) ?_
  rintro _ a0 ⟨rfl,p⟩
  refine aF (v:=i64 b.1) (aG (lV (fun f w=>∃ (g:Int) (h:Int) (i:Int),mK n g h i=some R∧f 1=i64 n∧f 5=i64 g∧aI G K (box b1 79 [zS a2 c.length c3,i64 h,Value.int .u64 i]::L) w) ?_ ?_))
  ·rintro f a1 ⟨g,h,i,a,t,u,x⟩
   unfold mK at a
   refine aK (aN u (aN t ?_))
   obtain ⟨y,z,a⟩:=aC a
   refine aD (R_rem rfl rfl z) (aF (v:=i64 y) (aG ?_))
   obtain rfl:=zI a
   exact bK (bE Tryz.results15 rfl ⟨rfl,x⟩)
  refine aK (aL (v:=i64 n) (aD (sL rfl rfl) (aG ?_)))
  rcases aH a with ⟨j,a⟩|⟨j,a⟩
  ·refine aM j rfl (aP (aL (v:=i64 b.1) (aD (R_mul rfl rfl) (aL (v:=zP (some ⟨b1,0,none⟩)) ?_))))
   obtain ⟨d,V,a⟩:=aC a
   refine aQ (vs:=[zP (some ⟨b1,0,none⟩)]) Tryz.call39 rfl (aBs p o V) ?_
   rintro _ a3 ⟨rfl,Z⟩
   exact aD (cK rfl rfl) (aF (v:=i64 (wr ((wr (b.1 * 256))+d.1))) (aG ⟨wr ((wr (b.1 * 256))+d.1),d.2.1,d.2.2,a,rfl,rfl,Z⟩))
  ·exact aJ j rfl (aY (aA ⟨b.1,b.2.1,b.2.2,a,rfl,rfl,p⟩))
theorem jC {a:(List UInt8)} {c d n:Int} {R:(Bool × Int × Int)} (e:aI G K (box b1 79 [zS a2 a.length c3,i64 c,Value.int .u64 d]::L) w) (g:bX K a2 c3 a) (b:jH a c d n=some R):
  Calls Tryz.prog 18 ([zP (some ⟨b1,0,none⟩),i64 n]:List Value).toArray w (gQ fun v w'=>v=zB R.1∧aI G K (box b1 79 [zS a2 a.length c3,i64 R.2.1,Value.int .u64 R.2.2]::L) w'):=by
 refine aS Tryz.func18 rfl (by kernel_rfl) (by show (2:Nat)≤9;decide) ?_
 unfold jH at b
 refine aK (aF (v:=zB false) (aG (aK (aL (v:=zP (some ⟨b1,0,none⟩)) (aL (v:=i64 n) ?_)))))
 obtain ⟨h,i,b⟩:=aC b
 refine aQ (vs:=[zP (some ⟨b1,0,none⟩),i64 n]) Tryz.call15 rfl (cB e g i) ?_
 rintro _ l ⟨rfl,j⟩
 refine aD (lA rfl rfl) (aF (v:=zB (h.1 == 0)) (aG ?_))
 obtain rfl:=zI b
 exact bK (bE Tryz.results18 rfl ⟨rfl,j⟩)
theorem aDR {c:(List UInt8)} {b4 b5:Int} {R:((List bI) × Int × Int)} (hs:aI G K (box b1 79 [zS a2 c.length c3,i64 b4,Value.int .u64 b5]::L) w) (h4:bX K a2 c3 c) (b:sV c b4 b5=some R):
  Calls Tryz.prog 71 ([zP (some ⟨b1,0,none⟩)]:List Value).toArray w (gQ fun v w'=>∃ (d5:Option Addr) (d6:Nat),v=zS d5 R.1.length d6∧aI G K (aR 9 K d5 d6 R.1::box b1 79 [zS a2 c.length c3,i64 R.2.1,Value.int .u64 R.2.2]::L) w'):=by
 let d7:=box b1 79 [zS a2 c.length c3,i64 b4,Value.int .u64 b5]
 refine aS Tryz.func71 rfl (by kernel_rfl) (by show (1:Nat)≤35;decide) ?_
 unfold sV at b
 refine aK (aF (v:=zS none 0 0) (aG (aK (cJ (Kt:=K) (xs:=([([116,97,117]:bI)]:List bI)) (cs:=[str ([116,97,117]:bI)]) (vs:=[(0,str ([116,97,117]:bI))]) dM aBx rfl rfl hs rfl (by kernel_rfl) rfl rfl rfl ⟨rfl,trivial⟩ (fun a5 w6 (e7:aI G K (aR 9 K a5 1 ([([116,97,117]:bI)]:List bI)::d7::L) w6)=>(aF (v:=zS a5 ([([116,97,117]:bI)]:List bI).length 1) (aG (aK (cJ (Kt:=K) (xs:=([([97]:bI),([98]:bI),([99]:bI),([103,101,116,40,48,41]:bI),([103,101,116,40,49,41]:bI)]:List bI)) (cs:=[str ([97]:bI),str ([98]:bI),str ([99]:bI),str ([103,101,116,40,48,41]:bI),str ([103,101,116,40,49,41]:bI)]) (vs:=[(0,str ([97]:bI)),(1,str ([98]:bI)),(2,str ([99]:bI)),(3,str ([103,101,116,40,48,41]:bI)),(4,str ([103,101,116,40,49,41]:bI))]) dM aBx rfl rfl e7 rfl (by kernel_rfl) rfl rfl rfl ⟨rfl,rfl,rfl,rfl,rfl,trivial⟩ (fun e w9 (e9:aI G K (aR 9 K e 5 ([([97]:bI),([98]:bI),([99]:bI),([103,101,116,40,48,41]:bI),([103,101,116,40,49,41]:bI)]:List bI)::aR 9 K a5 1 ([([116,97,117]:bI)]:List bI)::d7::L) w9)=>(aF (v:=zS e ([([97]:bI),([98]:bI),([99]:bI),([103,101,116,40,48,41]:bI),([103,101,116,40,49,41]:bI)]:List bI).length 5) (aG (aO (aK (aF (v:=i64 0) (aG (aZ (fun f w=>∃ (n:List bI) (o:Int) (p:Int) (y:Option Addr) (z:Nat),oG n o p=some R∧f 3=zS y n.length z∧aI G K (aR 9 K y z n::box b1 79 [zS a2 c.length c3,i64 o,Value.int .u64 p]::L) w) ?_ ?_)))))))))))))))))
 ·rintro f h8 ⟨n,o,p,y,z,b,b6,d8⟩
  unfold oG at b
  refine aA (lV (fun f w=>∃ (J:List bI) (V:Option Addr) (Z:Nat),oF o p J=some R∧f 3=zS V J.length Z∧aI G K (aR 9 K V Z J::box b1 79 [zS a2 c.length c3,i64 o,Value.int .u64 p]::L) w) ?_ ?_)
  ·rintro f h9 ⟨J,V,Z,b,f0,f1⟩
   unfold oF at b
   refine aK (aN f0 (aF (v:=zS V J.length Z) (aG ?_)))
   obtain rfl:=zI b
   exact bK (bE Tryz.results71 rfl ⟨V,Z,rfl,f1⟩)
  refine aK (aN b6 (aD (bT (len:=n.length) dM rfl) (aD (lA rfl rfl) (aG ?_))))
  rcases aH b with ⟨b7,b⟩|⟨b7,b⟩
  ·refine aM b7 rfl (aP (aN b6 (cJ (Kt:=K) (xs:=([([97]:bI)]:List bI)) (cs:=[str ([97]:bI)]) (vs:=[(0,str ([97]:bI))]) dM aBx rfl rfl d8 rfl (by kernel_rfl) rfl rfl rfl ⟨rfl,trivial⟩ (fun f3 f4 (f5:aI G K (aR 9 K f3 1 ([([97]:bI)]:List bI)::aR 9 K y z n::box b1 79 [zS a2 c.length c3,i64 o,Value.int .u64 p]::L) f4)=>?_))))
   obtain ⟨b8,f6,b⟩:=aC b
   exact eK (i:=0) dM Tryz.underlying24 aBx rfl rfl f5 rfl (zR _) (zR _) f6 rfl rfl rfl rfl (fun _ h=>h) (fun b9 c0 f7 (f8:aI G K (aR 9 K b9 c0 b8::box b1 79 [zS a2 c.length c3,i64 o,Value.int .u64 p]::L) f7)=>(aF (v:=zS b9 b8.length c0) (aG ⟨b8,b9,c0,b,rfl,f8⟩)))
  ·exact aJ b7 rfl (aY (aA ⟨n,y,z,b,b6,d8⟩))
 obtain ⟨i0,f9,b⟩:=aC b
 refine cC f9 (fun (s:(Int × Int × List bI × Int)) f w=>match s with|(u,x,d,j)=>∃ (k:Option Addr) (l:Nat),f 0=zP (some ⟨b1,0,none⟩)∧f 3=zS k d.length l∧f 4=zS e ([([97]:bI),([98]:bI),([99]:bI),([103,101,116,40,48,41]:bI),([103,101,116,40,49,41]:bI)]:List bI).length 5∧f 5=i64 j∧aI G K (aR 9 K e 5 ([([97]:bI),([98]:bI),([99]:bI),([103,101,116,40,48,41]:bI),([103,101,116,40,49,41]:bI)]:List bI)::aR 9 K k l d::box b1 79 [zS a2 c.length c3,i64 u,Value.int .u64 x]::L) w) ?_ ?_
 ·exact ⟨a5,1,rfl,rfl,rfl,rfl,e9⟩
 ·rintro ⟨u,x,d,j⟩ c1 f g0 a g1 ⟨k,l,c2,a4,c4,c5,d9⟩
  replace a:kC c u x d j=some c1:=a
  unfold kC at a
  refine aO (aK (aN c5 (aN c4 (aD (bT (len:=([([97]:bI),([98]:bI),([99]:bI),([103,101,116,40,48,41]:bI),([103,101,116,40,49,41]:bI)]:List bI).length) dM rfl) (aD (cT rfl rfl) (aG ?_))))))
  rcases aH a with ⟨c6,a⟩|⟨c6,a⟩
  ·refine aM c6 rfl (aY (aA (aO (aZ (fun f w=>∃ (a6:Int) (a7:Int) (a0:List bI) (a9:Option Addr) (b0:Nat),kB j a6 a7 a0=some c1∧f 0=zP (some ⟨b1,0,none⟩)∧f 3=zS a9 a0.length b0∧f 4=zS e ([([97]:bI),([98]:bI),([99]:bI),([103,101,116,40,48,41]:bI),([103,101,116,40,49,41]:bI)]:List bI).length 5∧f 5=i64 j∧aI G K (aR 9 K a9 b0 a0::aR 9 K e 5 ([([97]:bI),([98]:bI),([99]:bI),([103,101,116,40,48,41]:bI),([103,101,116,40,49,41]:bI)]:List bI)::box b1 79 [zS a2 c.length c3,i64 a6,Value.int .u64 a7]::L) w) ?_ ?_))))
   ·rintro f i1 ⟨a6,a7,a0,a9,b0,a,g2,g3,g4,g5,g6⟩
    unfold kB at a
    exact aA (aP (aN g5 (aD (cK rfl rfl) (aF (v:=i64 (wr (j+1))) (aG ⟨(a6,a7,a0,wr (j+1)),(zI a).symm,a9,b0,g2,g3,g4,rfl,(aI.arr 2 [1,0] g6 rfl)⟩)))))
   refine aO (dO (fun f w=>∃ (q:Int) (r:Int) (c7:Bool),lI d j q r c7=some c1∧f 0=zP (some ⟨b1,0,none⟩)∧f 3=zS k d.length l∧f 4=zS e ([([97]:bI),([98]:bI),([99]:bI),([103,101,116,40,48,41]:bI),([103,101,116,40,49,41]:bI)]:List bI).length 5∧f 5=i64 j∧f 20=zB c7∧aI G K (aR 9 K e 5 ([([97]:bI),([98]:bI),([99]:bI),([103,101,116,40,48,41]:bI),([103,101,116,40,49,41]:bI)]:List bI)::aR 9 K k l d::box b1 79 [zS a2 c.length c3,i64 q,Value.int .u64 r]::L) w) ?_ ?_)
   ·rintro f i2 ⟨q,r,c7,a,e0,e1,c8,c9,e2,b2⟩
    unfold lI at a
    refine aA ?_
    rcases aH a with ⟨d0,a⟩|⟨d0,a⟩
    ·refine aM d0 e2 (aP (aN e1 (aN c8 (aN c9 ?_))))
     obtain ⟨b3,d1,a⟩:=aC a
     have g7:=dZ b2 (i:=0) rfl d1
     refine aD (eM dM rfl g7 rfl rfl rfl d1) (aD (lB (t:=0) yF b2 (i:=0) rfl d1 rfl rfl rfl) (cJ (Kt:=K) (xs:=([b3]:List bI)) (cs:=[str b3]) (vs:=[(0,str b3)]) dM aBx rfl rfl b2 rfl (by kernel_rfl) rfl rfl rfl ⟨rfl,trivial⟩ (fun g8 g9 (h0:aI G K (aR 9 K g8 1 ([b3]:List bI)::aR 9 K e 5 ([([97]:bI),([98]:bI),([99]:bI),([103,101,116,40,48,41]:bI),([103,101,116,40,49,41]:bI)]:List bI)::aR 9 K k l d::box b1 79 [zS a2 c.length c3,i64 q,Value.int .u64 r]::L) g9)=>?_)))
     obtain ⟨d2,h1,a⟩:=aC a
     exact eK (i:=1) dM Tryz.underlying24 aBx rfl rfl h0 rfl (zR _) (zR _) h1 rfl rfl rfl rfl (fun _ h=>h) (fun d3 d4 h2 (h3:aI G K (aR 9 K e 5 ([([97]:bI),([98]:bI),([99]:bI),([103,101,116,40,48,41]:bI),([103,101,116,40,49,41]:bI)]:List bI)::aR 9 K d3 d4 d2::box b1 79 [zS a2 c.length c3,i64 q,Value.int .u64 r]::L) h2)=>(aF (v:=zS d3 d2.length d4) (bM (bA (aA ⟨q,r,d2,d3,d4,a,e0,rfl,c8,c9,(aI.arr 2 [1,0] h3 rfl)⟩)))))
    ·exact aJ d0 e2 (aY (bA (aA ⟨q,r,d,k,l,a,e0,e1,c8,c9,(aI.arr 2 [1,0] b2 rfl)⟩)))
   refine aP (aN c2 ?_)
   have h5:aI G K (box b1 79 [zS a2 c.length c3,i64 u,Value.int .u64 x]::aR 9 K e 5 ([([97]:bI),([98]:bI),([99]:bI),([103,101,116,40,48,41]:bI),([103,101,116,40,49,41]:bI)]:List bI)::aR 9 K k l d::L) g0:=(aI.arr 3 [2,0,1] d9 rfl)
   obtain ⟨a1,h6,a⟩:=aC a
   refine aQ (vs:=[zP (some ⟨b1,0,none⟩),i64 2]) Tryz.call18 rfl (jC h5 h4 h6) ?_
   rintro _ i3 ⟨rfl,e3⟩
   refine aL (v:=zB a1.1) ?_
   rcases aH a with ⟨m,a⟩|⟨m,a⟩
   ·exact bB m rfl rfl (aN a4 (bB m rfl rfl (aD (bT (len:=d.length) dM rfl) (bB m rfl rfl (aD (cT rfl rfl) (aD (bF (v:=zB (decide ((d.length:Int) < 4))) m rfl rfl) (aG ⟨a1.2.1,a1.2.2,decide ((d.length:Int) < 4),a,c2,a4,c4,c5,rfl,(aI.arr 3 [1,2,0] e3 rfl)⟩)))))))
   ·exact aU m rfl rfl (aU m rfl rfl (aU m rfl rfl (aD (bH (v:=zB false) m rfl rfl) (aG ⟨a1.2.1,a1.2.2,false,a,c2,a4,c4,c5,rfl,(aI.arr 3 [1,2,0] e3 rfl)⟩))))
  ·refine aJ c6 rfl (cA (aV (aV ?_)))
   have h7:=g1 _ (zI a).symm
   subst h7
   have b:(oG d u x)=some R:=b
   exact bN (aA ⟨d,u,x,k,l,b,a4,(aI.arr 1 [] d9 rfl)⟩)
theorem aDS {c:(List UInt8)} {d e:Int} {a:(List Int)} {R:(Int × Int × Int)} (j:aI G K (box b1 79 [zS a2 c.length c3,i64 d,Value.int .u64 e]::L) w) (k:bX K a2 c3 c) (g:bX K a5 c6 a) (b:sW c d e a=some R):
  Calls Tryz.prog 72 ([zP (some ⟨b1,0,none⟩),zS a5 a.length c6]:List Value).toArray w (gQ fun v w'=>v=i64 R.1∧aI G K (box b1 79 [zS a2 c.length c3,i64 R.2.1,Value.int .u64 R.2.2]::L) w'):=by
 refine aS Tryz.func72 rfl (by kernel_rfl) (by show (2:Nat)≤12;decide) ?_
 unfold sW at b
 refine aK (aF (v:=i64 0) (aG (aK (aL (v:=zS a5 a.length c6) (aL (v:=zP (some ⟨b1,0,none⟩)) (aL (v:=zS a5 a.length c6) (aD (bT (len:=a.length) bO rfl) ?_)))))))
 obtain ⟨q,l,b⟩:=aC b
 refine aQ (vs:=[zP (some ⟨b1,0,none⟩),i64 (a.length:Int)]) Tryz.call15 rfl (cB j k l) ?_
 rintro _ r ⟨rfl,h⟩
 obtain ⟨m,i,b⟩:=aC b
 refine aD (cU bO rfl g rfl rfl rfl i) ?_
 obtain ⟨u,n,o⟩:=bX.el (sz:=1) rfl g i
 cases o
 refine aD (bG (t:=0) bY h n rfl rfl) (aF (v:=i64 m) (aG ?_))
 obtain rfl:=zI b
 exact bK (bE Tryz.results72 rfl ⟨rfl,h⟩)
end Gv
