/- Walks, printed by program. -/
import Derived.Test.YtohbafhnoifmoaaGreatDoorTJWk1
import Derived.Test.YtohbafhnoifmoaaGreatDoorTJWk2
import Derived.Test.YtohbafhnoifmoaaGreatDoorTJWk3
set_option linter.all false
namespace Gv
open Go.Value renaming slice→zS,bool→zB,pointer→zP,agg→zA
open Option.some renaming inj→zI
open Gv.Hp renaming le_trans→zL,le_refl→zR
open Go Go.Proofs Go.Proofs.Tryz
set_option maxRecDepth 20000
set_option maxHeartbeats 40000000
variable {G:Env} {K:Hp} {L:List nJ} {w:World} {a1 a4 a7 a10:Option Addr} {c5 c8 c11 c2:Nat}
theorem aFM {t:cG} {p:Nat} {R:cG} (hs:aI G K (L) w) (x:kK K a1 p (zC t a4 c5 a7 c8)) (h6:cX K a4 c5 t.L) (h9:cX K a7 c8 t.E) (c:vL t=some R):
  Calls Tryz.prog 89 ([cU a1 p]:List Value).toArray w (gK fun v w'=>∃ (n7:Option Addr) (n8:Nat) (n9:Option Addr) (o0:Nat),v=zA (zCa R n7 n8 n9 o0)∧aI G K (aK 9 K n7 n8 R.L::aK 69 K n9 o0 R.E::L) w'):=by
 let a:=zG
 refine aW func89 rfl (by kernel_rfl) (by show (1:Nat)≤71;decide) ?_
 unfold vL at c
 refine aL (bW (vs:=a) zeroValue27 hs rfl (fun b w11 r1=>(aG (aQ (cN (fun f w=>∃ (d:List aU) (m:Nat) (e:Option Addr) (g:Nat) (h7:Option Addr) (h8:Nat),rX t d=some R∧f 0=cU a1 p∧f 2=zP (some ⟨b,0,none⟩)∧f 3=zP (some ⟨m,0,none⟩)∧aI G K (aK 69 K h7 h8 ([]:List Edge)::aK 9 K e g d::box m 27 [i64 t.N,i64 t.I,zS e d.length g,zS h7 ([]:List Edge).length h8]::box b 27 a::L) w) ?_ ?_)))))
 ·rintro f w22 ⟨d,m,e,g,h7,h8,c,o1,r2,r3,r4⟩
  unfold rX at c
  refine aA (aL (aN o1 ?_))
  obtain ⟨o,r5,c⟩:=aB c
  refine aS (vs:=[cU a1 p]) call126 rfl (aHH r4 x h6 h9 r5) ?_
  rintro _ w28 ⟨q,r,rfl,r6⟩
  refine aF (v:=zS q o.length r) (aG (aQ (aL (aF (v:=i64 0) (aG (bB (fun f w=>∃ (a9:List Edge) (b0:Option Addr) (b1:Nat),uI t d a9=some R∧f 2=zP (some ⟨b,0,none⟩)∧f 3=zP (some ⟨m,0,none⟩)∧aI G K (aK 69 K b0 b1 a9::aK 9 K e g d::box m 27 [i64 t.N,i64 t.I,zS e d.length g,zS b0 a9.length b1]::box b 27 a::L) w) ?_ ?_))))))
  ·rintro f w35 ⟨a9,b0,b1,c,o2,r7,o3⟩
   unfold uI at c
   refine aA (aL (aD (eI (us:=[i64 t.N,i64 t.I,zS e d.length g,zS b0 a9.length b1]) dJ o3 (i:=2) rfl r7 rfl rfl) (bY (i:=3) (ns:=[i64 t.N,i64 t.I,zS e d.length g,zS b0 a9.length b1]) (us:=[i64 t.N,i64 t.I,zS e d.length g,zS b0 a9.length b1]) sizeOf27 o3 rfl o2 rfl rfl rfl (dE rfl) rfl rfl (fun r8 (o4:aI G K (aK 69 K b0 b1 a9::aK 9 K e g d::box m 27 [i64 t.N,i64 t.I,zS e d.length g,zS b0 a9.length b1]::box b 27 [i64 t.N,i64 t.I,zS e d.length g,zS b0 a9.length b1]::L) r8)=>(aG ?_)))))
   obtain rfl:=zI c
   exact bM (vY results89 (fV (vs:=[i64 t.N,i64 t.I,zS e d.length g,zS b0 a9.length b1]) rfl dJ o4 (i:=3) rfl o2 rfl) ⟨e,g,b0,b1,rfl,(aI.arr 4 [1,0] o4 rfl)⟩)
  obtain ⟨a52,s0,c⟩:=aB c
  refine cE s0 (fun (s:(List Edge × Int)) f w=>match s with|(f9,n)=>∃ (g4:Option Addr) (g5:Nat),f 0=cU a1 p∧f 2=zP (some ⟨b,0,none⟩)∧f 3=zP (some ⟨m,0,none⟩)∧f 4=zS q o.length r∧f 5=i64 n∧aI G K (aK 4 K q r o::aK 69 K g4 g5 f9::aK 9 K e g d::box m 27 [i64 t.N,i64 t.I,zS e d.length g,zS g4 f9.length g5]::box b 27 a::L) w) ?_ ?_
  ·exact ⟨h7,h8,o1,r2,r3,rfl,rfl,r6⟩
  ·rintro ⟨f9,n⟩ i0 f w67 V s1 ⟨g4,g5,o5,o6,o7,s2,o8,j8⟩
   replace V:iX t o f9 n=some i0:=V
   unfold iX at V
   refine aQ (aL (aN o8 (aN o5 (aD (cJ rfl x) (aD (bO (k':=p+0) gS rfl x rfl) (aD (bH (t:=0) cK j8 x rfl rfl) (aD (cL rfl rfl) (aG ?_))))))))
   rcases aH V with ⟨j9,V⟩|⟨j9,V⟩
   ·refine aM j9 rfl (bA (aA (aQ (bB (fun f w=>∃ (g6:List Edge) (i1:Option Addr) (i2:Nat),uJ n g6=some i0∧f 0=cU a1 p∧f 2=zP (some ⟨b,0,none⟩)∧f 3=zP (some ⟨m,0,none⟩)∧f 4=zS q o.length r∧f 5=i64 n∧aI G K (aK 69 K i1 i2 g6::aK 4 K q r o::aK 9 K e g d::box m 27 [i64 t.N,i64 t.I,zS e d.length g,zS i1 g6.length i2]::box b 27 a::L) w) ?_ ?_))))
    ·rintro f w92 ⟨g6,i1,i2,V,s3,s4,s5,s6,s7,s8⟩
     unfold uJ at V
     exact aA (aP (aN s7 (aD (cP rfl rfl) (aF (v:=i64 (wr (n+1))) (aG ⟨(g6,wr (n+1)),(zI V).symm,i1,i2,s3,s4,s5,s6,rfl,(aI.arr 2 [1,0] s8 rfl)⟩)))))
    refine aL (aF (v:=i64 0) (aG (bB (fun f w=>∃ (g7:List Edge) (i3:Option Addr) (i4:Nat),pC n g7=some i0∧f 0=cU a1 p∧f 2=zP (some ⟨b,0,none⟩)∧f 3=zP (some ⟨m,0,none⟩)∧f 4=zS q o.length r∧f 5=i64 n∧aI G K (aK 69 K i3 i4 g7::aK 4 K q r o::aK 9 K e g d::box m 27 [i64 t.N,i64 t.I,zS e d.length g,zS i3 g7.length i4]::box b 27 a::L) w) ?_ ?_)))
    ·rintro f a55 ⟨g7,i3,i4,V,s9,t0,t1,t2,t3,t4⟩
     unfold pC at V
     exact bC (aA ⟨g7,i3,i4,V,s9,t0,t1,t2,t3,t4⟩)
    obtain ⟨a56,t5,V⟩:=aB V
    refine cE t5 (fun (s:(List Edge × Int)) f w=>match s with|(g0,y)=>∃ (g8:Option Addr) (g9:Nat),f 0=cU a1 p∧f 2=zP (some ⟨b,0,none⟩)∧f 3=zP (some ⟨m,0,none⟩)∧f 4=zS q o.length r∧f 5=i64 n∧f 6=i64 y∧aI G K (aK 4 K q r o::aK 69 K g8 g9 g0::aK 9 K e g d::box m 27 [i64 t.N,i64 t.I,zS e d.length g,zS g8 g0.length g9]::box b 27 a::L) w) ?_ ?_
    ·exact ⟨g4,g5,o5,o6,o7,s2,o8,rfl,j8⟩
    ·rintro ⟨g0,y⟩ i5 f a57 z t6 ⟨g8,g9,i6,o9,p0,k0,k1,k3,k4⟩
     replace z:iW t o n g0 y=some i5:=z
     unfold iW at z
     refine aQ (aL (aN k3 (aN i6 (aD (cJ rfl x) (aD (bO (k':=p+2) fL rfl x rfl) (aD (bH (t:=2) iT k4 x rfl rfl) (aD (bU (len:=t.L.length) bX rfl) (aD (cL rfl rfl) (aG ?_)))))))))
     rcases aH z with ⟨k5,z⟩|⟨k5,z⟩
     ·refine aM k5 rfl (bA (aA (aQ (bB (fun f w=>∃ (h0:List Edge) (i7:Option Addr) (i8:Nat),uK y h0=some i5∧f 0=cU a1 p∧f 2=zP (some ⟨b,0,none⟩)∧f 3=zP (some ⟨m,0,none⟩)∧f 4=zS q o.length r∧f 5=i64 n∧f 6=i64 y∧aI G K (aK 69 K i7 i8 h0::aK 4 K q r o::aK 9 K e g d::box m 27 [i64 t.N,i64 t.I,zS e d.length g,zS i7 h0.length i8]::box b 27 a::L) w) ?_ ?_))))
      ·rintro f a58 ⟨h0,i7,i8,z,t7,t8,t9,u0,u1,u2,u3⟩
       unfold uK at z
       exact aA (aP (aN u2 (aD (cP rfl rfl) (aF (v:=i64 (wr (y+1))) (aG ⟨(h0,wr (y+1)),(zI z).symm,i7,i8,t7,t8,t9,u0,u1,rfl,(aI.arr 2 [1,0] u3 rfl)⟩)))))
      refine aL (aN i6 (aN k0 (aN k1 (aN k3 ?_))))
      obtain ⟨a60,k6,u4,u5,u6⟩:=aI.lendS (i:=0) k4 (zR _) rfl
      obtain ⟨b4,u7,z⟩:=aB z
      refine aS (vs:=[cU a1 p,zS q o.length r,i64 n,i64 y]) call127 rfl (aIH u5 (x.mono k6) (h6.mono k6) (h9.mono k6) u4 u7) ?_
      rintro _ a61 ⟨c3,c4,rfl,u8⟩
      have u9:=u6 _ _ u8
      refine aF (v:=zS c3 b4.length c4) (aG (aL (aF (v:=i64 0) (aG (bB (fun f w=>∃ (h1:List Edge) (i9:Option Addr) (j0:Nat),pD y h1=some i5∧f 0=cU a1 p∧f 2=zP (some ⟨b,0,none⟩)∧f 3=zP (some ⟨m,0,none⟩)∧f 4=zS q o.length r∧f 5=i64 n∧f 6=i64 y∧aI G K (aK 69 K i9 j0 h1::aK 4 K q r o::aK 9 K e g d::box m 27 [i64 t.N,i64 t.I,zS e d.length g,zS i9 h1.length j0]::box b 27 a::L) w) ?_ ?_)))))
      ·rintro f a62 ⟨h1,i9,j0,z,v0,v1,v2,v3,v4,v5,v6⟩
       unfold pD at z
       exact bC (aA ⟨h1,i9,j0,z,v0,v1,v2,v3,v4,v5,v6⟩)
      obtain ⟨a63,v7,z⟩:=aB z
      refine cE v7 (fun (s:(List Edge × Int)) f w=>match s with|(b2,a8)=>∃ (c6:Option Addr) (c7:Nat),f 0=cU a1 p∧f 2=zP (some ⟨b,0,none⟩)∧f 3=zP (some ⟨m,0,none⟩)∧f 4=zS q o.length r∧f 5=i64 n∧f 6=i64 y∧f 7=zS c3 b4.length c4∧f 8=i64 a8∧aI G K (aK 4 K q r o::aK 4 K c3 c4 b4::aK 69 K c6 c7 b2::aK 9 K e g d::box m 27 [i64 t.N,i64 t.I,zS e d.length g,zS c6 b2.length c7]::box b 27 a::L) w) ?_ ?_
      ·exact ⟨g8,g9,i6,o9,p0,k0,k1,k3,rfl,rfl,u9⟩
      ·rintro ⟨b2,a8⟩ p1 f a64 J v8 ⟨c6,c7,j1,k7,h2,k8,j2,j3,k9,h4,f8⟩
       replace J:iV t n y b4 b2 a8=some p1:=J
       unfold iV at J
       refine aQ (aL (aN h4 (aN j1 (aD (cJ rfl x) (aD (bO (k':=p+0) gS rfl x rfl) (aD (bH (t:=0) cK f8 x rfl rfl) (aD (cL rfl rfl) (aG ?_))))))))
       rcases aH J with ⟨l0,J⟩|⟨l0,J⟩
       ·refine aM l0 rfl (bA (aA (aQ (bB (fun f w=>∃ (h5:List Edge) (j4:Option Addr) (j5:Nat),pE a8 h5=some p1∧f 0=cU a1 p∧f 2=zP (some ⟨b,0,none⟩)∧f 3=zP (some ⟨m,0,none⟩)∧f 4=zS q o.length r∧f 5=i64 n∧f 6=i64 y∧f 7=zS c3 b4.length c4∧f 8=i64 a8∧aI G K (aK 69 K j4 j5 h5::aK 4 K q r o::aK 4 K c3 c4 b4::aK 9 K e g d::box m 27 [i64 t.N,i64 t.I,zS e d.length g,zS j4 h5.length j5]::box b 27 a::L) w) ?_ ?_))))
        ·rintro f a65 ⟨h5,j4,j5,J,v9,w0,w1,w2,w3,w4,w5,w6,w7⟩
         unfold pE at J
         exact aA (aP (aN w6 (aD (cP rfl rfl) (aF (v:=i64 (wr (a8+1))) (aG ⟨(h5,wr (a8+1)),(zI J).symm,j4,j5,v9,w0,w1,w2,w3,w4,w5,rfl,(aI.arr 3 [1,2,0] w7 rfl)⟩)))))
        refine aL (aN k9 (aN h4 ?_))
        obtain ⟨a66,l1,J⟩:=aB J
        have w8:=dA f8 (i:=1) rfl l1
        refine aD (dT fO rfl w8 rfl rfl rfl l1) (aD (gP (t:=0) aDW f8 (i:=1) rfl l1 rfl rfl rfl) (aG ?_))
        rcases aH J with ⟨l2,J⟩|⟨l2,J⟩
        ·refine aM l2 rfl (aP (aD (bT (t':=3) cV h2 rfl) (aD (dS fH f8 (i:=4) rfl rfl rfl) (aN j2 (aN j3 (aN h4 (aD (dL (vs:=[(0,i64 n),(1,i64 y),(2,i64 a8)]) (cs:=[i64 n,i64 y,i64 a8]) aFy rfl (by kernel_rfl)) (bR (Kt:=K) (xs:=([⟨n,y,a8⟩]:List Edge)) (cs:=[i64 n,i64 y,i64 a8]) (vs:=[(0,zA #[i64 n,i64 y,i64 a8])]) cM gZ rfl rfl f8 rfl (by kernel_rfl) rfl rfl rfl ⟨rfl,trivial⟩ (fun w9 x0 (x1:aI G K (aK 69 K w9 1 ([⟨n,y,a8⟩]:List Edge)::aK 4 K q r o::aK 4 K c3 c4 b4::aK 69 K c6 c7 b2::aK 9 K e g d::box m 27 [i64 t.N,i64 t.I,zS e d.length g,zS c6 b2.length c7]::box b 27 a::L) x0)=>?_)))))))))
         obtain ⟨g1,x2,J⟩:=aB J
         exact dG (i:=2) cM underlying25 gZ rfl rfl x1 rfl (zR _) (zR _) x2 rfl rfl rfl rfl (fun _ h=>h) (fun g2 g3 x3 (x4:aI G K (aK 4 K q r o::aK 4 K c3 c4 b4::aK 69 K g2 g3 g1::aK 9 K e g d::box m 27 [i64 t.N,i64 t.I,zS e d.length g,zS c6 b2.length c7]::box b 27 a::L) x3)=>(aD (bT (t':=3) cV h2 rfl) (bY (i:=4) (ns:=[zS g2 g1.length g3]) (us:=[i64 t.N,i64 t.I,zS e d.length g,zS g2 g1.length g3]) sizeOf25 x4 rfl rfl rfl rfl rfl (dE rfl) rfl rfl (fun x5 (x6:aI G K (aK 4 K q r o::aK 4 K c3 c4 b4::aK 69 K g2 g3 g1::aK 9 K e g d::box m 27 [i64 t.N,i64 t.I,zS e d.length g,zS g2 g1.length g3]::box b 27 a::L) x5)=>(aZ (bC (aA ⟨g1,g2,g3,J,j1,k7,h2,k8,j2,j3,k9,h4,(aI.arr 3 [2,0,1] x6 rfl)⟩)))))))
        ·exact aJ l2 rfl (bA (bC (aA ⟨b2,c6,c7,J,j1,k7,h2,k8,j2,j3,k9,h4,(aI.arr 3 [2,0,1] f8 rfl)⟩)))
       ·refine aJ l0 rfl (cA (aT (aT ?_)))
        have x7:=v8 _ (zI J).symm
        subst x7
        have z:(pD y b2)=some i5:=z
        exact bJ (aA ⟨b2,c6,c7,z,j1,k7,h2,k8,j2,j3,(aI.arr 3 [2,0] f8 rfl)⟩)
     ·refine aJ k5 rfl (cA (aT (aT ?_)))
      have x8:=t6 _ (zI z).symm
      subst x8
      have V:(pC n g0)=some i0:=V
      exact bJ (aA ⟨g0,g8,g9,V,i6,o9,p0,k0,k1,(aI.arr 2 [1,0] k4 rfl)⟩)
   ·refine aJ j9 rfl (cA (aT (aT ?_)))
    have x9:=s1 _ (zI V).symm
    subst x9
    have c:(uI t d f9)=some R:=c
    exact bJ (aA ⟨f9,g4,g5,c,o6,o7,(aI.arr 1 [] j8 rfl)⟩)
 refine zZ (C:=fun w'=>∃ L',aI G K L' w') [17] bZ (by kernel_rfl) (fun a67 y0=>?_)
 have u:=aI.mono r1 y0
 refine dZ (i:=0) rfl (by kernel_rfl) ⟨_,u⟩ (fun _ _=>bE (v:=cU a1 p) rfl) (dZ (i:=1) rfl (by kernel_rfl) ⟨_,u⟩ (fun _ _=>cJ rfl x) (dZ (i:=2) rfl (by kernel_rfl) ⟨_,u⟩ (fun _ _=>bO (k':=p+0) gS rfl x rfl) (dZ (i:=3) rfl (by kernel_rfl) ⟨_,u⟩ (fun _ ⟨_,u⟩=>bH (t:=0) cK u x rfl rfl) (dZ (i:=4) rfl (by kernel_rfl) ⟨_,u⟩ (fun _ _=>bE (v:=cU a1 p) rfl) (dZ (i:=5) rfl (by kernel_rfl) ⟨_,u⟩ (fun _ _=>cJ rfl x) (dZ (i:=6) rfl (by kernel_rfl) ⟨_,u⟩ (fun _ _=>bO (k':=p+1) oP rfl x rfl) (dZ (i:=7) rfl (by kernel_rfl) ⟨_,u⟩ (fun _ ⟨_,u⟩=>bH (t:=1) cK u x rfl rfl) (dZ (i:=9) rfl (by kernel_rfl) ⟨_,u⟩ (fun _ _=>bE (v:=cU a1 p) rfl) (dZ (i:=10) rfl (by kernel_rfl) ⟨_,u⟩ (fun _ _=>cJ rfl x) (dZ (i:=11) rfl (by kernel_rfl) ⟨_,u⟩ (fun _ _=>bO (k':=p+2) fL rfl x rfl) (dZ (i:=12) rfl (by kernel_rfl) ⟨_,u⟩ (fun _ ⟨_,u⟩=>bH (t:=2) iT u x rfl rfl) (WA_act3 (i:=8) (j:=14) (k:=16) (by kernel_rfl) rfl rfl rfl ?_ ?_ ?_))))))))))))
 ·refine bR (Kt:=K) (xs:=([]:List aU)) (cs:=[]) (vs:=[]) bX gJ rfl rfl u rfl (by kernel_rfl) rfl rfl rfl trivial (fun l3 y1 (j6:aI G K (aK 9 K l3 0 ([]:List aU)::box b 27 a::L) y1)=>(aZ (aA ⟨fun _=>⟨_,j6⟩,?_⟩)))
  refine WA_act3 (i:=13) (j:=14) (k:=16) (by kernel_rfl) rfl rfl rfl ?_ ?_ ?_
  ·obtain ⟨Z,y2,c⟩:=aB c
   refine lW (i:=0) bX underlying24 gJ rfl rfl j6 rfl (zR _) h6 y2 rfl rfl rfl rfl (fun a0 a2 y3 (l4:aI G K (aK 9 K a0 a2 Z::box b 27 a::L) y3)=>(aZ (aA ⟨fun _=>⟨_,l4⟩,?_⟩)))
   refine nE (i:=14) (j:=16) (by kernel_rfl) rfl rfl ?_ ?_
   ·refine bR (Kt:=K) (xs:=([]:List Edge)) (cs:=[]) (vs:=[]) cM gZ rfl rfl l4 rfl (by kernel_rfl) rfl rfl rfl trivial (fun c9 y4 (l5:aI G K (aK 69 K c9 0 ([]:List Edge)::aK 9 K a0 a2 Z::box b 27 a::L) y4)=>(aZ (aA ⟨fun _=>⟨_,l5⟩,?_⟩)))
    refine dZ (i:=15) rfl (by kernel_rfl) ⟨_,l5⟩ (fun _ _=>dL (vs:=[(0,i64 t.N),(1,i64 t.I),(2,zS a0 Z.length a2),(3,zS c9 ([]:List Edge).length 0)]) (cs:=[i64 t.N,i64 t.I,zS a0 Z.length a2,zS c9 ([]:List Edge).length 0]) rW rfl (by kernel_rfl)) (cB (i:=16) (by kernel_rfl) rfl (bW (vs:=a) zeroValue27 l5 rfl (fun p2 a68 p3=>(aZ (aA ⟨fun _=>⟨_,p3⟩,?_⟩)))))
    refine cB (i:=17) (by kernel_rfl) rfl (bY (i:=0) (ns:=[i64 t.N,i64 t.I,zS a0 Z.length a2,zS c9 ([]:List Edge).length 0]) (us:=[i64 t.N,i64 t.I,zS a0 Z.length a2,zS c9 ([]:List Edge).length 0]) sizeOf27 p3 rfl rfl rfl rfl rfl (dE rfl) rfl rfl (fun y5 (y6:aI G K (box p2 27 [i64 t.N,i64 t.I,zS a0 Z.length a2,zS c9 ([]:List Edge).length 0]::aK 69 K c9 0 ([]:List Edge)::aK 9 K a0 a2 Z::box b 27 a::L) y5)=>(aZ (aA ⟨aFG rfl,?_⟩))))
    exact gL (by kernel_rfl) (aA ⟨Z,p2,a0,a2,c9,0,c,rfl,rfl,rfl,(aI.arr 3 [1,2,0] y6 rfl)⟩)
   ·refine bW (vs:=a) zeroValue27 l4 rfl (fun l6 a69 p4=>(aZ (aA ⟨fun _=>⟨_,p4⟩,?_⟩)))
    refine cB (i:=14) (by kernel_rfl) rfl (bR (Kt:=K) (xs:=([]:List Edge)) (cs:=[]) (vs:=[]) cM gZ rfl rfl p4 rfl (by kernel_rfl) rfl rfl rfl trivial (fun d0 y7 (l7:aI G K (aK 69 K d0 0 ([]:List Edge)::box l6 27 a::aK 9 K a0 a2 Z::box b 27 a::L) y7)=>(aZ (aA ⟨fun _=>⟨_,l7⟩,?_⟩))))
    refine dZ (i:=15) rfl (by kernel_rfl) ⟨_,l7⟩ (fun _ _=>dL (vs:=[(0,i64 t.N),(1,i64 t.I),(2,zS a0 Z.length a2),(3,zS d0 ([]:List Edge).length 0)]) (cs:=[i64 t.N,i64 t.I,zS a0 Z.length a2,zS d0 ([]:List Edge).length 0]) rW rfl (by kernel_rfl)) (cB (i:=17) (by kernel_rfl) rfl (bY (i:=1) (ns:=[i64 t.N,i64 t.I,zS a0 Z.length a2,zS d0 ([]:List Edge).length 0]) (us:=[i64 t.N,i64 t.I,zS a0 Z.length a2,zS d0 ([]:List Edge).length 0]) sizeOf27 l7 rfl rfl rfl rfl rfl (dE rfl) rfl rfl (fun y8 (y9:aI G K (aK 69 K d0 0 ([]:List Edge)::box l6 27 [i64 t.N,i64 t.I,zS a0 Z.length a2,zS d0 ([]:List Edge).length 0]::aK 9 K a0 a2 Z::box b 27 a::L) y8)=>(aZ (aA ⟨aFG rfl,?_⟩)))))
    exact gL (by kernel_rfl) (aA ⟨Z,l6,a0,a2,d0,0,c,rfl,rfl,rfl,(aI.arr 3 [0,2,1] y9 rfl)⟩)
  ·refine bR (Kt:=K) (xs:=([]:List Edge)) (cs:=[]) (vs:=[]) cM gZ rfl rfl j6 rfl (by kernel_rfl) rfl rfl rfl trivial (fun a3 z0 (l8:aI G K (aK 69 K a3 0 ([]:List Edge)::aK 9 K l3 0 ([]:List aU)::box b 27 a::L) z0)=>(aZ (aA ⟨fun _=>⟨_,l8⟩,?_⟩)))
   refine nE (i:=13) (j:=16) (by kernel_rfl) rfl rfl ?_ ?_
   ·obtain ⟨d1,z1,c⟩:=aB c
    refine lW (i:=1) bX underlying24 gJ rfl rfl l8 rfl (zR _) h6 z1 rfl rfl rfl rfl (fun d2 d3 z2 (l9:aI G K (aK 69 K a3 0 ([]:List Edge)::aK 9 K d2 d3 d1::box b 27 a::L) z2)=>(aZ (aA ⟨fun _=>⟨_,l9⟩,?_⟩)))
    refine dZ (i:=15) rfl (by kernel_rfl) ⟨_,l9⟩ (fun _ _=>dL (vs:=[(0,i64 t.N),(1,i64 t.I),(2,zS d2 d1.length d3),(3,zS a3 ([]:List Edge).length 0)]) (cs:=[i64 t.N,i64 t.I,zS d2 d1.length d3,zS a3 ([]:List Edge).length 0]) rW rfl (by kernel_rfl)) (cB (i:=16) (by kernel_rfl) rfl (bW (vs:=a) zeroValue27 l9 rfl (fun p5 a70 p6=>(aZ (aA ⟨fun _=>⟨_,p6⟩,?_⟩)))))
    refine cB (i:=17) (by kernel_rfl) rfl (bY (i:=0) (ns:=[i64 t.N,i64 t.I,zS d2 d1.length d3,zS a3 ([]:List Edge).length 0]) (us:=[i64 t.N,i64 t.I,zS d2 d1.length d3,zS a3 ([]:List Edge).length 0]) sizeOf27 p6 rfl rfl rfl rfl rfl (dE rfl) rfl rfl (fun z3 (z4:aI G K (box p5 27 [i64 t.N,i64 t.I,zS d2 d1.length d3,zS a3 ([]:List Edge).length 0]::aK 69 K a3 0 ([]:List Edge)::aK 9 K d2 d3 d1::box b 27 a::L) z3)=>(aZ (aA ⟨aFG rfl,?_⟩))))
    exact gL (by kernel_rfl) (aA ⟨d1,p5,d2,d3,a3,0,c,rfl,rfl,rfl,(aI.arr 3 [1,2,0] z4 rfl)⟩)
   ·refine bW (vs:=a) zeroValue27 l8 rfl (fun m0 a71 p7=>(aZ (aA ⟨fun _=>⟨_,p7⟩,?_⟩)))
    refine cB (i:=13) (by kernel_rfl) rfl ?_
    obtain ⟨d4,z5,c⟩:=aB c
    refine lW (i:=2) bX underlying24 gJ rfl rfl p7 rfl (zR _) h6 z5 rfl rfl rfl rfl (fun d5 d6 z6 (m1:aI G K (box m0 27 a::aK 69 K a3 0 ([]:List Edge)::aK 9 K d5 d6 d4::box b 27 a::L) z6)=>(aZ (aA ⟨fun _=>⟨_,m1⟩,?_⟩)))
    refine dZ (i:=15) rfl (by kernel_rfl) ⟨_,m1⟩ (fun _ _=>dL (vs:=[(0,i64 t.N),(1,i64 t.I),(2,zS d5 d4.length d6),(3,zS a3 ([]:List Edge).length 0)]) (cs:=[i64 t.N,i64 t.I,zS d5 d4.length d6,zS a3 ([]:List Edge).length 0]) rW rfl (by kernel_rfl)) (cB (i:=17) (by kernel_rfl) rfl (bY (i:=0) (ns:=[i64 t.N,i64 t.I,zS d5 d4.length d6,zS a3 ([]:List Edge).length 0]) (us:=[i64 t.N,i64 t.I,zS d5 d4.length d6,zS a3 ([]:List Edge).length 0]) sizeOf27 m1 rfl rfl rfl rfl rfl (dE rfl) rfl rfl (fun z7 (z8:aI G K (box m0 27 [i64 t.N,i64 t.I,zS d5 d4.length d6,zS a3 ([]:List Edge).length 0]::aK 69 K a3 0 ([]:List Edge)::aK 9 K d5 d6 d4::box b 27 a::L) z7)=>(aZ (aA ⟨aFG rfl,?_⟩)))))
    exact gL (by kernel_rfl) (aA ⟨d4,m0,d5,d6,a3,0,c,rfl,rfl,rfl,(aI.arr 3 [1,2,0] z8 rfl)⟩)
  ·refine bW (vs:=a) zeroValue27 j6 rfl (fun d7 a72 m2=>(aZ (aA ⟨fun _=>⟨_,m2⟩,?_⟩)))
   refine nE (i:=13) (j:=14) (by kernel_rfl) rfl rfl ?_ ?_
   ·obtain ⟨b5,z9,c⟩:=aB c
    refine lW (i:=1) bX underlying24 gJ rfl rfl m2 rfl (zR _) h6 z9 rfl rfl rfl rfl (fun b6 b7 a00 (p8:aI G K (box d7 27 a::aK 9 K b6 b7 b5::box b 27 a::L) a00)=>(aZ (aA ⟨fun _=>⟨_,p8⟩,?_⟩)))
    refine cB (i:=14) (by kernel_rfl) rfl (bR (Kt:=K) (xs:=([]:List Edge)) (cs:=[]) (vs:=[]) cM gZ rfl rfl p8 rfl (by kernel_rfl) rfl rfl rfl trivial (fun d8 a01 (m3:aI G K (aK 69 K d8 0 ([]:List Edge)::box d7 27 a::aK 9 K b6 b7 b5::box b 27 a::L) a01)=>(aZ (aA ⟨fun _=>⟨_,m3⟩,?_⟩))))
    refine dZ (i:=15) rfl (by kernel_rfl) ⟨_,m3⟩ (fun _ _=>dL (vs:=[(0,i64 t.N),(1,i64 t.I),(2,zS b6 b5.length b7),(3,zS d8 ([]:List Edge).length 0)]) (cs:=[i64 t.N,i64 t.I,zS b6 b5.length b7,zS d8 ([]:List Edge).length 0]) rW rfl (by kernel_rfl)) (cB (i:=17) (by kernel_rfl) rfl (bY (i:=1) (ns:=[i64 t.N,i64 t.I,zS b6 b5.length b7,zS d8 ([]:List Edge).length 0]) (us:=[i64 t.N,i64 t.I,zS b6 b5.length b7,zS d8 ([]:List Edge).length 0]) sizeOf27 m3 rfl rfl rfl rfl rfl (dE rfl) rfl rfl (fun a02 (a03:aI G K (aK 69 K d8 0 ([]:List Edge)::box d7 27 [i64 t.N,i64 t.I,zS b6 b5.length b7,zS d8 ([]:List Edge).length 0]::aK 9 K b6 b7 b5::box b 27 a::L) a02)=>(aZ (aA ⟨aFG rfl,?_⟩)))))
    exact gL (by kernel_rfl) (aA ⟨b5,d7,b6,b7,d8,0,c,rfl,rfl,rfl,(aI.arr 3 [0,2,1] a03 rfl)⟩)
   ·refine bR (Kt:=K) (xs:=([]:List Edge)) (cs:=[]) (vs:=[]) cM gZ rfl rfl m2 rfl (by kernel_rfl) rfl rfl rfl trivial (fun b8 a04 (p9:aI G K (aK 69 K b8 0 ([]:List Edge)::box d7 27 a::aK 9 K l3 0 ([]:List aU)::box b 27 a::L) a04)=>(aZ (aA ⟨fun _=>⟨_,p9⟩,?_⟩)))
    refine cB (i:=13) (by kernel_rfl) rfl ?_
    obtain ⟨d9,a05,c⟩:=aB c
    refine lW (i:=2) bX underlying24 gJ rfl rfl p9 rfl (zR _) h6 a05 rfl rfl rfl rfl (fun e0 e1 a06 (m4:aI G K (aK 69 K b8 0 ([]:List Edge)::box d7 27 a::aK 9 K e0 e1 d9::box b 27 a::L) a06)=>(aZ (aA ⟨fun _=>⟨_,m4⟩,?_⟩)))
    refine dZ (i:=15) rfl (by kernel_rfl) ⟨_,m4⟩ (fun _ _=>dL (vs:=[(0,i64 t.N),(1,i64 t.I),(2,zS e0 d9.length e1),(3,zS b8 ([]:List Edge).length 0)]) (cs:=[i64 t.N,i64 t.I,zS e0 d9.length e1,zS b8 ([]:List Edge).length 0]) rW rfl (by kernel_rfl)) (cB (i:=17) (by kernel_rfl) rfl (bY (i:=1) (ns:=[i64 t.N,i64 t.I,zS e0 d9.length e1,zS b8 ([]:List Edge).length 0]) (us:=[i64 t.N,i64 t.I,zS e0 d9.length e1,zS b8 ([]:List Edge).length 0]) sizeOf27 m4 rfl rfl rfl rfl rfl (dE rfl) rfl rfl (fun a07 (a08:aI G K (aK 69 K b8 0 ([]:List Edge)::box d7 27 [i64 t.N,i64 t.I,zS e0 d9.length e1,zS b8 ([]:List Edge).length 0]::aK 9 K e0 e1 d9::box b 27 a::L) a07)=>(aZ (aA ⟨aFG rfl,?_⟩)))))
    exact gL (by kernel_rfl) (aA ⟨d9,d7,e0,e1,b8,0,c,rfl,rfl,rfl,(aI.arr 3 [0,2,1] a08 rfl)⟩)
 ·refine bR (Kt:=K) (xs:=([]:List Edge)) (cs:=[]) (vs:=[]) cM gZ rfl rfl u rfl (by kernel_rfl) rfl rfl rfl trivial (fun l a09 (m5:aI G K (aK 69 K l 0 ([]:List Edge)::box b 27 a::L) a09)=>(aZ (aA ⟨fun _=>⟨_,m5⟩,?_⟩)))
  refine nE (i:=8) (j:=16) (by kernel_rfl) rfl rfl ?_ ?_
  ·refine bR (Kt:=K) (xs:=([]:List aU)) (cs:=[]) (vs:=[]) bX gJ rfl rfl m5 rfl (by kernel_rfl) rfl rfl rfl trivial (fun a10 a11 (m6:aI G K (aK 9 K a10 0 ([]:List aU)::aK 69 K l 0 ([]:List Edge)::box b 27 a::L) a11)=>(aZ (aA ⟨fun _=>⟨_,m6⟩,?_⟩)))
   refine nE (i:=13) (j:=16) (by kernel_rfl) rfl rfl ?_ ?_
   ·obtain ⟨e2,a12,c⟩:=aB c
    refine lW (i:=0) bX underlying24 gJ rfl rfl m6 rfl (zR _) h6 a12 rfl rfl rfl rfl (fun e3 e4 a13 (m7:aI G K (aK 9 K e3 e4 e2::aK 69 K l 0 ([]:List Edge)::box b 27 a::L) a13)=>(aZ (aA ⟨fun _=>⟨_,m7⟩,?_⟩)))
    refine dZ (i:=15) rfl (by kernel_rfl) ⟨_,m7⟩ (fun _ _=>dL (vs:=[(0,i64 t.N),(1,i64 t.I),(2,zS e3 e2.length e4),(3,zS l ([]:List Edge).length 0)]) (cs:=[i64 t.N,i64 t.I,zS e3 e2.length e4,zS l ([]:List Edge).length 0]) rW rfl (by kernel_rfl)) (cB (i:=16) (by kernel_rfl) rfl (bW (vs:=a) zeroValue27 m7 rfl (fun q0 a73 q1=>(aZ (aA ⟨fun _=>⟨_,q1⟩,?_⟩)))))
    refine cB (i:=17) (by kernel_rfl) rfl (bY (i:=0) (ns:=[i64 t.N,i64 t.I,zS e3 e2.length e4,zS l ([]:List Edge).length 0]) (us:=[i64 t.N,i64 t.I,zS e3 e2.length e4,zS l ([]:List Edge).length 0]) sizeOf27 q1 rfl rfl rfl rfl rfl (dE rfl) rfl rfl (fun a14 (a16:aI G K (box q0 27 [i64 t.N,i64 t.I,zS e3 e2.length e4,zS l ([]:List Edge).length 0]::aK 9 K e3 e4 e2::aK 69 K l 0 ([]:List Edge)::box b 27 a::L) a14)=>(aZ (aA ⟨aFG rfl,?_⟩))))
    exact gL (by kernel_rfl) (aA ⟨e2,q0,e3,e4,l,0,c,rfl,rfl,rfl,(aI.arr 3 [2,1,0] a16 rfl)⟩)
   ·refine bW (vs:=a) zeroValue27 m6 rfl (fun m8 a74 q2=>(aZ (aA ⟨fun _=>⟨_,q2⟩,?_⟩)))
    refine cB (i:=13) (by kernel_rfl) rfl ?_
    obtain ⟨e5,a18,c⟩:=aB c
    refine lW (i:=1) bX underlying24 gJ rfl rfl q2 rfl (zR _) h6 a18 rfl rfl rfl rfl (fun e6 e7 a19 (m9:aI G K (box m8 27 a::aK 9 K e6 e7 e5::aK 69 K l 0 ([]:List Edge)::box b 27 a::L) a19)=>(aZ (aA ⟨fun _=>⟨_,m9⟩,?_⟩)))
    refine dZ (i:=15) rfl (by kernel_rfl) ⟨_,m9⟩ (fun _ _=>dL (vs:=[(0,i64 t.N),(1,i64 t.I),(2,zS e6 e5.length e7),(3,zS l ([]:List Edge).length 0)]) (cs:=[i64 t.N,i64 t.I,zS e6 e5.length e7,zS l ([]:List Edge).length 0]) rW rfl (by kernel_rfl)) (cB (i:=17) (by kernel_rfl) rfl (bY (i:=0) (ns:=[i64 t.N,i64 t.I,zS e6 e5.length e7,zS l ([]:List Edge).length 0]) (us:=[i64 t.N,i64 t.I,zS e6 e5.length e7,zS l ([]:List Edge).length 0]) sizeOf27 m9 rfl rfl rfl rfl rfl (dE rfl) rfl rfl (fun a20 (a21:aI G K (box m8 27 [i64 t.N,i64 t.I,zS e6 e5.length e7,zS l ([]:List Edge).length 0]::aK 9 K e6 e7 e5::aK 69 K l 0 ([]:List Edge)::box b 27 a::L) a20)=>(aZ (aA ⟨aFG rfl,?_⟩)))))
    exact gL (by kernel_rfl) (aA ⟨e5,m8,e6,e7,l,0,c,rfl,rfl,rfl,(aI.arr 3 [2,1,0] a21 rfl)⟩)
  ·refine bW (vs:=a) zeroValue27 m5 rfl (fun j7 a75 q3=>(aZ (aA ⟨fun _=>⟨_,q3⟩,?_⟩)))
   refine cB (i:=8) (by kernel_rfl) rfl (bR (Kt:=K) (xs:=([]:List aU)) (cs:=[]) (vs:=[]) bX gJ rfl rfl q3 rfl (by kernel_rfl) rfl rfl rfl trivial (fun a22 a23 (q4:aI G K (aK 9 K a22 0 ([]:List aU)::box j7 27 a::aK 69 K l 0 ([]:List Edge)::box b 27 a::L) a23)=>(aZ (aA ⟨fun _=>⟨_,q4⟩,?_⟩))))
   refine cB (i:=13) (by kernel_rfl) rfl ?_
   obtain ⟨e8,a24,c⟩:=aB c
   refine lW (i:=0) bX underlying24 gJ rfl rfl q4 rfl (zR _) h6 a24 rfl rfl rfl rfl (fun e9 f0 a25 (n0:aI G K (aK 9 K e9 f0 e8::box j7 27 a::aK 69 K l 0 ([]:List Edge)::box b 27 a::L) a25)=>(aZ (aA ⟨fun _=>⟨_,n0⟩,?_⟩)))
   refine dZ (i:=15) rfl (by kernel_rfl) ⟨_,n0⟩ (fun _ _=>dL (vs:=[(0,i64 t.N),(1,i64 t.I),(2,zS e9 e8.length f0),(3,zS l ([]:List Edge).length 0)]) (cs:=[i64 t.N,i64 t.I,zS e9 e8.length f0,zS l ([]:List Edge).length 0]) rW rfl (by kernel_rfl)) (cB (i:=17) (by kernel_rfl) rfl (bY (i:=1) (ns:=[i64 t.N,i64 t.I,zS e9 e8.length f0,zS l ([]:List Edge).length 0]) (us:=[i64 t.N,i64 t.I,zS e9 e8.length f0,zS l ([]:List Edge).length 0]) sizeOf27 n0 rfl rfl rfl rfl rfl (dE rfl) rfl rfl (fun a27 (a28:aI G K (aK 9 K e9 f0 e8::box j7 27 [i64 t.N,i64 t.I,zS e9 e8.length f0,zS l ([]:List Edge).length 0]::aK 69 K l 0 ([]:List Edge)::box b 27 a::L) a27)=>(aZ (aA ⟨aFG rfl,?_⟩)))))
   exact gL (by kernel_rfl) (aA ⟨e8,j7,e9,f0,l,0,c,rfl,rfl,rfl,(aI.arr 3 [2,0,1] a28 rfl)⟩)
 ·refine bW (vs:=a) zeroValue27 u rfl (fun a5 a76 n1=>(aZ (aA ⟨fun _=>⟨_,n1⟩,?_⟩)))
  refine nE (i:=8) (j:=14) (by kernel_rfl) rfl rfl ?_ ?_
  ·refine bR (Kt:=K) (xs:=([]:List aU)) (cs:=[]) (vs:=[]) bX gJ rfl rfl n1 rfl (by kernel_rfl) rfl rfl rfl trivial (fun q5 a29 (n2:aI G K (aK 9 K q5 0 ([]:List aU)::box a5 27 a::box b 27 a::L) a29)=>(aZ (aA ⟨fun _=>⟨_,n2⟩,?_⟩)))
   refine nE (i:=13) (j:=14) (by kernel_rfl) rfl rfl ?_ ?_
   ·obtain ⟨b9,a30,c⟩:=aB c
    refine lW (i:=0) bX underlying24 gJ rfl rfl n2 rfl (zR _) h6 a30 rfl rfl rfl rfl (fun c0 c1 a32 (q6:aI G K (aK 9 K c0 c1 b9::box a5 27 a::box b 27 a::L) a32)=>(aZ (aA ⟨fun _=>⟨_,q6⟩,?_⟩)))
    refine cB (i:=14) (by kernel_rfl) rfl (bR (Kt:=K) (xs:=([]:List Edge)) (cs:=[]) (vs:=[]) cM gZ rfl rfl q6 rfl (by kernel_rfl) rfl rfl rfl trivial (fun f1 a33 (n3:aI G K (aK 69 K f1 0 ([]:List Edge)::aK 9 K c0 c1 b9::box a5 27 a::box b 27 a::L) a33)=>(aZ (aA ⟨fun _=>⟨_,n3⟩,?_⟩))))
    refine dZ (i:=15) rfl (by kernel_rfl) ⟨_,n3⟩ (fun _ _=>dL (vs:=[(0,i64 t.N),(1,i64 t.I),(2,zS c0 b9.length c1),(3,zS f1 ([]:List Edge).length 0)]) (cs:=[i64 t.N,i64 t.I,zS c0 b9.length c1,zS f1 ([]:List Edge).length 0]) rW rfl (by kernel_rfl)) (cB (i:=17) (by kernel_rfl) rfl (bY (i:=2) (ns:=[i64 t.N,i64 t.I,zS c0 b9.length c1,zS f1 ([]:List Edge).length 0]) (us:=[i64 t.N,i64 t.I,zS c0 b9.length c1,zS f1 ([]:List Edge).length 0]) sizeOf27 n3 rfl rfl rfl rfl rfl (dE rfl) rfl rfl (fun a34 (a35:aI G K (aK 69 K f1 0 ([]:List Edge)::aK 9 K c0 c1 b9::box a5 27 [i64 t.N,i64 t.I,zS c0 b9.length c1,zS f1 ([]:List Edge).length 0]::box b 27 a::L) a34)=>(aZ (aA ⟨aFG rfl,?_⟩)))))
    exact gL (by kernel_rfl) (aA ⟨b9,a5,c0,c1,f1,0,c,rfl,rfl,rfl,a35⟩)
   ·refine bR (Kt:=K) (xs:=([]:List Edge)) (cs:=[]) (vs:=[]) cM gZ rfl rfl n2 rfl (by kernel_rfl) rfl rfl rfl trivial (fun c2 a36 (q7:aI G K (aK 69 K c2 0 ([]:List Edge)::aK 9 K q5 0 ([]:List aU)::box a5 27 a::box b 27 a::L) a36)=>(aZ (aA ⟨fun _=>⟨_,q7⟩,?_⟩)))
    refine cB (i:=13) (by kernel_rfl) rfl ?_
    obtain ⟨f2,a37,c⟩:=aB c
    refine lW (i:=1) bX underlying24 gJ rfl rfl q7 rfl (zR _) h6 a37 rfl rfl rfl rfl (fun f3 f4 a38 (n4:aI G K (aK 69 K c2 0 ([]:List Edge)::aK 9 K f3 f4 f2::box a5 27 a::box b 27 a::L) a38)=>(aZ (aA ⟨fun _=>⟨_,n4⟩,?_⟩)))
    refine dZ (i:=15) rfl (by kernel_rfl) ⟨_,n4⟩ (fun _ _=>dL (vs:=[(0,i64 t.N),(1,i64 t.I),(2,zS f3 f2.length f4),(3,zS c2 ([]:List Edge).length 0)]) (cs:=[i64 t.N,i64 t.I,zS f3 f2.length f4,zS c2 ([]:List Edge).length 0]) rW rfl (by kernel_rfl)) (cB (i:=17) (by kernel_rfl) rfl (bY (i:=2) (ns:=[i64 t.N,i64 t.I,zS f3 f2.length f4,zS c2 ([]:List Edge).length 0]) (us:=[i64 t.N,i64 t.I,zS f3 f2.length f4,zS c2 ([]:List Edge).length 0]) sizeOf27 n4 rfl rfl rfl rfl rfl (dE rfl) rfl rfl (fun a39 (a40:aI G K (aK 69 K c2 0 ([]:List Edge)::aK 9 K f3 f4 f2::box a5 27 [i64 t.N,i64 t.I,zS f3 f2.length f4,zS c2 ([]:List Edge).length 0]::box b 27 a::L) a39)=>(aZ (aA ⟨aFG rfl,?_⟩)))))
    exact gL (by kernel_rfl) (aA ⟨f2,a5,f3,f4,c2,0,c,rfl,rfl,rfl,a40⟩)
  ·refine bR (Kt:=K) (xs:=([]:List Edge)) (cs:=[]) (vs:=[]) cM gZ rfl rfl n1 rfl (by kernel_rfl) rfl rfl rfl trivial (fun b3 a41 (q8:aI G K (aK 69 K b3 0 ([]:List Edge)::box a5 27 a::box b 27 a::L) a41)=>(aZ (aA ⟨fun _=>⟨_,q8⟩,?_⟩)))
   refine cB (i:=8) (by kernel_rfl) rfl (bR (Kt:=K) (xs:=([]:List aU)) (cs:=[]) (vs:=[]) bX gJ rfl rfl q8 rfl (by kernel_rfl) rfl rfl rfl trivial (fun a42 a43 (q9:aI G K (aK 9 K a42 0 ([]:List aU)::aK 69 K b3 0 ([]:List Edge)::box a5 27 a::box b 27 a::L) a43)=>(aZ (aA ⟨fun _=>⟨_,q9⟩,?_⟩))))
   refine cB (i:=13) (by kernel_rfl) rfl ?_
   obtain ⟨f5,a44,c⟩:=aB c
   refine lW (i:=0) bX underlying24 gJ rfl rfl q9 rfl (zR _) h6 a44 rfl rfl rfl rfl (fun f6 f7 a45 (n5:aI G K (aK 9 K f6 f7 f5::aK 69 K b3 0 ([]:List Edge)::box a5 27 a::box b 27 a::L) a45)=>(aZ (aA ⟨fun _=>⟨_,n5⟩,?_⟩)))
   refine dZ (i:=15) rfl (by kernel_rfl) ⟨_,n5⟩ (fun _ _=>dL (vs:=[(0,i64 t.N),(1,i64 t.I),(2,zS f6 f5.length f7),(3,zS b3 ([]:List Edge).length 0)]) (cs:=[i64 t.N,i64 t.I,zS f6 f5.length f7,zS b3 ([]:List Edge).length 0]) rW rfl (by kernel_rfl)) (cB (i:=17) (by kernel_rfl) rfl (bY (i:=2) (ns:=[i64 t.N,i64 t.I,zS f6 f5.length f7,zS b3 ([]:List Edge).length 0]) (us:=[i64 t.N,i64 t.I,zS f6 f5.length f7,zS b3 ([]:List Edge).length 0]) sizeOf27 n5 rfl rfl rfl rfl rfl (dE rfl) rfl rfl (fun a46 (a47:aI G K (aK 9 K f6 f7 f5::aK 69 K b3 0 ([]:List Edge)::box a5 27 [i64 t.N,i64 t.I,zS f6 f5.length f7,zS b3 ([]:List Edge).length 0]::box b 27 a::L) a46)=>(aZ (aA ⟨aFG rfl,?_⟩)))))
   exact gL (by kernel_rfl) (aA ⟨f5,a5,f6,f7,b3,0,c,rfl,rfl,rfl,(aI.arr 2 [1,0] a47 rfl)⟩)
theorem aII {t:cG} {c:Nat} {R:(List Int)} (p:aI G K (L) w) (q:kK K a1 c (zC t a4 c5 a7 c8)) (r:cX K a4 c5 t.L) (u:cX K a7 c8 t.E) (b:aFg t=some R):
  Calls Tryz.prog 51 ([cU a1 c]:List Value).toArray w (gK fun v w'=>∃ (j:Option Addr) (k:Nat),v=zS j R.length k∧aI G K (aK 2 K j k R::L) w'):=by
 refine aW func51 rfl (by kernel_rfl) (by show (1:Nat)≤7;decide) ?_
 unfold aFg at b
 refine aL (aF (v:=zS none 0 0) (aG (aL (aO (v:=cU a1 c) ?_))))
 obtain ⟨a,x,b⟩:=aB b
 refine aS (vs:=[cU a1 c]) call89 rfl (aFM p q r u x) ?_
 rintro _ c0 ⟨d,e,g,h,rfl,y⟩
 refine bW (vs:=zG) zeroValue27 y rfl (fun l c1 z=>(bY (i:=0) (ns:=(zC a d e g h)) (us:=(zC a d e g h)) sizeOf27 z rfl rfl rfl rfl rfl (dE rfl) rfl rfl (fun J (V:aI G K (box l 27 (zC a d e g h)::aK 9 K d e a.L::aK 69 K g h a.E::L) J)=>(aG (aL ?_)))))
 obtain ⟨c2,Z,a0,a2,a3⟩:=aI.lendS (i:=1) V (zR _) rfl
 obtain ⟨c3,a5,a6,a8,a9⟩:=aI.lendS (i:=1) a2 Z rfl
 obtain ⟨c4,m,b0,b1,b2⟩:=aI.lendB (i:=0) a8 rfl
 obtain ⟨b3,b4,b⟩:=aB b
 refine aS (vs:=[cU (some ⟨l,0,none⟩) 0]) call48 rfl (aEN b1 b0 (a0.mono (zL a5 m)) (a6.mono m) b4) ?_
 rintro _ c6 ⟨n,o,rfl,b5⟩
 have b6:=b2 _ _ b5
 have b7:=a9 _ _ b6
 have b8:=a3 _ _ b7
 refine aF (v:=zS n b3.length o) (aG ?_)
 obtain rfl:=zI b
 exact bM (bP results51 rfl ⟨n,o,rfl,(aI.arr 3 [] b8 rfl)⟩)
theorem aHI {t:cG} {d:Nat} {R:cG} (hs:aI G K (L) w) (J:kK K a1 d (zC t a4 c5 a7 c8)) (V:cX K a4 c5 t.L) (Z:cX K a7 c8 t.E) (c:aAd t=some R):
  Calls Tryz.prog 22 ([cU a1 d]:List Value).toArray w (gK fun v w'=>∃ (a0:Option Addr) (a2:Nat) (a3:Option Addr) (a5:Nat),v=zA (zCa R a0 a2 a3 a5)∧aI G K (aK 9 K a0 a2 R.L::aK 69 K a3 a5 R.E::L) w'):=by
 let p:=zG
 refine aW func22 rfl (by kernel_rfl) (by show (1:Nat)≤10;decide) ?_
 unfold aAd at c
 refine aL (bW (vs:=p) zeroValue27 hs rfl (fun a6 g6 b6=>(aG (aL (aO (v:=cU a1 d) (aO (v:=cU a1 d) ?_))))))
 obtain ⟨q,b7,c⟩:=aB c
 refine aS (vs:=[cU a1 d]) call46 rfl (aBs b6 J V Z b7) ?_
 rintro _ g7 ⟨r,u,rfl,b8⟩
 obtain ⟨g8,x,b9,c0,c1⟩:=aI.lendS (i:=0) b8 (zR _) rfl
 obtain ⟨a,c2,c⟩:=aB c
 refine aS (vs:=[cU a1 d,zS r q.length u]) call45 rfl (aCA c0 (J.mono x) (V.mono x) (Z.mono x) b9 c2) ?_
 rintro _ g9 ⟨e,g,h,j,rfl,c3⟩
 have c4:=c1 _ _ c3
 refine bW (vs:=p) zeroValue27 c4 rfl (fun o h0 c6=>(bY (i:=0) (ns:=(zC a e g h j)) (us:=(zC a e g h j)) sizeOf27 c6 rfl rfl rfl rfl rfl (dE rfl) rfl rfl (fun c7 (c9:aI G K (box o 27 (zC a e g h j)::aK 2 K r u q::aK 9 K e g a.L::aK 69 K h j a.E::box a6 27 p::L) c7)=>(aG (aL ?_)))))
 obtain ⟨h1,d0,d1,d2,d3⟩:=aI.lendS (i:=2) c9 (zR _) rfl
 obtain ⟨h2,d4,d5,d6,d7⟩:=aI.lendS (i:=2) d2 d0 rfl
 obtain ⟨h4,a8,d8,d9,e0⟩:=aI.lendB (i:=0) d6 rfl
 obtain ⟨a9,e1,c⟩:=aB c
 refine aS (vs:=[cU (some ⟨o,0,none⟩) 0]) call51 rfl (aII d9 d8 (d1.mono (zL d4 a8)) (d5.mono a8) e1) ?_
 rintro _ h5 ⟨b0,b1,rfl,e2⟩
 have e3:=e0 _ _ e2
 have e4:=d7 _ _ e3
 have e5:=d3 _ _ e4
 obtain ⟨h7,b2,e6,e7,e8⟩:=aI.lendS (i:=0) e5 (zR _) rfl
 obtain ⟨h8,b3,e9,f0,f1⟩:=aI.lendS (i:=0) e7 b2 rfl
 obtain ⟨i0,y,f2,f3,f4⟩:=aI.lendB (i:=0) f0 rfl
 obtain ⟨i1,z,f5,f6,f7⟩:=aI.lendS (i:=0) f3 (zL (zL b2 b3) y) rfl
 obtain ⟨b,f8,c⟩:=aB c
 refine aS (vs:=[cU (some ⟨o,0,none⟩) 0,zS b0 a9.length b1,zB false]) call49 rfl (aCB f6 (f2.mono z) (e6.mono (zL (zL b3 y) z)) (e9.mono (zL y z)) f5 f8) ?_
 rintro _ i2 ⟨k,l,m,n,rfl,f9⟩
 have g0:=f7 _ _ f9
 have g1:=f4 _ _ g0
 have g2:=f1 _ _ g1
 have g3:=e8 _ _ g2
 refine bY (i:=7) (ns:=(zC b k l m n)) (us:=(zC b k l m n)) sizeOf27 g3 rfl rfl rfl rfl rfl (dE rfl) rfl rfl (fun g4 (b4:aI G K (aK 9 K e g a.L::aK 69 K h j a.E::box o 27 (zC a e g h j)::aK 2 K b0 b1 a9::aK 9 K k l b.L::aK 69 K m n b.E::aK 2 K r u q::box a6 27 (zC b k l m n)::L) g4)=>(aG ?_))
 obtain rfl:=zI c
 exact bM (vY results22 (fV (vs:=(zC b k l m n)) rfl dJ b4 (i:=7) rfl rfl rfl) ⟨k,l,m,n,rfl,(aI.arr 8 [4,5] b4 rfl)⟩)
theorem aHJ {t:cG} {m:Nat} {g:(List Int)} {R:(List Bool)} (z:aI G K (L) w) (p:kK K a1 m (zC t a4 c5 a7 c8)) (h6:cX K a4 c5 t.L) (h9:cX K a7 c8 t.E) (J:cX K a10 c11 g) (c:aCp t g=some R):
  Calls Tryz.prog 90 ([cU a1 m,zS a10 g.length c11]:List Value).toArray w (gK fun v w'=>∃ (V:Option Addr) (Z:Nat),v=zS V R.length Z∧aI G K (aK 4 K V Z R::L) w'):=by
 refine aW func90 rfl (by kernel_rfl) (by show (2:Nat)≤25;decide) ?_
 unfold aCp at c
 refine aL (aF (v:=zS none 0 0) (aG (aL (aO (v:=cU a1 m) (aD (cJ rfl p) (aD (bO (k':=m+0) gS rfl p rfl) (aD (bH (t:=0) cK z p rfl rfl) ?_)))))))
 obtain ⟨b,a5,c⟩:=aB c
 refine aFu (e:=(false:Bool)) fO ez_4 rfl rfl z rfl rfl rfl a5 rfl (fun d a6 (a8:aI G K (aK 4 K d b.length b::L) a6)=>(aF (v:=zS d b.length b.length) (aG (aQ (aL (aF (v:=i64 0) (aG (bB (fun f w=>∃ (k:List Bool),aAz k=some R∧f 5=zS d k.length b.length∧aI G K (aK 4 K d b.length k::L) w) ?_ ?_))))))))
 ·rintro f c3 ⟨k,c,a9,b0⟩
  unfold aAz at c
  refine aA (aL (aN a9 (aF (v:=zS d k.length b.length) (aG ?_))))
  obtain rfl:=zI c
  exact bM (bP results90 rfl ⟨d,b.length,rfl,b0⟩)
 obtain ⟨c4,b2,c⟩:=aB c
 refine cE b2 (fun (s:(List Bool × Int)) f w=>match s with|(j,l)=>f 1=zS a10 g.length c11∧f 5=zS d j.length b.length∧f 6=i64 l∧aI G K (aK 4 K d b.length j::L) w) ?_ ?_
 ·exact ⟨rfl,rfl,rfl,a8⟩
 ·rintro ⟨j,l⟩ b3 f c6 a b4 ⟨q,r,u,o⟩
  replace a:vM g j l=some b3:=a
  unfold vM at a
  refine aQ (aL (aN u (aN q (aD (bU (len:=g.length) cF rfl) (aD (cL rfl rfl) (aG ?_))))))
  rcases aH a with ⟨x,a⟩|⟨x,a⟩
  ·refine aM x rfl (bA (aA (aQ (cY (aP (aN r (aN q (aN u ?_))))))))
   obtain ⟨c7,a0,a⟩:=aB a
   refine aD (dI cF rfl J rfl rfl rfl a0) ?_
   obtain ⟨c9,b5,b6⟩:=cX.el (sz:=1) rfl J a0
   cases b6
   refine aD (bH (t:=0) cK o b5 rfl rfl) ?_
   obtain ⟨d0,y,a⟩:=aB a
   have b7:=dA o (i:=0) rfl y
   refine aD (dT fO rfl b7 rfl rfl rfl y) ?_
   obtain ⟨a2,a3,a⟩:=aB a
   exact nG (i:=0) (t:=0) (ns:=[zB true]) (e':=(true:Bool)) sizeOf4 o rfl (zR _) rfl rfl rfl y a3 rfl rfl (dE rfl) rfl (fun cs h=>by cases h;rfl) (fun b8 (b9:aI G K (aK 4 K d b.length a2::L) b8)=>(aZ (bC (aA (aP (aN u (aD (cP rfl rfl) (aF (v:=i64 (wr (l+1))) (aG ⟨(a2,wr (l+1)),(zI a).symm,q,(Eq.trans r (congrArg (fun n=>zS d n b.length) (lE a3))),rfl,b9⟩)))))))))
  ·refine aJ x rfl (cA (aT (aT ?_)))
   have c0:=b4 _ (zI a).symm
   subst c0
   have c:(aAz j)=some R:=c
   exact bJ (aA ⟨j,c,r,o⟩)
theorem aEm {t:cG} {l:Nat} {k R:(List Bool)} (hs:aI G K (aK 4 K a10 c11 k::L) w) (u:kK K a1 l (zC t a4 c5 a7 c8)) (h6:cX K a4 c5 t.L) (h9:cX K a7 c8 t.E) (m:wM t k=some R):
  Calls Tryz.prog 91 ([cU a1 l,zS a10 k.length c11]:List Value).toArray w (gK fun v w'=>v=Value.tuple #[]∧k.length=R.length∧aI G K (aK 4 K a10 c11 R::L) w'):=by
 refine aW func91 rfl (by kernel_rfl) (by show (2:Nat)≤46;decide) ?_
 unfold wM at m
 refine aL (aF (v:=zB true) (aG (bB (fun f w=>∃ (a2:List Bool),aAA a2=some R∧k.length=a2.length∧aI G K (aK 4 K a10 c11 a2::L) w) ?_ ?_)))
 ·rintro f i0 ⟨a2,m,d9,e0⟩
  unfold aAA at m
  obtain rfl:=zI m
  exact aKG results91 ⟨rfl,d9,e0⟩
 obtain ⟨i1,e2,m⟩:=aB m
 refine cE e2 (fun (s:(List Bool × Bool)) f w=>match s with|(r,b3)=>f 0=cU a1 l∧f 1=zS a10 r.length c11∧f 4=zB b3∧k.length=r.length∧aI G K (aK 4 K a10 c11 r::L) w) ?_ ?_
 ·exact ⟨rfl,rfl,rfl,rfl,hs⟩
 ·rintro ⟨r,b3⟩ a3 f i2 c e3 ⟨e4,e5,e6,c4,c6⟩
  replace c:oF t r b3=some a3:=c
  unfold oF at c
  refine aQ (aL (aN e6 (aG ?_)))
  rcases aH c with ⟨b4,c⟩|⟨b4,c⟩
  ·refine aM b4 rfl (bA (aA (bB (fun f w=>∃ (x:List Bool) (a5:Bool),aAB x a5=some a3∧f 0=cU a1 l∧f 1=zS a10 x.length c11∧f 4=zB a5∧k.length=x.length∧aI G K (aK 4 K a10 c11 x::L) w) ?_ ?_)))
   ·rintro f i3 ⟨x,a5,c,e7,e8,e9,f0,f1⟩
    unfold aAB at c
    exact aA ⟨(x,a5),(zI c).symm,e7,e8,e9,f0,f1⟩
   refine aL (aF (v:=zB false) (aG (aL (aF (v:=i64 0) (aG (bB (fun f w=>∃ (y:List Bool) (a6:Bool),vN y a6=some a3∧f 0=cU a1 l∧f 1=zS a10 y.length c11∧f 4=zB a6∧k.length=y.length∧aI G K (aK 4 K a10 c11 y::L) w) ?_ ?_))))))
   ·rintro f i4 ⟨y,a6,c,f2,f3,f4,f5,f6⟩
    unfold vN at c
    exact bC (aA ⟨y,a6,c,f2,f3,f4,f5,f6⟩)
   obtain ⟨i5,f7,c⟩:=aB c
   refine cE f7 (fun (s:(List Bool × Bool × Int)) f w=>match s with|(e,q,o)=>f 0=cU a1 l∧f 1=zS a10 e.length c11∧f 4=zB q∧f 5=i64 o∧k.length=e.length∧aI G K (aK 4 K a10 c11 e::L) w) ?_ ?_
   ·exact ⟨e4,e5,rfl,rfl,c4,c6⟩
   ·rintro ⟨e,q,o⟩ b5 f i6 a f8 ⟨z,J,a8,Z,a9,a0⟩
    replace a:rF t e q o=some b5:=a
    unfold rF at a
    refine aQ (aL (aN Z (aN z (aD (cJ rfl u) (aD (bO (k':=l+3) cV rfl u rfl) (aD (bH (t:=3) fH a0 u rfl rfl) (aD (bU (len:=t.E.length) cM rfl) (aD (cL rfl rfl) (aG ?_)))))))))
    rcases aH a with ⟨b6,a⟩|⟨b6,a⟩
    ·refine aM b6 rfl (bA (aA (aQ (bB (fun f w=>∃ (V:List Bool) (b0:Bool),vO o V b0=some b5∧f 0=cU a1 l∧f 1=zS a10 V.length c11∧f 4=zB b0∧f 5=i64 o∧k.length=V.length∧aI G K (aK 4 K a10 c11 V::L) w) ?_ ?_))))
     ·rintro f i7 ⟨V,b0,a,f9,g0,g1,g2,g3,g4⟩
      unfold vO at a
      exact aA (aP (aN g2 (aD (cP rfl rfl) (aF (v:=i64 (wr (o+1))) (aG ⟨(V,b0,wr (o+1)),(zI a).symm,f9,g0,g1,rfl,g3,g4⟩)))))
     refine aL (aN z (aD (cJ rfl u) (aD (bO (k':=l+3) cV rfl u rfl) (aD (bH (t:=3) fH a0 u rfl rfl) (aN Z ?_)))))
     obtain ⟨b,c7,a⟩:=aB a
     refine aD (dI cM rfl h9 rfl rfl rfl c7) ?_
     obtain ⟨i8,g5,g6⟩:=cX.el (sz:=3) rfl h9 c7
     cases g6
     refine aD (gT (t:=0) (vs:=[i64 b.F,i64 b.B,i64 b.To]) mQ a0 g5 rfl rfl rfl) (bW (vs:=[i64 0,i64 0,i64 0]) zeroValue69 a0 rfl (fun b1 i9 g7=>(bY (i:=0) (ns:=[i64 b.F,i64 b.B,i64 b.To]) (us:=[i64 b.F,i64 b.B,i64 b.To]) sizeOf69 g7 rfl rfl rfl rfl rfl (dE rfl) rfl rfl (fun g8 (p:aI G K (box b1 69 [i64 b.F,i64 b.B,i64 b.To]::aK 4 K a10 c11 e::L) g8)=>(aG (aQ (cN (fun f w=>∃ (b7:Bool),rE e q o b b7=some b5∧f 0=cU a1 l∧f 1=zS a10 e.length c11∧f 4=zB q∧f 5=i64 o∧f 6=zP (some ⟨b1,0,none⟩)∧f 41=zB b7∧k.length=e.length∧aI G K (box b1 69 [i64 b.F,i64 b.B,i64 b.To]::aK 4 K a10 c11 e::L) w) ?_ ?_)))))))
     ·rintro f j0 ⟨b7,a,c9,b8,g9,d0,h0,d1,d2,b2⟩
      unfold rE at a
      refine aA ?_
      rcases aH a with ⟨b9,a⟩|⟨b9,a⟩
      ·refine aM b9 d1 (aL (aN b8 (aD (bT (t':=2) gR h0 rfl) (aD (dS cK b2 (i:=0) rfl rfl rfl) ?_))))
       obtain ⟨j1,c0,a⟩:=aB a
       have h1:=dA b2 (i:=1) rfl c0
       refine aD (dT fO rfl h1 rfl rfl rfl c0) ?_
       obtain ⟨d3,c1,a⟩:=aB a
       exact nG (i:=1) (t:=0) (ns:=[zB true]) (e':=(true:Bool)) sizeOf4 b2 rfl (zR _) rfl rfl rfl c0 c1 rfl rfl (dE rfl) rfl (fun cs h=>by cases h;rfl) (fun h2 (h4:aI G K (box b1 69 [i64 b.F,i64 b.B,i64 b.To]::aK 4 K a10 c11 d3::L) h2)=>(aG (aP (aF (v:=zB true) (aZ (bC (aA ⟨d3,true,a,c9,(Eq.trans b8 (congrArg (fun n=>zS a10 n c11) (lE c1))),rfl,d0,(d2.trans (lE c1)),(aI.arr 1 [] h4 rfl)⟩)))))))
      ·exact aJ b9 d1 (bA (bC (aA ⟨e,q,a,c9,b8,g9,d0,d2,(aI.arr 1 [] b2 rfl)⟩)))
     refine aP (aD (bT (t':=1) iZ rfl rfl) (aD (dS cK p (i:=0) rfl rfl rfl) (aD (gE rfl rfl) (aO (v:=zB (b.B == 0)) ?_))))
     rcases aH a with ⟨j,a⟩|⟨j,a⟩
     ·refine bD j rfl rfl (aN J (bD j rfl rfl (aD (bT (t':=0) hQ rfl rfl) (bD j rfl rfl (aD (dS cK p (i:=0) rfl rfl rfl) (bD j rfl rfl ?_))))))
      obtain ⟨d4,c2,a⟩:=aB a
      have d5:=dA p (i:=1) rfl c2
      refine aD (dT fO rfl d5 rfl rfl rfl c2) (bD j rfl rfl (aD (gP (t:=0) aDW p (i:=1) rfl c2 rfl rfl rfl) (aD (bL (v:=zB d4) j rfl rfl) (aO (v:=zB d4) ?_))))
      rcases aH a with ⟨d,a⟩|⟨d,a⟩
      ·refine bD d rfl rfl (aN J (bD d rfl rfl (aD (bT (t':=2) gR rfl rfl) (bD d rfl rfl (aD (dS cK p (i:=0) rfl rfl rfl) (bD d rfl rfl ?_))))))
       obtain ⟨d6,d7,a⟩:=aB a
       exact aD (dT fO rfl d5 rfl rfl rfl d7) (bD d rfl rfl (aD (gP (t:=0) aDW p (i:=1) rfl d7 rfl rfl rfl) (bD d rfl rfl (aD (eJ rfl) (aD (bL (v:=zB (!d6)) d rfl rfl) (aG ⟨!d6,a,z,J,a8,Z,rfl,rfl,a9,p⟩))))))
      ·exact aR d rfl rfl (aR d rfl rfl (aR d rfl rfl (aR d rfl rfl (aR d rfl rfl (aR d rfl rfl (aD (bK (v:=zB false) d rfl rfl) (aG ⟨false,a,z,J,a8,Z,rfl,rfl,a9,p⟩)))))))
     ·exact aR j rfl rfl (aR j rfl rfl (aR j rfl rfl (aR j rfl rfl (aR j rfl rfl (aD (bK (v:=zB false) j rfl rfl) (aO (v:=zB false) (aR (by decide:¬ false=true) rfl rfl (aR (by decide:¬ false=true) rfl rfl (aR (by decide:¬ false=true) rfl rfl (aR (by decide:¬ false=true) rfl rfl (aR (by decide:¬ false=true) rfl rfl (aR (by decide:¬ false=true) rfl rfl (aD (bK (v:=zB false) (by decide:¬ false=true) rfl rfl) (aG ⟨false,a,z,J,a8,Z,rfl,rfl,a9,p⟩))))))))))))))
    ·refine aJ b6 rfl (cA (aT (aT ?_)))
     have h5:=f8 _ (zI a).symm
     subst h5
     have c:(vN e q)=some a3:=c
     exact bJ (aA ⟨e,q,c,z,J,a8,a9,a0⟩)
  ·refine aJ b4 rfl (cA (aT (aT ?_)))
   have h7:=e3 _ (zI c).symm
   subst h7
   have m:(aAA r)=some R:=m
   exact bJ (aA ⟨r,m,c4,c6⟩)
theorem aEO {e:(List Bool)} {R:(List Int)} (hs:aI G K (L) w) (h3:cX K a1 c2 e) (c:aAe e=some R):
  Calls Tryz.prog 92 ([zS a1 e.length c2]:List Value).toArray w (gK fun v w'=>∃ (a3:Option Addr) (a5:Nat),v=zS a3 R.length a5∧aI G K (aK 2 K a3 a5 R::L) w'):=by
 refine aW func92 rfl (by kernel_rfl) (by show (1:Nat)≤21;decide) ?_
 unfold aAe at c
 refine aL (aF (v:=zS none 0 0) (aG (aL (bR (Kt:=K) (xs:=([]:List Int)) (cs:=[]) (vs:=[]) cF jC rfl rfl hs rfl (by kernel_rfl) rfl rfl rfl trivial (fun x w5 (b1:aI G K (aK 2 K x 0 ([]:List Int)::L) w5)=>(aF (v:=zS x ([]:List Int).length 0) (aG (aQ (aL (aF (v:=i64 0) (aG (bB (fun f w=>∃ (k:List Int) (l:Option Addr) (m:Nat),aBN k=some R∧f 3=zS l k.length m∧aI G K (aK 2 K l m k::L) w) ?_ ?_))))))))))))
 ·rintro f d2 ⟨k,l,m,c,b2,b3⟩
  unfold aBN at c
  refine aA (aL (aN b2 (aF (v:=zS l k.length m) (aG ?_))))
  obtain rfl:=zI c
  exact bM (bP results92 rfl ⟨l,m,rfl,b3⟩)
 obtain ⟨d3,b5,c⟩:=aB c
 refine cE b5 (fun (s:(List Int × Int)) f w=>match s with|(d,b)=>∃ (g:Option Addr) (j:Nat),f 0=zS a1 e.length c2∧f 3=zS g d.length j∧f 4=i64 b∧aI G K (aK 2 K g j d::L) w) ?_ ?_
 ·exact ⟨x,0,rfl,rfl,rfl,b1⟩
 ·rintro ⟨d,b⟩ a6 f d4 a b6 ⟨g,j,p,y,n,q⟩
  replace a:uL e d b=some a6:=a
  unfold uL at a
  refine aQ (aL (aN n (aN p (aD (bU (len:=e.length) fO rfl) (aD (cL rfl rfl) (aG ?_))))))
  rcases aH a with ⟨z,a⟩|⟨z,a⟩
  ·refine aM z rfl (bA (aA (aQ (bB (fun f w=>∃ (o:List Int) (r:Option Addr) (u:Nat),yG b o=some a6∧f 0=zS a1 e.length c2∧f 3=zS r o.length u∧f 4=i64 b∧aI G K (aK 2 K r u o::L) w) ?_ ?_))))
   ·rintro f d5 ⟨o,r,u,a,b7,b8,b9,c0⟩
    unfold yG at a
    exact aA (aP (aN b9 (aD (cP rfl rfl) (aF (v:=i64 (wr (b+1))) (aG ⟨(o,wr (b+1)),(zI a).symm,r,u,b7,b8,rfl,c0⟩)))))
   refine aL (aN p (aN n ?_))
   obtain ⟨d6,a7,a⟩:=aB a
   refine aD (dI fO rfl h3 rfl rfl rfl a7) ?_
   obtain ⟨d7,c1,c3⟩:=cX.el (sz:=1) rfl h3 a7
   cases c3
   refine aD (bH (t:=0) aDW q c1 rfl rfl) (aG ?_)
   rcases aH a with ⟨J,a⟩|⟨J,a⟩
   ·refine aM J rfl (aP (aN y (aN n (bR (Kt:=K) (xs:=([b]:List Int)) (cs:=[i64 b]) (vs:=[(0,i64 b)]) cF jC rfl rfl q rfl (by kernel_rfl) rfl rfl rfl ⟨rfl,trivial⟩ (fun c4 c5 (c6:aI G K (aK 2 K c4 1 ([b]:List Int)::aK 2 K g j d::L) c5)=>?_)))))
    obtain ⟨V,c7,a⟩:=aB a
    exact dG (i:=0) cF underlying35 jC rfl rfl c6 rfl (zR _) (zR _) c7 rfl rfl rfl rfl (fun _ h=>h) (fun Z a0 c8 (d0:aI G K (aK 2 K Z a0 V::L) c8)=>(aF (v:=zS Z V.length a0) (aZ (bC (aA ⟨V,Z,a0,a,p,rfl,n,d0⟩)))))
   ·exact aJ J rfl (bA (bC (aA ⟨d,g,j,a,p,y,n,q⟩)))
  ·refine aJ z rfl (cA (aT (aT ?_)))
   have d1:=b6 _ (zI a).symm
   subst d1
   have c:(aBN d)=some R:=c
   exact bJ (aA ⟨d,g,j,c,y,q⟩)
theorem aHK {t:cG} {a:Nat} {R:(List Int)} (k:aI G K (L) w) (e:kK K a1 a (zC t a4 c5 a7 c8)) (l:cX K a4 c5 t.L) (m:cX K a7 c8 t.E) (b:sQ t=some R):
  Calls Tryz.prog 52 ([cU a1 a]:List Value).toArray w (gK fun v w'=>∃ (o:Option Addr) (p:Nat),v=zS o R.length p∧aI G K (aK 2 K o p R::L) w'):=by
 refine aW func52 rfl (by kernel_rfl) (by show (1:Nat)≤16;decide) ?_
 unfold sQ at b
 refine aL (aF (v:=zS none 0 0) (aG (aL (aO (v:=cU a1 a) (aO (v:=cU a1 a) (aD (cJ rfl e) (aD (bO (k':=a+1) oP rfl e rfl) (aD (bH (t:=1) cK k e rfl rfl) (bR (Kt:=K) (xs:=([t.I]:List Int)) (cs:=[i64 t.I]) (vs:=[(0,i64 t.I)]) cF jC rfl rfl k rfl (by kernel_rfl) rfl rfl rfl ⟨rfl,trivial⟩ (fun h x (y:aI G K (aK 2 K h 1 ([t.I]:List Int)::L) x)=>?_))))))))))
 obtain ⟨b8,j,z,J,V⟩:=aI.lendS (i:=0) y (zR _) rfl
 obtain ⟨g,Z,b⟩:=aB b
 refine aS (vs:=[cU a1 a,zS h ([t.I]:List Int).length 1]) call90 rfl (aHJ J (e.mono j) (l.mono j) (m.mono j) z Z) ?_
 rintro _ a0 ⟨c,d,rfl,a2⟩
 have a3:=V _ _ a2
 refine aF (v:=zS c g.length d) (aG (aL (aO (v:=cU a1 a) (aO (v:=zS c g.length d) ?_))))
 have a5:aI G K (aK 4 K c d g::aK 2 K h 1 ([t.I]:List Int)::L) a0:=(aI.arr 2 [1,0] a3 rfl)
 obtain ⟨q,a6,b⟩:=aB b
 refine aS (vs:=[cU a1 a,zS c g.length d]) call91 rfl (aEm a5 e l m a6) ?_
 rintro _ b9 ⟨rfl,a8,a9⟩
 refine aG (aL (aN (v:=zS c q.length d) (Eq.trans rfl (congrArg (fun n=>zS c n d) a8)) ?_))
 obtain ⟨c0,c1,b0,b1,b2⟩:=aI.lendS (i:=0) a9 (zR _) rfl
 obtain ⟨b3,b4,b⟩:=aB b
 refine aS (vs:=[zS c q.length d]) call92 rfl (aEO b1 b0 b4) ?_
 rintro _ c2 ⟨r,u,rfl,b5⟩
 have b6:=b2 _ _ b5
 refine aF (v:=zS r b3.length u) (aG ?_)
 obtain rfl:=zI b
 exact bM (bP results52 rfl ⟨r,u,rfl,(aI.arr 3 [1] b6 rfl)⟩)
theorem aJO {c:(List Int)} {n:Int} {R:Bool} (p:aI G K (L) w) (k:cX K a1 c2 c) (b:aEG c n=some R):
  Calls Tryz.prog 93 ([zS a1 c.length c2,i64 n]:List Value).toArray w (gK fun v w'=>v=zB R∧aI G K (L) w'):=by
 refine aW func93 rfl (by kernel_rfl) (by show (2:Nat)≤18;decide) ?_
 unfold aEG at b
 refine aL (aF (v:=zB false) (aG (aQ (aL (aF (v:=i64 0) (aG (bB (fun f w=>aCV=some R∧aI G K (L) w) ?_ ?_)))))))
 ·rintro f w4 ⟨b,q⟩
  unfold aCV at b
  refine aA (aL (aF (v:=zB false) (aG ?_)))
  obtain rfl:=zI b
  exact bM (bP results93 rfl ⟨rfl,q⟩)
 obtain ⟨a2,u,b⟩:=aB b
 refine cE u (fun (d:Int) f w=>f 0=zS a1 c.length c2∧f 1=i64 n∧f 5=i64 d∧aI G K (L) w) ?_ ?_
 ·exact ⟨rfl,rfl,rfl,p⟩
 ·rintro d x f a3 a l ⟨g,m,h,e⟩
  replace a:xE c n d=some x:=a
  unfold xE at a
  refine aQ (aL (aN h (aN g (aD (bU (len:=c.length) cF rfl) (aD (cL rfl rfl) (aG ?_))))))
  rcases aH a with ⟨i,a⟩|⟨i,a⟩
  ·refine aM i rfl (bA (aA (aQ (cY (aL (aN g (aN h ?_)))))))
   obtain ⟨a4,o,a⟩:=aB a
   refine aD (dI cF rfl k rfl rfl rfl o) ?_
   obtain ⟨a5,y,z⟩:=cX.el (sz:=1) rfl k o
   cases z
   refine aD (bH (t:=0) cK e y rfl rfl) (aN m (aD (gE rfl rfl) (aG ?_)))
   rcases aH a with ⟨j,a⟩|⟨j,a⟩
   ·refine aM j rfl (aL (aF (v:=zB true) (aG (bM (bV (aV (aV ?_)))))))
    have J:=l _ (zI a).symm
    subst J
    have b:(some true)=some R:=b
    obtain rfl:=zI b
    exact bV (aV (aV (bP results93 rfl ⟨rfl,e⟩)))
   ·exact aJ j rfl (bA (bC (aA (aP (aN h (aD (cP rfl rfl) (aF (v:=i64 (wr (d+1))) (aG ⟨wr (d+1),(zI a).symm,g,m,rfl,e⟩))))))))
  ·refine aJ i rfl (cA (aT (aT ?_)))
   have Z:=l _ (zI a).symm
   subst Z
   have b:(aCV)=some R:=b
   exact bJ (aA ⟨b,e⟩)
theorem aIJ {t:cG} {l:Nat} {p:(List Int)} {r:Int} {R:(List Int)} (hs:aI G K (L) w) (d:kK K a1 l (zC t a4 c5 a7 c8)) (h6:cX K a4 c5 t.L) (u:cX K a7 c8 t.E) (d4:cX K a10 c11 p) (k:xF t p r=some R):
  Calls Tryz.prog 53 ([cU a1 l,zS a10 p.length c11,i64 r]:List Value).toArray w (gK fun v w'=>∃ (b6:Option Addr) (b7:Nat),v=zS b6 R.length b7∧aI G K (aK 2 K b6 b7 R::L) w'):=by
 refine aW func53 rfl (by kernel_rfl) (by show (3:Nat)≤60;decide) ?_
 unfold xF at k
 refine aL (aF (v:=zS none 0 0) (aG (aL (aO (v:=cU a1 l) (aD (cJ rfl d) (aD (bO (k':=l+0) gS rfl d rfl) (aD (bH (t:=0) cK hs d rfl rfl) ?_)))))))
 obtain ⟨c,d5,k⟩:=aB k
 refine aFu (e:=(false:Bool)) fO ez_4 rfl rfl hs rfl rfl rfl d5 rfl (fun j d6 (d7:aI G K (aK 4 K j c.length c::L) d6)=>(aF (v:=zS j c.length c.length) (aG (aQ (aL (aF (v:=i64 0) (aG (bB (fun f w=>∃ (y:List Bool),yH t y=some R∧f 0=cU a1 l∧f 7=zS j y.length c.length∧aI G K (aK 4 K j c.length y::L) w) ?_ ?_))))))))
 ·rintro f g7 ⟨y,k,d8,b8,d9⟩
  unfold yH at k
  refine aA (aL (aN d8 (aN b8 ?_)))
  obtain ⟨b9,e0,k⟩:=aB k
  refine aS (vs:=[cU a1 l,zS j y.length c.length]) call91 rfl (aEm d9 d h6 u e0) ?_
  rintro _ g8 ⟨rfl,e1,e2⟩
  refine aG (aL (aN (v:=zS j b9.length c.length) (Eq.trans b8 (congrArg (fun n=>zS j n c.length) e1)) ?_))
  obtain ⟨g9,h0,e3,e4,e5⟩:=aI.lendS (i:=0) e2 (zR _) rfl
  obtain ⟨e6,e7,k⟩:=aB k
  refine aS (vs:=[zS j b9.length c.length]) call92 rfl (aEO e4 e3 e7) ?_
  rintro _ h1 ⟨c0,c1,rfl,e8⟩
  have e9:=e5 _ _ e8
  refine aF (v:=zS c0 e6.length c1) (aG ?_)
  obtain rfl:=zI k
  exact bM (bP results53 rfl ⟨c0,c1,rfl,(aI.arr 1 [] e9 rfl)⟩)
 obtain ⟨h2,f1,k⟩:=aB k
 refine cE f1 (fun (s:(List Bool × Int)) f w=>match s with|(o,m)=>f 0=cU a1 l∧f 1=zS a10 p.length c11∧f 2=i64 r∧f 7=zS j o.length c.length∧f 8=i64 m∧aI G K (aK 4 K j c.length o::L) w) ?_ ?_
 ·exact ⟨rfl,rfl,rfl,rfl,rfl,d7⟩
 ·rintro ⟨o,m⟩ a0 f h4 a f2 ⟨x,a2,a3,a5,z,q⟩
  replace a:qG t p r o m=some a0:=a
  unfold qG at a
  refine aQ (aL (aN z (aN x (aD (cJ rfl d) (aD (bO (k':=l+3) cV rfl d rfl) (aD (bH (t:=3) fH q d rfl rfl) (aD (bU (len:=t.E.length) cM rfl) (aD (cL rfl rfl) (aG ?_)))))))))
  rcases aH a with ⟨a6,a⟩|⟨a6,a⟩
  ·refine aM a6 rfl (bA (aA (aQ (bB (fun f w=>∃ (J:List Bool),yI m J=some a0∧f 0=cU a1 l∧f 1=zS a10 p.length c11∧f 2=i64 r∧f 7=zS j J.length c.length∧f 8=i64 m∧aI G K (aK 4 K j c.length J::L) w) ?_ ?_))))
   ·rintro f h5 ⟨J,a,f3,f4,f5,f6,f7,f8⟩
    unfold yI at a
    exact aA (aP (aN f7 (aD (cP rfl rfl) (aF (v:=i64 (wr (m+1))) (aG ⟨(J,wr (m+1)),(zI a).symm,f3,f4,f5,f6,rfl,f8⟩)))))
   refine aQ (cN (fun f w=>∃ (a8:Bool),yJ t o m a8=some a0∧f 0=cU a1 l∧f 1=zS a10 p.length c11∧f 2=i64 r∧f 7=zS j o.length c.length∧f 8=i64 m∧f 44=zB a8∧aI G K (aK 4 K j c.length o::L) w) ?_ ?_)
   ·rintro f h7 ⟨a8,a,a9,c2,c3,b0,b1,c4,V⟩
    unfold yJ at a
    refine aA ?_
    rcases aH a with ⟨b2,a⟩|⟨b2,a⟩
    ·refine aM b2 c4 (aP (aN b0 (aN a9 (aD (cJ rfl d) (aD (bO (k':=l+3) cV rfl d rfl) (aD (bH (t:=3) fH V d rfl rfl) (aN b1 ?_)))))))
     obtain ⟨h8,c6,a⟩:=aB a
     refine aD (dI cM rfl u rfl rfl rfl c6) ?_
     obtain ⟨i0,c7,f9⟩:=cX.el (sz:=3) rfl u c6
     cases f9
     refine aD (bO (k':=m.toNat * 3+2) gR rfl c7 rfl) (aD (bH (t:=2) cK V c7 rfl rfl) ?_)
     obtain ⟨i1,b3,a⟩:=aB a
     have g0:=dA V (i:=0) rfl b3
     refine aD (dT fO rfl g0 rfl rfl rfl b3) ?_
     obtain ⟨c9,d0,a⟩:=aB a
     exact nG (i:=0) (t:=0) (ns:=[zB true]) (e':=(true:Bool)) sizeOf4 V rfl (zR _) rfl rfl rfl b3 d0 rfl rfl (dE rfl) rfl (fun cs h=>by cases h;rfl) (fun g1 (g2:aI G K (aK 4 K j c.length c9::L) g1)=>(aZ (bC (aA ⟨c9,a,a9,c2,c3,(Eq.trans b0 (congrArg (fun n=>zS j n c.length) (lE d0))),b1,g2⟩))))
    ·exact aJ b2 c4 (bA (bC (aA ⟨o,a,a9,c2,c3,b0,b1,V⟩)))
   refine aP (aN x (aD (cJ rfl d) (aD (bO (k':=l+3) cV rfl d rfl) (aD (bH (t:=3) fH q d rfl rfl) (aN z ?_)))))
   obtain ⟨d1,b4,a⟩:=aB a
   refine aD (dI cM rfl u rfl rfl rfl b4) ?_
   obtain ⟨i2,Z,g3⟩:=cX.el (sz:=3) rfl u b4
   cases g3
   refine aD (bO (k':=m.toNat * 3+1) iZ rfl Z rfl) (aD (bH (t:=1) cK q Z rfl rfl) (aN a3 (aD (gE rfl rfl) (aO (v:=zB (d1.B == r)) ?_))))
   rcases aH a with ⟨b,a⟩|⟨b,a⟩
   ·refine bD b rfl rfl (aN a2 (bD b rfl rfl (aN x (bD b rfl rfl (aD (cJ rfl d) (bD b rfl rfl (aD (bO (k':=l+3) cV rfl d rfl) (bD b rfl rfl (aD (bH (t:=3) fH q d rfl rfl) (bD b rfl rfl (aN z (bD b rfl rfl (aD (dI cM rfl u rfl rfl rfl b4) (bD b rfl rfl (aD (bO (k':=m.toNat * 3+0) hQ rfl Z rfl) (bD b rfl rfl (aD (bH (t:=0) cK q Z rfl rfl) (bD b rfl rfl ?_))))))))))))))))))
    obtain ⟨d2,g4,a⟩:=aB a
    refine aS (vs:=[zS a10 p.length c11,i64 d1.F]) call93 rfl (aJO q d4 g4) ?_
    rintro _ i3 ⟨rfl,g5⟩
    exact aD (bL (v:=zB d2) b rfl rfl) (aG ⟨d2,a,x,a2,a3,a5,z,rfl,g5⟩)
   ·exact aR b rfl rfl (aR b rfl rfl (aR b rfl rfl (aR b rfl rfl (aR b rfl rfl (aR b rfl rfl (aR b rfl rfl (aR b rfl rfl (aR b rfl rfl (aR b rfl rfl (aD (bK (v:=zB false) b rfl rfl) (aG ⟨false,a,x,a2,a3,a5,z,rfl,q⟩)))))))))))
  ·refine aJ a6 rfl (cA (aT (aT ?_)))
   have g6:=f2 _ (zI a).symm
   subst g6
   have k:(yH t o)=some R:=k
   exact bJ (aA ⟨o,k,x,a5,q⟩)
theorem aCC {t:cG} {y:Nat} {R:(cG × (List (List Int)) × Bool)} (hs:aI G K (L) w) (h3:kK K a1 y (zC t a4 c5 a7 c8)) (h6:cX K a4 c5 t.L) (h9:cX K a7 c8 t.E) (u:xG t=some R):
  Calls Tryz.prog 23 ([cU a1 y]:List Value).toArray w (gK fun v w'=>∃ (k6:Option Addr) (k7:Nat) (k8:Option Addr) (k9:Nat) (l0:Option Addr) (l1:Nat) (h1:List (Dp.Hd (List Int))),v=Value.tuple #[zA (zCa R.1 k6 k7 k8 k9),zS l0 R.2.1.length l1,zB R.2.2]∧List.length h1=List.length R.2.1∧aI G K (aK 9 K k6 k7 R.1.L::aK 69 K k8 k9 R.1.E::aK 35 K l0 l1 (eD h1 R.2.1)::rows [2] h1 R.2.1::L) w'):=by
 let d:=zG
 let l2:=aK 35 K none 0 (eD ([]:List (Dp.Hd (List Int))) ([]:List (List Int)))
 refine aW func23 rfl (by kernel_rfl) (by show (1:Nat)≤88;decide) ?_
 unfold xG at u
 refine aL (bW (vs:=d) zeroValue27 hs rfl (fun c z6 o5=>(aF (v:=zS none 0 0) (aF (v:=zB false) (aG (aL (aO (v:=cU a1 y) ?_)))))))
 obtain ⟨a8,o6,u⟩:=aB u
 refine aS (vs:=[cU a1 y]) call52 rfl (aHK o5 h3 h6 h9 o6) ?_
 rintro _ o7 ⟨a9,b0,rfl,o8⟩
 have o9:aI G K (rows [2] ([(a9,b0)]:List (Dp.Hd (List Int))) [a8]::box c 27 d::L) o7:=aI.rowsOne o8
 refine bR (Kt:=K) (xs:=eD ([(a9,b0)]:List (Dp.Hd (List Int))) ([a8]:List (List Int))) (cs:=[zS a9 a8.length b0]) (vs:=[(0,zS a9 a8.length b0)]) oQ aEB rfl rfl o9 rfl (by kernel_rfl) rfl rfl rfl ⟨rfl,trivial⟩ ?_
 intro e7 p0 (p1:aI G K (aK 35 K e7 1 (eD ([(a9,b0)]:List (Dp.Hd (List Int))) ([a8]:List (List Int)))::rows [2] ([(a9,b0)]:List (Dp.Hd (List Int))) ([a8]:List (List Int))::box c 27 d::L) p0)
 refine aF (v:=zS e7 ([a8]:List (List Int)).length 1) (aG (aL (bR (Kt:=K) (xs:=([]:List Edge)) (cs:=[]) (vs:=[]) cM gZ rfl rfl p1 rfl (by kernel_rfl) rfl rfl rfl trivial ?_)))
 intro h2 p2 (p3:aI G K (aK 69 K h2 0 ([]:List Edge)::aK 35 K e7 1 (eD ([(a9,b0)]:List (Dp.Hd (List Int))) ([a8]:List (List Int)))::rows [2] ([(a9,b0)]:List (Dp.Hd (List Int))) ([a8]:List (List Int))::box c 27 d::L) p2)
 refine aF (v:=zS h2 ([]:List Edge).length 0) (aG (aQ (aL (aF (v:=i64 0) (aG (bB (fun f w=>∃ (r:List (List Int)) (Z:List Edge) (b7:Option Addr) (b8:Nat) (a6:List (Dp.Hd (List Int))) (a0:Option Addr) (a2:Nat),uM t r Z=some R∧f 0=cU a1 y∧f 2=zP (some ⟨c,0,none⟩)∧f 5=zS b7 r.length b8∧f 6=zS a0 Z.length a2∧List.length a6=List.length r∧aI G K (aK 69 K a0 a2 Z::aK 35 K b7 b8 (eD a6 r)::rows [2] a6 r::box c 27 d::L) w) ?_ ?_))))))
 ·rintro f z7 ⟨r,Z,b7,b8,a6,a0,a2,u,p4,l3,l4,p5,p6,p7⟩
  unfold uM at u
  refine aA (aL (aN l4 (aD (bU (len:=r.length) oQ rfl) (bR (Kt:=K) (xs:=([]:List aU)) (cs:=[]) (vs:=[]) bX gJ rfl rfl p7 rfl (by kernel_rfl) rfl rfl rfl trivial (fun p8 p9 (l5:aI G K (aK 9 K p8 0 ([]:List aU)::aK 69 K a0 a2 Z::aK 35 K b7 b8 (eD a6 r)::rows [2] a6 r::box c 27 d::L) p9)=>(aN p4 (aD (cJ rfl h3) (aD (bO (k':=y+2) fL rfl h3 rfl) (aD (bH (t:=2) iT l5 h3 rfl rfl) ?_)))))))))
  obtain ⟨b9,q0,u⟩:=aB u
  refine lW (i:=0) bX underlying24 gJ rfl rfl l5 rfl (zR _) h6 q0 rfl rfl rfl rfl (fun b1 b2 q1 (q2:aI G K (aK 9 K b1 b2 b9::aK 69 K a0 a2 Z::aK 35 K b7 b8 (eD a6 r)::rows [2] a6 r::box c 27 d::L) q1)=>(aN p5 (aD (dL (vs:=[(0,i64 (r.length:Int)),(2,zS b1 b9.length b2),(3,zS a0 Z.length a2)]) (cs:=[i64 (r.length:Int),i64 0,zS b1 b9.length b2,zS a0 Z.length a2]) rW rfl (by kernel_rfl)) (aN l4 (bY (i:=4) (ns:=[i64 (r.length:Int),i64 0,zS b1 b9.length b2,zS a0 Z.length a2]) (us:=[i64 (r.length:Int),i64 0,zS b1 b9.length b2,zS a0 Z.length a2]) sizeOf27 q2 rfl l3 rfl rfl rfl (dE rfl) rfl rfl (fun q3 (l6:aI G K (aK 9 K b1 b2 b9::aK 69 K a0 a2 Z::aK 35 K b7 b8 (eD a6 r)::rows [2] a6 r::box c 27 [i64 (r.length:Int),i64 0,zS b1 b9.length b2,zS a0 Z.length a2]::L) q3)=>(aF (v:=zS b7 r.length b8) (aF (v:=zB true) (aG ?_)))))))))
  obtain rfl:=zI u
  exact bM (aCS results23 (fV (vs:=[i64 (r.length:Int),i64 0,zS b1 b9.length b2,zS a0 Z.length a2]) rfl dJ l6 (i:=4) rfl l3 rfl) (qA rfl rfl) (qA rfl rfl) ⟨b1,b2,a0,a2,b7,b8,a6,rfl,p6,(aI.arr 5 [0,1,2,3] l6 rfl)⟩)
 obtain ⟨z8,q5,u⟩:=aB u
 refine cE q5 (fun (s:(List (List Int) × List Edge × Int)) f w=>match s with|(b3,c6,j)=>∃ (d1:Option Addr) (d2:Nat) (c7:List (Dp.Hd (List Int))) (d3:Option Addr) (d4:Nat),f 0=cU a1 y∧f 2=zP (some ⟨c,0,none⟩)∧f 5=zS d1 b3.length d2∧f 6=zS d3 c6.length d4∧f 7=i64 j∧List.length c7=List.length b3∧aI G K (aK 69 K d3 d4 c6::aK 35 K d1 d2 (eD c7 b3)::rows [2] c7 b3::box c 27 d::L) w) ?_ ?_
 ·exact ⟨e7,1,([(a9,b0)]:List (Dp.Hd (List Int))),h2,0,rfl,rfl,rfl,rfl,rfl,rfl,p3⟩
 ·rintro ⟨b3,c6,j⟩ c9 f z9 k h4 ⟨d1,d2,c7,d3,d4,l7,l8,h5,l9,m0,m1,m2⟩
  replace k:gW t b3 c6 j=some c9:=k
  unfold gW at k
  refine aQ (aL (aN m0 (aN h5 (aD (bU (len:=b3.length) oQ rfl) (aD (cL rfl rfl) (aG ?_))))))
  rcases aH k with ⟨h7,k⟩|⟨h7,k⟩
  ·refine aM h7 rfl (bA (aA (aQ (bB (fun f w=>∃ (c2:List (List Int)) (d5:List Edge) (e8:Option Addr) (e9:Nat) (d6:List (Dp.Hd (List Int))) (f0:Option Addr) (f1:Nat),aBO j c2 d5=some c9∧f 0=cU a1 y∧f 2=zP (some ⟨c,0,none⟩)∧f 5=zS e8 c2.length e9∧f 6=zS f0 d5.length f1∧f 7=i64 j∧List.length d6=List.length c2∧aI G K (aK 69 K f0 f1 d5::aK 35 K e8 e9 (eD d6 c2)::rows [2] d6 c2::box c 27 d::L) w) ?_ ?_))))
   ·rintro f a00 ⟨c2,d5,e8,e9,d6,f0,f1,k,q6,q7,q8,q9,r0,r1,r2⟩
    unfold aBO at k
    exact aA (aP (aN r0 (aD (cP rfl rfl) (aF (v:=i64 (wr (j+1))) (aG ⟨(c2,d5,wr (j+1)),(zI k).symm,e8,e9,d6,f0,f1,q6,q7,q8,q9,rfl,r1,r2⟩)))))
   refine aL (aF (v:=i64 1) (aG (bB (fun f w=>∃ (c3:List (List Int)) (d7:List Edge) (f2:Option Addr) (f3:Nat) (d8:List (Dp.Hd (List Int))) (f4:Option Addr) (f5:Nat),yK j c3 d7=some c9∧f 0=cU a1 y∧f 2=zP (some ⟨c,0,none⟩)∧f 5=zS f2 c3.length f3∧f 6=zS f4 d7.length f5∧f 7=i64 j∧List.length d8=List.length c3∧aI G K (aK 69 K f4 f5 d7::aK 35 K f2 f3 (eD d8 c3)::rows [2] d8 c3::box c 27 d::L) w) ?_ ?_)))
   ·rintro f a01 ⟨c3,d7,f2,f3,d8,f4,f5,k,r3,r4,r5,r6,r7,r8,r9⟩
    unfold yK at k
    exact bC (aA ⟨c3,d7,f2,f3,d8,f4,f5,k,r3,r4,r5,r6,r7,r8,r9⟩)
   obtain ⟨a02,s0,k⟩:=aB k
   refine cE s0 (fun (s:(List (List Int) × List Edge × Int)) f w=>match s with|(b,e,q)=>∃ (z:Option Addr) (J:Nat) (g:List (Dp.Hd (List Int))) (l:Option Addr) (m:Nat),f 0=cU a1 y∧f 2=zP (some ⟨c,0,none⟩)∧f 5=zS z b.length J∧f 6=zS l e.length m∧f 7=i64 j∧f 8=i64 q∧List.length g=List.length b∧aI G K (aK 69 K l m e::aK 35 K z J (eD g b)::rows [2] g b::box c 27 d::L) w) ?_ ?_
   ·exact ⟨d1,d2,c7,d3,d4,l7,l8,h5,l9,m0,rfl,m1,m2⟩
   ·rintro ⟨b,e,q⟩ d9 f a03 a h8 ⟨z,J,g,l,m,e0,i0,f6,i1,f7,f8,a5,e1⟩
    replace a:nW t j b e q=some d9:=a
    unfold nW at a
    refine aQ (aL (aN f8 (aN e0 (aD (cJ rfl h3) (aD (bO (k':=y+2) fL rfl h3 rfl) (aD (bH (t:=2) iT e1 h3 rfl rfl) (aD (bU (len:=t.L.length) bX rfl) (aD (cL rfl rfl) (aG ?_)))))))))
    rcases aH a with ⟨i2,a⟩|⟨i2,a⟩
    ·refine aM i2 rfl (bA (aA (aQ (bB (fun f w=>∃ (c4:List (List Int)) (e2:List Edge) (f9:Option Addr) (g0:Nat) (e3:List (Dp.Hd (List Int))) (g1:Option Addr) (g2:Nat),uN q c4 e2=some d9∧f 0=cU a1 y∧f 2=zP (some ⟨c,0,none⟩)∧f 5=zS f9 c4.length g0∧f 6=zS g1 e2.length g2∧f 7=i64 j∧f 8=i64 q∧List.length e3=List.length c4∧aI G K (aK 69 K g1 g2 e2::aK 35 K f9 g0 (eD e3 c4)::rows [2] e3 c4::box c 27 d::L) w) ?_ ?_))))
     ·rintro f a04 ⟨c4,e2,f9,g0,e3,g1,g2,a,s1,s2,s3,s4,s5,s6,s7,s8⟩
      unfold uN at a
      exact aA (aP (aN s6 (aD (cP rfl rfl) (aF (v:=i64 (wr (q+1))) (aG ⟨(c4,e2,wr (q+1)),(zI a).symm,f9,g0,e3,g1,g2,s1,s2,s3,s4,s5,rfl,s7,s8⟩)))))
     refine aL (aN e0 (aN f6 (aN f7 ?_)))
     obtain ⟨s9,e4,a⟩:=aB a
     obtain ⟨⟨t0,t1⟩,i3⟩:=get_hd a5 e4
     have m3:=dA e1 (i:=1) rfl (aIj a5 e4 i3)
     refine aD (dT oQ rfl m3 rfl rfl rfl e4) (aD (gP (t:=0) aIt e1 (i:=1) rfl (aIj a5 e4 i3) rfl rfl rfl) (aN f8 ?_))
     obtain ⟨a05,i4,a06,t2,t3,t4⟩:=aI.lendD' (i:=1) e1 a5 rfl rfl
     obtain ⟨n,t5,a⟩:=aB a
     refine aS (vs:=[cU a1 y,zS t0 s9.length t1,i64 q]) call53 rfl (aIJ t3 (h3.mono i4) (h6.mono i4) (h9.mono i4) (rd_row (t2 _ _ _ i3 (ix_at e4))) t5) ?_
     rintro _ a07 ⟨o,p,rfl,t6⟩
     have m4:=t4 _ _ t6
     refine aF (v:=zS o n.length p) (aG (aQ (aL (aO (v:=zS o n.length p) (aD (bU (len:=n.length) cF rfl) (aD (gE rfl rfl) (aG ?_)))))))
     rcases aH a with ⟨i5,a⟩|⟨i5,a⟩
     ·exact aM i5 rfl (cA (aT (bJ (aA ⟨b,e,z,J,g,l,m,a,e0,i0,f6,i1,f7,f8,a5,(aI.arr 4 [3,0,1] m4 rfl)⟩))))
     ·refine aJ i5 rfl (bA (aA (aL (aF (v:=i64 (-1)) (aG (aQ (aL (aF (v:=i64 0) (aG (bB (fun f w=>∃ (g3:Int),qH j b e q n g3=some d9∧f 0=cU a1 y∧f 2=zP (some ⟨c,0,none⟩)∧f 5=zS z b.length J∧f 6=zS l e.length m∧f 7=i64 j∧f 8=i64 q∧f 9=zS o n.length p∧f 10=i64 g3∧aI G K (aK 35 K z J (eD g b)::rows [2] g b::aK 2 K o p n::aK 69 K l m e::box c 27 d::L) w) ?_ ?_))))))))))
      ·rintro f m5 ⟨g3,a,m6,g4,g5,m7,m8,m9,t7,n0,i6⟩
       unfold qH at a
       refine aA (uV (fun f w=>∃ (V:List (List Int)) (b4:Int) (c0:Option Addr) (c1:Nat) (a3:List (Dp.Hd (List Int))),yL j e q V b4=some d9∧f 0=cU a1 y∧f 2=zP (some ⟨c,0,none⟩)∧f 5=zS c0 V.length c1∧f 6=zS l e.length m∧f 7=i64 j∧f 8=i64 q∧f 10=i64 b4∧List.length a3=List.length V∧aI G K (aK 35 K c0 c1 (eD a3 V)::rows [2] a3 V::aK 69 K l m e::box c 27 d::L) w) ?_ ?_)
       ·rintro f a08 ⟨V,b4,c0,c1,a3,a,t8,i7,t9,n1,n2,n3,u0,u1,n4⟩
        unfold yL at a
        refine aQ (aL (aN n1 (aD (bU (len:=e.length) cM rfl) (aD (gE rfl rfl) (aG ?_)))))
        rcases aH a with ⟨i8,a⟩|⟨i8,a⟩
        ·refine aM i8 rfl (aL (aD (dL (vs:=[]) (cs:=d) rW rfl (by kernel_rfl)) (bY (i:=3) (ns:=d) (us:=d) sizeOf27 n4 rfl i7 rfl rfl rfl (dE rfl) rfl rfl (fun n5 (u2:aI G K (aK 35 K c0 c1 (eD a3 V)::rows [2] a3 V::aK 69 K l m e::box c 27 d::L) n5)=>(aF (v:=zS none 0 0) (aF (v:=zB false) (aG (bM (aV (bV (aV (aV (aV ?_)))))))))))))
         have u3:=h8 _ (zI a).symm
         subst u3
         have k:(some (.inr (.inr (⟨0,0,[],[]⟩,[],false))))=some c9:=k
         refine bV (aV (bV (aV (aV (aV ?_)))))
         have u4:=h4 _ (zI k).symm
         subst u4
         have u:(some (⟨0,0,[],[]⟩,[],false))=some R:=u
         have u5:=aI.nil (α:=aU) u2 9 K
         have u6:=aI.nil (α:=Edge) u5 69 K
         have n6:aI G K (l2::rows [2] ([]:List (Dp.Hd (List Int))) ([]:List (List Int))::aK 69 K none 0 ([]:List Edge)::aK 9 K none 0 ([]:List aU)::aK 35 K c0 c1 (eD a3 V)::rows [2] a3 V::aK 69 K l m e::box c 27 d::L) n5:=aI.nil (α:=Cells _) (aI.rowsNil (α:=(List Int)) (tys:=[2]) u6) 35 K
         obtain rfl:=zI u
         exact bV (aV (aV (aCS results23 (fV (vs:=d) rfl dJ n6 (i:=7) rfl i7 rfl) (qA rfl rfl) (qA rfl rfl) ⟨none,0,none,0,none,0,([]:List (Dp.Hd (List Int))),rfl,rfl,(aI.arr 8 [3,2,0,1] n6 rfl)⟩)))
        ·refine aJ i8 rfl (bA (aA (aP (aN n1 (aN n2 (aN n3 (aN u0 (aD (dL (vs:=[(0,i64 j),(1,i64 q),(2,i64 b4)]) (cs:=[i64 j,i64 q,i64 b4]) aFy rfl (by kernel_rfl)) (bR (Kt:=K) (xs:=([⟨j,q,b4⟩]:List Edge)) (cs:=[i64 j,i64 q,i64 b4]) (vs:=[(0,zA #[i64 j,i64 q,i64 b4])]) cM gZ rfl rfl n4 rfl (by kernel_rfl) rfl rfl rfl ⟨rfl,trivial⟩ (fun u8 u9 (v0:aI G K (aK 69 K u8 1 ([⟨j,q,b4⟩]:List Edge)::aK 35 K c0 c1 (eD a3 V)::rows [2] a3 V::aK 69 K l m e::box c 27 d::L) u9)=>?_))))))))))
         obtain ⟨i9,v1,a⟩:=aB a
         exact dG (i:=2) cM underlying25 gZ rfl rfl v0 rfl (zR _) (zR _) v1 rfl rfl rfl rfl (fun _ h=>h) (fun j0 j1 v2 (v3:aI G K (aK 35 K c0 c1 (eD a3 V)::rows [2] a3 V::aK 69 K j0 j1 i9::box c 27 d::L) v2)=>(aF (v:=zS j0 i9.length j1) (aZ (bC (aA ⟨V,i9,c0,c1,a3,j0,j1,a,t8,i7,t9,rfl,n2,n3,u1,(aI.arr 3 [2,0,1] v3 rfl)⟩)))))
       refine aL (aN n0 (aD (cL rfl rfl) (aG ?_)))
       rcases aH a with ⟨j2,a⟩|⟨j2,a⟩
       ·refine aM j2 rfl (aQ (aL (aN g5 (aD (bU (len:=b.length) oQ rfl) (aD (gE rfl rfl) (aG ?_))))))
        rcases aH a with ⟨j3,a⟩|⟨j3,a⟩
        ·refine aM j3 rfl (aL (aD (dL (vs:=[]) (cs:=d) rW rfl (by kernel_rfl)) (bY (i:=4) (ns:=d) (us:=d) sizeOf27 i6 rfl g4 rfl rfl rfl (dE rfl) rfl rfl (fun n7 (v4:aI G K (aK 35 K z J (eD g b)::rows [2] g b::aK 2 K o p n::aK 69 K l m e::box c 27 d::L) n7)=>(aF (v:=zS none 0 0) (aF (v:=zB false) (aG (bM (aV (aV (bV (aV (aV (aV ?_))))))))))))))
         have v5:=h8 _ (zI a).symm
         subst v5
         have k:(some (.inr (.inr (⟨0,0,[],[]⟩,[],false))))=some c9:=k
         refine bV (aV (bV (aV (aV (aV ?_)))))
         have v6:=h4 _ (zI k).symm
         subst v6
         have u:(some (⟨0,0,[],[]⟩,[],false))=some R:=u
         have v7:=aI.nil (α:=aU) v4 9 K
         have v8:=aI.nil (α:=Edge) v7 69 K
         have n8:aI G K (l2::rows [2] ([]:List (Dp.Hd (List Int))) ([]:List (List Int))::aK 69 K none 0 ([]:List Edge)::aK 9 K none 0 ([]:List aU)::aK 35 K z J (eD g b)::rows [2] g b::aK 2 K o p n::aK 69 K l m e::box c 27 d::L) n7:=aI.nil (α:=Cells _) (aI.rowsNil (α:=(List Int)) (tys:=[2]) v8) 35 K
         obtain rfl:=zI u
         exact bV (aV (aV (aCS results23 (fV (vs:=d) rfl dJ n8 (i:=8) rfl g4 rfl) (qA rfl rfl) (qA rfl rfl) ⟨none,0,none,0,none,0,([]:List (Dp.Hd (List Int))),rfl,rfl,(aI.arr 9 [3,2,0,1] n8 rfl)⟩)))
        ·refine aJ j3 rfl (bA (aA (aL (aN g5 (aD (bU (len:=b.length) oQ rfl) (aF (v:=i64 (b.length:Int)) (aG (aP (aN g5 (aN t7 ?_))))))))))
         have w0:aI G K (aK 2 K o p n::aK 35 K z J (eD g b)::rows [2] g b::aK 69 K l m e::box c 27 d::L) m5:=(aI.arr 3 [2,0,1] i6 rfl)
         have w1:aI G K (rows [2] ([(o,p)]:List (Dp.Hd (List Int))) [n]::aK 35 K z J (eD g b)::rows [2] g b::aK 69 K l m e::box c 27 d::L) m5:=aI.rowsOne w0
         refine bR (Kt:=K) (xs:=eD ([(o,p)]:List (Dp.Hd (List Int))) ([n]:List (List Int))) (cs:=[zS o n.length p]) (vs:=[(0,zS o n.length p)]) oQ aEB rfl rfl w1 rfl (by kernel_rfl) rfl rfl rfl ⟨rfl,trivial⟩ ?_
         intro w2 w3 (w4:aI G K (aK 35 K w2 1 (eD ([(o,p)]:List (Dp.Hd (List Int))) ([n]:List (List Int)))::rows [2] ([(o,p)]:List (Dp.Hd (List Int))) ([n]:List (List Int))::aK 35 K z J (eD g b)::rows [2] g b::aK 69 K l m e::box c 27 d::L) w3)
         obtain ⟨g6,n9,a⟩:=aB a
         refine WO_appD (i:=0) (tys:=[2]) (hds:=g) (hds2:=([(o,p)]:List (Dp.Hd (List Int)))) oQ underlying53 aEB rfl rfl w4 a5 rfl rfl rfl n9 rfl rfl rfl rfl ?_
         intro j4 j5 w5 (w6:aI G K (aK 35 K j4 j5 (eD (g++([(o,p)]:List (Dp.Hd (List Int)))) g6)::rows [2] (g++([(o,p)]:List (Dp.Hd (List Int)))) g6::aK 69 K l m e::box c 27 d::L) w5)
         exact aF (v:=zS j4 g6.length j5) (aG ⟨g6,(b.length:Int),j4,j5,(g++([(o,p)]:List (Dp.Hd (List Int)))),a,m6,g4,rfl,m7,m8,m9,rfl,(app_len a5 rfl n9),w6⟩)
       ·exact aJ j2 rfl (bA (aA ⟨b,g3,z,J,g,a,m6,g4,g5,m7,m8,m9,n0,a5,(aI.arr 3 [0,1] i6 rfl)⟩))
      obtain ⟨a09,w7,a⟩:=aB a
      refine cE w7 (fun (s:(Int × Int)) f w=>match s with|(d0,b5)=>f 0=cU a1 y∧f 2=zP (some ⟨c,0,none⟩)∧f 5=zS z b.length J∧f 6=zS l e.length m∧f 7=i64 j∧f 8=i64 q∧f 9=zS o n.length p∧f 10=i64 d0∧f 11=i64 b5∧aI G K (aK 35 K z J (eD g b)::rows [2] g b::aK 2 K o p n::aK 69 K l m e::box c 27 d::L) w) ?_ ?_
      ·exact ⟨e0,i0,f6,i1,f7,f8,rfl,rfl,rfl,m4⟩
      ·rintro ⟨d0,b5⟩ o0 f a10 x w8 ⟨j6,j7,e5,j8,j9,k0,g7,o1,e6,k1⟩
       replace x:nV b n d0 b5=some o0:=x
       unfold nV at x
       refine aQ (aL (aN e6 (aN e5 (aD (bU (len:=b.length) oQ rfl) (aD (cL rfl rfl) (aG ?_))))))
       rcases aH x with ⟨k3,x⟩|⟨k3,x⟩
       ·refine aM k3 rfl (bA (aA (aQ (bB (fun f w=>∃ (g8:Int),yM b5 g8=some o0∧f 0=cU a1 y∧f 2=zP (some ⟨c,0,none⟩)∧f 5=zS z b.length J∧f 6=zS l e.length m∧f 7=i64 j∧f 8=i64 q∧f 9=zS o n.length p∧f 10=i64 g8∧f 11=i64 b5∧aI G K (aK 35 K z J (eD g b)::rows [2] g b::aK 2 K o p n::aK 69 K l m e::box c 27 d::L) w) ?_ ?_))))
        ·rintro f a11 ⟨g8,x,w9,x0,x1,x2,x3,x4,x5,x6,x7,x8⟩
         unfold yM at x
         exact aA (aP (aN x7 (aD (cP rfl rfl) (aF (v:=i64 (wr (b5+1))) (aG ⟨(g8,wr (b5+1)),(zI x).symm,w9,x0,x1,x2,x3,x4,x5,x6,rfl,x8⟩)))))
        refine aL (aN e5 (aN e6 ?_))
        obtain ⟨x9,g9,x⟩:=aB x
        refine aD (dT oQ rfl m3 rfl rfl rfl g9) ?_
        obtain ⟨⟨y0,y1⟩,o2⟩:=get_hd a5 g9
        refine aD (gP (t:=0) aIt k1 (i:=0) rfl (aIj a5 g9 o2) rfl rfl rfl) (aN g7 ?_)
        obtain ⟨a12,y2,a13,y3,y4,y5⟩:=aI.lendD' (i:=0) k1 a5 rfl rfl
        obtain ⟨a14,y6,y7,y8,y9⟩:=aI.lendS (i:=0) y4 y2 rfl
        obtain ⟨a16,z0,x⟩:=aB x
        refine aS (vs:=[zS y0 x9.length y1,zS o n.length p]) call54 rfl (tL y8 ((rd_row (y3 _ _ _ o2 (ix_at g9))).mono y6) y7 z0) ?_
        rintro _ a17 ⟨rfl,z1⟩
        have z2:=y9 _ _ z1
        have o3:=y5 _ _ z2
        refine aG ?_
        rcases aH x with ⟨k4,x⟩|⟨k4,x⟩
        ·exact aM k4 rfl (aP (aN e6 (aF (v:=i64 b5) (aZ (bC (aA ⟨b5,x,j6,j7,e5,j8,j9,k0,g7,rfl,e6,o3⟩))))))
        ·exact aJ k4 rfl (bA (bC (aA ⟨d0,x,j6,j7,e5,j8,j9,k0,g7,o1,e6,o3⟩)))
       ·refine aJ k3 rfl (cA (aT (aT ?_)))
        have z3:=w8 _ (zI x).symm
        subst z3
        have a:(qH j b e q n d0)=some d9:=a
        exact bJ (aA ⟨d0,a,j6,j7,e5,j8,j9,k0,g7,o1,k1⟩)
    ·refine aJ i2 rfl (cA (aT (aT ?_)))
     have z4:=h8 _ (zI a).symm
     subst z4
     have k:(yK j b e)=some c9:=k
     exact bJ (aA ⟨b,e,z,J,g,l,m,k,e0,i0,f6,i1,f7,a5,e1⟩)
  ·refine aJ h7 rfl (cA (aT (aT ?_)))
   have z5:=h4 _ (zI k).symm
   subst z5
   have u:(uM t b3 c6)=some R:=u
   exact bJ (aA ⟨b3,c6,d1,d2,c7,d3,d4,u,l7,l8,h5,l9,m1,m2⟩)
theorem aJP {t:cG} {j:Nat} {R:cG} (hs:aI G K (L) w) (g:kK K a1 j (zC t a4 c5 a7 c8)) (h6:cX K a4 c5 t.L) (h9:cX K a7 c8 t.E) (n:aDy t=some R):
  Calls Tryz.prog 24 ([cU a1 j]:List Value).toArray w (gK fun v w'=>∃ (q:Option Addr) (r:Nat) (u:Option Addr) (x:Nat),v=zA (zCa R q r u x)∧aI G K (aK 9 K q r R.L::aK 69 K u x R.E::L) w'):=by
 let k:=zG
 let o:=[i64 t.N,i64 t.I,zS none 0 0,zS none 0 0]
 refine aW func24 rfl (by kernel_rfl) (by show (1:Nat)≤28;decide) ?_
 unfold aDy at n
 refine aL (bW (vs:=k) zeroValue27 hs rfl (fun l c6 y=>(aG (aQ (fK (C:=fun w'=>∃ L',aI G K L' w') [(0,0),(1,0),(2,0),(3,0),(4,0),(5,0),(6,0),(7,0),(8,0),(9,1),(10,2)] bZ (by kernel_rfl) (fun _ hg=>⟨_,aI.mono y hg⟩) (fun c7 a6=>?_))))))
 have p:=aI.mono y a6
 refine bS rfl (fun _ _=>bE (v:=cU a1 j) rfl) (bS rfl (fun _ _=>cJ rfl g) (bS rfl (fun _ _=>bO (k':=j+0) gS rfl g rfl) (bS rfl (fun _ ⟨_,p⟩=>bH (t:=0) cK p g rfl rfl) (bS rfl (fun _ _=>bE (v:=cU a1 j) rfl) (bS rfl (fun _ _=>cJ rfl g) (bS rfl (fun _ _=>bO (k':=j+1) oP rfl g rfl) (bS rfl (fun _ ⟨_,p⟩=>bH (t:=1) cK p g rfl rfl) (bS rfl (fun _ _=>dL (vs:=[(0,i64 t.N),(1,i64 t.I)]) (cs:=o) rW rfl (by kernel_rfl)) (kY rfl (bW (vs:=k) zeroValue27 p rfl (fun m c9 z=>(aZ (aA ⟨⟨_,z⟩,?_⟩)))))))))))))
 refine aGa rfl (bY (i:=0) (ns:=o) (us:=o) sizeOf27 z rfl rfl rfl rfl rfl (dE rfl) rfl rfl (fun a8 (a9:aI G K (box m 27 o::box l 27 k::L) a8)=>(aG (lF (aA (aL (bR (Kt:=K) (xs:=([]:List aU)) (cs:=[]) (vs:=[]) bX gJ rfl rfl a9 rfl (by kernel_rfl) rfl rfl rfl trivial (fun b0 b1 (J:aI G K (aK 9 K b0 0 ([]:List aU)::box m 27 o::box l 27 k::L) b1)=>(aO (v:=cU a1 j) (aD (cJ rfl g) (aD (bO (k':=j+2) fL rfl g rfl) (aD (bH (t:=2) iT J g rfl rfl) ?_))))))))))))
 obtain ⟨c,b2,n⟩:=aB n
 refine lW (i:=0) bX underlying24 gJ rfl rfl J rfl (zR _) h6 b2 rfl rfl rfl rfl (fun a b b3 (b4:aI G K (aK 9 K a b c::box m 27 o::box l 27 k::L) b3)=>(aD (bT (t':=2) fL rfl rfl) (bY (i:=1) (ns:=[zS a c.length b]) (us:=[i64 t.N,i64 t.I,zS a c.length b,zS none 0 0]) sizeOf24 b4 rfl rfl rfl rfl rfl (dE rfl) rfl rfl (fun b5 (b6:aI G K (aK 9 K a b c::box m 27 [i64 t.N,i64 t.I,zS a c.length b,zS none 0 0]::box l 27 k::L) b5)=>(aG (aL (bR (Kt:=K) (xs:=([]:List Edge)) (cs:=[]) (vs:=[]) cM gZ rfl rfl b6 rfl (by kernel_rfl) rfl rfl rfl trivial (fun b7 b8 (V:aI G K (aK 69 K b7 0 ([]:List Edge)::aK 9 K a b c::box m 27 [i64 t.N,i64 t.I,zS a c.length b,zS none 0 0]::box l 27 k::L) b8)=>(aO (v:=cU a1 j) (aD (cJ rfl g) (aD (bO (k':=j+3) cV rfl g rfl) (aD (bH (t:=3) fH V g rfl rfl) ?_))))))))))))
 obtain ⟨h,b9,n⟩:=aB n
 refine lW (i:=0) cM underlying25 gZ rfl rfl V rfl (zR _) h9 b9 rfl rfl rfl rfl (fun d e c0 (c1:aI G K (aK 69 K d e h::aK 9 K a b c::box m 27 [i64 t.N,i64 t.I,zS a c.length b,zS none 0 0]::box l 27 k::L) c0)=>(aD (bT (t':=3) cV rfl rfl) (bY (i:=2) (ns:=[zS d h.length e]) (us:=[i64 t.N,i64 t.I,zS a c.length b,zS d h.length e]) sizeOf25 c1 rfl rfl rfl rfl rfl (dE rfl) rfl rfl (fun c2 (Z:aI G K (aK 69 K d e h::aK 9 K a b c::box m 27 [i64 t.N,i64 t.I,zS a c.length b,zS d h.length e]::box l 27 k::L) c2)=>(aG (aL (aD (eI (us:=[i64 t.N,i64 t.I,zS a c.length b,zS d h.length e]) dJ Z (i:=2) rfl rfl rfl rfl) (bY (i:=3) (ns:=[i64 t.N,i64 t.I,zS a c.length b,zS d h.length e]) (us:=[i64 t.N,i64 t.I,zS a c.length b,zS d h.length e]) sizeOf27 Z rfl rfl rfl rfl rfl (dE rfl) rfl rfl (fun c3 (a0:aI G K (aK 69 K d e h::aK 9 K a b c::box m 27 [i64 t.N,i64 t.I,zS a c.length b,zS d h.length e]::box l 27 [i64 t.N,i64 t.I,zS a c.length b,zS d h.length e]::L) c3)=>(aG ?_))))))))))
 obtain rfl:=zI n
 exact bM (vY results24 (fV (vs:=[i64 t.N,i64 t.I,zS a c.length b,zS d h.length e]) rfl dJ a0 (i:=3) rfl rfl rfl) ⟨a,b,d,e,rfl,(aI.arr 4 [1,0] a0 rfl)⟩)
end Gv
