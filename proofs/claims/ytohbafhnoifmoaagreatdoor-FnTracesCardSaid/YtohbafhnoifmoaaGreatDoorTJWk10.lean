/- Walks, printed by program. -/
import Derived.Test.YtohbafhnoifmoaaGreatDoorTJWk1
import Derived.Test.YtohbafhnoifmoaaGreatDoorTJWk5
import Derived.Test.YtohbafhnoifmoaaGreatDoorTJWk6
import Derived.Test.YtohbafhnoifmoaaGreatDoorTJWk7
import Derived.Test.YtohbafhnoifmoaaGreatDoorTJWk8
import Derived.Test.YtohbafhnoifmoaaGreatDoorTJWk9
set_option linter.all false
namespace Gv
open Go.Value renaming slice→zS,bool→zB,pointer→zP,agg→zA,tuple→zT
open Option.some renaming inj→zI
open Gv.Hp renaming le_trans→zL,le_refl→zR
open Go Go.Proofs Go.Proofs.Tryz
set_option maxRecDepth 20000
set_option maxHeartbeats 40000000
variable {G:Env} {K:Hp} {L:List nJ} {w:World} {a1 a4 a7:Option Addr} {c2 c5 c8:Nat}
theorem aHP {t:cG} {n:Int} {R:((List (List aU)) × Int)} (hs:aI G K (L) w) (hG:G.lo=0) (h3:cX K a1 c2 t.L) (h6:cX K a4 c5 t.E) (k:aAi t n=some R):
  Calls Tryz.prog 10 ([zA (zCa t a1 c2 a4 c5),i64 n]:List Value).toArray w (gK fun v w'=>∃ (K':Hp) (n1:Option Addr) (n2:Nat),v=zT #[zS n1 R.1.length n2,i64 R.2]∧Hp.le K K'∧aI G K' (aK 24 K' n1 n2 R.1::L) w'):=by
 let d4:=(zC t a1 c2 a4 c5)
 let g5:=[i64 0,i64 0,zS none 0 0]
 refine aW func10 rfl (by kernel_rfl) (by show (2:Nat)≤90;decide) ?_
 unfold aAi at k
 refine aL (iI (v:=zA (zCa t a1 c2 a4 c5)) (vs:=d4) hs rfl rfl (fun b7 w8 n3=>(aF (v:=zS none 0 0) (aF (v:=i64 0) (aG (aL (aD (eI (us:=d4) dJ n3 (i:=0) rfl rfl rfl rfl) (aO (v:=i64 n) ?_))))))))
 obtain ⟨c,q4,k⟩:=aB k
 refine aS (vs:=[zA (zCa t a1 c2 a4 c5),i64 n]) call31 rfl (aGV n3 hG h3 h6 q4) ?_
 rintro _ w16 ⟨b8,b9,b4,b5,rfl,q5⟩
 refine aO (v:=zT #[zA (zCa c.1 b8 b9 b4 b5),i64 c.2]) (aD (bQ rfl rfl) (aD (bQ rfl rfl) (bW (vs:=zG) zeroValue27 q5 rfl (fun c0 w19 q6=>(bY (i:=0) (ns:=(zC c.1 b8 b9 b4 b5)) (us:=(zC c.1 b8 b9 b4 b5)) sizeOf27 q6 rfl rfl rfl rfl rfl (dE rfl) rfl rfl (fun g6 (q7:aI G K (box c0 27 (zC c.1 b8 b9 b4 b5)::aK 9 K b8 b9 c.1.L::aK 69 K b4 b5 c.1.E::box b7 27 d4::L) g6)=>?_))))))
 obtain ⟨q8,b6,i6,i7⟩:=aI.giveS (i:=1) q7 (zR _) rfl
 replace i7:aI G q8 (box c0 27 (zC c.1 b8 b9 b4 b5)::aK 69 K b4 b5 c.1.E::box b7 27 d4::L) g6:=i7
 obtain ⟨q9,a9,r0,i8⟩:=aI.giveS (i:=1) i7 b6 rfl
 replace i8:aI G q9 (box c0 27 (zC c.1 b8 b9 b4 b5)::box b7 27 d4::L) g6:=i8
 obtain ⟨c1,a8,i9,g7,_⟩:=aI.lendB (i:=0) i8 rfl
 replace g7:aI G c1 (box b7 27 d4::L) g6:=g7
 refine aF (v:=i64 c.2) (aG (aQ (aL (aO (v:=i64 c.2) (aD (aBw rfl rfl) (aG ?_))))))
 rcases aH k with ⟨j0,k⟩|⟨j0,k⟩
 ·refine aM j0 rfl (aL (aO (v:=i64 c.2) (aF (v:=zS none 0 0) (aF (v:=i64 c.2) (aG ?_)))))
  have r1:=aI.nil (α:=(List aU)) g7 24 c1
  obtain rfl:=zI k
  exact bM (aV (kF results10 rfl rfl ⟨c1,none,0,rfl,(zL (zL b6 a9) a8),(aI.arr 2 [0] r1 rfl)⟩))
 ·refine aJ j0 rfl (bA (aA (aL (aD (dL (vs:=[(0,i64 0)]) (cs:=g5) aDq rfl (by kernel_rfl)) (bR (Kt:=c1) (xs:=([⟨0,0,[]⟩]:List aY)) (cs:=g5) (vs:=[(0,zA #[i64 0,i64 0,zS none 0 0])]) kP sE rfl rfl g7 rfl (by kernel_rfl) rfl rfl rfl ⟨⟨none,0,rfl,tW _⟩,trivial⟩ (fun j1 r3 (r4:aI G c1 (aK 65 c1 j1 1 ([⟨0,0,[]⟩]:List aY)::box b7 27 d4::L) r3)=>(aF (v:=zS j1 ([⟨0,0,[]⟩]:List aY).length 1) (aG (aQ (aL (aF (v:=i64 0) (aG (bB (fun f w=>∃ (a0:Hp) (a7:List aY) (c3:Option Addr) (c45:Nat),Hp.le c1 a0∧vT a7=some R∧f 8=zS c3 a7.length c45∧aI G a0 (aK 65 a0 c3 c45 a7::L) w) ?_ ?_)))))))))))))
  ·rintro f w47 ⟨a0,a7,c3,c45,n4,k,n5,n6⟩
   unfold vT at k
   refine aA (aQ (aL (aN n5 (aD (bU (len:=a7.length) kP rfl) (aD (kZ rfl rfl) (aG ?_))))))
   rcases aH k with ⟨j2,k⟩|⟨j2,k⟩
   ·refine aM j2 rfl (aL (aF (v:=zS none 0 0) (aF (v:=i64 5) (aG ?_))))
    have r5:=aI.nil (α:=(List aU)) n6 24 a0
    obtain rfl:=zI k
    exact bM (aV (kF results10 rfl rfl ⟨a0,none,0,rfl,(zL (zL (zL b6 a9) a8) n4),(aI.arr 2 [0] r5 rfl)⟩))
   ·refine aJ j2 rfl (bA (aA (aL (aF (v:=zS none 0 0) (aG (aQ (aL (aN n5 (aD (bU (len:=a7.length) kP rfl) (aO (v:=i64 0) (aG (bB (fun f w=>∃ (f1:Hp) (f2:List (List aU)) (f3:Option Addr) (f4:Nat),Hp.le a0 f1∧aAJ f2=some R∧f 13=zS f3 f2.length f4∧aI G f1 (aK 24 f1 f3 f4 f2::L) w) ?_ ?_))))))))))))
    ·rintro f w58 ⟨f1,f2,f3,f4,r7,k,r8,r9⟩
     unfold aAJ at k
     refine aA (aL (aN r8 (aF (v:=zS f3 f2.length f4) (aF (v:=i64 0) (aG ?_)))))
     obtain rfl:=zI k
     exact bM (kF results10 rfl rfl ⟨f1,f3,f4,rfl,(zL (zL (zL (zL b6 a9) a8) n4) r7),r9⟩)
    have s1:=aI.nil (α:=(List aU)) n6 24 a0
    obtain ⟨a17,s2,k⟩:=aB k
    refine cE s2 (fun (s:(List (List aU) × Int)) f w=>match s with|(c4,f5)=>∃ (c6:Hp) (d5:Option Addr) (d6:Nat),Hp.le a0 c6∧f 13=zS d5 c4.length d6∧f 77=zS c3 a7.length c45∧f 78=i64 (a7.length:Int)∧f 79=i64 f5∧aI G c6 (aK 24 c6 d5 d6 c4::aK 65 a0 c3 c45 a7::L) w) ?_ ?_
    ·exact ⟨a0,none,0,(zR _),rfl,rfl,rfl,rfl,s1⟩
    ·rintro ⟨c4,f5⟩ s3 f w89 b0 s4 ⟨c6,d5,d6,j3,n7,n8,n9,j4,g8⟩
     replace b0:kL a7 c4 f5=some s3:=b0
     unfold kL at b0
     refine aL (aD (cL j4 n9) (aG (aQ ?_)))
     rcases aH b0 with ⟨j5,b0⟩|⟨j5,b0⟩
     ·refine aM j5 rfl (bA (aA (aQ (cY (aL ?_)))))
      obtain ⟨V,j6,b0⟩:=aB b0
      have s5:=dA g8 (i:=1) rfl j6
      refine aD (dT kP rfl s5 n8 rfl j4 j6) ?_
      obtain ⟨a19,s6,s7⟩:=aIk (sz:=3) rfl g8 (i:=1) rfl j6
      obtain ⟨d7,d8,rfl,s8⟩:=s7
      refine aD (aKM (t:=0) (vs:=[i64 V.a,i64 V.b,zS d7 V.trace.length d8]) ag_65 s6 rfl rfl rfl) (bW (vs:=g5) zeroValue65 g8 rfl (fun s9 a20 t0=>(bY (i:=0) (ns:=[i64 V.a,i64 V.b,zS d7 V.trace.length d8]) (us:=[i64 V.a,i64 V.b,zS d7 V.trace.length d8]) sizeOf65 t0 rfl rfl rfl rfl rfl (dE rfl) rfl rfl (fun o0 (t1:aI G c6 (box s9 65 [i64 V.a,i64 V.b,zS d7 V.trace.length d8]::aK 24 c6 d5 d6 c4::aK 65 a0 c3 c45 a7::L) o0)=>?_))))
      obtain ⟨d0,j7,o1,g9,_⟩:=aI.lendB (i:=0) t1 rfl
      replace g9:aI G d0 (aK 24 c6 d5 d6 c4::aK 65 a0 c3 c45 a7::L) o0:=g9
      refine aG (aP (aN n7 (aD (bO (k':=0+2) aDX (iQ rfl) o1 rfl) (aD (bH (t:=2) iT g9 o1 rfl rfl) (bR (Kt:=d0) (xs:=([V.trace]:List (List aU))) (cs:=[zS d7 V.trace.length d8]) (vs:=[(0,zS d7 V.trace.length d8)]) aED ez_24 rfl rfl g9 rfl (by kernel_rfl) rfl rfl rfl ⟨⟨d7,d8,rfl,(s8.mono (zL j3 j7))⟩,trivial⟩ (fun t2 t3 (t4:aI G d0 (aK 24 d0 t2 1 ([V.trace]:List (List aU))::aK 24 c6 d5 d6 c4::aK 65 a0 c3 c45 a7::L) t3)=>?_))))))
      obtain ⟨j8,t5,b0⟩:=aB b0
      exact vX (i:=0) d0 aED underlying32 ez_24 rfl rfl t4 rfl j7 (zR _) t5 rfl rfl rfl rfl (fun _ _ _ h=>El.one h) (fun j9 k0 t6 (t7:aI G d0 (aK 24 d0 j9 k0 j8::aK 65 a0 c3 c45 a7::L) t6)=>(aF (v:=zS j9 j8.length k0) (aZ (bC (aA (aP (aD (cP j4 rfl) (aO (v:=i64 (wr (f5+1))) (aG ⟨(j8,wr (f5+1)),(zI b0).symm,d0,j9,k0,(zL j3 j7),rfl,n8,n9,rfl,t7⟩)))))))))
     ·refine aJ j5 rfl (cA (aT (aT ?_)))
      have t8:=s4 _ (zI b0).symm
      subst t8
      have k:(aAJ c4)=some R:=k
      exact bJ (aA ⟨c6,c4,d5,d6,j3,k,n7,(aI.arr 2 [0] g8 rfl)⟩)
  obtain ⟨a21,t9,k⟩:=aB k
  refine cE t9 (fun (s:(List aY × Int)) f w=>match s with|(p,a2)=>∃ (b3:Hp) (b1:Option Addr) (b2:Nat),Hp.le c1 b3∧f 1=i64 n∧f 6=cU (some ⟨c0,0,none⟩) 0∧f 8=zS b1 p.length b2∧f 9=i64 a2∧aI G b3 (aK 65 b3 b1 b2 p::L) w) ?_ ?_
  ·exact ⟨c1,j1,1,(zR _),rfl,(iQ rfl),rfl,rfl,(aI.arr 2 [0] r4 rfl)⟩
  ·rintro ⟨p,a2⟩ f6 f a22 d u0 ⟨b3,b1,b2,a3,o2,o3,h0,k1,o4⟩
   replace d:iJ n c p a2=some f6:=d
   unfold iJ at d
   refine aQ (aQ (cN (fun f w=>∃ (k2:Bool),oK n c p a2 k2=some f6∧f 1=i64 n∧f 6=cU (some ⟨c0,0,none⟩) 0∧f 8=zS b1 p.length b2∧f 9=i64 a2∧f 35=zB k2∧aI G b3 (aK 65 b3 b1 b2 p::L) w) ?_ ?_))
   ·rintro f a23 ⟨k2,d,k3,k4,h1,k5,o5,h2⟩
    unfold oK at d
    refine aA ?_
    rcases aH d with ⟨k6,d⟩|⟨k6,d⟩
    ·refine aM k6 o5 (bA (aA (aQ (bB (fun f w=>∃ (f7:Hp) (f8:List aY) (h4:Option Addr) (h5:Nat),Hp.le b3 f7∧rP a2 f8=some f6∧f 1=i64 n∧f 6=cU (some ⟨c0,0,none⟩) 0∧f 8=zS h4 f8.length h5∧f 9=i64 a2∧aI G f7 (aK 65 f7 h4 h5 f8::L) w) ?_ ?_))))
     ·rintro f a24 ⟨f7,f8,h4,h5,u1,d,u2,u3,u4,u5,u6⟩
      unfold rP at d
      exact aA (aP (aN u5 (aD (cP rfl rfl) (aF (v:=i64 (wr (a2+1))) (aG ⟨(f8,wr (a2+1)),(zI d).symm,f7,h4,h5,(zL a3 u1),u2,u3,u4,rfl,u6⟩)))))
     refine aL (aN h1 (aN k5 ?_))
     obtain ⟨x,k7,d⟩:=aB d
     have u7:=dA h2 (i:=0) rfl k7
     refine aD (dT kP rfl u7 rfl rfl rfl k7) ?_
     obtain ⟨a25,u8,u9⟩:=aIk (sz:=3) rfl h2 (i:=0) rfl k7
     obtain ⟨e3,e4,rfl,o6⟩:=u9
     refine aD (aKM (t:=0) (vs:=[i64 x.a,i64 x.b,zS e3 x.trace.length e4]) ag_65 u8 rfl rfl rfl) (bW (vs:=g5) zeroValue65 h2 rfl (fun k8 a26 v0=>(bY (i:=0) (ns:=[i64 x.a,i64 x.b,zS e3 x.trace.length e4]) (us:=[i64 x.a,i64 x.b,zS e3 x.trace.length e4]) sizeOf65 v0 rfl rfl rfl rfl rfl (dE rfl) rfl rfl (fun k9 (v1:aI G b3 (box k8 65 [i64 x.a,i64 x.b,zS e3 x.trace.length e4]::aK 65 b3 b1 b2 p::L) k9)=>?_))))
     obtain ⟨c7,q,e5,d9,_⟩:=aI.lendB (i:=0) v1 rfl
     replace d9:aI G c7 (aK 65 b3 b1 b2 p::L) k9:=d9
     refine aG (aQ (aL (aD (bO (k':=0+2) aDX (iQ rfl) e5 rfl) (aD (bH (t:=2) iT d9 e5 rfl rfl) (aD (bU (len:=x.trace.length) bX rfl) (aN k3 (aD (gE rfl rfl) (aG ?_))))))))
     rcases aH d with ⟨l0,d⟩|⟨l0,d⟩
     ·refine aM l0 rfl ?_
      have v2:aI G c7 (aK 65 c7 b1 b2 p::L) k9:=aI.weak (i:=0) d9 rfl (fun _ h=>aK.mono q h)
      exact cA (aT (bJ (aA ⟨c7,p,b1,b2,q,d,k3,k4,h1,k5,v2⟩)))
     ·refine aJ l0 rfl (bA (aA (aL (aD (gT (t:=0) (vs:=(zC c.1 b8 b9 b4 b5)) dJ d9 (i9.mono (zL a3 q)) k4 rfl rfl) (aD (bO (k':=0+0) tX (iQ rfl) e5 rfl) (aD (bH (t:=0) cK d9 e5 rfl rfl) ?_))))))
      obtain ⟨o,v3,d⟩:=aB d
      refine aS (vs:=[zA (zCa c.1 b8 b9 b4 b5),i64 x.a]) call32 rfl (aIM d9 (i6.mono (zL (zL (zL a9 a8) a3) q)) (r0.mono (zL (zL a8 a3) q)) v3) ?_
      rintro _ v4 ⟨r,u,rfl,v5⟩
      refine aD (bU (len:=o.length) cM rfl) (aO (v:=i64 0) (aG (bB (fun f w=>∃ (f9:Hp) (g0:List aY) (h7:Option Addr) (h8:Nat),Hp.le c7 f9∧aAK a2 g0=some f6∧f 1=i64 n∧f 6=cU (some ⟨c0,0,none⟩) 0∧f 8=zS h7 g0.length h8∧f 9=i64 a2∧aI G f9 (aK 65 f9 h7 h8 g0::L) w) ?_ ?_)))
      ·rintro f a27 ⟨f9,g0,h7,h8,v6,d,v7,v8,v9,w0,w1⟩
       unfold aAK at d
       exact bC (aA ⟨f9,g0,h7,h8,(zL q v6),d,v7,v8,v9,w0,w1⟩)
      have w2:aI G c7 (aK 69 K r u o::aK 65 c7 b1 b2 p::L) v4:=aI.weak (i:=1) v5 rfl (fun _ h=>aK.mono q h)
      obtain ⟨a28,w3,d⟩:=aB d
      refine cE w3 (fun (s:(List aY × Int)) f w=>match s with|(y,e0)=>∃ (z:Hp) (a5:Option Addr) (a6:Nat),Hp.le c7 z∧f 1=i64 n∧f 6=cU (some ⟨c0,0,none⟩) 0∧f 8=zS a5 y.length a6∧f 9=i64 a2∧f 10=cU (some ⟨k8,0,none⟩) 0∧f 50=zS r o.length u∧f 51=i64 (o.length:Int)∧f 52=i64 e0∧aI G z (aK 69 K r u o::aK 65 z a5 a6 y::L) w) ?_ ?_
      ·exact ⟨c7,b1,b2,(zR _),k3,k4,h1,k5,(iQ rfl),rfl,rfl,rfl,w2⟩
      ·rintro ⟨y,e0⟩ o7 f a29 e w4 ⟨z,a5,a6,Z,l1,h9,o8,l2,l3,l4,l5,i0,i1⟩
       replace e:kM c x o y e0=some o7:=e
       unfold kM at e
       refine aL (aD (cL i0 l5) (aG (aQ ?_)))
       rcases aH e with ⟨l6,e⟩|⟨l6,e⟩
       ·refine aM l6 rfl (bA (aA (aQ (cY (aL ?_)))))
        obtain ⟨l,l7,e⟩:=aB e
        have w5:=dA i1 (i:=0) rfl l7
        refine aD (dT cM rfl w5 l4 rfl i0 l7) (aD (aDU (t:=0) (vs:=[i64 l.F,i64 l.B,i64 l.To]) mQ i1 (i:=0) rfl l7 rfl rfl rfl rfl) (bW (vs:=[i64 0,i64 0,i64 0]) zeroValue69 i1 rfl (fun w6 a30 w7=>(bY (i:=0) (ns:=[i64 l.F,i64 l.B,i64 l.To]) (us:=[i64 l.F,i64 l.B,i64 l.To]) sizeOf69 w7 rfl rfl rfl rfl rfl (dE rfl) rfl rfl (fun o9 (w9:aI G z (box w6 69 [i64 l.F,i64 l.B,i64 l.To]::aK 69 K r u o::aK 65 z a5 a6 y::L) o9)=>?_)))))
        obtain ⟨d1,J,i2,l8,_⟩:=aI.lendB (i:=0) w9 rfl
        replace l8:aI G d1 (aK 69 K r u o::aK 65 z a5 a6 y::L) o9:=l8
        refine aG (cN (fun f w=>∃ (g1:Hp) (g2:List aY) (i3:Option Addr) (i4:Nat),Hp.le d1 g1∧aAL e0 g2=some o7∧f 1=i64 n∧f 6=cU (some ⟨c0,0,none⟩) 0∧f 8=zS i3 g2.length i4∧f 9=i64 a2∧f 10=cU (some ⟨k8,0,none⟩) 0∧f 50=zS r o.length u∧f 51=i64 (o.length:Int)∧f 52=i64 e0∧aI G g1 (aK 65 g1 i3 i4 g2::aK 69 K r u o::L) w) ?_ ?_)
        ·rintro f a31 ⟨g1,g2,i3,i4,x0,e,x1,x2,x3,x4,x5,x6,x7,x8,x9⟩
         unfold aAL at e
         exact bC (aA (aP (aD (cP x8 rfl) (aO (v:=i64 (wr (e0+1))) (aG ⟨(g2,wr (e0+1)),(zI e).symm,g1,i3,i4,(zL (zL Z J) x0),x1,x2,x3,x4,x5,x6,x7,rfl,(aI.arr 2 [1,0] x9 rfl)⟩)))))
        refine zZ (C:=fun w'=>∃ L',aI G d1 L' w') [] bZ (by kernel_rfl) (fun a32 y0=>?_)
        have m:=aI.mono l8 y0
        refine dZ (i:=0) rfl (by kernel_rfl) ⟨_,m⟩ (fun _ _=>bE o8) (dZ (i:=1) rfl (by kernel_rfl) ⟨_,m⟩ (fun _ _=>bO (k':=0+2) gR (iQ rfl) i2 rfl) (dZ (i:=2) rfl (by kernel_rfl) ⟨_,m⟩ (fun _ ⟨_,m⟩=>bH (t:=2) cK m i2 rfl rfl) (dZ (i:=3) rfl (by kernel_rfl) ⟨_,m⟩ (fun _ _=>bO (k':=0+2) aDX l3 (e5.mono (zL Z J)) rfl) (dZ (i:=4) rfl (by kernel_rfl) ⟨_,m⟩ (fun _ ⟨_,m⟩=>bH (t:=2) iT m (e5.mono (zL Z J)) rfl rfl) (dZ (i:=6) rfl (by kernel_rfl) ⟨_,m⟩ (fun _ _=>bO (k':=0+2) fL h9 (i9.mono (zL (zL (zL a3 q) Z) J)) rfl) (dZ (i:=7) rfl (by kernel_rfl) ⟨_,m⟩ (fun _ ⟨_,m⟩=>bH (t:=2) iT m (i9.mono (zL (zL (zL a3 q) Z) J)) rfl rfl) (dZ (i:=8) rfl (by kernel_rfl) ⟨_,m⟩ (fun _ _=>bO (k':=0+1) iZ (iQ rfl) i2 rfl) (dZ (i:=9) rfl (by kernel_rfl) ⟨_,m⟩ (fun _ ⟨_,m⟩=>bH (t:=1) cK m i2 rfl rfl) ?_))))))))
        obtain ⟨c8,p0,e⟩:=aB e
        refine dZ (i:=10) rfl (by kernel_rfl) ⟨_,m⟩ (fun _ _=>dI bX rfl (i6.mono (zL (zL (zL (zL (zL a9 a8) a3) q) Z) J)) rfl rfl rfl p0) ?_
        obtain ⟨a33,y1,y2⟩:=cX.el (sz:=1) rfl i6 p0
        cases y2
        refine dZ (i:=11) rfl (by kernel_rfl) ⟨_,m⟩ (fun _ ⟨_,m⟩=>bH (t:=0) qB m (y1.mono (zL (zL (zL (zL (zL a9 a8) a3) q) Z) J)) rfl rfl) (nE (i:=5) (j:=12) (by kernel_rfl) rfl rfl ?_ ?_)
        ·obtain ⟨y3,y4,e⟩:=aB e
         refine aS (vs:=[zS e3 x.trace.length e4]) call33 rfl (cO m (o6.mono (zL (zL q Z) J)) y4) ?_
         rintro _ a34 ⟨y5,y6,rfl,p1⟩
         refine aZ (aA ⟨fun _=>⟨_,p1⟩,?_⟩)
         refine cB (i:=12) (by kernel_rfl) rfl (bR (Kt:=K) (xs:=([c8]:List aU)) (cs:=[str c8]) (vs:=[(0,str c8)]) bX gJ rfl rfl p1 rfl (by kernel_rfl) rfl rfl rfl ⟨rfl,trivial⟩ (fun y7 y8 (p2:aI G d1 (aK 9 K y7 1 ([c8]:List aU)::aK 9 K y5 y6 y3::aK 69 K r u o::aK 65 z a5 a6 y::L) y8)=>(aZ (aA ⟨fun _=>⟨_,p2⟩,?_⟩))))
         refine cB (i:=13) (by kernel_rfl) rfl ?_
         obtain ⟨e1,y9,e⟩:=aB e
         refine dG (i:=0) bX underlying24 gJ rfl rfl p2 rfl (zL (zL (zL (zL (zL (zL b6 a9) a8) a3) q) Z) J) (zL (zL (zL (zL (zL (zL b6 a9) a8) a3) q) Z) J) y9 rfl rfl rfl rfl (fun _ h=>h) (fun e6 e7 p3 (l9:aI G d1 (aK 9 K e6 e7 e1::aK 69 K r u o::aK 65 z a5 a6 y::L) p3)=>(aZ (aA ⟨fun _=>⟨_,l9⟩,?_⟩)))
         refine dZ (i:=14) rfl (by kernel_rfl) ⟨_,l9⟩ (fun _ _=>dL (vs:=[(0,i64 l.To),(2,zS e6 e1.length e7)]) (cs:=[i64 l.To,i64 0,zS e6 e1.length e7]) aDq rfl (by kernel_rfl)) (cB (i:=15) (by kernel_rfl) rfl ?_)
         obtain ⟨d2,g3,z0,m0⟩:=aI.giveS (i:=0) l9 (zL (zL (zL (zL (zL (zL b6 a9) a8) a3) q) Z) J) rfl
         replace m0:aI G d2 (aK 69 K r u o::aK 65 z a5 a6 y::L) p3:=m0
         refine bR (Kt:=d2) (xs:=([⟨l.To,0,e1⟩]:List aY)) (cs:=[i64 l.To,i64 0,zS e6 e1.length e7]) (vs:=[(0,zA #[i64 l.To,i64 0,zS e6 e1.length e7])]) kP sE rfl rfl m0 rfl (by kernel_rfl) rfl rfl rfl ⟨⟨e6,e7,rfl,z0⟩,trivial⟩ (fun z1 z2 (p4:aI G d2 (aK 65 d2 z1 1 ([⟨l.To,0,e1⟩]:List aY)::aK 69 K r u o::aK 65 z a5 a6 y::L) z2)=>(aZ (aA ⟨fun _=>⟨_,(aI.weakK p4 g3)⟩,?_⟩)))
         refine cB (i:=16) (by kernel_rfl) rfl ?_
         obtain ⟨m1,z3,e⟩:=aB e
         refine vX (i:=1) d2 kP underlying66 sE rfl rfl p4 rfl (zL J g3) (zR _) z3 rfl rfl rfl rfl (fun _ _ _ h=>El.one h) (fun m2 m3 z4 (m4:aI G d2 (aK 69 K r u o::aK 65 d2 m2 m3 m1::L) z4)=>(aZ (aA ⟨fun _=>⟨_,(aI.weakK m4 g3)⟩,?_⟩)))
         exact dZ (i:=17) rfl (by kernel_rfl) ⟨_,(aI.weakK m4 g3)⟩ (fun _ _=>dV (v:=zS m2 m1.length m3) rfl) (gL (by kernel_rfl) (aA ⟨d2,m1,m2,m3,g3,e,l1,h9,rfl,l2,l3,l4,l5,i0,(aI.arr 2 [1,0] m4 rfl)⟩))
        ·refine bR (Kt:=K) (xs:=([c8]:List aU)) (cs:=[str c8]) (vs:=[(0,str c8)]) bX gJ rfl rfl m rfl (by kernel_rfl) rfl rfl rfl ⟨rfl,trivial⟩ (fun p5 z5 (p6:aI G d1 (aK 9 K p5 1 ([c8]:List aU)::aK 69 K r u o::aK 65 z a5 a6 y::L) z5)=>(aZ (aA ⟨fun _=>⟨_,p6⟩,?_⟩)))
         refine cB (i:=5) (by kernel_rfl) rfl ?_
         obtain ⟨z6,z7,e⟩:=aB e
         refine aS (vs:=[zS e3 x.trace.length e4]) call33 rfl (cO p6 (o6.mono (zL (zL q Z) J)) z7) ?_
         rintro _ z8 ⟨z9,a00,rfl,p7⟩
         refine aZ (aA ⟨fun _=>⟨_,p7⟩,?_⟩)
         refine cB (i:=13) (by kernel_rfl) rfl ?_
         obtain ⟨e2,a01,e⟩:=aB e
         have a02:aI G d1 (aK 9 K p5 1 ([c8]:List aU)::aK 9 K z9 a00 z6::aK 69 K r u o::aK 65 z a5 a6 y::L) z8:=(aI.arr 2 [1,0] p7 rfl)
         refine dG (i:=0) bX underlying24 gJ rfl rfl a02 rfl (zL (zL (zL (zL (zL (zL b6 a9) a8) a3) q) Z) J) (zL (zL (zL (zL (zL (zL b6 a9) a8) a3) q) Z) J) a01 rfl rfl rfl rfl (fun _ h=>h) (fun e8 e9 p8 (m5:aI G d1 (aK 9 K e8 e9 e2::aK 69 K r u o::aK 65 z a5 a6 y::L) p8)=>(aZ (aA ⟨fun _=>⟨_,m5⟩,?_⟩)))
         refine dZ (i:=14) rfl (by kernel_rfl) ⟨_,m5⟩ (fun _ _=>dL (vs:=[(0,i64 l.To),(2,zS e8 e2.length e9)]) (cs:=[i64 l.To,i64 0,zS e8 e2.length e9]) aDq rfl (by kernel_rfl)) (cB (i:=15) (by kernel_rfl) rfl ?_)
         obtain ⟨d3,g4,a03,m6⟩:=aI.giveS (i:=0) m5 (zL (zL (zL (zL (zL (zL b6 a9) a8) a3) q) Z) J) rfl
         replace m6:aI G d3 (aK 69 K r u o::aK 65 z a5 a6 y::L) p8:=m6
         refine bR (Kt:=d3) (xs:=([⟨l.To,0,e2⟩]:List aY)) (cs:=[i64 l.To,i64 0,zS e8 e2.length e9]) (vs:=[(0,zA #[i64 l.To,i64 0,zS e8 e2.length e9])]) kP sE rfl rfl m6 rfl (by kernel_rfl) rfl rfl rfl ⟨⟨e8,e9,rfl,a03⟩,trivial⟩ (fun a04 a05 (p9:aI G d3 (aK 65 d3 a04 1 ([⟨l.To,0,e2⟩]:List aY)::aK 69 K r u o::aK 65 z a5 a6 y::L) a05)=>(aZ (aA ⟨fun _=>⟨_,(aI.weakK p9 g4)⟩,?_⟩)))
         refine cB (i:=16) (by kernel_rfl) rfl ?_
         obtain ⟨m7,a06,e⟩:=aB e
         refine vX (i:=1) d3 kP underlying66 sE rfl rfl p9 rfl (zL J g4) (zR _) a06 rfl rfl rfl rfl (fun _ _ _ h=>El.one h) (fun m8 m9 a07 (n0:aI G d3 (aK 69 K r u o::aK 65 d3 m8 m9 m7::L) a07)=>(aZ (aA ⟨fun _=>⟨_,(aI.weakK n0 g4)⟩,?_⟩)))
         exact dZ (i:=17) rfl (by kernel_rfl) ⟨_,(aI.weakK n0 g4)⟩ (fun _ _=>dV (v:=zS m8 m7.length m9) rfl) (gL (by kernel_rfl) (aA ⟨d3,m7,m8,m9,g4,e,l1,h9,rfl,l2,l3,l4,l5,i0,(aI.arr 2 [1,0] n0 rfl)⟩))
       ·refine aJ l6 rfl (cA (aT (aT ?_)))
        have a08:=w4 _ (zI e).symm
        subst a08
        have d:(aAK a2 y)=some f6:=d
        exact bJ (aA ⟨z,y,a5,a6,Z,d,l1,h9,o8,l2,(aI.arr 1 [] i1 rfl)⟩)
    ·refine aJ k6 o5 (cA (aT (aT ?_)))
     have a09:=u0 _ (zI d).symm
     subst a09
     have k:(vT p)=some R:=k
     exact bJ (aA ⟨b3,p,b1,b2,a3,k,h1,h2⟩)
   refine aP (aN k1 (aN h0 (aD (bU (len:=p.length) kP rfl) (aD (cL rfl rfl) (aO (v:=zB (decide (a2 < (p.length:Int)))) ?_)))))
   rcases aH d with ⟨c9,d⟩|⟨c9,d⟩
   ·exact bD c9 rfl rfl (aN h0 (bD c9 rfl rfl (aD (bU (len:=p.length) kP rfl) (bD c9 rfl rfl (aD (aEw rfl rfl) (aD (bL (v:=zB (decide ((p.length:Int)≤200))) c9 rfl rfl) (aG ⟨decide ((p.length:Int)≤200),d,o2,o3,h0,k1,rfl,o4⟩)))))))
   ·exact aR c9 rfl rfl (aR c9 rfl rfl (aR c9 rfl rfl (aD (bK (v:=zB false) c9 rfl rfl) (aG ⟨false,d,o2,o3,h0,k1,rfl,o4⟩))))
theorem aFr {a:aU} {R:Bool} (c:aI G K (L) w) (d:G.lo=0) (b:yY a=some R):
  Calls Tryz.prog 101 ([str a]:List Value).toArray w (gK fun v w'=>v=zB R∧aI G K (L) w'):=by
 refine aW func101 rfl (by kernel_rfl) (by show (1:Nat)≤6;decide) ?_
 unfold yY at b
 refine aL (aF (v:=zB false) (aG (aL (aO (v:=str a) ?_))))
 obtain ⟨e,g,b⟩:=aB b
 refine aS (vs:=[str a]) call63 rfl (aEJ c d g) ?_
 rintro _ j ⟨rfl,h⟩
 refine aD (eJ rfl) (aF (v:=zB (!e)) (aG ?_))
 obtain rfl:=zI b
 exact bM (bP results101 rfl ⟨rfl,h⟩)
theorem rT {d:(List aU)} {R:Int} (r:aI G K (L) w) (u:G.lo=0) (j:cX K a1 c2 d) (b:fY d=some R):
  Calls Tryz.prog 136 ([zS a1 d.length c2,Value.func (.func 101) #[] #[]]:List Value).toArray w (gK fun v w'=>v=i64 R∧aI G K (L) w'):=by
 refine aW func136 rfl (by kernel_rfl) (by show (2:Nat)≤19;decide) ?_
 unfold fY at b
 refine aL (aF (v:=i64 0) (aG (aQ (aL (aO (v:=zS a1 d.length c2) (aD (bU (len:=d.length) bX rfl) (aO (v:=i64 0) (aG (bB (fun f w=>fI=some R∧aI G K (L) w) ?_ ?_)))))))))
 ·rintro f w4 ⟨b,x⟩
  unfold fI at b
  refine aA (aL (aF (v:=i64 (-1)) (aG ?_)))
  obtain rfl:=zI b
  exact bM (bP results136 rfl ⟨rfl,x⟩)
 obtain ⟨a6,z,b⟩:=aB b
 refine cE z (fun (c:Int) f w=>f 0=zS a1 d.length c2∧f 1=Value.func (.func 101) #[] #[]∧f 7=i64 (d.length:Int)∧f 8=i64 c∧aI G K (L) w) ?_ ?_
 ·exact ⟨rfl,rfl,rfl,rfl,r⟩
 ·rintro c J f a7 a k ⟨l,m,n,e,g⟩
  replace a:dU d c=some J:=a
  unfold dU at a
  refine aL (aD (cL e n) (aG (aQ ?_)))
  rcases aH a with ⟨h,a⟩|⟨h,a⟩
  ·refine aM h rfl (bA (aA (aQ (cY (aL (aN e (aF (v:=i64 c) (aG (aL (aN m (aN l (aO (v:=i64 c) ?_))))))))))))
   obtain ⟨o,p,a⟩:=aB a
   refine aD (dI bX rfl j rfl rfl rfl p) ?_
   obtain ⟨a8,V,Z⟩:=cX.el (sz:=1) rfl j p
   cases Z
   refine aD (bH (t:=0) qB g V rfl rfl) ?_
   obtain ⟨a9,a0,a⟩:=aB a
   refine aCe (vs:=[str o]) (caps:=[]) (us:=[str o]) rfl call101 rfl rfl (aFr g u a0) ?_
   rintro _ b0 ⟨rfl,q⟩
   refine aG ?_
   rcases aH a with ⟨i,a⟩|⟨i,a⟩
   ·refine aM i rfl (aL (aO (v:=i64 c) (aF (v:=i64 c) (aG (bM (bV (aV (aV ?_))))))))
    have a2:=k _ (zI a).symm
    subst a2
    have b:(some c)=some R:=b
    obtain rfl:=zI b
    exact bV (aV (aV (bP results136 rfl ⟨rfl,q⟩)))
   ·exact aJ i rfl (bA (bC (aA (aP (aD (cP e rfl) (aO (v:=i64 (wr (c+1))) (aG ⟨wr (c+1),(zI a).symm,l,m,n,rfl,q⟩)))))))
  ·refine aJ h rfl (cA (aT (aT ?_)))
   have a4:=k _ (zI a).symm
   subst a4
   have b:(fI)=some R:=b
   exact bJ (aA ⟨b,g⟩)
theorem pS {a:(List aU)} {R:Bool} (c:aI G K (L) w) (d:G.lo=0) (e:cX K a1 c2 a) (b:fJ a=some R):
  Calls Tryz.prog 100 ([zS a1 a.length c2,Value.func (.func 101) #[] #[]]:List Value).toArray w (gK fun v w'=>v=zB R∧aI G K (L) w'):=by
 refine aW func100 rfl (by kernel_rfl) (by show (2:Nat)≤9;decide) ?_
 unfold fJ at b
 refine aL (aF (v:=zB false) (aG (aL (aO (v:=zS a1 a.length c2) (aO (v:=Value.func (.func 101) #[] #[]) ?_)))))
 obtain ⟨g,h,b⟩:=aB b
 refine aS (vs:=[zS a1 a.length c2,Value.func (.func 101) #[] #[]]) call136 rfl (rT c d e h) ?_
 rintro _ k ⟨rfl,i⟩
 refine aD (zV rfl rfl) (aF (v:=zB (decide (0≤g))) (aG ?_))
 obtain rfl:=zI b
 exact bM (bP results100 rfl ⟨rfl,i⟩)
theorem aGW {labels:(List aU)} {R:Bool} (b:aI G K (L) w) (c:G.lo=0) (d:cX K a1 c2 labels) (a:aBg labels=some R):
  Calls Tryz.prog 66 ([zS a1 labels.length c2]:List Value).toArray w (gK fun v w'=>v=zB R∧aI G K (L) w'):=by
 refine aW func66 rfl (by kernel_rfl) (by show (1:Nat)≤6;decide) ?_
 unfold aBg at a
 refine aL (aF (v:=zB false) (aG (aL (aO (v:=zS a1 labels.length c2) ?_))))
 obtain ⟨e,g,a⟩:=aB a
 refine aS (vs:=[zS a1 labels.length c2,Value.func (.func 101) #[] #[]]) call100 rfl (pS b c d g) ?_
 rintro _ j ⟨rfl,h⟩
 refine aD (eJ rfl) (aF (v:=zB (!e)) (aG ?_))
 obtain rfl:=zI a
 exact bM (bP results66 rfl ⟨rfl,h⟩)
theorem sB {a:(List aU)} {b:aU} {R:Bool} (d:aI G K (L) w) (e:cX K a1 c2 a) (c:fD a b=some R):
  Calls Tryz.prog 67 ([zS a1 a.length c2,str b]:List Value).toArray w (gK fun v w'=>v=zB R∧aI G K (L) w'):=by
 refine aW func67 rfl (by kernel_rfl) (by show (2:Nat)≤9;decide) ?_
 unfold fD at c
 refine aL (aF (v:=zB false) (aG (aL (aO (v:=zS a1 a.length c2) (aO (v:=str b) ?_)))))
 obtain ⟨g,h,c⟩:=aB c
 refine aS (vs:=[zS a1 a.length c2,str b]) call102 rfl (lV d e h) ?_
 rintro _ k ⟨rfl,i⟩
 refine aD (zV rfl rfl) (aF (v:=zB (decide (0≤g))) (aG ?_))
 obtain rfl:=zI c
 exact bM (bP results67 rfl ⟨rfl,i⟩)
theorem aGn {c:(List aU)} {R:Bool} (j:aI G K (L) w) (k:G.lo=0) (h:cX K a1 c2 c) (a:yZ c=some R):
  Calls Tryz.prog 35 ([zS a1 c.length c2]:List Value).toArray w (gK fun v w'=>v=zB R∧aI G K (L) w'):=by
 refine aW func35 rfl (by kernel_rfl) (by show (1:Nat)≤10;decide) ?_
 unfold yZ at a
 refine aL (aF (v:=zB false) (aG (aQ (cN (fun f w=>∃ (d:Bool),wH d=some R∧f 2=zB d∧aI G K (L) w) ?_ ?_))))
 ·rintro f t ⟨d,a,l,m⟩
  unfold wH at a
  refine aA ?_
  obtain rfl:=zI a
  exact bM (bP results35 rfl ⟨l,m⟩)
 refine aP (aO (v:=zS a1 c.length c2) ?_)
 obtain ⟨o,p,a⟩:=aB a
 refine aS (vs:=[zS a1 c.length c2]) call66 rfl (aGW j k h p) ?_
 rintro _ u ⟨rfl,i⟩
 refine aO (v:=zB o) ?_
 rcases aH a with ⟨b,a⟩|⟨b,a⟩
 ·refine bD b rfl rfl (aO (v:=zS a1 c.length c2) (bD b rfl rfl ?_))
  obtain ⟨e,q,a⟩:=aB a
  refine aS (vs:=[zS a1 c.length c2,str ([116,97,117]:aU)]) call67 rfl (sB i h q) ?_
  rintro _ x ⟨rfl,r⟩
  exact bD b rfl rfl (aD (eJ rfl) (aD (bL (v:=zB (!e)) b rfl rfl) (aF (v:=zB (!e)) (aG ⟨!e,a,rfl,r⟩))))
 ·exact aR b rfl rfl (aR b rfl rfl (aR b rfl rfl (aD (bK (v:=zB false) b rfl rfl) (aF (v:=zB false) (aG ⟨false,a,rfl,i⟩)))))
theorem aGX {t:cG} {c:(List aU)} {R:(List Int)} (hs:aI G K (L) w) (x:cX K a1 c2 t.L) (y:cX K a4 c5 t.E) (z:cX K a7 c8 c) (b:aBh t c=some R):
  Calls Tryz.prog 36 ([zA (zCa t a1 c2 a4 c5),zS a7 c.length c8]:List Value).toArray w (gK fun v w'=>∃ (J:Option Addr) (V:Nat),v=zS J R.length V∧aI G K (aK 2 K J V R::L) w'):=by
 let e:=(zC t a1 c2 a4 c5)
 refine aW func36 rfl (by kernel_rfl) (by show (2:Nat)≤25;decide) ?_
 unfold aBh at b
 refine aL (iI (v:=zA (zCa t a1 c2 a4 c5)) (vs:=e) hs rfl rfl (fun o e3 p=>(aF (v:=zS none 0 0) (aG (aL (aD (eI (us:=e) dJ p (i:=0) rfl rfl rfl rfl) (aD (bT (t':=1) oP rfl rfl) (aD (dS cK p (i:=0) rfl rfl rfl) (bR (Kt:=K) (xs:=([t.I]:List Int)) (cs:=[i64 t.I]) (vs:=[(0,i64 t.I)]) cF jC rfl rfl p rfl (by kernel_rfl) rfl rfl rfl ⟨rfl,trivial⟩ (fun Z b6 (b7:aI G K (aK 2 K Z 1 ([t.I]:List Int)::box o 27 e::L) b6)=>?_))))))))))
 obtain ⟨e4,a0,b8,b9,c0⟩:=aI.lendS (i:=0) b7 (zR _) rfl
 obtain ⟨c1,c3,b⟩:=aB b
 refine aS (vs:=[zA (zCa t a1 c2 a4 c5),zS Z ([t.I]:List Int).length 1]) call68 rfl (uX b9 (x.mono a0) (y.mono a0) b8 c3) ?_
 rintro _ e5 ⟨a2,a3,rfl,c4⟩
 have c6:=c0 _ _ c4
 refine aF (v:=zS a2 c1.length a3) (aG (aQ (aL (aO (v:=zS a7 c.length c8) (aD (bU (len:=c.length) bX rfl) (aO (v:=i64 0) (aG (bB (fun f w=>∃ (g:List Int) (h:Option Addr) (j:Nat),zD g=some R∧f 5=zS h g.length j∧aI G K (aK 2 K h j g::L) w) ?_ ?_))))))))
 ·rintro f e6 ⟨g,h,j,b,c7,c9⟩
  unfold zD at b
  refine aA (aL (aN c7 (aF (v:=zS h g.length j) (aG ?_))))
  obtain rfl:=zI b
  exact bM (bP results36 rfl ⟨h,j,rfl,c9⟩)
 obtain ⟨e7,d1,b⟩:=aB b
 refine cE d1 (fun (s:(List Int × Int)) f w=>match s with|(d,k)=>∃ (l:Option Addr) (m:Nat),f 2=zP (some ⟨o,0,none⟩)∧f 5=zS l d.length m∧f 13=zS a7 c.length c8∧f 14=i64 (c.length:Int)∧f 15=i64 k∧aI G K (aK 2 K l m d::box o 27 e::L) w) ?_ ?_
 ·exact ⟨a2,a3,rfl,rfl,rfl,rfl,rfl,(aI.arr 1 [] c6 rfl)⟩
 ·rintro ⟨d,k⟩ d2 f e8 a d3 ⟨l,m,a5,a6,a8,a9,q,n⟩
  replace a:jS t c d k=some d2:=a
  unfold jS at a
  refine aL (aD (cL q a9) (aG (aQ ?_)))
  rcases aH a with ⟨r,a⟩|⟨r,a⟩
  ·refine aM r rfl (bA (aA (aQ (cY (aL ?_)))))
   obtain ⟨u,b0,a⟩:=aB a
   refine aD (dI bX rfl z a8 rfl q b0) ?_
   obtain ⟨e9,d4,d5⟩:=cX.el (sz:=1) rfl z b0
   cases d5
   refine aD (bH (t:=0) qB n d4 rfl rfl) (aF (v:=str u) (aG (aP (aD (eI (us:=e) dJ n (i:=1) rfl a5 rfl rfl) (aN a6 (aO (v:=str u) ?_))))))
   obtain ⟨f0,b1,d6,d7,d8⟩:=aI.lendS (i:=0) n (zR _) rfl
   obtain ⟨b2,d9,a⟩:=aB a
   refine aS (vs:=[zA (zCa t a1 c2 a4 c5),zS l d.length m,str u]) call69 rfl (aCE d7 (x.mono b1) (y.mono b1) d6 d9) ?_
   rintro _ f1 ⟨b3,b4,rfl,e0⟩
   have e1:=d8 _ _ e0
   exact aF (v:=zS b3 b2.length b4) (aZ (bC (aA (aP (aD (cP q rfl) (aO (v:=i64 (wr (k+1))) (aG ⟨(b2,wr (k+1)),(zI a).symm,b3,b4,a5,rfl,a8,a9,rfl,(aI.arr 1 [] e1 rfl)⟩)))))))
  ·refine aJ r rfl (cA (aT (aT ?_)))
   have e2:=d3 _ (zI a).symm
   subst e2
   have b:(zD d)=some R:=b
   exact bJ (aA ⟨d,l,m,b,a6,(aI.arr 2 [0] n rfl)⟩)
theorem rZ {t:cG} {b:(List aU)} {R:((List Int) × Int)} (z:aI G K (L) w) (m:G.lo=0) (n:cX K a1 c2 t.L) (o:cX K a4 c5 t.E) (p:cX K a7 c8 b) (a:iO t b=some R):
  Calls Tryz.prog 11 ([zA (zCa t a1 c2 a4 c5),zS a7 b.length c8]:List Value).toArray w (gK fun v w'=>∃ (q:Option Addr) (r:Nat),v=zT #[zS q R.1.length r,i64 R.2]∧aI G K (aK 2 K q r R.1::L) w'):=by
 let g:=(zC t a1 c2 a4 c5)
 refine aW func11 rfl (by kernel_rfl) (by show (2:Nat)≤22;decide) ?_
 unfold iO at a
 refine aL (iI (v:=zA (zCa t a1 c2 a4 c5)) (vs:=g) z rfl rfl (fun b2 b3 u=>(aF (v:=zS none 0 0) (aF (v:=i64 0) (aG (aQ (cY (aL (aD (eI (us:=g) dJ u (i:=0) rfl rfl rfl rfl) ?_)))))))))
 obtain ⟨J,V,a⟩:=aB a
 refine aS (vs:=[zA (zCa t a1 c2 a4 c5)]) call34 rfl (lP u m n o V) ?_
 rintro _ b4 ⟨rfl,x⟩
 refine aD (eJ rfl) (aF (v:=zB (!J)) (aG ?_))
 rcases aH a with ⟨h,a⟩|⟨h,a⟩
 ·refine aM h rfl (aL (aF (v:=zS none 0 0) (aF (v:=i64 1) (aG ?_))))
  have Z:=aI.nil (α:=Int) x 2 K
  obtain rfl:=zI a
  exact bM (bV (aV (kF results11 rfl rfl ⟨none,0,rfl,(aI.arr 2 [0] Z rfl)⟩)))
 ·refine aJ h rfl (aL (aO (v:=zS a7 b.length c8) ?_))
  obtain ⟨a2,a3,a⟩:=aB a
  refine aS (vs:=[zS a7 b.length c8]) call35 rfl (aGn x m p a3) ?_
  rintro _ b5 ⟨rfl,j⟩
  refine aD (eJ rfl) (aF (v:=zB (!a2)) (aG ?_))
  rcases aH a with ⟨k,a⟩|⟨k,a⟩
  ·refine aM k rfl (aL (aF (v:=zS none 0 0) (aF (v:=i64 2) (aG ?_))))
   have a5:=aI.nil (α:=Int) j 2 K
   obtain rfl:=zI a
   exact bM (bV (aV (kF results11 rfl rfl ⟨none,0,rfl,(aI.arr 2 [0] a5 rfl)⟩)))
  ·refine aJ k rfl (bA (bC (aA (aL (aD (eI (us:=g) dJ j (i:=0) rfl rfl rfl rfl) (aO (v:=zS a7 b.length c8) ?_))))))
   obtain ⟨c,a8,a⟩:=aB a
   refine aS (vs:=[zA (zCa t a1 c2 a4 c5),zS a7 b.length c8]) call36 rfl (aGX j n o p a8) ?_
   rintro _ b6 ⟨d,e,rfl,y⟩
   refine aF (v:=zS d c.length e) (aG (aQ (aL (aO (v:=zS d c.length e) (aD (bU (len:=c.length) cF rfl) (aD (gE rfl rfl) (aG ?_)))))))
   rcases aH a with ⟨l,a⟩|⟨l,a⟩
   ·refine aM l rfl (aL (aF (v:=zS none 0 0) (aF (v:=i64 3) (aG ?_))))
    have a9:=aI.nil (α:=Int) y 2 K
    obtain rfl:=zI a
    exact bM (aV (kF results11 rfl rfl ⟨none,0,rfl,(aI.arr 3 [0] a9 rfl)⟩))
   ·refine aJ l rfl (bA (aA (aL (aO (v:=zS d c.length e) (aF (v:=zS d c.length e) (aF (v:=i64 0) (aG ?_)))))))
    obtain rfl:=zI a
    exact bM (kF results11 rfl rfl ⟨d,e,rfl,(aI.arr 2 [0] y rfl)⟩)
theorem aHQ {b2:(List UInt8)} {R:Bool} (hs:aI G K (L) w) (hG:G.lo=0) (h3:cX K a1 c2 b2) (d:aEd b2=some R):
  Calls Tryz.prog 3 ([zS a1 b2.length c2]:List Value).toArray w (gK fun v w'=>v=zB R∧aI G K (L) w'):=by
 let e3:=zG
 refine aW func3 rfl (by kernel_rfl) (by show (1:Nat)≤162;decide) ?_
 unfold aEd at d
 refine aL (aF (v:=zB false) (aG (aQ (aL (aO (v:=zS a1 b2.length c2) ?_)))))
 obtain ⟨r4,q5,d⟩:=aB d
 refine aS (vs:=[zS a1 b2.length c2]) call5 rfl (aIC hs h3 q5) ?_
 rintro _ w6 ⟨rfl,h7⟩
 refine aG ?_
 rcases aH d with ⟨c8,d⟩|⟨c8,d⟩
 ·refine aM c8 rfl (aL (aF (v:=zB true) (aG ?_)))
  obtain rfl:=zI d
  exact bM (aV (bP results3 rfl ⟨rfl,h7⟩))
 ·refine aJ c8 rfl (bA (aA (aL (aO (v:=zS a1 b2.length c2) ?_))))
  obtain ⟨c,l1,d⟩:=aB d
  refine aS (vs:=[zS a1 b2.length c2]) call6 rfl (aIK h7 h3 l1) ?_
  rintro _ s0 ⟨k,l,e,h,q,r,n,o,rfl,l2⟩
  refine aO (v:=zT #[zA (zCa c.1 k l e h),zA (zCa c.2 q r n o)]) (aD (bQ rfl rfl) (aD (bQ rfl rfl) (bW (vs:=e3) zeroValue27 l2 rfl (fun a3 s1 l3=>(bW (vs:=e3) zeroValue27 l3 rfl (fun a4 s2 l4=>(bY (i:=1) (ns:=(zC c.1 k l e h)) (us:=(zC c.1 k l e h)) sizeOf27 l4 rfl rfl rfl rfl rfl (dE rfl) rfl rfl (fun l5 (l6:aI G K (box a4 27 e3::box a3 27 (zC c.1 k l e h)::aK 9 K k l c.1.L::aK 69 K e h c.1.E::aK 9 K q r c.2.L::aK 69 K n o c.2.E::L) l5)=>(bY (i:=0) (ns:=(zC c.2 q r n o)) (us:=(zC c.2 q r n o)) sizeOf27 l6 rfl rfl rfl rfl rfl (dE rfl) rfl rfl (fun c9 (e5:aI G K (box a4 27 (zC c.2 q r n o)::box a3 27 (zC c.1 k l e h)::aK 9 K k l c.1.L::aK 69 K e h c.1.E::aK 9 K q r c.2.L::aK 69 K n o c.2.E::L) c9)=>(aG (aL (aD (eI (us:=(zC c.1 k l e h)) dJ e5 (i:=1) rfl rfl rfl rfl) (aD (eI (us:=(zC c.2 q r n o)) dJ e5 (i:=0) rfl rfl rfl rfl) ?_))))))))))))))
  obtain ⟨l7,a5,b3,e6⟩:=aI.giveS (i:=2) e5 (zR _) rfl
  replace e6:aI G l7 (box a4 27 (zC c.2 q r n o)::box a3 27 (zC c.1 k l e h)::aK 69 K e h c.1.E::aK 9 K q r c.2.L::aK 69 K n o c.2.E::L) c9:=e6
  obtain ⟨l8,V,b4,e7⟩:=aI.giveS (i:=2) e6 a5 rfl
  replace e7:aI G l8 (box a4 27 (zC c.2 q r n o)::box a3 27 (zC c.1 k l e h)::aK 9 K q r c.2.L::aK 69 K n o c.2.E::L) c9:=e7
  obtain ⟨l9,x,c3,e8⟩:=aI.giveS (i:=2) e7 (zL a5 V) rfl
  replace e8:aI G l9 (box a4 27 (zC c.2 q r n o)::box a3 27 (zC c.1 k l e h)::aK 69 K n o c.2.E::L) c9:=e8
  obtain ⟨m0,p,c4,e9⟩:=aI.giveS (i:=2) e8 (zL (zL a5 V) x) rfl
  replace e9:aI G m0 (box a4 27 (zC c.2 q r n o)::box a3 27 (zC c.1 k l e h)::L) c9:=e9
  obtain ⟨y,m1,d⟩:=aB d
  refine aS (vs:=[zA (zCa c.1 k l e h),zA (zCa c.2 q r n o)]) call7 rfl (zW (a:=⟨c.1.N,c.1.I,c.1.L,c.1.E⟩) (b:=⟨c.2.N,c.2.I,c.2.L,c.2.E⟩) e9 hG (b3.mono (zL (zL V x) p)) (b4.mono (zL x p)) (c3.mono p) c4 m1) ?_
  rintro _ s3 ⟨s4,b5,b6,rfl,j,d7,f0⟩
  refine aO (v:=zT #[zB y.1,zS b5 y.2.1.length b6,i64 y.2.2]) (aD (bQ rfl rfl) (aD (bQ rfl rfl) (aD (bQ rfl rfl) (aF (v:=zB y.1) (aF (v:=zS b5 y.2.1.length b6) (aF (v:=i64 y.2.2) (aG (aL (aD (eI (us:=(zC c.2 q r n o)) dJ f0 (i:=0) rfl rfl rfl rfl) (aD (eI (us:=(zC c.1 k l e h)) dJ f0 (i:=1) rfl rfl rfl rfl) ?_))))))))))
  obtain ⟨Z,m2,d⟩:=aB d
  refine aS (vs:=[zA (zCa c.2 q r n o),zA (zCa c.1 k l e h)]) call7 rfl (zW f0 hG (c3.mono (zL p j)) (c4.mono j) (b3.mono (zL (zL (zL V x) p) j)) (b4.mono (zL (zL x p) j)) m2) ?_
  rintro _ s5 ⟨s6,h8,h9,rfl,m,s7,f1⟩
  refine aO (v:=zT #[zB Z.1,zS h8 Z.2.1.length h9,i64 Z.2.2]) (aD (bQ rfl rfl) (aD (bQ rfl rfl) (aD (bQ rfl rfl) (aF (v:=zB Z.1) (aF (v:=zS h8 Z.2.1.length h9) (aF (v:=i64 Z.2.2) (aG (aL (aD (eI (us:=(zC c.1 k l e h)) dJ f1 (i:=1) rfl rfl rfl rfl) (aD (eI (us:=(zC c.2 q r n o)) dJ f1 (i:=0) rfl rfl rfl rfl) ?_))))))))))
  obtain ⟨z,m3,d⟩:=aB d
  refine aS (vs:=[zA (zCa c.1 k l e h),zA (zCa c.2 q r n o)]) call8 rfl (aFN f1 hG (b3.mono (zL (zL (zL (zL V x) p) j) m)) (b4.mono (zL (zL (zL x p) j) m)) (c3.mono (zL (zL p j) m)) (c4.mono (zL j m)) m3) ?_
  rintro _ s8 ⟨d8,i0,i1,rfl,u,s9,f2⟩
  refine aO (v:=zT #[zB z.1,zS i0 z.2.1.length i1,i64 z.2.2]) (aD (bQ rfl rfl) (aD (bQ rfl rfl) (aD (bQ rfl rfl) (aF (v:=zB z.1) (aF (v:=zS i0 z.2.1.length i1) (aF (v:=i64 z.2.2) (aG (aQ (aQ (cN (fun f w=>∃ (f3:Bool),jE c y Z z f3=some R∧f 3=zP (some ⟨a3,0,none⟩)∧f 4=zP (some ⟨a4,0,none⟩)∧f 5=zB y.1∧f 6=zS b5 y.2.1.length b6∧f 7=i64 y.2.2∧f 8=zB Z.1∧f 10=i64 Z.2.2∧f 11=zB z.1∧f 13=i64 z.2.2∧f 65=zB f3∧aI G d8 (box a4 27 (zC c.2 q r n o)::box a3 27 (zC c.1 k l e h)::L) w) ?_ ?_))))))))))
  ·rintro f t0 ⟨f3,d,f4,f5,f6,i2,m4,m5,m6,m7,m8,i3,d0⟩
   unfold jE at d
   refine aA ?_
   rcases aH d with ⟨f7,d⟩|⟨f7,d⟩
   ·refine aM f7 i3 (aL (aD (eI (us:=(zC c.1 k l e h)) dJ d0 (i:=1) rfl f4 rfl rfl) (aD (eI (us:=(zC c.2 q r n o)) dJ d0 (i:=0) rfl f5 rfl rfl) ?_)))
    obtain ⟨a2,m9,d⟩:=aB d
    refine aS (vs:=[zA (zCa c.1 k l e h),zA (zCa c.2 q r n o)]) call9 rfl (aFO d0 (b3.mono (zL (zL (zL (zL (zL V x) p) j) m) u)) (b4.mono (zL (zL (zL (zL x p) j) m) u)) (c3.mono (zL (zL (zL p j) m) u)) (c4.mono (zL (zL j m) u)) m9) ?_
    rintro _ t1 ⟨i4,i5,rfl,f8⟩
    refine aO (v:=zT #[zB a2.1,zS i4 a2.2.1.length i5,i64 a2.2.2]) (aD (bQ rfl rfl) (aD (bQ rfl rfl) (aD (bQ rfl rfl) (aF (v:=zB a2.1) (aF (v:=zS i4 a2.2.1.length i5) (aF (v:=i64 a2.2.2) (aG (aQ (cN (fun f w=>∃ (f9:Bool),vU f9=some R∧f 2=zB f9∧aI G d8 (L) w) ?_ ?_)))))))))
    ·rintro f t2 ⟨f9,d,n0,n1⟩
     unfold vU at d
     refine aA ?_
     obtain rfl:=zI d
     exact bM (aV (bP results3 rfl ⟨n0,(aI.weakK n1 (zL (zL (zL (zL (zL (zL a5 V) x) p) j) m) u))⟩))
    refine aP (aN m4 (aO (v:=i64 a2.2.2) (aD (gE rfl rfl) (aO (v:=zB (y.2.2 == a2.2.2)) ?_))))
    rcases aH d with ⟨a7,d⟩|⟨a7,d⟩
    ·refine bD a7 rfl rfl (aN m6 (bD a7 rfl rfl (aO (v:=i64 a2.2.2) (bD a7 rfl rfl (aD (gE rfl rfl) (aD (bL (v:=zB (Z.2.2 == a2.2.2)) a7 rfl rfl) (aO (v:=zB (Z.2.2 == a2.2.2)) ?_)))))))
     rcases aH d with ⟨a8,d⟩|⟨a8,d⟩
     ·exact bD a8 rfl rfl (aN m8 (bD a8 rfl rfl (aO (v:=i64 a2.2.2) (bD a8 rfl rfl (aD (gE rfl rfl) (aD (bL (v:=zB (z.2.2 == a2.2.2)) a8 rfl rfl) (aF (v:=zB (z.2.2 == a2.2.2)) (aG ⟨z.2.2 == a2.2.2,d,rfl,(aI.arr 3 [] f8 rfl)⟩))))))))
     ·exact aR a8 rfl rfl (aR a8 rfl rfl (aR a8 rfl rfl (aD (bK (v:=zB false) a8 rfl rfl) (aF (v:=zB false) (aG ⟨false,d,rfl,(aI.arr 3 [] f8 rfl)⟩)))))
    ·exact aR a7 rfl rfl (aR a7 rfl rfl (aR a7 rfl rfl (aD (bK (v:=zB false) a7 rfl rfl) (aO (v:=zB false) (aR (by decide:¬ false=true) rfl rfl (aR (by decide:¬ false=true) rfl rfl (aR (by decide:¬ false=true) rfl rfl (aD (bK (v:=zB false) (by decide:¬ false=true) rfl rfl) (aF (v:=zB false) (aG ⟨false,d,rfl,(aI.arr 3 [] f8 rfl)⟩))))))))))
   ·refine aJ f7 i3 (bA (aA (aQ (aQ (cN (fun f w=>∃ (g0:Bool),mK c y g0=some R∧f 3=zP (some ⟨a3,0,none⟩)∧f 4=zP (some ⟨a4,0,none⟩)∧f 5=zB y.1∧f 6=zS b5 y.2.1.length b6∧f 91=zB g0∧aI G d8 (box a4 27 (zC c.2 q r n o)::box a3 27 (zC c.1 k l e h)::L) w) ?_ ?_)))))
    ·rintro f t3 ⟨g0,d,g1,i6,n3,d1,i7,c5⟩
     unfold mK at d
     refine aA ?_
     rcases aH d with ⟨g2,d⟩|⟨g2,d⟩
     ·refine aM g2 i7 (aL (aF (v:=zB false) (aG ?_)))
      obtain rfl:=zI d
      exact bM (aV (bP results3 rfl ⟨rfl,(aI.weakK (aI.arr 2 [] c5 rfl) (zL (zL (zL (zL (zL (zL a5 V) x) p) j) m) u))⟩))
     ·refine aJ g2 i7 (bA (aA (aQ (aL (aN n3 (aG ?_))))))
      rcases aH d with ⟨g3,d⟩|⟨g3,d⟩
      ·refine aM g3 rfl (aL (aD (eI (us:=(zC c.2 q r n o)) dJ c5 (i:=0) rfl i6 rfl rfl) ?_))
       obtain ⟨J,n5,d⟩:=aB d
       refine aS (vs:=[zA (zCa c.2 q r n o),i64 2]) call10 rfl (aHP c5 hG (c3.mono (zL (zL (zL p j) m) u)) (c4.mono (zL (zL j m) u)) n5) ?_
       rintro _ t4 ⟨d9,c6,c7,rfl,d2,i8⟩
       refine aO (v:=zT #[zS c6 J.1.length c7,i64 J.2]) (aD (bQ rfl rfl) (aD (bQ rfl rfl) (aF (v:=zS c6 J.1.length c7) (aF (v:=i64 J.2) (aG (aQ (aL (aO (v:=i64 J.2) (aD (aBw rfl rfl) (aG ?_))))))))))
       rcases aH d with ⟨g4,d⟩|⟨g4,d⟩
       ·refine aM g4 rfl (aL (aO (v:=i64 J.2) (aD (gE rfl rfl) (aF (v:=zB (J.2 == 5)) (aG ?_)))))
        obtain rfl:=zI d
        exact bM (aV (aV (bP results3 rfl ⟨rfl,(aI.weakK (aI.arr 3 [] i8 rfl) (zL (zL (zL (zL (zL (zL (zL a5 V) x) p) j) m) u) d2))⟩)))
       ·refine aJ g4 rfl (bA (aA (aQ (aL (aF (v:=i64 0) (aG (bB (fun f w=>rQ J=some R∧f 17=zS c6 J.1.length c7∧aI G d9 (aK 24 d9 c6 c7 J.1::L) w) ?_ ?_)))))))
        ·rintro f t5 ⟨d,n7,n8⟩
         unfold rQ at d
         refine aA (aL (aN n7 (aD (bU (len:=J.1.length) aED rfl) (aD (kZ rfl rfl) (aF (v:=zB (decide (0 < (J.1.length:Int)))) (aG ?_))))))
         obtain rfl:=zI d
         exact bM (aV (bP results3 rfl ⟨rfl,(aI.weakK (aI.arr 1 [] n8 rfl) (zL (zL (zL (zL (zL (zL (zL a5 V) x) p) j) m) u) d2))⟩))
        obtain ⟨t6,o0,d⟩:=aB d
        refine cE o0 (fun (d3:Int) f w=>f 3=zP (some ⟨a3,0,none⟩)∧f 17=zS c6 J.1.length c7∧f 19=i64 d3∧aI G d9 (aK 24 d9 c6 c7 J.1::box a3 27 (zC c.1 k l e h)::L) w) ?_ ?_
        ·exact ⟨g1,rfl,rfl,(aI.arr 2 [0] i8 rfl)⟩
        ·rintro d3 o1 f t7 a0 i9 ⟨j0,e0,g5,j1⟩
         replace a0:kN c J d3=some o1:=a0
         unfold kN at a0
         refine aQ (aL (aN g5 (aN e0 (aD (bU (len:=J.1.length) aED rfl) (aD (cL rfl rfl) (aG ?_))))))
         rcases aH a0 with ⟨g6,a0⟩|⟨g6,a0⟩
         ·refine aM g6 rfl (bA (aA (aQ (cY (aQ ?_)))))
          obtain ⟨t8,j2,j3,o2,o3⟩:=aI.lendS (i:=0) j1 (zR _) rfl
          obtain ⟨o4,e1,o5,j4,o6⟩:=aI.lendB (i:=0) o2 rfl
          refine fK (C:=fun w'=>∃ L',aI G o4 L' w') [(0,0),(1,0),(2,0),(3,0),(4,0),(5,1),(6,0),(7,0),(8,0),(9,0),(10,0)] bZ (by kernel_rfl) (fun _ hg=>⟨_,aI.mono j4 hg⟩) (fun t9 o7=>?_)
          have d4:=aI.mono j4 o7
          refine bS rfl (fun _ ⟨_,d4⟩=>gT (t:=0) (vs:=(zC c.1 k l e h)) dJ d4 o5 j0 rfl rfl) (bS rfl (fun _ _=>bE e0) (bS rfl (fun _ _=>bE g5) ?_))
          obtain ⟨o8,g7,a0⟩:=aB a0
          have o9:=aGc (j3.mono e1) g7
          refine bS rfl (fun _ _=>dT aED rfl o9 rfl rfl rfl g7) ?_
          obtain ⟨u0,p0,p1⟩:=cX.el (sz:=1) rfl (j3.mono e1) g7
          obtain ⟨p2,p3,rfl,p4⟩:=p1
          refine bS rfl (fun _ ⟨_,d4⟩=>bH (t:=0) iT d4 p0 rfl rfl) (kY rfl ?_)
          obtain ⟨d5,p5,a0⟩:=aB a0
          refine aS (vs:=[zA (zCa c.1 k l e h),zS p2 o8.length p3]) call11 rfl (rZ d4 hG (b3.mono (zL (zL (zL (zL (zL (zL (zL (zL V x) p) j) m) u) d2) j2) e1)) (b4.mono (zL (zL (zL (zL (zL (zL (zL x p) j) m) u) d2) j2) e1)) p4 p5) ?_
          rintro _ u1 ⟨j5,j6,rfl,j7⟩
          refine aZ (aA ⟨⟨_,j7⟩,?_⟩)
          refine bS rfl (fun _ _=>bE (v:=zT #[zS j5 d5.1.length j6,i64 d5.2]) rfl) (bS rfl (fun _ _=>bQ rfl rfl) (bS rfl (fun _ _=>bQ rfl rfl) (bS rfl (fun _ _=>dV (v:=zS j5 d5.1.length j6) rfl) (bS rfl (fun _ _=>dV (v:=i64 d5.2) rfl) (lF ?_)))))
          have p6:=o6 _ _ j7
          have j8:=o3 _ _ p6
          refine aA (aL (aO (v:=i64 d5.2) (aD (aBw rfl rfl) (aG ?_))))
          rcases aH a0 with ⟨g8,a0⟩|⟨g8,a0⟩
          ·refine aM g8 rfl (aL (aF (v:=zB false) (aG (bM (bV (aV (aV ?_)))))))
           have p7:=i9 _ (zI a0).symm
           subst p7
           have d:(some false)=some R:=d
           obtain rfl:=zI d
           exact bV (aV (aV (aV (bP results3 rfl ⟨rfl,(aI.weakK (aI.arr 3 [] j8 rfl) (zL (zL (zL (zL (zL (zL (zL a5 V) x) p) j) m) u) d2))⟩))))
          ·exact aJ g8 rfl (bA (bC (aA (aP (aN g5 (aD (cP rfl rfl) (aF (v:=i64 (wr (d3+1))) (aG ⟨wr (d3+1),(zI a0).symm,j0,e0,rfl,(aI.arr 3 [0,1] j8 rfl)⟩))))))))
         ·refine aJ g6 rfl (cA (aT (aT ?_)))
          have p9:=i9 _ (zI a0).symm
          subst p9
          have d:(rQ J)=some R:=d
          exact bJ (aA ⟨d,e0,(aI.arr 2 [0] j1 rfl)⟩)
      ·refine aJ g3 rfl (bA (aA (aQ (aL (aN d1 (aD (bU (len:=y.2.1.length) bX rfl) (aD (gE rfl rfl) (aG ?_))))))))
       rcases aH d with ⟨g9,d⟩|⟨g9,d⟩
       ·refine aM g9 rfl (aL (aF (v:=zB false) (aG ?_)))
        obtain rfl:=zI d
        exact bM (aV (bP results3 rfl ⟨rfl,(aI.weakK (aI.arr 2 [] c5 rfl) (zL (zL (zL (zL (zL (zL a5 V) x) p) j) m) u))⟩))
       ·refine aJ g9 rfl (bA (aA (aL (aD (eI (us:=(zC c.2 q r n o)) dJ c5 (i:=0) rfl i6 rfl rfl) (aN d1 ?_)))))
        obtain ⟨a6,q1,d⟩:=aB d
        refine aS (vs:=[zA (zCa c.2 q r n o),zS b5 y.2.1.length b6]) call11 rfl (rZ c5 hG (c3.mono (zL (zL (zL p j) m) u)) (c4.mono (zL (zL j m) u)) (d7.mono (zL m u)) q1) ?_
        rintro _ u2 ⟨h0,h1,rfl,j9⟩
        refine aO (v:=zT #[zS h0 a6.1.length h1,i64 a6.2]) (aD (bQ rfl rfl) (aD (bQ rfl rfl) (aF (v:=zS h0 a6.1.length h1) (aF (v:=i64 a6.2) (aG (aL (aD (eI (us:=(zC c.1 k l e h)) dJ j9 (i:=2) rfl g1 rfl rfl) (aN d1 ?_))))))))
        obtain ⟨b7,q2,d⟩:=aB d
        refine aS (vs:=[zA (zCa c.1 k l e h),zS b5 y.2.1.length b6]) call11 rfl (rZ j9 hG (b3.mono (zL (zL (zL (zL (zL V x) p) j) m) u)) (b4.mono (zL (zL (zL (zL x p) j) m) u)) (d7.mono (zL m u)) q2) ?_
        rintro _ u3 ⟨k0,k1,rfl,q3⟩
        refine aO (v:=zT #[zS k0 b7.1.length k1,i64 b7.2]) (aD (bQ rfl rfl) (aD (bQ rfl rfl) (aF (v:=zS k0 b7.1.length k1) (aF (v:=i64 b7.2) (aG (aQ ?_))))))
        obtain ⟨q4,h2,q6,k2,q7⟩:=aI.lendB (i:=3) q3 rfl
        refine fK (C:=fun w'=>∃ L',aI G q4 L' w') [(0,0),(1,0),(2,0),(3,0),(4,0),(5,0),(6,1),(7,0),(8,0),(9,0),(10,0),(11,0)] bZ (by kernel_rfl) (fun _ hg=>⟨_,aI.mono k2 hg⟩) (fun u4 q8=>?_)
        have h4:=aI.mono k2 q8
        refine bS rfl (fun _ ⟨_,h4⟩=>gT (t:=0) (vs:=(zC c.1 k l e h)) dJ h4 q6 g1 rfl rfl) (bS rfl (fun _ _=>bE d1) (bS rfl (fun _ _=>bE d1) (bS rfl (fun _ _=>bU (len:=y.2.1.length) bX rfl) (bS rfl (fun _ _=>kH rfl rfl) ?_))))
        obtain ⟨q9,k3,d⟩:=aB d
        obtain ⟨r0,r1,k4⟩:=Cut.ex 1 b5 b6 0
        have r2:=cX.cut' d7 k3 k4
        refine bS rfl (fun _ _=>aIs bX d7.room k4 rfl rfl rfl k3) (kY rfl ?_)
        obtain ⟨b1,r3,d⟩:=aB d
        refine aS (vs:=[zA (zCa c.1 k l e h),zS r0 q9.length r1]) call11 rfl (rZ h4 hG (b3.mono (zL (zL (zL (zL (zL (zL V x) p) j) m) u) h2)) (b4.mono (zL (zL (zL (zL (zL x p) j) m) u) h2)) (r2.mono (zL (zL m u) h2)) r3) ?_
        rintro _ u5 ⟨k5,k6,rfl,k7⟩
        refine aZ (aA ⟨⟨_,k7⟩,?_⟩)
        refine bS rfl (fun _ _=>bE (v:=zT #[zS k5 b1.1.length k6,i64 b1.2]) rfl) (bS rfl (fun _ _=>bQ rfl rfl) (bS rfl (fun _ _=>bQ rfl rfl) (bS rfl (fun _ _=>dV (v:=zS k5 b1.1.length k6) rfl) (bS rfl (fun _ _=>dV (v:=i64 b1.2) rfl) (lF ?_)))))
        have e2:=q7 _ _ k7
        refine aA (aQ (cN (fun f w=>∃ (h5:Bool),rR h5=some R∧f 2=zB h5∧aI G d8 (L) w) ?_ ?_))
        ·rintro f u6 ⟨h5,d,r5,r6⟩
         unfold rR at d
         refine aA ?_
         obtain rfl:=zI d
         exact bM (bP results3 rfl ⟨r5,(aI.weakK r6 (zL (zL (zL (zL (zL (zL a5 V) x) p) j) m) u))⟩)
        refine aP (aO (v:=i64 a6.2) (aD (gE rfl rfl) (aO (v:=zB (a6.2 == 0)) ?_)))
        rcases aH d with ⟨a9,d⟩|⟨a9,d⟩
        ·refine bD a9 rfl rfl (aO (v:=zS h0 a6.1.length h1) (bD a9 rfl rfl (aD (bU (len:=a6.1.length) cF rfl) (bD a9 rfl rfl (aD (kZ rfl rfl) (aD (bL (v:=zB (decide (0 < (a6.1.length:Int)))) a9 rfl rfl) (aO (v:=zB (decide (0 < (a6.1.length:Int)))) ?_)))))))
         rcases aH d with ⟨b8,d⟩|⟨b8,d⟩
         ·refine bD b8 rfl rfl (aO (v:=i64 b7.2) (bD b8 rfl rfl (aD (gE rfl rfl) (aD (bL (v:=zB (b7.2 == 3)) b8 rfl rfl) (aO (v:=zB (b7.2 == 3)) ?_)))))
          rcases aH d with ⟨b9,d⟩|⟨b9,d⟩
          ·exact bD b9 rfl rfl (aO (v:=i64 b1.2) (bD b9 rfl rfl (aD (gE rfl rfl) (aD (bL (v:=zB (b1.2 == 0)) b9 rfl rfl) (aF (v:=zB (b1.2 == 0)) (aG ⟨b1.2 == 0,d,rfl,(aI.arr 5 [] e2 rfl)⟩))))))
          ·exact aR b9 rfl rfl (aR b9 rfl rfl (aD (bK (v:=zB false) b9 rfl rfl) (aF (v:=zB false) (aG ⟨false,d,rfl,(aI.arr 5 [] e2 rfl)⟩))))
         ·exact aR b8 rfl rfl (aR b8 rfl rfl (aD (bK (v:=zB false) b8 rfl rfl) (aO (v:=zB false) (aR (by decide:¬ false=true) rfl rfl (aR (by decide:¬ false=true) rfl rfl (aD (bK (v:=zB false) (by decide:¬ false=true) rfl rfl) (aF (v:=zB false) (aG ⟨false,d,rfl,(aI.arr 5 [] e2 rfl)⟩))))))))
        ·exact aR a9 rfl rfl (aR a9 rfl rfl (aR a9 rfl rfl (aD (bK (v:=zB false) a9 rfl rfl) (aO (v:=zB false) (aR (by decide:¬ false=true) rfl rfl (aR (by decide:¬ false=true) rfl rfl (aD (bK (v:=zB false) (by decide:¬ false=true) rfl rfl) (aO (v:=zB false) (aR (by decide:¬ false=true) rfl rfl (aR (by decide:¬ false=true) rfl rfl (aD (bK (v:=zB false) (by decide:¬ false=true) rfl rfl) (aF (v:=zB false) (aG ⟨false,d,rfl,(aI.arr 5 [] e2 rfl)⟩)))))))))))))
    refine aP (aN m7 (aN f6 (aO (v:=zB y.1) ?_)))
    rcases aH d with ⟨d6,d⟩|⟨d6,d⟩
    ·exact bD d6 rfl rfl (aN m5 (aD (bL (v:=zB Z.1) d6 rfl rfl) (aD (R_neqB runUnderlying4 rfl rfl) (aG ⟨z.1 != Z.1,d,f4,f5,f6,i2,rfl,d0⟩))))
    ·exact aR d6 rfl rfl (aD (bK (v:=zB false) d6 rfl rfl) (aD (R_neqB runUnderlying4 rfl rfl) (aG ⟨z.1 != false,d,f4,f5,f6,i2,rfl,d0⟩)))
  refine aP (aO (v:=i64 y.2.2) (aD (aBw rfl rfl) (aO (v:=zB (y.2.2 != 0)) ?_)))
  rcases aH d with ⟨c0,d⟩|⟨c0,d⟩
  ·exact aX c0 rfl rfl (aX c0 rfl rfl (aD (bL (v:=zB true) c0 rfl rfl) (aO (v:=zB true) (aX (rfl:true=true) rfl rfl (aX (rfl:true=true) rfl rfl (aD (bL (v:=zB true) (rfl:true=true) rfl rfl) (aG ⟨true,d,rfl,rfl,rfl,rfl,rfl,rfl,rfl,rfl,rfl,rfl,f2⟩)))))))
  ·refine bG c0 rfl rfl (aO (v:=i64 Z.2.2) (bG c0 rfl rfl (aD (aBw rfl rfl) (aD (bK (v:=zB (Z.2.2 != 0)) c0 rfl rfl) (aO (v:=zB (Z.2.2 != 0)) ?_)))))
   rcases aH d with ⟨c1,d⟩|⟨c1,d⟩
   ·exact aX c1 rfl rfl (aX c1 rfl rfl (aD (bL (v:=zB true) c1 rfl rfl) (aG ⟨true,d,rfl,rfl,rfl,rfl,rfl,rfl,rfl,rfl,rfl,rfl,f2⟩)))
   ·exact bG c1 rfl rfl (aO (v:=i64 z.2.2) (bG c1 rfl rfl (aD (aBw rfl rfl) (aD (bK (v:=zB (z.2.2 != 0)) c1 rfl rfl) (aG ⟨z.2.2 != 0,d,rfl,rfl,rfl,rfl,rfl,rfl,rfl,rfl,rfl,rfl,f2⟩)))))
end Gv
