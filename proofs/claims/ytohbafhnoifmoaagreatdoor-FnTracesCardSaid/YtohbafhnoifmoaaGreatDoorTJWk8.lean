/- Walks, printed by program. -/
import Derived.Test.YtohbafhnoifmoaaGreatDoorTJWk6
import Derived.Test.YtohbafhnoifmoaaGreatDoorTJWk7
set_option linter.all false
namespace Gv
open Go.Value renaming slice→zS,bool→zB,pointer→zP,agg→zA,tuple→zT,map→zM
open Option.some renaming inj→zI
open Gv.Hp renaming le_trans→zL,le_refl→zR
open Go Go.Proofs Go.Proofs.Tryz
set_option maxRecDepth 20000
set_option maxHeartbeats 40000000
variable {G:Env} {K:Hp} {L:List nJ} {w:World} {a1 a4 a7 a10:Option Addr} {c2 c5 c8 c11:Nat}
theorem aEP {a b:cG} {R:(Bool × (List aU) × Int)} (hs:aI G K (L) w) (hG:G.lo=0) (h3:cX K a1 c2 a.L) (h6:cX K a4 c5 a.E) (h9:cX K a7 c8 b.L) (d6:cX K a10 c11 b.E) (e:qW a b=some R):
  Calls Tryz.prog 25 ([zA (zCa a a1 c2 a4 c5),zA (zCa b a7 c8 a10 c11),Value.func (.func 26) #[] #[]]:List Value).toArray w (gK fun v w'=>∃ (K':Hp) (d7:Option Addr) (d8:Nat),v=zT #[zB R.1,zS d7 R.2.1.length d8,i64 R.2.2]∧Hp.le K K'∧cX K' d7 d8 R.2.1∧aI G K' (L) w'):=by
 let z:=(zC b a7 c8 a10 c11)
 let J:=(zC a a1 c2 a4 c5)
 let d9:=[zA (zCa b a7 c8 a10 c11)]
 let e0:=[zA (zCa a a1 c2 a4 c5)]
 refine aW func25 rfl (by kernel_rfl) (by show (3:Nat)≤53;decide) ?_
 unfold qW at e
 refine aL (iI (v:=zA (zCa a a1 c2 a4 c5)) (vs:=J) hs rfl rfl (fun a3 i6 e9=>(iI (v:=zA (zCa b a7 c8 a10 c11)) (vs:=z) e9 rfl rfl (fun a5 i7 e1=>(aF (v:=zB false) (aF (v:=zS none 0 0) (aF (v:=i64 0) (aG (aQ (aQ (cN (fun f w=>∃ (b7:Bool),nB a b b7=some R∧f 2=Value.func (.func 26) #[] #[]∧f 3=zP (some ⟨a3,0,none⟩)∧f 4=zP (some ⟨a5,0,none⟩)∧f 24=zB b7∧aI G K (box a5 27 z::box a3 27 J::L) w) ?_ ?_)))))))))))
 ·rintro f i8 ⟨b7,e,e2,f0,f1,e3,b8⟩
  unfold nB at e
  refine aA ?_
  rcases aH e with ⟨b9,e⟩|⟨b9,e⟩
  ·refine aM b9 e3 (aL (aF (v:=zB false) (aF (v:=zS none 0 0) (aF (v:=i64 1) (aG ?_)))))
   obtain rfl:=zI e
   exact bM (aV (xO results25 rfl rfl rfl ⟨K,none,0,rfl,(zR _),tW _,(aI.arr 2 [] b8 rfl)⟩))
  ·refine aJ b9 e3 (bA (aA (aL (aD (eI (us:=J) dJ b8 (i:=1) rfl f0 rfl rfl) ?_))))
   obtain ⟨c,f3,e⟩:=aB e
   refine aS (vs:=e0) call37 rfl (jU b8 hG h3 h6 f3) ?_
   rintro _ i9 ⟨c0,m,n,h,j,a6,a8,rfl,r,f4⟩
   refine aO (v:=zT #[zA (zCa c.1 m n h j),zS a6 c.2.1.length a8,zB c.2.2]) (aD (bQ rfl rfl) (aD (bQ rfl rfl) (aD (bQ rfl rfl) (bW (vs:=zG) zeroValue27 f4 rfl (fun t j0 f5=>(bY (i:=0) (ns:=(zC c.1 m n h j)) (us:=(zC c.1 m n h j)) sizeOf27 f5 rfl rfl rfl rfl rfl (dE rfl) rfl rfl (fun f6 (e4:aI G c0 (box t 27 (zC c.1 m n h j)::aK 9 K m n c.1.L::aK 69 K h j c.1.E::aK 35 c0 a6 a8 c.2.1::box a5 27 z::box a3 27 J::L) f6)=>(aF (v:=zS a6 c.2.1.length a8) (aF (v:=zB c.2.2) (aG (aL (aD (eI (us:=z) dJ e4 (i:=4) rfl f1 rfl rfl) ?_))))))))))))
   obtain ⟨d,f7,e⟩:=aB e
   refine aS (vs:=d9) call37 rfl (jU e4 hG (h9.mono r) (d6.mono r) f7) ?_
   rintro _ j1 ⟨a9,o,p,k,l,c1,c3,rfl,V,f8⟩
   refine aO (v:=zT #[zA (zCa d.1 o p k l),zS c1 d.2.1.length c3,zB d.2.2]) (aD (bQ rfl rfl) (aD (bQ rfl rfl) (aD (bQ rfl rfl) (bW (vs:=zG) zeroValue27 f8 rfl (fun x j2 f9=>(bY (i:=0) (ns:=(zC d.1 o p k l)) (us:=(zC d.1 o p k l)) sizeOf27 f9 rfl rfl rfl rfl rfl (dE rfl) rfl rfl (fun g0 (e5:aI G a9 (box x 27 (zC d.1 o p k l)::aK 9 K o p d.1.L::aK 69 K k l d.1.E::aK 35 a9 c1 c3 d.2.1::box t 27 (zC c.1 m n h j)::aK 9 K m n c.1.L::aK 69 K h j c.1.E::aK 35 c0 a6 a8 c.2.1::box a5 27 z::box a3 27 J::L) g0)=>(aF (v:=zS c1 d.2.1.length c3) (aF (v:=zB d.2.2) (aG (aQ (aQ (cN (fun f w=>∃ (c4:Bool),nA c d c4=some R∧f 2=Value.func (.func 26) #[] #[]∧f 9=zP (some ⟨t,0,none⟩)∧f 12=zP (some ⟨x,0,none⟩)∧f 42=zB c4∧aI G a9 (box x 27 (zC d.1 o p k l)::aK 9 K o p d.1.L::aK 69 K k l d.1.E::box t 27 (zC c.1 m n h j)::aK 9 K m n c.1.L::aK 69 K h j c.1.E::L) w) ?_ ?_)))))))))))))
   ·rintro f b0 ⟨c4,e,g1,g2,g3,e6,b1⟩
    unfold nA at e
    refine aA ?_
    rcases aH e with ⟨c6,e⟩|⟨c6,e⟩
    ·refine aM c6 e6 (aL (aF (v:=zB false) (aF (v:=zS none 0 0) (aF (v:=i64 5) (aG ?_)))))
     obtain rfl:=zI e
     exact bM (aV (xO results25 rfl rfl rfl ⟨a9,none,0,rfl,(zL r V),tW _,(aI.arr 6 [] b1 rfl)⟩))
    ·refine aJ c6 e6 (bA (aA (aL (aD (eI (us:=(zC c.1 m n h j)) dJ b1 (i:=3) rfl g2 rfl rfl) (aD (eI (us:=(zC d.1 o p k l)) dJ b1 (i:=0) rfl g3 rfl rfl) (aN g1 ?_))))))
     obtain ⟨g5,b2,g6,c7⟩:=aI.giveS (i:=4) b1 (zL r V) rfl
     replace c7:aI G g5 (box x 27 (zC d.1 o p k l)::aK 9 K o p d.1.L::aK 69 K k l d.1.E::box t 27 (zC c.1 m n h j)::aK 69 K h j c.1.E::L) b0:=c7
     obtain ⟨g7,b3,g8,c9⟩:=aI.giveS (i:=4) c7 (zL (zL r V) b2) rfl
     replace c9:aI G g7 (box x 27 (zC d.1 o p k l)::aK 9 K o p d.1.L::aK 69 K k l d.1.E::box t 27 (zC c.1 m n h j)::L) b0:=c9
     obtain ⟨g9,b4,h0,d0⟩:=aI.giveS (i:=1) c9 (zL (zL (zL r V) b2) b3) rfl
     replace d0:aI G g9 (box x 27 (zC d.1 o p k l)::aK 69 K k l d.1.E::box t 27 (zC c.1 m n h j)::L) b0:=d0
     obtain ⟨h1,b5,h2,d1⟩:=aI.giveS (i:=1) d0 (zL (zL (zL (zL r V) b2) b3) b4) rfl
     replace d1:aI G h1 (box x 27 (zC d.1 o p k l)::box t 27 (zC c.1 m n h j)::L) b0:=d1
     obtain ⟨u,h4,e⟩:=aB e
     refine aS (vs:=[zA (zCa c.1 m n h j),zA (zCa d.1 o p k l),Value.func (.func 26) #[] #[]]) call55 rfl (aGk (a:=⟨c.1.N,c.1.I,c.1.L,c.1.E⟩) (b:=⟨d.1.N,d.1.I,d.1.L,d.1.E⟩) d1 (g6.mono (zL (zL b3 b4) b5)) (g8.mono (zL b4 b5)) (h0.mono b5) h2 h4) ?_
     rintro _ j3 ⟨h5,Z,a0,rfl,h7,h8,i0⟩
     refine aO (v:=zT #[zS Z u.1.length a0,zB u.2]) (aD (bQ rfl rfl) (aD (bQ rfl rfl) (aF (v:=zS Z u.1.length a0) (aF (v:=zB u.2) (aG (aL (aO (v:=zB u.2) (aD (eJ rfl) (aO (v:=zS Z u.1.length a0) (aF (v:=zB (!u.2)) (aF (v:=zS Z u.1.length a0) (aF (v:=i64 0) (aG ?_)))))))))))))
     obtain rfl:=zI e
     exact bM (xO results25 rfl rfl rfl ⟨h5,Z,a0,rfl,(zL (zL (zL (zL (zL (zL r V) b2) b3) b4) b5) h7),h8,(aI.arr 2 [] i0 rfl)⟩)
   refine aP (aO (v:=zB c.2.2) (aD (eJ rfl) (aO (v:=zB (!c.2.2)) ?_)))
   rcases aH e with ⟨y,e⟩|⟨y,e⟩
   ·exact aX y rfl rfl (aX y rfl rfl (aD (bL (v:=zB true) y rfl rfl) (aG ⟨true,e,e2,rfl,rfl,rfl,(aI.arr 10 [0,1,2,4,5,6] e5 rfl)⟩)))
   ·exact bG y rfl rfl (aO (v:=zB d.2.2) (bG y rfl rfl (aD (eJ rfl) (aD (bK (v:=zB (!d.2.2)) y rfl rfl) (aG ⟨!d.2.2,e,e2,rfl,rfl,rfl,(aI.arr 10 [0,1,2,4,5,6] e5 rfl)⟩)))))
 refine aP (aD (eI (us:=J) dJ e1 (i:=1) rfl rfl rfl rfl) ?_)
 obtain ⟨i2,i3,e⟩:=aB e
 refine aS (vs:=e0) call34 rfl (lP e1 hG h3 h6 i3) ?_
 rintro _ j4 ⟨rfl,d2⟩
 refine aD (eJ rfl) (aO (v:=zB (!i2)) ?_)
 rcases aH e with ⟨q,e⟩|⟨q,e⟩
 ·exact aX q rfl rfl (aX q rfl rfl (aX q rfl rfl (aD (bL (v:=zB true) q rfl rfl) (aG ⟨true,e,rfl,rfl,rfl,rfl,d2⟩))))
 ·refine bG q rfl rfl (aD (eI (us:=z) dJ d2 (i:=0) rfl rfl rfl rfl) (bG q rfl rfl ?_))
  obtain ⟨e7,i4,e⟩:=aB e
  refine aS (vs:=d9) call34 rfl (lP d2 hG h9 d6 i4) ?_
  rintro _ j5 ⟨rfl,i5⟩
  exact bG q rfl rfl (aD (eJ rfl) (aD (bK (v:=zB (!e7)) q rfl rfl) (aG ⟨!e7,e,rfl,rfl,rfl,rfl,i5⟩)))
theorem zW {a b:cG} {R:(Bool × (List aU) × Int)} (o:aI G K (L) w) (p:G.lo=0) (q:cX K a1 c2 a.L) (r:cX K a4 c5 a.E) (t:cX K a7 c8 b.L) (u:cX K a10 c11 b.E) (c:fG a b=some R):
  Calls Tryz.prog 7 ([zA (zCa a a1 c2 a4 c5),zA (zCa b a7 c8 a10 c11)]:List Value).toArray w (gK fun v w'=>∃ (d:Hp) (h:Option Addr) (j:Nat),v=zT #[zB R.1,zS h R.2.1.length j,i64 R.2.2]∧Hp.le K d∧cX d h j R.2.1∧aI G d (L) w'):=by
 let k:=(zC b a7 c8 a10 c11)
 let l:=(zC a a1 c2 a4 c5)
 refine aW func7 rfl (by kernel_rfl) (by show (2:Nat)≤13;decide) ?_
 unfold fG at c
 refine aL (iI (v:=zA (zCa a a1 c2 a4 c5)) (vs:=l) o rfl rfl (fun a2 a3 x=>(iI (v:=zA (zCa b a7 c8 a10 c11)) (vs:=k) x rfl rfl (fun a5 a6 e=>(aF (v:=zB false) (aF (v:=zS none 0 0) (aF (v:=i64 0) (aG (aL (aD (eI (us:=l) dJ e (i:=1) rfl rfl rfl rfl) (aD (eI (us:=k) dJ e (i:=0) rfl rfl rfl rfl) ?_)))))))))))
 obtain ⟨g,y,c⟩:=aB c
 refine aS (vs:=[zA (zCa a a1 c2 a4 c5),zA (zCa b a7 c8 a10 c11),Value.func (.func 26) #[] #[]]) call25 rfl (aEP e p q r t u y) ?_
 rintro _ a8 ⟨z,m,n,rfl,J,V,Z⟩
 refine aD (bQ rfl rfl) (aD (bQ rfl rfl) (aD (bQ rfl rfl) (aF (v:=zB g.1) (aF (v:=zS m g.2.1.length n) (aF (v:=i64 g.2.2) (aG ?_))))))
 obtain rfl:=zI c
 exact bM (xO results7 rfl rfl rfl ⟨z,m,n,rfl,J,V,(aI.arr 2 [] Z rfl)⟩)
theorem aEs {p q:Int} {R:Bool} (d:aI G K (L) w) (a:pI p q=some R):
  Calls Tryz.prog 27 ([i64 p,i64 q]:List Value).toArray w (gK fun v w'=>v=zB R∧aI G K (L) w'):=by
 refine aW func27 rfl (by kernel_rfl) (by show (2:Nat)≤11;decide) ?_
 unfold pI at a
 refine aL (aF (v:=zB false) (aG (aQ (cN (fun f w=>∃ (c:Bool),lU c=some R∧f 4=zB c∧aI G K (L) w) ?_ ?_))))
 ·rintro f j ⟨c,a,e,h⟩
  unfold lU at a
  refine aA ?_
  obtain rfl:=zI a
  exact bM (bP results27 rfl ⟨e,h⟩)
 refine aP (aO (v:=i64 p) (aD (cL rfl rfl) (aO (v:=zB (decide (p < 0))) ?_)))
 rcases aH a with ⟨b,a⟩|⟨b,a⟩
 ·exact aX b rfl rfl (aX b rfl rfl (aD (bL (v:=zB true) b rfl rfl) (aF (v:=zB true) (aG ⟨true,a,rfl,d⟩))))
 ·exact bG b rfl rfl (aO (v:=i64 q) (bG b rfl rfl (aD (cL rfl rfl) (aD (bK (v:=zB (decide (q < 0))) b rfl rfl) (aF (v:=zB (decide (q < 0))) (aG ⟨decide (q < 0),a,rfl,d⟩))))))
theorem aEQ {a b:cG} {R:((List aU) × Bool)} (hs:aI G K (L) w) (h3:cX K a1 c2 a.L) (h6:cX K a4 c5 a.E) (h9:cX K a7 c8 b.L) (j9:cX K a10 c11 b.E) (hm:lO a b=some R):
  Calls Tryz.prog 55 ([zA (zCa a a1 c2 a4 c5),zA (zCa b a7 c8 a10 c11),Value.func (.func 27) #[] #[]]:List Value).toArray w (gK fun v w'=>∃ (K':Hp) (p1:Option Addr) (p2:Nat),v=zT #[zS p1 R.1.length p2,zB R.2]∧Hp.le K K'∧cX K' p1 p2 R.1∧aI G K' (L) w'):=by
 let p3:=(zC b a7 c8 a10 c11)
 let p4:=(zC a a1 c2 a4 c5)
 let p5:=[i64 a.I,i64 b.I,zS none 0 0]
 refine aW func55 rfl (by kernel_rfl) (by show (3:Nat)≤96;decide) ?_
 unfold lO at hm
 refine aL (iI (v:=zA (zCa a a1 c2 a4 c5)) (vs:=p4) hs rfl rfl (fun d6 t3 t4=>?_))
 obtain ⟨t5,V,f5,k1,_⟩:=aI.lendB (i:=0) t4 rfl
 replace k1:aI G t5 (L) t3:=k1
 refine iI (v:=zA (zCa b a7 c8 a10 c11)) (vs:=p3) k1 rfl rfl (fun d7 t6 t7=>?_)
 obtain ⟨b1,u,f6,f7,_⟩:=aI.lendB (i:=0) t7 rfl
 replace f7:aI G b1 (L) t6:=f7
 refine aF (v:=zS none 0 0) (aF (v:=zB false) (aG (aL (aD (bO (k':=0+2) fL (iQ rfl) (f5.mono u) rfl) (aD (bH (t:=2) iT f7 (f5.mono u) rfl rfl) (aD (bO (k':=0+2) fL (iQ rfl) f6 rfl) (aD (bH (t:=2) iT f7 f6 rfl rfl) (bR (Kt:=b1) (xs:=([a.L,b.L]:List (List aU))) (cs:=[zS a1 a.L.length c2,zS a7 b.L.length c8]) (vs:=[(0,zS a1 a.L.length c2),(1,zS a7 b.L.length c8)]) aED ez_24 rfl rfl f7 rfl (by kernel_rfl) rfl rfl rfl ⟨⟨a1,c2,rfl,(h3.mono (zL V u))⟩,⟨a7,c8,rfl,(h9.mono (zL V u))⟩,trivial⟩ (fun f8 t8 (t9:aI G b1 (aK 24 b1 f8 2 ([a.L,b.L]:List (List aU))::L) t8)=>?_)))))))))
 obtain ⟨K30,a74,u0,u1,u2⟩:=aI.lendS (i:=0) t9 (zR _) rfl
 obtain ⟨i1,u3,hm⟩:=aB hm
 refine aS (vs:=[zS f8 ([a.L,b.L]:List (List aU)).length 2]) call94 rfl (lD u1 u0 u3) ?_
 rintro _ w39 ⟨i2,i3,rfl,u4⟩
 have u5:=u2 _ _ u4
 obtain ⟨K42,a77,u6,u7,u8⟩:=aI.lendS (i:=1) u5 (zL V u) rfl
 obtain ⟨i4,u9,hm⟩:=aB hm
 have hcl:=aAj u7 u6 (tW (α:=oO) _) u9
 refine aS (vs:=[i64 1,i64 0,zS i2 i1.length i3,zS none 0 0]) call74 rfl hcl ?_
 rintro _ v0 ⟨p6,p7,k2,k3,rfl,v1⟩
 have p8:=u8 _ _ v1
 refine aD (R_field (v:=zS p6 i4.L.length p7) fv_27_2 rfl rfl) ?_
 obtain ⟨d,p9,hm⟩:=aB hm
 have v2:=rV p8 (i:=1) rfl
 obtain ⟨l,m,q0⟩:=Cut.ex 1 p6 p7 1
 refine aD (aBm bX v2 q0 rfl rfl rfl p9) ?_
 have v3:aI G b1 (aK 9 K i2 i3 i1::aK 9 K l m d::aK 69 K k2 k3 i4.E::aK 24 b1 f8 2 ([a.L,b.L]:List (List aU))::L) v0:=aI.cutP p8 (i:=1) rfl p9 q0
 refine aF (v:=zS l d.length m) (aG (aL (aIn (Int × Int) Bool v3 ?_)))
 intro o v4 (k4:aI G b1 (iR o ([]:(List ((Int × Int) × Bool)))::aK 9 K i2 i3 i1::aK 9 K l m d::aK 69 K k2 k3 i4.E::aK 24 b1 f8 2 ([a.L,b.L]:List (List aU))::L) v4)
 refine aF (v:=zM (some o)) (aG (aL (aD (bO (k':=0+1) oP (iQ rfl) (f5.mono u) rfl) (aD (bH (t:=1) cK k4 (f5.mono u) rfl rfl) (aD (bO (k':=0+1) oP (iQ rfl) f6 rfl) (aD (bH (t:=1) cK k4 f6 rfl rfl) (aD (dL (vs:=[(0,i64 a.I),(1,i64 b.I),(2,zS none 0 0)]) (cs:=p5) aDq rfl (by kernel_rfl)) (bR (Kt:=b1) (xs:=([⟨a.I,b.I,[]⟩]:List aY)) (cs:=p5) (vs:=[(0,zA #[i64 a.I,i64 b.I,zS none 0 0])]) kP sE rfl rfl k4 rfl (by kernel_rfl) rfl rfl rfl ⟨⟨none,0,rfl,tW _⟩,trivial⟩ ?_))))))))
 intro k5 v5 (v6:aI G b1 (aK 65 b1 k5 1 ([⟨a.I,b.I,[]⟩]:List aY)::iR o ([]:(List ((Int × Int) × Bool)))::aK 9 K i2 i3 i1::aK 9 K l m d::aK 69 K k2 k3 i4.E::aK 24 b1 f8 2 ([a.L,b.L]:List (List aU))::L) v5)
 refine aF (v:=zS k5 ([⟨a.I,b.I,[]⟩]:List aY).length 1) (aG (aQ (bB (fun f w=>∃ (i5:Hp),Hp.le b1 i5∧qK=some R∧aI G i5 (L) w) ?_ ?_)))
 ·rintro f w71 ⟨i5,v7,hm,v8⟩
  unfold qK at hm
  refine aA (aL (aF (v:=zS none 0 0) (aF (v:=zB false) (aG ?_))))
  obtain rfl:=zI hm
  exact bM (kF results55 rfl rfl ⟨i5,none,0,rfl,(zL (zL V u) v7),tW _,v8⟩)
 obtain ⟨a79,w0,hm⟩:=aB hm
 refine cE w0 (fun (s:((List ((Int × Int) × Bool)) × List aY)) f w=>match s with|(b0,c9)=>∃ (b3:Hp) (d8:Option Addr) (d9:Nat),Hp.le b1 b3∧f 2=Value.func (.func 27) #[] #[]∧f 3=cU (some ⟨d6,0,none⟩) 0∧f 4=cU (some ⟨d7,0,none⟩) 0∧f 8=zS l d.length m∧f 9=zM (some o)∧f 10=zS d8 c9.length d9∧aI G b3 (aK 65 b3 d8 d9 c9::iR o b0::aK 9 K l m d::L) w) ?_ ?_
 ·exact ⟨b1,k5,1,(zR _),rfl,(iQ rfl),(iQ rfl),rfl,rfl,rfl,(aI.arr 6 [0,1,3] v6 rfl)⟩
 ·rintro ⟨b0,c9⟩ f9 f a80 n q1 ⟨b3,d8,d9,Z,k6,k7,k8,k9,g0,l0,i6⟩
  replace n:eN a b d b0 c9=some f9:=n
  unfold eN at n
  refine aQ (aL (aN l0 (aD (bU (len:=c9.length) kP rfl) (aD (kZ rfl rfl) (aG ?_)))))
  rcases aH n with ⟨l1,n⟩|⟨l1,n⟩
  ·refine aM l1 rfl (bA (aA (bB (fun f w=>∃ (g1:Hp) (i7:(List ((Int × Int) × Bool))) (g2:List aY) (i8:Option Addr) (i9:Nat),Hp.le b3 g1∧qL i7 g2=some f9∧f 2=Value.func (.func 27) #[] #[]∧f 3=cU (some ⟨d6,0,none⟩) 0∧f 4=cU (some ⟨d7,0,none⟩) 0∧f 8=zS l d.length m∧f 9=zM (some o)∧f 10=zS i8 g2.length i9∧aI G g1 (aK 65 g1 i8 i9 g2::iR o i7::aK 9 K l m d::L) w) ?_ ?_)))
   ·rintro f a81 ⟨g1,i7,g2,i8,i9,w1,n,w2,w3,w4,w5,w6,w7,w8⟩
    unfold qL at n
    exact aA ⟨(i7,g2),(zI n).symm,g1,i8,i9,(zL Z w1),w2,w3,w4,w5,w6,w7,w8⟩
   refine aL (aN l0 ?_)
   obtain ⟨c,l2,n⟩:=aB n
   have w9:=dA i6 (i:=0) rfl l2
   refine aD (dT kP rfl w9 rfl rfl rfl l2) ?_
   obtain ⟨a82,x0,x1⟩:=aIk (sz:=3) rfl i6 (i:=0) rfl l2
   obtain ⟨b6,b7,rfl,g3⟩:=x1
   refine aD (aKM (t:=0) (vs:=[i64 c.a,i64 c.b,zS b6 c.trace.length b7]) ag_65 x0 rfl rfl rfl) (bW (vs:=[i64 0,i64 0,zS none 0 0]) zeroValue65 i6 rfl (fun j0 a83 x2=>(bY (i:=0) (ns:=[i64 c.a,i64 c.b,zS b6 c.trace.length b7]) (us:=[i64 c.a,i64 c.b,zS b6 c.trace.length b7]) sizeOf65 x2 rfl rfl rfl rfl rfl (dE rfl) rfl rfl (fun l3 (x3:aI G b3 (box j0 65 [i64 c.a,i64 c.b,zS b6 c.trace.length b7]::aK 65 b3 d8 d9 c9::iR o b0::aK 9 K l m d::L) l3)=>?_))))
   obtain ⟨b2,r,y,j1,_⟩:=aI.lendB (i:=0) x3 rfl
   replace j1:aI G b2 (aK 65 b3 d8 d9 c9::iR o b0::aK 9 K l m d::L) l3:=j1
   refine aG (aL (aN l0 ?_))
   obtain ⟨b8,q2,n⟩:=aB n
   have x4:=aLG j1 (i:=0) rfl
   obtain ⟨b9,c0,q3⟩:=Cut.ex 3 d8 d9 1
   refine aD (aBm kP x4 q3 rfl rfl rfl q2) ?_
   have b5:aI G b2 (aK 65 b3 b9 c0 b8::iR o b0::aK 9 K l m d::L) l3:=aI.cutPE j1 (i:=0) rfl q2 q3
   refine aF (v:=zS b9 b8.length c0) (aG (aQ (aQ (cN (fun f w=>∃ (l4:Bool),gV a b d b0 c b8 l4=some f9∧f 2=Value.func (.func 27) #[] #[]∧f 3=cU (some ⟨d6,0,none⟩) 0∧f 4=cU (some ⟨d7,0,none⟩) 0∧f 8=zS l d.length m∧f 9=zM (some o)∧f 10=zS b9 b8.length c0∧f 11=cU (some ⟨j0,0,none⟩) 0∧f 54=zB l4∧aI G b2 (aK 65 b3 b9 c0 b8::iR o b0::aK 9 K l m d::L) w) ?_ ?_))))
   ·rintro f x5 ⟨l4,n,l5,q4,q5,l6,l7,q6,e0,q7,j2⟩
    unfold gV at n
    refine aA ?_
    rcases aH n with ⟨l8,n⟩|⟨l8,n⟩
    ·refine aM l8 q7 ?_
     have x6:aI G b2 (aK 65 b2 b9 c0 b8::iR o b0::aK 9 K l m d::L) x5:=aI.weak (i:=0) j2 rfl (fun _ h=>aK.mono r h)
     exact cA (aT (bJ (aA ⟨b2,b0,b8,b9,c0,r,n,l5,q4,q5,l6,l7,q6,x6⟩)))
    ·refine aJ l8 q7 (bA (aA (aL (aN l7 (aD (bO (k':=0+0) tX e0 y rfl) (aD (bH (t:=0) cK j2 y rfl rfl) (aD (bO (k':=0+1) vZ e0 y rfl) (aD (bH (t:=1) cK j2 y rfl rfl) (aD (aDn (vs:=[(0,i64 c.a),(1,i64 c.b)]) (cs:=[i64 c.a,i64 c.b]) aGH aGI rfl (by kernel_rfl)) ?_)))))))))
     obtain ⟨x,x7,n⟩:=aB n
     refine aIq (i:=1) (k:=⟨c.a,c.b⟩) (v:=true) runUnderlying126 aGJ j2 rfl rfl rfl rfl x7 (fun x8 (l9:aI G b2 (aK 65 b3 b9 c0 b8::iR o x::aK 9 K l m d::L) x8)=>(aG (aQ (aL (aN l5 (aD (bO (k':=0+0) tX e0 y rfl) (aD (bH (t:=0) cK l9 y rfl rfl) (aD (bO (k':=0+1) vZ e0 y rfl) (aD (bH (t:=1) cK l9 y rfl rfl) ?_)))))))))
     obtain ⟨a84,x9,n⟩:=aB n
     refine aCe (vs:=[i64 c.a,i64 c.b]) (caps:=[]) (us:=[i64 c.a,i64 c.b]) rfl call27 rfl rfl (aEs l9 x9) ?_
     rintro _ y0 ⟨rfl,m0⟩
     refine aG ?_
     rcases aH n with ⟨m1,n⟩|⟨m1,n⟩
     ·refine aM m1 rfl (aL (aD (bO (k':=0+2) aDX e0 y rfl) (aD (bH (t:=2) iT m0 y rfl rfl) (aF (v:=zS b6 c.trace.length b7) (aF (v:=zB true) (aG (bM (aV (bV (aV (aV ?_)))))))))))
      have y1:=q1 _ (zI n).symm
      subst y1
      have hm:(some (c.trace,true))=some R:=hm
      obtain rfl:=zI hm
      exact bV (aV (aV (kF results55 rfl rfl ⟨b2,b6,b7,rfl,(zL (zL (zL V u) Z) r),(g3.mono r),(aI.arr 3 [] m0 rfl)⟩)))
     ·refine aJ m1 rfl (bA (aA (aL (aN l6 (aD (bU (len:=d.length) bX rfl) (aO (v:=i64 0) (aG (bB (fun f w=>∃ (g4:Hp) (g5:List aY) (j3:Option Addr) (j4:Nat),Hp.le b2 g4∧qM x g5=some f9∧f 2=Value.func (.func 27) #[] #[]∧f 3=cU (some ⟨d6,0,none⟩) 0∧f 4=cU (some ⟨d7,0,none⟩) 0∧f 8=zS l d.length m∧f 9=zM (some o)∧f 10=zS j3 g5.length j4∧aI G g4 (aK 65 g4 j3 j4 g5::iR o x::aK 9 K l m d::L) w) ?_ ?_))))))))
      ·rintro f a85 ⟨g4,g5,j3,j4,y3,n,y4,y5,y6,y7,y8,y9,z0⟩
       unfold qM at n
       exact bC (aA ⟨g4,x,g5,j3,j4,(zL r y3),n,y4,y5,y6,y7,y8,y9,z0⟩)
      have z1:aI G b2 (aK 65 b2 b9 c0 b8::iR o x::aK 9 K l m d::L) y0:=aI.weak (i:=0) m0 rfl (fun _ h=>aK.mono r h)
      obtain ⟨a86,z2,n⟩:=aB n
      refine cE z2 (fun (s:(List aY × Int)) f w=>match s with|(a0,d0)=>∃ (p:Hp) (a3:Option Addr) (a5:Nat),Hp.le b2 p∧f 2=Value.func (.func 27) #[] #[]∧f 3=cU (some ⟨d6,0,none⟩) 0∧f 4=cU (some ⟨d7,0,none⟩) 0∧f 8=zS l d.length m∧f 9=zM (some o)∧f 10=zS a3 a0.length a5∧f 11=cU (some ⟨j0,0,none⟩) 0∧f 69=zS l d.length m∧f 70=i64 (d.length:Int)∧f 71=i64 d0∧aI G p (aK 65 p a3 a5 a0::iR o x::aK 9 K l m d::L) w) ?_ ?_
      ·exact ⟨b2,b9,c0,(zR _),l5,q4,q5,l6,l7,q6,e0,rfl,rfl,rfl,z1⟩
      ·rintro ⟨a0,d0⟩ q8 f a87 e z3 ⟨p,a3,a5,q,g6,e1,e2,g7,g8,q9,d1,g9,h0,e3,j5⟩
       replace e:qN a b d c a0 d0=some q8:=e
       unfold qN at e
       refine aL (aD (cL e3 h0) (aG (aQ ?_)))
       rcases aH e with ⟨m2,e⟩|⟨m2,e⟩
       ·refine aM m2 rfl (bA (aA (aQ (cY (aL ?_)))))
        obtain ⟨J,m3,e⟩:=aB e
        have z4:=dA j5 (i:=2) rfl m3
        refine aD (dT bX rfl z4 g9 rfl e3 m3) (aD (gP (t:=0) qB j5 (i:=2) rfl m3 rfl rfl rfl) (aF (v:=str J) (aG (cN (fun f w=>∃ (h1:Hp) (h2:List aY) (j6:Option Addr) (j7:Nat),Hp.le p h1∧wN d0 h2=some q8∧f 2=Value.func (.func 27) #[] #[]∧f 3=cU (some ⟨d6,0,none⟩) 0∧f 4=cU (some ⟨d7,0,none⟩) 0∧f 8=zS l d.length m∧f 9=zM (some o)∧f 10=zS j6 h2.length j7∧f 11=cU (some ⟨j0,0,none⟩) 0∧f 69=zS l d.length m∧f 70=i64 (d.length:Int)∧f 71=i64 d0∧aI G h1 (aK 65 h1 j6 j7 h2::iR o x::aK 9 K l m d::L) w) ?_ ?_))))
        ·rintro f a88 ⟨h1,h2,j6,j7,z5,e,z6,z7,z8,z9,a00,a01,a02,a03,a04,a05,a06⟩
         unfold wN at e
         exact bC (aA (aP (aD (cP a05 rfl) (aO (v:=i64 (wr (d0+1))) (aG ⟨(h2,wr (d0+1)),(zI e).symm,h1,j6,j7,(zL q z5),z6,z7,z8,z9,a00,a01,a02,a03,a04,rfl,a06⟩)))))
        refine zZ (C:=fun w'=>∃ L',aI G p L' w') [] bZ (by kernel_rfl) (fun a89 a07=>?_)
        have a2:=aI.mono j5 a07
        refine dZ (i:=0) rfl (by kernel_rfl) ⟨_,a2⟩ (fun _ _=>bE q9) (dZ (i:=1) rfl (by kernel_rfl) ⟨_,a2⟩ (fun _ ⟨_,a2⟩=>gT (t:=0) (vs:=p4) dJ a2 (f5.mono (zL (zL (zL u Z) r) q)) e1 rfl rfl) (dZ (i:=2) rfl (by kernel_rfl) ⟨_,a2⟩ (fun _ _=>bO (k':=0+0) tX d1 (y.mono q) rfl) (dZ (i:=3) rfl (by kernel_rfl) ⟨_,a2⟩ (fun _ ⟨_,a2⟩=>bH (t:=0) cK a2 (y.mono q) rfl rfl) (dZ (i:=4) rfl (by kernel_rfl) ⟨_,a2⟩ (fun _ _=>bE (v:=str J) rfl) (dZ (i:=6) rfl (by kernel_rfl) ⟨_,a2⟩ (fun _ ⟨_,a2⟩=>gT (t:=0) (vs:=p3) dJ a2 (f6.mono (zL (zL Z r) q)) e2 rfl rfl) (dZ (i:=7) rfl (by kernel_rfl) ⟨_,a2⟩ (fun _ _=>bO (k':=0+1) vZ d1 (y.mono q) rfl) (dZ (i:=8) rfl (by kernel_rfl) ⟨_,a2⟩ (fun _ ⟨_,a2⟩=>bH (t:=1) cK a2 (y.mono q) rfl rfl) (dZ (i:=9) rfl (by kernel_rfl) ⟨_,a2⟩ (fun _ _=>bE (v:=str J) rfl) (dZ (i:=11) rfl (by kernel_rfl) ⟨_,a2⟩ (fun _ _=>bO (k':=0+2) aDX d1 (y.mono q) rfl) (dZ (i:=12) rfl (by kernel_rfl) ⟨_,a2⟩ (fun _ ⟨_,a2⟩=>bH (t:=2) iT a2 (y.mono q) rfl rfl) (dZ (i:=14) rfl (by kernel_rfl) ⟨_,a2⟩ (fun _ _=>bE (v:=str J) rfl) (nE (i:=5) (j:=15) (by kernel_rfl) rfl rfl ?_ ?_))))))))))))
        ·obtain ⟨a8,a08,e⟩:=aB e
         refine aS (vs:=[zA (zCa a a1 c2 a4 c5),i64 c.a,str J]) call95 rfl (gY a2 (h3.mono (zL (zL (zL (zL V u) Z) r) q)) (h6.mono (zL (zL (zL (zL V u) Z) r) q)) a08) ?_
         rintro _ a90 ⟨rfl,m4⟩
         refine aZ (aA ⟨fun _=>⟨_,m4⟩,?_⟩)
         refine nE (i:=10) (j:=15) (by kernel_rfl) rfl rfl ?_ ?_
         ·obtain ⟨b4,a09,e⟩:=aB e
          refine aS (vs:=[zA (zCa b a7 c8 a10 c11),i64 c.b,str J]) call95 rfl (gY m4 (h9.mono (zL (zL (zL (zL V u) Z) r) q)) (j9.mono (zL (zL (zL (zL V u) Z) r) q)) a09) ?_
          rintro _ a91 ⟨rfl,m5⟩
          refine aZ (aA ⟨fun _=>⟨_,m5⟩,?_⟩)
          refine nE (i:=13) (j:=15) (by kernel_rfl) rfl rfl ?_ ?_
          ·obtain ⟨a11,a12,e⟩:=aB e
           refine aS (vs:=[zS b6 c.trace.length b7]) call33 rfl (cO m5 (g3.mono (zL r q)) a12) ?_
           rintro _ a92 ⟨a13,a14,rfl,r0⟩
           refine aZ (aA ⟨fun _=>⟨_,r0⟩,?_⟩)
           refine cB (i:=15) (by kernel_rfl) rfl (bR (Kt:=K) (xs:=([J]:List aU)) (cs:=[str J]) (vs:=[(0,str J)]) bX gJ rfl rfl r0 rfl (by kernel_rfl) rfl rfl rfl ⟨rfl,trivial⟩ (fun a15 a16 (r1:aI G p (aK 9 K a15 1 ([J]:List aU)::aK 9 K a13 a14 a11::aK 65 p a3 a5 a0::iR o x::aK 9 K l m d::L) a16)=>(aZ (aA ⟨fun _=>⟨_,r1⟩,?_⟩))))
           refine cB (i:=16) (by kernel_rfl) rfl ?_
           obtain ⟨d2,a17,e⟩:=aB e
           refine dG (i:=0) bX underlying24 gJ rfl rfl r1 rfl (zL (zL (zL (zL V u) Z) r) q) (zL (zL (zL (zL V u) Z) r) q) a17 rfl rfl rfl rfl (fun _ h=>h) (fun e4 e5 r2 (m6:aI G p (aK 9 K e4 e5 d2::aK 65 p a3 a5 a0::iR o x::aK 9 K l m d::L) r2)=>(aZ (aA ⟨fun _=>⟨_,m6⟩,?_⟩)))
           refine dZ (i:=17) rfl (by kernel_rfl) ⟨_,m6⟩ (fun _ _=>dL (vs:=[(0,i64 a8),(1,i64 b4),(2,zS e4 d2.length e5)]) (cs:=[i64 a8,i64 b4,zS e4 d2.length e5]) aDq rfl (by kernel_rfl)) (cB (i:=18) (by kernel_rfl) rfl ?_)
           obtain ⟨c3,h4,a18,m7⟩:=aI.giveS (i:=0) m6 (zL (zL (zL (zL V u) Z) r) q) rfl
           replace m7:aI G c3 (aK 65 p a3 a5 a0::iR o x::aK 9 K l m d::L) r2:=m7
           refine bR (Kt:=c3) (xs:=([⟨a8,b4,d2⟩]:List aY)) (cs:=[i64 a8,i64 b4,zS e4 d2.length e5]) (vs:=[(0,zA #[i64 a8,i64 b4,zS e4 d2.length e5])]) kP sE rfl rfl m7 rfl (by kernel_rfl) rfl rfl rfl ⟨⟨e4,e5,rfl,a18⟩,trivial⟩ (fun a19 a20 (r3:aI G c3 (aK 65 c3 a19 1 ([⟨a8,b4,d2⟩]:List aY)::aK 65 p a3 a5 a0::iR o x::aK 9 K l m d::L) a20)=>(aZ (aA ⟨fun _=>⟨_,(aI.weakK r3 h4)⟩,?_⟩)))
           refine cB (i:=19) (by kernel_rfl) rfl ?_
           obtain ⟨m8,a21,e⟩:=aB e
           refine vX (i:=0) c3 kP underlying66 sE rfl rfl r3 rfl h4 (zR _) a21 rfl rfl rfl rfl (fun _ _ _ h=>El.one h) (fun m9 n0 a22 (n1:aI G c3 (aK 65 c3 m9 n0 m8::iR o x::aK 9 K l m d::L) a22)=>(aZ (aA ⟨fun _=>⟨_,(aI.weakK n1 h4)⟩,?_⟩)))
           exact dZ (i:=20) rfl (by kernel_rfl) ⟨_,(aI.weakK n1 h4)⟩ (fun _ _=>dV (v:=zS m9 m8.length n0) rfl) (gL (by kernel_rfl) (aA ⟨c3,m8,m9,n0,h4,e,g6,e1,e2,g7,g8,rfl,d1,g9,h0,e3,n1⟩))
          ·refine bR (Kt:=K) (xs:=([J]:List aU)) (cs:=[str J]) (vs:=[(0,str J)]) bX gJ rfl rfl m5 rfl (by kernel_rfl) rfl rfl rfl ⟨rfl,trivial⟩ (fun r4 a23 (r5:aI G p (aK 9 K r4 1 ([J]:List aU)::aK 65 p a3 a5 a0::iR o x::aK 9 K l m d::L) a23)=>(aZ (aA ⟨fun _=>⟨_,r5⟩,?_⟩)))
           refine cB (i:=13) (by kernel_rfl) rfl ?_
           obtain ⟨a24,a25,e⟩:=aB e
           refine aS (vs:=[zS b6 c.trace.length b7]) call33 rfl (cO r5 (g3.mono (zL r q)) a25) ?_
           rintro _ a26 ⟨a28,a29,rfl,r6⟩
           refine aZ (aA ⟨fun _=>⟨_,r6⟩,?_⟩)
           refine cB (i:=16) (by kernel_rfl) rfl ?_
           obtain ⟨d3,a30,e⟩:=aB e
           have a31:aI G p (aK 9 K r4 1 ([J]:List aU)::aK 9 K a28 a29 a24::aK 65 p a3 a5 a0::iR o x::aK 9 K l m d::L) a26:=(aI.arr 2 [1,0] r6 rfl)
           refine dG (i:=0) bX underlying24 gJ rfl rfl a31 rfl (zL (zL (zL (zL V u) Z) r) q) (zL (zL (zL (zL V u) Z) r) q) a30 rfl rfl rfl rfl (fun _ h=>h) (fun e6 e7 r7 (n2:aI G p (aK 9 K e6 e7 d3::aK 65 p a3 a5 a0::iR o x::aK 9 K l m d::L) r7)=>(aZ (aA ⟨fun _=>⟨_,n2⟩,?_⟩)))
           refine dZ (i:=17) rfl (by kernel_rfl) ⟨_,n2⟩ (fun _ _=>dL (vs:=[(0,i64 a8),(1,i64 b4),(2,zS e6 d3.length e7)]) (cs:=[i64 a8,i64 b4,zS e6 d3.length e7]) aDq rfl (by kernel_rfl)) (cB (i:=18) (by kernel_rfl) rfl ?_)
           obtain ⟨c4,h5,a32,n3⟩:=aI.giveS (i:=0) n2 (zL (zL (zL (zL V u) Z) r) q) rfl
           replace n3:aI G c4 (aK 65 p a3 a5 a0::iR o x::aK 9 K l m d::L) r7:=n3
           refine bR (Kt:=c4) (xs:=([⟨a8,b4,d3⟩]:List aY)) (cs:=[i64 a8,i64 b4,zS e6 d3.length e7]) (vs:=[(0,zA #[i64 a8,i64 b4,zS e6 d3.length e7])]) kP sE rfl rfl n3 rfl (by kernel_rfl) rfl rfl rfl ⟨⟨e6,e7,rfl,a32⟩,trivial⟩ (fun a33 a34 (r8:aI G c4 (aK 65 c4 a33 1 ([⟨a8,b4,d3⟩]:List aY)::aK 65 p a3 a5 a0::iR o x::aK 9 K l m d::L) a34)=>(aZ (aA ⟨fun _=>⟨_,(aI.weakK r8 h5)⟩,?_⟩)))
           refine cB (i:=19) (by kernel_rfl) rfl ?_
           obtain ⟨n4,a35,e⟩:=aB e
           refine vX (i:=0) c4 kP underlying66 sE rfl rfl r8 rfl h5 (zR _) a35 rfl rfl rfl rfl (fun _ _ _ h=>El.one h) (fun n5 n6 a36 (n7:aI G c4 (aK 65 c4 n5 n6 n4::iR o x::aK 9 K l m d::L) a36)=>(aZ (aA ⟨fun _=>⟨_,(aI.weakK n7 h5)⟩,?_⟩)))
           exact dZ (i:=20) rfl (by kernel_rfl) ⟨_,(aI.weakK n7 h5)⟩ (fun _ _=>dV (v:=zS n5 n4.length n6) rfl) (gL (by kernel_rfl) (aA ⟨c4,n4,n5,n6,h5,e,g6,e1,e2,g7,g8,rfl,d1,g9,h0,e3,n7⟩))
         ·refine bR (Kt:=K) (xs:=([J]:List aU)) (cs:=[str J]) (vs:=[(0,str J)]) bX gJ rfl rfl m4 rfl (by kernel_rfl) rfl rfl rfl ⟨rfl,trivial⟩ (fun r9 a38 (s0:aI G p (aK 9 K r9 1 ([J]:List aU)::aK 65 p a3 a5 a0::iR o x::aK 9 K l m d::L) a38)=>(aZ (aA ⟨fun _=>⟨_,s0⟩,?_⟩)))
          refine cB (i:=10) (by kernel_rfl) rfl ?_
          obtain ⟨e8,a39,e⟩:=aB e
          refine aS (vs:=[zA (zCa b a7 c8 a10 c11),i64 c.b,str J]) call95 rfl (gY s0 (h9.mono (zL (zL (zL (zL V u) Z) r) q)) (j9.mono (zL (zL (zL (zL V u) Z) r) q)) a39) ?_
          rintro _ a93 ⟨rfl,s1⟩
          refine aZ (aA ⟨fun _=>⟨_,s1⟩,?_⟩)
          refine cB (i:=13) (by kernel_rfl) rfl ?_
          obtain ⟨a40,a41,e⟩:=aB e
          refine aS (vs:=[zS b6 c.trace.length b7]) call33 rfl (cO s1 (g3.mono (zL r q)) a41) ?_
          rintro _ a42 ⟨a43,a44,rfl,s2⟩
          refine aZ (aA ⟨fun _=>⟨_,s2⟩,?_⟩)
          refine cB (i:=16) (by kernel_rfl) rfl ?_
          obtain ⟨d4,a45,e⟩:=aB e
          have a46:aI G p (aK 9 K r9 1 ([J]:List aU)::aK 9 K a43 a44 a40::aK 65 p a3 a5 a0::iR o x::aK 9 K l m d::L) a42:=(aI.arr 2 [1,0] s2 rfl)
          refine dG (i:=0) bX underlying24 gJ rfl rfl a46 rfl (zL (zL (zL (zL V u) Z) r) q) (zL (zL (zL (zL V u) Z) r) q) a45 rfl rfl rfl rfl (fun _ h=>h) (fun e9 f0 s3 (n8:aI G p (aK 9 K e9 f0 d4::aK 65 p a3 a5 a0::iR o x::aK 9 K l m d::L) s3)=>(aZ (aA ⟨fun _=>⟨_,n8⟩,?_⟩)))
          refine dZ (i:=17) rfl (by kernel_rfl) ⟨_,n8⟩ (fun _ _=>dL (vs:=[(0,i64 a8),(1,i64 e8),(2,zS e9 d4.length f0)]) (cs:=[i64 a8,i64 e8,zS e9 d4.length f0]) aDq rfl (by kernel_rfl)) (cB (i:=18) (by kernel_rfl) rfl ?_)
          obtain ⟨c6,h7,a47,n9⟩:=aI.giveS (i:=0) n8 (zL (zL (zL (zL V u) Z) r) q) rfl
          replace n9:aI G c6 (aK 65 p a3 a5 a0::iR o x::aK 9 K l m d::L) s3:=n9
          refine bR (Kt:=c6) (xs:=([⟨a8,e8,d4⟩]:List aY)) (cs:=[i64 a8,i64 e8,zS e9 d4.length f0]) (vs:=[(0,zA #[i64 a8,i64 e8,zS e9 d4.length f0])]) kP sE rfl rfl n9 rfl (by kernel_rfl) rfl rfl rfl ⟨⟨e9,f0,rfl,a47⟩,trivial⟩ (fun a48 a50 (s4:aI G c6 (aK 65 c6 a48 1 ([⟨a8,e8,d4⟩]:List aY)::aK 65 p a3 a5 a0::iR o x::aK 9 K l m d::L) a50)=>(aZ (aA ⟨fun _=>⟨_,(aI.weakK s4 h7)⟩,?_⟩)))
          refine cB (i:=19) (by kernel_rfl) rfl ?_
          obtain ⟨o0,a52,e⟩:=aB e
          refine vX (i:=0) c6 kP underlying66 sE rfl rfl s4 rfl h7 (zR _) a52 rfl rfl rfl rfl (fun _ _ _ h=>El.one h) (fun o1 o2 a53 (o3:aI G c6 (aK 65 c6 o1 o2 o0::iR o x::aK 9 K l m d::L) a53)=>(aZ (aA ⟨fun _=>⟨_,(aI.weakK o3 h7)⟩,?_⟩)))
          exact dZ (i:=20) rfl (by kernel_rfl) ⟨_,(aI.weakK o3 h7)⟩ (fun _ _=>dV (v:=zS o1 o0.length o2) rfl) (gL (by kernel_rfl) (aA ⟨c6,o0,o1,o2,h7,e,g6,e1,e2,g7,g8,rfl,d1,g9,h0,e3,o3⟩))
        ·refine bR (Kt:=K) (xs:=([J]:List aU)) (cs:=[str J]) (vs:=[(0,str J)]) bX gJ rfl rfl a2 rfl (by kernel_rfl) rfl rfl rfl ⟨rfl,trivial⟩ (fun s5 a54 (s6:aI G p (aK 9 K s5 1 ([J]:List aU)::aK 65 p a3 a5 a0::iR o x::aK 9 K l m d::L) a54)=>(aZ (aA ⟨fun _=>⟨_,s6⟩,?_⟩)))
         refine cB (i:=5) (by kernel_rfl) rfl ?_
         obtain ⟨f1,a55,e⟩:=aB e
         refine aS (vs:=[zA (zCa a a1 c2 a4 c5),i64 c.a,str J]) call95 rfl (gY s6 (h3.mono (zL (zL (zL (zL V u) Z) r) q)) (h6.mono (zL (zL (zL (zL V u) Z) r) q)) a55) ?_
         rintro _ a94 ⟨rfl,s7⟩
         refine aZ (aA ⟨fun _=>⟨_,s7⟩,?_⟩)
         refine cB (i:=10) (by kernel_rfl) rfl ?_
         obtain ⟨f2,a56,e⟩:=aB e
         refine aS (vs:=[zA (zCa b a7 c8 a10 c11),i64 c.b,str J]) call95 rfl (gY s7 (h9.mono (zL (zL (zL (zL V u) Z) r) q)) (j9.mono (zL (zL (zL (zL V u) Z) r) q)) a56) ?_
         rintro _ a95 ⟨rfl,s8⟩
         refine aZ (aA ⟨fun _=>⟨_,s8⟩,?_⟩)
         refine cB (i:=13) (by kernel_rfl) rfl ?_
         obtain ⟨a57,a59,e⟩:=aB e
         refine aS (vs:=[zS b6 c.trace.length b7]) call33 rfl (cO s8 (g3.mono (zL r q)) a59) ?_
         rintro _ a60 ⟨a61,a62,rfl,s9⟩
         refine aZ (aA ⟨fun _=>⟨_,s9⟩,?_⟩)
         refine cB (i:=16) (by kernel_rfl) rfl ?_
         obtain ⟨d5,a63,e⟩:=aB e
         have a64:aI G p (aK 9 K s5 1 ([J]:List aU)::aK 9 K a61 a62 a57::aK 65 p a3 a5 a0::iR o x::aK 9 K l m d::L) a60:=(aI.arr 2 [1,0] s9 rfl)
         refine dG (i:=0) bX underlying24 gJ rfl rfl a64 rfl (zL (zL (zL (zL V u) Z) r) q) (zL (zL (zL (zL V u) Z) r) q) a63 rfl rfl rfl rfl (fun _ h=>h) (fun f3 f4 t0 (o4:aI G p (aK 9 K f3 f4 d5::aK 65 p a3 a5 a0::iR o x::aK 9 K l m d::L) t0)=>(aZ (aA ⟨fun _=>⟨_,o4⟩,?_⟩)))
         refine dZ (i:=17) rfl (by kernel_rfl) ⟨_,o4⟩ (fun _ _=>dL (vs:=[(0,i64 f1),(1,i64 f2),(2,zS f3 d5.length f4)]) (cs:=[i64 f1,i64 f2,zS f3 d5.length f4]) aDq rfl (by kernel_rfl)) (cB (i:=18) (by kernel_rfl) rfl ?_)
         obtain ⟨c7,h8,a65,o5⟩:=aI.giveS (i:=0) o4 (zL (zL (zL (zL V u) Z) r) q) rfl
         replace o5:aI G c7 (aK 65 p a3 a5 a0::iR o x::aK 9 K l m d::L) t0:=o5
         refine bR (Kt:=c7) (xs:=([⟨f1,f2,d5⟩]:List aY)) (cs:=[i64 f1,i64 f2,zS f3 d5.length f4]) (vs:=[(0,zA #[i64 f1,i64 f2,zS f3 d5.length f4])]) kP sE rfl rfl o5 rfl (by kernel_rfl) rfl rfl rfl ⟨⟨f3,f4,rfl,a65⟩,trivial⟩ (fun a67 a68 (t1:aI G c7 (aK 65 c7 a67 1 ([⟨f1,f2,d5⟩]:List aY)::aK 65 p a3 a5 a0::iR o x::aK 9 K l m d::L) a68)=>(aZ (aA ⟨fun _=>⟨_,(aI.weakK t1 h8)⟩,?_⟩)))
         refine cB (i:=19) (by kernel_rfl) rfl ?_
         obtain ⟨o6,a69,e⟩:=aB e
         refine vX (i:=0) c7 kP underlying66 sE rfl rfl t1 rfl h8 (zR _) a69 rfl rfl rfl rfl (fun _ _ _ h=>El.one h) (fun o7 o8 a70 (o9:aI G c7 (aK 65 c7 o7 o8 o6::iR o x::aK 9 K l m d::L) a70)=>(aZ (aA ⟨fun _=>⟨_,(aI.weakK o9 h8)⟩,?_⟩)))
         exact dZ (i:=20) rfl (by kernel_rfl) ⟨_,(aI.weakK o9 h8)⟩ (fun _ _=>dV (v:=zS o7 o6.length o8) rfl) (gL (by kernel_rfl) (aA ⟨c7,o6,o7,o8,h8,e,g6,e1,e2,g7,g8,rfl,d1,g9,h0,e3,o9⟩))
       ·refine aJ m2 rfl (cA (aT (aT ?_)))
        have a71:=z3 _ (zI e).symm
        subst a71
        have n:(qM x a0)=some f9:=n
        exact bJ (aA ⟨p,a0,a3,a5,q,n,g6,e1,e2,g7,g8,q9,j5⟩)
   refine aP (aD (bO (k':=0+0) tX (iQ rfl) y rfl) (aD (bH (t:=0) cK b5 y rfl rfl) (aD (cL rfl rfl) (aO (v:=zB (decide (c.a < 0))) ?_))))
   rcases aH n with ⟨c1,n⟩|⟨c1,n⟩
   ·refine bD c1 rfl rfl (aD (bO (k':=0+1) vZ (iQ rfl) y rfl) (bD c1 rfl rfl (aD (bH (t:=1) cK b5 y rfl rfl) (bD c1 rfl rfl (aD (cL rfl rfl) (aD (bL (v:=zB (decide (c.b < 0))) c1 rfl rfl) (aO (v:=zB (decide (c.b < 0))) ?_)))))))
    rcases aH n with ⟨a9,n⟩|⟨a9,n⟩
    ·exact aX a9 rfl rfl (aX a9 rfl rfl (aX a9 rfl rfl (aX a9 rfl rfl (aX a9 rfl rfl (aX a9 rfl rfl (aX a9 rfl rfl (aD (bL (v:=zB true) a9 rfl rfl) (aG ⟨true,n,k6,k7,k8,k9,g0,rfl,(iQ rfl),rfl,b5⟩))))))))
    ·exact bG a9 rfl rfl (aN g0 (bG a9 rfl rfl (aD (bO (k':=0+0) tX (iQ rfl) y rfl) (bG a9 rfl rfl (aD (bH (t:=0) cK b5 y rfl rfl) (bG a9 rfl rfl (aD (bO (k':=0+1) vZ (iQ rfl) y rfl) (bG a9 rfl rfl (aD (bH (t:=1) cK b5 y rfl rfl) (bG a9 rfl rfl (aD (aDn (vs:=[(0,i64 c.a),(1,i64 c.b)]) (cs:=[i64 c.a,i64 c.b]) aGH aGI rfl (by kernel_rfl)) (bG a9 rfl rfl (aD (aHT (kv:=b0) (k:=⟨c.a,c.b⟩) (z:=(false:Bool)) runUnderlying126 aGJ zeroValue4 b5 (i:=1) rfl rfl rfl) (aD (bK (v:=zB ((nO b0 ⟨c.a,c.b⟩).getD false)) a9 rfl rfl) (aG ⟨((nO b0 ⟨c.a,c.b⟩).getD false),n,k6,k7,k8,k9,g0,rfl,(iQ rfl),rfl,b5⟩)))))))))))))))
   ·exact aR c1 rfl rfl (aR c1 rfl rfl (aR c1 rfl rfl (aD (bK (v:=zB false) c1 rfl rfl) (aO (v:=zB false) (bG (by decide:¬ false=true) rfl rfl (aN g0 (bG (by decide:¬ false=true) rfl rfl (aD (bO (k':=0+0) tX (iQ rfl) y rfl) (bG (by decide:¬ false=true) rfl rfl (aD (bH (t:=0) cK b5 y rfl rfl) (bG (by decide:¬ false=true) rfl rfl (aD (bO (k':=0+1) vZ (iQ rfl) y rfl) (bG (by decide:¬ false=true) rfl rfl (aD (bH (t:=1) cK b5 y rfl rfl) (bG (by decide:¬ false=true) rfl rfl (aD (aDn (vs:=[(0,i64 c.a),(1,i64 c.b)]) (cs:=[i64 c.a,i64 c.b]) aGH aGI rfl (by kernel_rfl)) (bG (by decide:¬ false=true) rfl rfl (aD (aHT (kv:=b0) (k:=⟨c.a,c.b⟩) (z:=(false:Bool)) runUnderlying126 aGJ zeroValue4 b5 (i:=1) rfl rfl rfl) (aD (bK (v:=zB ((nO b0 ⟨c.a,c.b⟩).getD false)) (by decide:¬ false=true) rfl rfl) (aG ⟨((nO b0 ⟨c.a,c.b⟩).getD false),n,k6,k7,k8,k9,g0,rfl,(iQ rfl),rfl,b5⟩))))))))))))))))))))
  ·refine aJ l1 rfl (cA (aT (aT ?_)))
   have a72:=q1 _ (zI n).symm
   subst a72
   have hm:(qK)=some R:=hm
   exact bJ (aA ⟨b3,Z,hm,(aI.arr 3 [] i6 rfl)⟩)
theorem aDE {a b:cG} {R:(Bool × (List aU) × Int)} (hs:aI G K (L) w) (hG:G.lo=0) (h3:cX K a1 c2 a.L) (h6:cX K a4 c5 a.E) (h9:cX K a7 c8 b.L) (d6:cX K a10 c11 b.E) (e:nC a b=some R):
  Calls Tryz.prog 25 ([zA (zCa a a1 c2 a4 c5),zA (zCa b a7 c8 a10 c11),Value.func (.func 27) #[] #[]]:List Value).toArray w (gK fun v w'=>∃ (K':Hp) (d7:Option Addr) (d8:Nat),v=zT #[zB R.1,zS d7 R.2.1.length d8,i64 R.2.2]∧Hp.le K K'∧cX K' d7 d8 R.2.1∧aI G K' (L) w'):=by
 let z:=(zC b a7 c8 a10 c11)
 let J:=(zC a a1 c2 a4 c5)
 let d9:=[zA (zCa b a7 c8 a10 c11)]
 let e0:=[zA (zCa a a1 c2 a4 c5)]
 refine aW func25 rfl (by kernel_rfl) (by show (3:Nat)≤53;decide) ?_
 unfold nC at e
 refine aL (iI (v:=zA (zCa a a1 c2 a4 c5)) (vs:=J) hs rfl rfl (fun a3 i6 e9=>(iI (v:=zA (zCa b a7 c8 a10 c11)) (vs:=z) e9 rfl rfl (fun a5 i7 e1=>(aF (v:=zB false) (aF (v:=zS none 0 0) (aF (v:=i64 0) (aG (aQ (aQ (cN (fun f w=>∃ (b7:Bool),kE a b b7=some R∧f 2=Value.func (.func 27) #[] #[]∧f 3=zP (some ⟨a3,0,none⟩)∧f 4=zP (some ⟨a5,0,none⟩)∧f 24=zB b7∧aI G K (box a5 27 z::box a3 27 J::L) w) ?_ ?_)))))))))))
 ·rintro f i8 ⟨b7,e,e2,f0,f1,e3,b8⟩
  unfold kE at e
  refine aA ?_
  rcases aH e with ⟨b9,e⟩|⟨b9,e⟩
  ·refine aM b9 e3 (aL (aF (v:=zB false) (aF (v:=zS none 0 0) (aF (v:=i64 1) (aG ?_)))))
   obtain rfl:=zI e
   exact bM (aV (xO results25 rfl rfl rfl ⟨K,none,0,rfl,(zR _),tW _,(aI.arr 2 [] b8 rfl)⟩))
  ·refine aJ b9 e3 (bA (aA (aL (aD (eI (us:=J) dJ b8 (i:=1) rfl f0 rfl rfl) ?_))))
   obtain ⟨c,f3,e⟩:=aB e
   refine aS (vs:=e0) call37 rfl (jU b8 hG h3 h6 f3) ?_
   rintro _ i9 ⟨c0,m,n,h,j,a6,a8,rfl,r,f4⟩
   refine aO (v:=zT #[zA (zCa c.1 m n h j),zS a6 c.2.1.length a8,zB c.2.2]) (aD (bQ rfl rfl) (aD (bQ rfl rfl) (aD (bQ rfl rfl) (bW (vs:=zG) zeroValue27 f4 rfl (fun t j0 f5=>(bY (i:=0) (ns:=(zC c.1 m n h j)) (us:=(zC c.1 m n h j)) sizeOf27 f5 rfl rfl rfl rfl rfl (dE rfl) rfl rfl (fun f6 (e4:aI G c0 (box t 27 (zC c.1 m n h j)::aK 9 K m n c.1.L::aK 69 K h j c.1.E::aK 35 c0 a6 a8 c.2.1::box a5 27 z::box a3 27 J::L) f6)=>(aF (v:=zS a6 c.2.1.length a8) (aF (v:=zB c.2.2) (aG (aL (aD (eI (us:=z) dJ e4 (i:=4) rfl f1 rfl rfl) ?_))))))))))))
   obtain ⟨d,f7,e⟩:=aB e
   refine aS (vs:=d9) call37 rfl (jU e4 hG (h9.mono r) (d6.mono r) f7) ?_
   rintro _ j1 ⟨a9,o,p,k,l,c1,c3,rfl,V,f8⟩
   refine aO (v:=zT #[zA (zCa d.1 o p k l),zS c1 d.2.1.length c3,zB d.2.2]) (aD (bQ rfl rfl) (aD (bQ rfl rfl) (aD (bQ rfl rfl) (bW (vs:=zG) zeroValue27 f8 rfl (fun x j2 f9=>(bY (i:=0) (ns:=(zC d.1 o p k l)) (us:=(zC d.1 o p k l)) sizeOf27 f9 rfl rfl rfl rfl rfl (dE rfl) rfl rfl (fun g0 (e5:aI G a9 (box x 27 (zC d.1 o p k l)::aK 9 K o p d.1.L::aK 69 K k l d.1.E::aK 35 a9 c1 c3 d.2.1::box t 27 (zC c.1 m n h j)::aK 9 K m n c.1.L::aK 69 K h j c.1.E::aK 35 c0 a6 a8 c.2.1::box a5 27 z::box a3 27 J::L) g0)=>(aF (v:=zS c1 d.2.1.length c3) (aF (v:=zB d.2.2) (aG (aQ (aQ (cN (fun f w=>∃ (c4:Bool),kD c d c4=some R∧f 2=Value.func (.func 27) #[] #[]∧f 9=zP (some ⟨t,0,none⟩)∧f 12=zP (some ⟨x,0,none⟩)∧f 42=zB c4∧aI G a9 (box x 27 (zC d.1 o p k l)::aK 9 K o p d.1.L::aK 69 K k l d.1.E::box t 27 (zC c.1 m n h j)::aK 9 K m n c.1.L::aK 69 K h j c.1.E::L) w) ?_ ?_)))))))))))))
   ·rintro f b0 ⟨c4,e,g1,g2,g3,e6,b1⟩
    unfold kD at e
    refine aA ?_
    rcases aH e with ⟨c6,e⟩|⟨c6,e⟩
    ·refine aM c6 e6 (aL (aF (v:=zB false) (aF (v:=zS none 0 0) (aF (v:=i64 5) (aG ?_)))))
     obtain rfl:=zI e
     exact bM (aV (xO results25 rfl rfl rfl ⟨a9,none,0,rfl,(zL r V),tW _,(aI.arr 6 [] b1 rfl)⟩))
    ·refine aJ c6 e6 (bA (aA (aL (aD (eI (us:=(zC c.1 m n h j)) dJ b1 (i:=3) rfl g2 rfl rfl) (aD (eI (us:=(zC d.1 o p k l)) dJ b1 (i:=0) rfl g3 rfl rfl) (aN g1 ?_))))))
     obtain ⟨g5,b2,g6,c7⟩:=aI.giveS (i:=4) b1 (zL r V) rfl
     replace c7:aI G g5 (box x 27 (zC d.1 o p k l)::aK 9 K o p d.1.L::aK 69 K k l d.1.E::box t 27 (zC c.1 m n h j)::aK 69 K h j c.1.E::L) b0:=c7
     obtain ⟨g7,b3,g8,c9⟩:=aI.giveS (i:=4) c7 (zL (zL r V) b2) rfl
     replace c9:aI G g7 (box x 27 (zC d.1 o p k l)::aK 9 K o p d.1.L::aK 69 K k l d.1.E::box t 27 (zC c.1 m n h j)::L) b0:=c9
     obtain ⟨g9,b4,h0,d0⟩:=aI.giveS (i:=1) c9 (zL (zL (zL r V) b2) b3) rfl
     replace d0:aI G g9 (box x 27 (zC d.1 o p k l)::aK 69 K k l d.1.E::box t 27 (zC c.1 m n h j)::L) b0:=d0
     obtain ⟨h1,b5,h2,d1⟩:=aI.giveS (i:=1) d0 (zL (zL (zL (zL r V) b2) b3) b4) rfl
     replace d1:aI G h1 (box x 27 (zC d.1 o p k l)::box t 27 (zC c.1 m n h j)::L) b0:=d1
     obtain ⟨u,h4,e⟩:=aB e
     refine aS (vs:=[zA (zCa c.1 m n h j),zA (zCa d.1 o p k l),Value.func (.func 27) #[] #[]]) call55 rfl (aEQ (a:=⟨c.1.N,c.1.I,c.1.L,c.1.E⟩) (b:=⟨d.1.N,d.1.I,d.1.L,d.1.E⟩) d1 (g6.mono (zL (zL b3 b4) b5)) (g8.mono (zL b4 b5)) (h0.mono b5) h2 h4) ?_
     rintro _ j3 ⟨h5,Z,a0,rfl,h7,h8,i0⟩
     refine aO (v:=zT #[zS Z u.1.length a0,zB u.2]) (aD (bQ rfl rfl) (aD (bQ rfl rfl) (aF (v:=zS Z u.1.length a0) (aF (v:=zB u.2) (aG (aL (aO (v:=zB u.2) (aD (eJ rfl) (aO (v:=zS Z u.1.length a0) (aF (v:=zB (!u.2)) (aF (v:=zS Z u.1.length a0) (aF (v:=i64 0) (aG ?_)))))))))))))
     obtain rfl:=zI e
     exact bM (xO results25 rfl rfl rfl ⟨h5,Z,a0,rfl,(zL (zL (zL (zL (zL (zL r V) b2) b3) b4) b5) h7),h8,(aI.arr 2 [] i0 rfl)⟩)
   refine aP (aO (v:=zB c.2.2) (aD (eJ rfl) (aO (v:=zB (!c.2.2)) ?_)))
   rcases aH e with ⟨y,e⟩|⟨y,e⟩
   ·exact aX y rfl rfl (aX y rfl rfl (aD (bL (v:=zB true) y rfl rfl) (aG ⟨true,e,e2,rfl,rfl,rfl,(aI.arr 10 [0,1,2,4,5,6] e5 rfl)⟩)))
   ·exact bG y rfl rfl (aO (v:=zB d.2.2) (bG y rfl rfl (aD (eJ rfl) (aD (bK (v:=zB (!d.2.2)) y rfl rfl) (aG ⟨!d.2.2,e,e2,rfl,rfl,rfl,(aI.arr 10 [0,1,2,4,5,6] e5 rfl)⟩)))))
 refine aP (aD (eI (us:=J) dJ e1 (i:=1) rfl rfl rfl rfl) ?_)
 obtain ⟨i2,i3,e⟩:=aB e
 refine aS (vs:=e0) call34 rfl (lP e1 hG h3 h6 i3) ?_
 rintro _ j4 ⟨rfl,d2⟩
 refine aD (eJ rfl) (aO (v:=zB (!i2)) ?_)
 rcases aH e with ⟨q,e⟩|⟨q,e⟩
 ·exact aX q rfl rfl (aX q rfl rfl (aX q rfl rfl (aD (bL (v:=zB true) q rfl rfl) (aG ⟨true,e,rfl,rfl,rfl,rfl,d2⟩))))
 ·refine bG q rfl rfl (aD (eI (us:=z) dJ d2 (i:=0) rfl rfl rfl rfl) (bG q rfl rfl ?_))
  obtain ⟨e7,i4,e⟩:=aB e
  refine aS (vs:=d9) call34 rfl (lP d2 hG h9 d6 i4) ?_
  rintro _ j5 ⟨rfl,i5⟩
  exact bG q rfl rfl (aD (eJ rfl) (aD (bK (v:=zB (!e7)) q rfl rfl) (aG ⟨!e7,e,rfl,rfl,rfl,rfl,i5⟩)))
theorem aFN {a b:cG} {R:(Bool × (List aU) × Int)} (o:aI G K (L) w) (p:G.lo=0) (q:cX K a1 c2 a.L) (r:cX K a4 c5 a.E) (t:cX K a7 c8 b.L) (u:cX K a10 c11 b.E) (c:mJ a b=some R):
  Calls Tryz.prog 8 ([zA (zCa a a1 c2 a4 c5),zA (zCa b a7 c8 a10 c11)]:List Value).toArray w (gK fun v w'=>∃ (d:Hp) (h:Option Addr) (j:Nat),v=zT #[zB R.1,zS h R.2.1.length j,i64 R.2.2]∧Hp.le K d∧cX d h j R.2.1∧aI G d (L) w'):=by
 let k:=(zC b a7 c8 a10 c11)
 let l:=(zC a a1 c2 a4 c5)
 refine aW func8 rfl (by kernel_rfl) (by show (2:Nat)≤13;decide) ?_
 unfold mJ at c
 refine aL (iI (v:=zA (zCa a a1 c2 a4 c5)) (vs:=l) o rfl rfl (fun a2 a3 x=>(iI (v:=zA (zCa b a7 c8 a10 c11)) (vs:=k) x rfl rfl (fun a5 a6 e=>(aF (v:=zB false) (aF (v:=zS none 0 0) (aF (v:=i64 0) (aG (aL (aD (eI (us:=l) dJ e (i:=1) rfl rfl rfl rfl) (aD (eI (us:=k) dJ e (i:=0) rfl rfl rfl rfl) ?_)))))))))))
 obtain ⟨g,y,c⟩:=aB c
 refine aS (vs:=[zA (zCa a a1 c2 a4 c5),zA (zCa b a7 c8 a10 c11),Value.func (.func 27) #[] #[]]) call25 rfl (aDE e p q r t u y) ?_
 rintro _ a8 ⟨z,m,n,rfl,J,V,Z⟩
 refine aD (bQ rfl rfl) (aD (bQ rfl rfl) (aD (bQ rfl rfl) (aF (v:=zB g.1) (aF (v:=zS m g.2.1.length n) (aF (v:=i64 g.2.2) (aG ?_))))))
 obtain rfl:=zI c
 exact bM (xO results8 rfl rfl rfl ⟨z,m,n,rfl,J,V,(aI.arr 2 [] Z rfl)⟩)
theorem uS {n low c:Int} {R:Bool} (e:aI G K (L) w) (a:aAF n low c=some R):
  Calls Tryz.prog 56 ([i64 n,i64 low,i64 c]:List Value).toArray w (gK fun v w'=>v=zB R∧aI G K (L) w'):=by
 refine aW func56 rfl (by kernel_rfl) (by show (3:Nat)≤15;decide) ?_
 unfold aAF at a
 refine aL (aF (v:=zB false) (aG (aQ (cN (fun f w=>∃ (d:Bool),aDY d=some R∧f 6=zB d∧aI G K (L) w) ?_ ?_))))
 ·rintro f k ⟨d,a,h,i⟩
  unfold aDY at a
  refine aA ?_
  obtain rfl:=zI a
  exact bM (bP results56 rfl ⟨h,i⟩)
 refine aP (aO (v:=i64 n) (aO (v:=i64 low) (aD (zV rfl rfl) (aO (v:=zB (decide (low≤n))) ?_))))
 rcases aH a with ⟨b,a⟩|⟨b,a⟩
 ·exact bD b rfl rfl (aO (v:=i64 n) (bD b rfl rfl (aO (v:=i64 c) (bD b rfl rfl (aD (aEw rfl rfl) (aD (bL (v:=zB (decide (n≤c))) b rfl rfl) (aF (v:=zB (decide (n≤c))) (aG ⟨decide (n≤c),a,rfl,e⟩))))))))
 ·exact aR b rfl rfl (aR b rfl rfl (aR b rfl rfl (aD (bK (v:=zB false) b rfl rfl) (aF (v:=zB false) (aG ⟨false,a,rfl,e⟩)))))
theorem aIL {c:aU} {R:Int} (l:aI G K (L) w) (b:aDB c=some R):
  Calls Tryz.prog 156 ([str c]:List Value).toArray w (gK fun v w'=>v=i64 R∧aI G K (L) w'):=by
 refine aW func156 rfl (by kernel_rfl) (by show (1:Nat)≤17;decide) ?_
 unfold aDB at b
 refine aL (aF (v:=i64 0) (aG (aQ (aL (aF (v:=i64 0) (aG (bB (fun f w=>aBP c=some R∧f 0=str c∧aI G K (L) w) ?_ ?_)))))))
 ·rintro f y ⟨b,m,n⟩
  unfold aBP at b
  refine aA (aL (aN m (aD (iG runUnderlying9 rfl) (aF (v:=i64 (c.length:Int)) (aG ?_)))))
  obtain rfl:=zI b
  exact bM (bP results156 rfl ⟨rfl,n⟩)
 obtain ⟨z,p,b⟩:=aB b
 refine cE p (fun (d:Int) f w=>f 0=str c∧f 3=i64 d∧aI G K (L) w) ?_ ?_
 ·exact ⟨rfl,rfl,l⟩
 ·rintro d q f J a k ⟨e,g,h⟩
  replace a:uO c d=some q:=a
  unfold uO at a
  refine aQ (aL (aN g (aN e (aD (iG runUnderlying9 rfl) (aD (cL rfl rfl) (aG ?_))))))
  rcases aH a with ⟨i,a⟩|⟨i,a⟩
  ·refine aM i rfl (bA (aA (aQ (cY (aL (aN e (aN g ?_)))))))
   obtain ⟨V,r,a⟩:=aB a
   refine aD (aDm runUnderlying9 rfl rfl r) (aD (gE rfl rfl) (aG ?_))
   rcases aH a with ⟨j,a⟩|⟨j,a⟩
   ·refine aM j rfl (aL (aN g (aF (v:=i64 d) (aG (bM (bV (aV (aV ?_))))))))
    have t:=k _ (zI a).symm
    subst t
    have b:(some d)=some R:=b
    obtain rfl:=zI b
    exact bV (aV (aV (bP results156 rfl ⟨rfl,h⟩)))
   ·exact aJ j rfl (bA (bC (aA (aP (aN g (aD (cP rfl rfl) (aF (v:=i64 (wr (d+1))) (aG ⟨wr (d+1),(zI a).symm,e,rfl,h⟩))))))))
  ·refine aJ i rfl (cA (aT (aT ?_)))
   have x:=k _ (zI a).symm
   subst x
   have b:(aBP c)=some R:=b
   exact bJ (aA ⟨b,e,h⟩)
theorem aEo {c:UInt8} {R:Bool} (e:aI G K (L) w) (a:aCr c=some R):
  Calls Tryz.prog 198 ([Value.int .u8 (c.toNat:Int)]:List Value).toArray w (gK fun v w'=>v=zB R∧aI G K (L) w'):=by
 refine aW func198 rfl (by kernel_rfl) (by show (1:Nat)≤9;decide) ?_
 unfold aCr at a
 refine aL (aF (v:=zB false) (aG (aQ (cN (fun f w=>∃ (d:Bool),aAG d=some R∧f 2=zB d∧aI G K (L) w) ?_ ?_))))
 ·rintro f k ⟨d,a,h,i⟩
  unfold aAG at a
  refine aA ?_
  obtain rfl:=zI a
  exact bM (bP results198 rfl ⟨h,i⟩)
 refine aP (aO (v:=Value.int .u8 (c.toNat:Int)) (aD (zV rfl rfl) (aO (v:=zB (decide (97≤(c.toNat:Int)))) ?_)))
 rcases aH a with ⟨b,a⟩|⟨b,a⟩
 ·exact bD b rfl rfl (aO (v:=Value.int .u8 (c.toNat:Int)) (bD b rfl rfl (aD (aEw rfl rfl) (aD (bL (v:=zB (decide ((c.toNat:Int)≤122))) b rfl rfl) (aF (v:=zB (decide ((c.toNat:Int)≤122))) (aG ⟨decide ((c.toNat:Int)≤122),a,rfl,e⟩))))))
 ·exact aR b rfl rfl (aR b rfl rfl (aD (bK (v:=zB false) b rfl rfl) (aF (v:=zB false) (aG ⟨false,a,rfl,e⟩))))
theorem aEp {c:UInt8} {R:Bool} (e:aI G K (L) w) (a:aCs c=some R):
  Calls Tryz.prog 199 ([Value.int .u8 (c.toNat:Int)]:List Value).toArray w (gK fun v w'=>v=zB R∧aI G K (L) w'):=by
 refine aW func199 rfl (by kernel_rfl) (by show (1:Nat)≤9;decide) ?_
 unfold aCs at a
 refine aL (aF (v:=zB false) (aG (aQ (cN (fun f w=>∃ (d:Bool),aAH d=some R∧f 2=zB d∧aI G K (L) w) ?_ ?_))))
 ·rintro f k ⟨d,a,h,i⟩
  unfold aAH at a
  refine aA ?_
  obtain rfl:=zI a
  exact bM (bP results199 rfl ⟨h,i⟩)
 refine aP (aO (v:=Value.int .u8 (c.toNat:Int)) (aD (zV rfl rfl) (aO (v:=zB (decide (48≤(c.toNat:Int)))) ?_)))
 rcases aH a with ⟨b,a⟩|⟨b,a⟩
 ·exact bD b rfl rfl (aO (v:=Value.int .u8 (c.toNat:Int)) (bD b rfl rfl (aD (aEw rfl rfl) (aD (bL (v:=zB (decide ((c.toNat:Int)≤57))) b rfl rfl) (aF (v:=zB (decide ((c.toNat:Int)≤57))) (aG ⟨decide ((c.toNat:Int)≤57),a,rfl,e⟩))))))
 ·exact aR b rfl rfl (aR b rfl rfl (aD (bK (v:=zB false) b rfl rfl) (aF (v:=zB false) (aG ⟨false,a,rfl,e⟩))))
theorem aER {c:aU} {R:Bool} (l:aI G K (L) w) (a:aBX c=some R):
  Calls Tryz.prog 157 ([str c]:List Value).toArray w (gK fun v w'=>v=zB R∧aI G K (L) w'):=by
 refine aW func157 rfl (by kernel_rfl) (by show (1:Nat)≤35;decide) ?_
 unfold aBX at a
 refine aL (aF (v:=zB false) (aG (aQ (aQ (cN (fun f w=>∃ (m:Bool),qO c m=some R∧f 0=str c∧f 16=zB m∧aI G K (L) w) ?_ ?_)))))
 ·rintro f w4 ⟨m,a,e2,r,t⟩
  unfold qO at a
  refine aA ?_
  rcases aH a with ⟨n,a⟩|⟨n,a⟩
  ·refine aM n r (aL (aF (v:=zB false) (aG ?_)))
   obtain rfl:=zI a
   exact bM (aV (bP results157 rfl ⟨rfl,t⟩))
  ·refine aJ n r (bA (aA (aQ (aL (aF (v:=i64 0) (aG (bB (fun f w=>yP=some R∧aI G K (L) w) ?_ ?_)))))))
   ·rintro f w8 ⟨a,a5⟩
    unfold yP at a
    refine aA (aL (aF (v:=zB true) (aG ?_)))
    obtain rfl:=zI a
    exact bM (bP results157 rfl ⟨rfl,a5⟩)
   obtain ⟨c3,a7,a⟩:=aB a
   refine cE a7 (fun (i:Int) f w=>f 0=str c∧f 3=i64 i∧aI G K (L) w) ?_ ?_
   ·exact ⟨e2,rfl,t⟩
   ·rintro i u f c4 b x ⟨j,k,y⟩
    replace b:uP c i=some u:=b
    unfold uP at b
    refine aQ (aL (aN k (aN j (aD (iG runUnderlying9 rfl) (aD (cL rfl rfl) (aG ?_))))))
    rcases aH b with ⟨o,b⟩|⟨o,b⟩
    ·refine aM o rfl (bA (aA (aQ (cY (aQ (cN (fun f w=>∃ (p:Bool),yQ i p=some u∧f 0=str c∧f 3=i64 i∧f 34=zB p∧aI G K (L) w) ?_ ?_))))))
     ·rintro f c5 ⟨p,b,a8,a9,z,J⟩
      unfold yQ at b
      refine aA ?_
      rcases aH b with ⟨q,b⟩|⟨q,b⟩
      ·refine aM q z (aL (aF (v:=zB false) (aG (bM (bV (aV (aV ?_)))))))
       have b0:=x _ (zI b).symm
       subst b0
       have a:(some false)=some R:=a
       obtain rfl:=zI a
       exact bV (aV (aV (bP results157 rfl ⟨rfl,J⟩)))
      ·exact aJ q z (bA (bC (aA (aP (aN a9 (aD (cP rfl rfl) (aF (v:=i64 (wr (i+1))) (aG ⟨wr (i+1),(zI b).symm,a8,rfl,J⟩))))))))
     refine aP (aN j (aN k ?_))
     obtain ⟨V,Z,b⟩:=aB b
     refine aD (aDm runUnderlying9 rfl rfl Z) ?_
     obtain ⟨b2,b3,b⟩:=aB b
     refine aS (vs:=[Value.int .u8 (V.toNat:Int)]) call198 rfl (aEo y b3) ?_
     rintro _ c7 ⟨rfl,a0⟩
     refine aD (eJ rfl) (aO (v:=zB (!b2)) ?_)
     rcases aH b with ⟨d,b⟩|⟨d,b⟩
     ·refine bD d rfl rfl (aN j (bD d rfl rfl (aN k (bD d rfl rfl (aD (aDm runUnderlying9 rfl rfl Z) (bD d rfl rfl ?_))))))
      obtain ⟨a1,b4,b⟩:=aB b
      refine aS (vs:=[Value.int .u8 (V.toNat:Int)]) call199 rfl (aEp a0 b4) ?_
      rintro _ c8 ⟨rfl,b5⟩
      exact bD d rfl rfl (aD (eJ rfl) (aD (bL (v:=zB (!a1)) d rfl rfl) (aG ⟨!a1,b,j,k,rfl,b5⟩)))
     ·exact aR d rfl rfl (aR d rfl rfl (aR d rfl rfl (aR d rfl rfl (aR d rfl rfl (aD (bK (v:=zB false) d rfl rfl) (aG ⟨false,b,j,k,rfl,a0⟩))))))
    ·refine aJ o rfl (cA (aT (aT ?_)))
     have b6:=x _ (zI b).symm
     subst b6
     have a:(yP)=some R:=a
     exact bJ (aA ⟨a,y⟩)
 refine aP (aO (v:=str c) (aD (zX rfl rfl) (aO (v:=zB (c == ([]:aU))) ?_)))
 rcases aH a with ⟨h,a⟩|⟨h,a⟩
 ·exact aX h rfl rfl (aX h rfl rfl (aX h rfl rfl (aD (bL (v:=zB true) h rfl rfl) (aO (v:=zB true) (aX (rfl:true=true) rfl rfl (aX (rfl:true=true) rfl rfl (aX (rfl:true=true) rfl rfl (aX (rfl:true=true) rfl rfl (aD (bL (v:=zB true) (rfl:true=true) rfl rfl) (aG ⟨true,a,rfl,rfl,l⟩))))))))))
 ·refine bG h rfl rfl (aO (v:=str c) (bG h rfl rfl (aD (iG runUnderlying9 rfl) (bG h rfl rfl (aD (kZ rfl rfl) (aD (bK (v:=zB (decide (10 < (c.length:Int)))) h rfl rfl) (aO (v:=zB (decide (10 < (c.length:Int)))) ?_)))))))
  rcases aH a with ⟨e,a⟩|⟨e,a⟩
  ·exact aX e rfl rfl (aX e rfl rfl (aX e rfl rfl (aX e rfl rfl (aD (bL (v:=zB true) e rfl rfl) (aG ⟨true,a,rfl,rfl,l⟩)))))
  ·refine bG e rfl rfl (aO (v:=str c) (bG e rfl rfl ?_))
   obtain ⟨b7,b8,a⟩:=aB a
   refine aD (aDm runUnderlying9 rfl rfl b8) (bG e rfl rfl ?_)
   obtain ⟨a2,b9,a⟩:=aB a
   refine aS (vs:=[Value.int .u8 (b7.toNat:Int)]) call198 rfl (aEo l b9) ?_
   rintro _ c9 ⟨rfl,c0⟩
   exact bG e rfl rfl (aD (eJ rfl) (aD (bK (v:=zB (!a2)) e rfl rfl) (aG ⟨!a2,a,rfl,rfl,c0⟩)))
theorem aGR {b:aU} {R:Bool} (h:aI G K (L) w) (a:aBd b=some R):
  Calls Tryz.prog 158 ([str b]:List Value).toArray w (gK fun v w'=>v=zB R∧aI G K (L) w'):=by
 refine aW func158 rfl (by kernel_rfl) (by show (1:Nat)≤9;decide) ?_
 unfold aBd at a
 refine aL (aF (v:=zB false) (aG (aQ (cN (fun f w=>∃ (d:Bool),tD d=some R∧f 2=zB d∧aI G K (L) w) ?_ ?_))))
 ·rintro f n ⟨d,a,i,j⟩
  unfold tD at a
  refine aA ?_
  obtain rfl:=zI a
  exact bM (bP results158 rfl ⟨i,j⟩)
 refine aP (aO (v:=str b) ?_)
 obtain ⟨l,m,a⟩:=aB a
 refine aS (vs:=[str b]) call157 rfl (aER h m) ?_
 rintro _ o ⟨rfl,e⟩
 refine aO (v:=zB l) ?_
 rcases aH a with ⟨c,a⟩|⟨c,a⟩
 ·exact bD c rfl rfl (aO (v:=str b) (bD c rfl rfl (aD (aId rfl rfl) (aD (bL (v:=zB (!(b == ([116,97,117]:aU)))) c rfl rfl) (aF (v:=zB (!(b == ([116,97,117]:aU)))) (aG ⟨!(b == ([116,97,117]:aU)),a,rfl,e⟩))))))
 ·exact aR c rfl rfl (aR c rfl rfl (aD (bK (v:=zB false) c rfl rfl) (aF (v:=zB false) (aG ⟨false,a,rfl,e⟩))))
theorem aHM {d:aU} {by_:UInt8} {R:(List aU)} (hs:aI G K (L) w) (b:aCt d by_=some R):
  Calls Tryz.prog 159 ([str d,Value.int .u8 (by_.toNat:Int)]:List Value).toArray w (gK fun v w'=>∃ (b1:Option Addr) (b2:Nat),v=zS b1 R.length b2∧aI G K (aK 9 K b1 b2 R::L) w'):=by
 refine aW func159 rfl (by kernel_rfl) (by show (2:Nat)≤35;decide) ?_
 unfold aCt at b
 refine aL (aF (v:=zS none 0 0) (aG (aL (bR (Kt:=K) (xs:=([]:List aU)) (cs:=[]) (vs:=[]) bX gJ rfl rfl hs rfl (by kernel_rfl) rfl rfl rfl trivial (fun z w2 (b7:aI G K (aK 9 K z 0 ([]:List aU)::L) w2)=>(aF (v:=zS z ([]:List aU).length 0) (aG (aL (aF (v:=i64 0) (aG (aQ (aL (aF (v:=i64 0) (aG (bB (fun f w=>∃ (n:List aU) (J:Int) (p:Option Addr) (q:Nat),vR d n J=some R∧f 0=str d∧f 5=zS p n.length q∧f 6=i64 J∧aI G K (aK 9 K p q n::L) w) ?_ ?_)))))))))))))))
 ·rintro f f0 ⟨n,J,p,q,b,e8,e9,c0,c1⟩
  unfold vR at b
  refine aA (aL (aN e9 (aN e8 (aN c0 ?_))))
  obtain ⟨r,c2,b⟩:=aB b
  refine aD (R_slSL runUnderlying9 rfl rfl c2) (bR (Kt:=K) (xs:=([r]:List aU)) (cs:=[str r]) (vs:=[(0,str r)]) bX gJ rfl rfl c1 rfl (by kernel_rfl) rfl rfl rfl ⟨rfl,trivial⟩ (fun c3 c4 (c5:aI G K (aK 9 K c3 1 ([r]:List aU)::aK 9 K p q n::L) c4)=>?_))
  obtain ⟨b3,c7,b⟩:=aB b
  refine dG (i:=0) bX underlying24 gJ rfl rfl c5 rfl (zR _) (zR _) c7 rfl rfl rfl rfl (fun _ h=>h) (fun V Z c8 (c9:aI G K (aK 9 K V Z b3::L) c8)=>(aF (v:=zS V b3.length Z) (aG ?_)))
  obtain rfl:=zI b
  exact bM (bP results159 rfl ⟨V,Z,rfl,c9⟩)
 obtain ⟨f1,d1,b⟩:=aB b
 refine cE d1 (fun (s:(List aU × Int × Int)) f w=>match s with|(e,g,c)=>∃ (j:Option Addr) (k:Nat),f 0=str d∧f 1=Value.int .u8 (by_.toNat:Int)∧f 5=zS j e.length k∧f 6=i64 g∧f 7=i64 c∧aI G K (aK 9 K j k e::L) w) ?_ ?_
 ·exact ⟨z,0,rfl,rfl,rfl,rfl,rfl,b7⟩
 ·rintro ⟨e,g,c⟩ b4 f f2 a d2 ⟨j,k,l,a0,a2,a3,m,a4⟩
  replace a:vS d by_ e g c=some b4:=a
  unfold vS at a
  refine aQ (aL (aN m (aN l (aD (iG runUnderlying9 rfl) (aD (cL rfl rfl) (aG ?_))))))
  rcases aH a with ⟨a6,a⟩|⟨a6,a⟩
  ·refine aM a6 rfl (bA (aA (aQ (bB (fun f w=>∃ (o:List aU) (t:Int) (u:Option Addr) (x:Nat),rL c o t=some b4∧f 0=str d∧f 1=Value.int .u8 (by_.toNat:Int)∧f 5=zS u o.length x∧f 6=i64 t∧f 7=i64 c∧aI G K (aK 9 K u x o::L) w) ?_ ?_))))
   ·rintro f f3 ⟨o,t,u,x,a,d3,d4,d5,d6,d7,d8⟩
    unfold rL at a
    exact aA (aP (aN d7 (aD (cP rfl rfl) (aF (v:=i64 (wr (c+1))) (aG ⟨(o,t,wr (c+1)),(zI a).symm,u,x,d3,d4,d5,d6,rfl,d8⟩)))))
   refine aL (aN l (aN m ?_))
   obtain ⟨f4,d9,a⟩:=aB a
   refine aD (aDm runUnderlying9 rfl rfl d9) (aN a0 (aD (gE rfl rfl) (aG ?_)))
   rcases aH a with ⟨a7,a⟩|⟨a7,a⟩
   ·refine aM a7 rfl (aL (aN a2 (aN l (aN a3 (aN m ?_)))))
    obtain ⟨y,e0,a⟩:=aB a
    refine aD (R_slSLH runUnderlying9 rfl rfl rfl e0) (bR (Kt:=K) (xs:=([y]:List aU)) (cs:=[str y]) (vs:=[(0,str y)]) bX gJ rfl rfl a4 rfl (by kernel_rfl) rfl rfl rfl ⟨rfl,trivial⟩ (fun e1 e2 (e3:aI G K (aK 9 K e1 1 ([y]:List aU)::aK 9 K j k e::L) e2)=>?_))
    obtain ⟨a8,e4,a⟩:=aB a
    exact dG (i:=0) bX underlying24 gJ rfl rfl e3 rfl (zR _) (zR _) e4 rfl rfl rfl rfl (fun _ h=>h) (fun a9 b0 e5 (e6:aI G K (aK 9 K a9 b0 a8::L) e5)=>(aF (v:=zS a9 a8.length b0) (aG (aP (aN m (aD (cP rfl rfl) (aF (v:=i64 (wr (c+1))) (aZ (bC (aA ⟨a8,wr (c+1),a9,b0,a,l,a0,rfl,rfl,m,e6⟩))))))))))
   ·exact aJ a7 rfl (bA (bC (aA ⟨e,g,j,k,a,l,a0,a2,a3,m,a4⟩)))
  ·refine aJ a6 rfl (cA (aT (aT ?_)))
   have e7:=d2 _ (zI a).symm
   subst e7
   have b:(vR d e g)=some R:=b
   exact bJ (aA ⟨e,g,j,k,b,l,a2,a3,a4⟩)
theorem aGS {d:aU} {R:(Int × Bool)} (hs:aI G K (L) w) (c:xH d=some R):
  Calls Tryz.prog 160 ([str d]:List Value).toArray w (gK fun v w'=>v=zT #[i64 R.1,zB R.2]∧aI G K (L) w'):=by
 refine aW func160 rfl (by kernel_rfl) (by show (1:Nat)≤62;decide) ?_
 unfold xH at c
 refine aL (aF (v:=i64 0) (aF (v:=zB false) (aG (aL (aF (v:=i64 0) (aG (uV (fun f w=>∃ (i:Int),pJ d i=some R∧f 0=str d∧f 4=i64 i∧aI G K (L) w) ?_ ?_)))))))
 ·rintro f w4 ⟨i,c,m,n,r⟩
  unfold pJ at c
  refine aQ (aQ (cN (fun f w=>∃ (z:Bool),kX d i z=some R∧f 0=str d∧f 4=i64 i∧f 36=zB z∧aI G K (L) w) ?_ ?_))
  ·rintro f d6 ⟨z,c,e7,e8,e9,a6⟩
   unfold kX at c
   refine aA ?_
   rcases aH c with ⟨J,c⟩|⟨J,c⟩
   ·refine aM J e9 (aL (aF (v:=i64 0) (aF (v:=zB false) (aG ?_))))
    obtain rfl:=zI c
    exact bM (aV (kF results160 rfl rfl ⟨rfl,a6⟩))
   ·refine aJ J e9 (bA (aA (aL (aF (v:=i64 0) (aG (aQ (aL (aN e8 (aF (v:=i64 i) (aG (bB (fun f w=>∃ (p:Int),tE i p=some R∧f 4=i64 i∧f 5=i64 p∧aI G K (L) w) ?_ ?_)))))))))))
    ·rintro f d7 ⟨p,c,c1,a7,a8⟩
     unfold tE at c
     refine aA (uV (fun f w=>∃ (t:Int),yR t=some R∧f 5=i64 t∧aI G K (L) w) ?_ ?_)
     ·rintro f d8 ⟨t,c,c2,c3⟩
      unfold yR at c
      refine aL (aN c2 (aF (v:=i64 t) (aF (v:=zB true) (aG ?_))))
      obtain rfl:=zI c
      exact bM (kF results160 rfl rfl ⟨rfl,c3⟩)
     refine aL (aN c1 (aD (gE rfl rfl) (aG ?_)))
     rcases aH c with ⟨V,c⟩|⟨V,c⟩
     ·exact aM V rfl (aP (aN a7 (aD (R_neg rfl) (aF (v:=i64 (wr (0 - p))) (aG ⟨wr (0 - p),c,rfl,a8⟩)))))
     ·exact aJ V rfl (bA (aA ⟨p,c,a7,a8⟩))
    obtain ⟨d9,c5,c⟩:=aB c
    refine cE c5 (fun (s:(Int × Int)) f w=>match s with|(o,q)=>f 0=str d∧f 4=i64 i∧f 5=i64 o∧f 6=i64 q∧aI G K (L) w) ?_ ?_
    ·exact ⟨e7,e8,rfl,rfl,a6⟩
    ·rintro ⟨o,q⟩ c6 f e0 h a9 ⟨u,b0,b1,x,b2⟩
     replace h:nD d o q=some c6:=h
     unfold nD at h
     refine aQ (aL (aN x (aN u (aD (iG runUnderlying9 rfl) (aD (cL rfl rfl) (aG ?_))))))
     rcases aH h with ⟨Z,h⟩|⟨Z,h⟩
     ·refine aM Z rfl (bA (aA (aQ (cY (aQ (aL (aN u (aN x ?_))))))))
      obtain ⟨y,b3,h⟩:=aB h
      refine aD (aDm runUnderlying9 rfl rfl b3) ?_
      obtain ⟨e1,c7,h⟩:=aB h
      refine aS (vs:=[Value.int .u8 (y.toNat:Int)]) call199 rfl (aEp b2 c7) ?_
      rintro _ e4 ⟨rfl,b4⟩
      refine aD (eJ rfl) (aG ?_)
      rcases aH h with ⟨a0,h⟩|⟨a0,h⟩
      ·refine aM a0 rfl (aL (aF (v:=i64 0) (aF (v:=zB false) (aG (bM (aV (bV (aV (aV ?_)))))))))
       have c8:=a9 _ (zI h).symm
       subst c8
       have c:(some (0,false))=some R:=c
       obtain rfl:=zI c
       exact bV (aV (aV (kF results160 rfl rfl ⟨rfl,b4⟩)))
      ·exact aJ a0 rfl (bA (aA (aP (aN b1 (aD (aCO rfl rfl) (aN u (aN x (aD (aDm runUnderlying9 rfl rfl b3) (aD (R_u8sub' (a:=y) (b:=(48:UInt8)) rfl rfl) (aD (aIi runUnderlying2 rfl ⟨_,runUnderlying5⟩) (aD (cP rfl rfl) (aF (v:=i64 (wr ((wr (10 * o))+(wr ((y - (48:UInt8)).toNat:Int))))) (aZ (bC (aA (aP (aN x (aD (cP rfl rfl) (aF (v:=i64 (wr (q+1))) (aG ⟨(wr ((wr (10 * o))+(wr ((y - (48:UInt8)).toNat:Int))),wr (q+1)),(zI h).symm,u,b0,rfl,rfl,b4⟩))))))))))))))))))))
     ·refine aJ Z rfl (cA (aT (aT ?_)))
      have d0:=a9 _ (zI h).symm
      subst d0
      have c:(tE i o)=some R:=c
      exact bJ (aA ⟨o,c,b0,b1,b2⟩)
  refine aP (aN m (aD (iG runUnderlying9 rfl) (aN n (aD (gE rfl rfl) (aO (v:=zB ((d.length:Int) == i)) ?_)))))
  rcases aH c with ⟨j,c⟩|⟨j,c⟩
  ·exact aX j rfl rfl (aX j rfl rfl (aX j rfl rfl (aX j rfl rfl (aX j rfl rfl (aD (bL (v:=zB true) j rfl rfl) (aO (v:=zB true) (aX (rfl:true=true) rfl rfl (aX (rfl:true=true) rfl rfl (aX (rfl:true=true) rfl rfl (aX (rfl:true=true) rfl rfl (aX (rfl:true=true) rfl rfl (dP (g:=31) rfl rfl (dP (g:=31) rfl rfl (dP (g:=31) rfl rfl (aX (rfl:true=true) rfl rfl (aD (bL (v:=zB true) (rfl:true=true) rfl rfl) (aG ⟨true,c,m,n,rfl,r⟩)))))))))))))))))
  ·refine bG j rfl rfl (aN m (bG j rfl rfl (aD (iG runUnderlying9 rfl) (bG j rfl rfl (aN n (bG j rfl rfl (aD (kH rfl rfl) (bG j rfl rfl (aD (kZ rfl rfl) (aD (bK (v:=zB (decide (18 < wr ((d.length:Int) - i)))) j rfl rfl) (aO (v:=zB (decide (18 < wr ((d.length:Int) - i)))) ?_)))))))))))
   rcases aH c with ⟨e,c⟩|⟨e,c⟩
   ·exact aX e rfl rfl (aX e rfl rfl (aX e rfl rfl (aX e rfl rfl (aX e rfl rfl (dP (g:=31) rfl rfl (dP (g:=31) rfl rfl (dP (g:=31) rfl rfl (aX e rfl rfl (aD (bL (v:=zB true) e rfl rfl) (aG ⟨true,c,m,n,rfl,r⟩))))))))))
   ·refine bG e rfl rfl (aN m (bG e rfl rfl (aN n (bG e rfl rfl ?_))))
    obtain ⟨d1,d2,c⟩:=aB c
    refine aD (aDm runUnderlying9 rfl rfl d2) (bG e rfl rfl (aD (gE rfl rfl) (bG e rfl rfl (aO (v:=zB ((d1.toNat:Int) == 48)) ?_))))
    rcases aH c with ⟨k,c⟩|⟨k,c⟩
    ·exact bD k rfl rfl (aN m (bD k rfl rfl (aD (iG runUnderlying9 rfl) (bD k rfl rfl (aD (kZ rfl rfl) (bG e rfl rfl (aD (bL (v:=zB (decide (1 < (d.length:Int)))) k rfl rfl) (aD (bK (v:=zB (decide (1 < (d.length:Int)))) e rfl rfl) (aG ⟨decide (1 < (d.length:Int)),c,m,n,rfl,r⟩)))))))))
    ·exact aR k rfl rfl (aR k rfl rfl (aR k rfl rfl (bG e rfl rfl (aD (bK (v:=zB false) k rfl rfl) (aD (bK (v:=zB false) e rfl rfl) (aG ⟨false,c,m,n,rfl,r⟩))))))
 refine aQ (cN (fun f w=>∃ (a1:Bool),pK d a1=some R∧f 0=str d∧f 4=i64 0∧f 14=zB a1∧aI G K (L) w) ?_ ?_)
 ·rintro f e5 ⟨a1,c,b5,d3,b6,b7⟩
  unfold pK at c
  refine aA ?_
  rcases aH c with ⟨a2,c⟩|⟨a2,c⟩
  ·exact aM a2 b6 (aP (aF (v:=i64 1) (aG ⟨1,c,b5,rfl,b7⟩)))
  ·exact aJ a2 b6 (bA (aA ⟨0,c,b5,d3,b7⟩))
 refine aP (aO (v:=str d) (aD (iG runUnderlying9 rfl) (aD (kZ rfl rfl) (aO (v:=zB (decide (0 < (d.length:Int)))) ?_))))
 rcases aH c with ⟨l,c⟩|⟨l,c⟩
 ·refine bD l rfl rfl (aO (v:=str d) (bD l rfl rfl ?_))
  obtain ⟨b8,d4,c⟩:=aB c
  exact aD (aDm runUnderlying9 rfl rfl d4) (bD l rfl rfl (aD (gE rfl rfl) (aD (bL (v:=zB ((b8.toNat:Int) == 45)) l rfl rfl) (aG ⟨(b8.toNat:Int) == 45,c,rfl,rfl,rfl,hs⟩))))
 ·exact aR l rfl rfl (aR l rfl rfl (aR l rfl rfl (aD (bK (v:=zB false) l rfl rfl) (aG ⟨false,c,rfl,rfl,rfl,hs⟩))))
theorem aGT {e:aU} {R:((List Int) × Bool)} (hs:aI G K (L) w) (a:aCX e=some R):
  Calls Tryz.prog 129 ([str e]:List Value).toArray w (gK fun v w'=>∃ (b3:Option Addr) (b4:Nat),v=zT #[zS b3 R.1.length b4,zB R.2]∧aI G K (aK 2 K b3 b4 R.1::L) w'):=by
 refine aW func129 rfl (by kernel_rfl) (by show (1:Nat)≤70;decide) ?_
 unfold aCX at a
 refine aL (aF (v:=zS none 0 0) (aF (v:=zB false) (aG (aL (aO (v:=str e) ?_)))))
 obtain ⟨u,q2,a⟩:=aB a
 refine aS (vs:=[str e]) call156 rfl (aIL hs q2) ?_
 rintro _ w3 ⟨rfl,b5⟩
 refine aF (v:=i64 u) (aG (aQ (aL (aO (v:=i64 u) (aO (v:=str e) (aD (iG runUnderlying9 rfl) (aD (gE rfl rfl) (aG ?_))))))))
 rcases aH a with ⟨Z,a⟩|⟨Z,a⟩
 ·refine aM Z rfl (aL (bR (Kt:=K) (xs:=([]:List Int)) (cs:=[]) (vs:=[]) cF jC rfl rfl b5 rfl (by kernel_rfl) rfl rfl rfl trivial (fun a6 w7 (d2:aI G K (aK 2 K a6 0 ([]:List Int)::L) w7)=>(aO (v:=str e) ?_))))
  obtain ⟨r9,d4,a⟩:=aB a
  refine aS (vs:=[str e]) call157 rfl (aER d2 d4) ?_
  rintro _ h4 ⟨rfl,d5⟩
  refine aF (v:=zS a6 ([]:List Int).length 0) (aF (v:=zB r9) (aG ?_))
  obtain rfl:=zI a
  exact bM (aV (kF results129 rfl rfl ⟨a6,0,rfl,d5⟩))
 ·refine aJ Z rfl (bA (aA (aQ (aQ (cN (fun f w=>∃ (a1:Bool),pM e u a1=some R∧f 0=str e∧f 4=i64 u∧f 31=zB a1∧aI G K (L) w) ?_ ?_)))))
  ·rintro f h5 ⟨a1,a,b6,d7,b7,b8⟩
   unfold pM at a
   refine aA ?_
   rcases aH a with ⟨a2,a⟩|⟨a2,a⟩
   ·refine aM a2 b7 (aL (aF (v:=zS none 0 0) (aF (v:=zB false) (aG ?_))))
    have d8:=aI.nil (α:=Int) b8 2 K
    obtain rfl:=zI a
    exact bM (aV (kF results129 rfl rfl ⟨none,0,rfl,d8⟩))
   ·refine aJ a2 b7 (bA (aA (aL (aN b6 (aN d7 (aD (cP rfl rfl) (aN b6 (aD (iG runUnderlying9 rfl) (aD (kH rfl rfl) ?_)))))))))
    obtain ⟨e0,e1,a⟩:=aB a
    refine aD (R_slSLH runUnderlying9 rfl rfl rfl e1) ?_
    obtain ⟨j,e2,a⟩:=aB a
    refine aS (vs:=[str e0,Value.int .u8 44]) call159 rfl (aHM (by_:=(44:UInt8)) b8 e2) ?_
    rintro _ h6 ⟨m,n,rfl,e3⟩
    refine aF (v:=zS m j.length n) (aG (aL (bR (Kt:=K) (xs:=([]:List Int)) (cs:=[]) (vs:=[]) cF jC rfl rfl e3 rfl (by kernel_rfl) rfl rfl rfl trivial (fun a3 e4 (e5:aI G K (aK 2 K a3 0 ([]:List Int)::aK 9 K m n j::L) e4)=>(aF (v:=zS a3 ([]:List Int).length 0) (aG (aQ (aL (aF (v:=i64 0) (aG (bB (fun f w=>∃ (o:List Int) (x:Option Addr) (y:Nat),tF o=some R∧f 6=zS x o.length y∧aI G K (aK 2 K x y o::L) w) ?_ ?_)))))))))))
    ·rintro f h7 ⟨o,x,y,a,b9,e6⟩
     unfold tF at a
     refine aA (aL (aN b9 (aN b9 (aD (bU (len:=o.length) cF rfl) (aD (aEw rfl rfl) (aF (v:=zS x o.length y) (aF (v:=zB (decide ((o.length:Int)≤2))) (aG ?_))))))))
     obtain rfl:=zI a
     exact bM (kF results129 rfl rfl ⟨x,y,rfl,e6⟩)
    obtain ⟨h8,e8,a⟩:=aB a
    refine cE e8 (fun (s:(List Int × Int)) f w=>match s with|(k,p)=>∃ (q:Option Addr) (r:Nat),f 5=zS m j.length n∧f 6=zS q k.length r∧f 7=i64 p∧aI G K (aK 2 K q r k::aK 9 K m n j::L) w) ?_ ?_
    ·exact ⟨a3,0,rfl,rfl,rfl,e5⟩
    ·rintro ⟨k,p⟩ c0 f h9 b c1 ⟨q,r,z,a4,J,V⟩
     replace b:pL j k p=some c0:=b
     unfold pL at b
     refine aQ (aL (aN J (aN z (aD (bU (len:=j.length) bX rfl) (aD (cL rfl rfl) (aG ?_))))))
     rcases aH b with ⟨a5,b⟩|⟨a5,b⟩
     ·refine aM a5 rfl (bA (aA (aQ (cY (aL (aN z (aN J ?_)))))))
      obtain ⟨e9,a7,b⟩:=aB b
      have f0:=dA V (i:=1) rfl a7
      refine aD (dT bX rfl f0 rfl rfl rfl a7) (aD (gP (t:=0) qB V (i:=1) rfl a7 rfl rfl rfl) ?_)
      obtain ⟨d,f1,b⟩:=aB b
      refine aS (vs:=[str e9]) call160 rfl (aGS V f1) ?_
      rintro _ i0 ⟨rfl,c2⟩
      refine aO (v:=zT #[i64 d.1,zB d.2]) (aD (bQ rfl rfl) (aD (bQ rfl rfl) (aF (v:=i64 d.1) (aF (v:=zB d.2) (aG (aQ (aQ (cN (fun f w=>∃ (a8:Bool),tG k p d a8=some c0∧f 5=zS m j.length n∧f 6=zS q k.length r∧f 7=i64 p∧f 8=i64 d.1∧f 61=zB a8∧aI G K (aK 2 K q r k::aK 9 K m n j::L) w) ?_ ?_))))))))
      ·rintro f i1 ⟨a8,b,f2,f3,f4,f5,c3,c4⟩
       unfold tG at b
       refine aA ?_
       rcases aH b with ⟨a9,b⟩|⟨a9,b⟩
       ·refine aM a9 c3 (aL (aF (v:=zS none 0 0) (aF (v:=zB false) (aG (bM (aV (bV (aV (aV ?_)))))))))
        have f6:=c1 _ (zI b).symm
        subst f6
        have a:(some ([],false))=some R:=a
        have f7:=aI.nil (α:=Int) c4 2 K
        obtain rfl:=zI a
        exact bV (aV (aV (kF results129 rfl rfl ⟨none,0,rfl,(aI.arr 3 [0] f7 rfl)⟩)))
       ·refine aJ a9 c3 (bA (aA (aP (aN f3 (aN f5 (bR (Kt:=K) (xs:=([d.1]:List Int)) (cs:=[i64 d.1]) (vs:=[(0,i64 d.1)]) cF jC rfl rfl c4 rfl (by kernel_rfl) rfl rfl rfl ⟨rfl,trivial⟩ (fun f9 g0 (g1:aI G K (aK 2 K f9 1 ([d.1]:List Int)::aK 2 K q r k::aK 9 K m n j::L) g0)=>?_)))))))
        obtain ⟨b0,g2,b⟩:=aB b
        exact dG (i:=0) cF underlying35 jC rfl rfl g1 rfl (zR _) (zR _) g2 rfl rfl rfl rfl (fun _ h=>h) (fun b1 b2 g3 (g4:aI G K (aK 2 K b1 b2 b0::aK 9 K m n j::L) g3)=>(aF (v:=zS b1 b0.length b2) (aZ (bC (aA (aP (aN f4 (aD (cP rfl rfl) (aF (v:=i64 (wr (p+1))) (aG ⟨(b0,wr (p+1)),(zI b).symm,b1,b2,f2,rfl,rfl,g4⟩))))))))))
      refine aP (aO (v:=zB d.2) (aD (eJ rfl) (aO (v:=zB (!d.2)) ?_)))
      rcases aH b with ⟨l,b⟩|⟨l,b⟩
      ·exact aX l rfl rfl (aX l rfl rfl (aX l rfl rfl (aD (bL (v:=zB true) l rfl rfl) (aG ⟨true,b,z,a4,J,rfl,rfl,c2⟩))))
      ·refine bG l rfl rfl (aO (v:=i64 d.1) (bG l rfl rfl ?_))
       obtain ⟨c6,g5,b⟩:=aB b
       refine aS (vs:=[i64 d.1,i64 0,i64 63]) call56 rfl (uS c2 g5) ?_
       rintro _ i2 ⟨rfl,g6⟩
       exact bG l rfl rfl (aD (eJ rfl) (aD (bK (v:=zB (!c6)) l rfl rfl) (aG ⟨!c6,b,z,a4,J,rfl,rfl,g6⟩)))
     ·refine aJ a5 rfl (cA (aT (aT ?_)))
      have g7:=c1 _ (zI b).symm
      subst g7
      have a:(tF k)=some R:=a
      exact bJ (aA ⟨k,q,r,a,a4,(aI.arr 2 [0] V rfl)⟩)
  refine aP (aO (v:=str e) (aO (v:=i64 u) ?_))
  obtain ⟨g8,g9,a⟩:=aB a
  refine aD (R_slSH runUnderlying9 rfl rfl g9) ?_
  obtain ⟨h0,h1,a⟩:=aB a
  refine aS (vs:=[str g8]) call158 rfl (aGR b5 h1) ?_
  rintro _ i3 ⟨rfl,c7⟩
  refine aD (eJ rfl) (aO (v:=zB (!h0)) ?_)
  rcases aH a with ⟨c,a⟩|⟨c,a⟩
  ·exact aX c rfl rfl (aX c rfl rfl (aX c rfl rfl (aX c rfl rfl (aX c rfl rfl (aX c rfl rfl (aD (bL (v:=zB true) c rfl rfl) (aG ⟨true,a,rfl,rfl,rfl,c7⟩)))))))
  ·refine bG c rfl rfl (aO (v:=str e) (bG c rfl rfl (aO (v:=str e) (bG c rfl rfl (aD (iG runUnderlying9 rfl) (bG c rfl rfl (aD (kH rfl rfl) (bG c rfl rfl ?_))))))))
   obtain ⟨c8,h2,a⟩:=aB a
   exact aD (aDm runUnderlying9 rfl rfl h2) (bG c rfl rfl (aD (aBw rfl rfl) (aD (bK (v:=zB ((c8.toNat:Int) != 41)) c rfl rfl) (aG ⟨(c8.toNat:Int) != 41,a,rfl,rfl,rfl,c7⟩))))
theorem aHN {b:aU} {R:Bool} (g:aI G K (L) w) (c:aCu b=some R):
  Calls Tryz.prog 96 ([str b]:List Value).toArray w (gK fun v w'=>v=zB R∧aI G K (L) w'):=by
 refine aW func96 rfl (by kernel_rfl) (by show (1:Nat)≤11;decide) ?_
 unfold aCu at c
 refine aL (aF (v:=zB false) (aG (aL (aO (v:=str b) ?_))))
 obtain ⟨a,h,c⟩:=aB c
 refine aS (vs:=[str b]) call129 rfl (aGT g h) ?_
 rintro _ k ⟨d,e,rfl,i⟩
 refine aO (v:=zT #[zS d a.1.length e,zB a.2]) (aD (bQ rfl rfl) (aD (bQ rfl rfl) (aF (v:=zS d a.1.length e) (aF (v:=zB a.2) (aG (aL (aO (v:=zB a.2) (aF (v:=zB a.2) (aG ?_)))))))))
 obtain rfl:=zI c
 exact bM (bP results96 rfl ⟨rfl,(aI.arr 1 [] i rfl)⟩)
end Gv
