/- Walks, printed by program. -/
import Derived.Test.YtohbafhnoifmoaaGreatDoorMJWk3
import Derived.Test.YtohbafhnoifmoaaGreatDoorMJT
set_option linter.all false
namespace Gv
open Go.Value renaming slice→zS,bool→zB,pointer→zP
open Option.some renaming inj→zI
open Gv.Hp renaming le_trans→zL,le_refl→zR
open Go Go.Proofs Go.Proofs.Tryz
set_option maxRecDepth 20000
set_option maxHeartbeats 40000000
variable {G:uA} {K:Hp} {L:List iU} {w:World} {a1 a4 a7 a10:Option Addr} {c5 c8 c11 c2:Nat}
theorem yB {t:cO} {m:Nat} {p:(List Int)} {n:Bool} {R:cO} (hs:aH G K (L) w) (h3:fJ K a1 m (zC t a4 c5 a7 c8)) (h6:cR K a4 c5 t.L) (h9:cR K a7 c8 t.E) (o:cR K a10 c11 p) (a:sO t p n=some R):
  Calls Tryz.prog 49 ([cL a1 m,zS a10 p.length c11,zB n]:List Value).toArray w (eN fun v w'=>∃ d1 d2 d3 d4,v=Value.agg (zCa R d1 d2 d3 d4)/\aH G K (aJ 9 K d1 d2 R.L::aJ 69 K d3 d4 R.E::L) w'):=by
 let j:=zG
 refine zH func49 ?_;unfold sO at a
 refine yW ?_;refine bR (vs:=j) zeroValue27 hs rfl (fun c q2 h7=>(yW ?_))
 refine bZ (Kt:=K) (xs:=([]:List Edge)) (cs:=[]) (vs:=[]) cI fG rfl rfl h7 rfl (by kernel_rfl) rfl rfl rfl trivial (fun d5 h8 (i0:aH G K (aJ 69 K d5 0 ([]:List Edge)::box c 27 j::L) h8)=>(yW ?_));refine aZ (fun f w=>∃ a2 a3 a5,mN t p n a2=some R/\f 0=cL a1 m/\f 1=zS a10 p.length c11/\f 2=zB n/\f 6=zP (some ⟨c,0,none⟩)/\f 7=zS a3 a2.length a5/\aH G K (aJ 69 K a3 a5 a2::box c 27 j::L) w) ?_ ?_
 ·rintro f q3 ⟨a2,a3,a5,a,d6,d7,q4,d8,d9,e0⟩
  unfold mN at a
  iterate 1 refine aIQ ?_
  refine jR (fun f w=>∃ a6 b2 b3,mL t p a6=some R/\f 0=cL a1 m/\f 1=zS a10 p.length c11/\f 6=zP (some ⟨c,0,none⟩)/\f 7=zS b2 a6.length b3/\aH G K (aJ 69 K b2 b3 a6::box c 27 j::L) w) ?_ ?_
  ·rintro f q5 ⟨a6,b2,b3,a,q6,q7,e1,q8,e2⟩
   unfold mL at a
   refine yW ?_;refine dV (C:=fun w'=>∃ L',aH G K L' w') [(0,0),(2,0),(3,0),(4,0),(5,0),(6,0),(7,0),(8,0),(9,0),(10,0),(11,0),(12,0),(13,0),(1,1),(14,1),(15,2)] bV (by kernel_rfl) (fun _ hg=>⟨_,aH.mono e2 hg⟩) (fun q9 i1=>?_)
   have i2:=aH.mono e2 i1
   refine yW ?_;obtain ⟨r0,i3,a⟩:=aB a
   refine yW ?_;obtain ⟨r1,r2,i4⟩:=cR.el (sz:=1) rfl o i3
   cases i4
   refine yW ?_;refine gX rfl ?_
   obtain ⟨r3,i5,a⟩:=aB a
   refine zF call83 (aBb i2 o i5) ?_
   rintro _ r4 ⟨rfl,e3⟩
   refine aX (aA ⟨⟨_,e3⟩,?_⟩)
   refine gX rfl ?_;obtain ⟨r5,i6,i7,i8,i9⟩:=aH.lendS (i:=0) e3 (zR _) rfl
   obtain ⟨d,j0,a⟩:=aB a
   refine zF call43 (qZ i8 (h6.mono i6) i7 j0) ?_
   rintro _ r6 ⟨x,y,z,J,rfl,j1⟩
   have e4:=i9 _ _ j1
   refine aX (aA ⟨⟨_,e4⟩,?_⟩)
   refine aCl rfl (bS (i:=3) (ns:=(zC d x y z J)) (us:=(zC d x y z J)) sizeOf27 e4 rfl e1 rfl rfl rfl (cS rfl) rfl rfl (fun j2 (e5:aH G K (aJ 69 K b2 b3 a6::aJ 9 K x y d.L::aJ 69 K z J d.E::box c 27 (zC d x y z J)::L) j2)=>(yW ?_)));refine gZ (yW ?_)
   obtain rfl:=zI a
   exact bK (mG results49 (dM (vs:=(zC d x y z J)) rfl cZ e5 (i:=3) rfl e1 rfl) ⟨x,y,z,J,rfl,(aH.arr 4 [1,2] e5 rfl)⟩)
  refine yW ?_
  rcases aG a with ⟨j4,a⟩|⟨j4,a⟩
  ·refine yW ?_;obtain ⟨r7,j5,a⟩:=aB a
   refine zF call87 (aAc e0 h3 h6 h9 o j5) ?_
   rintro _ r8 ⟨r9,s0,rfl,j6⟩
   obtain ⟨s1,s2,j7,j8,j9⟩:=aH.lendS (i:=0) j6 (zR _) rfl
   obtain ⟨c0,k0,a⟩:=aB a
   refine zF call86 (aGh j8 j7 k0) ?_
   rintro _ s3 ⟨e6,e7,rfl,k1⟩
   have k3:=j9 _ _ k1
   refine yW ?_;refine aZ (fun f w=>∃ a8 b4 b5,mM t p a8=some R/\f 0=cL a1 m/\f 1=zS a10 p.length c11/\f 6=zP (some ⟨c,0,none⟩)/\f 7=zS b4 a8.length b5/\aH G K (aJ 69 K b4 b5 a8::box c 27 j::L) w) ?_ ?_
   ·rintro f s4 ⟨a8,b4,b5,a,k4,k5,k6,k7,k8⟩
    unfold mM at a
    refine yW ?_;exact ⟨a8,b4,b5,a,k4,k5,k6,k7,k8⟩
   obtain ⟨s5,k9,a⟩:=aB a
   refine cE k9 (fun s f w=>match s with|(q,b6)=>∃ a9 b0,f 0=cL a1 m/\f 1=zS a10 p.length c11/\f 6=zP (some ⟨c,0,none⟩)/\f 7=zS a9 q.length b0/\f 10=zS e6 c0.length e7/\f 11=i64 b6/\aH G K (aJ 2 K e6 e7 c0::aJ 69 K a9 b0 q::box c 27 j::L) w) ?_ ?_
   ·exact ⟨a3,a5,d6,d7,d8,d9,rfl,rfl,(aH.arr 1 [] k3 rfl)⟩
   ·rintro ⟨q,b6⟩ l0 f s6 g l1 ⟨a9,b0,e8,e9,f0,l2,l3,s7,f1⟩
    replace g:rJ p c0 q b6=some l0:=g
    unfold rJ at g
    refine yW ?_
    rcases aG g with ⟨l4,g⟩|⟨l4,g⟩
    ·refine yW ?_;refine cT ?_
     obtain ⟨c1,f2,f3,f4,l5⟩:=aH.lendS (i:=0) f1 (zR _) rfl
     refine dV (C:=fun w'=>∃ L',aH G c1 L' w') [(0,0),(1,0),(2,0),(3,0),(4,0),(5,0),(6,0),(7,0),(8,0),(9,0),(10,0),(11,0),(12,0),(13,0),(14,0),(15,0),(16,1),(17,1),(18,0)] bV (by kernel_rfl) (fun _ hg=>⟨_,aH.mono f4 hg⟩) (fun s8 l6=>?_)
     have l7:=aH.mono f4 l6
     refine yW ?_;obtain ⟨s9,b7,g⟩:=aB g
     have f5:=aCU f3 b7
     refine bX rfl (fun _ _=>dB bY rfl f5 rfl rfl rfl b7) ?_;obtain ⟨t0,t1,l8⟩:=cR.el (sz:=1) rfl f3 b7
     cases l8
     refine yW ?_;obtain ⟨k,l9,g⟩:=aB g
     refine yW ?_;obtain ⟨t2,t3,m0⟩:=cR.el (sz:=1) rfl o l9
     cases m0
     iterate 4 refine aIQ ?_
     refine bX rfl (fun _ _=>dB bY rfl f5 rfl rfl rfl b7) (yW ?_);refine bX rfl (fun _ _=>dD (vs:=[(0,i64 k),(2,i64 k)]) (cs:=[i64 k,i64 0,i64 k]) aDq rfl (by kernel_rfl)) (gX rfl (bZ (Kt:=K) (xs:=([⟨k,0,k⟩]:List Edge)) (cs:=[i64 k,i64 0,i64 k]) (vs:=[(0,Value.agg #[i64 k,i64 0,i64 k])]) cI fG rfl rfl l7 rfl (by kernel_rfl) rfl rfl rfl ⟨rfl,trivial⟩ (fun m1 m2 (f6:aH G c1 (aJ 69 K m1 1 ([⟨k,0,k⟩]:List Edge)::aJ 69 K a9 b0 q::box c 27 j::L) m2)=>(aX (aA ⟨⟨_,f6⟩,?_⟩)))))
     refine gX rfl ?_;obtain ⟨f7,m3,g⟩:=aB g
     refine dA (i:=0) cI underlying25 fG rfl rfl f6 rfl f2 f2 m3 rfl rfl rfl rfl (fun _ h=>h) (fun f8 f9 m4 (g0:aH G c1 (aJ 69 K f8 f9 f7::box c 27 j::L) m4)=>(aX (aA ⟨⟨_,g0⟩,?_⟩)))
     refine yW ?_;refine gZ ?_
     have m5:=l5 _ _ g0
     refine yW ?_;exact ⟨(f7,wr (b6+1)),(zI g).symm,f8,f9,e8,e9,f0,rfl,l3,rfl,m5⟩
    ·refine yW ?_
     have m6:=l1 _ (zI g).symm
     subst m6
     have a:(mM t p q)=some R:=a
     refine yW ?_;exact ⟨q,a9,b0,a,e8,e9,f0,l2,(aH.arr 1 [] f1 rfl)⟩
  ·refine yW ?_;exact ⟨a2,a3,a5,a,d6,d7,d8,d9,e0⟩
 obtain ⟨t4,m7,a⟩:=aB a
 refine cE m7 (fun s f w=>match s with|(l,V)=>∃ r u,f 0=cL a1 m/\f 1=zS a10 p.length c11/\f 2=zB n/\f 6=zP (some ⟨c,0,none⟩)/\f 7=zS r l.length u/\f 8=i64 V/\aH G K (aJ 69 K r u l::box c 27 j::L) w) ?_ ?_
 ·exact ⟨d5,0,rfl,rfl,rfl,rfl,rfl,rfl,i0⟩
 ·rintro ⟨l,V⟩ g1 f t5 b m8 ⟨r,u,c2,c3,c4,c6,g2,g3,g4⟩
  replace b:rK t p l V=some g1:=b
  unfold rK at b
  refine yW ?_
  rcases aG b with ⟨m9,b⟩|⟨m9,b⟩
  ·refine yW ?_;refine aZ (fun f w=>∃ b1 b8 b9,mO V b1=some g1/\f 0=cL a1 m/\f 1=zS a10 p.length c11/\f 2=zB n/\f 6=zP (some ⟨c,0,none⟩)/\f 7=zS b8 b1.length b9/\f 8=i64 V/\aH G K (aJ 69 K b8 b9 b1::box c 27 j::L) w) ?_ ?_
   ·rintro f t6 ⟨b1,b8,b9,b,n0,n1,n2,n3,n4,t7,n5⟩
    unfold mO at b
    refine yW ?_;exact ⟨(b1,wr (V+1)),(zI b).symm,b8,b9,n0,n1,n2,n3,n4,rfl,n5⟩
   refine yW ?_;obtain ⟨e,n6,b⟩:=aB b
   refine yW ?_;obtain ⟨t8,t9,n7⟩:=cR.el (sz:=3) rfl h9 n6
   cases n7
   refine yW ?_;refine bR (vs:=[i64 0,i64 0,i64 0]) zeroValue69 g4 rfl (fun n8 u0 n9=>(bS (i:=0) (ns:=[i64 e.F,i64 e.B,i64 e.To]) (us:=[i64 e.F,i64 e.B,i64 e.To]) sizeOf69 n9 rfl rfl rfl rfl rfl (cS rfl) rfl rfl (fun o0 (o1:aH G K (box n8 69 [i64 e.F,i64 e.B,i64 e.To]::aJ 69 K r u l::box c 27 j::L) o0)=>(yW ?_))))
   obtain ⟨u1,o2,o3,o4,o5⟩:=aH.lendB (i:=0) o1 rfl
   obtain ⟨u2,o6,b⟩:=aB b
   refine zF call85 (oH o4 o3 (o.mono o2) o6) ?_
   rintro _ u3 ⟨rfl,o7⟩
   have g5:=o5 _ _ o7
   refine yW ?_
   rcases aG b with ⟨o8,b⟩|⟨o8,b⟩
   ·refine yW ?_;obtain ⟨c7,g6,u4,g7,o9⟩:=aH.lendB (i:=0) g5 rfl
    refine dV (C:=fun w'=>∃ L',aH G c7 L' w') [(0,0),(1,0),(2,0),(3,0),(4,0),(5,0),(6,0),(7,0),(8,0),(9,0),(10,0),(11,0),(12,0),(13,0),(14,1),(15,1),(16,0)] bV (by kernel_rfl) (fun _ hg=>⟨_,aH.mono g7 hg⟩) (fun u5 p0=>?_)
    have p1:=aH.mono g7 p0
    refine yW ?_;obtain ⟨Z,p2,b⟩:=aB b
    refine yW ?_;obtain ⟨u6,u7,p3⟩:=cR.el (sz:=1) rfl o p2
    cases p3
    refine yW ?_;obtain ⟨a0,p4,b⟩:=aB b
    refine yW ?_;obtain ⟨u8,u9,p5⟩:=cR.el (sz:=1) rfl o p4
    cases p5
    refine yW ?_;refine bX rfl (fun _ _=>dD (vs:=[(0,i64 Z),(1,i64 e.B),(2,i64 a0)]) (cs:=[i64 Z,i64 e.B,i64 a0]) aDq rfl (by kernel_rfl)) (gX rfl (bZ (Kt:=K) (xs:=([⟨Z,e.B,a0⟩]:List Edge)) (cs:=[i64 Z,i64 e.B,i64 a0]) (vs:=[(0,Value.agg #[i64 Z,i64 e.B,i64 a0])]) cI fG rfl rfl p1 rfl (by kernel_rfl) rfl rfl rfl ⟨rfl,trivial⟩ (fun p6 p7 (g8:aH G c7 (aJ 69 K p6 1 ([⟨Z,e.B,a0⟩]:List Edge)::aJ 69 K r u l::box c 27 j::L) p7)=>(aX (aA ⟨⟨_,g8⟩,?_⟩)))))
    refine gX rfl ?_;obtain ⟨g9,p8,b⟩:=aB b
    refine dA (i:=0) cI underlying25 fG rfl rfl g8 rfl g6 g6 p8 rfl rfl rfl rfl (fun _ h=>h) (fun h0 h1 p9 (h2:aH G c7 (aJ 69 K h0 h1 g9::box c 27 j::L) p9)=>(aX (aA ⟨⟨_,h2⟩,?_⟩)))
    refine yW ?_;refine gZ ?_
    have q0:=o9 _ _ h2
    refine yW ?_;exact ⟨g9,h0,h1,b,c2,c3,c4,c6,rfl,g3,(aH.arr 1 [] q0 rfl)⟩
   ·refine yW ?_;exact ⟨l,r,u,b,c2,c3,c4,c6,g2,g3,(aH.arr 1 [] g5 rfl)⟩
  ·refine yW ?_
   have q1:=m8 _ (zI b).symm
   subst q1
   have a:(mN t p n l)=some R:=a
   refine yW ?_;exact ⟨l,r,u,a,c2,c3,c4,c6,g2,g4⟩
theorem aFo {t:cO} {m:Nat} {p:(List Int)} {k:Int} {R:(List Bool)} (hs:aH G K (L) w) (h3:fJ K a1 m (zC t a4 c5 a7 c8)) (h6:cR K a4 c5 t.L) (h9:cR K a7 c8 t.E) (d5:cR K a10 c11 p) (j:aDE t p k=some R):
  Calls Tryz.prog 153 ([cL a1 m,zS a10 p.length c11,i64 k]:List Value).toArray w (eN fun v w'=>∃ b6 b7,v=zS b6 R.length b7/\aH G K (aJ 4 K b6 b7 R::L) w'):=by
 refine zH func153 ?_;unfold aDE at j
 refine yW ?_;obtain ⟨b,d6,j⟩:=aB j
 refine wS (e:=(false:Bool)) dY ez_4 rfl rfl hs rfl rfl rfl d6 rfl (fun c d7 (b8:aH G K (aJ 4 K c b.length b::L) d7)=>(yW ?_));obtain ⟨j3,b0,j⟩:=aB j
 have z:=cU b8 (i:=0) rfl b0
 refine aC (dB dY rfl z rfl rfl rfl b0) ?_;obtain ⟨d8,b9,j⟩:=aB j
 refine iH (i:=0) (t:=0) (ns:=[zB true]) (e':=(true:Bool)) sizeOf4 b8 rfl (zR _) rfl rfl rfl b0 b9 rfl rfl (cS rfl) rfl (fun cs h=>by cases h;rfl) (fun d9 (e0:aH G K (aJ 4 K c b.length d8::L) d9)=>(yW ?_));refine aZ (fun f w=>∃ J,sP J=some R/\f 7=zS c J.length b.length/\aH G K (aJ 4 K c b.length J::L) w) ?_ ?_
 ·rintro f j4 ⟨J,j,j5,e1⟩
  unfold sP at j
  refine yW ?_;obtain rfl:=zI j
  exact aIK results153 ⟨c,b.length,rfl,e1⟩
 obtain ⟨j6,e3,j⟩:=aB j
 refine cE e3 (fun s f w=>match s with|(r,b1)=>f 0=cL a1 m/\f 1=zS a10 p.length c11/\f 7=zS c r.length b.length/\f 8=zB b1/\aH G K (aJ 4 K c b.length r::L) w) ?_ ?_
 ·exact ⟨rfl,rfl,(Eq.trans rfl (congrArg (fun n=>zS c n b.length) (gN b9))),rfl,e0⟩
 ·rintro ⟨r,b1⟩ V f j7 d e4 ⟨e5,e6,c0,j8,c1⟩
  replace d:aAv t p r b1=some V:=d
  unfold aAv at d
  refine yW ?_
  rcases aG d with ⟨e7,d⟩|⟨e7,d⟩
  ·refine yW ?_;refine aZ (fun f w=>∃ u Z,aAt u Z=some V/\f 0=cL a1 m/\f 1=zS a10 p.length c11/\f 7=zS c u.length b.length/\f 8=zB Z/\aH G K (aJ 4 K c b.length u::L) w) ?_ ?_
   ·rintro f j9 ⟨u,Z,d,e8,e9,f0,f1,f2⟩
    unfold aAt at d
    refine yW ?_;exact ⟨(u,Z),(zI d).symm,e8,e9,f0,f1,f2⟩
   refine yW ?_;refine aZ (fun f w=>∃ x a0,sQ x a0=some V/\f 0=cL a1 m/\f 1=zS a10 p.length c11/\f 7=zS c x.length b.length/\f 8=zB a0/\aH G K (aJ 4 K c b.length x::L) w) ?_ ?_
   ·rintro f k0 ⟨x,a0,d,f3,f4,f5,f6,f7⟩
    unfold sQ at d
    refine yW ?_;exact ⟨x,a0,d,f3,f4,f5,f6,f7⟩
   obtain ⟨k1,f8,d⟩:=aB d
   refine cE f8 (fun s f w=>match s with|(l,o,q)=>f 0=cL a1 m/\f 1=zS a10 p.length c11/\f 7=zS c l.length b.length/\f 8=zB o/\f 9=i64 q/\aH G K (aJ 4 K c b.length l::L) w) ?_ ?_
   ·exact ⟨e5,e6,c0,rfl,rfl,c1⟩
   ·rintro ⟨l,o,q⟩ b2 f k3 a f9 ⟨a2,a3,a5,a6,b3,c2⟩
    replace a:aAu t p l o q=some b2:=a
    unfold aAu at a
    refine yW ?_
    rcases aG a with ⟨g0,a⟩|⟨g0,a⟩
    ·refine yW ?_;refine aZ (fun f w=>∃ y a8,sS q y a8=some b2/\f 0=cL a1 m/\f 1=zS a10 p.length c11/\f 7=zS c y.length b.length/\f 8=zB a8/\f 9=i64 q/\aH G K (aJ 4 K c b.length y::L) w) ?_ ?_
     ·rintro f k4 ⟨y,a8,a,g1,g2,g3,g4,k5,g5⟩
      unfold sS at a
      refine yW ?_;exact ⟨(y,a8,wr (q+1)),(zI a).symm,g1,g2,g3,g4,rfl,g5⟩
     refine yW ?_;obtain ⟨g,g6,a⟩:=aB a
     refine yW ?_;obtain ⟨k6,k7,g7⟩:=cR.el (sz:=3) rfl h9 g6
     cases g7
     refine yW ?_;refine bR (vs:=[i64 0,i64 0,i64 0]) zeroValue69 c2 rfl (fun a9 k8 g8=>(bS (i:=0) (ns:=[i64 g.F,i64 g.B,i64 g.To]) (us:=[i64 g.F,i64 g.B,i64 g.To]) sizeOf69 g8 rfl rfl rfl rfl rfl (cS rfl) rfl rfl (fun g9 (b4:aH G K (box a9 69 [i64 g.F,i64 g.B,i64 g.To]::aJ 4 K c b.length l::L) g9)=>?_)))
     iterate 3 refine aIQ ?_
     refine cQ (fun f w=>∃ b5,nL l o q g b5=some b2/\f 0=cL a1 m/\f 1=zS a10 p.length c11/\f 7=zS c l.length b.length/\f 8=zB o/\f 9=i64 q/\f 10=zP (some ⟨a9,0,none⟩)/\f 52=zB b5/\aH G K (box a9 69 [i64 g.F,i64 g.B,i64 g.To]::aJ 4 K c b.length l::L) w) ?_ ?_
     ·rintro f k9 ⟨b5,a,c3,c4,c6,h0,c7,l0,l1,c9⟩
      unfold nL at a
      refine yW ?_
      rcases aG a with ⟨h1,a⟩|⟨h1,a⟩
      ·refine yW ?_;obtain ⟨l2,d0,a⟩:=aB a
       refine aC (dB dY rfl z rfl rfl rfl d0) ?_;obtain ⟨d1,d2,a⟩:=aB a
       refine iH (i:=1) (t:=0) (ns:=[zB true]) (e':=(true:Bool)) sizeOf4 c9 rfl (zR _) rfl rfl rfl d0 d2 rfl rfl (cS rfl) rfl (fun cs h=>by cases h;rfl) (fun h2 (h4:aH G K (box a9 69 [i64 g.F,i64 g.B,i64 g.To]::aJ 4 K c b.length d1::L) h2)=>(yW ?_));exact ⟨d1,true,a,c3,c4,(Eq.trans c6 (congrArg (fun n=>zS c n b.length) (gN d2))),rfl,c7,(aH.arr 1 [] h4 rfl)⟩
      ·refine yW ?_;exact ⟨l,o,a,c3,c4,c6,h0,c7,(aH.arr 1 [] c9 rfl)⟩
     refine yW ?_;obtain ⟨l3,h5,a⟩:=aB a
     refine aC (dB dY rfl z rfl rfl rfl h5) (yW ?_)
     rcases aG a with ⟨h7,a⟩|⟨h7,a⟩
     ·refine yW ?_;obtain ⟨l4,h8,a⟩:=aB a
      refine aC (dB dY rfl z rfl rfl rfl h8) (yW ?_)
      rcases aG a with ⟨i0,a⟩|⟨i0,a⟩
      ·refine yW ?_;obtain ⟨l5,i1,i2,i3,i4⟩:=aH.lendB (i:=0) b4 rfl
       obtain ⟨i5,i6,a⟩:=aB a
       refine zF call85 (oH i3 i2 (d5.mono i1) i6) ?_
       rintro _ l6 ⟨rfl,i7⟩
       have i8:=i4 _ _ i7
       refine yW ?_;exact ⟨i5,a,a2,a3,a5,a6,b3,rfl,rfl,i8⟩
      ·refine yW ?_;exact ⟨false,a,a2,a3,a5,a6,b3,rfl,rfl,b4⟩
     ·refine yW ?_;exact ⟨false,a,a2,a3,a5,a6,b3,rfl,rfl,b4⟩
    ·refine yW ?_
     have i9:=f9 _ (zI a).symm
     subst i9
     have d:(sQ l o)=some V:=d
     refine yW ?_;exact ⟨l,o,d,a2,a3,a5,a6,c2⟩
  ·refine yW ?_
   have j0:=e4 _ (zI d).symm
   subst j0
   have j:(sP r)=some R:=j
   refine yW ?_;exact ⟨r,j,c0,c1⟩
theorem aEU {t:cO} {n:Nat} {p:(List Int)} {k:Int} {R:(List Int)} (hs:aH G K (L) w) (h3:fJ K a1 n (zC t a4 c5 a7 c8)) (h6:cR K a4 c5 t.L) (h9:cR K a7 c8 t.E) (z:cR K a10 c11 p) (c:aCw t p k=some R):
  Calls Tryz.prog 125 ([cL a1 n,zS a10 p.length c11,i64 k]:List Value).toArray w (eN fun v w'=>∃ a5 a6,v=zS a5 R.length a6/\aH G K (aJ 2 K a5 a6 R::L) w'):=by
 refine zH func125 ?_;unfold aCw at c
 refine yW ?_;obtain ⟨e,c6,c⟩:=aB c
 refine zF call153 (aFo hs h3 h6 h9 z c6) ?_
 rintro _ h5 ⟨g,h,rfl,c7⟩
 refine yW ?_;refine bZ (Kt:=K) (xs:=([]:List Int)) (cs:=[]) (vs:=[]) bY fC rfl rfl c7 rfl (by kernel_rfl) rfl rfl rfl trivial (fun a8 c9 (d0:aH G K (aJ 2 K a8 0 ([]:List Int)::aJ 4 K g h e::L) c9)=>(yW ?_))
 refine aZ (fun f w=>∃ q r u,pM q=some R/\f 8=zS r q.length u/\aH G K (aJ 2 K r u q::L) w) ?_ ?_
 ·rintro f h7 ⟨q,r,u,c,h8,d1⟩
  unfold pM at c
  refine yW ?_;obtain rfl:=zI c
  exact aIK results125 ⟨r,u,rfl,d1⟩
 obtain ⟨i0,d3,c⟩:=aB c
 refine cE d3 (fun s f w=>match s with|(d,j)=>∃ l m,f 0=cL a1 n/\f 1=zS a10 p.length c11/\f 7=zS g e.length h/\f 8=zS l d.length m/\f 9=i64 j/\aH G K (aJ 2 K l m d::aJ 4 K g h e::L) w) ?_ ?_
 ·exact ⟨a8,0,rfl,rfl,rfl,rfl,rfl,d0⟩
 ·rintro ⟨d,j⟩ J f i1 a d4 ⟨l,m,a9,b0,b1,V,b2,b3⟩
  replace a:xH t p e d j=some J:=a
  unfold xH at a
  refine yW ?_
  rcases aG a with ⟨d5,a⟩|⟨d5,a⟩
  ·refine yW ?_;refine aZ (fun f w=>∃ o x y,pN j o=some J/\f 0=cL a1 n/\f 1=zS a10 p.length c11/\f 7=zS g e.length h/\f 8=zS x o.length y/\f 9=i64 j/\aH G K (aJ 2 K x y o::aJ 4 K g h e::L) w) ?_ ?_
   ·rintro f i2 ⟨o,x,y,a,d6,d7,d8,d9,i3,e0⟩
    unfold pN at a
    refine yW ?_;exact ⟨(o,wr (j+1)),(zI a).symm,x,y,d6,d7,d8,d9,rfl,e0⟩
   refine yW ?_;obtain ⟨b,e1,a⟩:=aB a
   refine yW ?_;obtain ⟨i4,i5,e2⟩:=cR.el (sz:=3) rfl h9 e1
   cases e2
   refine yW ?_;refine bR (vs:=[i64 0,i64 0,i64 0]) zeroValue69 b3 rfl (fun Z i6 e3=>(bS (i:=0) (ns:=[i64 b.F,i64 b.B,i64 b.To]) (us:=[i64 b.F,i64 b.B,i64 b.To]) sizeOf69 e3 rfl rfl rfl rfl rfl (cS rfl) rfl rfl (fun e4 (a0:aH G K (box Z 69 [i64 b.F,i64 b.B,i64 b.To]::aJ 2 K l m d::aJ 4 K g h e::L) e4)=>?_)))
   iterate 3 refine aIQ ?_
   refine cQ (fun f w=>∃ a2,pO p d j b a2=some J/\f 0=cL a1 n/\f 1=zS a10 p.length c11/\f 7=zS g e.length h/\f 8=zS l d.length m/\f 9=i64 j/\f 10=zP (some ⟨Z,0,none⟩)/\f 41=zB a2/\aH G K (box Z 69 [i64 b.F,i64 b.B,i64 b.To]::aJ 2 K l m d::aJ 4 K g h e::L) w) ?_ ?_
   ·rintro f i7 ⟨a2,a,b4,b5,b6,e5,b7,i8,i9,b8⟩
    unfold pO at a
    refine yW ?_
    rcases aG a with ⟨e6,a⟩|⟨e6,a⟩
    ·refine yW ?_;obtain ⟨e7,e8,j0,b9,e9⟩:=aH.lendB (i:=0) b8 rfl
     refine dV (C:=fun w'=>∃ L',aH G e7 L' w') [(0,0),(1,0),(2,0),(3,0),(4,0),(5,0),(6,0),(7,0),(8,0),(9,0),(10,0),(11,0),(12,1),(13,0)] bV (by kernel_rfl) (fun _ hg=>⟨_,aH.mono b9 hg⟩) (fun j1 f0=>?_)
     have f1:=aH.mono b9 f0
     refine yW ?_;obtain ⟨j2,f2,a⟩:=aB a
     refine yW ?_;obtain ⟨j3,j4,f3⟩:=cR.el (sz:=1) rfl z f2
     cases f3
     refine yW ?_;refine gX rfl ?_
     obtain ⟨j5,j6,f4,f5,f6⟩:=aH.lendS (i:=0) f1 e8 rfl
     obtain ⟨f7,f8,a⟩:=aB a
     refine zF call154 (aDs f5 f4 f8) ?_
     rintro _ j7 ⟨f9,g0,rfl,g1⟩
     have c0:=f6 _ _ g1
     refine aX (aA ⟨⟨_,c0⟩,?_⟩)
     refine yW ?_;refine gZ ?_
     have g2:=e9 _ _ c0
     refine yW ?_;exact ⟨f7,f9,g0,a,b4,b5,b6,rfl,b7,(aH.arr 2 [] g2 rfl)⟩
    ·refine yW ?_;exact ⟨d,l,m,a,b4,b5,b6,e5,b7,(aH.arr 1 [] b8 rfl)⟩
   refine yW ?_;obtain ⟨j8,c1,a⟩:=aB a
   have g3:=cU a0 (i:=2) rfl c1
   refine aC (dB dY rfl g3 rfl rfl rfl c1) (yW ?_)
   rcases aG a with ⟨g4,a⟩|⟨g4,a⟩
   ·refine yW ?_;obtain ⟨j9,g5,g6,g7,g8⟩:=aH.lendB (i:=0) a0 rfl
    obtain ⟨g9,h0,a⟩:=aB a
    refine zF call85 (oH g7 g6 (z.mono g5) h0) ?_
    rintro _ k0 ⟨rfl,h1⟩
    have h2:=g8 _ _ h1
    refine yW ?_;exact ⟨!g9,a,a9,b0,b1,V,b2,rfl,rfl,h2⟩
   ·refine yW ?_;exact ⟨false,a,a9,b0,b1,V,b2,rfl,rfl,a0⟩
  ·refine yW ?_
   have h4:=d4 _ (zI a).symm
   subst h4
   have c:(pM d)=some R:=c
   refine yW ?_;exact ⟨d,l,m,c,V,(aH.arr 2 [0] b3 rfl)⟩
theorem aEV {t:cO} {k2:Nat} {p:(List Int)} {b0:Bool} {R:(List Int)} (hs:aH G K (L) w) (h3:fJ K a1 k2 (zC t a4 c5 a7 c8)) (h6:cR K a4 c5 t.L) (h9:cR K a7 c8 t.E) (b6:cR K a10 c11 p) (l:aCx t p b0=some R):
  Calls Tryz.prog 88 ([cL a1 k2,zS a10 p.length c11,zB b0]:List Value).toArray w (eN fun v w'=>∃ f3 f4,v=zS f3 R.length f4/\aH G K (aJ 2 K f3 f4 R::L) w'):=by
 refine zH func88 ?_;unfold aCx at l
 refine yW ?_;obtain ⟨u,l4,l⟩:=aB l
 refine zF call87 (aAc hs h3 h6 h9 b6 l4) ?_
 rintro _ v8 ⟨x,y,rfl,l5⟩
 refine yW ?_;refine bZ (Kt:=K) (xs:=([]:List (List Int))) (cs:=[]) (vs:=[]) iA aAW rfl rfl l5 rfl (by kernel_rfl) rfl rfl rfl trivial (fun f5 l6 (l7:aH G K (aJ 35 K f5 0 ([]:List (List Int))::aJ 4 K x y u::L) l6)=>(yW ?_))
 refine aZ (fun f w=>∃ c e j k,Hp.le K c/\nX p e=some R/\f 1=zS a10 p.length c11/\f 8=zS j e.length k/\aH G c (aJ 35 c j k e::L) w) ?_ ?_
 ·rintro f v9 ⟨c,e,j,k,d2,l,l8,l9,m0⟩
  unfold nX at l
  refine yW ?_;refine bZ (Kt:=K) (xs:=([]:List Int)) (cs:=[]) (vs:=[]) bY fC rfl rfl m0 rfl (by kernel_rfl) rfl rfl rfl trivial (fun f6 m1 (m2:aH G c (aJ 2 K f6 0 ([]:List Int)::aJ 35 c j k e::L) m1)=>(yW ?_))
  refine aZ (fun f w=>∃ b7 b8 b9,pP b7=some R/\f 11=zS b8 b7.length b9/\aH G c (aJ 2 K b8 b9 b7::L) w) ?_ ?_
  ·rintro f w0 ⟨b7,b8,b9,l,w1,m3⟩
   unfold pP at l
   refine yW ?_;obtain rfl:=zI l
   exact aIK results88 ⟨b8,b9,rfl,(aH.weakK m3 d2)⟩
  obtain ⟨w2,m5,l⟩:=aB l
  refine cE m5 (fun s f w=>match s with|(g,z,q)=>∃ m n,f 1=zS a10 p.length c11/\f 8=zS j e.length k/\f 11=zS m g.length n/\f 12=i64 z/\f 13=i64 q/\aH G c (aJ 2 K m n g::aJ 35 c j k e::L) w) ?_ ?_
  ·exact ⟨f6,0,l8,l9,rfl,rfl,rfl,m2⟩
  ·rintro ⟨g,z,q⟩ b2 f w3 d m6 ⟨m,n,m7,m8,f7,m9,n0,f8⟩
   replace d:xK p e g z q=some b2:=d
   unfold xK at d
   refine yW ?_
   rcases aG d with ⟨n1,d⟩|⟨n1,d⟩
   ·refine yW ?_;refine aZ (fun f w=>∃ b3 c0 c1 c2,xI q b3 c0=some b2/\f 1=zS a10 p.length c11/\f 8=zS j e.length k/\f 11=zS c1 b3.length c2/\f 12=i64 c0/\f 13=i64 q/\aH G c (aJ 2 K c1 c2 b3::aJ 35 c j k e::L) w) ?_ ?_
    ·rintro f w4 ⟨b3,c0,c1,c2,d,n2,n3,n4,n5,w5,n6⟩
     unfold xI at d
     refine yW ?_;exact ⟨(b3,c0,wr (q+1)),(zI d).symm,c1,c2,n2,n3,n4,n5,rfl,n6⟩
    refine yW ?_;refine aZ (fun f w=>∃ c3,pR g z q c3=some b2/\f 1=zS a10 p.length c11/\f 8=zS j e.length k/\f 11=zS m g.length n/\f 12=i64 z/\f 13=i64 q/\f 14=i64 c3/\aH G c (aJ 2 K m n g::aJ 35 c j k e::L) w) ?_ ?_
    ·rintro f w6 ⟨c3,d,f9,g0,g1,n7,g2,n8,g3⟩
     unfold pR at d
     iterate 1 refine aIQ ?_
     refine jR (fun f w=>∃ c4 a9,pQ g q c4 a9=some b2/\f 1=zS a10 p.length c11/\f 8=zS j e.length k/\f 11=zS m g.length n/\f 12=i64 c4/\f 13=i64 q/\f 14=i64 a9/\aH G c (aJ 2 K m n g::aJ 35 c j k e::L) w) ?_ ?_
     ·rintro f w7 ⟨c4,a9,d,n9,o0,w8,o1,o2,w9,o3⟩
      unfold pQ at d
      refine yW ?_;refine bZ (Kt:=K) (xs:=([a9]:List Int)) (cs:=[i64 a9]) (vs:=[(0,i64 a9)]) bY fC rfl rfl o3 rfl (by kernel_rfl) rfl rfl rfl ⟨rfl,trivial⟩ (fun o4 o5 (o6:aH G c (aJ 2 K o4 1 ([a9]:List Int)::aJ 2 K m n g::aJ 35 c j k e::L) o5)=>?_)
      obtain ⟨g4,o7,d⟩:=aB d
      refine dA (i:=0) bY underlying35 fC rfl rfl o6 rfl d2 d2 o7 rfl rfl rfl rfl (fun _ h=>h) (fun g5 g6 o8 (o9:aH G c (aJ 2 K g5 g6 g4::aJ 35 c j k e::L) o8)=>(yW ?_));exact ⟨g4,c4,g5,g6,d,n9,o0,rfl,o1,o2,o9⟩
     refine yW ?_
     rcases aG d with ⟨p0,d⟩|⟨p0,d⟩
     ·refine yW ?_;exact ⟨wr (z+1),z,d,f9,g0,g1,rfl,g2,rfl,g3⟩
     ·refine yW ?_;exact ⟨z,c3,d,f9,g0,g1,n7,g2,n8,g3⟩
    obtain ⟨x0,p1,d⟩:=aB d
    refine cE p1 (fun s f w=>match s with|(Z,a0)=>f 1=zS a10 p.length c11/\f 8=zS j e.length k/\f 11=zS m g.length n/\f 12=i64 z/\f 13=i64 q/\f 14=i64 Z/\f 15=i64 a0/\aH G c (aJ 2 K m n g::aJ 35 c j k e::L) w) ?_ ?_
    ·exact ⟨m7,m8,f7,m9,n0,rfl,rfl,f8⟩
    ·rintro ⟨Z,a0⟩ c6 f x1 a p2 ⟨g7,g8,g9,h0,h1,h2,h4,h5⟩
     replace a:xJ p e g q Z a0=some c6:=a
     unfold xJ at a
     iterate 2 refine aIQ ?_
     refine cQ (fun f w=>∃ d3,pU p e g q Z a0 d3=some c6/\f 1=zS a10 p.length c11/\f 8=zS j e.length k/\f 11=zS m g.length n/\f 12=i64 z/\f 13=i64 q/\f 14=i64 Z/\f 15=i64 a0/\f 59=zB d3/\aH G c (aJ 2 K m n g::aJ 35 c j k e::L) w) ?_ ?_
     ·rintro f x2 ⟨d3,a,d4,d5,d6,d7,d8,d9,h7,x3,h8⟩
      unfold pU at a
      refine yW ?_
      rcases aG a with ⟨p3,a⟩|⟨p3,a⟩
      ·refine yW ?_;refine aZ (fun f w=>∃ c7,pS a0 c7=some c6/\f 1=zS a10 p.length c11/\f 8=zS j e.length k/\f 11=zS m g.length n/\f 12=i64 z/\f 13=i64 q/\f 14=i64 c7/\f 15=i64 a0/\aH G c (aJ 2 K m n g::aJ 35 c j k e::L) w) ?_ ?_
       ·rintro f x4 ⟨c7,a,p4,p5,p6,p7,p8,p9,x5,q0⟩
        unfold pS at a
        refine yW ?_;exact ⟨(c7,wr (a0+1)),(zI a).symm,p4,p5,p6,p7,p8,p9,rfl,q0⟩
       refine yW ?_;refine cQ (fun f w=>∃ e0,pT g Z a0 e0=some c6/\f 1=zS a10 p.length c11/\f 8=zS j e.length k/\f 11=zS m g.length n/\f 12=i64 z/\f 13=i64 q/\f 14=i64 Z/\f 15=i64 a0/\f 81=zB e0/\aH G c (aJ 2 K m n g::aJ 35 c j k e::L) w) ?_ ?_
       ·rintro f x6 ⟨e0,a,i0,i1,i2,i3,i4,q1,i5,x7,e1⟩
        unfold pT at a
        refine yW ?_
        rcases aG a with ⟨q2,a⟩|⟨q2,a⟩
        ·refine yW ?_;obtain ⟨q3,i6,a⟩:=aB a
         have q4:=cU e1 (i:=0) rfl i6
         refine aC (dB bY rfl q4 rfl rfl rfl i6) (yW ?_);exact ⟨q3,a,i0,i1,i2,i3,i4,rfl,i5,e1⟩
        ·refine yW ?_;exact ⟨Z,a,i0,i1,i2,i3,i4,q1,i5,e1⟩
       obtain ⟨q5,x8,e2,b4,i7⟩:=aH.lendS (i:=1) h8 (zR _) rfl
       refine dF (C:=fun w'=>aH G q5 (aJ 2 K m n g::L) w') bV (by kernel_rfl) (aH.mono b4 (dG.drew _)) (yW ?_);obtain ⟨x9,q6,a⟩:=aB a
       refine yW ?_;obtain ⟨y0,y1,q7⟩:=cR.el (sz:=1) rfl b6 q6
       cases q7
       refine yW ?_;obtain ⟨y2,q8,a⟩:=aB a
       refine yW ?_;obtain ⟨y3,y4,q9⟩:=cR.el (sz:=1) rfl b6 q8
       cases q9
       refine yW ?_
       rcases aG a with ⟨r0,a⟩|⟨r0,a⟩
       ·refine yW ?_;obtain ⟨r1,e3,a⟩:=aB a
        have i8:=aCU e2 e3
        refine aU (fun _ b4=>dB iA rfl i8 rfl rfl rfl e3) (yW ?_);obtain ⟨y5,y6,r2⟩:=cR.el (sz:=1) rfl e2 e3
        obtain ⟨r3,r4,rfl,r5⟩:=r2
        refine yW ?_;obtain ⟨r6,i9,a⟩:=aB a
        refine aU (fun _ b4=>dB iA rfl i8 rfl rfl rfl i9) (yW ?_);obtain ⟨y7,y8,r7⟩:=cR.el (sz:=1) rfl e2 i9
        obtain ⟨r8,r9,rfl,s0⟩:=r7
        refine yW ?_;obtain ⟨j0,s1,a⟩:=aB a
        refine jO (vs:=[zS r3 r1.length r4,zS r8 r6.length r9]) (v:=zB j0) call54 rfl (fun _ b4=>(mE b4 r5 s0 s1)) (yW ?_);refine dI (fun y9 s2=>?_)
        have s3:=i7 _ _ s2
        refine yW ?_;exact ⟨j0,a,d4,d5,d6,d7,d8,d9,h7,rfl,(aH.arr 2 [1,0] s3 rfl)⟩
       ·refine yW ?_;refine dI (fun z0 s4=>?_)
        have s5:=i7 _ _ s4
        refine yW ?_;exact ⟨false,a,d4,d5,d6,d7,d8,d9,h7,rfl,(aH.arr 2 [1,0] s5 rfl)⟩
      ·refine yW ?_
       have s6:=p2 _ (zI a).symm
       subst s6
       have d:(pR g z q Z)=some b2:=d
       refine yW ?_;exact ⟨Z,d,d4,d5,d6,d7,d8,d9,h8⟩
     refine yW ?_
     rcases aG a with ⟨s7,a⟩|⟨s7,a⟩
     ·refine yW ?_;exact ⟨decide (Z < 0),a,g7,g8,g9,h0,h1,h2,h4,rfl,h5⟩
     ·refine yW ?_;exact ⟨false,a,g7,g8,g9,h0,h1,h2,h4,rfl,h5⟩
   ·refine yW ?_
    have s8:=m6 _ (zI d).symm
    subst s8
    have l:(pP g)=some R:=l
    refine yW ?_;exact ⟨g,m,n,l,f7,(aH.arr 2 [0] f8 rfl)⟩
 obtain ⟨z1,s9,l⟩:=aB l
 refine cE s9 (fun s f w=>match s with|(r,a6)=>∃ o J V,Hp.le K o/\f 0=cL a1 k2/\f 1=zS a10 p.length c11/\f 2=zB b0/\f 7=zS x u.length y/\f 8=zS J r.length V/\f 9=i64 a6/\aH G o (aJ 35 o J V r::aJ 4 K x y u::L) w) ?_ ?_
 ·exact ⟨K,f5,0,(zR _),rfl,rfl,rfl,rfl,rfl,rfl,l7⟩
 ·rintro ⟨r,a6⟩ e4 f z2 b t0 ⟨o,J,V,a8,j1,e5,j2,j3,e6,j4,j5⟩
  replace b:uI t p b0 u r a6=some e4:=b
  unfold uI at b
  refine yW ?_
  rcases aG b with ⟨t1,b⟩|⟨t1,b⟩
  ·refine yW ?_;refine cT (yW ?_)
   obtain ⟨b5,t2,b⟩:=aB b
   refine zF call125 (aEU j5 (h3.mono a8) (h6.mono a8) (h9.mono a8) (b6.mono a8) t2) ?_
   rintro _ z3 ⟨c9,d0,rfl,e7⟩
   iterate 3 refine aIQ ?_
   refine jR (fun f w=>∃ a2 a3 a5,nY r a6 a2=some e4/\f 0=cL a1 k2/\f 1=zS a10 p.length c11/\f 2=zB b0/\f 7=zS x u.length y/\f 8=zS J r.length V/\f 9=i64 a6/\f 10=zS a3 a2.length a5/\aH G o (aJ 2 K a3 a5 a2::aJ 35 o J V r::aJ 4 K x y u::L) w) ?_ ?_
   ·rintro f t3 ⟨a2,a3,a5,b,t4,t5,t6,t7,z4,z5,z6,t8⟩
    unfold nY at b
    refine yW ?_
    have t9:aH G o (rows [2] ([(a3,a5)]:List (Dp.Hd (List Int))) [a2]::aJ 35 o J V r::aJ 4 K x y u::L) t3:=aH.rowsOne t8
    refine bZ (Kt:=K) (xs:=dC ([(a3,a5)]:List (Dp.Hd (List Int))) ([a2]:List (List Int))) (cs:=[zS a3 a2.length a5]) (vs:=[(0,zS a3 a2.length a5)]) iA aAW rfl rfl t9 rfl (by kernel_rfl) rfl rfl rfl ⟨rfl,trivial⟩ ?_
    intro u0 j6 (u1:aH G o (aJ 35 K u0 1 (dC ([(a3,a5)]:List (Dp.Hd (List Int))) ([a2]:List (List Int)))::rows [2] ([(a3,a5)]:List (Dp.Hd (List Int))) ([a2]:List (List Int))::aJ 35 o J V r::aJ 4 K x y u::L) j6)
    obtain ⟨d1,j7,u2,_,e8,_⟩:=aH.lendD' (i:=0) u1 rfl rfl rfl
    replace e8:aH G d1 (aJ 35 o J V r::aJ 4 K x y u::L) j6:=e8
    obtain ⟨j8,u3,b⟩:=aB b
    refine iK (i:=0) iA underlying53 aAW rfl rfl e8 rfl j7 u2 u3 rfl rfl rfl rfl (fun j9 k0 u4 (u5:aH G d1 (aJ 35 d1 j9 k0 j8::aJ 4 K x y u::L) u4)=>(yW ?_));exact ⟨(j8,wr (a6+1)),(zI b).symm,d1,j9,k0,(zL a8 j7),t4,t5,t6,t7,rfl,rfl,u5⟩
   iterate 1 refine aIQ ?_
   refine cQ (fun f w=>∃ e9,nZ r a6 b5 e9=some e4/\f 0=cL a1 k2/\f 1=zS a10 p.length c11/\f 2=zB b0/\f 7=zS x u.length y/\f 8=zS J r.length V/\f 9=i64 a6/\f 10=zS c9 b5.length d0/\f 38=zB e9/\aH G o (aJ 2 K c9 d0 b5::aJ 35 o J V r::aJ 4 K x y u::L) w) ?_ ?_
   ·rintro f z7 ⟨e9,b,k1,k3,k4,k5,k6,k7,u6,z8,k8⟩
    unfold nZ at b
    refine yW ?_
    rcases aG b with ⟨u7,b⟩|⟨u7,b⟩
    ·refine yW ?_;refine bZ (Kt:=K) (xs:=([(-1)]:List Int)) (cs:=[i64 (-1)]) (vs:=[(0,i64 (-1))]) bY fC rfl rfl k8 rfl (by kernel_rfl) rfl rfl rfl ⟨rfl,trivial⟩ (fun u8 u9 (v0:aH G o (aJ 2 K u8 1 ([(-1)]:List Int)::aJ 2 K c9 d0 b5::aJ 35 o J V r::aJ 4 K x y u::L) u9)=>?_)
     obtain ⟨k9,v1,b⟩:=aB b
     refine dA (i:=0) bY underlying35 fC rfl rfl v0 rfl a8 a8 v1 rfl rfl rfl rfl (fun _ h=>h) (fun l0 l1 v2 (v3:aH G o (aJ 2 K l0 l1 k9::aJ 35 o J V r::aJ 4 K x y u::L) v2)=>(yW ?_));exact ⟨k9,l0,l1,b,k1,k3,k4,k5,k6,k7,rfl,v3⟩
    ·refine yW ?_;exact ⟨b5,c9,d0,b,k1,k3,k4,k5,k6,k7,u6,k8⟩
   refine yW ?_
   rcases aG b with ⟨v4,b⟩|⟨v4,b⟩
   ·refine yW ?_;obtain ⟨v5,l2,b⟩:=aB b
    have v6:=cU e7 (i:=2) rfl l2
    refine aC (dB dY rfl v6 rfl rfl rfl l2) (yW ?_);exact ⟨v5,b,j1,e5,j2,j3,e6,j4,rfl,rfl,e7⟩
   ·refine yW ?_;exact ⟨false,b,j1,e5,j2,j3,e6,j4,rfl,rfl,e7⟩
  ·refine yW ?_
   have v7:=t0 _ (zI b).symm
   subst v7
   have l:(nX p r)=some R:=l
   refine yW ?_;exact ⟨o,r,J,V,a8,l,e5,e6,(aH.arr 2 [0] j5 rfl)⟩
theorem aGi {t:cO} {j:Nat} {d:Bool} {R:(List Int)} (q:aH G K (L) w) (r:fJ K a1 j (zC t a4 c5 a7 c8)) (u:cR K a4 c5 t.L) (x:cR K a7 c8 t.E) (b:aEI t d=some R):
  Calls Tryz.prog 50 ([cL a1 j,zB d]:List Value).toArray w (eN fun v w'=>∃ m n,v=zS m R.length n/\aH G K (aJ 2 K m n R::L) w'):=by
 refine zH func50 ?_;unfold aEI at b
 refine yW ?_;obtain ⟨k,y,b⟩:=aB b
 refine wS (e:=(0:Int)) bY fC rfl rfl q rfl rfl rfl y rfl (fun o z (J:aH G K (aJ 2 K o k.length k::L) z)=>(yW ?_));refine cT ?_
 obtain ⟨d2,V,b⟩:=aB b
 refine cE V (fun (c:List Int) f w=>∃ g h,f 0=cL a1 j/\f 1=zB d/\f 5=zS g c.length h/\aH G K (aJ 2 K g h c::L) w) ?_ ?_
 ·exact ⟨o,k.length,rfl,rfl,rfl,J⟩
 ·rintro c Z f d3 a a0 ⟨g,h,a2,a3,d4,a5⟩
  replace a:aBw t d c=some Z:=a
  unfold aBw at a
  refine cT (yW ?_);obtain ⟨d5,l,a6,a8,a9⟩:=aH.lendS (i:=0) a5 (zR _) rfl
  obtain ⟨b0,b1,a⟩:=aB a
  refine zF call88 (aEV a8 (r.mono l) (u.mono l) (x.mono l) a6 b1) ?_
  rintro _ d6 ⟨b2,b3,rfl,b4⟩
  have b5:=a9 _ _ b4
  refine yW ?_;obtain ⟨d7,b6,b7,b8,b9⟩:=aH.lendS (i:=1) b5 (zR _) rfl
  obtain ⟨d8,c0,c1,c2,c3⟩:=aH.lendS (i:=0) b8 b6 rfl
  obtain ⟨d9,c4,a⟩:=aB a
  refine zF call54 (mE c2 (b7.mono c0) c1 c4) ?_
  rintro _ e0 ⟨rfl,c6⟩
  have c7:=c3 _ _ c6
  have p:=b9 _ _ c7
  refine yW ?_
  rcases aG a with ⟨c9,a⟩|⟨c9,a⟩
  ·refine yW ?_;refine bK (aW (cA (aW ?_)))
   have d0:=a0 _ (zI a).symm
   subst d0
   have b:(some c)=some R:=b
   obtain rfl:=zI b
   exact cA (bM results50 rfl ⟨g,h,rfl,(aH.arr 1 [] p rfl)⟩)
  ·refine yW ?_;exact ⟨b0,(zI a).symm,b2,b3,a2,a3,rfl,(aH.arr 2 [0] p rfl)⟩
theorem aCc {t:cO} {r:Nat} {u:Bool} {R:cO} (hs:aH G K (L) w) (x:fJ K a1 r (zC t a4 c5 a7 c8)) (y:cR K a4 c5 t.L) (z:cR K a7 c8 t.E) (c:aBx t u=some R):
  Calls Tryz.prog 21 ([cL a1 r,zB u]:List Value).toArray w (eN fun v w'=>∃ J V Z a0,v=Value.agg (zCa R J V Z a0)/\aH G K (aJ 9 K J V R.L::aJ 69 K Z a0 R.E::L) w'):=by
 let n:=zG
 refine zH func21 ?_;unfold aBx at c
 refine yW ?_;refine bR (vs:=n) zeroValue27 hs rfl (fun a2 g7 b4=>(yW ?_))
 obtain ⟨a3,b5,c⟩:=aB c
 refine zF call46 (uR b4 x y z b5) ?_
 rintro _ g8 ⟨a5,a6,rfl,b6⟩
 obtain ⟨g9,o,b7,b8,b9⟩:=aH.lendS (i:=0) b6 (zR _) rfl
 obtain ⟨a,c0,c⟩:=aB c
 refine zF call45 (yA b8 (x.mono o) (y.mono o) (z.mono o) b7 c0) ?_
 rintro _ h0 ⟨d,e,g,h,rfl,c1⟩
 have c2:=b9 _ _ c1
 refine bR (vs:=n) zeroValue27 c2 rfl (fun a8 h1 c3=>(bS (i:=0) (ns:=(zC a d e g h)) (us:=(zC a d e g h)) sizeOf27 c3 rfl rfl rfl rfl rfl (cS rfl) rfl rfl (fun c4 (c6:aH G K (box a8 27 (zC a d e g h)::aJ 2 K a5 a6 a3::aJ 9 K d e a.L::aJ 69 K g h a.E::box a2 27 n::L) c4)=>(yW ?_))));obtain ⟨h2,c7,c9,d0,d1⟩:=aH.lendS (i:=2) c6 (zR _) rfl
 obtain ⟨h4,d2,d3,d4,d5⟩:=aH.lendS (i:=2) d0 c7 rfl
 obtain ⟨h5,a9,d6,d7,d8⟩:=aH.lendB (i:=0) d4 rfl
 obtain ⟨d9,e0,c⟩:=aB c
 refine zF call50 (aGi d7 d6 (c9.mono (zL d2 a9)) (d3.mono a9) e0) ?_
 rintro _ h7 ⟨e1,e2,rfl,e3⟩
 have e4:=d8 _ _ e3
 have e5:=d5 _ _ e4
 have e6:=d1 _ _ e5
 refine yW ?_;obtain ⟨h8,b0,e7,e8,e9⟩:=aH.lendS (i:=0) e6 (zR _) rfl
 obtain ⟨i0,b1,f0,f1,f2⟩:=aH.lendS (i:=0) e8 b0 rfl
 obtain ⟨i1,p,f3,f4,f5⟩:=aH.lendB (i:=0) f1 rfl
 obtain ⟨i2,q,f6,f7,f8⟩:=aH.lendS (i:=0) f4 (zL (zL b0 b1) p) rfl
 obtain ⟨b,f9,c⟩:=aB c
 refine zF call49 (yB f7 (f3.mono q) (e7.mono (zL (zL b1 p) q)) (f0.mono (zL p q)) f6 f9) ?_
 rintro _ i3 ⟨j,k,l,m,rfl,g0⟩
 have g1:=f8 _ _ g0
 have g2:=f5 _ _ g1
 have g3:=f2 _ _ g2
 have g4:=e9 _ _ g3
 refine bS (i:=7) (ns:=(zC b j k l m)) (us:=(zC b j k l m)) sizeOf27 g4 rfl rfl rfl rfl rfl (cS rfl) rfl rfl (fun g5 (b2:aH G K (aJ 9 K d e a.L::aJ 69 K g h a.E::box a8 27 (zC a d e g h)::aJ 2 K e1 e2 d9::aJ 9 K j k b.L::aJ 69 K l m b.E::aJ 2 K a5 a6 a3::box a2 27 (zC b j k l m)::L) g5)=>(yW ?_));obtain rfl:=zI c
 exact bK (mG results21 (dM (vs:=(zC b j k l m)) rfl cZ b2 (i:=7) rfl rfl rfl) ⟨j,k,l,m,rfl,(aH.arr 8 [4,5] b2 rfl)⟩)
theorem aFp {n:Int} {m R:(List Bool)} (hs:aH G K (aJ 4 K a1 c2 m::L) w) (d:aDF n m=some R):
  Calls Tryz.prog 155 ([i64 n,zS a1 m.length c2]:List Value).toArray w (eN fun v w'=>v=Value.tuple #[]/\m.length=R.length/\aH G K (aJ 4 K a1 c2 R::L) w'):=by
 refine zH func155 ?_;unfold aDF at d
 refine yW ?_;refine aZ (fun f w=>∃ J,pV n J=some R/\f 0=i64 n/\f 1=zS a1 J.length c2/\m.length=J.length/\aH G K (aJ 4 K a1 c2 J::L) w) ?_ ?_
 ·rintro f w7 ⟨J,d,e5,e6,d5,d6⟩
  unfold pV at d
  refine yW ?_;refine aZ (fun f w=>∃ V,sT V=some R/\m.length=V.length/\aH G K (aJ 4 K a1 c2 V::L) w) ?_ ?_
  ·rintro f j7 ⟨V,d,d7,d8⟩
   unfold sT at d
   obtain rfl:=zI d
   exact aFB results155 ⟨rfl,d7,d8⟩
  obtain ⟨j8,e0,d⟩:=aB d
  refine cE e0 (fun s f w=>match s with|(o,e)=>f 0=i64 n/\f 1=zS a1 o.length c2/\f 5=i64 e/\m.length=o.length/\aH G K (aJ 4 K a1 c2 o::L) w) ?_ ?_
  ·exact ⟨e5,e6,rfl,d5,d6⟩
  ·rintro ⟨o,e⟩ Z f j9 c e1 ⟨e2,e3,e4,b9,c0⟩
   replace c:aAz n o e=some Z:=c
   unfold aAz at c
   refine yW ?_
   rcases aG c with ⟨e7,c⟩|⟨e7,c⟩
   ·refine yW ?_;refine aZ (fun f w=>∃ q,aAw e q=some Z/\f 0=i64 n/\f 1=zS a1 q.length c2/\f 5=i64 e/\m.length=q.length/\aH G K (aJ 4 K a1 c2 q::L) w) ?_ ?_
    ·rintro f k0 ⟨q,c,e8,e9,k1,f0,f1⟩
     unfold aAw at c
     refine yW ?_;exact ⟨(q,wr (e+1)),(zI c).symm,e8,e9,rfl,f0,f1⟩
    refine yW ?_;refine aZ (fun f w=>∃ r,sU e r=some Z/\f 0=i64 n/\f 1=zS a1 r.length c2/\f 5=i64 e/\m.length=r.length/\aH G K (aJ 4 K a1 c2 r::L) w) ?_ ?_
    ·rintro f k2 ⟨r,c,f2,f3,f4,f5,f6⟩
     unfold sU at c
     refine yW ?_;exact ⟨r,c,f2,f3,f4,f5,f6⟩
    obtain ⟨k3,f7,c⟩:=aB c
    refine cE f7 (fun s f w=>match s with|(k,g)=>f 0=i64 n/\f 1=zS a1 k.length c2/\f 5=i64 e/\f 6=i64 g/\m.length=k.length/\aH G K (aJ 4 K a1 c2 k::L) w) ?_ ?_
    ·exact ⟨e2,e3,e4,rfl,b9,c0⟩
    ·rintro ⟨k,g⟩ a0 f k4 a f8 ⟨a4,a5,a6,c1,a7,a2⟩
     replace a:aAy n e k g=some a0:=a
     unfold aAy at a
     refine yW ?_
     rcases aG a with ⟨f9,a⟩|⟨f9,a⟩
     ·refine yW ?_;refine aZ (fun f w=>∃ u,sV g u=some a0/\f 0=i64 n/\f 1=zS a1 u.length c2/\f 5=i64 e/\f 6=i64 g/\m.length=u.length/\aH G K (aJ 4 K a1 c2 u::L) w) ?_ ?_
      ·rintro f k5 ⟨u,a,g0,g1,g2,k6,g3,g4⟩
       unfold sV at a
       refine yW ?_;exact ⟨(u,wr (g+1)),(zI a).symm,g0,g1,g2,rfl,g3,g4⟩
      refine yW ?_;obtain ⟨k7,c3,a⟩:=aB a
      have a8:=cU a2 (i:=0) rfl c3
      refine aC (dB dY rfl a8 rfl rfl rfl c3) (yW ?_)
      rcases aG a with ⟨g5,a⟩|⟨g5,a⟩
      ·refine yW ?_;exact ⟨k,a,a4,a5,a6,c1,a7,a2⟩
      ·refine yW ?_;refine aZ (fun f w=>∃ x,sW g x=some a0/\f 0=i64 n/\f 1=zS a1 x.length c2/\f 5=i64 e/\f 6=i64 g/\m.length=x.length/\aH G K (aJ 4 K a1 c2 x::L) w) ?_ ?_
       ·rintro f k8 ⟨x,a,g6,g7,g8,g9,h0,h1⟩
        unfold sW at a
        refine yW ?_;exact ⟨x,a,g6,g7,g8,g9,h0,h1⟩
       obtain ⟨k9,h2,a⟩:=aB a
       refine cE h2 (fun s f w=>match s with|(l,y)=>f 0=i64 n/\f 1=zS a1 l.length c2/\f 5=i64 e/\f 6=i64 g/\f 7=i64 y/\m.length=l.length/\aH G K (aJ 4 K a1 c2 l::L) w) ?_ ?_
       ·exact ⟨a4,a5,a6,c1,rfl,a7,a2⟩
       ·rintro ⟨l,y⟩ c4 f l0 b h3 ⟨a9,b0,b1,b2,c5,b3,b4⟩
        replace b:aAx n e g l y=some c4:=b
        unfold aAx at b
        refine yW ?_
        rcases aG b with ⟨h4,b⟩|⟨h4,b⟩
        ·refine yW ?_;refine aZ (fun f w=>∃ z,sX y z=some c4/\f 0=i64 n/\f 1=zS a1 z.length c2/\f 5=i64 e/\f 6=i64 g/\f 7=i64 y/\m.length=z.length/\aH G K (aJ 4 K a1 c2 z::L) w) ?_ ?_
         ·rintro f l1 ⟨z,b,h5,h6,h7,h8,l2,h9,i0⟩
          unfold sX at b
          refine yW ?_;exact ⟨(z,wr (y+1)),(zI b).symm,h5,h6,h7,h8,rfl,h9,i0⟩
         refine yW ?_;obtain ⟨l3,i1,b⟩:=aB b
         refine aC (dB dY rfl a8 rfl rfl rfl i1) (yW ?_)
         rcases aG b with ⟨i2,b⟩|⟨i2,b⟩
         ·refine yW ?_;obtain ⟨l4,c6,b⟩:=aB b
          refine aC (dB dY rfl a8 rfl rfl rfl c6) ?_;obtain ⟨c7,b5,b⟩:=aB b
          refine iH (i:=0) (t:=0) (ns:=[zB true]) (e':=(true:Bool)) sizeOf4 b4 rfl (zR _) rfl rfl rfl c6 b5 rfl rfl (cS rfl) rfl (fun cs h=>by cases h;rfl) (fun i3 (i4:aH G K (aJ 4 K a1 c2 c7::L) i3)=>(yW ?_));exact ⟨c7,b,a9,(Eq.trans b0 (congrArg (fun n=>zS a1 n c2) (gN b5))),b1,b2,c5,(b3.trans (gN b5)),i4⟩
         ·refine yW ?_;exact ⟨l,b,a9,b0,b1,b2,c5,b3,b4⟩
        ·refine yW ?_
         have i5:=h3 _ (zI b).symm
         subst i5
         have a:(sW g l)=some a0:=a
         refine yW ?_;exact ⟨l,a,a9,b0,b1,b2,b3,b4⟩
     ·refine yW ?_
      have i6:=f8 _ (zI a).symm
      subst i6
      have c:(sU e k)=some Z:=c
      refine yW ?_;exact ⟨k,c,a4,a5,a6,a7,a2⟩
   ·refine yW ?_
    have i7:=e1 _ (zI c).symm
    subst i7
    have d:(sT o)=some R:=d
    refine yW ?_;exact ⟨o,d,b9,c0⟩
 obtain ⟨l5,i8,d⟩:=aB d
 refine cE i8 (fun s f w=>match s with|(p,a3)=>f 0=i64 n/\f 1=zS a1 p.length c2/\f 4=i64 a3/\m.length=p.length/\aH G K (aJ 4 K a1 c2 p::L) w) ?_ ?_
 ·exact ⟨rfl,rfl,rfl,rfl,hs⟩
 ·rintro ⟨p,a3⟩ i9 f l6 j j0 ⟨c8,c9,l7,d0,b6⟩
  replace j:xL n p a3=some i9:=j
  unfold xL at j
  refine yW ?_
  rcases aG j with ⟨j1,j⟩|⟨j1,j⟩
  ·refine yW ?_;refine cT (yW ?_)
   obtain ⟨l8,b7,j⟩:=aB j
   have j2:=cU b6 (i:=0) rfl b7
   refine aC (dB dY rfl j2 rfl rfl rfl b7) ?_;obtain ⟨d1,b8,j⟩:=aB j
   refine iH (i:=0) (t:=0) (ns:=[zB true]) (e':=(true:Bool)) sizeOf4 b6 rfl (zR _) rfl rfl rfl b7 b8 rfl rfl (cS rfl) rfl (fun cs h=>by cases h;rfl) (fun j3 (j4:aH G K (aJ 4 K a1 c2 d1::L) j3)=>(yW ?_));exact ⟨(d1,wr (a3+1)),(zI j).symm,c8,(Eq.trans c9 (congrArg (fun n=>zS a1 n c2) (gN b8))),rfl,(d0.trans (gN b8)),j4⟩
  ·refine yW ?_
   have j5:=j0 _ (zI j).symm
   subst j5
   have d:(pV n p)=some R:=d
   refine yW ?_;exact ⟨p,d,c8,c9,d0,b6⟩
theorem aFq {t:cO} {l:Nat} {R:(List Bool)} (hs:aH G K (L) w) (h3:fJ K a1 l (zC t a4 c5 a7 c8)) (h6:cR K a4 c5 t.L) (h9:cR K a7 c8 t.E) (b:aDG t=some R):
  Calls Tryz.prog 126 ([cL a1 l]:List Value).toArray w (eN fun v w'=>∃ u x,v=zS u R.length x/\aH G K (aJ 4 K u x R::L) w'):=by
 refine zH func126 ?_;unfold aDG at b
 refine yW ?_;obtain ⟨c,a5,b⟩:=aB b
 refine wS (e:=(false:Bool)) dY ez_4 rfl rfl hs rfl rfl rfl a5 rfl (fun d a6 (a8:aH G K (aJ 4 K d c.length c::L) a6)=>(yW ?_));refine aZ (fun f w=>∃ m,sY t m=some R/\f 3=i64 t.N/\f 4=zS d m.length c.length/\aH G K (aJ 4 K d c.length m::L) w) ?_ ?_
 ·rintro f d5 ⟨m,b,d6,a9,b0⟩
  unfold sY at b
  refine yW ?_;obtain ⟨b1,b2,b⟩:=aB b
  refine zF call155 (aFp b0 b2) ?_
  rintro _ d7 ⟨rfl,b3,b4⟩
  iterate 4 refine aIQ ?_
  refine aO (v:=zS d b1.length c.length) (Eq.trans a9 (congrArg (fun n=>zS d n c.length) b3)) (yW ?_);obtain rfl:=zI b
  exact aIK results126 ⟨d,c.length,rfl,b4⟩
 obtain ⟨d8,b6,b⟩:=aB b
 refine cE b6 (fun s f w=>match s with|(g,j)=>f 0=cL a1 l/\f 3=i64 t.N/\f 4=zS d g.length c.length/\f 5=i64 j/\aH G K (aJ 4 K d c.length g::L) w) ?_ ?_
 ·exact ⟨rfl,rfl,rfl,rfl,a8⟩
 ·rintro ⟨g,j⟩ y f d9 a b7 ⟨z,p,q,J,o⟩
  replace a:aAA t g j=some y:=a
  unfold aAA at a
  refine yW ?_
  rcases aG a with ⟨b8,a⟩|⟨b8,a⟩
  ·refine yW ?_;refine aZ (fun f w=>∃ k,sZ j k=some y/\f 0=cL a1 l/\f 3=i64 t.N/\f 4=zS d k.length c.length/\f 5=i64 j/\aH G K (aJ 4 K d c.length k::L) w) ?_ ?_
   ·rintro f e0 ⟨k,a,b9,c0,c1,e1,c2⟩
    unfold sZ at a
    refine yW ?_;exact ⟨(k,wr (j+1)),(zI a).symm,b9,c0,c1,rfl,c2⟩
   refine yW ?_;obtain ⟨e2,c3,a⟩:=aB a
   refine yW ?_;obtain ⟨e3,e4,c4⟩:=cR.el (sz:=3) rfl h9 c3
   cases c4
   refine yW ?_
   rcases aG a with ⟨c6,a⟩|⟨c6,a⟩
   ·refine yW ?_;refine dV (C:=fun w'=>∃ L',aH G K L' w') [(0,0),(1,0),(2,0),(3,0),(4,0),(5,0),(6,0),(7,0),(8,0),(9,0),(10,0),(11,0),(12,0),(13,0),(14,0),(15,0),(16,0),(17,0),(18,0),(19,0),(20,0),(21,2)] bV (by kernel_rfl) (fun _ hg=>⟨_,aH.mono o hg⟩) (fun e5 c7=>?_)
    have V:=aH.mono o c7
    refine yW ?_;obtain ⟨e6,r,a⟩:=aB a
    have c9:=cU V (i:=0) rfl r
    refine bX rfl (fun _ _=>dB dY rfl c9 rfl rfl rfl r) (aCl rfl ?_);obtain ⟨Z,a0,a⟩:=aB a
    refine iH (i:=0) (t:=0) (ns:=[zB true]) (e':=(true:Bool)) sizeOf4 V rfl (zR _) rfl rfl rfl r a0 rfl rfl (cS rfl) rfl (fun cs h=>by cases h;rfl) (fun d0 (d1:aH G K (aJ 4 K d c.length Z::L) d0)=>(yW ?_));refine gZ (yW ?_)
    exact ⟨Z,a,z,p,(Eq.trans q (congrArg (fun n=>zS d n c.length) (gN a0))),J,d1⟩
   ·refine yW ?_;exact ⟨g,a,z,p,q,J,o⟩
  ·refine yW ?_
   have d2:=b7 _ (zI a).symm
   subst d2
   have b:(sY t g)=some R:=b
   refine yW ?_;exact ⟨g,b,p,q,o⟩
theorem aGj {t:cO} {r:Nat} {k:(List Bool)} {o q:Int} {R:(List Bool)} (hs:aH G K (L) w) (h3:fJ K a1 r (zC t a4 c5 a7 c8)) (h6:cR K a4 c5 t.L) (h9:cR K a7 c8 t.E) (a8:cR K a10 c11 k) (g:aEJ t k o q=some R):
  Calls Tryz.prog 127 ([cL a1 r,zS a10 k.length c11,i64 o,i64 q]:List Value).toArray w (eN fun v w'=>∃ c1 c2,v=zS c1 R.length c2/\aH G K (aJ 4 K c1 c2 R::L) w'):=by
 refine zH func127 ?_;unfold aEJ at g
 refine yW ?_;obtain ⟨b,f3,g⟩:=aB g
 refine wS (e:=(false:Bool)) dY ez_4 rfl rfl hs rfl rfl rfl f3 rfl (fun c f4 (c3:aH G K (aJ 4 K c b.length b::L) f4)=>(yW ?_))
 rcases aG g with ⟨f5,g⟩|⟨f5,g⟩
 ·refine yW ?_;refine aZ (fun f w=>∃ a2,vO a2=some R/\f 10=zS c a2.length b.length/\aH G K (aJ 4 K c b.length a2::L) w) ?_ ?_
  ·rintro f m7 ⟨a2,g,m8,f6⟩
   unfold vO at g
   refine yW ?_;obtain rfl:=zI g
   exact bK (aW (bM results127 rfl ⟨c,b.length,rfl,f6⟩))
  obtain ⟨m9,f8,g⟩:=aB g
  refine cE f8 (fun s f w=>match s with|(y,a3)=>f 1=zS a10 k.length c11/\f 2=i64 o/\f 9=i64 t.N/\f 10=zS c y.length b.length/\f 11=i64 a3/\aH G K (aJ 4 K c b.length y::L) w) ?_ ?_
  ·exact ⟨rfl,rfl,rfl,rfl,rfl,c3⟩
  ·rintro ⟨y,a3⟩ f9 f n0 l g0 ⟨g1,g2,g3,c4,n1,a9⟩
   replace l:aBy t k o y a3=some f9:=l
   unfold aBy at l
   refine yW ?_
   rcases aG l with ⟨g4,l⟩|⟨g4,l⟩
   ·refine yW ?_;refine cT (yW ?_)
    obtain ⟨c6,g5,l⟩:=aB l
    refine yW ?_;obtain ⟨n2,n3,g6⟩:=cR.el (sz:=1) rfl a8 g5
    cases g6
    refine yW ?_;obtain ⟨n4,b0,l⟩:=aB l
    have g7:=cU a9 (i:=0) rfl b0
    refine aC (dB dY rfl g7 rfl rfl rfl b0) ?_;obtain ⟨c7,c9,l⟩:=aB l
    refine iH (i:=0) (t:=0) (ns:=[zB c6]) (e':=(c6:Bool)) sizeOf4 a9 rfl (zR _) rfl rfl rfl b0 c9 rfl rfl (cS rfl) rfl (fun cs h=>by cases h;rfl) (fun g8 (g9:aH G K (aJ 4 K c b.length c7::L) g8)=>(yW ?_));exact ⟨(c7,wr (a3+1)),(zI l).symm,g1,g2,g3,(Eq.trans c4 (congrArg (fun n=>zS c n b.length) (gN c9))),rfl,g9⟩
   ·refine yW ?_
    have h0:=g0 _ (zI l).symm
    subst h0
    have g:(vO y)=some R:=g
    refine yW ?_;exact ⟨y,g,c4,a9⟩
 ·refine yW ?_;refine aZ (fun f w=>∃ a5,vP a5=some R/\f 10=zS c a5.length b.length/\aH G K (aJ 4 K c b.length a5::L) w) ?_ ?_
  ·rintro f n5 ⟨a5,g,n6,h1⟩
   unfold vP at g
   refine yW ?_;obtain rfl:=zI g
   exact aIK results127 ⟨c,b.length,rfl,h1⟩
  obtain ⟨n7,h4,g⟩:=aB g
  refine cE h4 (fun s f w=>match s with|(p,m)=>f 0=cL a1 r/\f 1=zS a10 k.length c11/\f 2=i64 o/\f 3=i64 q/\f 9=i64 t.N/\f 10=zS c p.length b.length/\f 12=i64 m/\aH G K (aJ 4 K c b.length p::L) w) ?_ ?_
  ·exact ⟨rfl,rfl,rfl,rfl,rfl,rfl,rfl,c3⟩
  ·rintro ⟨p,m⟩ J f n8 a h5 ⟨d0,d1,d2,d3,d4,b1,d5,d6⟩
   replace a:aBA t k o q p m=some J:=a
   unfold aBA at a
   refine yW ?_
   rcases aG a with ⟨h7,a⟩|⟨h7,a⟩
   ·refine yW ?_;refine aZ (fun f w=>∃ V,vQ m V=some J/\f 0=cL a1 r/\f 1=zS a10 k.length c11/\f 2=i64 o/\f 3=i64 q/\f 9=i64 t.N/\f 10=zS c V.length b.length/\f 12=i64 m/\aH G K (aJ 4 K c b.length V::L) w) ?_ ?_
    ·rintro f n9 ⟨V,a,h8,i0,i1,i2,i3,i4,o0,i5⟩
     unfold vQ at a
     refine yW ?_;exact ⟨(V,wr (m+1)),(zI a).symm,h8,i0,i1,i2,i3,i4,rfl,i5⟩
    refine yW ?_;obtain ⟨d,i6,a⟩:=aB a
    refine yW ?_;obtain ⟨o1,o2,i7⟩:=cR.el (sz:=3) rfl h9 i6
    cases i7
    refine yW ?_;refine bR (vs:=[i64 0,i64 0,i64 0]) zeroValue69 d6 rfl (fun u o3 i8=>(bS (i:=0) (ns:=[i64 d.F,i64 d.B,i64 d.To]) (us:=[i64 d.F,i64 d.B,i64 d.To]) sizeOf69 i8 rfl rfl rfl rfl rfl (cS rfl) rfl rfl (fun i9 (d7:aH G K (box u 69 [i64 d.F,i64 d.B,i64 d.To]::aJ 4 K c b.length p::L) i9)=>?_)))
    iterate 4 refine aIQ ?_
    refine cQ (fun f w=>∃ b2,vT t k p m d b2=some J/\f 0=cL a1 r/\f 1=zS a10 k.length c11/\f 2=i64 o/\f 3=i64 q/\f 9=i64 t.N/\f 10=zS c p.length b.length/\f 12=i64 m/\f 13=zP (some ⟨u,0,none⟩)/\f 71=zB b2/\aH G K (box u 69 [i64 d.F,i64 d.B,i64 d.To]::aJ 4 K c b.length p::L) w) ?_ ?_
    ·rintro f o4 ⟨b2,a,d8,d9,e0,e1,e2,e3,e4,j0,o5,e5⟩
     unfold vT at a
     refine yW ?_
     rcases aG a with ⟨j1,a⟩|⟨j1,a⟩
     ·refine yW ?_;exact ⟨p,a,d8,d9,e0,e1,e2,e3,e4,(aH.arr 1 [] e5 rfl)⟩
     ·refine yW ?_;refine aZ (fun f w=>∃ Z,vR m Z=some J/\f 0=cL a1 r/\f 1=zS a10 k.length c11/\f 2=i64 o/\f 3=i64 q/\f 9=i64 t.N/\f 10=zS c Z.length b.length/\f 12=i64 m/\aH G K (aJ 4 K c b.length Z::L) w) ?_ ?_
      ·rintro f o6 ⟨Z,a,j2,j3,j4,j5,j6,j7,j8,j9⟩
       unfold vR at a
       refine yW ?_;exact ⟨Z,a,j2,j3,j4,j5,j6,j7,j8,j9⟩
      obtain ⟨o7,k0,a⟩:=aB a
      refine cE k0 (fun s f w=>match s with|(x,z)=>f 0=cL a1 r/\f 1=zS a10 k.length c11/\f 2=i64 o/\f 3=i64 q/\f 9=i64 t.N/\f 10=zS c x.length b.length/\f 12=i64 m/\f 13=zP (some ⟨u,0,none⟩)/\f 14=i64 z/\aH G K (box u 69 [i64 d.F,i64 d.B,i64 d.To]::aJ 4 K c b.length x::L) w) ?_ ?_
      ·exact ⟨d8,d9,e0,e1,e2,e3,e4,j0,rfl,e5⟩
      ·rintro ⟨x,z⟩ e6 f o8 j k1 ⟨b3,b4,b5,b6,b7,b8,b9,e7,e8,a6⟩
       replace j:aBz t k d x z=some e6:=j
       unfold aBz at j
       refine yW ?_
       rcases aG j with ⟨k3,j⟩|⟨k3,j⟩
       ·refine yW ?_;refine aZ (fun f w=>∃ a0,vS z a0=some e6/\f 0=cL a1 r/\f 1=zS a10 k.length c11/\f 2=i64 o/\f 3=i64 q/\f 9=i64 t.N/\f 10=zS c a0.length b.length/\f 12=i64 m/\f 13=zP (some ⟨u,0,none⟩)/\f 14=i64 z/\aH G K (box u 69 [i64 d.F,i64 d.B,i64 d.To]::aJ 4 K c b.length a0::L) w) ?_ ?_
        ·rintro f o9 ⟨a0,j,k4,k5,k6,k7,k8,k9,l0,l1,p0,l2⟩
         unfold vS at j
         refine yW ?_;exact ⟨(a0,wr (z+1)),(zI j).symm,k4,k5,k6,k7,k8,k9,l0,l1,rfl,l2⟩
        refine yW ?_;obtain ⟨p1,l3,j⟩:=aB j
        refine yW ?_;obtain ⟨p2,p3,l4⟩:=cR.el (sz:=1) rfl a8 l3
        cases l4
        refine yW ?_
        rcases aG j with ⟨l5,j⟩|⟨l5,j⟩
        ·refine yW ?_;obtain ⟨p4,c0,j⟩:=aB j
         have l6:=cU a6 (i:=1) rfl c0
         refine aC (dB dY rfl l6 rfl rfl rfl c0) ?_;obtain ⟨e9,f0,j⟩:=aB j
         refine iH (i:=1) (t:=0) (ns:=[zB true]) (e':=(true:Bool)) sizeOf4 a6 rfl (zR _) rfl rfl rfl c0 f0 rfl rfl (cS rfl) rfl (fun cs h=>by cases h;rfl) (fun l7 (l8:aH G K (box u 69 [i64 d.F,i64 d.B,i64 d.To]::aJ 4 K c b.length e9::L) l7)=>(yW ?_));exact ⟨e9,j,b3,b4,b5,b6,b7,(Eq.trans b8 (congrArg (fun n=>zS c n b.length) (gN f0))),b9,e7,e8,l8⟩
        ·refine yW ?_;exact ⟨x,j,b3,b4,b5,b6,b7,b8,b9,e7,e8,a6⟩
       ·refine yW ?_
        have l9:=k1 _ (zI j).symm
        subst l9
        have a:(vR m x)=some J:=a
        refine yW ?_;exact ⟨x,a,b3,b4,b5,b6,b7,b8,b9,(aH.arr 1 [] a6 rfl)⟩
    refine yW ?_
    rcases aG a with ⟨m0,a⟩|⟨m0,a⟩
    ·refine yW ?_;exact ⟨true,a,d0,d1,d2,d3,d4,b1,d5,rfl,rfl,d7⟩
    ·refine yW ?_;obtain ⟨m1,m2,a⟩:=aB a
     refine yW ?_;obtain ⟨p5,p6,m3⟩:=cR.el (sz:=1) rfl a8 m2
     cases m3
     refine yW ?_;exact ⟨!m1,a,d0,d1,d2,d3,d4,b1,d5,rfl,rfl,d7⟩
   ·refine yW ?_
    have m4:=h5 _ (zI a).symm
    subst m4
    have g:(vP p)=some R:=g
    refine yW ?_;exact ⟨p,g,b1,d6⟩
end Gv
namespace Gv
open Go.Value renaming slice→zS,bool→zB,pointer→zP,agg→zA
open Option.some renaming inj→zI
open Gv.Hp renaming le_trans→zL,le_refl→zR
open Go Go.Proofs Go.Proofs.Tryz
set_option maxRecDepth 20000
set_option maxHeartbeats 40000000
variable {G:uA} {K:Hp} {L:List iU} {w:World} {a1 a4 a7 a10:Option Addr} {c5 c8 c11 c2:Nat}
theorem aDV {t:cO} {k2:Nat} {R:cO} (hs:aH G K (L) w) (h3:fJ K a1 k2 (zC t a4 c5 a7 c8)) (h6:cR K a4 c5 t.L) (h9:cR K a7 c8 t.E) (c:aAB t=some R):
  Calls Tryz.prog 89 ([cL a1 k2]:List Value).toArray w (eN fun v w'=>∃ m4 m5 m6 m7,v=zA (zCa R m4 m5 m6 m7)/\aH G K (aJ 9 K m4 m5 R.L::aJ 69 K m6 m7 R.E::L) w'):=by
 let a:=zG
 refine zH func89 ?_;unfold aAB at c
 refine yW ?_;refine bR (vs:=a) zeroValue27 hs rfl (fun b w11 q2=>(yW ?_))
 refine cQ (fun f w=>∃ d m e g h0 h1,pW t d=some R/\f 0=cL a1 k2/\f 2=zP (some ⟨b,0,none⟩)/\f 3=zP (some ⟨m,0,none⟩)/\aH G K (aJ 69 K h0 h1 ([]:List Edge)::aJ 9 K e g d::box m 27 [i64 t.N,i64 t.I,zS e d.length g,zS h0 ([]:List Edge).length h1]::box b 27 a::L) w) ?_ ?_
 ·rintro f w22 ⟨d,m,e,g,h0,h1,c,q3,q4,q5,q6⟩
  unfold pW at c
  refine yW ?_;obtain ⟨o,q7,c⟩:=aB c
  refine zF call126 (aFq q6 h3 h6 h9 q7) ?_
  rintro _ w28 ⟨q,r,rfl,q8⟩
  refine yW ?_;refine aZ (fun f w=>∃ a6 a8 a9,mP t d a6=some R/\f 2=zP (some ⟨b,0,none⟩)/\f 3=zP (some ⟨m,0,none⟩)/\aH G K (aJ 69 K a8 a9 a6::aJ 9 K e g d::box m 27 [i64 t.N,i64 t.I,zS e d.length g,zS a8 a6.length a9]::box b 27 a::L) w) ?_ ?_
  ·rintro f w35 ⟨a6,a8,a9,c,m8,e34,q9⟩
   unfold mP at c
   refine yW ?_;refine bS (i:=3) (ns:=[i64 t.N,i64 t.I,zS e d.length g,zS a8 a6.length a9]) (us:=[i64 t.N,i64 t.I,zS e d.length g,zS a8 a6.length a9]) sizeOf27 q9 rfl m8 rfl rfl rfl (cS rfl) rfl rfl (fun r0 (m9:aH G K (aJ 69 K a8 a9 a6::aJ 9 K e g d::box m 27 [i64 t.N,i64 t.I,zS e d.length g,zS a8 a6.length a9]::box b 27 [i64 t.N,i64 t.I,zS e d.length g,zS a8 a6.length a9]::L) r0)=>(yW ?_))
   obtain rfl:=zI c
   exact bK (mG results89 (dM (vs:=[i64 t.N,i64 t.I,zS e d.length g,zS a8 a6.length a9]) rfl cZ m9 (i:=3) rfl m8 rfl) ⟨e,g,a8,a9,rfl,(aH.arr 4 [1,0] m9 rfl)⟩)
  obtain ⟨a49,r2,c⟩:=aB c
  refine cE r2 (fun s f w=>match s with|(f6,n)=>∃ g1 g2,f 0=cL a1 k2/\f 2=zP (some ⟨b,0,none⟩)/\f 3=zP (some ⟨m,0,none⟩)/\f 4=zS q o.length r/\f 5=i64 n/\aH G K (aJ 4 K q r o::aJ 69 K g1 g2 f6::aJ 9 K e g d::box m 27 [i64 t.N,i64 t.I,zS e d.length g,zS g1 f6.length g2]::box b 27 a::L) w) ?_ ?_
  ·exact ⟨h0,h1,q3,q4,q5,rfl,rfl,q8⟩
  ·rintro ⟨f6,n⟩ h2 f w67 x r3 ⟨g1,g2,r4,n0,n1,r5,r6,n2⟩
   replace x:rP t o f6 n=some h2:=x
   unfold rP at x
   refine yW ?_
   rcases aG x with ⟨r7,x⟩|⟨r7,x⟩
   ·refine yW ?_;refine aZ (fun f w=>∃ g3 h4 h5,rL n g3=some h2/\f 0=cL a1 k2/\f 2=zP (some ⟨b,0,none⟩)/\f 3=zP (some ⟨m,0,none⟩)/\f 4=zS q o.length r/\f 5=i64 n/\aH G K (aJ 69 K h4 h5 g3::aJ 4 K q r o::aJ 9 K e g d::box m 27 [i64 t.N,i64 t.I,zS e d.length g,zS h4 g3.length h5]::box b 27 a::L) w) ?_ ?_
    ·rintro f w92 ⟨g3,h4,h5,x,r8,r9,s0,s1,e91,s2⟩
     unfold rL at x
     refine yW ?_;exact ⟨(g3,wr (n+1)),(zI x).symm,h4,h5,r8,r9,s0,s1,rfl,(aH.arr 2 [1,0] s2 rfl)⟩
    refine yW ?_;refine aZ (fun f w=>∃ g4 h7 h8,mQ n g4=some h2/\f 0=cL a1 k2/\f 2=zP (some ⟨b,0,none⟩)/\f 3=zP (some ⟨m,0,none⟩)/\f 4=zS q o.length r/\f 5=i64 n/\aH G K (aJ 69 K h7 h8 g4::aJ 4 K q r o::aJ 9 K e g d::box m 27 [i64 t.N,i64 t.I,zS e d.length g,zS h7 g4.length h8]::box b 27 a::L) w) ?_ ?_
    ·rintro f a53 ⟨g4,h7,h8,x,s3,s4,s5,s6,s7,s8⟩
     unfold mQ at x
     refine yW ?_;exact ⟨g4,h7,h8,x,s3,s4,s5,s6,s7,s8⟩
    obtain ⟨a54,s9,x⟩:=aB x
    refine cE s9 (fun s f w=>match s with|(f7,y)=>∃ g5 g6,f 0=cL a1 k2/\f 2=zP (some ⟨b,0,none⟩)/\f 3=zP (some ⟨m,0,none⟩)/\f 4=zS q o.length r/\f 5=i64 n/\f 6=i64 y/\aH G K (aJ 4 K q r o::aJ 69 K g5 g6 f7::aJ 9 K e g d::box m 27 [i64 t.N,i64 t.I,zS e d.length g,zS g5 f7.length g6]::box b 27 a::L) w) ?_ ?_
    ·exact ⟨g1,g2,r4,n0,n1,r5,r6,rfl,n2⟩
    ·rintro ⟨f7,y⟩ i0 f a55 p t0 ⟨g5,g6,n3,n4,n5,n6,n7,t1,n8⟩
     replace p:rO t o n f7 y=some i0:=p
     unfold rO at p
     refine yW ?_
     rcases aG p with ⟨t2,p⟩|⟨t2,p⟩
     ·refine yW ?_;refine aZ (fun f w=>∃ g7 i1 i2,rM y g7=some i0/\f 0=cL a1 k2/\f 2=zP (some ⟨b,0,none⟩)/\f 3=zP (some ⟨m,0,none⟩)/\f 4=zS q o.length r/\f 5=i64 n/\f 6=i64 y/\aH G K (aJ 69 K i1 i2 g7::aJ 4 K q r o::aJ 9 K e g d::box m 27 [i64 t.N,i64 t.I,zS e d.length g,zS i1 g7.length i2]::box b 27 a::L) w) ?_ ?_
      ·rintro f a56 ⟨g7,i1,i2,p,t3,t4,t5,t6,t7,a57,t8⟩
       unfold rM at p
       refine yW ?_;exact ⟨(g7,wr (y+1)),(zI p).symm,i1,i2,t3,t4,t5,t6,t7,rfl,(aH.arr 2 [1,0] t8 rfl)⟩
      refine yW ?_;obtain ⟨a58,j0,t9,u0,u1⟩:=aH.lendS (i:=0) n8 (zR _) rfl
      obtain ⟨c0,u2,p⟩:=aB p
      refine zF call127 (aGj u0 (h3.mono j0) (h6.mono j0) (h9.mono j0) t9 u2) ?_
      rintro _ a60 ⟨f4,f5,rfl,u3⟩
      have u4:=u1 _ _ u3
      refine yW ?_;refine aZ (fun f w=>∃ g8 i3 i4,mR y g8=some i0/\f 0=cL a1 k2/\f 2=zP (some ⟨b,0,none⟩)/\f 3=zP (some ⟨m,0,none⟩)/\f 4=zS q o.length r/\f 5=i64 n/\f 6=i64 y/\aH G K (aJ 69 K i3 i4 g8::aJ 4 K q r o::aJ 9 K e g d::box m 27 [i64 t.N,i64 t.I,zS e d.length g,zS i3 g8.length i4]::box b 27 a::L) w) ?_ ?_
      ·rintro f a61 ⟨g8,i3,i4,p,u5,u6,u7,u8,u9,v0,v1⟩
       unfold mR at p
       refine yW ?_;exact ⟨g8,i3,i4,p,u5,u6,u7,u8,u9,v0,v1⟩
      obtain ⟨a62,v2,p⟩:=aB p
      refine cE v2 (fun s f w=>match s with|(b0,a3)=>∃ c1 c2,f 0=cL a1 k2/\f 2=zP (some ⟨b,0,none⟩)/\f 3=zP (some ⟨m,0,none⟩)/\f 4=zS q o.length r/\f 5=i64 n/\f 6=i64 y/\f 7=zS f4 c0.length f5/\f 8=i64 a3/\aH G K (aJ 4 K q r o::aJ 4 K f4 f5 c0::aJ 69 K c1 c2 b0::aJ 9 K e g d::box m 27 [i64 t.N,i64 t.I,zS e d.length g,zS c1 b0.length c2]::box b 27 a::L) w) ?_ ?_
      ·exact ⟨g5,g6,n3,n4,n5,n6,n7,t1,rfl,rfl,u4⟩
      ·rintro ⟨b0,a3⟩ n9 f a63 u v3 ⟨c1,c2,j1,j2,j3,j4,j5,j6,o0,o1,i5⟩
       replace u:rN t n y c0 b0 a3=some n9:=u
       unfold rN at u
       refine yW ?_
       rcases aG u with ⟨v4,u⟩|⟨v4,u⟩
       ·refine yW ?_;refine aZ (fun f w=>∃ g9 i6 i7,mS a3 g9=some n9/\f 0=cL a1 k2/\f 2=zP (some ⟨b,0,none⟩)/\f 3=zP (some ⟨m,0,none⟩)/\f 4=zS q o.length r/\f 5=i64 n/\f 6=i64 y/\f 7=zS f4 c0.length f5/\f 8=i64 a3/\aH G K (aJ 69 K i6 i7 g9::aJ 4 K q r o::aJ 4 K f4 f5 c0::aJ 9 K e g d::box m 27 [i64 t.N,i64 t.I,zS e d.length g,zS i6 g9.length i7]::box b 27 a::L) w) ?_ ?_
        ·rintro f a64 ⟨g9,i6,i7,u,v5,v6,v7,v8,v9,w0,w1,a65,w2⟩
         unfold mS at u
         refine yW ?_;exact ⟨(g9,wr (a3+1)),(zI u).symm,i6,i7,v5,v6,v7,v8,v9,w0,w1,rfl,(aH.arr 3 [1,2,0] w2 rfl)⟩
        refine yW ?_;obtain ⟨a66,o2,u⟩:=aB u
        have w3:=cU i5 (i:=1) rfl o2
        refine aC (dB dY rfl w3 rfl rfl rfl o2) (yW ?_)
        rcases aG u with ⟨w4,u⟩|⟨w4,u⟩
        ·refine yW ?_;refine aC (dD (vs:=[(0,i64 n),(1,i64 y),(2,i64 a3)]) (cs:=[i64 n,i64 y,i64 a3]) aDq rfl (by kernel_rfl)) (bZ (Kt:=K) (xs:=([⟨n,y,a3⟩]:List Edge)) (cs:=[i64 n,i64 y,i64 a3]) (vs:=[(0,zA #[i64 n,i64 y,i64 a3])]) cI fG rfl rfl i5 rfl (by kernel_rfl) rfl rfl rfl ⟨rfl,trivial⟩ (fun w5 w6 (w7:aH G K (aJ 69 K w5 1 ([⟨n,y,a3⟩]:List Edge)::aJ 4 K q r o::aJ 4 K f4 f5 c0::aJ 69 K c1 c2 b0::aJ 9 K e g d::box m 27 [i64 t.N,i64 t.I,zS e d.length g,zS c1 b0.length c2]::box b 27 a::L) w6)=>?_))
         obtain ⟨f8,w8,u⟩:=aB u
         refine dA (i:=2) cI underlying25 fG rfl rfl w7 rfl (zR _) (zR _) w8 rfl rfl rfl rfl (fun _ h=>h) (fun f9 g0 w9 (x0:aH G K (aJ 4 K q r o::aJ 4 K f4 f5 c0::aJ 69 K f9 g0 f8::aJ 9 K e g d::box m 27 [i64 t.N,i64 t.I,zS e d.length g,zS c1 b0.length c2]::box b 27 a::L) w9)=>(yW ?_));refine bS (i:=4) (ns:=[zS f9 f8.length g0]) (us:=[i64 t.N,i64 t.I,zS e d.length g,zS f9 f8.length g0]) sizeOf25 x0 rfl rfl rfl rfl rfl (cS rfl) rfl rfl (fun x1 (x2:aH G K (aJ 4 K q r o::aJ 4 K f4 f5 c0::aJ 69 K f9 g0 f8::aJ 9 K e g d::box m 27 [i64 t.N,i64 t.I,zS e d.length g,zS f9 f8.length g0]::box b 27 a::L) x1)=>(yW ?_))
         exact ⟨f8,f9,g0,u,j1,j2,j3,j4,j5,j6,o0,o1,(aH.arr 3 [2,0,1] x2 rfl)⟩
        ·refine yW ?_;exact ⟨b0,c1,c2,u,j1,j2,j3,j4,j5,j6,o0,o1,(aH.arr 3 [2,0,1] i5 rfl)⟩
       ·refine yW ?_
        have x3:=v3 _ (zI u).symm
        subst x3
        have p:(mR y b0)=some i0:=p
        refine yW ?_;exact ⟨b0,c1,c2,p,j1,j2,j3,j4,j5,j6,(aH.arr 3 [2,0] i5 rfl)⟩
     ·refine yW ?_
      have x4:=t0 _ (zI p).symm
      subst x4
      have x:(mQ n f7)=some h2:=x
      refine yW ?_;exact ⟨f7,g5,g6,x,n3,n4,n5,n6,n7,(aH.arr 2 [1,0] n8 rfl)⟩
   ·refine yW ?_
    have x5:=r3 _ (zI x).symm
    subst x5
    have c:(mP t d f6)=some R:=c
    refine yW ?_;exact ⟨f6,g1,g2,c,n0,n1,(aH.arr 1 [] n2 rfl)⟩
 refine kP (C:=fun w'=>∃ L',aH G K L' w') [17] bV (by kernel_rfl) (fun a67 x6=>?_)
 have j7:=aH.mono q2 x6
 refine aHQ 0 ?_;refine aHQ 1 ?_
 refine aHQ 2 ?_;refine aHQ 3 ?_
 refine aHQ 4 ?_;refine aHQ 5 ?_
 refine aHQ 6 ?_;refine aHQ 7 ?_
 refine aHQ 9 ?_;refine aHQ 10 ?_
 refine aHQ 11 ?_;refine aHQ 12 ?_
 refine WA_act3 (i:=8) (j:=14) (k:=16) (by kernel_rfl) rfl rfl rfl ?_ ?_ ?_
 ·refine bZ (Kt:=K) (xs:=([]:List bD)) (cs:=[]) (vs:=[]) cF fL rfl rfl j7 rfl (by kernel_rfl) rfl rfl rfl trivial (fun j8 x7 (i8:aH G K (aJ 9 K j8 0 ([]:List bD)::box b 27 a::L) x7)=>(aX (aA ⟨fun _=>⟨_,i8⟩,?_⟩)))
  refine WA_act3 (i:=13) (j:=14) (k:=16) (by kernel_rfl) rfl rfl rfl ?_ ?_ ?_
  ·obtain ⟨z,x8,c⟩:=aB c
   refine iK (i:=0) cF underlying24 fL rfl rfl i8 rfl (zR _) h6 x8 rfl rfl rfl rfl (fun J V x9 (j9:aH G K (aJ 9 K J V z::box b 27 a::L) x9)=>(aX (aA ⟨fun _=>⟨_,j9⟩,?_⟩)))
   refine gY (i:=14) (j:=16) (by kernel_rfl) rfl rfl ?_ ?_
   ·refine bZ (Kt:=K) (xs:=([]:List Edge)) (cs:=[]) (vs:=[]) cI fG rfl rfl j9 rfl (by kernel_rfl) rfl rfl rfl trivial (fun c3 y0 (k0:aH G K (aJ 69 K c3 0 ([]:List Edge)::aJ 9 K J V z::box b 27 a::L) y0)=>(aX (aA ⟨fun _=>⟨_,k0⟩,?_⟩)))
    refine cY (i:=15) rfl (by kernel_rfl) ⟨_,k0⟩ (fun _ _=>dD (vs:=[(0,i64 t.N),(1,i64 t.I),(2,zS J z.length V),(3,zS c3 ([]:List Edge).length 0)]) (cs:=[i64 t.N,i64 t.I,zS J z.length V,zS c3 ([]:List Edge).length 0]) jT rfl (by kernel_rfl)) (cC (i:=16) (by kernel_rfl) rfl (bR (vs:=a) zeroValue27 k0 rfl (fun o3 a68 o4=>(aX (aA ⟨fun _=>⟨_,o4⟩,?_⟩)))))
    refine cC (i:=17) (by kernel_rfl) rfl (bS (i:=0) (ns:=[i64 t.N,i64 t.I,zS J z.length V,zS c3 ([]:List Edge).length 0]) (us:=[i64 t.N,i64 t.I,zS J z.length V,zS c3 ([]:List Edge).length 0]) sizeOf27 o4 rfl rfl rfl rfl rfl (cS rfl) rfl rfl (fun y1 (y2:aH G K (box o3 27 [i64 t.N,i64 t.I,zS J z.length V,zS c3 ([]:List Edge).length 0]::aJ 69 K c3 0 ([]:List Edge)::aJ 9 K J V z::box b 27 a::L) y1)=>(aX (aA ⟨aCh rfl,?_⟩))))
    refine dW (by kernel_rfl) (yW ?_);exact ⟨z,o3,J,V,c3,0,c,rfl,rfl,rfl,(aH.arr 3 [1,2,0] y2 rfl)⟩
   ·refine bR (vs:=a) zeroValue27 j9 rfl (fun k1 a69 o5=>(aX (aA ⟨fun _=>⟨_,o5⟩,?_⟩)))
    refine cC (i:=14) (by kernel_rfl) rfl (bZ (Kt:=K) (xs:=([]:List Edge)) (cs:=[]) (vs:=[]) cI fG rfl rfl o5 rfl (by kernel_rfl) rfl rfl rfl trivial (fun c4 y3 (k3:aH G K (aJ 69 K c4 0 ([]:List Edge)::box k1 27 a::aJ 9 K J V z::box b 27 a::L) y3)=>(aX (aA ⟨fun _=>⟨_,k3⟩,?_⟩))))
    refine cY (i:=15) rfl (by kernel_rfl) ⟨_,k3⟩ (fun _ _=>dD (vs:=[(0,i64 t.N),(1,i64 t.I),(2,zS J z.length V),(3,zS c4 ([]:List Edge).length 0)]) (cs:=[i64 t.N,i64 t.I,zS J z.length V,zS c4 ([]:List Edge).length 0]) jT rfl (by kernel_rfl)) (cC (i:=17) (by kernel_rfl) rfl (bS (i:=1) (ns:=[i64 t.N,i64 t.I,zS J z.length V,zS c4 ([]:List Edge).length 0]) (us:=[i64 t.N,i64 t.I,zS J z.length V,zS c4 ([]:List Edge).length 0]) sizeOf27 k3 rfl rfl rfl rfl rfl (cS rfl) rfl rfl (fun y4 (y5:aH G K (aJ 69 K c4 0 ([]:List Edge)::box k1 27 [i64 t.N,i64 t.I,zS J z.length V,zS c4 ([]:List Edge).length 0]::aJ 9 K J V z::box b 27 a::L) y4)=>(aX (aA ⟨aCh rfl,?_⟩)))))
    refine dW (by kernel_rfl) (yW ?_);exact ⟨z,k1,J,V,c4,0,c,rfl,rfl,rfl,(aH.arr 3 [0,2,1] y5 rfl)⟩
  ·refine bZ (Kt:=K) (xs:=([]:List Edge)) (cs:=[]) (vs:=[]) cI fG rfl rfl i8 rfl (by kernel_rfl) rfl rfl rfl trivial (fun Z y6 (k4:aH G K (aJ 69 K Z 0 ([]:List Edge)::aJ 9 K j8 0 ([]:List bD)::box b 27 a::L) y6)=>(aX (aA ⟨fun _=>⟨_,k4⟩,?_⟩)))
   refine gY (i:=13) (j:=16) (by kernel_rfl) rfl rfl ?_ ?_
   ·obtain ⟨c6,y7,c⟩:=aB c
    refine iK (i:=1) cF underlying24 fL rfl rfl k4 rfl (zR _) h6 y7 rfl rfl rfl rfl (fun c7 c9 y8 (k5:aH G K (aJ 69 K Z 0 ([]:List Edge)::aJ 9 K c7 c9 c6::box b 27 a::L) y8)=>(aX (aA ⟨fun _=>⟨_,k5⟩,?_⟩)))
    refine cY (i:=15) rfl (by kernel_rfl) ⟨_,k5⟩ (fun _ _=>dD (vs:=[(0,i64 t.N),(1,i64 t.I),(2,zS c7 c6.length c9),(3,zS Z ([]:List Edge).length 0)]) (cs:=[i64 t.N,i64 t.I,zS c7 c6.length c9,zS Z ([]:List Edge).length 0]) jT rfl (by kernel_rfl)) (cC (i:=16) (by kernel_rfl) rfl (bR (vs:=a) zeroValue27 k5 rfl (fun o6 a70 o7=>(aX (aA ⟨fun _=>⟨_,o7⟩,?_⟩)))))
    refine cC (i:=17) (by kernel_rfl) rfl (bS (i:=0) (ns:=[i64 t.N,i64 t.I,zS c7 c6.length c9,zS Z ([]:List Edge).length 0]) (us:=[i64 t.N,i64 t.I,zS c7 c6.length c9,zS Z ([]:List Edge).length 0]) sizeOf27 o7 rfl rfl rfl rfl rfl (cS rfl) rfl rfl (fun y9 (z0:aH G K (box o6 27 [i64 t.N,i64 t.I,zS c7 c6.length c9,zS Z ([]:List Edge).length 0]::aJ 69 K Z 0 ([]:List Edge)::aJ 9 K c7 c9 c6::box b 27 a::L) y9)=>(aX (aA ⟨aCh rfl,?_⟩))))
    refine dW (by kernel_rfl) (yW ?_);exact ⟨c6,o6,c7,c9,Z,0,c,rfl,rfl,rfl,(aH.arr 3 [1,2,0] z0 rfl)⟩
   ·refine bR (vs:=a) zeroValue27 k4 rfl (fun k6 a71 o8=>(aX (aA ⟨fun _=>⟨_,o8⟩,?_⟩)))
    refine cC (i:=13) (by kernel_rfl) rfl ?_;obtain ⟨d0,z1,c⟩:=aB c
    refine iK (i:=2) cF underlying24 fL rfl rfl o8 rfl (zR _) h6 z1 rfl rfl rfl rfl (fun d1 d2 z2 (k7:aH G K (box k6 27 a::aJ 69 K Z 0 ([]:List Edge)::aJ 9 K d1 d2 d0::box b 27 a::L) z2)=>(aX (aA ⟨fun _=>⟨_,k7⟩,?_⟩)))
    refine cY (i:=15) rfl (by kernel_rfl) ⟨_,k7⟩ (fun _ _=>dD (vs:=[(0,i64 t.N),(1,i64 t.I),(2,zS d1 d0.length d2),(3,zS Z ([]:List Edge).length 0)]) (cs:=[i64 t.N,i64 t.I,zS d1 d0.length d2,zS Z ([]:List Edge).length 0]) jT rfl (by kernel_rfl)) (cC (i:=17) (by kernel_rfl) rfl (bS (i:=0) (ns:=[i64 t.N,i64 t.I,zS d1 d0.length d2,zS Z ([]:List Edge).length 0]) (us:=[i64 t.N,i64 t.I,zS d1 d0.length d2,zS Z ([]:List Edge).length 0]) sizeOf27 k7 rfl rfl rfl rfl rfl (cS rfl) rfl rfl (fun z3 (z4:aH G K (box k6 27 [i64 t.N,i64 t.I,zS d1 d0.length d2,zS Z ([]:List Edge).length 0]::aJ 69 K Z 0 ([]:List Edge)::aJ 9 K d1 d2 d0::box b 27 a::L) z3)=>(aX (aA ⟨aCh rfl,?_⟩)))))
    refine dW (by kernel_rfl) (yW ?_);exact ⟨d0,k6,d1,d2,Z,0,c,rfl,rfl,rfl,(aH.arr 3 [1,2,0] z4 rfl)⟩
  ·refine bR (vs:=a) zeroValue27 i8 rfl (fun d3 a72 k8=>(aX (aA ⟨fun _=>⟨_,k8⟩,?_⟩)))
   refine gY (i:=13) (j:=14) (by kernel_rfl) rfl rfl ?_ ?_
   ·obtain ⟨b2,z5,c⟩:=aB c
    refine iK (i:=1) cF underlying24 fL rfl rfl k8 rfl (zR _) h6 z5 rfl rfl rfl rfl (fun b3 b4 z6 (o9:aH G K (box d3 27 a::aJ 9 K b3 b4 b2::box b 27 a::L) z6)=>(aX (aA ⟨fun _=>⟨_,o9⟩,?_⟩)))
    refine cC (i:=14) (by kernel_rfl) rfl (bZ (Kt:=K) (xs:=([]:List Edge)) (cs:=[]) (vs:=[]) cI fG rfl rfl o9 rfl (by kernel_rfl) rfl rfl rfl trivial (fun d4 z7 (k9:aH G K (aJ 69 K d4 0 ([]:List Edge)::box d3 27 a::aJ 9 K b3 b4 b2::box b 27 a::L) z7)=>(aX (aA ⟨fun _=>⟨_,k9⟩,?_⟩))))
    refine cY (i:=15) rfl (by kernel_rfl) ⟨_,k9⟩ (fun _ _=>dD (vs:=[(0,i64 t.N),(1,i64 t.I),(2,zS b3 b2.length b4),(3,zS d4 ([]:List Edge).length 0)]) (cs:=[i64 t.N,i64 t.I,zS b3 b2.length b4,zS d4 ([]:List Edge).length 0]) jT rfl (by kernel_rfl)) (cC (i:=17) (by kernel_rfl) rfl (bS (i:=1) (ns:=[i64 t.N,i64 t.I,zS b3 b2.length b4,zS d4 ([]:List Edge).length 0]) (us:=[i64 t.N,i64 t.I,zS b3 b2.length b4,zS d4 ([]:List Edge).length 0]) sizeOf27 k9 rfl rfl rfl rfl rfl (cS rfl) rfl rfl (fun z8 (z9:aH G K (aJ 69 K d4 0 ([]:List Edge)::box d3 27 [i64 t.N,i64 t.I,zS b3 b2.length b4,zS d4 ([]:List Edge).length 0]::aJ 9 K b3 b4 b2::box b 27 a::L) z8)=>(aX (aA ⟨aCh rfl,?_⟩)))))
    refine dW (by kernel_rfl) (yW ?_);exact ⟨b2,d3,b3,b4,d4,0,c,rfl,rfl,rfl,(aH.arr 3 [0,2,1] z9 rfl)⟩
   ·refine bZ (Kt:=K) (xs:=([]:List Edge)) (cs:=[]) (vs:=[]) cI fG rfl rfl k8 rfl (by kernel_rfl) rfl rfl rfl trivial (fun b5 a00 (p0:aH G K (aJ 69 K b5 0 ([]:List Edge)::box d3 27 a::aJ 9 K j8 0 ([]:List bD)::box b 27 a::L) a00)=>(aX (aA ⟨fun _=>⟨_,p0⟩,?_⟩)))
    refine cC (i:=13) (by kernel_rfl) rfl ?_;obtain ⟨d5,a01,c⟩:=aB c
    refine iK (i:=2) cF underlying24 fL rfl rfl p0 rfl (zR _) h6 a01 rfl rfl rfl rfl (fun d6 d7 a02 (l0:aH G K (aJ 69 K b5 0 ([]:List Edge)::box d3 27 a::aJ 9 K d6 d7 d5::box b 27 a::L) a02)=>(aX (aA ⟨fun _=>⟨_,l0⟩,?_⟩)))
    refine cY (i:=15) rfl (by kernel_rfl) ⟨_,l0⟩ (fun _ _=>dD (vs:=[(0,i64 t.N),(1,i64 t.I),(2,zS d6 d5.length d7),(3,zS b5 ([]:List Edge).length 0)]) (cs:=[i64 t.N,i64 t.I,zS d6 d5.length d7,zS b5 ([]:List Edge).length 0]) jT rfl (by kernel_rfl)) (cC (i:=17) (by kernel_rfl) rfl (bS (i:=1) (ns:=[i64 t.N,i64 t.I,zS d6 d5.length d7,zS b5 ([]:List Edge).length 0]) (us:=[i64 t.N,i64 t.I,zS d6 d5.length d7,zS b5 ([]:List Edge).length 0]) sizeOf27 l0 rfl rfl rfl rfl rfl (cS rfl) rfl rfl (fun a03 (a04:aH G K (aJ 69 K b5 0 ([]:List Edge)::box d3 27 [i64 t.N,i64 t.I,zS d6 d5.length d7,zS b5 ([]:List Edge).length 0]::aJ 9 K d6 d7 d5::box b 27 a::L) a03)=>(aX (aA ⟨aCh rfl,?_⟩)))))
    refine dW (by kernel_rfl) (yW ?_);exact ⟨d5,d3,d6,d7,b5,0,c,rfl,rfl,rfl,(aH.arr 3 [0,2,1] a04 rfl)⟩
 ·refine bZ (Kt:=K) (xs:=([]:List Edge)) (cs:=[]) (vs:=[]) cI fG rfl rfl j7 rfl (by kernel_rfl) rfl rfl rfl trivial (fun l a05 (l1:aH G K (aJ 69 K l 0 ([]:List Edge)::box b 27 a::L) a05)=>(aX (aA ⟨fun _=>⟨_,l1⟩,?_⟩)))
  refine gY (i:=8) (j:=16) (by kernel_rfl) rfl rfl ?_ ?_
  ·refine bZ (Kt:=K) (xs:=([]:List bD)) (cs:=[]) (vs:=[]) cF fL rfl rfl l1 rfl (by kernel_rfl) rfl rfl rfl trivial (fun a06 a07 (l2:aH G K (aJ 9 K a06 0 ([]:List bD)::aJ 69 K l 0 ([]:List Edge)::box b 27 a::L) a07)=>(aX (aA ⟨fun _=>⟨_,l2⟩,?_⟩)))
   refine gY (i:=13) (j:=16) (by kernel_rfl) rfl rfl ?_ ?_
   ·obtain ⟨d8,a08,c⟩:=aB c
    refine iK (i:=0) cF underlying24 fL rfl rfl l2 rfl (zR _) h6 a08 rfl rfl rfl rfl (fun d9 e0 a09 (l3:aH G K (aJ 9 K d9 e0 d8::aJ 69 K l 0 ([]:List Edge)::box b 27 a::L) a09)=>(aX (aA ⟨fun _=>⟨_,l3⟩,?_⟩)))
    refine cY (i:=15) rfl (by kernel_rfl) ⟨_,l3⟩ (fun _ _=>dD (vs:=[(0,i64 t.N),(1,i64 t.I),(2,zS d9 d8.length e0),(3,zS l ([]:List Edge).length 0)]) (cs:=[i64 t.N,i64 t.I,zS d9 d8.length e0,zS l ([]:List Edge).length 0]) jT rfl (by kernel_rfl)) (cC (i:=16) (by kernel_rfl) rfl (bR (vs:=a) zeroValue27 l3 rfl (fun p1 a73 p2=>(aX (aA ⟨fun _=>⟨_,p2⟩,?_⟩)))))
    refine cC (i:=17) (by kernel_rfl) rfl (bS (i:=0) (ns:=[i64 t.N,i64 t.I,zS d9 d8.length e0,zS l ([]:List Edge).length 0]) (us:=[i64 t.N,i64 t.I,zS d9 d8.length e0,zS l ([]:List Edge).length 0]) sizeOf27 p2 rfl rfl rfl rfl rfl (cS rfl) rfl rfl (fun a10 (a11:aH G K (box p1 27 [i64 t.N,i64 t.I,zS d9 d8.length e0,zS l ([]:List Edge).length 0]::aJ 9 K d9 e0 d8::aJ 69 K l 0 ([]:List Edge)::box b 27 a::L) a10)=>(aX (aA ⟨aCh rfl,?_⟩))))
    refine dW (by kernel_rfl) (yW ?_);exact ⟨d8,p1,d9,e0,l,0,c,rfl,rfl,rfl,(aH.arr 3 [2,1,0] a11 rfl)⟩
   ·refine bR (vs:=a) zeroValue27 l2 rfl (fun l4 a74 p3=>(aX (aA ⟨fun _=>⟨_,p3⟩,?_⟩)))
    refine cC (i:=13) (by kernel_rfl) rfl ?_;obtain ⟨e1,a12,c⟩:=aB c
    refine iK (i:=1) cF underlying24 fL rfl rfl p3 rfl (zR _) h6 a12 rfl rfl rfl rfl (fun e2 e3 a13 (l5:aH G K (box l4 27 a::aJ 9 K e2 e3 e1::aJ 69 K l 0 ([]:List Edge)::box b 27 a::L) a13)=>(aX (aA ⟨fun _=>⟨_,l5⟩,?_⟩)))
    refine cY (i:=15) rfl (by kernel_rfl) ⟨_,l5⟩ (fun _ _=>dD (vs:=[(0,i64 t.N),(1,i64 t.I),(2,zS e2 e1.length e3),(3,zS l ([]:List Edge).length 0)]) (cs:=[i64 t.N,i64 t.I,zS e2 e1.length e3,zS l ([]:List Edge).length 0]) jT rfl (by kernel_rfl)) (cC (i:=17) (by kernel_rfl) rfl (bS (i:=0) (ns:=[i64 t.N,i64 t.I,zS e2 e1.length e3,zS l ([]:List Edge).length 0]) (us:=[i64 t.N,i64 t.I,zS e2 e1.length e3,zS l ([]:List Edge).length 0]) sizeOf27 l5 rfl rfl rfl rfl rfl (cS rfl) rfl rfl (fun a14 (a16:aH G K (box l4 27 [i64 t.N,i64 t.I,zS e2 e1.length e3,zS l ([]:List Edge).length 0]::aJ 9 K e2 e3 e1::aJ 69 K l 0 ([]:List Edge)::box b 27 a::L) a14)=>(aX (aA ⟨aCh rfl,?_⟩)))))
    refine dW (by kernel_rfl) (yW ?_);exact ⟨e1,l4,e2,e3,l,0,c,rfl,rfl,rfl,(aH.arr 3 [2,1,0] a16 rfl)⟩
  ·refine bR (vs:=a) zeroValue27 l1 rfl (fun i9 a75 p4=>(aX (aA ⟨fun _=>⟨_,p4⟩,?_⟩)))
   refine cC (i:=8) (by kernel_rfl) rfl (bZ (Kt:=K) (xs:=([]:List bD)) (cs:=[]) (vs:=[]) cF fL rfl rfl p4 rfl (by kernel_rfl) rfl rfl rfl trivial (fun a18 a19 (p5:aH G K (aJ 9 K a18 0 ([]:List bD)::box i9 27 a::aJ 69 K l 0 ([]:List Edge)::box b 27 a::L) a19)=>(aX (aA ⟨fun _=>⟨_,p5⟩,?_⟩))))
   refine cC (i:=13) (by kernel_rfl) rfl ?_;obtain ⟨e4,a20,c⟩:=aB c
   refine iK (i:=0) cF underlying24 fL rfl rfl p5 rfl (zR _) h6 a20 rfl rfl rfl rfl (fun e5 e6 a21 (l6:aH G K (aJ 9 K e5 e6 e4::box i9 27 a::aJ 69 K l 0 ([]:List Edge)::box b 27 a::L) a21)=>(aX (aA ⟨fun _=>⟨_,l6⟩,?_⟩)))
   refine cY (i:=15) rfl (by kernel_rfl) ⟨_,l6⟩ (fun _ _=>dD (vs:=[(0,i64 t.N),(1,i64 t.I),(2,zS e5 e4.length e6),(3,zS l ([]:List Edge).length 0)]) (cs:=[i64 t.N,i64 t.I,zS e5 e4.length e6,zS l ([]:List Edge).length 0]) jT rfl (by kernel_rfl)) (cC (i:=17) (by kernel_rfl) rfl (bS (i:=1) (ns:=[i64 t.N,i64 t.I,zS e5 e4.length e6,zS l ([]:List Edge).length 0]) (us:=[i64 t.N,i64 t.I,zS e5 e4.length e6,zS l ([]:List Edge).length 0]) sizeOf27 l6 rfl rfl rfl rfl rfl (cS rfl) rfl rfl (fun a22 (a23:aH G K (aJ 9 K e5 e6 e4::box i9 27 [i64 t.N,i64 t.I,zS e5 e4.length e6,zS l ([]:List Edge).length 0]::aJ 69 K l 0 ([]:List Edge)::box b 27 a::L) a22)=>(aX (aA ⟨aCh rfl,?_⟩)))))
   refine dW (by kernel_rfl) (yW ?_);exact ⟨e4,i9,e5,e6,l,0,c,rfl,rfl,rfl,(aH.arr 3 [2,0,1] a23 rfl)⟩
 ·refine bR (vs:=a) zeroValue27 j7 rfl (fun a0 a76 l7=>(aX (aA ⟨fun _=>⟨_,l7⟩,?_⟩)))
  refine gY (i:=8) (j:=14) (by kernel_rfl) rfl rfl ?_ ?_
  ·refine bZ (Kt:=K) (xs:=([]:List bD)) (cs:=[]) (vs:=[]) cF fL rfl rfl l7 rfl (by kernel_rfl) rfl rfl rfl trivial (fun p6 a24 (l8:aH G K (aJ 9 K p6 0 ([]:List bD)::box a0 27 a::box b 27 a::L) a24)=>(aX (aA ⟨fun _=>⟨_,l8⟩,?_⟩)))
   refine gY (i:=13) (j:=14) (by kernel_rfl) rfl rfl ?_ ?_
   ·obtain ⟨b6,a25,c⟩:=aB c
    refine iK (i:=0) cF underlying24 fL rfl rfl l8 rfl (zR _) h6 a25 rfl rfl rfl rfl (fun b7 b8 a27 (p7:aH G K (aJ 9 K b7 b8 b6::box a0 27 a::box b 27 a::L) a27)=>(aX (aA ⟨fun _=>⟨_,p7⟩,?_⟩)))
    refine cC (i:=14) (by kernel_rfl) rfl (bZ (Kt:=K) (xs:=([]:List Edge)) (cs:=[]) (vs:=[]) cI fG rfl rfl p7 rfl (by kernel_rfl) rfl rfl rfl trivial (fun e7 a28 (l9:aH G K (aJ 69 K e7 0 ([]:List Edge)::aJ 9 K b7 b8 b6::box a0 27 a::box b 27 a::L) a28)=>(aX (aA ⟨fun _=>⟨_,l9⟩,?_⟩))))
    refine cY (i:=15) rfl (by kernel_rfl) ⟨_,l9⟩ (fun _ _=>dD (vs:=[(0,i64 t.N),(1,i64 t.I),(2,zS b7 b6.length b8),(3,zS e7 ([]:List Edge).length 0)]) (cs:=[i64 t.N,i64 t.I,zS b7 b6.length b8,zS e7 ([]:List Edge).length 0]) jT rfl (by kernel_rfl)) (cC (i:=17) (by kernel_rfl) rfl (bS (i:=2) (ns:=[i64 t.N,i64 t.I,zS b7 b6.length b8,zS e7 ([]:List Edge).length 0]) (us:=[i64 t.N,i64 t.I,zS b7 b6.length b8,zS e7 ([]:List Edge).length 0]) sizeOf27 l9 rfl rfl rfl rfl rfl (cS rfl) rfl rfl (fun a29 (a30:aH G K (aJ 69 K e7 0 ([]:List Edge)::aJ 9 K b7 b8 b6::box a0 27 [i64 t.N,i64 t.I,zS b7 b6.length b8,zS e7 ([]:List Edge).length 0]::box b 27 a::L) a29)=>(aX (aA ⟨aCh rfl,?_⟩)))))
    refine dW (by kernel_rfl) (yW ?_);exact ⟨b6,a0,b7,b8,e7,0,c,rfl,rfl,rfl,a30⟩
   ·refine bZ (Kt:=K) (xs:=([]:List Edge)) (cs:=[]) (vs:=[]) cI fG rfl rfl l8 rfl (by kernel_rfl) rfl rfl rfl trivial (fun b9 a32 (p8:aH G K (aJ 69 K b9 0 ([]:List Edge)::aJ 9 K p6 0 ([]:List bD)::box a0 27 a::box b 27 a::L) a32)=>(aX (aA ⟨fun _=>⟨_,p8⟩,?_⟩)))
    refine cC (i:=13) (by kernel_rfl) rfl ?_;obtain ⟨e8,a33,c⟩:=aB c
    refine iK (i:=1) cF underlying24 fL rfl rfl p8 rfl (zR _) h6 a33 rfl rfl rfl rfl (fun e9 f0 a34 (m0:aH G K (aJ 69 K b9 0 ([]:List Edge)::aJ 9 K e9 f0 e8::box a0 27 a::box b 27 a::L) a34)=>(aX (aA ⟨fun _=>⟨_,m0⟩,?_⟩)))
    refine cY (i:=15) rfl (by kernel_rfl) ⟨_,m0⟩ (fun _ _=>dD (vs:=[(0,i64 t.N),(1,i64 t.I),(2,zS e9 e8.length f0),(3,zS b9 ([]:List Edge).length 0)]) (cs:=[i64 t.N,i64 t.I,zS e9 e8.length f0,zS b9 ([]:List Edge).length 0]) jT rfl (by kernel_rfl)) (cC (i:=17) (by kernel_rfl) rfl (bS (i:=2) (ns:=[i64 t.N,i64 t.I,zS e9 e8.length f0,zS b9 ([]:List Edge).length 0]) (us:=[i64 t.N,i64 t.I,zS e9 e8.length f0,zS b9 ([]:List Edge).length 0]) sizeOf27 m0 rfl rfl rfl rfl rfl (cS rfl) rfl rfl (fun a35 (a36:aH G K (aJ 69 K b9 0 ([]:List Edge)::aJ 9 K e9 f0 e8::box a0 27 [i64 t.N,i64 t.I,zS e9 e8.length f0,zS b9 ([]:List Edge).length 0]::box b 27 a::L) a35)=>(aX (aA ⟨aCh rfl,?_⟩)))))
    refine dW (by kernel_rfl) (yW ?_);exact ⟨e8,a0,e9,f0,b9,0,c,rfl,rfl,rfl,a36⟩
  ·refine bZ (Kt:=K) (xs:=([]:List Edge)) (cs:=[]) (vs:=[]) cI fG rfl rfl l7 rfl (by kernel_rfl) rfl rfl rfl trivial (fun b1 a37 (p9:aH G K (aJ 69 K b1 0 ([]:List Edge)::box a0 27 a::box b 27 a::L) a37)=>(aX (aA ⟨fun _=>⟨_,p9⟩,?_⟩)))
   refine cC (i:=8) (by kernel_rfl) rfl (bZ (Kt:=K) (xs:=([]:List bD)) (cs:=[]) (vs:=[]) cF fL rfl rfl p9 rfl (by kernel_rfl) rfl rfl rfl trivial (fun a38 a39 (q0:aH G K (aJ 9 K a38 0 ([]:List bD)::aJ 69 K b1 0 ([]:List Edge)::box a0 27 a::box b 27 a::L) a39)=>(aX (aA ⟨fun _=>⟨_,q0⟩,?_⟩))))
   refine cC (i:=13) (by kernel_rfl) rfl ?_;obtain ⟨f1,a40,c⟩:=aB c
   refine iK (i:=0) cF underlying24 fL rfl rfl q0 rfl (zR _) h6 a40 rfl rfl rfl rfl (fun f2 f3 a41 (m1:aH G K (aJ 9 K f2 f3 f1::aJ 69 K b1 0 ([]:List Edge)::box a0 27 a::box b 27 a::L) a41)=>(aX (aA ⟨fun _=>⟨_,m1⟩,?_⟩)))
   refine cY (i:=15) rfl (by kernel_rfl) ⟨_,m1⟩ (fun _ _=>dD (vs:=[(0,i64 t.N),(1,i64 t.I),(2,zS f2 f1.length f3),(3,zS b1 ([]:List Edge).length 0)]) (cs:=[i64 t.N,i64 t.I,zS f2 f1.length f3,zS b1 ([]:List Edge).length 0]) jT rfl (by kernel_rfl)) (cC (i:=17) (by kernel_rfl) rfl (bS (i:=2) (ns:=[i64 t.N,i64 t.I,zS f2 f1.length f3,zS b1 ([]:List Edge).length 0]) (us:=[i64 t.N,i64 t.I,zS f2 f1.length f3,zS b1 ([]:List Edge).length 0]) sizeOf27 m1 rfl rfl rfl rfl rfl (cS rfl) rfl rfl (fun a42 (a43:aH G K (aJ 9 K f2 f3 f1::aJ 69 K b1 0 ([]:List Edge)::box a0 27 [i64 t.N,i64 t.I,zS f2 f1.length f3,zS b1 ([]:List Edge).length 0]::box b 27 a::L) a42)=>(aX (aA ⟨aCh rfl,?_⟩)))))
   refine dW (by kernel_rfl) (yW ?_);exact ⟨f1,a0,f2,f3,b1,0,c,rfl,rfl,rfl,(aH.arr 2 [1,0] a43 rfl)⟩
theorem aGk {t:cO} {h:Nat} {R:(List Int)} (m:aH G K (L) w) (n:fJ K a1 h (zC t a4 c5 a7 c8)) (o:cR K a4 c5 t.L) (p:cR K a7 c8 t.E) (b:aEK t=some R):
  Calls Tryz.prog 51 ([cL a1 h]:List Value).toArray w (eN fun v w'=>∃ j k,v=zS j R.length k/\aH G K (aJ 2 K j k R::L) w'):=by
 refine zH func51 ?_;unfold aEK at b
 refine yW ?_;obtain ⟨a,q,b⟩:=aB b
 refine zF call89 (aDV m n o p q) ?_
 rintro _ b9 ⟨c,d,e,g,rfl,r⟩
 refine bR (vs:=zG) zeroValue27 r rfl (fun u c0 x=>(bS (i:=0) (ns:=(zC a c d e g)) (us:=(zC a c d e g)) sizeOf27 x rfl rfl rfl rfl rfl (cS rfl) rfl rfl (fun y (z:aH G K (box u 27 (zC a c d e g)::aJ 9 K c d a.L::aJ 69 K e g a.E::L) y)=>(yW ?_))));obtain ⟨c1,J,V,Z,a0⟩:=aH.lendS (i:=1) z (zR _) rfl
 obtain ⟨c2,a2,a3,a5,a6⟩:=aH.lendS (i:=1) Z J rfl
 obtain ⟨c3,l,a8,a9,b0⟩:=aH.lendB (i:=0) a5 rfl
 obtain ⟨c4,b1,b⟩:=aB b
 refine zF call48 (aCL a9 a8 (V.mono (zL a2 l)) (a3.mono l) b1) ?_
 rintro _ c6 ⟨b2,b3,rfl,b4⟩
 have b5:=b0 _ _ b4
 have b6:=a6 _ _ b5
 have b7:=a0 _ _ b6
 refine yW ?_;obtain rfl:=zI b
 exact aIK results51 ⟨b2,b3,rfl,(aH.arr 3 [] b7 rfl)⟩
theorem aFr {t:cO} {r:Nat} {R:cO} (hs:aH G K (L) w) (u:fJ K a1 r (zC t a4 c5 a7 c8)) (x:cR K a4 c5 t.L) (y:cR K a7 c8 t.E) (c:aDH t=some R):
  Calls Tryz.prog 22 ([cL a1 r]:List Value).toArray w (eN fun v w'=>∃ z J V Z,v=zA (zCa R z J V Z)/\aH G K (aJ 9 K z J R.L::aJ 69 K V Z R.E::L) w'):=by
 let n:=zG
 refine zH func22 ?_;unfold aDH at c
 refine yW ?_;refine bR (vs:=n) zeroValue27 hs rfl (fun a0 g6 b3=>(yW ?_))
 obtain ⟨a2,b4,c⟩:=aB c
 refine zF call46 (uR b3 u x y b4) ?_
 rintro _ g7 ⟨a3,a5,rfl,b5⟩
 obtain ⟨g8,o,b6,b7,b8⟩:=aH.lendS (i:=0) b5 (zR _) rfl
 obtain ⟨a,b9,c⟩:=aB c
 refine zF call45 (yA b7 (u.mono o) (x.mono o) (y.mono o) b6 b9) ?_
 rintro _ g9 ⟨d,e,g,h,rfl,c0⟩
 have c1:=b8 _ _ c0
 refine bR (vs:=n) zeroValue27 c1 rfl (fun a6 h0 c2=>(bS (i:=0) (ns:=(zC a d e g h)) (us:=(zC a d e g h)) sizeOf27 c2 rfl rfl rfl rfl rfl (cS rfl) rfl rfl (fun c3 (c4:aH G K (box a6 27 (zC a d e g h)::aJ 2 K a3 a5 a2::aJ 9 K d e a.L::aJ 69 K g h a.E::box a0 27 n::L) c3)=>(yW ?_))));obtain ⟨h1,c6,c7,c9,d0⟩:=aH.lendS (i:=2) c4 (zR _) rfl
 obtain ⟨h2,d1,d2,d3,d4⟩:=aH.lendS (i:=2) c9 c6 rfl
 obtain ⟨h4,a8,d5,d6,d7⟩:=aH.lendB (i:=0) d3 rfl
 obtain ⟨d8,d9,c⟩:=aB c
 refine zF call51 (aGk d6 d5 (c7.mono (zL d1 a8)) (d2.mono a8) d9) ?_
 rintro _ h5 ⟨e0,e1,rfl,e2⟩
 have e3:=d7 _ _ e2
 have e4:=d4 _ _ e3
 have e5:=d0 _ _ e4
 obtain ⟨h7,a9,e6,e7,e8⟩:=aH.lendS (i:=0) e5 (zR _) rfl
 obtain ⟨h8,b0,e9,f0,f1⟩:=aH.lendS (i:=0) e7 a9 rfl
 obtain ⟨i0,p,f2,f3,f4⟩:=aH.lendB (i:=0) f0 rfl
 obtain ⟨i1,q,f5,f6,f7⟩:=aH.lendS (i:=0) f3 (zL (zL a9 b0) p) rfl
 obtain ⟨b,f8,c⟩:=aB c
 refine zF call49 (yB f6 (f2.mono q) (e6.mono (zL (zL b0 p) q)) (e9.mono (zL p q)) f5 f8) ?_
 rintro _ i2 ⟨j,k,l,m,rfl,f9⟩
 have g0:=f7 _ _ f9
 have g1:=f4 _ _ g0
 have g2:=f1 _ _ g1
 have g3:=e8 _ _ g2
 refine bS (i:=7) (ns:=(zC b j k l m)) (us:=(zC b j k l m)) sizeOf27 g3 rfl rfl rfl rfl rfl (cS rfl) rfl rfl (fun g4 (b1:aH G K (aJ 9 K d e a.L::aJ 69 K g h a.E::box a6 27 (zC a d e g h)::aJ 2 K e0 e1 d8::aJ 9 K j k b.L::aJ 69 K l m b.E::aJ 2 K a3 a5 a2::box a0 27 (zC b j k l m)::L) g4)=>(yW ?_));obtain rfl:=zI c
 exact bK (mG results22 (dM (vs:=(zC b j k l m)) rfl cZ b1 (i:=7) rfl rfl rfl) ⟨j,k,l,m,rfl,(aH.arr 8 [4,5] b1 rfl)⟩)
theorem aFs {t:cO} {p:Nat} {j:(List Int)} {R:(List Bool)} (z:aH G K (L) w) (h3:fJ K a1 p (zC t a4 c5 a7 c8)) (h6:cR K a4 c5 t.L) (h9:cR K a7 c8 t.E) (J:cR K a10 c11 j) (b:aDI t j=some R):
  Calls Tryz.prog 90 ([cL a1 p,zS a10 j.length c11]:List Value).toArray w (eN fun v w'=>∃ q r,v=zS q R.length r/\aH G K (aJ 4 K q r R::L) w'):=by
 refine zH func90 ?_;unfold aDI at b
 refine yW ?_;obtain ⟨c,V,b⟩:=aB b
 refine wS (e:=(false:Bool)) dY ez_4 rfl rfl z rfl rfl rfl V rfl (fun d Z (a0:aH G K (aJ 4 K d c.length c::L) Z)=>(yW ?_));refine aZ (fun f w=>∃ k,tA k=some R/\f 5=zS d k.length c.length/\aH G K (aJ 4 K d c.length k::L) w) ?_ ?_
 ·rintro f c0 ⟨k,b,c1,a2⟩
  unfold tA at b
  refine yW ?_;obtain rfl:=zI b
  exact aIK results90 ⟨d,c.length,rfl,a2⟩
 obtain ⟨c2,a5,b⟩:=aB b
 refine cE a5 (fun s f w=>match s with|(g,l)=>f 1=zS a10 j.length c11/\f 5=zS d g.length c.length/\f 6=i64 l/\aH G K (aJ 4 K d c.length g::L) w) ?_ ?_
 ·exact ⟨rfl,rfl,rfl,a0⟩
 ·rintro ⟨g,l⟩ a6 f c3 a a8 ⟨a9,u,c4,m⟩
  replace a:aAC j g l=some a6:=a
  unfold aAC at a
  refine yW ?_
  rcases aG a with ⟨b0,a⟩|⟨b0,a⟩
  ·refine yW ?_;refine cT (yW ?_)
   obtain ⟨c6,b1,a⟩:=aB a
   refine yW ?_;obtain ⟨c7,c9,b2⟩:=cR.el (sz:=1) rfl J b1
   cases b2
   refine yW ?_;obtain ⟨d0,o,a⟩:=aB a
   have b3:=cU m (i:=0) rfl o
   refine aC (dB dY rfl b3 rfl rfl rfl o) ?_;obtain ⟨x,y,a⟩:=aB a
   refine iH (i:=0) (t:=0) (ns:=[zB true]) (e':=(true:Bool)) sizeOf4 m rfl (zR _) rfl rfl rfl o y rfl rfl (cS rfl) rfl (fun cs h=>by cases h;rfl) (fun b4 (b5:aH G K (aJ 4 K d c.length x::L) b4)=>(yW ?_));exact ⟨(x,wr (l+1)),(zI a).symm,a9,(Eq.trans u (congrArg (fun n=>zS d n c.length) (gN y))),rfl,b5⟩
  ·refine yW ?_
   have b6:=a8 _ (zI a).symm
   subst b6
   have b:(tA g)=some R:=b
   refine yW ?_;exact ⟨g,b,u,m⟩
theorem aCd {t:cO} {j:Nat} {e R:(List Bool)} (hs:aH G K (aJ 4 K a10 c11 e::L) w) (h3:fJ K a1 j (zC t a4 c5 a7 c8)) (h6:cR K a4 c5 t.L) (h9:cR K a7 c8 t.E) (g:aBB t e=some R):
  Calls Tryz.prog 91 ([cL a1 j,zS a10 e.length c11]:List Value).toArray w (eN fun v w'=>v=Value.tuple #[]/\e.length=R.length/\aH G K (aJ 4 K a10 c11 R::L) w'):=by
 refine zH func91 ?_;unfold aBB at g
 refine yW ?_;refine aZ (fun f w=>∃ r,tB r=some R/\e.length=r.length/\aH G K (aJ 4 K a10 c11 r::L) w) ?_ ?_
 ·rintro f h0 ⟨r,g,c6,c7⟩
  unfold tB at g
  obtain rfl:=zI g
  exact aFB results91 ⟨rfl,c6,c7⟩
 obtain ⟨h1,d0,g⟩:=aB g
 refine cE d0 (fun s f w=>match s with|(m,a5)=>f 0=cL a1 j/\f 1=zS a10 m.length c11/\f 4=zB a5/\e.length=m.length/\aH G K (aJ 4 K a10 c11 m::L) w) ?_ ?_
 ·exact ⟨rfl,rfl,rfl,rfl,hs⟩
 ·rintro ⟨m,a5⟩ u f h2 b d1 ⟨d2,d3,h4,b3,b4⟩
  replace b:aAF t m a5=some u:=b
  unfold aAF at b
  refine yW ?_
  rcases aG b with ⟨d4,b⟩|⟨d4,b⟩
  ·refine yW ?_;refine aZ (fun f w=>∃ o x,aAD o x=some u/\f 0=cL a1 j/\f 1=zS a10 o.length c11/\f 4=zB x/\e.length=o.length/\aH G K (aJ 4 K a10 c11 o::L) w) ?_ ?_
   ·rintro f h5 ⟨o,x,b,d5,d6,d7,d8,d9⟩
    unfold aAD at b
    refine yW ?_;exact ⟨(o,x),(zI b).symm,d5,d6,d7,d8,d9⟩
   refine yW ?_;refine aZ (fun f w=>∃ p y,tC p y=some u/\f 0=cL a1 j/\f 1=zS a10 p.length c11/\f 4=zB y/\e.length=p.length/\aH G K (aJ 4 K a10 c11 p::L) w) ?_ ?_
   ·rintro f h7 ⟨p,y,b,e0,e1,e2,e3,e4⟩
    unfold tC at b
    refine yW ?_;exact ⟨p,y,b,e0,e1,e2,e3,e4⟩
   obtain ⟨h8,e5,b⟩:=aB b
   refine cE e5 (fun s f w=>match s with|(d,k,l)=>f 0=cL a1 j/\f 1=zS a10 d.length c11/\f 4=zB k/\f 5=i64 l/\e.length=d.length/\aH G K (aJ 4 K a10 c11 d::L) w) ?_ ?_
   ·exact ⟨d2,d3,rfl,rfl,b3,b4⟩
   ·rintro ⟨d,k,l⟩ a6 f i0 a e6 ⟨z,J,V,a8,Z,b5⟩
    replace a:aAE t d k l=some a6:=a
    unfold aAE at a
    refine yW ?_
    rcases aG a with ⟨e7,a⟩|⟨e7,a⟩
    ·refine yW ?_;refine aZ (fun f w=>∃ q a0,tD l q a0=some a6/\f 0=cL a1 j/\f 1=zS a10 q.length c11/\f 4=zB a0/\f 5=i64 l/\e.length=q.length/\aH G K (aJ 4 K a10 c11 q::L) w) ?_ ?_
     ·rintro f i1 ⟨q,a0,a,e8,e9,f0,i2,f1,f2⟩
      unfold tD at a
      refine yW ?_;exact ⟨(q,a0,wr (l+1)),(zI a).symm,e8,e9,f0,rfl,f1,f2⟩
     refine yW ?_;obtain ⟨c,f3,a⟩:=aB a
     refine yW ?_;obtain ⟨i3,i4,f4⟩:=cR.el (sz:=3) rfl h9 f3
     cases f4
     refine yW ?_;refine bR (vs:=[i64 0,i64 0,i64 0]) zeroValue69 b5 rfl (fun a2 i5 f5=>(bS (i:=0) (ns:=[i64 c.F,i64 c.B,i64 c.To]) (us:=[i64 c.F,i64 c.B,i64 c.To]) sizeOf69 f5 rfl rfl rfl rfl rfl (cS rfl) rfl rfl (fun f6 (a3:aH G K (box a2 69 [i64 c.F,i64 c.B,i64 c.To]::aJ 4 K a10 c11 d::L) f6)=>?_)))
     iterate 3 refine aIQ ?_
     refine cQ (fun f w=>∃ a9,nM d k l c a9=some a6/\f 0=cL a1 j/\f 1=zS a10 d.length c11/\f 4=zB k/\f 5=i64 l/\f 6=zP (some ⟨a2,0,none⟩)/\f 41=zB a9/\e.length=d.length/\aH G K (box a2 69 [i64 c.F,i64 c.B,i64 c.To]::aJ 4 K a10 c11 d::L) w) ?_ ?_
     ·rintro f i6 ⟨a9,a,b6,b7,f7,b8,i7,i8,b9,b0⟩
      unfold nM at a
      refine yW ?_
      rcases aG a with ⟨f8,a⟩|⟨f8,a⟩
      ·refine yW ?_;obtain ⟨i9,b1,a⟩:=aB a
       have f9:=cU b0 (i:=1) rfl b1
       refine aC (dB dY rfl f9 rfl rfl rfl b1) ?_;obtain ⟨c0,b2,a⟩:=aB a
       refine iH (i:=1) (t:=0) (ns:=[zB true]) (e':=(true:Bool)) sizeOf4 b0 rfl (zR _) rfl rfl rfl b1 b2 rfl rfl (cS rfl) rfl (fun cs h=>by cases h;rfl) (fun g0 (g1:aH G K (box a2 69 [i64 c.F,i64 c.B,i64 c.To]::aJ 4 K a10 c11 c0::L) g0)=>(yW ?_));exact ⟨c0,true,a,b6,(Eq.trans b7 (congrArg (fun n=>zS a10 n c11) (gN b2))),rfl,b8,(b9.trans (gN b2)),(aH.arr 1 [] g1 rfl)⟩
      ·refine yW ?_;exact ⟨d,k,a,b6,b7,f7,b8,b9,(aH.arr 1 [] b0 rfl)⟩
     refine yW ?_
     rcases aG a with ⟨g2,a⟩|⟨g2,a⟩
     ·refine yW ?_;obtain ⟨j0,c1,a⟩:=aB a
      have c2:=cU a3 (i:=1) rfl c1
      refine aC (dB dY rfl c2 rfl rfl rfl c1) (yW ?_)
      rcases aG a with ⟨g3,a⟩|⟨g3,a⟩
      ·refine yW ?_;obtain ⟨g4,g5,a⟩:=aB a
       refine aC (dB dY rfl c2 rfl rfl rfl g5) (yW ?_);exact ⟨!g4,a,z,J,V,a8,rfl,rfl,Z,a3⟩
      ·refine yW ?_;exact ⟨false,a,z,J,V,a8,rfl,rfl,Z,a3⟩
     ·refine yW ?_;exact ⟨false,a,z,J,V,a8,rfl,rfl,Z,a3⟩
    ·refine yW ?_
     have g6:=e6 _ (zI a).symm
     subst g6
     have b:(tC d k)=some u:=b
     refine yW ?_;exact ⟨d,k,b,z,J,V,Z,b5⟩
  ·refine yW ?_
   have g7:=d1 _ (zI b).symm
   subst g7
   have g:(tB m)=some R:=g
   refine yW ?_;exact ⟨m,g,b3,b4⟩
theorem aCM {e:(List Bool)} {R:(List Int)} (hs:aH G K (L) w) (h3:cR K a1 c2 e) (c:aDd e=some R):
  Calls Tryz.prog 92 ([zS a1 e.length c2]:List Value).toArray w (eN fun v w'=>∃ r t,v=zS r R.length t/\aH G K (aJ 2 K r t R::L) w'):=by
 refine zH func92 ?_;unfold aDd at c
 refine yW ?_;refine bZ (Kt:=K) (xs:=([]:List Int)) (cs:=[]) (vs:=[]) bY fC rfl rfl hs rfl (by kernel_rfl) rfl rfl rfl trivial (fun u w5 (a6:aH G K (aJ 2 K u 0 ([]:List Int)::L) w5)=>(yW ?_))
 refine aZ (fun f w=>∃ l m n,vU l=some R/\f 3=zS m l.length n/\aH G K (aJ 2 K m n l::L) w) ?_ ?_
 ·rintro f c7 ⟨l,m,n,c,c8,a7⟩
  unfold vU at c
  refine yW ?_;obtain rfl:=zI c
  exact aIK results92 ⟨m,n,rfl,a7⟩
 obtain ⟨d0,b0,c⟩:=aB c
 refine cE b0 (fun s f w=>match s with|(d,b)=>∃ g j,f 0=zS a1 e.length c2/\f 3=zS g d.length j/\f 4=i64 b/\aH G K (aJ 2 K g j d::L) w) ?_ ?_
 ·exact ⟨u,0,rfl,rfl,rfl,a6⟩
 ·rintro ⟨d,b⟩ x f d1 a b1 ⟨g,j,y,z,J,q⟩
  replace a:aBC e d b=some x:=a
  unfold aBC at a
  refine yW ?_
  rcases aG a with ⟨b2,a⟩|⟨b2,a⟩
  ·refine yW ?_;refine aZ (fun f w=>∃ k o p,vV b k=some x/\f 0=zS a1 e.length c2/\f 3=zS o k.length p/\f 4=i64 b/\aH G K (aJ 2 K o p k::L) w) ?_ ?_
   ·rintro f d2 ⟨k,o,p,a,b3,b4,d3,b5⟩
    unfold vV at a
    refine yW ?_;exact ⟨(k,wr (b+1)),(zI a).symm,o,p,b3,b4,rfl,b5⟩
   refine yW ?_;obtain ⟨d4,b6,a⟩:=aB a
   refine yW ?_;obtain ⟨d5,d6,b7⟩:=cR.el (sz:=1) rfl h3 b6
   cases b7
   refine yW ?_
   rcases aG a with ⟨b8,a⟩|⟨b8,a⟩
   ·refine yW ?_;refine bZ (Kt:=K) (xs:=([b]:List Int)) (cs:=[i64 b]) (vs:=[(0,i64 b)]) bY fC rfl rfl q rfl (by kernel_rfl) rfl rfl rfl ⟨rfl,trivial⟩ (fun b9 c0 (c1:aH G K (aJ 2 K b9 1 ([b]:List Int)::aJ 2 K g j d::L) c0)=>?_)
    obtain ⟨V,c3,a⟩:=aB a
    refine dA (i:=0) bY underlying35 fC rfl rfl c1 rfl (zR _) (zR _) c3 rfl rfl rfl rfl (fun _ h=>h) (fun Z a0 c4 (c5:aH G K (aJ 2 K Z a0 V::L) c4)=>(yW ?_));exact ⟨V,Z,a0,a,y,rfl,J,c5⟩
   ·refine yW ?_;exact ⟨d,g,j,a,y,z,J,q⟩
  ·refine yW ?_
   have c6:=b1 _ (zI a).symm
   subst c6
   have c:(vU d)=some R:=c
   refine yW ?_;exact ⟨d,g,j,c,z,q⟩
theorem aFt {t:cO} {e:Nat} {R:(List Int)} (o:aH G K (L) w) (g:fJ K a1 e (zC t a4 c5 a7 c8)) (h:cR K a4 c5 t.L) (j:cR K a7 c8 t.E) (a:aDJ t=some R):
  Calls Tryz.prog 52 ([cL a1 e]:List Value).toArray w (eN fun v w'=>∃ k l,v=zS k R.length l/\aH G K (aJ 2 K k l R::L) w'):=by
 refine zH func52 ?_;unfold aDJ at a
 refine yW ?_;refine bZ (Kt:=K) (xs:=([t.I]:List Int)) (cs:=[i64 t.I]) (vs:=[(0,i64 t.I)]) bY fC rfl rfl o rfl (by kernel_rfl) rfl rfl rfl ⟨rfl,trivial⟩ (fun m p (q:aH G K (aJ 2 K m 1 ([t.I]:List Int)::L) p)=>?_)
 obtain ⟨b7,b,r,u,x⟩:=aH.lendS (i:=0) q (zR _) rfl
 obtain ⟨y,z,a⟩:=aB a
 refine zF call90 (aFs u (g.mono b) (h.mono b) (j.mono b) r z) ?_
 rintro _ J ⟨c,d,rfl,V⟩
 have Z:=x _ _ V
 refine yW ?_
 have a0:aH G K (aJ 4 K c d y::aJ 2 K m 1 ([t.I]:List Int)::L) J:=(aH.arr 2 [1,0] Z rfl)
 obtain ⟨a2,a3,a⟩:=aB a
 refine zF call91 (aCd a0 g h j a3) ?_
 rintro _ b8 ⟨rfl,a5,a6⟩
 iterate 4 refine aIQ ?_
 refine aO (v:=zS c a2.length d) (Eq.trans rfl (congrArg (fun n=>zS c n d) a5)) ?_;obtain ⟨b9,c0,a8,a9,b0⟩:=aH.lendS (i:=0) a6 (zR _) rfl
 obtain ⟨c1,b1,a⟩:=aB a
 refine zF call92 (aCM a9 a8 b1) ?_
 rintro _ c2 ⟨b2,b3,rfl,b4⟩
 have b5:=b0 _ _ b4
 refine yW ?_;obtain rfl:=zI a
 exact aIK results52 ⟨b2,b3,rfl,(aH.arr 3 [1] b5 rfl)⟩
theorem aGA {c:(List Int)} {n:Int} {R:Bool} (h:aH G K (L) w) (i:cR K a1 c2 c) (b:aFX c n=some R):
  Calls Tryz.prog 93 ([zS a1 c.length c2,i64 n]:List Value).toArray w (eN fun v w'=>v=zB R/\aH G K (L) w'):=by
 refine zH func93 ?_;unfold aFX at b
 refine yW ?_;refine aZ (fun f w=>zU=some R/\aH G K (L) w) ?_ ?_
 ·rintro f J ⟨b,j⟩
  unfold zU at b
  refine yW ?_;obtain rfl:=zI b
  exact aIK results93 ⟨rfl,j⟩
 obtain ⟨V,l,b⟩:=aB b
 refine cE l (fun (d:Int) f w=>f 0=zS a1 c.length c2/\f 1=i64 n/\f 5=i64 d/\aH G K (L) w) ?_ ?_
 ·exact ⟨rfl,rfl,rfl,h⟩
 ·rintro d m f Z a g ⟨o,p,a0,e⟩
  replace a:aCy c n d=some m:=a
  unfold aCy at a
  refine yW ?_
  rcases aG a with ⟨q,a⟩|⟨q,a⟩
  ·refine yW ?_;refine cT (yW ?_)
   obtain ⟨a2,r,a⟩:=aB a
   refine yW ?_;obtain ⟨a3,a4,t⟩:=cR.el (sz:=1) rfl i r
   cases t
   refine yW ?_
   rcases aG a with ⟨u,a⟩|⟨u,a⟩
   ·refine yW ?_;refine bK (cA (aW (aW ?_)))
    have x:=g _ (zI a).symm
    subst x
    have b:(some true)=some R:=b
    obtain rfl:=zI b
    exact cA (aW (aW (bM results93 rfl ⟨rfl,e⟩)))
   ·refine yW ?_;exact ⟨wr (d+1),(zI a).symm,o,p,rfl,e⟩
  ·refine yW ?_
   have z:=g _ (zI a).symm
   subst z
   have b:(zU)=some R:=b
   refine yW ?_;exact ⟨b,e⟩
theorem aGl {t:cO} {l:Nat} {k:(List Int)} {m:Int} {R:(List Int)} (hs:aH G K (L) w) (h3:fJ K a1 l (zC t a4 c5 a7 c8)) (h6:cR K a4 c5 t.L) (q:cR K a7 c8 t.E) (b7:cR K a10 c11 k) (b:aEL t k m=some R):
  Calls Tryz.prog 53 ([cL a1 l,zS a10 k.length c11,i64 m]:List Value).toArray w (eN fun v w'=>∃ Z a0,v=zS Z R.length a0/\aH G K (aJ 2 K Z a0 R::L) w'):=by
 refine zH func53 ?_;unfold aEL at b
 refine yW ?_;obtain ⟨c,b8,b⟩:=aB b
 refine wS (e:=(false:Bool)) dY ez_4 rfl rfl hs rfl rfl rfl b8 rfl (fun d b9 (c0:aH G K (aJ 4 K d c.length c::L) b9)=>(yW ?_));refine aZ (fun f w=>∃ p,vW t p=some R/\f 0=cL a1 l/\f 7=zS d p.length c.length/\aH G K (aJ 4 K d c.length p::L) w) ?_ ?_
 ·rintro f f9 ⟨p,b,g0,c1,c2⟩
  unfold vW at b
  refine yW ?_;obtain ⟨c3,c4,b⟩:=aB b
  refine zF call91 (aCd c2 h3 h6 q c4) ?_
  rintro _ g1 ⟨rfl,c6,c7⟩
  iterate 4 refine aIQ ?_
  refine aO (v:=zS d c3.length c.length) (Eq.trans c1 (congrArg (fun n=>zS d n c.length) c6)) ?_;obtain ⟨g2,g3,c9,d0,d1⟩:=aH.lendS (i:=0) c7 (zR _) rfl
  obtain ⟨g4,d2,b⟩:=aB b
  refine zF call92 (aCM d0 c9 d2) ?_
  rintro _ g5 ⟨d3,d4,rfl,d5⟩
  have d6:=d1 _ _ d5
  refine yW ?_;obtain rfl:=zI b
  exact aIK results53 ⟨d3,d4,rfl,(aH.arr 1 [] d6 rfl)⟩
 obtain ⟨g6,d8,b⟩:=aB b
 refine cE d8 (fun s f w=>match s with|(g,j)=>f 0=cL a1 l/\f 1=zS a10 k.length c11/\f 2=i64 m/\f 7=zS d g.length c.length/\f 8=i64 j/\aH G K (aJ 4 K d c.length g::L) w) ?_ ?_
 ·exact ⟨rfl,rfl,rfl,rfl,rfl,c0⟩
 ·rintro ⟨g,j⟩ r f g7 a d9 ⟨u,a2,a3,x,a5,y⟩
  replace a:aBD t k m g j=some r:=a
  unfold aBD at a
  refine yW ?_
  rcases aG a with ⟨e0,a⟩|⟨e0,a⟩
  ·refine yW ?_;refine aZ (fun f w=>∃ o,vX j o=some r/\f 0=cL a1 l/\f 1=zS a10 k.length c11/\f 2=i64 m/\f 7=zS d o.length c.length/\f 8=i64 j/\aH G K (aJ 4 K d c.length o::L) w) ?_ ?_
   ·rintro f g8 ⟨o,a,e1,e2,e3,e4,g9,e5⟩
    unfold vX at a
    refine yW ?_;exact ⟨(o,wr (j+1)),(zI a).symm,e1,e2,e3,e4,rfl,e5⟩
   iterate 1 refine aIQ ?_
   refine cQ (fun f w=>∃ z,vY t g j z=some r/\f 0=cL a1 l/\f 1=zS a10 k.length c11/\f 2=i64 m/\f 7=zS d g.length c.length/\f 8=i64 j/\f 44=zB z/\aH G K (aJ 4 K d c.length g::L) w) ?_ ?_
   ·rintro f h0 ⟨z,a,a6,a8,a9,b0,b1,h1,J⟩
    unfold vY at a
    refine yW ?_
    rcases aG a with ⟨e6,a⟩|⟨e6,a⟩
    ·refine yW ?_;obtain ⟨h2,e7,a⟩:=aB a
     refine yW ?_;obtain ⟨h4,h5,e8⟩:=cR.el (sz:=3) rfl q e7
     cases e8
     refine yW ?_;obtain ⟨h7,V,a⟩:=aB a
     have e9:=cU J (i:=0) rfl V
     refine aC (dB dY rfl e9 rfl rfl rfl V) ?_;obtain ⟨b2,b3,a⟩:=aB a
     refine iH (i:=0) (t:=0) (ns:=[zB true]) (e':=(true:Bool)) sizeOf4 J rfl (zR _) rfl rfl rfl V b3 rfl rfl (cS rfl) rfl (fun cs h=>by cases h;rfl) (fun f0 (f1:aH G K (aJ 4 K d c.length b2::L) f0)=>(yW ?_));exact ⟨b2,a,a6,a8,a9,(Eq.trans b0 (congrArg (fun n=>zS d n c.length) (gN b3))),b1,f1⟩
    ·refine yW ?_;exact ⟨g,a,a6,a8,a9,b0,b1,J⟩
   refine yW ?_;obtain ⟨h8,f2,a⟩:=aB a
   refine yW ?_;obtain ⟨i0,i1,f3⟩:=cR.el (sz:=3) rfl q f2
   cases f3
   refine yW ?_
   rcases aG a with ⟨f4,a⟩|⟨f4,a⟩
   ·refine yW ?_;obtain ⟨f5,f6,a⟩:=aB a
    refine zF call93 (aGA y b7 f6) ?_
    rintro _ i2 ⟨rfl,f7⟩
    refine yW ?_;exact ⟨f5,a,u,a2,a3,x,a5,rfl,f7⟩
   ·refine yW ?_;exact ⟨false,a,u,a2,a3,x,a5,rfl,y⟩
  ·refine yW ?_
   have f8:=d9 _ (zI a).symm
   subst f8
   have b:(vW t g)=some R:=b
   refine yW ?_;exact ⟨g,b,u,x,y⟩
theorem yC {t:cO} {k2:Nat} {R:(cO × (List (List Int)) × Bool)} (hs:aH G K (L) w) (h3:fJ K a1 k2 (zC t a4 c5 a7 c8)) (h6:cR K a4 c5 t.L) (h9:cR K a7 c8 t.E) (n:aBa t=some R):
  Calls Tryz.prog 23 ([cL a1 k2]:List Value).toArray w (eN fun v w'=>∃ i8 i9 j0 j1 j2 j3 g1,v=Value.tuple #[zA (zCa R.1 i8 i9 j0 j1),zS j2 R.2.1.length j3,zB R.2.2]/\List.length g1=List.length R.2.1/\aH G K (aJ 9 K i8 i9 R.1.L::aJ 69 K j0 j1 R.1.E::aJ 35 K j2 j3 (dC g1 R.2.1)::rows [2] g1 R.2.1::L) w'):=by
 let c:=zG
 let j4:=aJ 35 K none 0 (dC ([]:List (Dp.Hd (List Int))) ([]:List (List Int)))
 refine zH func23 ?_;unfold aBa at n
 refine yW ?_;refine bR (vs:=c) zeroValue27 hs rfl (fun b y1 m9=>(yW ?_))
 obtain ⟨b3,n0,n⟩:=aB n
 refine zF call52 (aFt m9 h3 h6 h9 n0) ?_
 rintro _ n1 ⟨a8,a9,rfl,n2⟩
 have n3:aH G K (rows [2] ([(a8,a9)]:List (Dp.Hd (List Int))) [b3]::box b 27 c::L) n1:=aH.rowsOne n2
 refine bZ (Kt:=K) (xs:=dC ([(a8,a9)]:List (Dp.Hd (List Int))) ([b3]:List (List Int))) (cs:=[zS a8 b3.length a9]) (vs:=[(0,zS a8 b3.length a9)]) iA aAW rfl rfl n3 rfl (by kernel_rfl) rfl rfl rfl ⟨rfl,trivial⟩ ?_
 intro g2 n4 (n5:aH G K (aJ 35 K g2 1 (dC ([(a8,a9)]:List (Dp.Hd (List Int))) ([b3]:List (List Int)))::rows [2] ([(a8,a9)]:List (Dp.Hd (List Int))) ([b3]:List (List Int))::box b 27 c::L) n4)
 refine yW ?_;refine bZ (Kt:=K) (xs:=([]:List Edge)) (cs:=[]) (vs:=[]) cI fG rfl rfl n5 rfl (by kernel_rfl) rfl rfl rfl trivial ?_
 intro j5 n6 (n7:aH G K (aJ 69 K j5 0 ([]:List Edge)::aJ 35 K g2 1 (dC ([(a8,a9)]:List (Dp.Hd (List Int))) ([b3]:List (List Int)))::rows [2] ([(a8,a9)]:List (Dp.Hd (List Int))) ([b3]:List (List Int))::box b 27 c::L) n6)
 refine yW ?_;refine aZ (fun f w=>∃ u V b8 b9 a6 Z a0,vZ t u V=some R/\f 0=cL a1 k2/\f 2=zP (some ⟨b,0,none⟩)/\f 5=zS b8 u.length b9/\f 6=zS Z V.length a0/\List.length a6=List.length u/\aH G K (aJ 69 K Z a0 V::aJ 35 K b8 b9 (dC a6 u)::rows [2] a6 u::box b 27 c::L) w) ?_ ?_
 ·rintro f y2 ⟨u,V,b8,b9,a6,Z,a0,n,y3,j6,y4,y5,n8,n9⟩
  unfold vZ at n
  refine yW ?_;refine bZ (Kt:=K) (xs:=([]:List bD)) (cs:=[]) (vs:=[]) cF fL rfl rfl n9 rfl (by kernel_rfl) rfl rfl rfl trivial (fun o0 o1 (o2:aH G K (aJ 9 K o0 0 ([]:List bD)::aJ 69 K Z a0 V::aJ 35 K b8 b9 (dC a6 u)::rows [2] a6 u::box b 27 c::L) o1)=>(yW ?_))
  obtain ⟨b4,o3,n⟩:=aB n
  refine iK (i:=0) cF underlying24 fL rfl rfl o2 rfl (zR _) h6 o3 rfl rfl rfl rfl (fun b0 b1 o4 (o5:aH G K (aJ 9 K b0 b1 b4::aJ 69 K Z a0 V::aJ 35 K b8 b9 (dC a6 u)::rows [2] a6 u::box b 27 c::L) o4)=>(yW ?_));refine aC (dD (vs:=[(0,i64 (u.length:Int)),(2,zS b0 b4.length b1),(3,zS Z V.length a0)]) (cs:=[i64 (u.length:Int),i64 0,zS b0 b4.length b1,zS Z V.length a0]) jT rfl (by kernel_rfl)) (yW ?_)
  refine bS (i:=4) (ns:=[i64 (u.length:Int),i64 0,zS b0 b4.length b1,zS Z V.length a0]) (us:=[i64 (u.length:Int),i64 0,zS b0 b4.length b1,zS Z V.length a0]) sizeOf27 o5 rfl j6 rfl rfl rfl (cS rfl) rfl rfl (fun o6 (j7:aH G K (aJ 9 K b0 b1 b4::aJ 69 K Z a0 V::aJ 35 K b8 b9 (dC a6 u)::rows [2] a6 u::box b 27 [i64 (u.length:Int),i64 0,zS b0 b4.length b1,zS Z V.length a0]::L) o6)=>(yW ?_));obtain rfl:=zI n
  exact bK (rZ results23 (dM (vs:=[i64 (u.length:Int),i64 0,zS b0 b4.length b1,zS Z V.length a0]) rfl cZ j7 (i:=4) rfl j6 rfl) (gT rfl rfl) (gT rfl rfl) ⟨b0,b1,Z,a0,b8,b9,a6,rfl,n8,(aH.arr 5 [0,1,2,3] j7 rfl)⟩)
 obtain ⟨y6,o8,n⟩:=aB n
 refine cE o8 (fun s f w=>match s with|(b5,c4,j)=>∃ d0 d1 c6 d2 d3,f 0=cL a1 k2/\f 2=zP (some ⟨b,0,none⟩)/\f 5=zS d0 b5.length d1/\f 6=zS d2 c4.length d3/\f 7=i64 j/\List.length c6=List.length b5/\aH G K (aJ 69 K d2 d3 c4::aJ 35 K d0 d1 (dC c6 b5)::rows [2] c6 b5::box b 27 c::L) w) ?_ ?_
 ·exact ⟨g2,1,([(a8,a9)]:List (Dp.Hd (List Int))),j5,0,rfl,rfl,rfl,rfl,rfl,rfl,n7⟩
 ·rintro ⟨b5,c4,j⟩ c7 f y7 k g3 ⟨d0,d1,c6,d2,d3,j8,j9,k0,k1,o9,k3,k4⟩
  replace k:aAG t b5 c4 j=some c7:=k
  unfold aAG at k
  refine yW ?_
  rcases aG k with ⟨p0,k⟩|⟨p0,k⟩
  ·refine yW ?_;refine aZ (fun f w=>∃ c0 d4 e2 e3 d5 e4 e5,aBE j c0 d4=some c7/\f 0=cL a1 k2/\f 2=zP (some ⟨b,0,none⟩)/\f 5=zS e2 c0.length e3/\f 6=zS e4 d4.length e5/\f 7=i64 j/\List.length d5=List.length c0/\aH G K (aJ 69 K e4 e5 d4::aJ 35 K e2 e3 (dC d5 c0)::rows [2] d5 c0::box b 27 c::L) w) ?_ ?_
   ·rintro f y8 ⟨c0,d4,e2,e3,d5,e4,e5,k,p1,p2,p3,p4,y9,p5,p6⟩
    unfold aBE at k
    refine yW ?_;exact ⟨(c0,d4,wr (j+1)),(zI k).symm,e2,e3,d5,e4,e5,p1,p2,p3,p4,rfl,p5,p6⟩
   refine yW ?_;refine aZ (fun f w=>∃ c1 d6 e6 e7 d7 e8 e9,wA j c1 d6=some c7/\f 0=cL a1 k2/\f 2=zP (some ⟨b,0,none⟩)/\f 5=zS e6 c1.length e7/\f 6=zS e8 d6.length e9/\f 7=i64 j/\List.length d7=List.length c1/\aH G K (aJ 69 K e8 e9 d6::aJ 35 K e6 e7 (dC d7 c1)::rows [2] d7 c1::box b 27 c::L) w) ?_ ?_
   ·rintro f z0 ⟨c1,d6,e6,e7,d7,e8,e9,k,p7,p8,p9,q0,q1,q2,q3⟩
    unfold wA at k
    refine yW ?_;exact ⟨c1,d6,e6,e7,d7,e8,e9,k,p7,p8,p9,q0,q1,q2,q3⟩
   obtain ⟨z1,q4,k⟩:=aB k
   refine cE q4 (fun s f w=>match s with|(d,e,o)=>∃ y z g l m,f 0=cL a1 k2/\f 2=zP (some ⟨b,0,none⟩)/\f 5=zS y d.length z/\f 6=zS l e.length m/\f 7=i64 j/\f 8=i64 o/\List.length g=List.length d/\aH G K (aJ 69 K l m e::aJ 35 K y z (dC g d)::rows [2] g d::box b 27 c::L) w) ?_ ?_
   ·exact ⟨d0,d1,c6,d2,d3,j8,j9,k0,k1,o9,rfl,k3,k4⟩
   ·rintro ⟨d,e,o⟩ d8 f z2 a g4 ⟨y,z,g,l,m,g5,g6,g7,g8,g9,h0,a5,f0⟩
    replace a:aBG t j d e o=some d8:=a
    unfold aBG at a
    refine yW ?_
    rcases aG a with ⟨q5,a⟩|⟨q5,a⟩
    ·refine yW ?_;refine aZ (fun f w=>∃ c2 d9 f1 f2 e0 f3 f4,wB o c2 d9=some d8/\f 0=cL a1 k2/\f 2=zP (some ⟨b,0,none⟩)/\f 5=zS f1 c2.length f2/\f 6=zS f3 d9.length f4/\f 7=i64 j/\f 8=i64 o/\List.length e0=List.length c2/\aH G K (aJ 69 K f3 f4 d9::aJ 35 K f1 f2 (dC e0 c2)::rows [2] e0 c2::box b 27 c::L) w) ?_ ?_
     ·rintro f z3 ⟨c2,d9,f1,f2,e0,f3,f4,a,q6,q7,q8,q9,r0,z4,r1,r2⟩
      unfold wB at a
      refine yW ?_;exact ⟨(c2,d9,wr (o+1)),(zI a).symm,f1,f2,e0,f3,f4,q6,q7,q8,q9,r0,rfl,r1,r2⟩
     refine yW ?_;obtain ⟨z5,e1,a⟩:=aB a
     obtain ⟨⟨z6,z7⟩,h1⟩:=get_hd a5 e1
     have k5:=cU f0 (i:=1) rfl (aFJ a5 e1 h1)
     refine aC (dB iA rfl k5 rfl rfl rfl e1) (aC (eO (t:=0) nI f0 (i:=1) rfl (aFJ a5 e1 h1) rfl rfl rfl) (aO h0 ?_));obtain ⟨z8,h2,z9,r3,r4,r5⟩:=aH.lendD' (i:=1) f0 a5 rfl rfl
     obtain ⟨x,r6,a⟩:=aB a
     refine zF call53 (aGl r4 (h3.mono h2) (h6.mono h2) (h9.mono h2) (rd_row (r3 _ _ _ h1 (ix_at e1))) r6) ?_
     rintro _ a00 ⟨p,q,rfl,r7⟩
     have k6:=r5 _ _ r7
     refine yW ?_
     rcases aG a with ⟨r8,a⟩|⟨r8,a⟩
     ·refine yW ?_;exact ⟨d,e,y,z,g,l,m,a,g5,g6,g7,g8,g9,h0,a5,(aH.arr 4 [3,0,1] k6 rfl)⟩
     ·refine yW ?_;refine aZ (fun f w=>∃ f5,wD j d e o x f5=some d8/\f 0=cL a1 k2/\f 2=zP (some ⟨b,0,none⟩)/\f 5=zS y d.length z/\f 6=zS l e.length m/\f 7=i64 j/\f 8=i64 o/\f 9=zS p x.length q/\f 10=i64 f5/\aH G K (aJ 35 K y z (dC g d)::rows [2] g d::aJ 2 K p q x::aJ 69 K l m e::box b 27 c::L) w) ?_ ?_
      ·rintro f k7 ⟨f5,a,k8,f6,r9,k9,l0,l1,a01,s0,h4⟩
       unfold wD at a
       iterate 1 refine aIQ ?_
       refine jR (fun f w=>∃ J b2 b6 b7 a2,wC j e o J b2=some d8/\f 0=cL a1 k2/\f 2=zP (some ⟨b,0,none⟩)/\f 5=zS b6 J.length b7/\f 6=zS l e.length m/\f 7=i64 j/\f 8=i64 o/\f 10=i64 b2/\List.length a2=List.length J/\aH G K (aJ 35 K b6 b7 (dC a2 J)::rows [2] a2 J::aJ 69 K l m e::box b 27 c::L) w) ?_ ?_
       ·rintro f a02 ⟨J,b2,b6,b7,a2,a,s1,h5,s2,a03,s3,s4,a04,s5,l2⟩
        unfold wC at a
        refine yW ?_
        rcases aG a with ⟨s6,a⟩|⟨s6,a⟩
        ·refine yW ?_;refine aC (dD (vs:=[]) (cs:=c) jT rfl (by kernel_rfl)) (bS (i:=3) (ns:=c) (us:=c) sizeOf27 l2 rfl h5 rfl rfl rfl (cS rfl) rfl rfl (fun l3 (s7:aH G K (aJ 35 K b6 b7 (dC a2 J)::rows [2] a2 J::aJ 69 K l m e::box b 27 c::L) l3)=>(yW ?_)))
         refine bK (aW (cA (aW (aW (aW ?_)))))
         have s8:=g4 _ (zI a).symm
         subst s8
         have k:(some (.inr (.inr (⟨0,0,[],[]⟩,[],false))))=some c7:=k
         refine cA (aW (cA (aW (aW (aW ?_)))))
         have s9:=g3 _ (zI k).symm
         subst s9
         have n:(some (⟨0,0,[],[]⟩,[],false))=some R:=n
         have t0:=aH.nil (α:=bD) s7 9 K
         have t1:=aH.nil (α:=Edge) t0 69 K
         have l4:aH G K (j4::rows [2] ([]:List (Dp.Hd (List Int))) ([]:List (List Int))::aJ 69 K none 0 ([]:List Edge)::aJ 9 K none 0 ([]:List bD)::aJ 35 K b6 b7 (dC a2 J)::rows [2] a2 J::aJ 69 K l m e::box b 27 c::L) l3:=aH.nil (α:=Cells _) (aH.rowsNil (α:=(List Int)) (tys:=[2]) t1) 35 K
         obtain rfl:=zI n
         exact cA (aW (aW (rZ results23 (dM (vs:=c) rfl cZ l4 (i:=7) rfl h5 rfl) (gT rfl rfl) (gT rfl rfl) ⟨none,0,none,0,none,0,([]:List (Dp.Hd (List Int))),rfl,rfl,(aH.arr 8 [3,2,0,1] l4 rfl)⟩)))
        ·refine yW ?_;refine aC (dD (vs:=[(0,i64 j),(1,i64 o),(2,i64 b2)]) (cs:=[i64 j,i64 o,i64 b2]) aDq rfl (by kernel_rfl)) (bZ (Kt:=K) (xs:=([⟨j,o,b2⟩]:List Edge)) (cs:=[i64 j,i64 o,i64 b2]) (vs:=[(0,zA #[i64 j,i64 o,i64 b2])]) cI fG rfl rfl l2 rfl (by kernel_rfl) rfl rfl rfl ⟨rfl,trivial⟩ (fun t3 t4 (t5:aH G K (aJ 69 K t3 1 ([⟨j,o,b2⟩]:List Edge)::aJ 35 K b6 b7 (dC a2 J)::rows [2] a2 J::aJ 69 K l m e::box b 27 c::L) t4)=>?_))
         obtain ⟨l5,t6,a⟩:=aB a
         refine dA (i:=2) cI underlying25 fG rfl rfl t5 rfl (zR _) (zR _) t6 rfl rfl rfl rfl (fun _ h=>h) (fun l6 l7 t7 (t8:aH G K (aJ 35 K b6 b7 (dC a2 J)::rows [2] a2 J::aJ 69 K l6 l7 l5::box b 27 c::L) t7)=>(yW ?_));exact ⟨J,l5,b6,b7,a2,l6,l7,a,s1,h5,s2,rfl,s3,s4,s5,(aH.arr 3 [2,0,1] t8 rfl)⟩
       refine yW ?_
       rcases aG a with ⟨t9,a⟩|⟨t9,a⟩
       ·refine yW ?_
        rcases aG a with ⟨u0,a⟩|⟨u0,a⟩
        ·refine yW ?_;refine aC (dD (vs:=[]) (cs:=c) jT rfl (by kernel_rfl)) (bS (i:=4) (ns:=c) (us:=c) sizeOf27 h4 rfl f6 rfl rfl rfl (cS rfl) rfl rfl (fun l8 (u1:aH G K (aJ 35 K y z (dC g d)::rows [2] g d::aJ 2 K p q x::aJ 69 K l m e::box b 27 c::L) l8)=>(yW ?_)))
         refine bK (aW (aW (cA (aW (aW (aW ?_))))))
         have u2:=g4 _ (zI a).symm
         subst u2
         have k:(some (.inr (.inr (⟨0,0,[],[]⟩,[],false))))=some c7:=k
         refine cA (aW (cA (aW (aW (aW ?_)))))
         have u3:=g3 _ (zI k).symm
         subst u3
         have n:(some (⟨0,0,[],[]⟩,[],false))=some R:=n
         have u4:=aH.nil (α:=bD) u1 9 K
         have u5:=aH.nil (α:=Edge) u4 69 K
         have l9:aH G K (j4::rows [2] ([]:List (Dp.Hd (List Int))) ([]:List (List Int))::aJ 69 K none 0 ([]:List Edge)::aJ 9 K none 0 ([]:List bD)::aJ 35 K y z (dC g d)::rows [2] g d::aJ 2 K p q x::aJ 69 K l m e::box b 27 c::L) l8:=aH.nil (α:=Cells _) (aH.rowsNil (α:=(List Int)) (tys:=[2]) u5) 35 K
         obtain rfl:=zI n
         exact cA (aW (aW (rZ results23 (dM (vs:=c) rfl cZ l9 (i:=8) rfl f6 rfl) (gT rfl rfl) (gT rfl rfl) ⟨none,0,none,0,none,0,([]:List (Dp.Hd (List Int))),rfl,rfl,(aH.arr 9 [3,2,0,1] l9 rfl)⟩)))
        ·refine yW ?_
         have u7:aH G K (aJ 2 K p q x::aJ 35 K y z (dC g d)::rows [2] g d::aJ 69 K l m e::box b 27 c::L) k7:=(aH.arr 3 [2,0,1] h4 rfl)
         have u8:aH G K (rows [2] ([(p,q)]:List (Dp.Hd (List Int))) [x]::aJ 35 K y z (dC g d)::rows [2] g d::aJ 69 K l m e::box b 27 c::L) k7:=aH.rowsOne u7
         refine bZ (Kt:=K) (xs:=dC ([(p,q)]:List (Dp.Hd (List Int))) ([x]:List (List Int))) (cs:=[zS p x.length q]) (vs:=[(0,zS p x.length q)]) iA aAW rfl rfl u8 rfl (by kernel_rfl) rfl rfl rfl ⟨rfl,trivial⟩ ?_
         intro u9 v0 (v1:aH G K (aJ 35 K u9 1 (dC ([(p,q)]:List (Dp.Hd (List Int))) ([x]:List (List Int)))::rows [2] ([(p,q)]:List (Dp.Hd (List Int))) ([x]:List (List Int))::aJ 35 K y z (dC g d)::rows [2] g d::aJ 69 K l m e::box b 27 c::L) v0)
         obtain ⟨h7,m0,a⟩:=aB a
         refine WO_appD (i:=0) (tys:=[2]) (hds:=g) (hds2:=([(p,q)]:List (Dp.Hd (List Int)))) iA underlying53 aAW rfl rfl v1 a5 rfl rfl rfl m0 rfl rfl rfl rfl ?_
         intro m1 m2 v2 (v3:aH G K (aJ 35 K m1 m2 (dC (g++([(p,q)]:List (Dp.Hd (List Int)))) h7)::rows [2] (g++([(p,q)]:List (Dp.Hd (List Int)))) h7::aJ 69 K l m e::box b 27 c::L) v2)
         refine yW ?_;exact ⟨h7,(d.length:Int),m1,m2,(g++([(p,q)]:List (Dp.Hd (List Int)))),a,k8,f6,rfl,k9,l0,l1,rfl,(aHa a5 rfl m0),v3⟩
       ·refine yW ?_;exact ⟨d,f5,y,z,g,a,k8,f6,r9,k9,l0,l1,s0,a5,(aH.arr 3 [0,1] h4 rfl)⟩
      obtain ⟨a05,v4,a⟩:=aB a
      refine cE v4 (fun s f w=>match s with|(c9,c3)=>f 0=cL a1 k2/\f 2=zP (some ⟨b,0,none⟩)/\f 5=zS y d.length z/\f 6=zS l e.length m/\f 7=i64 j/\f 8=i64 o/\f 9=zS p x.length q/\f 10=i64 c9/\f 11=i64 c3/\aH G K (aJ 35 K y z (dC g d)::rows [2] g d::aJ 2 K p q x::aJ 69 K l m e::box b 27 c::L) w) ?_ ?_
      ·exact ⟨g5,g6,g7,g8,g9,h0,rfl,rfl,rfl,k6⟩
      ·rintro ⟨c9,c3⟩ m3 f a06 r v5 ⟨h8,i0,i1,i2,i3,i4,f7,m4,m5,i5⟩
       replace r:aBF d x c9 c3=some m3:=r
       unfold aBF at r
       refine yW ?_
       rcases aG r with ⟨v6,r⟩|⟨v6,r⟩
       ·refine yW ?_;refine aZ (fun f w=>∃ f8,wE c3 f8=some m3/\f 0=cL a1 k2/\f 2=zP (some ⟨b,0,none⟩)/\f 5=zS y d.length z/\f 6=zS l e.length m/\f 7=i64 j/\f 8=i64 o/\f 9=zS p x.length q/\f 10=i64 f8/\f 11=i64 c3/\aH G K (aJ 35 K y z (dC g d)::rows [2] g d::aJ 2 K p q x::aJ 69 K l m e::box b 27 c::L) w) ?_ ?_
        ·rintro f a07 ⟨f8,r,v7,v8,v9,w0,w1,w2,w3,w4,a08,w5⟩
         unfold wE at r
         refine yW ?_;exact ⟨(f8,wr (c3+1)),(zI r).symm,v7,v8,v9,w0,w1,w2,w3,w4,rfl,w5⟩
        refine yW ?_;obtain ⟨a09,f9,r⟩:=aB r
        refine aC (dB iA rfl k5 rfl rfl rfl f9) ?_;obtain ⟨⟨a10,a11⟩,m6⟩:=get_hd a5 f9
        refine aC (eO (t:=0) nI i5 (i:=0) rfl (aFJ a5 f9 m6) rfl rfl rfl) (aO f7 ?_);obtain ⟨a12,w6,a13,w7,w8,w9⟩:=aH.lendD' (i:=0) i5 a5 rfl rfl
        obtain ⟨a14,x0,x1,x2,x3⟩:=aH.lendS (i:=0) w8 w6 rfl
        obtain ⟨a16,x4,r⟩:=aB r
        refine zF call54 (mE x2 ((rd_row (w7 _ _ _ m6 (ix_at f9))).mono x0) x1 x4) ?_
        rintro _ a17 ⟨rfl,x5⟩
        have x6:=x3 _ _ x5
        have m7:=w9 _ _ x6
        refine yW ?_
        rcases aG r with ⟨x7,r⟩|⟨x7,r⟩
        ·refine yW ?_;exact ⟨c3,r,h8,i0,i1,i2,i3,i4,f7,rfl,m5,m7⟩
        ·refine yW ?_;exact ⟨c9,r,h8,i0,i1,i2,i3,i4,f7,m4,m5,m7⟩
       ·refine yW ?_
        have x8:=v5 _ (zI r).symm
        subst x8
        have a:(wD j d e o x c9)=some d8:=a
        refine yW ?_;exact ⟨c9,a,h8,i0,i1,i2,i3,i4,f7,m4,i5⟩
    ·refine yW ?_
     have x9:=g4 _ (zI a).symm
     subst x9
     have k:(wA j d e)=some c7:=k
     refine yW ?_;exact ⟨d,e,y,z,g,l,m,k,g5,g6,g7,g8,g9,a5,f0⟩
  ·refine yW ?_
   have y0:=g3 _ (zI k).symm
   subst y0
   have n:(vZ t b5 c4)=some R:=n
   refine yW ?_;exact ⟨b5,c4,d0,d1,c6,d2,d3,n,j8,j9,k0,k1,k3,k4⟩
theorem aGB {t:cO} {n:Nat} {R:cO} (z:aH G K (L) w) (h3:fJ K a1 n (zC t a4 c5 a7 c8)) (J:cR K a4 c5 t.L) (V:cR K a7 c8 t.E) (l:aFY t=some R):
  Calls Tryz.prog 24 ([cL a1 n]:List Value).toArray w (eN fun v w'=>∃ o p q r,v=zA (zCa R o p q r)/\aH G K (aJ 9 K o p R.L::aJ 69 K q r R.E::L) w'):=by
 let h:=zG
 let m:=[i64 t.N,i64 t.I,zS none 0 0,zS none 0 0]
 refine zH func24 ?_;unfold aFY at l
 refine yW ?_;refine bR (vs:=h) zeroValue27 z rfl (fun j c6 u=>(yW ?_))
 refine dV (C:=fun w'=>∃ L',aH G K L' w') [(0,0),(1,0),(2,0),(3,0),(4,0),(5,0),(6,0),(7,0),(8,0),(9,1),(10,2)] bV (by kernel_rfl) (fun _ hg=>⟨_,aH.mono u hg⟩) (fun c7 Z=>?_)
 have a0:=aH.mono u Z
 refine yW ?_;refine bX rfl (fun _ _=>dD (vs:=[(0,i64 t.N),(1,i64 t.I)]) (cs:=m) jT rfl (by kernel_rfl)) (gX rfl (bR (vs:=h) zeroValue27 a0 rfl (fun k c9 x=>(aX (aA ⟨⟨_,x⟩,?_⟩)))))
 refine aCl rfl (bS (i:=0) (ns:=m) (us:=m) sizeOf27 x rfl rfl rfl rfl rfl (cS rfl) rfl rfl (fun a2 (a3:aH G K (box k 27 m::box j 27 h::L) a2)=>(yW ?_)));refine gZ (yW ?_)
 refine bZ (Kt:=K) (xs:=([]:List bD)) (cs:=[]) (vs:=[]) cF fL rfl rfl a3 rfl (by kernel_rfl) rfl rfl rfl trivial (fun a5 a6 (a8:aH G K (aJ 9 K a5 0 ([]:List bD)::box k 27 m::box j 27 h::L) a6)=>(yW ?_));obtain ⟨c,a9,l⟩:=aB l
 refine iK (i:=0) cF underlying24 fL rfl rfl a8 rfl (zR _) J a9 rfl rfl rfl rfl (fun a b b0 (b1:aH G K (aJ 9 K a b c::box k 27 m::box j 27 h::L) b0)=>(yW ?_));refine bS (i:=1) (ns:=[zS a c.length b]) (us:=[i64 t.N,i64 t.I,zS a c.length b,zS none 0 0]) sizeOf24 b1 rfl rfl rfl rfl rfl (cS rfl) rfl rfl (fun b2 (b3:aH G K (aJ 9 K a b c::box k 27 [i64 t.N,i64 t.I,zS a c.length b,zS none 0 0]::box j 27 h::L) b2)=>(yW ?_))
 refine bZ (Kt:=K) (xs:=([]:List Edge)) (cs:=[]) (vs:=[]) cI fG rfl rfl b3 rfl (by kernel_rfl) rfl rfl rfl trivial (fun b4 b5 (b6:aH G K (aJ 69 K b4 0 ([]:List Edge)::aJ 9 K a b c::box k 27 [i64 t.N,i64 t.I,zS a c.length b,zS none 0 0]::box j 27 h::L) b5)=>(yW ?_));obtain ⟨g,b7,l⟩:=aB l
 refine iK (i:=0) cI underlying25 fG rfl rfl b6 rfl (zR _) V b7 rfl rfl rfl rfl (fun d e b8 (b9:aH G K (aJ 69 K d e g::aJ 9 K a b c::box k 27 [i64 t.N,i64 t.I,zS a c.length b,zS none 0 0]::box j 27 h::L) b8)=>(yW ?_));refine bS (i:=2) (ns:=[zS d g.length e]) (us:=[i64 t.N,i64 t.I,zS a c.length b,zS d g.length e]) sizeOf25 b9 rfl rfl rfl rfl rfl (cS rfl) rfl rfl (fun c0 (c1:aH G K (aJ 69 K d e g::aJ 9 K a b c::box k 27 [i64 t.N,i64 t.I,zS a c.length b,zS d g.length e]::box j 27 h::L) c0)=>(yW ?_))
 refine bS (i:=3) (ns:=[i64 t.N,i64 t.I,zS a c.length b,zS d g.length e]) (us:=[i64 t.N,i64 t.I,zS a c.length b,zS d g.length e]) sizeOf27 c1 rfl rfl rfl rfl rfl (cS rfl) rfl rfl (fun c2 (y:aH G K (aJ 69 K d e g::aJ 9 K a b c::box k 27 [i64 t.N,i64 t.I,zS a c.length b,zS d g.length e]::box j 27 [i64 t.N,i64 t.I,zS a c.length b,zS d g.length e]::L) c2)=>(yW ?_));obtain rfl:=zI l
 exact bK (mG results24 (dM (vs:=[i64 t.N,i64 t.I,zS a c.length b,zS d g.length e]) rfl cZ y (i:=3) rfl rfl rfl) ⟨a,b,d,e,rfl,(aH.arr 4 [1,0] y rfl)⟩)
end Gv
