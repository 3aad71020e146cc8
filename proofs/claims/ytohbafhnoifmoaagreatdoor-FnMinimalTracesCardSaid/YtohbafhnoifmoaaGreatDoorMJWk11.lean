/- Walks, printed by program. -/
import Derived.Test.YtohbafhnoifmoaaGreatDoorMJWk1
import Derived.Test.YtohbafhnoifmoaaGreatDoorMJWk9
import Derived.Test.YtohbafhnoifmoaaGreatDoorMJT
import Derived.Test.YtohbafhnoifmoaaGreatDoorMJWk3
import Derived.Test.YtohbafhnoifmoaaGreatDoorMJWk7
set_option linter.all false
namespace Gv
open Go.Value renaming slice→zS,bool→zB,pointer→zP,agg→zA
open Option.some renaming inj→zI
open Gv.Hp renaming le_trans→zL,le_refl→zR
open Go Go.Proofs Go.Proofs.Tryz
set_option maxRecDepth 20000
set_option maxHeartbeats 40000000
variable {G:uA} {K:Hp} {L:List iU} {w:World} {a1 a4 a7 a10 a13 a16:Option Addr} {c2 c5 c8 c14 c17 c11:Nat}
theorem kM {t:cO} {e0:(List Int)} {R:(cO × (List Int))} (hs:aH G K (L) w) (hG:G.lo=0) (h3:cR K a1 c2 t.L) (h6:cR K a4 c5 t.E) (h9:cR K a7 c8 e0) (y:qW t e0=some R):
  Calls Tryz.prog 76 ([zA (zCa t a1 c2 a4 c5),zS a7 e0.length c8]:List Value).toArray w (eN fun v w'=>∃ f6 f7 f8 f9 g0 g1,v=Value.tuple #[zA (zCa R.1 f6 f7 f8 f9),zS g0 R.2.length g1]/\aH G K (aJ 9 K f6 f7 R.1.L::aJ 69 K f8 f9 R.1.E::aJ 2 K g0 g1 R.2::L) w'):=by
 let p:=(zC t a1 c2 a4 c5)
 let q:=zG
 refine zH func76 ?_;unfold qW at y
 refine yW ?_;refine fS (v:=zA (zCa t a1 c2 a4 c5)) (vs:=p) hs rfl rfl (fun e v8 j9=>(bR (vs:=q) zeroValue27 j9 rfl (fun j v9 k0=>(yW ?_))))
 obtain ⟨c9,k1,y⟩:=aB y
 refine zF call117 (aDt k0 h9 k1) ?_
 rintro _ w0 ⟨b7,b8,rfl,k2⟩
 refine bR (vs:=[zS none 0 0]) zeroValue35 k2 rfl (fun g w1 k3=>(bS (i:=0) (ns:=[zS b7 c9.length b8]) (us:=[zS b7 c9.length b8]) sizeOf35 k3 rfl rfl rfl rfl rfl (cS rfl) rfl rfl (fun k4 (k5:aH G K (box g 35 [zS b7 c9.length b8]::aJ 2 K b7 b8 c9::box j 27 q::box e 27 p::L) k4)=>(yW ?_))));refine aZ (fun f w=>∃ a6 a9 b0,jE t a6=some R/\f 2=zP (some ⟨e,0,none⟩)/\f 4=zP (some ⟨j,0,none⟩)/\f 6=zP (some ⟨g,0,none⟩)/\aH G K (aJ 2 K a9 b0 a6::box g 35 [zS a9 a6.length b0]::box j 27 q::box e 27 p::L) w) ?_ ?_
 ·rintro f w2 ⟨a6,a9,b0,y,k6,g2,k7,k8⟩
  unfold jE at y
  refine yW ?_;refine aC (rC (vs:=[zP (some ⟨g,0,none⟩)]) (lst1 k7)) (yW ?_)
  refine aC (rC (vs:=[zP (some ⟨e,0,none⟩)]) (lst1 k6)) ?_;obtain ⟨w3,g3,k9,l0,l1⟩:=aH.lendS (i:=0) k8 (zR _) rfl
  obtain ⟨w4,e1,l2,l3,l4⟩:=aH.lendB (i:=0) l0 rfl
  obtain ⟨w5,d0,l5,l6,l7⟩:=aH.lendB (i:=1) l3 rfl
  obtain ⟨a,l8,y⟩:=aB y
  refine zF call121 (aBV l6 hG (l2.mono d0) (k9.mono (zL e1 d0)) l5 (h3.mono (zL (zL g3 e1) d0)) (h6.mono (zL (zL g3 e1) d0)) l8) ?_
  rintro _ w6 ⟨V,Z,a0,a2,e2,e3,rfl,l9⟩
  have m0:=l7 _ _ l9
  have m1:=l4 _ _ m0
  have m2:=l1 _ _ m1
  refine yW ?_;refine bR (vs:=q) zeroValue27 m2 rfl (fun g4 w7 m3=>(bS (i:=0) (ns:=(zC a.1 V Z a0 a2)) (us:=(zC a.1 V Z a0 a2)) sizeOf27 m3 rfl rfl rfl rfl rfl (cS rfl) rfl rfl (fun m4 (m5:aH G K (box g4 27 (zC a.1 V Z a0 a2)::aJ 2 K a9 b0 a6::box g 35 [zS a9 a6.length b0]::box e 27 p::aJ 9 K V Z a.1.L::aJ 69 K a0 a2 a.1.E::aJ 2 K e2 e3 a.2.1::box j 27 q::L) m4)=>(yW ?_))))
  refine bS (i:=7) (ns:=(zC a.1 V Z a0 a2)) (us:=(zC a.1 V Z a0 a2)) sizeOf27 m5 rfl g2 rfl rfl rfl (cS rfl) rfl rfl (fun m6 (g5:aH G K (box g4 27 (zC a.1 V Z a0 a2)::aJ 2 K a9 b0 a6::box g 35 [zS a9 a6.length b0]::box e 27 p::aJ 9 K V Z a.1.L::aJ 69 K a0 a2 a.1.E::aJ 2 K e2 e3 a.2.1::box j 27 (zC a.1 V Z a0 a2)::L) m6)=>(yW ?_));obtain rfl:=zI y
  exact bK (uW results76 (dM (vs:=(zC a.1 V Z a0 a2)) rfl cZ g5 (i:=7) rfl g2 rfl) (gT rfl rfl) ⟨V,Z,a0,a2,e2,e3,rfl,(aH.arr 8 [4,5,6] g5 rfl)⟩)
 obtain ⟨w8,m8,y⟩:=aB y
 refine cE m8 (fun (b:List Int) f w=>∃ c d,f 2=zP (some ⟨e,0,none⟩)/\f 4=zP (some ⟨j,0,none⟩)/\f 6=zP (some ⟨g,0,none⟩)/\aH G K (box g 35 [zS c b.length d]::aJ 2 K c d b::box j 27 q::box e 27 p::L) w) ?_ ?_
 ·exact ⟨b7,b8,rfl,rfl,rfl,k5⟩
 ·rintro b d1 f m9 o n0 ⟨c,d,n1,n2,n3,n4⟩
  replace o:lX t b=some d1:=o
  unfold lX at o
  refine aZ (fun f w=>∃ b9 d2 d3,lT b9=some d1/\f 2=zP (some ⟨e,0,none⟩)/\f 4=zP (some ⟨j,0,none⟩)/\f 6=zP (some ⟨g,0,none⟩)/\aH G K (aJ 2 K d2 d3 b9::box g 35 [zS d2 b9.length d3]::box j 27 q::box e 27 p::L) w) ?_ ?_
  ·rintro f w9 ⟨b9,d2,d3,o,n5,n6,n7,n8⟩
   unfold lT at o
   refine yW ?_;exact ⟨b9,(zI o).symm,d2,d3,n5,n6,n7,(aH.arr 2 [1,0] n8 rfl)⟩
  refine yW ?_;refine aZ (fun f w=>∃ a8 d4 d5 b5,jF b a8=some d1/\f 2=zP (some ⟨e,0,none⟩)/\f 4=zP (some ⟨j,0,none⟩)/\f 6=zP (some ⟨g,0,none⟩)/\f 7=zS d4 a8.length d5/\List.length b5=List.length a8/\aH G K (aJ 35 K d4 d5 (dC b5 a8)::rows [2] b5 a8::box g 35 [zS c b.length d]::aJ 2 K c d b::box j 27 q::box e 27 p::L) w) ?_ ?_
  ·rintro f x0 ⟨a8,d4,d5,b5,o,g6,g7,e4,x1,n9,o0⟩
   unfold jF at o
   refine yW ?_;obtain ⟨x2,x3,o1,x4,o2,o3⟩:=aH.lendD' (i:=0) o0 n9 rfl rfl
   obtain ⟨c0,o4,o⟩:=aB o
   refine zF call118 (aEs o2 o1 o4) ?_
   rintro _ x5 ⟨c1,c3,rfl,o5⟩
   have o6:=o3 _ _ o5
   refine yW ?_;obtain ⟨x6,o7,o8,o9,p0⟩:=aH.lendS (i:=2) o6 (zR _) rfl
   obtain ⟨x7,p1,p2,p3,p4⟩:=aH.lendS (i:=3) o9 o7 rfl
   obtain ⟨x8,p5,o⟩:=aB o
   refine zF call119 (iR p3 (o8.mono p1) p2 p5) ?_
   rintro _ x9 ⟨rfl,p6⟩
   have p7:=p4 _ _ p6
   have g8:=p0 _ _ p7
   refine yW ?_
   rcases aG o with ⟨p8,o⟩|⟨p8,o⟩
   ·refine yW ?_
    have p9:=n0 _ (zI o).symm
    subst p9
    have y:(jE t b)=some R:=y
    refine yW ?_;exact ⟨b,c,d,y,g6,g7,e4,(aH.arr 4 [1] g8 rfl)⟩
   ·refine yW ?_;refine bS (i:=4) (ns:=[zS c1 c0.length c3]) (us:=[zS c1 c0.length c3]) sizeOf35 g8 rfl e4 rfl rfl rfl (cS rfl) rfl rfl (fun q0 (q1:aH G K (aJ 2 K c1 c3 c0::aJ 2 K c d b::aJ 35 K d4 d5 (dC b5 a8)::rows [2] b5 a8::box g 35 [zS c1 c0.length c3]::box j 27 q::box e 27 p::L) q0)=>(yW ?_))
    exact ⟨c0,c1,c3,o,g6,g7,e4,(aH.arr 4 [0] q1 rfl)⟩
  have q2:aH G K (aJ 35 K none 0 (dC ([]:List (Dp.Hd (List Int))) ([]:List (List Int)))::rows [2] ([]:List (Dp.Hd (List Int))) ([]:List (List Int))::box g 35 [zS c b.length d]::aJ 2 K c d b::box j 27 q::box e 27 p::L) m9:=aH.nil (α:=Cells _) (aH.rowsNil (α:=(List Int)) (tys:=[2]) n4) 35 K
  obtain ⟨y0,q3,o⟩:=aB o
  refine cE q3 (fun s f w=>match s with|(k,x)=>∃ r u l,f 2=zP (some ⟨e,0,none⟩)/\f 4=zP (some ⟨j,0,none⟩)/\f 6=zP (some ⟨g,0,none⟩)/\f 7=zS r k.length u/\f 22=i64 t.N/\f 23=i64 x/\List.length l=List.length k/\aH G K (aJ 35 K r u (dC l k)::rows [2] l k::box g 35 [zS c b.length d]::aJ 2 K c d b::box j 27 q::box e 27 p::L) w) ?_ ?_
  ·exact ⟨none,0,[],n1,n2,n3,rfl,rfl,rfl,rfl,q2⟩
  ·rintro ⟨k,x⟩ d6 f y1 m q4 ⟨r,u,l,g9,h0,h1,h2,q5,q6,e5,e6⟩
   replace m:lW t b k x=some d6:=m
   unfold lW at m
   refine yW ?_
   rcases aG m with ⟨q7,m⟩|⟨q7,m⟩
   ·refine yW ?_;refine aZ (fun f w=>∃ b1 d7 d8 c4,lU x b1=some d6/\f 2=zP (some ⟨e,0,none⟩)/\f 4=zP (some ⟨j,0,none⟩)/\f 6=zP (some ⟨g,0,none⟩)/\f 7=zS d7 b1.length d8/\f 22=i64 t.N/\f 23=i64 x/\List.length c4=List.length b1/\aH G K (aJ 35 K d7 d8 (dC c4 b1)::rows [2] c4 b1::box g 35 [zS c b.length d]::aJ 2 K c d b::box j 27 q::box e 27 p::L) w) ?_ ?_
    ·rintro f y2 ⟨b1,d7,d8,c4,m,q8,q9,r0,r1,r2,y3,r3,r4⟩
     unfold lU at m
     refine yW ?_;exact ⟨(b1,wr (x+1)),(zI m).symm,d7,d8,c4,q8,q9,r0,r1,r2,rfl,r3,r4⟩
    refine yW ?_;obtain ⟨d9,h4,m⟩:=aB m
    have h5:=cU e6 (i:=3) rfl h4
    refine aC (dB bY rfl h5 rfl rfl rfl h4) (yW ?_);refine bZ (Kt:=K) (xs:=([d9]:List Int)) (cs:=[i64 d9]) (vs:=[(0,i64 d9)]) bY fC rfl rfl e6 rfl (by kernel_rfl) rfl rfl rfl ⟨rfl,trivial⟩ (fun h7 r5 (r6:aH G K (aJ 2 K h7 1 ([d9]:List Int)::aJ 35 K r u (dC l k)::rows [2] l k::box g 35 [zS c b.length d]::aJ 2 K c d b::box j 27 q::box e 27 p::L) r5)=>(yW ?_))
    obtain ⟨c6,h8,m⟩:=aB m
    obtain ⟨i0,i1,i2⟩:=Cut.ex 1 a1 c2 1
    have r7:=cR.cut' h3 h8 i2
    refine aC (wU cF h3.room i2 rfl rfl rfl h8) (yW ?_);refine aZ (fun f w=>∃ a3 z J,jG k x a3=some d6/\f 2=zP (some ⟨e,0,none⟩)/\f 4=zP (some ⟨j,0,none⟩)/\f 6=zP (some ⟨g,0,none⟩)/\f 7=zS r k.length u/\f 9=zS z a3.length J/\f 22=i64 t.N/\f 23=i64 x/\aH G K (aJ 2 K z J a3::aJ 35 K r u (dC l k)::rows [2] l k::box g 35 [zS c b.length d]::aJ 2 K c d b::box j 27 q::box e 27 p::L) w) ?_ ?_
    ·rintro f r8 ⟨a3,z,J,m,r9,s0,s1,y4,y5,s2,s3,s4⟩
     unfold jG at m
     refine yW ?_
     have s5:aH G K (rows [2] ([(z,J)]:List (Dp.Hd (List Int))) [a3]::aJ 35 K r u (dC l k)::rows [2] l k::box g 35 [zS c b.length d]::aJ 2 K c d b::box j 27 q::box e 27 p::L) r8:=aH.rowsOne s4
     refine bZ (Kt:=K) (xs:=dC ([(z,J)]:List (Dp.Hd (List Int))) ([a3]:List (List Int))) (cs:=[zS z a3.length J]) (vs:=[(0,zS z a3.length J)]) iA aAW rfl rfl s5 rfl (by kernel_rfl) rfl rfl rfl ⟨rfl,trivial⟩ ?_
     intro s6 s7 (s8:aH G K (aJ 35 K s6 1 (dC ([(z,J)]:List (Dp.Hd (List Int))) ([a3]:List (List Int)))::rows [2] ([(z,J)]:List (Dp.Hd (List Int))) ([a3]:List (List Int))::aJ 35 K r u (dC l k)::rows [2] l k::box g 35 [zS c b.length d]::aJ 2 K c d b::box j 27 q::box e 27 p::L) s7)
     obtain ⟨e7,i3,m⟩:=aB m
     refine WO_appD (i:=0) (tys:=[2]) (hds:=l) (hds2:=([(z,J)]:List (Dp.Hd (List Int)))) iA underlying53 aAW rfl rfl s8 e5 rfl rfl rfl i3 rfl rfl rfl rfl ?_
     intro i4 i5 s9 (t0:aH G K (aJ 35 K i4 i5 (dC (l++([(z,J)]:List (Dp.Hd (List Int)))) e7)::rows [2] (l++([(z,J)]:List (Dp.Hd (List Int)))) e7::box g 35 [zS c b.length d]::aJ 2 K c d b::box j 27 q::box e 27 p::L) s9)
     refine yW ?_;exact ⟨e7,i4,i5,(l++([(z,J)]:List (Dp.Hd (List Int)))),m,r9,s0,s1,rfl,s2,s3,(aHa e5 rfl i3),t0⟩
    obtain ⟨y6,t1,m⟩:=aB m
    refine cE t1 (fun s f w=>match s with|(a5,b6)=>∃ b2 b3,f 2=zP (some ⟨e,0,none⟩)/\f 4=zP (some ⟨j,0,none⟩)/\f 6=zP (some ⟨g,0,none⟩)/\f 7=zS r k.length u/\f 8=i64 x/\f 9=zS b2 a5.length b3/\f 22=i64 t.N/\f 23=i64 x/\f 33=zS i0 c6.length i1/\f 34=i64 (c6.length:Int)/\f 35=i64 b6/\aH G K (aJ 2 K b2 b3 a5::aJ 35 K r u (dC l k)::rows [2] l k::box g 35 [zS c b.length d]::aJ 2 K c d b::box j 27 q::box e 27 p::L) w) ?_ ?_
    ·exact ⟨h7,1,g9,h0,h1,h2,rfl,rfl,q5,q6,rfl,rfl,rfl,r6⟩
    ·rintro ⟨a5,b6⟩ i6 f y7 n t2 ⟨b2,b3,e8,e9,f0,f1,i7,f2,f3,f4,i8,i9,j0,j1⟩
     replace n:lV t b x c6 a5 b6=some i6:=n
     unfold lV at n
     refine yW ?_
     rcases aG n with ⟨t3,n⟩|⟨t3,n⟩
     ·refine yW ?_;refine cT (yW ?_)
      obtain ⟨y8,t4,n⟩:=aB n
      refine yW ?_;obtain ⟨y9,z0,t5⟩:=cR.el (sz:=1) rfl r7 t4
      cases t5
      iterate 9 refine aIQ ?_
      refine jR (fun f w=>∃ b4,jH a5 b6 b4=some i6/\f 2=zP (some ⟨e,0,none⟩)/\f 4=zP (some ⟨j,0,none⟩)/\f 6=zP (some ⟨g,0,none⟩)/\f 7=zS r k.length u/\f 8=i64 x/\f 9=zS b2 a5.length b3/\f 12=i64 b4/\f 22=i64 t.N/\f 23=i64 x/\f 33=zS i0 c6.length i1/\f 34=i64 (c6.length:Int)/\f 35=i64 b6/\aH G K (aJ 2 K b2 b3 a5::aJ 35 K r u (dC l k)::rows [2] l k::box g 35 [zS c b.length d]::aJ 2 K c d b::box j 27 q::box e 27 p::L) w) ?_ ?_
      ·rintro f z1 ⟨b4,n,t6,t7,t8,t9,u0,z2,z3,u1,u2,u3,u4,z4,u5⟩
       unfold jH at n
       refine yW ?_;refine bZ (Kt:=K) (xs:=([b4]:List Int)) (cs:=[i64 b4]) (vs:=[(0,i64 b4)]) bY fC rfl rfl u5 rfl (by kernel_rfl) rfl rfl rfl ⟨rfl,trivial⟩ (fun u6 u7 (u8:aH G K (aJ 2 K u6 1 ([b4]:List Int)::aJ 2 K b2 b3 a5::aJ 35 K r u (dC l k)::rows [2] l k::box g 35 [zS c b.length d]::aJ 2 K c d b::box j 27 q::box e 27 p::L) u7)=>?_)
       obtain ⟨j2,u9,n⟩:=aB n
       refine dA (i:=0) bY underlying35 fC rfl rfl u8 rfl (zR _) (zR _) u9 rfl rfl rfl rfl (fun _ h=>h) (fun j3 j4 v0 (v1:aH G K (aJ 2 K j3 j4 j2::aJ 35 K r u (dC l k)::rows [2] l k::box g 35 [zS c b.length d]::aJ 2 K c d b::box j 27 q::box e 27 p::L) v0)=>(yW ?_));exact ⟨(j2,wr (b6+1)),(zI n).symm,j3,j4,t6,t7,t8,t9,u0,rfl,u1,u2,u3,u4,rfl,v1⟩
      refine yW ?_;obtain ⟨z5,v2,n⟩:=aB n
      refine zF call95 (jB j1 h3 h6 v2) ?_
      rintro _ z6 ⟨rfl,j5⟩
      refine yW ?_
      rcases aG n with ⟨v3,n⟩|⟨v3,n⟩
      ·refine yW ?_;obtain ⟨v4,v5,n⟩:=aB n
       refine aC (dB bY rfl h5 rfl rfl rfl v5) (yW ?_);exact ⟨v4,n,e8,e9,f0,f1,i7,f2,rfl,f3,f4,i8,i9,j0,j5⟩
      ·refine yW ?_;exact ⟨(-1),n,e8,e9,f0,f1,i7,f2,rfl,f3,f4,i8,i9,j0,j5⟩
     ·refine yW ?_
      have v6:=t2 _ (zI n).symm
      subst v6
      have m:(jG k x a5)=some d6:=m
      refine yW ?_;exact ⟨a5,b2,b3,m,e8,e9,f0,f1,f2,f3,f4,j1⟩
   ·refine yW ?_
    have v7:=q4 _ (zI m).symm
    subst v7
    have o:(jF b k)=some d1:=o
    refine yW ?_;exact ⟨k,r,u,l,o,g9,h0,h1,h2,e5,e6⟩
theorem aDX {t R:cO} (hs:aH G K (L) w) (hG:G.lo=0) (h3:cR K a1 c2 t.L) (h6:cR K a4 c5 t.E) (d:aAO t=some R):
  Calls Tryz.prog 38 ([zA (zCa t a1 c2 a4 c5)]:List Value).toArray w (eN fun v w'=>∃ c0 c1 c3 c4,v=zA (zCa R c0 c1 c3 c4)/\aH G K (aJ 9 K c0 c1 R.L::aJ 69 K c3 c4 R.E::L) w'):=by
 let g:=zG
 refine zH func38 ?_;unfold aAO at d
 refine yW ?_;refine fS (v:=zA (zCa t a1 c2 a4 c5)) (vs:=(zC t a1 c2 a4 c5)) hs rfl rfl (fun b7 w8 e6=>(bR (vs:=g) zeroValue27 e6 rfl (fun q i8 e7=>(yW ?_))))
 refine cQ (fun f w=>∃ r u h k b0 l m n o,rS r u h k=some R/\f 2=zP (some ⟨q,0,none⟩)/\f 3=zP (some ⟨b0,0,none⟩)/\aH G K (aJ 69 K n o k::aJ 9 K l m h::box b0 27 [i64 r,i64 u,zS l h.length m,zS n k.length o]::box q 27 g::L) w) ?_ ?_
 ·rintro f i9 ⟨r,u,h,k,b0,l,m,n,o,d,c6,j0,e8⟩
  unfold rS at d
  refine yW ?_;refine bS (i:=3) (ns:=[i64 r,i64 u,zS l h.length m,zS n k.length o]) (us:=[i64 r,i64 u,zS l h.length m,zS n k.length o]) sizeOf27 e8 rfl c6 rfl rfl rfl (cS rfl) rfl rfl (fun e9 (c7:aH G K (aJ 69 K n o k::aJ 9 K l m h::box b0 27 [i64 r,i64 u,zS l h.length m,zS n k.length o]::box q 27 [i64 r,i64 u,zS l h.length m,zS n k.length o]::L) e9)=>(yW ?_))
  obtain rfl:=zI d
  exact bK (mG results38 (dM (vs:=[i64 r,i64 u,zS l h.length m,zS n k.length o]) rfl cZ c7 (i:=3) rfl c6 rfl) ⟨l,m,n,o,rfl,(aH.arr 4 [1,0] c7 rfl)⟩)
 obtain ⟨x,p,j1,f1,b5⟩:=aH.lendB (i:=1) e7 rfl
 refine kP (C:=fun w'=>∃ L',aH G x L' w') [] bV (by kernel_rfl) (fun j2 f2=>?_)
 have c8:=aH.mono f1 f2
 refine aHQ 0 ?_;refine aHQ 1 ?_
 refine aHQ 2 ?_;refine gY (i:=3) (j:=8) (by kernel_rfl) rfl rfl ?_ ?_
 ·obtain ⟨y,f3,d⟩:=aB d
  refine wS (e:=(0:Int)) bY fC rfl rfl c8 rfl rfl rfl f3 rfl (fun b6 f4 (b8:aH G x (aJ 2 K b6 y.length y::box q 27 g::L) f4)=>(aX (aA ⟨fun _=>⟨_,b8⟩,?_⟩)))
  refine gY (i:=4) (j:=8) (by kernel_rfl) rfl rfl ?_ ?_
  ·obtain ⟨j3,c9,f5,f6,f7⟩:=aH.lendS (i:=0) b8 p rfl
   obtain ⟨a,f8,d⟩:=aB d
   refine zF call76 (kM f6 hG (h3.mono (zL p c9)) (h6.mono (zL p c9)) f5 f8) ?_
   rintro _ j4 ⟨z,J,V,Z,f9,g0,rfl,g1⟩
   have d0:=f7 _ _ g1
   refine aX (aA ⟨fun _=>⟨_,d0⟩,?_⟩)
   refine aHQ 5 ?_;refine aHQ 6 ?_
   refine aHQ 7 ?_;refine cC (i:=8) (by kernel_rfl) rfl (bR (vs:=g) zeroValue27 d0 rfl (fun d1 j5 d2=>(aX (aA ⟨fun _=>⟨_,d2⟩,?_⟩))))
   refine cC (i:=9) (by kernel_rfl) rfl (bS (i:=0) (ns:=(zC a.1 z J V Z)) (us:=(zC a.1 z J V Z)) sizeOf27 d2 rfl rfl rfl rfl rfl (cS rfl) rfl rfl (fun g2 (d3:aH G x (box d1 27 (zC a.1 z J V Z)::aJ 2 K b6 y.length y::aJ 9 K z J a.1.L::aJ 69 K V Z a.1.E::aJ 2 K f9 g0 a.2::box q 27 g::L) g2)=>(aX (aA ⟨fun _=>⟨_,d3⟩,?_⟩))))
   refine aHQ 10 ?_;refine dW (by kernel_rfl) ?_
   have g3:=b5 _ _ d3
   refine yW ?_;exact ⟨a.1.N,a.1.I,a.1.L,a.1.E,d1,z,J,V,Z,d,rfl,rfl,(aH.arr 6 [4,3,1] g3 rfl)⟩
  ·refine bR (vs:=g) zeroValue27 b8 rfl (fun d4 j6 d5=>(aX (aA ⟨fun _=>⟨_,d5⟩,?_⟩)))
   refine cC (i:=4) (by kernel_rfl) rfl ?_;obtain ⟨j7,d6,g4,g5,g6⟩:=aH.lendS (i:=1) d5 p rfl
   obtain ⟨b,g7,d⟩:=aB d
   refine zF call76 (kM g5 hG (h3.mono (zL p d6)) (h6.mono (zL p d6)) g4 g7) ?_
   rintro _ j8 ⟨a0,a2,a3,a5,g8,g9,rfl,h0⟩
   have d7:=g6 _ _ h0
   refine aX (aA ⟨fun _=>⟨_,d7⟩,?_⟩)
   refine aHQ 5 ?_;refine aHQ 6 ?_
   refine aHQ 7 ?_;refine cC (i:=9) (by kernel_rfl) rfl (bS (i:=4) (ns:=(zC b.1 a0 a2 a3 a5)) (us:=(zC b.1 a0 a2 a3 a5)) sizeOf27 d7 rfl rfl rfl rfl rfl (cS rfl) rfl rfl (fun h1 (d8:aH G x (aJ 2 K b6 y.length y::aJ 9 K a0 a2 b.1.L::aJ 69 K a3 a5 b.1.E::aJ 2 K g8 g9 b.2::box d4 27 (zC b.1 a0 a2 a3 a5)::box q 27 g::L) h1)=>(aX (aA ⟨fun _=>⟨_,d8⟩,?_⟩))))
   refine aHQ 10 ?_;refine dW (by kernel_rfl) ?_
   have h2:=b5 _ _ d8
   refine yW ?_;exact ⟨b.1.N,b.1.I,b.1.L,b.1.E,d4,a0,a2,a3,a5,d,rfl,rfl,(aH.arr 5 [3,2] h2 rfl)⟩
 ·refine bR (vs:=g) zeroValue27 c8 rfl (fun b9 j9 d9=>(aX (aA ⟨fun _=>⟨_,d9⟩,?_⟩)))
  refine cC (i:=3) (by kernel_rfl) rfl ?_;obtain ⟨b1,h4,d⟩:=aB d
  refine wS (e:=(0:Int)) bY fC rfl rfl d9 rfl rfl rfl h4 rfl (fun e0 h5 (e1:aH G x (aJ 2 K e0 b1.length b1::box b9 27 g::box q 27 g::L) h5)=>(aX (aA ⟨fun _=>⟨_,e1⟩,?_⟩)))
  refine cC (i:=4) (by kernel_rfl) rfl ?_;obtain ⟨k0,e2,h7,h8,h9⟩:=aH.lendS (i:=0) e1 p rfl
  obtain ⟨c,i0,d⟩:=aB d
  refine zF call76 (kM h8 hG (h3.mono (zL p e2)) (h6.mono (zL p e2)) h7 i0) ?_
  rintro _ k1 ⟨a6,a7,a8,a9,i1,i2,rfl,i3⟩
  have e3:=h9 _ _ i3
  refine aX (aA ⟨fun _=>⟨_,e3⟩,?_⟩)
  refine aHQ 5 ?_;refine aHQ 6 ?_
  refine aHQ 7 ?_;refine cC (i:=9) (by kernel_rfl) rfl (bS (i:=4) (ns:=(zC c.1 a6 a7 a8 a9)) (us:=(zC c.1 a6 a7 a8 a9)) sizeOf27 e3 rfl rfl rfl rfl rfl (cS rfl) rfl rfl (fun i4 (e4:aH G x (aJ 2 K e0 b1.length b1::aJ 9 K a6 a7 c.1.L::aJ 69 K a8 a9 c.1.E::aJ 2 K i1 i2 c.2::box b9 27 (zC c.1 a6 a7 a8 a9)::box q 27 g::L) i4)=>(aX (aA ⟨fun _=>⟨_,e4⟩,?_⟩))))
  refine aHQ 10 ?_;refine dW (by kernel_rfl) ?_
  have i5:=b5 _ _ e4
  refine yW ?_;exact ⟨c.1.N,c.1.I,c.1.L,c.1.E,b9,a6,a7,a8,a9,d,rfl,rfl,(aH.arr 5 [3,2] i5 rfl)⟩
theorem tZ {t:cO} {R:(cO × Int)} (hs:aH G K (L) w) (x:G.lo=0) (V:cR K a1 c2 t.L) (Z:cR K a4 c5 t.E) (c:oF t=some R):
  Calls Tryz.prog 12 ([zA (zCa t a1 c2 a4 c5)]:List Value).toArray w (eN fun v w'=>∃ a0 a2 a3 a5,v=Value.tuple #[zA (zCa R.1 a0 a2 a3 a5),i64 R.2]/\aH G K (aJ 9 K a0 a2 R.1.L::aJ 69 K a3 a5 R.1.E::L) w'):=by
 let d:=zG
 let p:=(zC t a1 c2 a4 c5)
 refine zH func12 ?_;unfold oF at c
 refine yW ?_;refine fS (v:=zA (zCa t a1 c2 a4 c5)) (vs:=p) hs rfl rfl (fun q w8 b2=>(bR (vs:=d) zeroValue27 b2 rfl (fun r e7 b3=>(yW ?_))))
 obtain ⟨e8,b4,c⟩:=aB c
 refine zF call34 (jA b3 x V Z b4) ?_
 rintro _ e9 ⟨rfl,a6⟩
 refine yW ?_
 rcases aG c with ⟨b5,c⟩|⟨b5,c⟩
 ·refine yW ?_;refine aC (dD (vs:=[]) (cs:=d) jT rfl (by kernel_rfl)) (bS (i:=0) (ns:=d) (us:=d) sizeOf27 a6 rfl rfl rfl rfl rfl (cS rfl) rfl rfl (fun b6 (b8:aH G K (box r 27 d::box q 27 p::L) b6)=>(yW ?_)))
  have b9:=aH.nil (α:=bD) b8 9 K
  have a7:=aH.nil (α:=Edge) b9 69 K
  obtain rfl:=zI c
  exact bK (aW (uW results12 (dM (vs:=d) rfl cZ a7 (i:=2) rfl rfl rfl) (gT rfl rfl) ⟨none,0,none,0,rfl,(aH.arr 4 [1,0] a7 rfl)⟩))
 ·refine yW ?_;obtain ⟨a,c1,c⟩:=aB c
  refine zF call37 (iN a6 x V Z c1) ?_
  rintro _ f0 ⟨k,e,g,h,j,y,z,rfl,u,c3⟩
  refine yW ?_;refine bR (vs:=d) zeroValue27 c3 rfl (fun J f1 c4=>(bS (i:=0) (ns:=(zC a.1 e g h j)) (us:=(zC a.1 e g h j)) sizeOf27 c4 rfl rfl rfl rfl rfl (cS rfl) rfl rfl (fun c6 (a8:aH G k (box J 27 (zC a.1 e g h j)::aJ 9 K e g a.1.L::aJ 69 K h j a.1.E::aJ 35 k y z a.2.1::box r 27 d::box q 27 p::L) c6)=>(yW ?_))))
  rcases aG c with ⟨c7,c⟩|⟨c7,c⟩
  ·refine yW ?_;refine aC (dD (vs:=[]) (cs:=d) jT rfl (by kernel_rfl)) (bS (i:=4) (ns:=d) (us:=d) sizeOf27 a8 rfl rfl rfl rfl rfl (cS rfl) rfl rfl (fun c8 (c9:aH G k (box J 27 (zC a.1 e g h j)::aJ 9 K e g a.1.L::aJ 69 K h j a.1.E::aJ 35 k y z a.2.1::box r 27 d::box q 27 p::L) c8)=>(yW ?_)))
   have d0:=aH.nil (α:=bD) c9 9 K
   have a9:=aH.nil (α:=Edge) d0 69 K
   obtain rfl:=zI c
   exact bK (aW (uW results12 (dM (vs:=d) rfl cZ a9 (i:=6) rfl rfl rfl) (gT rfl rfl) ⟨none,0,none,0,rfl,(aH.weakK (aH.arr 8 [1,0] a9 rfl) u)⟩))
  ·refine yW ?_;obtain ⟨f2,d2,d3,d4,d5⟩:=aH.lendS (i:=1) a8 u rfl
   obtain ⟨f3,d6,d7,d8,d9⟩:=aH.lendS (i:=1) d4 (zL u d2) rfl
   obtain ⟨b,e0,c⟩:=aB c
   refine zF call38 (aDX d8 x (d3.mono d6) d7 e0) ?_
   rintro _ f4 ⟨l,m,n,o,rfl,e1⟩
   have e2:=d9 _ _ e1
   have e3:=d5 _ _ e2
   refine bS (i:=6) (ns:=(zC b l m n o)) (us:=(zC b l m n o)) sizeOf27 e3 rfl rfl rfl rfl rfl (cS rfl) rfl rfl (fun e4 (b0:aH G k (aJ 9 K e g a.1.L::aJ 69 K h j a.1.E::aJ 9 K l m b.L::aJ 69 K n o b.E::box J 27 (zC a.1 e g h j)::aJ 35 k y z a.2.1::box r 27 (zC b l m n o)::box q 27 p::L) e4)=>(yW ?_));obtain rfl:=zI c
   exact bK (uW results12 (dM (vs:=(zC b l m n o)) rfl cZ b0 (i:=6) rfl rfl rfl) (gT rfl rfl) ⟨l,m,n,o,rfl,(aH.weakK (aH.arr 8 [2,3] b0 rfl) u)⟩)
theorem aFy {a b:(List bD)} {R:Bool} (g:aH G K (L) w) (k:cR K a1 c2 a) (l:cR K a4 c5 b) (c:aDQ a b=some R):
  Calls Tryz.prog 77 ([zS a1 a.length c2,zS a4 b.length c5]:List Value).toArray w (eN fun v w'=>v=zB R/\aH G K (L) w'):=by
 refine zH func77 ?_;unfold aDQ at c
 refine yW ?_
 rcases aG c with ⟨m,c⟩|⟨m,c⟩
 ·refine yW ?_;obtain rfl:=zI c
  exact bK (aW (bM results77 rfl ⟨rfl,g⟩))
 ·refine yW ?_;refine aZ (fun f w=>tQ=some R/\aH G K (L) w) ?_ ?_
  ·rintro f w9 ⟨c,o⟩
   unfold tQ at c
   refine yW ?_;obtain rfl:=zI c
   exact aIK results77 ⟨rfl,o⟩
  obtain ⟨a6,q,c⟩:=aB c
  refine cE q (fun (e:Int) f w=>f 0=zS a1 a.length c2/\f 1=zS a4 b.length c5/\f 5=i64 e/\aH G K (L) w) ?_ ?_
  ·exact ⟨rfl,rfl,rfl,g⟩
  ·rintro e r f a7 d h ⟨t,u,a8,i⟩
   replace d:aAP a b e=some r:=d
   unfold aAP at d
   refine yW ?_
   rcases aG d with ⟨x,d⟩|⟨x,d⟩
   ·refine yW ?_;refine cT (yW ?_)
    refine dF (C:=fun w'=>aH G K (L) w') bV (by kernel_rfl) (aH.mono i (dG.drew _)) (yW ?_);obtain ⟨a9,y,d⟩:=aB d
    refine yW ?_;obtain ⟨b0,b1,z⟩:=cR.el (sz:=1) rfl k y
    cases z
    refine yW ?_;obtain ⟨b2,J,d⟩:=aB d
    refine yW ?_;obtain ⟨b3,b4,V⟩:=cR.el (sz:=1) rfl l J
    cases V
    refine yW ?_;refine dI (fun b5 j=>(yW ?_))
    rcases aG d with ⟨Z,d⟩|⟨Z,d⟩
    ·refine yW ?_;refine bK (cA (aW (aW ?_)))
     have a0:=h _ (zI d).symm
     subst a0
     have c:(some false)=some R:=c
     obtain rfl:=zI c
     exact cA (aW (aW (bM results77 rfl ⟨rfl,j⟩)))
    ·refine yW ?_;exact ⟨wr (e+1),(zI d).symm,t,u,rfl,j⟩
   ·refine yW ?_
    have a3:=h _ (zI d).symm
    subst a3
    have c:(tQ)=some R:=c
    refine yW ?_;exact ⟨c,i⟩
theorem aGo {a:cO} {e:Nat} {b:cO} {g:Nat} {R:Bool} (i:aH G K (L) w) (h3:fJ K a1 e (zC a a4 c5 a7 c8)) (o:cR K a4 c5 a.L) (p:cR K a7 c8 a.E) (d0:fJ K a10 g (zC b a13 c14 a16 c17)) (q:cR K a13 c14 b.L) (r:cR K a16 c17 b.E) (c:aEO a b=some R):
  Calls Tryz.prog 39 ([cL a1 e,cL a10 g]:List Value).toArray w (eN fun v w'=>v=zB R/\aH G K (L) w'):=by
 refine zH func39 ?_;unfold aEO at c
 refine yW ?_;refine cQ (fun f w=>∃ j,mW a b j=some R/\f 0=cL a1 e/\f 1=cL a10 g/\f 50=zB j/\aH G K (L) w) ?_ ?_
 ·rintro f d1 ⟨j,c,t,u,d2,l⟩
  unfold mW at c
  refine yW ?_
  rcases aG c with ⟨z,c⟩|⟨z,c⟩
  ·refine yW ?_;obtain rfl:=zI c
   exact bK (aW (bM results39 rfl ⟨rfl,l⟩))
  ·refine yW ?_;refine aZ (fun f w=>wK=some R/\aH G K (L) w) ?_ ?_
   ·rintro f d3 ⟨c,V⟩
    unfold wK at c
    refine yW ?_;obtain rfl:=zI c
    exact aIK results39 ⟨rfl,V⟩
   obtain ⟨d4,a0,c⟩:=aB c
   refine cE a0 (fun (h:Int) f w=>f 0=cL a1 e/\f 1=cL a10 g/\f 5=i64 h/\aH G K (L) w) ?_ ?_
   ·exact ⟨t,u,rfl,l⟩
   ·rintro h a2 f d5 d m ⟨a3,a5,d6,k⟩
    replace d:aBT a b h=some a2:=d
    unfold aBT at d
    refine yW ?_
    rcases aG d with ⟨a6,d⟩|⟨a6,d⟩
    ·refine yW ?_;refine cT (yW ?_)
     refine dF (C:=fun w'=>aH G K (L) w') bV (by kernel_rfl) (aH.mono k (dG.drew _)) (yW ?_);obtain ⟨a8,a9,d⟩:=aB d
     refine yW ?_;obtain ⟨d7,d8,b0⟩:=cR.el (sz:=3) rfl p a9
     cases b0
     refine yW ?_;obtain ⟨b1,b2,d⟩:=aB d
     refine yW ?_;obtain ⟨d9,e0,b3⟩:=cR.el (sz:=3) rfl r b2
     cases b3
     refine yW ?_;refine aU (fun _ k=>R_neqG (eq_69 (x:=a8) (y:=b1)) rfl rfl) (dI (fun e1 n=>(yW ?_)))
     rcases aG d with ⟨b4,d⟩|⟨b4,d⟩
     ·refine yW ?_;refine bK (cA (aW (aW ?_)))
      have b5:=m _ (zI d).symm
      subst b5
      have c:(some false)=some R:=c
      obtain rfl:=zI c
      exact cA (aW (aW (bM results39 rfl ⟨rfl,n⟩)))
     ·refine yW ?_;exact ⟨wr (h+1),(zI d).symm,a3,a5,rfl,n⟩
    ·refine yW ?_
     have b7:=m _ (zI d).symm
     subst b7
     have c:(wK)=some R:=c
     refine yW ?_;exact ⟨c,k⟩
 refine dF (C:=fun w'=>aH G K (L) w') bV (by kernel_rfl) (aH.mono i (dG.drew _)) (yW ?_)
 rcases aG c with ⟨b8,c⟩|⟨b8,c⟩
 ·refine yW ?_;refine dI (fun e2 b9=>(yW ?_))
  exact ⟨true,c,rfl,rfl,rfl,b9⟩
 ·refine yW ?_
  rcases aG c with ⟨c0,c⟩|⟨c0,c⟩
  ·refine yW ?_;refine dI (fun e3 c1=>(yW ?_))
   exact ⟨true,c,rfl,rfl,rfl,c1⟩
  ·refine yW ?_;obtain ⟨c2,c3,c⟩:=aB c
   refine jO (vs:=[zS a4 a.L.length c5,zS a13 b.L.length c14]) (v:=zB c2) call77 rfl (fun _ i=>(aFy i o q c3)) (yW ?_)
   rcases aG c with ⟨c4,c⟩|⟨c4,c⟩
   ·refine yW ?_;refine dI (fun e4 c6=>(yW ?_))
    exact ⟨true,c,rfl,rfl,rfl,c6⟩
   ·refine yW ?_;refine dI (fun e5 c7=>(yW ?_))
    exact ⟨(a.E.length:Int) != (b.E.length:Int),c,rfl,rfl,rfl,c7⟩
theorem aGp {a b:cO} {R:Bool} (g:aH G K (L) w) (h:cR K a1 c2 a.L) (j:cR K a4 c5 a.E) (k:cR K a7 c8 b.L) (l:cR K a10 c11 b.E) (d:aEP a b=some R):
  Calls Tryz.prog 13 ([zA (zCa a a1 c2 a4 c5),zA (zCa b a7 c8 a10 c11)]:List Value).toArray w (eN fun v w'=>v=zB R/\aH G K (L) w'):=by
 refine zH func13 ?_;unfold aEP at d
 refine yW ?_;refine fS (v:=zA (zCa a a1 c2 a4 c5)) (vs:=(zC a a1 c2 a4 c5)) g rfl rfl (fun Z a0 m=>(fS (v:=zA (zCa b a7 c8 a10 c11)) (vs:=(zC b a7 c8 a10 c11)) m rfl rfl (fun a2 a3 n=>(yW ?_))))
 obtain ⟨a5,e,o,p,q⟩:=aH.lendB (i:=1) n rfl
 obtain ⟨a6,c,r,t,u⟩:=aH.lendB (i:=0) p rfl
 obtain ⟨a8,x,d⟩:=aB d
 refine zF call39 (aGo t (o.mono c) (h.mono (zL e c)) (j.mono (zL e c)) r (k.mono (zL e c)) (l.mono (zL e c)) x) ?_
 rintro _ a9 ⟨rfl,y⟩
 have z:=u _ _ y
 have J:=q _ _ z
 refine yW ?_;obtain rfl:=zI d
 exact aIK results13 ⟨rfl,(aH.arr 2 [] J rfl)⟩
theorem aFb {t:cO} {d:Nat} {R:Bool} (n:aH G K (L) w) (h3:fJ K a1 d (zC t a4 c5 a7 c8)) (h6:cR K a4 c5 t.L) (i:cR K a7 c8 t.E) (b:aCF t=some R):
  Calls Tryz.prog 40 ([cL a1 d]:List Value).toArray w (eN fun v w'=>v=zB R/\aH G K (L) w'):=by
 refine zH func40 ?_;unfold aCF at b
 refine yW ?_;refine aZ (fun f w=>qX=some R/\aH G K (L) w) ?_ ?_
 ·rintro f b6 ⟨b,o⟩
  unfold qX at b
  refine yW ?_;obtain rfl:=zI b
  exact aIK results40 ⟨rfl,o⟩
 obtain ⟨b7,q,b⟩:=aB b
 refine cE q (fun (c:Int) f w=>f 0=cL a1 d/\f 3=i64 c/\aH G K (L) w) ?_ ?_
 ·exact ⟨rfl,rfl,n⟩
 ·rintro c j f b8 a k ⟨e,g,l⟩
  replace a:xZ t c=some j:=a
  unfold xZ at a
  refine yW ?_
  rcases aG a with ⟨r,a⟩|⟨r,a⟩
  ·refine yW ?_;refine cT (yW ?_)
   refine cQ (fun f w=>∃ h,jZ c h=some j/\f 0=cL a1 d/\f 3=i64 c/\f 65=zB h/\aH G K (L) w) ?_ ?_
   ·rintro f b9 ⟨h,a,u,c0,c1,m⟩
    unfold jZ at a
    refine yW ?_
    rcases aG a with ⟨x,a⟩|⟨x,a⟩
    ·refine yW ?_;refine bK (cA (aW (aW ?_)))
     have y:=k _ (zI a).symm
     subst y
     have b:(some false)=some R:=b
     obtain rfl:=zI b
     exact cA (aW (aW (bM results40 rfl ⟨rfl,m⟩)))
    ·refine yW ?_;exact ⟨wr (c+1),(zI a).symm,u,rfl,m⟩
   refine dF (C:=fun w'=>aH G K (L) w') bV (by kernel_rfl) (aH.mono l (dG.drew _)) (yW ?_);obtain ⟨J,V,a⟩:=aB a
   refine yW ?_;obtain ⟨c2,c3,Z⟩:=cR.el (sz:=3) rfl i V
   cases Z
   refine yW ?_
   rcases aG a with ⟨a0,a⟩|⟨a0,a⟩
   ·refine yW ?_;refine dI (fun c4 a2=>(yW ?_))
    exact ⟨true,a,e,g,rfl,a2⟩
   ·refine yW ?_
    rcases aG a with ⟨a3,a⟩|⟨a3,a⟩
    ·refine yW ?_;obtain ⟨a5,a6,a⟩:=aB a
     refine yW ?_;obtain ⟨c6,c7,a8⟩:=cR.el (sz:=3) rfl i a6
     cases a8
     refine yW ?_
     rcases aG a with ⟨a9,a⟩|⟨a9,a⟩
     ·refine yW ?_;refine dI (fun c9 b0=>(yW ?_))
      exact ⟨J.B == a5.B,a,e,g,rfl,b0⟩
     ·refine yW ?_;refine dI (fun d0 b1=>(yW ?_))
      exact ⟨false,a,e,g,rfl,b1⟩
    ·refine yW ?_;refine dI (fun d1 b2=>(yW ?_))
     exact ⟨false,a,e,g,rfl,b2⟩
  ·refine yW ?_
   have b3:=k _ (zI a).symm
   subst b3
   have b:(qX)=some R:=b
   refine yW ?_;exact ⟨b,l⟩
theorem yN {t:cO} {R:Bool} (j:aH G K (L) w) (c:cR K a1 c2 t.L) (d:cR K a4 c5 t.E) (a:lY t=some R):
  Calls Tryz.prog 14 ([zA (zCa t a1 c2 a4 c5)]:List Value).toArray w (eN fun v w'=>v=zB R/\aH G K (L) w'):=by
 refine zH func14 ?_;unfold lY at a
 refine yW ?_;refine fS (v:=zA (zCa t a1 c2 a4 c5)) (vs:=(zC t a1 c2 a4 c5)) j rfl rfl (fun b7 w8 k=>?_)
 iterate 4 refine aIQ ?_
 refine cQ (fun f w=>∃ b,iF b=some R/\f 2=zB b/\aH G K (L) w) ?_ ?_
 ·rintro f a6 ⟨b,a,l,m⟩
  unfold iF at a
  refine yW ?_;obtain rfl:=zI a
  exact aIK results14 ⟨l,m⟩
 refine yW ?_;obtain ⟨a7,e,o,p,q⟩:=aH.lendB (i:=0) k rfl
 obtain ⟨a8,r,a⟩:=aB a
 refine zF call28 (aBU p o (c.mono e) (d.mono e) r) ?_
 rintro _ a9 ⟨rfl,u⟩
 have g:=q _ _ u
 refine yW ?_
 rcases aG a with ⟨x,a⟩|⟨x,a⟩
 ·refine yW ?_;obtain ⟨b0,h,y,z,J⟩:=aH.lendB (i:=0) g rfl
  obtain ⟨V,Z,a⟩:=aB a
  refine zF call40 (aFb z y (c.mono h) (d.mono h) Z) ?_
  rintro _ b1 ⟨rfl,a0⟩
  have a2:=J _ _ a0
  refine yW ?_;exact ⟨V,a,rfl,(aH.arr 1 [] a2 rfl)⟩
 ·refine yW ?_;exact ⟨false,a,rfl,(aH.arr 1 [] g rfl)⟩
theorem aHi {b:(List UInt8)} {i n R:Int} (c:aH G K (L) w) (d:cR K a1 c2 b) (a:aHg b i n=some R):
  Calls Tryz.prog 15 ([zS a1 b.length c2,i64 i,i64 n]:List Value).toArray w (eN fun v w'=>v=i64 R/\aH G K (L) w'):=by
 refine zH func15 ?_;unfold aHg at a
 refine yW ?_
 rcases aG a with ⟨e,a⟩|⟨e,a⟩
 ·refine yW ?_;obtain rfl:=zI a
  exact bK (aW (bM results15 rfl ⟨rfl,c⟩))
 ·refine yW ?_
  rcases aG a with ⟨h,a⟩|⟨h,a⟩
  ·refine yW ?_;obtain ⟨q,j,a⟩:=aB a
   refine yW ?_;obtain ⟨r,t,k⟩:=cR.el (sz:=1) rfl d j
   cases k
   refine yW ?_;refine aC (aEc runUnderlying2 rfl ⟨_,runUnderlying5⟩) (yW ?_)
   obtain ⟨u,l,a⟩:=aB a
   refine aC (R_rem rfl rfl l) (yW ?_);obtain rfl:=zI a
   exact bK (aW (bM results15 rfl ⟨rfl,c⟩))
  ·refine yW ?_;obtain ⟨x,o,a⟩:=aB a
   refine aC (R_rem rfl rfl o) (yW ?_);obtain rfl:=zI a
   exact aIK results15 ⟨rfl,c⟩
theorem yF {t:cO} {n:Int} {R:(Int × Int)} (hs:aH G K (L) w) (hG:G.lo=0) (h3:cR K a1 c2 t.L) (h6:cR K a4 c5 t.E) (b:tR t n=some R):
  Calls Tryz.prog 16 ([zA (zCa t a1 c2 a4 c5),i64 n]:List Value).toArray w (eN fun v w'=>v=Value.tuple #[i64 R.1,i64 R.2]/\aH G K (L) w'):=by
 let a9:=(zC t a1 c2 a4 c5)
 refine zH func16 ?_;unfold tR at b
 refine yW ?_;refine fS (v:=zA (zCa t a1 c2 a4 c5)) (vs:=a9) hs rfl rfl (fun b7 w8 f5=>(yW ?_))
 obtain ⟨a,f6,b⟩:=aB b
 refine zF call31 (aBe f5 hG h3 h6 f6) ?_
 rintro _ m9 ⟨g,j,c,d,rfl,f7⟩
 refine yW ?_;refine bR (vs:=zG) zeroValue27 f7 rfl (fun m n0 f8=>(bS (i:=0) (ns:=(zC a.1 g j c d)) (us:=(zC a.1 g j c d)) sizeOf27 f8 rfl rfl rfl rfl rfl (cS rfl) rfl rfl (fun f9 (c7:aH G K (box m 27 (zC a.1 g j c d)::aJ 9 K g j a.1.L::aJ 69 K c d a.1.E::box b7 27 a9::L) f9)=>(yW ?_))))
 rcases aG b with ⟨g0,b⟩|⟨g0,b⟩
 ·refine yW ?_;obtain rfl:=zI b
  exact bK (aW (iO results16 rfl rfl ⟨rfl,(aH.arr 4 [] c7 rfl)⟩))
 ·refine yW ?_;obtain ⟨a0,g2,b⟩:=aB b
  refine wS (e:=(0:Int)) bY fC rfl rfl c7 rfl rfl rfl g2 rfl (fun b0 g3 (c8:aH G K (aJ 2 K b0 a0.length a0::box m 27 (zC a.1 g j c d)::aJ 9 K g j a.1.L::aJ 69 K c d a.1.E::box b7 27 a9::L) g3)=>(yW ?_));obtain ⟨n1,b9,b⟩:=aB b
  have g4:=cU c8 (i:=0) rfl b9
  refine aC (dB bY rfl g4 rfl rfl rfl b9) ?_;obtain ⟨g5,c9,b⟩:=aB b
  refine iH (i:=0) (t:=0) (ns:=[i64 1]) (e':=(1:Int)) sizeOf2 c8 rfl (zR _) rfl rfl rfl b9 c9 rfl rfl (cS rfl) rfl (fun cs h=>by cases h;rfl) (fun g6 (g7:aH G K (aJ 2 K b0 a0.length g5::box m 27 (zC a.1 g j c d)::aJ 9 K g j a.1.L::aJ 69 K c d a.1.E::box b7 27 a9::L) g6)=>(yW ?_));refine aZ (fun f w=>∃ J a2 a3,mY J=some R/\f 8=zS a2 J.length a3/\aH G K (aJ 2 K a2 a3 J::L) w) ?_ ?_
  ·rintro f n2 ⟨J,a2,a3,b,n3,g8⟩
   unfold mY at b
   refine yW ?_;refine aZ (fun f w=>∃ c0,mX c0=some R/\f 12=i64 c0/\aH G K (L) w) ?_ ?_
   ·rintro f n4 ⟨c0,b,n5,g9⟩
    unfold mX at b
    refine yW ?_;obtain rfl:=zI b
    exact bK (iO results16 rfl rfl ⟨rfl,g9⟩)
   obtain ⟨n6,h1,b⟩:=aB b
   refine cE h1 (fun s f w=>match s with|(Z,b1)=>f 12=i64 Z/\f 57=zS a2 J.length a3/\f 58=i64 (J.length:Int)/\f 59=i64 b1/\aH G K (aJ 2 K a2 a3 J::L) w) ?_ ?_
   ·exact ⟨rfl,rfl,rfl,rfl,g8⟩
   ·rintro ⟨Z,b1⟩ h2 f n7 q h4 ⟨h5,d0,h7,h8,c1⟩
    replace q:rT J Z b1=some h2:=q
    unfold rT at q
    refine yW ?_
    rcases aG q with ⟨h9,q⟩|⟨h9,q⟩
    ·refine yW ?_;refine cT (yW ?_)
     obtain ⟨i0,d1,q⟩:=aB q
     have i1:=cU c1 (i:=0) rfl d1
     refine aC (dB bY rfl i1 d0 rfl h8 d1) (yW ?_);exact ⟨(wr (Z+i0),wr (b1+1)),(zI q).symm,rfl,d0,h7,rfl,c1⟩
    ·refine yW ?_
     have i2:=h4 _ (zI q).symm
     subst i2
     have b:(mX Z)=some R:=b
     refine yW ?_;exact ⟨Z,b,h5,(aH.arr 1 [] c1 rfl)⟩
  obtain ⟨n8,i3,b⟩:=aB b
  refine cE i3 (fun s f w=>match s with|(o,r)=>∃ x y,f 6=zP (some ⟨m,0,none⟩)/\f 8=zS x o.length y/\f 29=i64 n/\f 30=i64 r/\aH G K (aJ 2 K x y o::box m 27 (zC a.1 g j c d)::aJ 9 K g j a.1.L::aJ 69 K c d a.1.E::L) w) ?_ ?_
  ·exact ⟨b0,a0.length,rfl,(Eq.trans rfl (congrArg (fun n=>zS b0 n a0.length) (gN c9))),rfl,rfl,(aH.arr 5 [0,1,2,3] g7 rfl)⟩
  ·rintro ⟨o,r⟩ b2 f n9 k i4 ⟨x,y,i5,d2,i6,i7,d3⟩
   replace k:rW n a o r=some b2:=k
   unfold rW at k
   refine yW ?_
   rcases aG k with ⟨i8,k⟩|⟨i8,k⟩
   ·refine yW ?_;refine aZ (fun f w=>∃ a5 b3 b4,rU r a5=some b2/\f 6=zP (some ⟨m,0,none⟩)/\f 8=zS b3 a5.length b4/\f 29=i64 n/\f 30=i64 r/\aH G K (aJ 2 K b3 b4 a5::box m 27 (zC a.1 g j c d)::aJ 9 K g j a.1.L::aJ 69 K c d a.1.E::L) w) ?_ ?_
    ·rintro f o0 ⟨a5,b3,b4,k,i9,j0,j1,o1,j2⟩
     unfold rU at k
     refine yW ?_;exact ⟨(a5,wr (r+1)),(zI k).symm,b3,b4,i9,j0,j1,rfl,j2⟩
    refine yW ?_;obtain ⟨u,j3,k⟩:=aB k
    refine wS (e:=(0:Int)) bY fC rfl rfl d3 rfl rfl rfl j3 rfl (fun z j4 (j5:aH G K (aJ 2 K z u.length u::aJ 2 K x y o::box m 27 (zC a.1 g j c d)::aJ 9 K g j a.1.L::aJ 69 K c d a.1.E::L) j4)=>(yW ?_));refine aZ (fun f w=>∃ a6,mZ r a6=some b2/\f 6=zP (some ⟨m,0,none⟩)/\f 9=zS z a6.length u.length/\f 29=i64 n/\f 30=i64 r/\aH G K (aJ 2 K z u.length a6::box m 27 (zC a.1 g j c d)::aJ 9 K g j a.1.L::aJ 69 K c d a.1.E::L) w) ?_ ?_
    ·rintro f o2 ⟨a6,k,j6,o3,j7,j8,j9⟩
     unfold mZ at k
     refine yW ?_;exact ⟨a6,z,u.length,k,j6,rfl,j7,j8,j9⟩
    obtain ⟨o4,k0,k⟩:=aB k
    refine cE k0 (fun s f w=>match s with|(V,b5)=>f 6=zP (some ⟨m,0,none⟩)/\f 8=zS x o.length y/\f 9=zS z V.length u.length/\f 29=i64 n/\f 30=i64 r/\f 36=zS c a.1.E.length d/\f 37=i64 (a.1.E.length:Int)/\f 38=i64 b5/\aH G K (aJ 2 K z u.length V::aJ 2 K x y o::box m 27 (zC a.1 g j c d)::aJ 9 K g j a.1.L::aJ 69 K c d a.1.E::L) w) ?_ ?_
    ·exact ⟨i5,d2,rfl,i6,i7,rfl,rfl,rfl,j5⟩
    ·rintro ⟨V,b5⟩ k1 f o5 l k2 ⟨d4,k3,d5,d6,d7,d8,k4,k5,c3⟩
     replace l:rV a o V b5=some k1:=l
     unfold rV at l
     refine yW ?_
     rcases aG l with ⟨k6,l⟩|⟨k6,l⟩
     ·refine yW ?_;refine cT (yW ?_)
      obtain ⟨p,d9,l⟩:=aB l
      have k7:=cU c3 (i:=4) rfl d9
      refine aC (dB cI rfl k7 d8 rfl k5 d9) (yW ?_);refine bR (vs:=[i64 0,i64 0,i64 0]) zeroValue69 c3 rfl (fun e0 o6 k8=>(bS (i:=0) (ns:=[i64 p.F,i64 p.B,i64 p.To]) (us:=[i64 p.F,i64 p.B,i64 p.To]) sizeOf69 k8 rfl rfl rfl rfl rfl (cS rfl) rfl rfl (fun k9 (l0:aH G K (box e0 69 [i64 p.F,i64 p.B,i64 p.To]::aJ 2 K z u.length V::aJ 2 K x y o::box m 27 (zC a.1 g j c d)::aJ 9 K g j a.1.L::aJ 69 K c d a.1.E::L) k9)=>(yW ?_))))
      obtain ⟨o7,e1,e2,l1,l2⟩:=aH.lendB (i:=0) l0 rfl
      obtain ⟨o8,c4,e3,l3,l4⟩:=aH.lendS (i:=0) l1 e1 rfl
      obtain ⟨l5,b6,e4,e5,l6⟩:=aH.lendS (i:=0) l3 (zL e1 c4) rfl
      refine dV (C:=fun w'=>∃ L',aH G l5 L' w') [(0,0),(1,0),(2,0),(3,0),(4,0),(5,0),(6,0),(7,0),(8,0),(9,0),(10,0),(11,0),(12,2)] bV (by kernel_rfl) (fun _ hg=>⟨_,aH.mono e5 hg⟩) (fun o9 l7=>?_)
      have a7:=aH.mono e5 l7
      refine yW ?_;refine bX rfl (fun _ ⟨_,a7⟩=>bE (t:=2) cN a7 (e2.mono (zL c4 b6)) rfl rfl) ?_
      obtain ⟨e6,a8,l⟩:=aB l
      have e7:=aCU (e3.mono b6) a8
      refine bX rfl (fun _ _=>dB bY rfl e7 rfl rfl rfl a8) ?_;obtain ⟨p0,p1,l8⟩:=cR.el (sz:=1) rfl (e3.mono b6) a8
      cases l8
      refine yW ?_;refine bX rfl (fun _ ⟨_,a7⟩=>bE (t:=0) cN a7 (e2.mono (zL c4 b6)) rfl rfl) ?_
      obtain ⟨e8,c6,l⟩:=aB l
      have l9:=aCU e4 c6
      refine bX rfl (fun _ _=>dB bY rfl l9 rfl rfl rfl c6) ?_;obtain ⟨p2,p3,m0⟩:=cR.el (sz:=1) rfl e4 c6
      cases m0
      iterate 2 refine aIQ ?_
      refine bX rfl (fun _ _=>dB bY rfl e7 rfl rfl rfl a8) ?_
      have m1:=l6 _ _ a7
      have m2:=l4 _ _ m1
      have m3:=l2 _ _ m2
      refine aCl rfl ?_;obtain ⟨e9,f0,l⟩:=aB l
      refine iH (i:=1) (t:=0) (ns:=[i64 (wr (e6+e8))]) (e':=(wr (e6+e8):Int)) sizeOf2 m3 rfl (zR _) rfl rfl rfl a8 f0 rfl rfl (cS rfl) rfl (fun cs h=>by cases h;rfl) (fun m4 (m5:aH G K (box e0 69 [i64 p.F,i64 p.B,i64 p.To]::aJ 2 K z u.length e9::aJ 2 K x y o::box m 27 (zC a.1 g j c d)::aJ 9 K g j a.1.L::aJ 69 K c d a.1.E::L) m4)=>(yW ?_));refine gZ (yW ?_)
      exact ⟨(e9,wr (b5+1)),(zI l).symm,d4,k3,(Eq.trans d5 (congrArg (fun n=>zS z n u.length) (gN f0))),d6,d7,d8,k4,rfl,(aH.arr 1 [] m5 rfl)⟩
     ·refine yW ?_
      have m6:=k2 _ (zI l).symm
      subst m6
      have k:(mZ r V)=some b2:=k
      refine yW ?_;exact ⟨V,k,d4,d5,d6,d7,(aH.arr 2 [0] c3 rfl)⟩
   ·refine yW ?_
    have m7:=i4 _ (zI k).symm
    subst m7
    have b:(mY o)=some R:=b
    refine yW ?_;exact ⟨o,x,y,b,d2,(aH.arr 4 [0] d3 rfl)⟩
end Gv
namespace Gv
open Go.Value renaming slice→zS,bool→zB,pointer→zP
open Option.some renaming inj→zI
open Gv.Hp renaming le_trans→zL
open Go Go.Proofs Go.Proofs.Tryz
set_option maxRecDepth 20000
set_option maxHeartbeats 40000000
variable {G:uA} {K:Hp} {L:List iU} {w:World} {a1 a4:Option Addr} {c2 c5:Nat}
theorem aBW {b8 b1:(List UInt8)} {R:Bool} (hs:aH G K (L) w) (hG:G.lo=0) (h3:cR K a1 c2 b8) (h6:cR K a4 c5 b1) (d:aAb b8 b1=some R):
  Calls Tryz.prog 4 ([zS a1 b8.length c2,zS a4 b1.length c5]:List Value).toArray w (eN fun v w'=>v=zB R/\aH G K (L) w'):=by
 let d1:=zG
 refine zH func4 ?_;unfold aAb at d
 iterate 7 refine aIQ ?_
 refine cQ (fun f w=>∃ v7,jL b8 b1 v7=some R/\f 0=zS a1 b8.length c2/\f 1=zS a4 b1.length c5/\f 34=zB v7/\aH G K (L) w) ?_ ?_
 ·rintro f v9 ⟨v7,d,e8,e9,w1,h4⟩
  unfold jL at d
  refine yW ?_
  rcases aG d with ⟨j7,d⟩|⟨j7,d⟩
  ·refine yW ?_;obtain rfl:=zI d
   exact bK (aW (bM results4 rfl ⟨rfl,h4⟩))
  ·refine yW ?_;obtain ⟨c,j9,d⟩:=aB d
   refine zF call6 (aGm h4 h3 j9) ?_
   rintro _ w2 ⟨x,y,q,r,V,Z,z,J,rfl,k0⟩
   refine yW ?_;refine bR (vs:=d1) zeroValue27 k0 rfl (fun a3 w3 k1=>(bR (vs:=d1) zeroValue27 k1 rfl (fun b3 w4 k2=>(bS (i:=1) (ns:=(zC c.1 x y q r)) (us:=(zC c.1 x y q r)) sizeOf27 k2 rfl rfl rfl rfl rfl (cS rfl) rfl rfl (fun k3 (k4:aH G K (box b3 27 d1::box a3 27 (zC c.1 x y q r)::aJ 9 K x y c.1.L::aJ 69 K q r c.1.E::aJ 9 K V Z c.2.L::aJ 69 K z J c.2.E::L) k3)=>(bS (i:=0) (ns:=(zC c.2 V Z z J)) (us:=(zC c.2 V Z z J)) sizeOf27 k4 rfl rfl rfl rfl rfl (cS rfl) rfl rfl (fun k5 (k6:aH G K (box b3 27 (zC c.2 V Z z J)::box a3 27 (zC c.1 x y q r)::aJ 9 K x y c.1.L::aJ 69 K q r c.1.E::aJ 9 K V Z c.2.L::aJ 69 K z J c.2.E::L) k5)=>(yW ?_))))))))
   obtain ⟨w5,k7,k8,k9,l0⟩:=aH.lendS (i:=2) k6 (Hp.le_refl _) rfl
   obtain ⟨w6,l1,l2,l3,l4⟩:=aH.lendS (i:=2) k9 k7 rfl
   obtain ⟨e,l5,d⟩:=aB d
   refine zF call12 (tZ l3 hG (k8.mono l1) l2 l5) ?_
   rintro _ w7 ⟨n,o,k,l,rfl,l6⟩
   have l7:=l4 _ _ l6
   have l8:=l0 _ _ l7
   refine yW ?_;refine bR (vs:=d1) zeroValue27 l8 rfl (fun a9 w8 l9=>(bS (i:=0) (ns:=(zC e.1 n o k l)) (us:=(zC e.1 n o k l)) sizeOf27 l9 rfl rfl rfl rfl rfl (cS rfl) rfl rfl (fun m0 (m1:aH G K (box a9 27 (zC e.1 n o k l)::aJ 9 K x y c.1.L::aJ 69 K q r c.1.E::aJ 9 K n o e.1.L::aJ 69 K k l e.1.E::box b3 27 (zC c.2 V Z z J)::box a3 27 (zC c.1 x y q r)::aJ 9 K V Z c.2.L::aJ 69 K z J c.2.E::L) m0)=>(yW ?_))))
   obtain ⟨w9,m2,m3,m4,m5⟩:=aH.lendS (i:=7) m1 (Hp.le_refl _) rfl
   obtain ⟨x0,m6,m7,m8,m9⟩:=aH.lendS (i:=7) m4 m2 rfl
   obtain ⟨h,n0,d⟩:=aB d
   refine zF call12 (tZ m8 hG (m3.mono m6) m7 n0) ?_
   rintro _ x1 ⟨a5,a6,a7,a8,rfl,n1⟩
   have n2:=m9 _ _ n1
   have n3:=m5 _ _ n2
   refine yW ?_;refine bR (vs:=d1) zeroValue27 n3 rfl (fun c0 x2 n4=>(bS (i:=0) (ns:=(zC h.1 a5 a6 a7 a8)) (us:=(zC h.1 a5 a6 a7 a8)) sizeOf27 n4 rfl rfl rfl rfl rfl (cS rfl) rfl rfl (fun d2 (f1:aH G K (box c0 27 (zC h.1 a5 a6 a7 a8)::aJ 9 K V Z c.2.L::aJ 69 K z J c.2.E::aJ 9 K a5 a6 h.1.L::aJ 69 K a7 a8 h.1.E::box a9 27 (zC e.1 n o k l)::aJ 9 K x y c.1.L::aJ 69 K q r c.1.E::aJ 9 K n o e.1.L::aJ 69 K k l e.1.E::box b3 27 (zC c.2 V Z z J)::box a3 27 (zC c.1 x y q r)::L) d2)=>(yW ?_))))
   refine aC (dN (us:=(zC c.1 x y q r)) cZ f1 (i:=11) rfl rfl rfl rfl) (aC (dN (us:=(zC c.2 V Z z J)) cZ f1 (i:=10) rfl rfl rfl rfl) ?_);obtain ⟨n5,a0,d3,f2⟩:=aH.giveS (i:=6) f1 (Hp.le_refl _) rfl
   replace f2:aH G n5 (box c0 27 (zC h.1 a5 a6 a7 a8)::aJ 9 K V Z c.2.L::aJ 69 K z J c.2.E::aJ 9 K a5 a6 h.1.L::aJ 69 K a7 a8 h.1.E::box a9 27 (zC e.1 n o k l)::aJ 69 K q r c.1.E::aJ 9 K n o e.1.L::aJ 69 K k l e.1.E::box b3 27 (zC c.2 V Z z J)::box a3 27 (zC c.1 x y q r)::L) d2:=f2
   obtain ⟨n6,u,d4,f3⟩:=aH.giveS (i:=6) f2 a0 rfl
   replace f3:aH G n6 (box c0 27 (zC h.1 a5 a6 a7 a8)::aJ 9 K V Z c.2.L::aJ 69 K z J c.2.E::aJ 9 K a5 a6 h.1.L::aJ 69 K a7 a8 h.1.E::box a9 27 (zC e.1 n o k l)::aJ 9 K n o e.1.L::aJ 69 K k l e.1.E::box b3 27 (zC c.2 V Z z J)::box a3 27 (zC c.1 x y q r)::L) d2:=f3
   obtain ⟨n7,m,h5,f4⟩:=aH.giveS (i:=1) f3 (zL a0 u) rfl
   replace f4:aH G n7 (box c0 27 (zC h.1 a5 a6 a7 a8)::aJ 69 K z J c.2.E::aJ 9 K a5 a6 h.1.L::aJ 69 K a7 a8 h.1.E::box a9 27 (zC e.1 n o k l)::aJ 9 K n o e.1.L::aJ 69 K k l e.1.E::box b3 27 (zC c.2 V Z z J)::box a3 27 (zC c.1 x y q r)::L) d2:=f4
   obtain ⟨n8,j,h7,f5⟩:=aH.giveS (i:=1) f4 (zL (zL a0 u) m) rfl
   replace f5:aH G n8 (box c0 27 (zC h.1 a5 a6 a7 a8)::aJ 9 K a5 a6 h.1.L::aJ 69 K a7 a8 h.1.E::box a9 27 (zC e.1 n o k l)::aJ 9 K n o e.1.L::aJ 69 K k l e.1.E::box b3 27 (zC c.2 V Z z J)::box a3 27 (zC c.1 x y q r)::L) d2:=f5
   obtain ⟨c1,n9,d⟩:=aB d
   refine zF call8 (yE (a:=⟨c.1.N,c.1.I,c.1.L,c.1.E⟩) (b:=⟨c.2.N,c.2.I,c.2.L,c.2.E⟩) f5 hG (d3.mono (zL (zL u m) j)) (d4.mono (zL m j)) (h5.mono j) h7 n9) ?_
   rintro _ x3 ⟨h8,x4,x5,rfl,p,x6,f6⟩
   iterate 11 refine aIQ ?_
   refine cQ (fun f w=>∃ f7,hY b1 c e h c1 f7=some R/\f 1=zS a4 b1.length c5/\f 5=zP (some ⟨a3,0,none⟩)/\f 6=zP (some ⟨b3,0,none⟩)/\f 7=zP (some ⟨a9,0,none⟩)/\f 9=zP (some ⟨c0,0,none⟩)/\f 11=zB c1.1/\f 13=i64 c1.2.2/\f 66=zB f7/\aH G h8 (box c0 27 (zC h.1 a5 a6 a7 a8)::aJ 9 K a5 a6 h.1.L::aJ 69 K a7 a8 h.1.E::box a9 27 (zC e.1 n o k l)::aJ 9 K n o e.1.L::aJ 69 K k l e.1.E::box b3 27 (zC c.2 V Z z J)::box a3 27 (zC c.1 x y q r)::L) w) ?_ ?_
   ·rintro f x7 ⟨f7,d,h9,i0,x8,e1,o0,o1,x9,y0,e2⟩
    unfold hY at d
    refine yW ?_
    rcases aG d with ⟨o2,d⟩|⟨o2,d⟩
    ·refine yW ?_;obtain ⟨y1,o3,d⟩:=aB d
     refine zF call9 (aDW e2 (d3.mono (zL (zL (zL u m) j) p)) (d4.mono (zL (zL m j) p)) (h5.mono (zL j p)) (h7.mono p) o3) ?_
     rintro _ y2 ⟨y3,y4,rfl,o4⟩
     refine yW ?_;obtain rfl:=zI d
     exact bK (aW (bM results4 rfl ⟨rfl,(aH.weakK (aH.arr 9 [] o4 rfl) (zL (zL (zL (zL a0 u) m) j) p))⟩))
    ·iterate 5 refine aIQ ?_
     refine cQ (fun f w=>∃ f8,jK b1 c e f8=some R/\f 1=zS a4 b1.length c5/\f 5=zP (some ⟨a3,0,none⟩)/\f 7=zP (some ⟨a9,0,none⟩)/\f 86=zB f8/\aH G h8 (box a9 27 (zC e.1 n o k l)::aJ 9 K n o e.1.L::aJ 69 K k l e.1.E::box a3 27 (zC c.1 x y q r)::L) w) ?_ ?_
     ·rintro f i1 ⟨f8,d,y5,d5,y6,y7,i2⟩
      unfold jK at d
      refine yW ?_
      rcases aG d with ⟨o6,d⟩|⟨o6,d⟩
      ·refine yW ?_;obtain rfl:=zI d
       exact bK (aW (bM results4 rfl ⟨rfl,(aH.weakK (aH.arr 4 [] i2 rfl) (zL (zL (zL (zL a0 u) m) j) p))⟩))
      ·refine yW ?_;obtain ⟨o8,b2,i3,f9⟩:=aH.giveS (i:=1) i2 (zL (zL (zL (zL a0 u) m) j) p) rfl
       replace f9:aH G o8 (box a9 27 (zC e.1 n o k l)::aJ 69 K k l e.1.E::box a3 27 (zC c.1 x y q r)::L) i1:=f9
       obtain ⟨o9,b0,i4,g0⟩:=aH.giveS (i:=1) f9 (zL (zL (zL (zL (zL a0 u) m) j) p) b2) rfl
       replace g0:aH G o9 (box a9 27 (zC e.1 n o k l)::box a3 27 (zC c.1 x y q r)::L) i1:=g0
       obtain ⟨g1,p0,d⟩:=aB d
       refine zF call8 (yE (b:=⟨e.1.N,e.1.I,e.1.L,e.1.E⟩) g0 hG (d3.mono (zL (zL (zL (zL (zL u m) j) p) b2) b0)) (d4.mono (zL (zL (zL (zL m j) p) b2) b0)) (i3.mono b0) i4 p0) ?_
       rintro _ y8 ⟨p1,y9,z0,rfl,b4,z1,p2⟩
       refine yW ?_;obtain ⟨d6,p3,d⟩:=aB d
       refine zF call15 (aHi p2 (h6.mono (zL (zL (zL (zL (zL (zL (zL a0 u) m) j) p) b2) b0) b4)) p3) ?_
       rintro _ z2 ⟨rfl,p4⟩
       refine yW ?_;obtain ⟨b5,p5,d⟩:=aB d
       refine zF call16 (yF p4 hG (d3.mono (zL (zL (zL (zL (zL (zL u m) j) p) b2) b0) b4)) (d4.mono (zL (zL (zL (zL (zL m j) p) b2) b0) b4)) p5) ?_
       rintro _ z3 ⟨rfl,p6⟩
       refine yW ?_;obtain ⟨c9,p7,d⟩:=aB d
       refine zF call16 (yF p6 hG (i3.mono (zL b0 b4)) (i4.mono b4) p7) ?_
       rintro _ z4 ⟨rfl,d7⟩
       iterate 9 refine aIQ ?_
       refine cQ (fun f w=>∃ g2,fE c d6 b5 g2=some R/\f 5=zP (some ⟨a3,0,none⟩)/\f 20=i64 d6/\f 21=i64 b5.1/\f 126=zB g2/\aH G p1 (box a3 27 (zC c.1 x y q r)::L) w) ?_ ?_
       ·rintro f z5 ⟨g2,d,z6,p8,p9,z7,i5⟩
        unfold fE at d
        refine yW ?_
        rcases aG d with ⟨q0,d⟩|⟨q0,d⟩
        ·refine yW ?_;obtain rfl:=zI d
         exact bK (aW (bM results4 rfl ⟨rfl,(aH.weakK (aH.arr 1 [] i5 rfl) (zL (zL (zL (zL (zL (zL (zL a0 u) m) j) p) b2) b0) b4))⟩))
        ·refine yW ?_;obtain ⟨d8,q2,d⟩:=aB d
         refine zF call10 (aFx i5 hG (d3.mono (zL (zL (zL (zL (zL (zL u m) j) p) b2) b0) b4)) (d4.mono (zL (zL (zL (zL (zL m j) p) b2) b0) b4)) q2) ?_
         rintro _ z8 ⟨d9,e3,e4,rfl,i6,i7⟩
         refine yW ?_
         rcases aG d with ⟨q3,d⟩|⟨q3,d⟩
         ·refine yW ?_;obtain rfl:=zI d
          exact bK (aW (bM results4 rfl ⟨rfl,(aH.weakK (aH.arr 2 [] i7 rfl) (zL (zL (zL (zL (zL (zL (zL (zL a0 u) m) j) p) b2) b0) b4) i6))⟩))
         ·refine yW ?_;refine aZ (fun f w=>∃ g3,jI b5 g3=some R/\f 21=i64 b5.1/\f 27=i64 g3/\aH G d9 (L) w) ?_ ?_
          ·rintro f z9 ⟨g3,d,a00,a01,q5⟩
           unfold jI at d
           refine yW ?_;obtain rfl:=zI d
           exact aIK results4 ⟨rfl,(aH.weakK q5 (zL (zL (zL (zL (zL (zL (zL (zL a0 u) m) j) p) b2) b0) b4) i6))⟩
          obtain ⟨a02,q7,d⟩:=aB d
          refine cE q7 (fun s f w=>match s with|(c3,d0)=>f 20=i64 d6/\f 21=i64 b5.1/\f 25=zS e3 d8.1.length e4/\f 27=i64 c3/\f 28=i64 d0/\aH G d9 (aJ 24 d9 e3 e4 d8.1::L) w) ?_ ?_
          ·exact ⟨p8,p9,rfl,rfl,rfl,(aH.arr 2 [0] i7 rfl)⟩
          ·rintro ⟨c3,d0⟩ i8 f a03 a2 q8 ⟨i9,g4,j0,j1,j2,e0⟩
           replace a2:lZ d6 d8 c3 d0=some i8:=a2
           unfold lZ at a2
           refine yW ?_
           rcases aG a2 with ⟨q9,a2⟩|⟨q9,a2⟩
           ·refine yW ?_;refine aZ (fun f w=>∃ e5,jJ d0 e5=some i8/\f 20=i64 d6/\f 21=i64 b5.1/\f 25=zS e3 d8.1.length e4/\f 27=i64 e5/\f 28=i64 d0/\aH G d9 (aJ 24 d9 e3 e4 d8.1::L) w) ?_ ?_
            ·rintro f a04 ⟨e5,a2,r0,r1,r2,r3,a05,r4⟩
             unfold jJ at a2
             refine yW ?_;exact ⟨(e5,wr (d0+1)),(zI a2).symm,r0,r1,r2,r3,rfl,r4⟩
            refine yW ?_;obtain ⟨r5,g5,a2⟩:=aB a2
            have r6:=cU e0 (i:=0) rfl g5
            refine aC (dB aEj rfl r6 rfl rfl rfl g5) ?_;obtain ⟨a06,r7,r8⟩:=aFK (sz:=1) rfl e0 (i:=0) rfl g5
            obtain ⟨r9,s0,rfl,a07⟩:=r8
            refine aC (R_ldC (t:=0) (v:=zS r9 r5.length s0) fX r7 rfl rfl) (yW ?_)
            rcases aG a2 with ⟨s1,a2⟩|⟨s1,a2⟩
            ·refine yW ?_;exact ⟨wr (c3+1),a2,i9,g4,j0,rfl,j2,e0⟩
            ·refine yW ?_;exact ⟨c3,a2,i9,g4,j0,j1,j2,e0⟩
           ·refine yW ?_
            have s2:=q8 _ (zI a2).symm
            subst s2
            have d:(jI b5 c3)=some R:=d
            refine yW ?_;exact ⟨c3,d,g4,j1,(aH.arr 1 [] e0 rfl)⟩
       refine yW ?_
       rcases aG d with ⟨s3,d⟩|⟨s3,d⟩
       ·refine yW ?_;exact ⟨true,d,d5,rfl,rfl,rfl,(aH.arr 1 [] d7 rfl)⟩
       ·refine yW ?_
        rcases aG d with ⟨e6,d⟩|⟨e6,d⟩
        ·refine yW ?_;exact ⟨true,d,d5,rfl,rfl,rfl,(aH.arr 1 [] d7 rfl)⟩
        ·refine bF e6 rfl rfl (aM (v:=i64 c9.2) (bF e6 rfl rfl (aC (kD rfl rfl) (aC (bJ (v:=zB (c9.2 != 0)) e6 rfl rfl) (aM (v:=zB (c9.2 != 0)) ?_)))))
         rcases aG d with ⟨c4,d⟩|⟨c4,d⟩
         ·exact aT c4 rfl rfl (aT c4 rfl rfl (aC (bH (v:=zB true) c4 rfl rfl) (aM (v:=zB true) (aT (rfl:true=true) rfl rfl (aT (rfl:true=true) rfl rfl (aT (rfl:true=true) rfl rfl (aC (bH (v:=zB true) (rfl:true=true) rfl rfl) (aF ⟨true,d,d5,rfl,rfl,rfl,(aH.arr 1 [] d7 rfl)⟩))))))))
         ·refine bF c4 rfl rfl (aM (v:=zB g1.1) (bF c4 rfl rfl (aC (dO rfl) (aC (bJ (v:=zB (!g1.1)) c4 rfl rfl) (aM (v:=zB (!g1.1)) ?_)))))
          rcases aG d with ⟨b6,d⟩|⟨b6,d⟩
          ·exact aT b6 rfl rfl (aT b6 rfl rfl (aT b6 rfl rfl (aC (bH (v:=zB true) b6 rfl rfl) (aF ⟨true,d,d5,rfl,rfl,rfl,(aH.arr 1 [] d7 rfl)⟩))))
          ·exact bF b6 rfl rfl (aM (v:=i64 b5.1) (bF b6 rfl rfl (aM (v:=i64 c9.1) (bF b6 rfl rfl (aC (kD rfl rfl) (aC (bJ (v:=zB (b5.1 != c9.1)) b6 rfl rfl) (aF ⟨b5.1 != c9.1,d,d5,rfl,rfl,rfl,(aH.arr 1 [] d7 rfl)⟩)))))))
     refine aN (aO o1 (aC (dN (us:=(zC e.1 n o k l)) cZ e2 (i:=3) rfl e1 rfl rfl) (aC (dN (us:=(zC h.1 a5 a6 a7 a8)) cZ e2 (i:=0) rfl o0 rfl rfl) ?_)));obtain ⟨a08,g6,s4,s5,s6⟩:=aH.lendS (i:=4) e2 (zL (zL (zL (zL a0 u) m) j) p) rfl
     obtain ⟨a09,g7,s7,s8,s9⟩:=aH.lendS (i:=4) s5 (zL (zL (zL (zL (zL a0 u) m) j) p) g6) rfl
     obtain ⟨a10,g8,t0,t1,t2⟩:=aH.lendS (i:=1) s8 (zL (zL (zL (zL (zL (zL a0 u) m) j) p) g6) g7) rfl
     obtain ⟨a11,g9,t3,t4,t5⟩:=aH.lendS (i:=1) t1 (zL (zL (zL (zL (zL (zL (zL a0 u) m) j) p) g6) g7) g8) rfl
     obtain ⟨t6,t7,d⟩:=aB d
     refine aS (vs:=[Value.agg (zCa e.1 n o k l),Value.agg (zCa h.1 a5 a6 a7 a8)]) call13 rfl (aGp t4 (s4.mono (zL (zL g7 g8) g9)) (s7.mono (zL g8 g9)) (t0.mono g9) t3 t7) ?_
     rintro _ a12 ⟨rfl,t8⟩
     have t9:=t5 _ _ t8
     have u0:=t2 _ _ t9
     have u1:=s9 _ _ u0
     have h0:=s6 _ _ u1
     refine aC (R_neqB runUnderlying4 rfl rfl) (aM (v:=zB (c1.1 != t6)) ?_)
     rcases aG d with ⟨b7,d⟩|⟨b7,d⟩
     ·exact aT b7 rfl rfl (aT b7 rfl rfl (aT b7 rfl rfl (aC (bH (v:=zB true) b7 rfl rfl) (aF ⟨true,d,h9,i0,e1,rfl,(aH.arr 7 [5,0,1] h0 rfl)⟩))))
     ·refine bF b7 rfl rfl (aC (dN (us:=(zC e.1 n o k l)) cZ h0 (i:=5) rfl e1 rfl rfl) (bF b7 rfl rfl ?_));obtain ⟨a13,u2,u3,u4,u5⟩:=aH.lendS (i:=0) h0 (zL (zL (zL (zL a0 u) m) j) p) rfl
      obtain ⟨a14,u6,u7,u8,u9⟩:=aH.lendS (i:=0) u4 (zL (zL (zL (zL (zL a0 u) m) j) p) u2) rfl
      obtain ⟨j3,v0,d⟩:=aB d
      refine aS (vs:=[Value.agg (zCa e.1 n o k l)]) call14 rfl (yN u8 (u3.mono u6) u7 v0) ?_
      rintro _ a15 ⟨rfl,v1⟩
      have v2:=u9 _ _ v1
      have v3:=u5 _ _ v2
      exact bF b7 rfl rfl (aC (dO rfl) (aC (bJ (v:=zB (!j3)) b7 rfl rfl) (aF ⟨!j3,d,h9,i0,e1,rfl,(aH.arr 7 [5,0,1] v3 rfl)⟩)))
   refine aN (aM (v:=i64 e.2) (aC (kD rfl rfl) (aM (v:=zB (e.2 != 0)) ?_)))
   rcases aG d with ⟨c6,d⟩|⟨c6,d⟩
   ·exact aT c6 rfl rfl (aT c6 rfl rfl (aC (bH (v:=zB true) c6 rfl rfl) (aM (v:=zB true) (aT (rfl:true=true) rfl rfl (aT (rfl:true=true) rfl rfl (aC (bH (v:=zB true) (rfl:true=true) rfl rfl) (aF ⟨true,d,e9,rfl,rfl,rfl,rfl,rfl,rfl,rfl,f6⟩)))))))
   ·refine bF c6 rfl rfl (aM (v:=i64 h.2) (bF c6 rfl rfl (aC (kD rfl rfl) (aC (bJ (v:=zB (h.2 != 0)) c6 rfl rfl) (aM (v:=zB (h.2 != 0)) ?_)))))
    rcases aG d with ⟨c7,d⟩|⟨c7,d⟩
    ·exact aT c7 rfl rfl (aT c7 rfl rfl (aC (bH (v:=zB true) c7 rfl rfl) (aF ⟨true,d,e9,rfl,rfl,rfl,rfl,rfl,rfl,rfl,f6⟩)))
    ·exact bF c7 rfl rfl (aM (v:=i64 c1.2.2) (bF c7 rfl rfl (aC (kD rfl rfl) (aC (bJ (v:=zB (c1.2.2 != 0)) c7 rfl rfl) (aF ⟨c1.2.2 != 0,d,e9,rfl,rfl,rfl,rfl,rfl,rfl,rfl,f6⟩)))))
 refine aN (aM (v:=zS a1 b8.length c2) ?_);obtain ⟨v4,v5,d⟩:=aB d
 refine aS (vs:=[zS a1 b8.length c2]) call5 rfl (aCH hs h3 v5) ?_
 rintro _ a16 ⟨rfl,j4⟩
 refine aM (v:=zB v4) ?_
 rcases aG d with ⟨c8,d⟩|⟨c8,d⟩
 ·exact aT c8 rfl rfl (aT c8 rfl rfl (aC (bH (v:=zB true) c8 rfl rfl) (aF ⟨true,d,rfl,rfl,rfl,j4⟩)))
 ·refine bF c8 rfl rfl (aM (v:=zS a4 b1.length c5) (bF c8 rfl rfl ?_));obtain ⟨j5,v6,d⟩:=aB d
  refine aS (vs:=[zS a4 b1.length c5]) call5 rfl (aCH j4 h6 v6) ?_
  rintro _ a18 ⟨rfl,v8⟩
  exact aC (bJ (v:=zB j5) c8 rfl rfl) (aF ⟨j5,d,rfl,rfl,rfl,v8⟩)
end Gv
