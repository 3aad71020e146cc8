/- Walks, printed by program. -/
import Derived.Test.YthbfapccpmppoaaGreatDoorJWk3
set_option linter.all false
namespace Gv
open Gv.Hp renaming le_refl→zR
open Go.Value renaming slice→zS,bool→zB,agg→zA
open Option.some renaming inj→zI
open Go Go.Proofs Go.Proofs.Tryz
set_option maxRecDepth 20000
set_option maxHeartbeats 40000000
variable {G:kH} {K:Hp} {L:List eW} {w:World} {a1 a4 a7 a10 a13 a16 a19 a22 a25:Option Addr} {c2 c5 c8 c11 c14 c17 c20 c23 c26:Nat}
theorem aMN {b5:(List Definition)} {q:(List bG)} {R:aL} (hm:yJ b5 q=some R) (hs:aF G K (L) w) (h3:aW K a1 c2 b5) (h6:aW K a4 c5 q):
  Calls prog 162 ([zS a1 b5.length c2,zS a4 q.length c5]:List Value).toArray w (cL fun v w'=>v=str R/\aF G K (L) w'):=by
 refine aN func162 rfl (by kernel_rfl) (by show (2:Nat)<=180;decide) ?_;unfold yJ at hm
 refine aJ (aG (v:=str ([]:aL)) (aM (aJ (dK (Kt:=K) (xs:=([]:List aL)) (cs:=[]) (vs:=[]) cT qF rfl rfl hs rfl (by kernel_rfl) rfl rfl rfl trivial (fun a7 w8 (m1:aF G K (aV 9 K a7 0 ([]:List aL)::L) w8)=>(aG (v:=zS a7 ([]:List aL).length 0) (aM (aJ (dK (Kt:=K) (xs:=([]:List Bool)) (cs:=[]) (vs:=[]) mQ aLs rfl rfl m1 rfl (by kernel_rfl) rfl rfl rfl trivial (fun g4 m2 (a07:aF G K (aV 4 K g4 0 ([]:List Bool)::aV 9 K a7 0 ([]:List aL)::L) m2)=>(aG (v:=zS g4 ([]:List Bool).length 0) (aM (aH (aJ (aO (v:=zS a4 q.length c5) (aC (aX (len:=q.length) lK rfl) (aC (kR rfl rfl) (aG (v:=i64 (wr ((q.length:Int) - 1))) (aM (aQ [] (fun f w=>∃ c9 g5 g6,aEV c9=some R/\f 5=zS g5 c9.length g6/\aF G K (aV 9 K g5 g6 c9::L) w) aE ?_))))))))))))))))))))
 obtain ⟨a08,m3,ho⟩:=aB hm
 refine aBM [0,1] m3 (fun e l b6 f w=>∃ m n g j,f 5=zS m e.length n/\f 6=zS g l.length j/\f 7=i64 b6/\aF G K (aV 4 K g j l::aV 9 K m n e::L) w) aE ?_
 ·rintro e l b6 m4 f w51 hm hr ⟨m,n,g,j,o,p,d0,d1⟩
  unfold nV at hm
  refine aH (aJ (bR d0 (aC (aOl rfl rfl) (aM ?_))))
  rcases aI hm with ⟨d2,hm⟩|⟨d2,hm⟩
  ·refine aS d2 rfl (aU (aD (aH (bJ (aJ (aO (v:=zS a4 q.length c5) (bR d0 ?_)))))));obtain ⟨a,g7,hm⟩:=aB hm
   refine aC (cR lK rfl h6 rfl rfl rfl g7) ?_;obtain ⟨a11,m5,m6⟩:=aW.el (sz:=4) rfl h6 g7
   obtain ⟨c,d,rfl,b7⟩:=m6
   refine aC (eD (t:=0) (vs:=[i64 a.Kind,i64 a.Number,str a.Name,zS c a.Arguments.length d]) yA d1 m5 rfl rfl rfl) (eE (vs:=[i64 0,i64 0,str ([]:aL),zS none 0 0]) zeroValue170 d1 rfl (fun k w76 m7=>(fA (i:=0) (ns:=[i64 a.Kind,i64 a.Number,str a.Name,zS c a.Arguments.length d]) (us:=[i64 a.Kind,i64 a.Number,str a.Name,zS c a.Arguments.length d]) sizeOf170 m7 rfl rfl rfl rfl rfl (kJ rfl) rfl rfl (fun m8 (b:aF G K (box k 170 [i64 a.Kind,i64 a.Number,str a.Name,zS c a.Arguments.length d]::aV 4 K g j l::aV 9 K m n e::L) m8)=>(aM (aJ (bR o (aC (aX (len:=e.length) cT rfl) (aC (kR rfl rfl) (aG (v:=i64 (wr ((e.length:Int) - 1))) (aM (aJ (aC (bH (t':=0) oL rfl rfl) (aC (dD gJ b (i:=0) rfl rfl rfl) (aM (aQ [0,1,7] (fun f w=>∃ b8 b9 c0 c1 c3 c4,gU b6 b8 b9=some m4/\f 5=zS c0 b8.length c1/\f 6=zS c3 b9.length c4/\aF G K (aV 4 K c3 c4 b9::aV 9 K c0 c1 b8::L) w) ?_ ?_))))))))))))))))
   ·rintro f w88 ⟨b8,b9,c0,c1,c3,c4,hm,m9,n0,n1⟩
    unfold gU at hm
    exact eL (aD (bK (bR d0 (aC (kR rfl rfl) (aG (v:=i64 (wr (b6 - 1))) (aM ⟨_,(zI hm).symm,gF,c0,c1,c3,c4,m9,n0,rfl,n1⟩))))))
   refine aJ (aC (dN rfl rfl) (aG (v:=zB (a.Kind == 0)) (aM ?_)))
   rcases aI hm with ⟨d3,hm⟩|⟨d3,hm⟩
   ·refine aS d3 rfl (aJ (bR o (dK (Kt:=K) (xs:=([([48]:aL)]:List aL)) (cs:=[str ([48]:aL)]) (vs:=[(0,str ([48]:aL))]) cT qF rfl rfl b rfl (by kernel_rfl) rfl rfl rfl ⟨rfl,trivial⟩ (fun n2 n3 (n4:aF G K (aV 9 K n2 1 ([([48]:aL)]:List aL)::box k 170 [i64 a.Kind,i64 a.Number,str a.Name,zS c a.Arguments.length d]::aV 4 K g j l::aV 9 K m n e::L) n3)=>?_))));obtain ⟨b2,n5,hm⟩:=aB hm
    refine jQ (i:=2) cT underlying22 qF rfl rfl n4 rfl (zR _) (zR _) n5 rfl rfl rfl rfl (fun _ h=>h) (fun b3 b4 n6 (n7:aF G K (box k 170 [i64 a.Kind,i64 a.Number,str a.Name,zS c a.Arguments.length d]::aV 4 K g j l::aV 9 K b3 b4 b2::L) n6)=>(aG (v:=zS b3 b2.length b4) (aM (bK (bR p (dK (Kt:=K) (xs:=([false]:List Bool)) (cs:=[zB false]) (vs:=[(0,zB false)]) mQ aLs rfl rfl n7 rfl (by kernel_rfl) rfl rfl rfl ⟨rfl,trivial⟩ (fun n8 n9 (o0:aF G K (aV 4 K n8 1 ([false]:List Bool)::box k 170 [i64 a.Kind,i64 a.Number,str a.Name,zS c a.Arguments.length d]::aV 4 K g j l::aV 9 K b3 b4 b2::L) n9)=>?_)))))))
    obtain ⟨d4,o1,hm⟩:=aB hm
    exact jQ (i:=1) mQ underlying247 aLs rfl rfl o0 rfl (zR _) (zR _) o1 rfl rfl rfl rfl (fun _ h=>h) (fun d5 d6 o2 (o3:aF G K (box k 170 [i64 a.Kind,i64 a.Number,str a.Name,zS c a.Arguments.length d]::aV 4 K d5 d6 d4::aV 9 K b3 b4 b2::L) o2)=>(aG (v:=zS d5 d4.length d6) (bP (eL (aD ⟨gF,b2,d4,b3,b4,d5,d6,hm,rfl,rfl,(aF.arr 1 [] o3 rfl)⟩)))))
   ·refine aP d3 rfl (aJ (aC (dN rfl rfl) (aG (v:=zB (a.Kind == 5)) (aM ?_))))
    rcases aI hm with ⟨d7,hm⟩|⟨d7,hm⟩
    ·refine aS d7 rfl (aH ?_);obtain ⟨g8,c6,g9,h0,a15⟩:=aF.lendBp b .head
     refine mO (C:=fun w'=>∃ L',aF G g8 L' w') [(0,0),(1,0),(2,0),(3,0),(4,0),(5,0),(6,0),(7,0),(8,0),(9,1),(10,0),(11,1),(12,1),(13,0)] Tryz_mixed (by kernel_rfl) (fun _ hg=>⟨_,aF.mono h0 hg⟩) (fun a16 o4=>?_)
     have r:=aF.mono h0 o4
     refine dL rfl (fun _ _=>bC o) (dL rfl (fun _ _=>bC (v:=zS a1 b5.length c2) rfl) (dL rfl (fun _ _=>bH (t':=1) aJd rfl rfl) (dL rfl (fun _ ⟨_,r⟩=>bZ (t:=1) gJ r g9 rfl rfl) ?_)));obtain ⟨a17,h1,hm⟩:=aB hm
     refine dL rfl (fun _ _=>cR qI rfl (h3.mono c6) rfl rfl rfl h1) ?_;obtain ⟨a18,h2,o5⟩:=aW.el (sz:=3) rfl h3 h1
     obtain ⟨a19,a20,rfl,a21⟩:=o5
     refine dL rfl (fun _ _=>cF (k':=a.Number.toNat * 3+0) aDP rfl (h2.mono c6) rfl) (dL rfl (fun _ ⟨_,r⟩=>bZ (t:=0) oK r (h2.mono c6) rfl rfl) (dL rfl (fun _ _=>bH (t':=3) oM rfl rfl) (dL rfl (fun _ ⟨_,r⟩=>bZ (t:=3) aAI r g9 rfl rfl) (vM rfl ?_))));obtain ⟨a22,o6,hm⟩:=aB hm
     refine aT (vs:=[zS c a.Arguments.length d]) call198 rfl (aCz o6 r (b7.mono c6)) ?_
     rintro _ a23 ⟨rfl,h4⟩
     refine bP (aD ⟨⟨_,h4⟩,?_⟩)
     obtain ⟨c7,o7,hm⟩:=aB hm
     refine dL rfl (fun _ _=>dX rfl rfl o7) (vM rfl (dK (Kt:=K) (xs:=([c7]:List aL)) (cs:=[str c7]) (vs:=[(0,str c7)]) cT qF rfl rfl h4 rfl (by kernel_rfl) rfl rfl rfl ⟨rfl,trivial⟩ (fun o8 o9 (p0:aF G g8 (aV 9 K o8 1 ([c7]:List aL)::aV 4 K g j l::aV 9 K m n e::L) o9)=>(bP (aD ⟨⟨_,p0⟩,?_⟩)))))
     exact vM rfl aE
    ·refine aP d7 rfl (aJ (aC (dN rfl rfl) (aG (v:=zB (a.Kind == 2)) (aM ?_))))
     rcases aI hm with ⟨d8,hm⟩|⟨d8,hm⟩
     ·refine aS d8 rfl (aH (fZ (C:=fun w'=>aF G K (box k 170 [i64 a.Kind,i64 a.Number,str a.Name,zS c a.Arguments.length d]::aV 4 K g j l::aV 9 K m n e::L) w') Tryz_mixed (by kernel_rfl) (aF.mono b (eI.drew _)) (bE (fun _ b=>bC o) (bE (fun _ b=>bC (v:=i64 (wr ((e.length:Int) - 1))) rfl) ?_))));obtain ⟨p1,d9,hm⟩:=aB hm
      have h5:=eN b (i:=2) rfl d9
      refine bE (fun _ b=>jE cT rfl h5 rfl rfl rfl d9) (bE (fun _ b=>oJ (t:=0) oK b (i:=2) rfl d9 rfl rfl rfl) (bE (fun _ b=>bC p) (bE (fun _ b=>bC (v:=i64 (wr ((e.length:Int) - 1))) rfl) ?_)));obtain ⟨p2,e0,hm⟩:=aB hm
      have p3:=eN b (i:=1) rfl e0
      refine bE (fun _ b=>jE mQ rfl p3 rfl rfl rfl e0) (bE (fun _ b=>oJ (t:=0) sc_4 b (i:=1) rfl e0 rfl rfl rfl) ?_);obtain ⟨p4,p5,hm⟩:=aB hm
      refine gA (vs:=[str p1,zB p2]) (v:=str p4) call72 rfl (fun _ b=>(gR p5 b)) ?_;obtain ⟨a24,p6,hm⟩:=aB hm
      refine bE (fun _ b=>dX rfl rfl p6) (bE (fun _ b=>bC o) (bE (fun _ b=>bC (v:=i64 (wr ((e.length:Int) - 1))) rfl) (bE (fun _ b=>kR rfl rfl) ?_)));obtain ⟨a25,h7,hm⟩:=aB hm
      refine bE (fun _ b=>jE cT rfl h5 rfl rfl rfl h7) (bE (fun _ b=>oJ (t:=0) oK b (i:=2) rfl h7 rfl rfl rfl) ?_);obtain ⟨u,p7,hm⟩:=aB hm
      refine bE (fun _ b=>dX rfl rfl p7) (bE (fun _ b=>dJ (v:=str u) rfl) (uH (fun a26 h8=>(aD (aJ (bR o (aO (v:=i64 (wr ((e.length:Int) - 1))) (aC (kR rfl rfl) ?_))))))));obtain ⟨p8,h9,hm⟩:=aB hm
      have p9:=pN h8 (i:=2) rfl
      obtain ⟨q0,q1,i0⟩:=Cut.ex 1 m n 0
      refine aC (uI cT p9 i0 rfl rfl rfl h9) (aO (v:=str u) (dK (Kt:=K) (xs:=([u]:List aL)) (cs:=[str u]) (vs:=[(0,str u)]) cT qF rfl rfl h8 rfl (by kernel_rfl) rfl rfl rfl ⟨rfl,trivial⟩ (fun i1 i2 (q2:aF G K (aV 9 K i1 1 ([u]:List aL)::box k 170 [i64 a.Kind,i64 a.Number,str a.Name,zS c a.Arguments.length d]::aV 4 K g j l::aV 9 K m n e::L) i2)=>?_)))
      have q3:aF G K (aV 9 K i1 1 ([u]:List aL)::box k 170 [i64 a.Kind,i64 a.Number,str a.Name,zS c a.Arguments.length d]::aV 4 K g j l::aV 9 K q0 q1 p8::L) i2:=aF.cutP q2 (i:=3) rfl h9 i0
      obtain ⟨J,q4,hm⟩:=aB hm
      refine jQ (i:=2) cT underlying22 qF rfl rfl q3 rfl (zR _) (zR _) q4 rfl rfl rfl rfl (fun _ h=>h) (fun V Z q5 (i3:aF G K (box k 170 [i64 a.Kind,i64 a.Number,str a.Name,zS c a.Arguments.length d]::aV 4 K g j l::aV 9 K V Z J::L) q5)=>(aG (v:=zS V J.length Z) (aM (bK (bR p (aO (v:=i64 (wr ((e.length:Int) - 1))) (aC (kR rfl rfl) ?_)))))));obtain ⟨q6,i4,hm⟩:=aB hm
      have q7:=pN i3 (i:=1) rfl
      obtain ⟨q8,q9,i5⟩:=Cut.ex 1 g j 0
      refine aC (uI mQ q7 i5 rfl rfl rfl i4) (dK (Kt:=K) (xs:=([true]:List Bool)) (cs:=[zB true]) (vs:=[(0,zB true)]) mQ aLs rfl rfl i3 rfl (by kernel_rfl) rfl rfl rfl ⟨rfl,trivial⟩ (fun i6 i7 (r0:aF G K (aV 4 K i6 1 ([true]:List Bool)::box k 170 [i64 a.Kind,i64 a.Number,str a.Name,zS c a.Arguments.length d]::aV 4 K g j l::aV 9 K V Z J::L) i7)=>?_))
      have r1:aF G K (aV 4 K i6 1 ([true]:List Bool)::box k 170 [i64 a.Kind,i64 a.Number,str a.Name,zS c a.Arguments.length d]::aV 4 K q8 q9 q6::aV 9 K V Z J::L) i7:=aF.cutP r0 (i:=2) rfl i4 i5
      obtain ⟨e1,r2,hm⟩:=aB hm
      exact jQ (i:=1) mQ underlying247 aLs rfl rfl r1 rfl (zR _) (zR _) r2 rfl rfl rfl rfl (fun _ h=>h) (fun e2 e3 r3 (r4:aF G K (box k 170 [i64 a.Kind,i64 a.Number,str a.Name,zS c a.Arguments.length d]::aV 4 K e2 e3 e1::aV 9 K V Z J::L) r3)=>(aG (v:=zS e2 e1.length e3) (bP (eL (aD ⟨gF,J,e1,V,Z,e2,e3,hm,rfl,rfl,(aF.arr 1 [] r4 rfl)⟩)))))
     ·refine aP d8 rfl (aJ (aC (dN rfl rfl) (aG (v:=zB (a.Kind == 1)) (aM ?_))))
      rcases aI hm with ⟨e4,hm⟩|⟨e4,hm⟩
      ·refine aS e4 rfl (aH (fZ (C:=fun w'=>aF G K (box k 170 [i64 a.Kind,i64 a.Number,str a.Name,zS c a.Arguments.length d]::aV 4 K g j l::aV 9 K m n e::L) w') Tryz_mixed (by kernel_rfl) (aF.mono b (eI.drew _)) (bE (fun _ b=>bH (t':=2) aJe rfl rfl) (bE (fun _ b=>dD oK b (i:=0) rfl rfl rfl) (bE (fun _ b=>bH (t':=3) oM rfl rfl) (bE (fun _ b=>dD aAI b (i:=0) rfl rfl rfl) ?_))))));obtain ⟨r5,r6,hm⟩:=aB hm
       refine gA (vs:=[zS c a.Arguments.length d]) (v:=str r5) call198 rfl (fun _ b=>(aCz r6 b b7)) ?_;obtain ⟨a27,r7,hm⟩:=aB hm
       refine bE (fun _ b=>dX rfl rfl r7) ?_;obtain ⟨a28,r8,hm⟩:=aB hm
       refine bE (fun _ b=>dX rfl rfl r8) (bE (fun _ b=>bC o) (bE (fun _ b=>bC (v:=i64 (wr ((e.length:Int) - 1))) rfl) ?_));obtain ⟨r9,e5,hm⟩:=aB hm
       have s0:=eN b (i:=2) rfl e5
       refine bE (fun _ b=>jE cT rfl s0 rfl rfl rfl e5) (bE (fun _ b=>oJ (t:=0) oK b (i:=2) rfl e5 rfl rfl rfl) (bE (fun _ b=>bC p) (bE (fun _ b=>bC (v:=i64 (wr ((e.length:Int) - 1))) rfl) ?_)));obtain ⟨s1,e6,hm⟩:=aB hm
       have s2:=eN b (i:=1) rfl e6
       refine bE (fun _ b=>jE mQ rfl s2 rfl rfl rfl e6) (bE (fun _ b=>oJ (t:=0) sc_4 b (i:=1) rfl e6 rfl rfl rfl) ?_);obtain ⟨s3,s4,hm⟩:=aB hm
       refine gA (vs:=[str r9,zB s1]) (v:=str s3) call72 rfl (fun _ b=>(gR s4 b)) ?_;obtain ⟨x,s5,hm⟩:=aB hm
       refine bE (fun _ b=>dX rfl rfl s5) (bE (fun _ b=>dJ (v:=str x) rfl) (uH (fun a29 i8=>(aD (aJ (bR o (aO (v:=i64 (wr ((e.length:Int) - 1))) ?_)))))));obtain ⟨s6,i9,hm⟩:=aB hm
       have s7:=pN i8 (i:=2) rfl
       obtain ⟨s8,s9,j0⟩:=Cut.ex 1 m n 0
       refine aC (uI cT s7 j0 rfl rfl rfl i9) (aO (v:=str x) (dK (Kt:=K) (xs:=([x]:List aL)) (cs:=[str x]) (vs:=[(0,str x)]) cT qF rfl rfl i8 rfl (by kernel_rfl) rfl rfl rfl ⟨rfl,trivial⟩ (fun j1 j2 (t0:aF G K (aV 9 K j1 1 ([x]:List aL)::box k 170 [i64 a.Kind,i64 a.Number,str a.Name,zS c a.Arguments.length d]::aV 4 K g j l::aV 9 K m n e::L) j2)=>?_)))
       have t1:aF G K (aV 9 K j1 1 ([x]:List aL)::box k 170 [i64 a.Kind,i64 a.Number,str a.Name,zS c a.Arguments.length d]::aV 4 K g j l::aV 9 K s8 s9 s6::L) j2:=aF.cutP t0 (i:=3) rfl i9 j0
       obtain ⟨a0,t2,hm⟩:=aB hm
       refine jQ (i:=2) cT underlying22 qF rfl rfl t1 rfl (zR _) (zR _) t2 rfl rfl rfl rfl (fun _ h=>h) (fun a2 a3 t3 (j3:aF G K (box k 170 [i64 a.Kind,i64 a.Number,str a.Name,zS c a.Arguments.length d]::aV 4 K g j l::aV 9 K a2 a3 a0::L) t3)=>(aG (v:=zS a2 a0.length a3) (aM (bK (bR p (aO (v:=i64 (wr ((e.length:Int) - 1))) ?_))))));obtain ⟨t4,j4,hm⟩:=aB hm
       have t5:=pN j3 (i:=1) rfl
       obtain ⟨t6,t7,j5⟩:=Cut.ex 1 g j 0
       refine aC (uI mQ t5 j5 rfl rfl rfl j4) (dK (Kt:=K) (xs:=([false]:List Bool)) (cs:=[zB false]) (vs:=[(0,zB false)]) mQ aLs rfl rfl j3 rfl (by kernel_rfl) rfl rfl rfl ⟨rfl,trivial⟩ (fun j6 j7 (t8:aF G K (aV 4 K j6 1 ([false]:List Bool)::box k 170 [i64 a.Kind,i64 a.Number,str a.Name,zS c a.Arguments.length d]::aV 4 K g j l::aV 9 K a2 a3 a0::L) j7)=>?_))
       have t9:aF G K (aV 4 K j6 1 ([false]:List Bool)::box k 170 [i64 a.Kind,i64 a.Number,str a.Name,zS c a.Arguments.length d]::aV 4 K t6 t7 t4::aV 9 K a2 a3 a0::L) j7:=aF.cutP t8 (i:=2) rfl j4 j5
       obtain ⟨e7,u0,hm⟩:=aB hm
       exact jQ (i:=1) mQ underlying247 aLs rfl rfl t9 rfl (zR _) (zR _) u0 rfl rfl rfl rfl (fun _ h=>h) (fun e8 e9 u1 (u2:aF G K (box k 170 [i64 a.Kind,i64 a.Number,str a.Name,zS c a.Arguments.length d]::aV 4 K e8 e9 e7::aV 9 K a2 a3 a0::L) u1)=>(aG (v:=zS e8 e7.length e9) (bP (eL (aD ⟨gF,a0,e7,a2,a3,e8,e9,hm,rfl,rfl,(aF.arr 1 [] u2 rfl)⟩)))))
      ·refine aP e4 rfl (aJ (aC (dN rfl rfl) (aG (v:=zB (a.Kind == 3)) (aM ?_))))
       rcases aI hm with ⟨f0,hm⟩|⟨f0,hm⟩
       ·refine aS f0 rfl (aH (fZ (C:=fun w'=>aF G K (box k 170 [i64 a.Kind,i64 a.Number,str a.Name,zS c a.Arguments.length d]::aV 4 K g j l::aV 9 K m n e::L) w') Tryz_mixed (by kernel_rfl) (aF.mono b (eI.drew _)) (bE (fun _ b=>bH (t':=3) oM rfl rfl) (bE (fun _ b=>dD aAI b (i:=0) rfl rfl rfl) ?_))));obtain ⟨u3,j8,hm⟩:=aB hm
        refine bE (fun _ b=>cR mP rfl b7 rfl rfl rfl j8) ?_;obtain ⟨a30,u4,u5⟩:=aW.el (sz:=1) rfl b7 j8
        obtain ⟨u6,u7,rfl,u8⟩:=u5
        refine bE (fun _ b=>bZ (t:=0) aIl b u4 rfl rfl) ?_;obtain ⟨u9,v0,hm⟩:=aB hm
        refine gA (vs:=[zS u6 u3.length u7]) (v:=str u9) call199 rfl (fun _ b=>(aGD v0 b u8)) ?_;obtain ⟨a31,v1,hm⟩:=aB hm
        refine bE (fun _ b=>dX rfl rfl v1) ?_;obtain ⟨a32,v2,hm⟩:=aB hm
        refine bE (fun _ b=>dX rfl rfl v2) (bE (fun _ b=>bC o) (bE (fun _ b=>bC (v:=i64 (wr ((e.length:Int) - 1))) rfl) ?_));obtain ⟨v3,f1,hm⟩:=aB hm
        have v4:=eN b (i:=2) rfl f1
        refine bE (fun _ b=>jE cT rfl v4 rfl rfl rfl f1) (bE (fun _ b=>oJ (t:=0) oK b (i:=2) rfl f1 rfl rfl rfl) (bE (fun _ b=>bC p) (bE (fun _ b=>bC (v:=i64 (wr ((e.length:Int) - 1))) rfl) ?_)));obtain ⟨v5,f2,hm⟩:=aB hm
        have v6:=eN b (i:=1) rfl f2
        refine bE (fun _ b=>jE mQ rfl v6 rfl rfl rfl f2) (bE (fun _ b=>oJ (t:=0) sc_4 b (i:=1) rfl f2 rfl rfl rfl) ?_);obtain ⟨v7,v8,hm⟩:=aB hm
        refine gA (vs:=[str v3,zB v5]) (v:=str v7) call72 rfl (fun _ b=>(gR v8 b)) ?_;obtain ⟨y,v9,hm⟩:=aB hm
        refine bE (fun _ b=>dX rfl rfl v9) (bE (fun _ b=>dJ (v:=str y) rfl) (uH (fun a33 j9=>(aD (aJ (bR o (aO (v:=i64 (wr ((e.length:Int) - 1))) ?_)))))));obtain ⟨w0,k0,hm⟩:=aB hm
        have w1:=pN j9 (i:=2) rfl
        obtain ⟨w2,w3,k1⟩:=Cut.ex 1 m n 0
        refine aC (uI cT w1 k1 rfl rfl rfl k0) (aO (v:=str y) (dK (Kt:=K) (xs:=([y]:List aL)) (cs:=[str y]) (vs:=[(0,str y)]) cT qF rfl rfl j9 rfl (by kernel_rfl) rfl rfl rfl ⟨rfl,trivial⟩ (fun k2 k3 (w4:aF G K (aV 9 K k2 1 ([y]:List aL)::box k 170 [i64 a.Kind,i64 a.Number,str a.Name,zS c a.Arguments.length d]::aV 4 K g j l::aV 9 K m n e::L) k3)=>?_)))
        have w5:aF G K (aV 9 K k2 1 ([y]:List aL)::box k 170 [i64 a.Kind,i64 a.Number,str a.Name,zS c a.Arguments.length d]::aV 4 K g j l::aV 9 K w2 w3 w0::L) k3:=aF.cutP w4 (i:=3) rfl k0 k1
        obtain ⟨a5,w6,hm⟩:=aB hm
        refine jQ (i:=2) cT underlying22 qF rfl rfl w5 rfl (zR _) (zR _) w6 rfl rfl rfl rfl (fun _ h=>h) (fun a6 a8 w7 (k4:aF G K (box k 170 [i64 a.Kind,i64 a.Number,str a.Name,zS c a.Arguments.length d]::aV 4 K g j l::aV 9 K a6 a8 a5::L) w7)=>(aG (v:=zS a6 a5.length a8) (aM (bK (bR p (aO (v:=i64 (wr ((e.length:Int) - 1))) ?_))))));obtain ⟨w9,k5,hm⟩:=aB hm
        have x0:=pN k4 (i:=1) rfl
        obtain ⟨x1,x2,k6⟩:=Cut.ex 1 g j 0
        refine aC (uI mQ x0 k6 rfl rfl rfl k5) (dK (Kt:=K) (xs:=([false]:List Bool)) (cs:=[zB false]) (vs:=[(0,zB false)]) mQ aLs rfl rfl k4 rfl (by kernel_rfl) rfl rfl rfl ⟨rfl,trivial⟩ (fun k7 k8 (x3:aF G K (aV 4 K k7 1 ([false]:List Bool)::box k 170 [i64 a.Kind,i64 a.Number,str a.Name,zS c a.Arguments.length d]::aV 4 K g j l::aV 9 K a6 a8 a5::L) k8)=>?_))
        have x4:aF G K (aV 4 K k7 1 ([false]:List Bool)::box k 170 [i64 a.Kind,i64 a.Number,str a.Name,zS c a.Arguments.length d]::aV 4 K x1 x2 w9::aV 9 K a6 a8 a5::L) k8:=aF.cutP x3 (i:=2) rfl k5 k6
        obtain ⟨f3,x5,hm⟩:=aB hm
        exact jQ (i:=1) mQ underlying247 aLs rfl rfl x4 rfl (zR _) (zR _) x5 rfl rfl rfl rfl (fun _ h=>h) (fun f4 f5 x6 (x7:aF G K (box k 170 [i64 a.Kind,i64 a.Number,str a.Name,zS c a.Arguments.length d]::aV 4 K f4 f5 f3::aV 9 K a6 a8 a5::L) x6)=>(aG (v:=zS f4 f3.length f5) (bP (eL (aD ⟨gF,a5,f3,a6,a8,f4,f5,hm,rfl,rfl,(aF.arr 1 [] x7 rfl)⟩)))))
       ·refine aP f0 rfl (aJ (aC (dN rfl rfl) (aG (v:=zB (a.Kind == 4)) (aM ?_))))
        rcases aI hm with ⟨f6,hm⟩|⟨f6,hm⟩
        ·refine aS f6 rfl (aH (fZ (C:=fun w'=>aF G K (box k 170 [i64 a.Kind,i64 a.Number,str a.Name,zS c a.Arguments.length d]::aV 4 K g j l::aV 9 K m n e::L) w') Tryz_mixed (by kernel_rfl) (aF.mono b (eI.drew _)) (bE (fun _ b=>bH (t':=1) aJd rfl rfl) (bE (fun _ b=>dD gJ b (i:=0) rfl rfl rfl) ?_))));obtain ⟨x8,x9,hm⟩:=aB hm
         refine gA (vs:=[i64 a.Number]) (v:=str x8) call73 rfl (fun _ b=>(kT x9 b)) ?_;obtain ⟨a34,y0,hm⟩:=aB hm
         refine bE (fun _ b=>dX rfl rfl y0) ?_;obtain ⟨a35,y1,hm⟩:=aB hm
         refine bE (fun _ b=>dX rfl rfl y1) (bE (fun _ b=>bC o) (bE (fun _ b=>bC (v:=i64 (wr ((e.length:Int) - 1))) rfl) ?_));obtain ⟨y2,f7,hm⟩:=aB hm
         have y3:=eN b (i:=2) rfl f7
         refine bE (fun _ b=>jE cT rfl y3 rfl rfl rfl f7) (bE (fun _ b=>oJ (t:=0) oK b (i:=2) rfl f7 rfl rfl rfl) (bE (fun _ b=>bC p) (bE (fun _ b=>bC (v:=i64 (wr ((e.length:Int) - 1))) rfl) ?_)));obtain ⟨y4,f8,hm⟩:=aB hm
         have y5:=eN b (i:=1) rfl f8
         refine bE (fun _ b=>jE mQ rfl y5 rfl rfl rfl f8) (bE (fun _ b=>oJ (t:=0) sc_4 b (i:=1) rfl f8 rfl rfl rfl) ?_);obtain ⟨y6,y7,hm⟩:=aB hm
         refine gA (vs:=[str y2,zB y4]) (v:=str y6) call72 rfl (fun _ b=>(gR y7 b)) ?_;obtain ⟨z,y8,hm⟩:=aB hm
         refine bE (fun _ b=>dX rfl rfl y8) (bE (fun _ b=>dJ (v:=str z) rfl) (uH (fun a36 k9=>(aD (aJ (bR o (aO (v:=i64 (wr ((e.length:Int) - 1))) ?_)))))));obtain ⟨y9,l0,hm⟩:=aB hm
         have z0:=pN k9 (i:=2) rfl
         obtain ⟨z1,z2,l1⟩:=Cut.ex 1 m n 0
         refine aC (uI cT z0 l1 rfl rfl rfl l0) (aO (v:=str z) (dK (Kt:=K) (xs:=([z]:List aL)) (cs:=[str z]) (vs:=[(0,str z)]) cT qF rfl rfl k9 rfl (by kernel_rfl) rfl rfl rfl ⟨rfl,trivial⟩ (fun l2 l3 (z3:aF G K (aV 9 K l2 1 ([z]:List aL)::box k 170 [i64 a.Kind,i64 a.Number,str a.Name,zS c a.Arguments.length d]::aV 4 K g j l::aV 9 K m n e::L) l3)=>?_)))
         have z4:aF G K (aV 9 K l2 1 ([z]:List aL)::box k 170 [i64 a.Kind,i64 a.Number,str a.Name,zS c a.Arguments.length d]::aV 4 K g j l::aV 9 K z1 z2 y9::L) l3:=aF.cutP z3 (i:=3) rfl l0 l1
         obtain ⟨a9,z5,hm⟩:=aB hm
         refine jQ (i:=2) cT underlying22 qF rfl rfl z4 rfl (zR _) (zR _) z5 rfl rfl rfl rfl (fun _ h=>h) (fun b0 b1 z6 (l4:aF G K (box k 170 [i64 a.Kind,i64 a.Number,str a.Name,zS c a.Arguments.length d]::aV 4 K g j l::aV 9 K b0 b1 a9::L) z6)=>(aG (v:=zS b0 a9.length b1) (aM (bK (bR p (aO (v:=i64 (wr ((e.length:Int) - 1))) ?_))))));obtain ⟨z7,l5,hm⟩:=aB hm
         have z8:=pN l4 (i:=1) rfl
         obtain ⟨z9,a00,l6⟩:=Cut.ex 1 g j 0
         refine aC (uI mQ z8 l6 rfl rfl rfl l5) (dK (Kt:=K) (xs:=([false]:List Bool)) (cs:=[zB false]) (vs:=[(0,zB false)]) mQ aLs rfl rfl l4 rfl (by kernel_rfl) rfl rfl rfl ⟨rfl,trivial⟩ (fun l7 l8 (a01:aF G K (aV 4 K l7 1 ([false]:List Bool)::box k 170 [i64 a.Kind,i64 a.Number,str a.Name,zS c a.Arguments.length d]::aV 4 K g j l::aV 9 K b0 b1 a9::L) l8)=>?_))
         have a02:aF G K (aV 4 K l7 1 ([false]:List Bool)::box k 170 [i64 a.Kind,i64 a.Number,str a.Name,zS c a.Arguments.length d]::aV 4 K z9 a00 z7::aV 9 K b0 b1 a9::L) l8:=aF.cutP a01 (i:=2) rfl l5 l6
         obtain ⟨f9,a03,hm⟩:=aB hm
         exact jQ (i:=1) mQ underlying247 aLs rfl rfl a02 rfl (zR _) (zR _) a03 rfl rfl rfl rfl (fun _ h=>h) (fun g0 g1 a04 (a05:aF G K (box k 170 [i64 a.Kind,i64 a.Number,str a.Name,zS c a.Arguments.length d]::aV 4 K g0 g1 f9::aV 9 K b0 b1 a9::L) a04)=>(aG (v:=zS g0 f9.length g1) (bP (eL (aD ⟨gF,a9,f9,b0,b1,g0,g1,hm,rfl,rfl,(aF.arr 1 [] a05 rfl)⟩)))))
        ·exact aP f6 rfl (aU (eL (aD ⟨gF,e,l,m,n,g,j,hm,o,p,(aF.arr 1 [] b rfl)⟩)))
  ·refine aP d2 rfl (aON (aEy (aEy ?_)))
   have a06:=hr _ (zI hm).symm
   subst a06
   have hm:(aEV e)=some R:=ho
   clear hr ho
   exact aIR (aD ⟨gF,e,m,n,hm,o,(aF.arr 1 [] d1 rfl)⟩)
theorem aMO {a:(List Definition)} {k:Int} {R:aL} (hm:aGZ a k=some R) (b:aF G K (L) w) (c:aW K a1 c2 a):
  Calls prog 120 ([zS a1 a.length c2,i64 k]:List Value).toArray w (cL fun v w'=>v=str R/\aF G K (L) w'):=by
 exact aE
theorem aMP {a:(List Int)} {R:aL} (hm:aEc a=some R) (l:aF G K (L) w) (m:aW K a1 c2 a):
  Calls prog 121 ([zS a1 a.length c2]:List Value).toArray w (cL fun v w'=>v=str R/\aF G K (L) w'):=by
 refine aN func121 rfl (by kernel_rfl) (by show (1:Nat)<=26;decide) ?_;unfold aEc at hm
 refine aJ (aG (v:=str ([]:aL)) (aM (aH (aJ (aO (v:=zS a1 a.length c2) (aC (aX (len:=a.length) dR rfl) (aC (dN rfl rfl) (aM ?_))))))))
 rcases aI hm with ⟨c,hm⟩|⟨c,hm⟩
 ·exact aE
 ·refine aP c rfl (aU (aD (aJ (aG (v:=str ([]:aL)) (aM (aH (aJ (aG (v:=i64 0) (aM (aQ [] (fun f w=>∃ d,aJt d=some R/\f 3=str d/\aF G K (L) w) aE ?_))))))))));obtain ⟨n,i,ho⟩:=aB hm
  refine cD [0] i (fun e b f w=>f 3=str e/\f 4=i64 b/\aF G K (L) w) aE ?_
  ·rintro e b j f o hm hr ⟨p,k,q⟩
   unfold nW at hm
   refine aH (aJ (bR k (aO (v:=zS a1 a.length c2) (aC (aX (len:=a.length) dR rfl) (aC (eC rfl rfl) (aM ?_))))))
   rcases aI hm with ⟨g,hm⟩|⟨g,hm⟩
   ·exact aS g rfl (aU (aD (aH (bJ (gI [0,4] (fun f w=>∃ h,aBm a b h=some j/\f 3=str h/\aF G K (L) w) aE aE)))))
   ·exact aE
theorem aLF {a:aL} {b:(List aL)} {R:aL} (hm:yK a b=some R) (h:aF G K (L) w) (i:aW K a1 c2 b):
  Calls prog 122 ([str a,zS a1 b.length c2]:List Value).toArray w (cL fun v w'=>v=str R/\aF G K (L) w'):=by
 refine aN func122 rfl (by kernel_rfl) (by show (2:Nat)<=22;decide) ?_;unfold yK at hm
 refine aJ (aG (v:=str ([]:aL)) (aM (aJ (aO (v:=str a) (aG (v:=str a) (aM (aH (aJ (aG (v:=i64 0) (aM (aQ [] (fun f w=>∃ c,aDE c=some R/\f 5=str c/\aF G K (L) w) aE ?_)))))))))));obtain ⟨j,d,ho⟩:=aB hm
 exact cD [1] d (fun e g f w=>f 5=str e/\f 6=i64 g/\aF G K (L) w) aE aE
theorem aFK {a:bM} {j:Nat} {R:(List aL)} (hm:aCl a=some R) (hs:aF G K (L) w) (m:eR K a1 j [zS a4 a.Definitions.length c5,zS a7 a.Components.length c8,zS a10 a.Meetings.length c11,zS a13 a.Allowed.length c14,zS a16 a.Hidden.length c17]) (h6:aW K a4 c5 a.Definitions) (h9:aW K a7 c8 a.Components) (d8:aW K a10 c11 a.Meetings) (d9:aW K a13 c14 a.Allowed) (e0:aW K a16 c17 a.Hidden):
  Calls prog 76 ([cE a1 j]:List Value).toArray w (cL fun v w'=>∃ x y,v=zS x R.length y/\aF G K (aV 9 K x y R::L) w'):=by
 refine aN func76 rfl (by kernel_rfl) (by show (1:Nat)<=139;decide) ?_;unfold aCl at hm
 refine aJ (aG (v:=zS none 0 0) (aM (aJ (dK (Kt:=K) (xs:=([]:List aL)) (cs:=[]) (vs:=[]) cT qF rfl rfl hs rfl (by kernel_rfl) rfl rfl rfl trivial (fun z b7 (e1:aF G K (aV 9 K z 0 ([]:List aL)::L) b7)=>(aG (v:=zS z ([]:List aL).length 0) (aM (aH (aJ (aG (v:=i64 0) (aM (aQ [0] (fun f w=>∃ b c d,zW a b=some R/\f 3=zS c b.length d/\aF G K (aV 9 K c d b::L) w) ?_ ?_))))))))))))
 ·rintro f e2 ⟨b,c,d,hm,b8,e3⟩
  unfold zW at hm
  refine aD (aJ (aG (v:=str ([114,117,110,32]:aL)) (aM (aH (aJ (aG (v:=i64 0) (aM (aQ [0,3] (fun f w=>∃ e,zV a b e=some R/\f 5=str e/\aF G K (aV 9 K c d b::L) w) ?_ ?_))))))))
  ·rintro f e4 ⟨e,hm,b9,c0⟩
   unfold zV at hm
   refine aD (aJ (bR b8 (bR b9 (dK (Kt:=K) (xs:=([e]:List aL)) (cs:=[str e]) (vs:=[(0,str e)]) cT qF rfl rfl c0 rfl (by kernel_rfl) rfl rfl rfl ⟨rfl,trivial⟩ (fun c1 c2 (c3:aF G K (aV 9 K c1 1 ([e]:List aL)::aV 9 K c d b::L) c2)=>?_)))));obtain ⟨J,c4,hm⟩:=aB hm
   refine jQ (i:=0) cT underlying22 qF rfl rfl c3 rfl (zR _) (zR _) c4 rfl rfl rfl rfl (fun _ h=>h) (fun V Z c6 (e5:aF G K (aV 9 K V Z J::L) c6)=>(aG (v:=zS V J.length Z) (aM (aH (aJ (aG (v:=i64 0) (aM (aQ [0] (fun f w=>∃ k n o,zQ a k=some R/\f 3=zS n k.length o/\aF G K (aV 9 K n o k::L) w) ?_ ?_))))))))
   ·rintro f e6 ⟨k,n,o,hm,e7,e8⟩
    unfold zQ at hm
    refine aD (gI [0] (fun f w=>∃ l p q,pC a l=some R/\f 3=zS p l.length q/\aF G K (aV 9 K p q l::L) w) ?_ ?_)
    ·rintro f e9 ⟨l,p,q,hm,f0,f1⟩
     unfold pC at hm
     exact gI [] (fun f w=>∃ r a0 a2,zO r=some R/\f 3=zS a0 r.length a2/\aF G K (aV 9 K a0 a2 r::L) w) aE aE
    exact aE
   obtain ⟨f2,c7,ho⟩:=aB hm
   exact cD [0] c7 (fun a3 c9 f w=>∃ a5 a6,f 3=zS a5 a3.length a6/\f 8=i64 c9/\aF G K (aV 9 K a5 a6 a3::L) w) aE aE
  obtain ⟨f3,d0,ho⟩:=aB hm
  refine cD [0,3] d0 (fun a8 g f w=>f 5=str a8/\f 6=i64 g/\aF G K (aV 9 K c d b::L) w) aE ?_
  ·rintro a8 g a9 f f4 hm hr ⟨f5,b0,d1⟩
   unfold tC at hm
   refine aH (aJ (bR b0 (aO (v:=cE a1 j) (aC (dO rfl m) (aC (cF (k':=j+1) aCT rfl m rfl) (aC (bZ (t:=1) aMl d1 m rfl rfl) (aC (aX (len:=a.Components.length) xN rfl) (aC (eC rfl rfl) (aM ?_)))))))))
   rcases aI hm with ⟨b1,hm⟩|⟨b1,hm⟩
   ·refine aS b1 rfl (aU (aD (aH (aQ [0,3,6] (fun f w=>∃ u,tA g u=some a9/\f 5=str u/\aF G K (aV 9 K c d b::L) w) ?_ ?_))))
    ·rintro f f6 ⟨u,hm,d2,d3⟩
     unfold tA at hm
     exact aD (bK (bR b0 (aC (nI rfl rfl) (aG (v:=i64 (wr (g+1))) (aM ⟨_,(zI hm).symm,gF,d2,rfl,d3⟩)))))
    exact gI [0,3,6] (fun f w=>∃ b2,tB a g b2=some a9/\f 5=str b2/\aF G K (aV 9 K c d b::L) w) aE aE
   ·exact aE
 obtain ⟨f7,d4,ho⟩:=aB hm
 exact cD [0] d4 (fun b3 d5 f w=>∃ b4 b5,f 3=zS b4 b3.length b5/\f 4=i64 d5/\aF G K (aV 9 K b4 b5 b3::L) w) aE aE
theorem aCA {a:bM} {c:Nat} {R:aL} (hm:yL a=some R) (l:aF G K (L) w) (m:eR K a1 c [zS a4 a.Definitions.length c5,zS a7 a.Components.length c8,zS a10 a.Meetings.length c11,zS a13 a.Allowed.length c14,zS a16 a.Hidden.length c17]) (n:aW K a4 c5 a.Definitions) (o:aW K a7 c8 a.Components) (p:aW K a10 c11 a.Meetings) (q:aW K a13 c14 a.Allowed) (r:aW K a16 c17 a.Hidden):
  Calls prog 35 ([cE a1 c]:List Value).toArray w (cL fun v w'=>v=str R/\aF G K (L) w'):=by
 refine aN func35 rfl (by kernel_rfl) (by show (1:Nat)<=25;decide) ?_;unfold yL at hm
 refine aJ (aG (v:=str ([]:aL)) (aM (aJ (aO (v:=cE a1 c) ?_))));obtain ⟨b,t,hm⟩:=aB hm
 refine aT (vs:=[cE a1 c]) call76 rfl (aFK t l m n o p q r) ?_
 rintro _ z ⟨d,e,rfl,J⟩
 refine aG (v:=zS d b.length e) (aM (aJ (aG (v:=str ([]:aL)) (aM (aH (aJ (aG (v:=i64 0) (aM (aQ [] (fun f w=>∃ h,aJu h=some R/\f 4=str h/\aF G K (L) w) aE ?_)))))))));obtain ⟨V,u,ho⟩:=aB hm
 refine cD [3] u (fun i g f w=>f 4=str i/\f 5=i64 g/\aF G K (aV 9 K d e b::L) w) aE ?_
 ·rintro i g x f Z hm hr ⟨a0,y,a2⟩
  unfold wJ at hm
  refine aH (aJ (bR y (aO (v:=zS d b.length e) (aC (aX (len:=b.length) cT rfl) (aC (eC rfl rfl) (aM ?_))))))
  rcases aI hm with ⟨j,hm⟩|⟨j,hm⟩
  ·exact aS j rfl (aU (aD (aH (bJ (gI [3,5] (fun f w=>∃ k,wI b g k=some x/\f 4=str k/\aF G K (aV 9 K d e b::L) w) aE aE)))))
  ·exact aE
theorem aJQ {k:pL} {b:Nat} {R:Bool} (hm:aEW k=some R) (V:aF G K (L) w) (a:eR K a1 b [str k.Name,i64 k.Kind,i64 k.S.N,i64 k.S.I,zS a4 k.S.L.length c5,zS a7 k.S.E.length c8,zS a10 k.Formula.length c11,zS a13 k.Source.Definitions.length c14,zS a16 k.Source.Components.length c17,zS a19 k.Source.Meetings.length c20,zS a22 k.Source.Allowed.length c23,zS a25 k.Source.Hidden.length c26]) (x:aW K a4 c5 k.S.L) (y:aW K a7 c8 k.S.E) (Z:aW K a10 c11 k.Formula) (o:aW K a13 c14 k.Source.Definitions) (p:aW K a16 c17 k.Source.Components) (q:aW K a19 c20 k.Source.Meetings) (r:aW K a22 c23 k.Source.Allowed) (u:aW K a25 c26 k.Source.Hidden):
  Calls prog 12 ([cE a1 b]:List Value).toArray w (cL fun v w'=>v=zB R/\aF G K (L) w'):=by
 refine aN func12 rfl (by kernel_rfl) (by show (1:Nat)<=89;decide) ?_;unfold aEW at hm
 refine aJ (aG (v:=zB false) (aM (aH (aJ (aO (v:=cE a1 b) (aC (dO rfl a) (aC (cF (k':=b+0) aLU rfl a rfl) (aC (bZ (t:=0) oK V a rfl rfl) ?_))))))));obtain ⟨d2,b4,hm⟩:=aB hm
 refine aT (vs:=[str k.Name]) call28 rfl (aGy b4 V) ?_
 rintro _ d3 ⟨rfl,j⟩
 refine aC (uT rfl) (aM ?_)
 rcases aI hm with ⟨a0,hm⟩|⟨a0,hm⟩
 ·exact aE
 ·refine aP a0 rfl (aU (aD (aH (aJ (aO (v:=cE a1 b) (aC (dO rfl a) (aC (cF (k':=b+1) aJf rfl a rfl) (aC (bZ (t:=1) gJ j a rfl rfl) (aM (bJ (aJ (aC (dN rfl rfl) (aG (v:=zB (k.Kind == 1)) (aM ?_))))))))))))))
  rcases aI hm with ⟨z,hm⟩|⟨z,hm⟩
  ·refine aS z rfl (aH (aZ [] (fun f w=>∃ a2,aCm a2=some R/\f 2=zB a2/\aF G K (L) w) aE (bK (aO (v:=cE a1 b) (aC (dO rfl a) (aC (cF (k':=b+2) aEF rfl a rfl) ?_))))));obtain ⟨b5,b6,hm⟩:=aB hm
   refine aT (vs:=[cE a1 (b+2)]) call29 rfl (aJM b6 j (eR.sub (t:=2) (m:=4) a rfl) x y) ?_
   rintro _ d4 ⟨rfl,a3⟩
   refine aO (v:=zB b5) ?_
   rcases aI hm with ⟨d,hm⟩|⟨d,hm⟩
   ·refine bU d rfl rfl (aO (v:=cE a1 b) (bU d rfl rfl (aC (dO rfl a) (bU d rfl rfl (aC (cF (k':=b+6) aEG rfl a rfl) (bU d rfl rfl (aC (bZ (t:=6) aOx a3 a rfl rfl) (bU d rfl rfl (aC (aX (len:=k.Formula.length) sB rfl) (bU d rfl rfl (aC (dN rfl rfl) (aC (oI (v:=zB ((k.Formula.length:Int) == 0)) d rfl rfl) (aO (v:=zB ((k.Formula.length:Int) == 0)) ?_)))))))))))))
    rcases aI hm with ⟨c45,hm⟩|⟨c45,hm⟩
    ·refine bU c45 rfl rfl (aO (v:=cE a1 b) (bU c45 rfl rfl (aC (dO rfl a) (bU c45 rfl rfl (aC (cF (k':=b+7) aCV rfl a rfl) (bU c45 rfl rfl ?_))))));obtain ⟨d5,b7,hm⟩:=aB hm
     exact aT (vs:=[cE a1 (b+7)]) call30 rfl (aCy b7 a3 (eR.sub (t:=7) (m:=5) a rfl) o p q r u) aE
    ·exact aE
   ·exact aE
  ·refine aP z rfl (aJ (aC (dN rfl rfl) (aG (v:=zB (k.Kind == 2)) (aM ?_))))
   rcases aI hm with ⟨J,hm⟩|⟨J,hm⟩
   ·refine aS J rfl (aH (aZ [] (fun f w=>∃ a5,yM a5=some R/\f 2=zB a5/\aF G K (L) w) aE (bK (aO (v:=cE a1 b) (aC (dO rfl a) (aC (cF (k':=b+6) aEG rfl a rfl) (aC (bZ (t:=6) aOx j a rfl rfl) ?_)))))));obtain ⟨b8,b9,hm⟩:=aB hm
    refine aT (vs:=[zS a10 k.Formula.length c11]) call31 rfl (aJN b9 j Z) ?_
    rintro _ d6 ⟨rfl,a6⟩
    refine aO (v:=zB b8) ?_
    rcases aI hm with ⟨c,hm⟩|⟨c,hm⟩
    ·refine bU c rfl rfl (aO (v:=cE a1 b) (bU c rfl rfl (aC (dO rfl a) (bU c rfl rfl (aC (cF (k':=b+6) aEG rfl a rfl) (bU c rfl rfl (aC (bZ (t:=6) aOx a6 a rfl rfl) (bU c rfl rfl ?_))))))));obtain ⟨a8,c0,hm⟩:=aB hm
     refine aT (vs:=[zS a10 k.Formula.length c11]) call32 rfl (aDo c0 a6 Z) ?_
     rintro _ d7 ⟨rfl,c1⟩
     refine bU c rfl rfl (aC (sK runUnderlying9 rfl) (bU c rfl rfl (aC (R_leq rfl rfl) (aC (oI (v:=zB (decide ((a8.length:Int)<=400))) c rfl rfl) (aO (v:=zB (decide ((a8.length:Int)<=400))) ?_)))))
     rcases aI hm with ⟨i,hm⟩|⟨i,hm⟩
     ·refine bU i rfl rfl (aO (v:=cE a1 b) (bU i rfl rfl (aC (dO rfl a) (bU i rfl rfl (aC (cF (k':=b+2) aEF rfl a rfl) (bU i rfl rfl ?_))))));obtain ⟨a9,c2,hm⟩:=aB hm
      refine aT (vs:=[cE a1 (b+2)]) call33 rfl (aAN c2 c1 (eR.sub (t:=2) (m:=4) a rfl) x y) ?_
      rintro _ d8 ⟨rfl,c3⟩
      refine aC (oI (v:=zB a9) i rfl rfl) (aO (v:=zB a9) ?_)
      rcases aI hm with ⟨l,hm⟩|⟨l,hm⟩
      ·refine bU l rfl rfl (aO (v:=cE a1 b) (bU l rfl rfl (aC (dO rfl a) (bU l rfl rfl (aC (cF (k':=b+7) aCV rfl a rfl) (bU l rfl rfl ?_))))));obtain ⟨d9,c4,hm⟩:=aB hm
       exact aT (vs:=[cE a1 (b+7)]) call30 rfl (aCy c4 c3 (eR.sub (t:=7) (m:=5) a rfl) o p q r u) aE
      ·exact aE
     ·exact aE
    ·exact aE
   ·refine aP J rfl (aJ (aC (dN rfl rfl) (aG (v:=zB (k.Kind == 3)) (aM ?_))))
    rcases aI hm with ⟨b0,hm⟩|⟨b0,hm⟩
    ·refine aS b0 rfl (aH (aZ [] (fun f w=>∃ b1,yN b1=some R/\f 2=zB b1/\aF G K (L) w) aE (bK (aO (v:=cE a1 b) (aC (dO rfl a) (aC (cF (k':=b+7) aCV rfl a rfl) ?_))))));obtain ⟨c6,c7,hm⟩:=aB hm
     refine aT (vs:=[cE a1 (b+7)]) call34 rfl (aJP c7 j (eR.sub (t:=7) (m:=5) a rfl) o p q r u) ?_
     rintro _ e0 ⟨rfl,c9⟩
     refine aO (v:=zB c6) ?_
     rcases aI hm with ⟨e,hm⟩|⟨e,hm⟩
     ·refine bU e rfl rfl (aO (v:=cE a1 b) (bU e rfl rfl (aC (dO rfl a) (bU e rfl rfl (aC (cF (k':=b+7) aCV rfl a rfl) (bU e rfl rfl ?_))))));obtain ⟨b2,d0,hm⟩:=aB hm
      refine aT (vs:=[cE a1 (b+7)]) call35 rfl (aCA d0 c9 (eR.sub (t:=7) (m:=5) a rfl) o p q r u) ?_
      rintro _ e1 ⟨rfl,b3⟩
      refine bU e rfl rfl (aC (sK runUnderlying9 rfl) (bU e rfl rfl (aC (R_leq rfl rfl) (aC (oI (v:=zB (decide ((b2.length:Int)<=16000))) e rfl rfl) (aO (v:=zB (decide ((b2.length:Int)<=16000))) ?_)))))
      rcases aI hm with ⟨h,hm⟩|⟨h,hm⟩
      ·refine bU h rfl rfl (aO (v:=cE a1 b) (bU h rfl rfl (aC (dO rfl a) (bU h rfl rfl (aC (cF (k':=b+6) aEG rfl a rfl) (bU h rfl rfl (aC (bZ (t:=6) aOx b3 a rfl rfl) (bU h rfl rfl (aC (aX (len:=k.Formula.length) sB rfl) (bU h rfl rfl (aC (dN rfl rfl) (aC (oI (v:=zB ((k.Formula.length:Int) == 0)) h rfl rfl) (aO (v:=zB ((k.Formula.length:Int) == 0)) ?_)))))))))))))
       rcases aI hm with ⟨n,hm⟩|⟨n,hm⟩
       ·refine bU n rfl rfl (aO (v:=cE a1 b) (bU n rfl rfl (aC (dO rfl a) (bU n rfl rfl (aC (cF (k':=b+2) aEF rfl a rfl) (bU n rfl rfl ?_))))));obtain ⟨e2,d1,hm⟩:=aB hm
        exact aT (vs:=[cE a1 (b+2)]) call33 rfl (aAN d1 b3 (eR.sub (t:=2) (m:=4) a rfl) x y) aE
       ·exact aE
      ·exact aE
     ·exact aE
    ·exact aE
theorem aGE {t:gM} {d:Nat} {R:aL} (hm:aEd t=some R) (b:aF G K (L) w) (c:eR K a1 d (zC t a4 c5 a7 c8)) (h6:aW K a4 c5 t.L) (h:aW K a7 c8 t.E):
  Calls prog 36 ([cE a1 d]:List Value).toArray w (cL fun v w'=>v=str R/\aF G K (L) w'):=by
 refine aN func36 rfl (by kernel_rfl) (by show (1:Nat)<=106;decide) ?_;unfold aEd at hm
 refine aJ (aG (v:=str ([]:aL)) (aM (aH (fZ (C:=fun w'=>aF G K (L) w') Tryz_mixed (by kernel_rfl) (aF.mono b (eI.drew _)) (bE (fun _ b=>bC (v:=cE a1 d) rfl) (bE (fun _ b=>dO rfl c) (bE (fun _ b=>cF (k':=d+0) aPd rfl c rfl) (bE (fun _ b=>bZ (t:=0) gJ b c rfl rfl) ?_))))))));obtain ⟨J,V,hm⟩:=aB hm
 refine gA (vs:=[i64 t.N]) (v:=str J) call73 rfl (fun _ b=>(kT V b)) ?_;obtain ⟨c7,Z,hm⟩:=aB hm
 refine bE (fun _ b=>dX rfl rfl Z) (bE (fun _ b=>bC (v:=cE a1 d) rfl) (bE (fun _ b=>dO rfl c) (bE (fun _ b=>cF (k':=d+1) aPe rfl c rfl) (bE (fun _ b=>bZ (t:=1) gJ b c rfl rfl) ?_))));obtain ⟨a0,a2,hm⟩:=aB hm
 refine gA (vs:=[i64 t.I]) (v:=str a0) call73 rfl (fun _ b=>(kT a2 b)) ?_;obtain ⟨c9,a3,hm⟩:=aB hm
 refine bE (fun _ b=>dX rfl rfl a3) ?_;obtain ⟨a5,a6,hm⟩:=aB hm
 refine bE (fun _ b=>dX rfl rfl a6) (bE (fun _ b=>dJ (v:=str a5) rfl) (uH (fun d0 d1=>(aD (aH (aJ (aG (v:=i64 1) (aM (aQ [0] (fun f w=>∃ i,aBo t i=some R/\f 3=str i/\aF G K (L) w) ?_ ?_)))))))))
 ·rintro f d2 ⟨i,hm,d3,d4⟩
  unfold aBo at hm
  refine aD (gI [0] (fun f w=>∃ j,rR t j=some R/\f 3=str j/\aF G K (L) w) ?_ ?_)
  ·rintro f d5 ⟨j,hm,a8,d6⟩
   unfold rR at hm
   refine aJ (bR a8 ?_);obtain ⟨a9,b0,hm⟩:=aB hm
   refine aC (dX rfl rfl b0) (aG (v:=str a9) (aM (aH (aJ (aG (v:=i64 0) (aM (aQ [0] (fun f w=>∃ k,aBn t k=some R/\f 3=str k/\aF G K (L) w) ?_ ?_)))))))
   ·rintro f d7 ⟨k,hm,d8,d9⟩
    unfold aBn at hm
    exact aD (gI [] (fun f w=>∃ p,aEX p=some R/\f 3=str p/\aF G K (L) w) aE aE)
   obtain ⟨e0,b1,ho⟩:=aB hm
   refine cD [0] b1 (fun q e f w=>f 3=str q/\f 5=i64 e/\aF G K (L) w) aE ?_
   ·rintro q e b2 f e1 hm hr ⟨e2,l,b3⟩
    unfold wK at hm
    refine aH (aJ (bR l (aO (v:=cE a1 d) (aC (dO rfl c) (aC (cF (k':=d+3) aAZ rfl c rfl) (aC (bZ (t:=3) aJb b3 c rfl rfl) (aC (aX (len:=t.E.length) uU rfl) (aC (eC rfl rfl) (aM ?_)))))))))
    rcases aI hm with ⟨r,hm⟩|⟨r,hm⟩
    ·refine aS r rfl (aU (aD (aH (bJ (gI [0,5] (fun f w=>∃ m,rQ t e m=some b2/\f 3=str m/\aF G K (L) w) ?_ ?_)))))
     ·rintro f e3 ⟨m,hm,b4,a⟩
      unfold rQ at hm
      refine fZ (C:=fun w'=>aF G K (L) w') Tryz_mixed (by kernel_rfl) (aF.mono a (eI.drew _)) (bE (fun _ a=>bC b4) (bE (fun _ a=>bC (v:=cE a1 d) rfl) (bE (fun _ a=>dO rfl c) (bE (fun _ a=>cF (k':=d+3) aAZ rfl c rfl) (bE (fun _ a=>bZ (t:=3) aJb a c rfl rfl) (bE (fun _ a=>bC l) ?_))))));obtain ⟨u,n,hm⟩:=aB hm
      refine bE (fun _ a=>cR uU rfl h rfl rfl rfl n) ?_;obtain ⟨e4,g,b5⟩:=aW.el (sz:=3) rfl h n
      cases b5
      refine bE (fun _ a=>cF (k':=e.toNat * 3+0) aGa rfl g rfl) (bE (fun _ a=>bZ (t:=0) gJ a g rfl rfl) ?_);obtain ⟨b6,b7,hm⟩:=aB hm
      refine gA (vs:=[i64 u.F]) (v:=str b6) call73 rfl (fun _ a=>(kT b7 a)) ?_;obtain ⟨e5,b8,hm⟩:=aB hm
      refine bE (fun _ a=>dX rfl rfl b8) (bE (fun _ a=>bC (v:=cE a1 d) rfl) (bE (fun _ a=>dO rfl c) (bE (fun _ a=>cF (k':=d+3) aAZ rfl c rfl) (bE (fun _ a=>bZ (t:=3) aJb a c rfl rfl) (bE (fun _ a=>bC l) (bE (fun _ a=>cR uU rfl h rfl rfl rfl n) (bE (fun _ a=>cF (k':=e.toNat * 3+1) aGb rfl g rfl) (bE (fun _ a=>bZ (t:=1) gJ a g rfl rfl) ?_))))))));obtain ⟨b9,c0,hm⟩:=aB hm
      exact gA (vs:=[i64 u.B]) (v:=str b9) call73 rfl (fun _ a=>(kT c0 a)) aE
     exact aE
    ·exact aE
  exact aE
 obtain ⟨e6,c1,ho⟩:=aB hm
 refine cD [0] c1 (fun x o f w=>f 3=str x/\f 4=i64 o/\aF G K (L) w) aE ?_
 ·rintro x o c2 f e7 hm hr ⟨e8,c3,c4⟩
  unfold rS at hm
  refine aH (aJ (bR c3 (aO (v:=cE a1 d) (aC (dO rfl c) (aC (cF (k':=d+2) aLS rfl c rfl) (aC (bZ (t:=2) aMi c4 c rfl rfl) (aC (aX (len:=t.L.length) cT rfl) (aC (eC rfl rfl) (aM ?_)))))))))
  rcases aI hm with ⟨y,hm⟩|⟨y,hm⟩
  ·exact aS y rfl (aU (aD (aH (bJ (gI [0,4] (fun f w=>∃ z,wL t o z=some c2/\f 3=str z/\aF G K (L) w) aE aE)))))
  ·exact aE
theorem aGF {k:pL} {a:Nat} {R:aL} (hm:aEe k=some R) (c:aF G K (L) w) (r:G.lo=0) (b:eR K a1 a [str k.Name,i64 k.Kind,i64 k.S.N,i64 k.S.I,zS a4 k.S.L.length c5,zS a7 k.S.E.length c8,zS a10 k.Formula.length c11,zS a13 k.Source.Definitions.length c14,zS a16 k.Source.Components.length c17,zS a19 k.Source.Meetings.length c20,zS a22 k.Source.Allowed.length c23,zS a25 k.Source.Hidden.length c26]) (g:aW K a4 c5 k.S.L) (h:aW K a7 c8 k.S.E) (u:aW K a10 c11 k.Formula) (i:aW K a13 c14 k.Source.Definitions) (j:aW K a16 c17 k.Source.Components) (l:aW K a19 c20 k.Source.Meetings) (n:aW K a22 c23 k.Source.Allowed) (o:aW K a25 c26 k.Source.Hidden):
  Calls prog 13 ([cE a1 a]:List Value).toArray w (cL fun v w'=>v=str R/\aF G K (L) w'):=by
 refine aN func13 rfl (by kernel_rfl) (by show (1:Nat)<=25;decide) ?_;unfold aEe at hm
 refine aJ (aG (v:=str ([]:aL)) (aM (aH (aJ (aO (v:=cE a1 a) (aC (dO rfl b) (aC (cF (k':=a+1) aJf rfl b rfl) (aC (bZ (t:=1) gJ c b rfl rfl) (aM (bJ (aJ (aC (dN rfl rfl) (aG (v:=zB (k.Kind == 1)) (aM ?_))))))))))))))
 rcases aI hm with ⟨d,hm⟩|⟨d,hm⟩
 ·refine aS d rfl (aJ (aO (v:=cE a1 a) (aC (dO rfl b) (aC (cF (k':=a+2) aEF rfl b rfl) ?_))));obtain ⟨x,p,hm⟩:=aB hm
  exact aT (vs:=[cE a1 (a+2)]) call36 rfl (aGE p c (eR.sub (t:=2) (m:=4) b rfl) g h) aE
 ·refine aP d rfl (aJ (aC (dN rfl rfl) (aG (v:=zB (k.Kind == 2)) (aM ?_))))
  rcases aI hm with ⟨e,hm⟩|⟨e,hm⟩
  ·exact aE
  ·refine aP e rfl (aU (eL (aD (aJ (aO (v:=cE a1 a) (aC (dO rfl b) (aC (cF (k':=a+7) aCV rfl b rfl) ?_)))))));obtain ⟨y,q,hm⟩:=aB hm
   exact aT (vs:=[cE a1 (a+7)]) call35 rfl (aCA q c (eR.sub (t:=7) (m:=5) b rfl) i j l n o) aE
theorem aFL {k:pL} {R:aL} (hm:aCn k=some R) (p:aF G K (L) w) (q:G.lo=0) (d:aW K a1 c2 k.S.L) (e:aW K a4 c5 k.S.E) (g:aW K a7 c8 k.Formula) (h:aW K a10 c11 k.Source.Definitions) (i:aW K a13 c14 k.Source.Components) (j:aW K a16 c17 k.Source.Meetings) (l:aW K a19 c20 k.Source.Allowed) (m:aW K a22 c23 k.Source.Hidden):
  Calls prog 5 ([zA #[str k.Name,i64 k.Kind,i64 k.S.N,i64 k.S.I,zS a1 k.S.L.length c2,zS a4 k.S.E.length c5,zS a7 k.Formula.length c8,zS a10 k.Source.Definitions.length c11,zS a13 k.Source.Components.length c14,zS a16 k.Source.Meetings.length c17,zS a19 k.Source.Allowed.length c20,zS a22 k.Source.Hidden.length c23]]:List Value).toArray w (cL fun v w'=>v=str R/\aF G K (L) w'):=by
 refine aN func5 rfl (by kernel_rfl) (by show (1:Nat)<=6;decide) ?_;unfold aCn at hm
 refine aJ (eT (v:=zA #[str k.Name,i64 k.Kind,i64 k.S.N,i64 k.S.I,zS a1 k.S.L.length c2,zS a4 k.S.E.length c5,zS a7 k.Formula.length c8,zS a10 k.Source.Definitions.length c11,zS a13 k.Source.Components.length c14,zS a16 k.Source.Meetings.length c17,zS a19 k.Source.Allowed.length c20,zS a22 k.Source.Hidden.length c23]) (vs:=[str k.Name,i64 k.Kind,i64 k.S.N,i64 k.S.I,zS a1 k.S.L.length c2,zS a4 k.S.E.length c5,zS a7 k.Formula.length c8,zS a10 k.Source.Definitions.length c11,zS a13 k.Source.Components.length c14,zS a16 k.Source.Meetings.length c17,zS a19 k.Source.Allowed.length c20,zS a22 k.Source.Hidden.length c23]) p rfl rfl (fun n a9 r=>(aG (v:=str ([]:aL)) (aM (aH (aJ ?_))))))
 obtain ⟨b0,a,t,u,x⟩:=aF.lendBp r .head
 obtain ⟨b1,y,hm⟩:=aB hm
 refine aT (vs:=[cE (some ⟨n,0,none⟩) 0]) call12 rfl (aJQ y u t (d.mono a) (e.mono a) (g.mono a) (h.mono a) (i.mono a) (j.mono a) (l.mono a) (m.mono a)) ?_
 rintro _ b2 ⟨rfl,z⟩
 have o:=x _ _ z
 refine aC (uT rfl) (aM ?_)
 rcases aI hm with ⟨c,hm⟩|⟨c,hm⟩
 ·refine aS c rfl (aJ (aG (v:=str ([]:aL)) (aM ?_)));obtain rfl:=zI hm
  exact aAP (aEz (xU results5 rfl ⟨rfl,(aF.arr 1 [] o rfl)⟩))
 ·refine aP c rfl (aU (aD (aJ ?_)));obtain ⟨b3,b,V,Z,a0⟩:=aF.lendBp o .head
  obtain ⟨a2,a3,hm⟩:=aB hm
  refine aT (vs:=[cE (some ⟨n,0,none⟩) 0]) call13 rfl (aGF a3 Z q V (d.mono b) (e.mono b) (g.mono b) (h.mono b) (i.mono b) (j.mono b) (l.mono b) (m.mono b)) ?_
  rintro _ b4 ⟨rfl,a5⟩
  have a6:=a0 _ _ a5
  refine aG (v:=str a2) (aM ?_);obtain rfl:=zI hm
  exact aAP (xU results5 rfl ⟨rfl,(aF.arr 1 [] a6 rfl)⟩)
theorem aEl {a R:(List aL)} (hm:qT a=some R) (J:aF G K (L) w) (o:aW K a1 c2 a):
  Calls prog 38 ([zS a1 a.length c2]:List Value).toArray w (cL fun v w'=>∃ p q,v=zS p R.length q/\aF G K (aV 9 K p q R::L) w'):=by
 refine aN func38 rfl (by kernel_rfl) (by show (1:Nat)<=22;decide) ?_;unfold qT at hm
 refine aJ (aG (v:=zS none 0 0) (aM (aJ (aO (v:=zS a1 a.length c2) (aC (aX (len:=a.length) cT rfl) ?_)))));obtain ⟨b,V,hm⟩:=aB hm
 refine aIT (e:=([]:aL)) cT qF rfl rfl J rfl rfl rfl V rfl (fun c Z (a9:aF G K (aV 9 K c b.length b::L) Z)=>(aG (v:=zS c b.length b.length) (aM (aH (aJ (aG (v:=i64 0) (aM (aQ [] (fun f w=>∃ g,aGq g=some R/\f 3=zS c g.length b.length/\aF G K (aV 9 K c b.length g::L) w) aE ?_))))))));obtain ⟨b0,a0,ho⟩:=aB hm
 refine cD [0] a0 (fun j k f w=>f 3=zS c j.length b.length/\f 4=i64 k/\aF G K (aV 9 K c b.length j::L) w) aE ?_
 ·rintro j k b1 f b2 hm hr ⟨r,d,l⟩
  unfold wM at hm
  refine aH (aJ (bR d (aO (v:=zS a1 a.length c2) (aC (aX (len:=a.length) cT rfl) (aC (eC rfl rfl) (aM ?_))))))
  rcases aI hm with ⟨u,hm⟩|⟨u,hm⟩
  ·refine aS u rfl (aU (aD (aH (bJ (bK (bR r (bR d (aO (v:=zS a1 a.length c2) (bR d ?_)))))))));obtain ⟨x,y,hm⟩:=aB hm
   refine aC (cR cT rfl o rfl rfl rfl y) ?_;obtain ⟨b3,a2,a3⟩:=aW.el (sz:=1) rfl o y
   cases a3
   refine aC (bZ (t:=0) oK l a2 rfl rfl) ?_;obtain ⟨b4,m,hm⟩:=aB hm
   have a4:=eN l (i:=0) rfl m
   refine aC (jE cT rfl a4 rfl rfl rfl m) ?_;obtain ⟨a5,z,hm⟩:=aB hm
   exact aEC (i:=0) (t:=0) (ns:=[str x]) (e':=(x:aL)) sizeOf9 l rfl (zR _) rfl rfl rfl m z rfl rfl (kJ rfl) rfl (fun cs h=>by cases h;rfl) (fun a7 (a8:aF G K (aV 9 K c b.length a5::L) a7)=>(bP (eL (aD (bK (bR d (aC (nI rfl rfl) (aG (v:=i64 (wr (k+1))) (aM ⟨_,(zI hm).symm,gF,(Eq.trans r (congrArg (fun n=>zS c n b.length) (vH z))),rfl,a8⟩)))))))))
  ·exact aE
theorem aHU {a R:Edge} (hm:aMw a=some R) (b:aF G K (L) w):
  Calls prog 77 ([zA #[i64 a.F,i64 a.B,i64 a.To]]:List Value).toArray w (cL fun v w'=>v=zA #[i64 R.F,i64 R.B,i64 R.To]/\aF G K (L) w'):=by
 exact aE
theorem aMQ {a R:(List Edge)} (hm:aEf a=some R) (Z:aF G K (L) w) (p:aW K a1 c2 a):
  Calls prog 39 ([zS a1 a.length c2]:List Value).toArray w (cL fun v w'=>∃ q r,v=zS q R.length r/\aF G K (aV 114 K q r R::L) w'):=by
 refine aN func39 rfl (by kernel_rfl) (by show (1:Nat)<=23;decide) ?_;unfold aEf at hm
 refine aJ (aG (v:=zS none 0 0) (aM (aJ (aO (v:=zS a1 a.length c2) (aC (aX (len:=a.length) sl_23 rfl) ?_)))));obtain ⟨b,q5,hm⟩:=aB hm
 refine aIT (e:=(⟨0,0,0⟩:Edge)) uU ez_114 rfl rfl Z rfl rfl rfl q5 rfl (fun c w7 (b2:aF G K (aV 114 K c b.length b::L) w7)=>(aG (v:=zS c b.length b.length) (aM (aH (aJ (aG (v:=i64 0) (aM (aQ [] (fun f w=>∃ k,aJv k=some R/\f 3=zS c k.length b.length/\aF G K (aV 114 K c b.length k::L) w) aE ?_))))))));obtain ⟨b3,a3,ho⟩:=aB hm
 refine cD [0] a3 (fun l m f w=>f 3=zS c l.length b.length/\f 4=i64 m/\aF G K (aV 114 K c b.length l::L) w) aE ?_
 ·rintro l m b4 f b5 hm hr ⟨u,j,x⟩
  unfold aBp at hm
  refine aH (aJ (bR j (aO (v:=zS a1 a.length c2) (aC (aX (len:=a.length) sl_23 rfl) (aC (eC rfl rfl) (aM ?_))))))
  rcases aI hm with ⟨y,hm⟩|⟨y,hm⟩
  ·refine aS y rfl (aU (aD (aH (bJ (bK (bR u (bR j (aO (v:=zS a1 a.length c2) (bR j ?_)))))))));obtain ⟨d,z,hm⟩:=aB hm
   refine aC (cR sl_23 rfl p rfl rfl rfl z) ?_;obtain ⟨b6,a4,a5⟩:=aW.el (sz:=3) rfl p z
   cases a5
   refine aC (eD (t:=0) (vs:=[i64 d.F,i64 d.B,i64 d.To]) ag_128 x a4 rfl rfl rfl) ?_;obtain ⟨g,a7,hm⟩:=aB hm
   refine aT (vs:=[zA #[i64 d.F,i64 d.B,i64 d.To]]) call77 rfl (aHU a7 x) ?_
   rintro _ b7 ⟨rfl,J⟩
   obtain ⟨b8,o,hm⟩:=aB hm
   have a8:=eN J (i:=0) rfl o
   refine aC (jE uU rfl a8 rfl rfl rfl o) ?_;obtain ⟨a9,V,hm⟩:=aB hm
   exact aEC (i:=0) (t:=0) (ns:=[i64 g.F,i64 g.B,i64 g.To]) (e':=(⟨g.F,g.B,g.To⟩:Edge)) sizeOf114 J rfl (zR _) rfl rfl rfl o V rfl rfl (kJ rfl) rfl (fun cs h=>by cases h;rfl) (fun b0 (b1:aF G K (aV 114 K c b.length a9::L) b0)=>(bP (eL (aD (bK (bR j (aC (nI rfl rfl) (aG (v:=i64 (wr (m+1))) (aM ⟨_,(zI hm).symm,gF,(Eq.trans u (congrArg (fun n=>zS c n b.length) (vH V))),rfl,b1⟩)))))))))
  ·exact aE
theorem aJR {a R:gM} (hm:aLW a=some R) (g:aF G K (L) w) (h:aW K a1 c2 a.L) (i:aW K a4 c5 a.E):
  Calls prog 14 ([zA (zCa a a1 c2 a4 c5)]:List Value).toArray w (cL fun v w'=>∃ b c d e,v=zA (zCa R b c d e)/\aF G K (aV 9 K b c R.L::aV 114 K d e R.E::L) w'):=by
 exact aE
end Gv
namespace Gv
open Gv.Hp renaming le_refl→zR
open Go.Value renaming slice→zS,bool→zB,agg→zA
open Option.some renaming inj→zI
open Go Go.Proofs Go.Proofs.Tryz
set_option maxRecDepth 20000
set_option maxHeartbeats 40000000
variable {G:kH} {K:Hp} {L:List eW} {w:World} {a1 a4 a7 a10 a13 a16 a19 a22:Option Addr} {c2 c5 c8 c11 c14 c17 c20 c23:Nat}
theorem aHV {a R:bI} (hm:aMx a=some R) (b:aF G K (L) w):
  Calls prog 40 ([zA #[i64 a.Kind,i64 a.Variable,str a.B,zB a.Not]]:List Value).toArray w (cL fun v w'=>v=zA #[i64 R.Kind,i64 R.Variable,str R.B,zB R.Not]/\aF G K (L) w'):=by
 exact aE
theorem aGG {a R:(List bI)} (hm:aHa a=some R) (Z:aF G K (L) w) (p:aW K a1 c2 a):
  Calls prog 15 ([zS a1 a.length c2]:List Value).toArray w (cL fun v w'=>∃ q r,v=zS q R.length r/\aF G K (aV 83 K q r R::L) w'):=by
 refine aN func15 rfl (by kernel_rfl) (by show (1:Nat)<=23;decide) ?_;unfold aHa at hm
 refine aJ (aG (v:=zS none 0 0) (aM (aJ (aO (v:=zS a1 a.length c2) (aC (aX (len:=a.length) sl_26 rfl) ?_)))));obtain ⟨b,q5,hm⟩:=aB hm
 refine aIT (e:=(⟨0,0,[],false⟩:bI)) sB ez_83 rfl rfl Z rfl rfl rfl q5 rfl (fun c w7 (b2:aF G K (aV 83 K c b.length b::L) w7)=>(aG (v:=zS c b.length b.length) (aM (aH (aJ (aG (v:=i64 0) (aM (aQ [] (fun f w=>∃ k,aJw k=some R/\f 3=zS c k.length b.length/\aF G K (aV 83 K c b.length k::L) w) aE ?_))))))));obtain ⟨b3,a3,ho⟩:=aB hm
 refine cD [0] a3 (fun l m f w=>f 3=zS c l.length b.length/\f 4=i64 m/\aF G K (aV 83 K c b.length l::L) w) aE ?_
 ·rintro l m b4 f b5 hm hr ⟨u,j,x⟩
  unfold wN at hm
  refine aH (aJ (bR j (aO (v:=zS a1 a.length c2) (aC (aX (len:=a.length) sl_26 rfl) (aC (eC rfl rfl) (aM ?_))))))
  rcases aI hm with ⟨y,hm⟩|⟨y,hm⟩
  ·refine aS y rfl (aU (aD (aH (bJ (bK (bR u (bR j (aO (v:=zS a1 a.length c2) (bR j ?_)))))))));obtain ⟨d,z,hm⟩:=aB hm
   refine aC (cR sl_26 rfl p rfl rfl rfl z) ?_;obtain ⟨b6,a4,a5⟩:=aW.el (sz:=4) rfl p z
   cases a5
   refine aC (eD (t:=0) (vs:=[i64 d.Kind,i64 d.Variable,str d.B,zB d.Not]) ag_67 x a4 rfl rfl rfl) ?_;obtain ⟨g,a7,hm⟩:=aB hm
   refine aT (vs:=[zA #[i64 d.Kind,i64 d.Variable,str d.B,zB d.Not]]) call40 rfl (aHV a7 x) ?_
   rintro _ b7 ⟨rfl,J⟩
   obtain ⟨b8,o,hm⟩:=aB hm
   have a8:=eN J (i:=0) rfl o
   refine aC (jE sB rfl a8 rfl rfl rfl o) ?_;obtain ⟨a9,V,hm⟩:=aB hm
   exact aEC (i:=0) (t:=0) (ns:=[i64 g.Kind,i64 g.Variable,str g.B,zB g.Not]) (e':=(⟨g.Kind,g.Variable,g.B,g.Not⟩:bI)) sizeOf83 J rfl (Hp.le_refl _) rfl rfl rfl o V rfl rfl (kJ rfl) rfl (fun cs h=>by cases h;rfl) (fun b0 (b1:aF G K (aV 83 K c b.length a9::L) b0)=>(bP (eL (aD (bK (bR j (aC (nI rfl rfl) (aG (v:=i64 (wr (m+1))) (aM ⟨_,(zI hm).symm,gF,(Eq.trans u (congrArg (fun n=>zS c n b.length) (vH V))),rfl,b1⟩)))))))))
  ·exact aE
theorem aHW {a R:aR} (hm:aMy a=some R) (b:aF G K (L) w):
  Calls prog 269 ([zA #[i64 a.Kind,i64 a.Value]]:List Value).toArray w (cL fun v w'=>v=zA #[i64 R.Kind,i64 R.Value]/\aF G K (L) w'):=by
 exact aE
theorem aGH {a R:(List aR)} (hm:aHb a=some R) (Z:aF G K (L) w) (p:aW K a1 c2 a):
  Calls prog 241 ([zS a1 a.length c2]:List Value).toArray w (cL fun v w'=>∃ q r,v=zS q R.length r/\aF G K (aV 218 K q r R::L) w'):=by
 refine aN func241 rfl (by kernel_rfl) (by show (1:Nat)<=23;decide) ?_;unfold aHb at hm
 refine aJ (aG (v:=zS none 0 0) (aM (aJ (aO (v:=zS a1 a.length c2) (aC (aX (len:=a.length) aPc rfl) ?_)))));obtain ⟨b,q5,hm⟩:=aB hm
 refine aIT (e:=(⟨0,0⟩:aR)) nP ez_218 rfl rfl Z rfl rfl rfl q5 rfl (fun c w7 (b2:aF G K (aV 218 K c b.length b::L) w7)=>(aG (v:=zS c b.length b.length) (aM (aH (aJ (aG (v:=i64 0) (aM (aQ [] (fun f w=>∃ k,aJx k=some R/\f 3=zS c k.length b.length/\aF G K (aV 218 K c b.length k::L) w) aE ?_))))))));obtain ⟨b3,a3,ho⟩:=aB hm
 refine cD [0] a3 (fun l m f w=>f 3=zS c l.length b.length/\f 4=i64 m/\aF G K (aV 218 K c b.length l::L) w) aE ?_
 ·rintro l m b4 f b5 hm hr ⟨u,d,x⟩
  unfold wO at hm
  refine aH (aJ (bR d (aO (v:=zS a1 a.length c2) (aC (aX (len:=a.length) aPc rfl) (aC (eC rfl rfl) (aM ?_))))))
  rcases aI hm with ⟨y,hm⟩|⟨y,hm⟩
  ·refine aS y rfl (aU (aD (aH (bJ (bK (bR u (bR d (aO (v:=zS a1 a.length c2) (bR d ?_)))))))));obtain ⟨g,z,hm⟩:=aB hm
   refine aC (cR aPc rfl p rfl rfl rfl z) ?_;obtain ⟨b6,a4,a5⟩:=aW.el (sz:=2) rfl p z
   cases a5
   refine aC (eD (t:=0) (vs:=[i64 g.Kind,i64 g.Value]) ag_320 x a4 rfl rfl rfl) ?_;obtain ⟨j,a7,hm⟩:=aB hm
   refine aT (vs:=[zA #[i64 g.Kind,i64 g.Value]]) call269 rfl (aHW a7 x) ?_
   rintro _ b7 ⟨rfl,J⟩
   obtain ⟨b8,o,hm⟩:=aB hm
   have a8:=eN J (i:=0) rfl o
   refine aC (jE nP rfl a8 rfl rfl rfl o) ?_;obtain ⟨a9,V,hm⟩:=aB hm
   exact aEC (i:=0) (t:=0) (ns:=[i64 j.Kind,i64 j.Value]) (e':=(⟨j.Kind,j.Value⟩:aR)) sizeOf218 J rfl (Hp.le_refl _) rfl rfl rfl o V rfl rfl (kJ rfl) rfl (fun cs h=>by cases h;rfl) (fun b0 (b1:aF G K (aV 218 K c b.length a9::L) b0)=>(bP (eL (aD (bK (bR d (aC (nI rfl rfl) (aG (v:=i64 (wr (m+1))) (aM ⟨_,(zI hm).symm,gF,(Eq.trans u (congrArg (fun n=>zS c n b.length) (vH V))),rfl,b1⟩)))))))))
  ·exact aE
theorem aLG {a R:(List (List aR))} (hm:aEY a=some R) (hs:aF G K (L) w) (r:aW K a1 c2 a):
  Calls prog 200 ([zS a1 a.length c2]:List Value).toArray w (cL fun v w'=>∃ u x o,v=zS u R.length x/\List.length o=List.length R/\aF G K (aV 215 K u x (cI o R)::rows [218] o R::L) w'):=by
 refine aN func200 rfl (by kernel_rfl) (by show (1:Nat)<=23;decide) ?_;unfold aEY at hm
 refine aJ (aG (v:=zS none 0 0) (aM (aJ (aO (v:=zS a1 a.length c2) (aC (aX (len:=a.length) aMj rfl) ?_)))));obtain ⟨b,y,hm⟩:=aB hm
 refine aOW (tys:=[218]) (hd:=((none,0):Dp.Hd (List aR))) mP ez_215 rfl rfl hs rfl rfl rfl y rfl (pcs_nil _) ?_
 intro c w7 (a7:aF G K (aV 215 K c b.length (cI (List.replicate (a.length:Int).toNat ((none,0):Dp.Hd (List aR))) b)::rows [218] (List.replicate (a.length:Int).toNat ((none,0):Dp.Hd (List aR))) b::L) w7)
 refine aG (v:=zS c b.length b.length) (aM (aH (aJ (aG (v:=i64 0) (aM (aQ [] (fun f w=>∃ e p,aHM e=some R/\f 3=zS c e.length b.length/\List.length p=List.length e/\aF G K (aV 215 K c b.length (cI p e)::rows [218] p e::L) w) aE ?_))))));obtain ⟨c0,a8,ho⟩:=aB hm
 refine cD [0] a8 (fun g i32 f w=>∃ d,f 3=zS c g.length b.length/\f 4=i64 i32/\List.length d=List.length g/\aF G K (aV 215 K c b.length (cI d g)::rows [218] d g::L) w) ?_ ?_
 ·exact ⟨(List.replicate (a.length:Int).toNat ((none,0):Dp.Hd (List aR))),rfl,rfl,(aDN (hd:=((none,0):Dp.Hd (List aR))) y).2.1,a7⟩
 ·rintro g i32 c1 f c3 hm hr ⟨d,z,k,l,J⟩
  unfold tD at hm
  refine aH (aJ (bR k (aO (v:=zS a1 a.length c2) (aC (aX (len:=a.length) aMj rfl) (aC (eC rfl rfl) (aM ?_))))))
  rcases aI hm with ⟨V,hm⟩|⟨V,hm⟩
  ·refine aS V rfl (aU (aD (aH (bJ (bK (bR z (bR k (aO (v:=zS a1 a.length c2) (bR k ?_)))))))));obtain ⟨a9,Z,hm⟩:=aB hm
   refine aC (cR aMj rfl r rfl rfl rfl Z) ?_;obtain ⟨c4,b0,b1⟩:=aW.el (sz:=1) rfl r Z
   obtain ⟨b2,b3,rfl,b4⟩:=b1
   refine aC (bZ (t:=0) sc_283 J b0 rfl rfl) ?_;obtain ⟨b5,b6,hm⟩:=aB hm
   refine aT (vs:=[zS b2 a9.length b3]) call241 rfl (aGH b6 J b4) ?_
   rintro _ c5 ⟨h,j,rfl,a0⟩
   obtain ⟨c6,m,hm⟩:=aB hm
   obtain ⟨⟨c7,c8⟩,a2⟩:=aMe l m
   have b7:=eN a0 (i:=1) rfl (aBN l m a2)
   refine aC (jE mP rfl b7 rfl rfl rfl m) ?_;obtain ⟨a3,q,hm⟩:=aB hm
   refine aOX (i:=0) (tys:=[218]) (hd':=(h,j)) (e':=b5) (hds:=d) sizeOf215 a0 l rfl rfl rfl rfl rfl m a2 q rfl ?_
   intro b8 (b9:aF G K (aV 215 K c b.length (cI (List.set d i32.toNat (h,j)) a3)::rows [218] (List.set d i32.toNat (h,j)) a3::L) b8)
   exact bP (eL (aD (bK (bR k (aC (nI rfl rfl) (aG (v:=i64 (wr (i32+1))) (aM ⟨_,(zI hm).symm,gF,(List.set d i32.toNat (h,j)),(Eq.trans z (congrArg (fun n=>zS c n b.length) (vH q))),rfl,(aLR (hd:=((h,j):Dp.Hd (List aR))) l q),b9⟩)))))))
  ·exact aE
theorem aHX {a R:bG} (hm:aMz a=some R) (e:aF G K (L) w) (g:aW K a1 c2 a.Arguments):
  Calls prog 163 ([zA #[i64 a.Kind,i64 a.Number,str a.Name,zS a1 a.Arguments.length c2]]:List Value).toArray w (cL fun v w'=>∃ c d b,v=zA #[i64 R.Kind,i64 R.Number,str R.Name,zS c R.Arguments.length d]/\List.length b=List.length R.Arguments/\aF G K (aV 215 K c d (cI b R.Arguments)::rows [218] b R.Arguments::L) w'):=by
 exact aE
theorem aMR {a R:(List bG)} (hm:aHc a=some R) (hs:aF G K (L) w) (y:aW K a1 c2 a):
  Calls prog 123 ([zS a1 a.length c2]:List Value).toArray w (cL fun v w'=>∃ z J r,v=zS z R.length J/\List.length r=List.length R/\aF G K (aV 170 K z J (cI r R)::rows [215,218] r R::L) w'):=by
 refine aN func123 rfl (by kernel_rfl) (by show (1:Nat)<=23;decide) ?_;unfold aHc at hm
 refine aJ (aG (v:=zS none 0 0) (aM (aJ (aO (v:=zS a1 a.length c2) (aC (aX (len:=a.length) aMk rfl) ?_)))));obtain ⟨b,V,hm⟩:=aB hm
 refine aOW (tys:=[215,218]) (hd:=(((none,0),[]):Dp.Hd bG)) lK ez_170 rfl rfl hs rfl rfl rfl V rfl (aPb _) ?_
 intro d w7 (b3:aF G K (aV 170 K d b.length (cI (List.replicate (a.length:Int).toNat (((none,0),[]):Dp.Hd bG)) b)::rows [215,218] (List.replicate (a.length:Int).toNat (((none,0),[]):Dp.Hd bG)) b::L) w7)
 refine aG (v:=zS d b.length b.length) (aM (aH (aJ (aG (v:=i64 0) (aM (aQ [] (fun f w=>∃ l u,aJy l=some R/\f 3=zS d l.length b.length/\List.length u=List.length l/\aF G K (aV 170 K d b.length (cI u l)::rows [215,218] u l::L) w) aE ?_))))));obtain ⟨c6,b4,ho⟩:=aB hm
 refine cD [0] b4 (fun e i32 f w=>∃ c,f 3=zS d e.length b.length/\f 4=i64 i32/\List.length c=List.length e/\aF G K (aV 170 K d b.length (cI c e)::rows [215,218] c e::L) w) ?_ ?_
 ·exact ⟨(List.replicate (a.length:Int).toNat (((none,0),[]):Dp.Hd bG)),rfl,rfl,(aDN (hd:=(((none,0),[]):Dp.Hd bG)) V).2.1,b3⟩
 ·rintro e i32 c7 f c8 hm hr ⟨c,Z,o,p,a0⟩
  unfold wP at hm
  refine aH (aJ (bR o (aO (v:=zS a1 a.length c2) (aC (aX (len:=a.length) aMk rfl) (aC (eC rfl rfl) (aM ?_))))))
  rcases aI hm with ⟨a2,hm⟩|⟨a2,hm⟩
  ·refine aS a2 rfl (aU (aD (aH (bJ (bK (bR Z (bR o (aO (v:=zS a1 a.length c2) (bR o ?_)))))))));obtain ⟨h,a3,hm⟩:=aB hm
   refine aC (cR aMk rfl y rfl rfl rfl a3) ?_;obtain ⟨c9,b5,b6⟩:=aW.el (sz:=4) rfl y a3
   obtain ⟨a4,a5,rfl,b7⟩:=b6
   refine aC (eD (t:=0) (vs:=[i64 h.Kind,i64 h.Number,str h.Name,zS a4 h.Arguments.length a5]) ag_205 a0 b5 rfl rfl rfl) ?_;obtain ⟨m,b8,hm⟩:=aB hm
   refine aT (vs:=[zA #[i64 h.Kind,i64 h.Number,str h.Name,zS a4 h.Arguments.length a5]]) call163 rfl (aHX b8 a0 b7) ?_
   rintro _ a7 ⟨j,k,g,rfl,b9,a8⟩
   obtain ⟨d0,q,hm⟩:=aB hm
   obtain ⟨⟨⟨d1,d2⟩,d3⟩,a9⟩:=aMe p q
   have c0:=eN a8 (i:=2) rfl (aBN p q a9)
   refine aC (jE lK rfl c0 rfl rfl rfl q) ?_
   have c1:aF G K (aV 215 K j k (cI g m.Arguments)::rows [218] g m.Arguments::aV 170 K d b.length (cI c e)::rows [215,218] c e::L) a7:=a8
   have c3:aF G K (aV 215 K j k (cI g m.Arguments)::aMh [218] g m.Arguments::aV 170 K d b.length (cI c e)::rows [215,218] c e::L) a7:=aF.closeL (i:=1) c1 rfl b9
   obtain ⟨b0,x,hm⟩:=aB hm
   refine aOX (i:=0) (tys:=[215,218]) (hd':=(((j,k),g):Dp.Hd bG)) (e':=(m:bG)) (hds:=c) sizeOf170 c3 p rfl rfl rfl rfl rfl q a9 x rfl ?_
   intro c4 (c5:aF G K (aV 170 K d b.length (cI (List.set c i32.toNat ((j,k),g)) b0)::rows [215,218] (List.set c i32.toNat ((j,k),g)) b0::L) c4)
   exact bP (eL (aD (bK (bR o (aC (nI rfl rfl) (aG (v:=i64 (wr (i32+1))) (aM ⟨_,(zI hm).symm,gF,(List.set c i32.toNat ((j,k),g)),(Eq.trans Z (congrArg (fun n=>zS d n b.length) (vH x))),rfl,(aLR (hd:=(((j,k),g):Dp.Hd bG)) p x),c5⟩)))))))
  ·exact aE
theorem aAT {a R:Definition} (hm:aCo a=some R) (e:aF G K (L) w) (g:aW K a1 c2 a.Body):
  Calls prog 78 ([zA #[str a.Name,i64 a.Parameters,zS a1 a.Body.length c2]]:List Value).toArray w (cL fun v w'=>∃ c d b,v=zA #[str R.Name,i64 R.Parameters,zS c R.Body.length d]/\List.length b=List.length R.Body/\aF G K (aV 170 K c d (cI b R.Body)::rows [215,218] b R.Body::L) w'):=by
 exact aE
theorem aAv {a R:(List Definition)} (hm:uA a=some R) (hs:aF G K (L) w) (y:aW K a1 c2 a):
  Calls prog 41 ([zS a1 a.length c2]:List Value).toArray w (cL fun v w'=>∃ z J r,v=zS z R.length J/\List.length r=List.length R/\aF G K (aV 131 K z J (cI r R)::rows [170,215,218] r R::L) w'):=by
 refine aN func41 rfl (by kernel_rfl) (by show (1:Nat)<=23;decide) ?_;unfold uA at hm
 refine aJ (aG (v:=zS none 0 0) (aM (aJ (aO (v:=zS a1 a.length c2) (aC (aX (len:=a.length) sl_27 rfl) ?_)))));obtain ⟨b,V,hm⟩:=aB hm
 refine aOW (tys:=[170,215,218]) (hd:=(((none,0),[]):Dp.Hd Definition)) qI ez_131 rfl rfl hs rfl rfl rfl V rfl (aIj _) ?_
 intro d w7 (b3:aF G K (aV 131 K d b.length (cI (List.replicate (a.length:Int).toNat (((none,0),[]):Dp.Hd Definition)) b)::rows [170,215,218] (List.replicate (a.length:Int).toNat (((none,0),[]):Dp.Hd Definition)) b::L) w7)
 refine aG (v:=zS d b.length b.length) (aM (aH (aJ (aG (v:=i64 0) (aM (aQ [] (fun f w=>∃ l u,aCp l=some R/\f 3=zS d l.length b.length/\List.length u=List.length l/\aF G K (aV 131 K d b.length (cI u l)::rows [170,215,218] u l::L) w) aE ?_))))));obtain ⟨c6,b4,ho⟩:=aB hm
 refine cD [0] b4 (fun e i32 f w=>∃ c,f 3=zS d e.length b.length/\f 4=i64 i32/\List.length c=List.length e/\aF G K (aV 131 K d b.length (cI c e)::rows [170,215,218] c e::L) w) ?_ ?_
 ·exact ⟨(List.replicate (a.length:Int).toNat (((none,0),[]):Dp.Hd Definition)),rfl,rfl,(aDN (hd:=(((none,0),[]):Dp.Hd Definition)) V).2.1,b3⟩
 ·rintro e i32 c7 f c8 hm hr ⟨c,Z,o,p,a0⟩
  unfold lD at hm
  refine aH (aJ (bR o (aO (v:=zS a1 a.length c2) (aC (aX (len:=a.length) sl_27 rfl) (aC (eC rfl rfl) (aM ?_))))))
  rcases aI hm with ⟨a2,hm⟩|⟨a2,hm⟩
  ·refine aS a2 rfl (aU (aD (aH (bJ (bK (bR Z (bR o (aO (v:=zS a1 a.length c2) (bR o ?_)))))))));obtain ⟨k,a3,hm⟩:=aB hm
   refine aC (cR sl_27 rfl y rfl rfl rfl a3) ?_;obtain ⟨c9,b5,b6⟩:=aW.el (sz:=3) rfl y a3
   obtain ⟨a4,a5,rfl,b7⟩:=b6
   refine aC (eD (t:=0) (vs:=[str k.Name,i64 k.Parameters,zS a4 k.Body.length a5]) ag_102 a0 b5 rfl rfl rfl) ?_;obtain ⟨m,b8,hm⟩:=aB hm
   refine aT (vs:=[zA #[str k.Name,i64 k.Parameters,zS a4 k.Body.length a5]]) call78 rfl (aAT b8 a0 b7) ?_
   rintro _ a7 ⟨h,j,g,rfl,b9,a8⟩
   obtain ⟨d0,q,hm⟩:=aB hm
   obtain ⟨⟨⟨d1,d2⟩,d3⟩,a9⟩:=aMe p q
   have c0:=eN a8 (i:=2) rfl (aBN p q a9)
   refine aC (jE qI rfl c0 rfl rfl rfl q) ?_
   have c1:aF G K (aV 170 K h j (cI g m.Body)::rows [215,218] g m.Body::aV 131 K d b.length (cI c e)::rows [170,215,218] c e::L) a7:=a8
   have c3:aF G K (aV 170 K h j (cI g m.Body)::aMh [215,218] g m.Body::aV 131 K d b.length (cI c e)::rows [170,215,218] c e::L) a7:=aF.closeL (i:=1) c1 rfl b9
   obtain ⟨b0,x,hm⟩:=aB hm
   refine aOX (i:=0) (tys:=[170,215,218]) (hd':=(((h,j),g):Dp.Hd Definition)) (e':=(m:Definition)) (hds:=c) sizeOf131 c3 p rfl rfl rfl rfl rfl q a9 x rfl ?_
   intro c4 (c5:aF G K (aV 131 K d b.length (cI (List.set c i32.toNat ((h,j),g)) b0)::rows [170,215,218] (List.set c i32.toNat ((h,j),g)) b0::L) c4)
   exact bP (eL (aD (bK (bR o (aC (nI rfl rfl) (aG (v:=i64 (wr (i32+1))) (aM ⟨_,(zI hm).symm,gF,(List.set c i32.toNat ((h,j),g)),(Eq.trans Z (congrArg (fun n=>zS d n b.length) (vH x))),rfl,(aLR (hd:=(((h,j),g):Dp.Hd Definition)) p x),c5⟩)))))))
  ·exact aE
theorem aLH {a R:(List Int)} (hm:aEZ a=some R) (J:aF G K (L) w) (o:aW K a1 c2 a):
  Calls prog 124 ([zS a1 a.length c2]:List Value).toArray w (cL fun v w'=>∃ p q,v=zS p R.length q/\aF G K (aV 2 K p q R::L) w'):=by
 refine aN func124 rfl (by kernel_rfl) (by show (1:Nat)<=22;decide) ?_;unfold aEZ at hm
 refine aJ (aG (v:=zS none 0 0) (aM (aJ (aO (v:=zS a1 a.length c2) (aC (aX (len:=a.length) dR rfl) ?_)))));obtain ⟨b,V,hm⟩:=aB hm
 refine aIT (e:=(0:Int)) dR xY rfl rfl J rfl rfl rfl V rfl (fun c Z (a9:aF G K (aV 2 K c b.length b::L) Z)=>(aG (v:=zS c b.length b.length) (aM (aH (aJ (aG (v:=i64 0) (aM (aQ [] (fun f w=>∃ g,aHN g=some R/\f 3=zS c g.length b.length/\aF G K (aV 2 K c b.length g::L) w) aE ?_))))))));obtain ⟨b0,a0,ho⟩:=aB hm
 refine cD [0] a0 (fun j k f w=>f 3=zS c j.length b.length/\f 4=i64 k/\aF G K (aV 2 K c b.length j::L) w) aE ?_
 ·rintro j k b1 f b2 hm hr ⟨r,d,l⟩
  unfold tE at hm
  refine aH (aJ (bR d (aO (v:=zS a1 a.length c2) (aC (aX (len:=a.length) dR rfl) (aC (eC rfl rfl) (aM ?_))))))
  rcases aI hm with ⟨u,hm⟩|⟨u,hm⟩
  ·refine aS u rfl (aU (aD (aH (bJ (bK (bR r (bR d (aO (v:=zS a1 a.length c2) (bR d ?_)))))))));obtain ⟨x,y,hm⟩:=aB hm
   refine aC (cR dR rfl o rfl rfl rfl y) ?_;obtain ⟨b3,a2,a3⟩:=aW.el (sz:=1) rfl o y
   cases a3
   refine aC (bZ (t:=0) gJ l a2 rfl rfl) ?_;obtain ⟨b4,m,hm⟩:=aB hm
   have a4:=eN l (i:=0) rfl m
   refine aC (jE dR rfl a4 rfl rfl rfl m) ?_;obtain ⟨a5,z,hm⟩:=aB hm
   exact aEC (i:=0) (t:=0) (ns:=[i64 x]) (e':=(x:Int)) sizeOf2 l rfl (Hp.le_refl _) rfl rfl rfl m z rfl rfl (kJ rfl) rfl (fun cs h=>by cases h;rfl) (fun a7 (a8:aF G K (aV 2 K c b.length a5::L) a7)=>(bP (eL (aD (bK (bR d (aC (nI rfl rfl) (aG (v:=i64 (wr (k+1))) (aM ⟨_,(zI hm).symm,gF,(Eq.trans r (congrArg (fun n=>zS c n b.length) (vH z))),rfl,a8⟩)))))))))
  ·exact aE
theorem aCB {a R:aY} (hm:aDF a=some R) (d:aF G K (L) w) (e:aW K a1 c2 a.Values):
  Calls prog 79 ([zA #[i64 a.Definition,zS a1 a.Values.length c2]]:List Value).toArray w (cL fun v w'=>∃ b c,v=zA #[i64 R.Definition,zS b R.Values.length c]/\aF G K (aV 2 K b c R.Values::L) w'):=by
 exact aE
theorem aAU {a R:(List aY)} (hm:wQ a=some R) (hs:aF G K (L) w) (u:aW K a1 c2 a):
  Calls prog 42 ([zS a1 a.length c2]:List Value).toArray w (cL fun v w'=>∃ x y p,v=zS x R.length y/\List.length p=List.length R/\aF G K (aV 133 K x y (cI p R)::rows [2] p R::L) w'):=by
 refine aN func42 rfl (by kernel_rfl) (by show (1:Nat)<=23;decide) ?_;unfold wQ at hm
 refine aJ (aG (v:=zS none 0 0) (aM (aJ (aO (v:=zS a1 a.length c2) (aC (aX (len:=a.length) sl_28 rfl) ?_)))));obtain ⟨b,z,hm⟩:=aB hm
 refine aOW (tys:=[2]) (hd:=((none,0):Dp.Hd aY)) xN ez_133 rfl rfl hs rfl rfl rfl z rfl (aIZ _) ?_
 intro d w7 (b1:aF G K (aV 133 K d b.length (cI (List.replicate (a.length:Int).toNat ((none,0):Dp.Hd aY)) b)::rows [2] (List.replicate (a.length:Int).toNat ((none,0):Dp.Hd aY)) b::L) w7)
 refine aG (v:=zS d b.length b.length) (aM (aH (aJ (aG (v:=i64 0) (aM (aQ [] (fun f w=>∃ j q,aDe j=some R/\f 3=zS d j.length b.length/\List.length q=List.length j/\aF G K (aV 133 K d b.length (cI q j)::rows [2] q j::L) w) aE ?_))))));obtain ⟨c3,b2,ho⟩:=aB hm
 refine cD [0] b2 (fun e i32 f w=>∃ c,f 3=zS d e.length b.length/\f 4=i64 i32/\List.length c=List.length e/\aF G K (aV 133 K d b.length (cI c e)::rows [2] c e::L) w) ?_ ?_
 ·exact ⟨(List.replicate (a.length:Int).toNat ((none,0):Dp.Hd aY)),rfl,rfl,(aDN (hd:=((none,0):Dp.Hd aY)) z).2.1,b1⟩
 ·rintro e i32 c4 f c5 hm hr ⟨c,J,k,l,V⟩
  unfold lR at hm
  refine aH (aJ (bR k (aO (v:=zS a1 a.length c2) (aC (aX (len:=a.length) sl_28 rfl) (aC (eC rfl rfl) (aM ?_))))))
  rcases aI hm with ⟨Z,hm⟩|⟨Z,hm⟩
  ·refine aS Z rfl (aU (aD (aH (bJ (bK (bR J (bR k (aO (v:=zS a1 a.length c2) (bR k ?_)))))))));obtain ⟨m,a0,hm⟩:=aB hm
   refine aC (cR sl_28 rfl u rfl rfl rfl a0) ?_;obtain ⟨c6,b3,b4⟩:=aW.el (sz:=2) rfl u a0
   obtain ⟨a2,a3,rfl,b5⟩:=b4
   refine aC (eD (t:=0) (vs:=[i64 m.Definition,zS a2 m.Values.length a3]) ag_106 V b3 rfl rfl rfl) ?_;obtain ⟨a4,b6,hm⟩:=aB hm
   refine aT (vs:=[zA #[i64 m.Definition,zS a2 m.Values.length a3]]) call79 rfl (aCB b6 V b5) ?_
   rintro _ b7 ⟨g,h,rfl,a5⟩
   obtain ⟨c7,o,hm⟩:=aB hm
   obtain ⟨⟨c8,c9⟩,a7⟩:=aMe l o
   have b8:=eN a5 (i:=1) rfl (aBN l o a7)
   refine aC (jE xN rfl b8 rfl rfl rfl o) ?_
   have b9:aF G K (aV 2 K g h a4.Values::aV 133 K d b.length (cI c e)::rows [2] c e::L) b7:=a5
   obtain ⟨a8,r,hm⟩:=aB hm
   refine aOX (i:=0) (tys:=[2]) (hd':=((g,h):Dp.Hd aY)) (e':=(a4:aY)) (hds:=c) sizeOf133 b9 l rfl rfl rfl rfl rfl o a7 r rfl ?_
   intro c0 (c1:aF G K (aV 133 K d b.length (cI (List.set c i32.toNat (g,h)) a8)::rows [2] (List.set c i32.toNat (g,h)) a8::L) c0)
   exact bP (eL (aD (bK (bR k (aC (nI rfl rfl) (aG (v:=i64 (wr (i32+1))) (aM ⟨_,(zI hm).symm,gF,(List.set c i32.toNat (g,h)),(Eq.trans J (congrArg (fun n=>zS d n b.length) (vH r))),rfl,(aLR (hd:=((g,h):Dp.Hd aY)) l r),c1⟩)))))))
  ·exact aE
theorem aEm {a R:bB} (hm:aGr a=some R) (b:aF G K (L) w):
  Calls prog 80 ([zA #[str a.Left,str a.Right,str a.Result]]:List Value).toArray w (cL fun v w'=>v=zA #[str R.Left,str R.Right,str R.Result]/\aF G K (L) w'):=by
 exact aE
theorem aDp {a R:(List bB)} (hm:aBq a=some R) (Z:aF G K (L) w) (p:aW K a1 c2 a):
  Calls prog 43 ([zS a1 a.length c2]:List Value).toArray w (cL fun v w'=>∃ q r,v=zS q R.length r/\aF G K (aV 135 K q r R::L) w'):=by
 refine aN func43 rfl (by kernel_rfl) (by show (1:Nat)<=23;decide) ?_;unfold aBq at hm
 refine aJ (aG (v:=zS none 0 0) (aM (aJ (aO (v:=zS a1 a.length c2) (aC (aX (len:=a.length) sl_29 rfl) ?_)))));obtain ⟨b,q5,hm⟩:=aB hm
 refine aIT (e:=(⟨[],[],[]⟩:bB)) vO ez_135 rfl rfl Z rfl rfl rfl q5 rfl (fun c w7 (b2:aF G K (aV 135 K c b.length b::L) w7)=>(aG (v:=zS c b.length b.length) (aM (aH (aJ (aG (v:=i64 0) (aM (aQ [] (fun f w=>∃ k,aFA k=some R/\f 3=zS c k.length b.length/\aF G K (aV 135 K c b.length k::L) w) aE ?_))))))));obtain ⟨b3,a3,ho⟩:=aB hm
 refine cD [0] a3 (fun l m f w=>f 3=zS c l.length b.length/\f 4=i64 m/\aF G K (aV 135 K c b.length l::L) w) aE ?_
 ·rintro l m b4 f b5 hm hr ⟨u,j,x⟩
  unfold oP at hm
  refine aH (aJ (bR j (aO (v:=zS a1 a.length c2) (aC (aX (len:=a.length) sl_29 rfl) (aC (eC rfl rfl) (aM ?_))))))
  rcases aI hm with ⟨y,hm⟩|⟨y,hm⟩
  ·refine aS y rfl (aU (aD (aH (bJ (bK (bR u (bR j (aO (v:=zS a1 a.length c2) (bR j ?_)))))))));obtain ⟨d,z,hm⟩:=aB hm
   refine aC (cR sl_29 rfl p rfl rfl rfl z) ?_;obtain ⟨b6,a4,a5⟩:=aW.el (sz:=3) rfl p z
   cases a5
   refine aC (eD (t:=0) (vs:=[str d.Left,str d.Right,str d.Result]) ag_109 x a4 rfl rfl rfl) ?_;obtain ⟨g,a7,hm⟩:=aB hm
   refine aT (vs:=[zA #[str d.Left,str d.Right,str d.Result]]) call80 rfl (aEm a7 x) ?_
   rintro _ b7 ⟨rfl,J⟩
   obtain ⟨b8,o,hm⟩:=aB hm
   have a8:=eN J (i:=0) rfl o
   refine aC (jE vO rfl a8 rfl rfl rfl o) ?_;obtain ⟨a9,V,hm⟩:=aB hm
   exact aEC (i:=0) (t:=0) (ns:=[str g.Left,str g.Right,str g.Result]) (e':=(⟨g.Left,g.Right,g.Result⟩:bB)) sizeOf135 J rfl (Hp.le_refl _) rfl rfl rfl o V rfl rfl (kJ rfl) rfl (fun cs h=>by cases h;rfl) (fun b0 (b1:aF G K (aV 135 K c b.length a9::L) b0)=>(bP (eL (aD (bK (bR j (aC (nI rfl rfl) (aG (v:=i64 (wr (m+1))) (aM ⟨_,(zI hm).symm,gF,(Eq.trans u (congrArg (fun n=>zS c n b.length) (vH V))),rfl,b1⟩)))))))))
  ·exact aE
theorem aFM {a R:bM} (hm:aCq a=some R) (hs:aF G K (L) w) (h3:aW K a1 c2 a.Definitions) (h6:aW K a4 c5 a.Components) (h9:aW K a7 c8 a.Meetings) (b5:aW K a10 c11 a.Allowed) (d1:aW K a13 c14 a.Hidden):
  Calls prog 16 ([zA #[zS a1 a.Definitions.length c2,zS a4 a.Components.length c5,zS a7 a.Meetings.length c8,zS a10 a.Allowed.length c11,zS a13 a.Hidden.length c14]]:List Value).toArray w (cL fun v w'=>∃ x y p z J q V Z a0 a2 a3 a5,v=zA #[zS x R.Definitions.length y,zS z R.Components.length J,zS V R.Meetings.length Z,zS a0 R.Allowed.length a2,zS a3 R.Hidden.length a5]/\List.length p=List.length R.Definitions/\List.length q=List.length R.Components/\aF G K (aV 131 K x y (cI p R.Definitions)::rows [170,215,218] p R.Definitions::aV 133 K z J (cI q R.Components)::rows [2] q R.Components::aV 135 K V Z R.Meetings::aV 9 K a0 a2 R.Allowed::aV 9 K a3 a5 R.Hidden::L) w'):=by
 let l:=[zS a1 a.Definitions.length c2,zS a4 a.Components.length c5,zS a7 a.Meetings.length c8,zS a10 a.Allowed.length c11,zS a13 a.Hidden.length c14]
 let k:=[zS none 0 0,zS none 0 0,zS none 0 0,zS none 0 0,zS none 0 0]
 refine aN func16 rfl (by kernel_rfl) (by show (1:Nat)<=25;decide) ?_;unfold aCq at hm
 refine aJ (eT (v:=zA #[zS a1 a.Definitions.length c2,zS a4 a.Components.length c5,zS a7 a.Meetings.length c8,zS a10 a.Allowed.length c11,zS a13 a.Hidden.length c14]) (vs:=l) hs rfl rfl (fun r d2 b6=>(eE (vs:=k) zeroValue44 b6 rfl (fun t d3 b7=>(aM (aJ (eE (vs:=k) zeroValue44 b7 rfl (fun u d4 a6=>(aM (aJ (aC (bH (t':=0) fa_31_0 rfl rfl) (aC (dD sc_27 a6 (i:=2) rfl rfl rfl) ?_))))))))))));obtain ⟨b,b8,hm⟩:=aB hm
 refine aT (vs:=[zS a1 a.Definitions.length c2]) call41 rfl (aAv b8 a6 h3) ?_
 rintro _ d5 ⟨c,d,j,rfl,d6,b9⟩
 refine aC (bH (t':=0) aGS rfl rfl) (fA (i:=2) (ns:=[zS c b.length d]) (us:=[zS c b.length d,zS none 0 0,zS none 0 0,zS none 0 0,zS none 0 0]) sizeOf40 b9 rfl rfl rfl rfl rfl (kJ rfl) rfl rfl (fun c0 (a8:aF G K (aV 131 K c d (cI j b)::rows [170,215,218] j b::box u 44 [zS c b.length d,zS none 0 0,zS none 0 0,zS none 0 0,zS none 0 0]::box t 44 k::box r 31 l::L) c0)=>(aM (aJ (aC (bH (t':=1) fa_31_1 rfl rfl) (aC (dD sc_28 a8 (i:=4) rfl rfl rfl) ?_))))))
 obtain ⟨e,c1,hm⟩:=aB hm
 refine aT (vs:=[zS a4 a.Components.length c5]) call42 rfl (aAU c1 a8 h6) ?_
 rintro _ d7 ⟨g,h,m,rfl,d8,c3⟩
 refine aC (bH (t':=1) aCT rfl rfl) (fA (i:=4) (ns:=[zS g e.length h]) (us:=[zS c b.length d,zS g e.length h,zS none 0 0,zS none 0 0,zS none 0 0]) sizeOf41 c3 rfl rfl rfl rfl rfl (kJ rfl) rfl rfl (fun c4 (a9:aF G K (aV 133 K g h (cI m e)::rows [2] m e::aV 131 K c d (cI j b)::rows [170,215,218] j b::box u 44 [zS c b.length d,zS g e.length h,zS none 0 0,zS none 0 0,zS none 0 0]::box t 44 k::box r 31 l::L) c4)=>(aM (aJ (aC (bH (t':=2) fa_31_2 rfl rfl) (aC (dD sc_29 a9 (i:=6) rfl rfl rfl) ?_))))))
 obtain ⟨n,c6,hm⟩:=aB hm
 refine aT (vs:=[zS a7 a.Meetings.length c8]) call43 rfl (aDp c6 a9 h9) ?_
 rintro _ d9 ⟨o,c48,rfl,c7⟩
 refine aC (bH (t':=2) aPf rfl rfl) (fA (i:=5) (ns:=[zS o n.length c48]) (us:=[zS c b.length d,zS g e.length h,zS o n.length c48,zS none 0 0,zS none 0 0]) sizeOf42 c7 rfl rfl rfl rfl rfl (kJ rfl) rfl rfl (fun c9 (b0:aF G K (aV 135 K o c48 n::aV 133 K g h (cI m e)::rows [2] m e::aV 131 K c d (cI j b)::rows [170,215,218] j b::box u 44 [zS c b.length d,zS g e.length h,zS o n.length c48,zS none 0 0,zS none 0 0]::box t 44 k::box r 31 l::L) c9)=>(aM (aJ (aC (bH (t':=3) fa_31_3 rfl rfl) (aC (dD aMi b0 (i:=7) rfl rfl rfl) ?_))))))
 obtain ⟨e0,d0,hm⟩:=aB hm
 exact aT (vs:=[zS a10 a.Allowed.length c11]) call38 rfl (aEl d0 b0 b5) aE
theorem aAb {a R:pL} (hm:aCr a=some R) (hs:aF G K (L) w) (h3:aW K a1 c2 a.S.L) (h6:aW K a4 c5 a.S.E) (h9:aW K a7 c8 a.Formula) (e0:aW K a10 c11 a.Source.Definitions) (e1:aW K a13 c14 a.Source.Components) (e2:aW K a16 c17 a.Source.Meetings) (e3:aW K a19 c20 a.Source.Allowed) (e4:aW K a22 c23 a.Source.Hidden):
  Calls prog 6 ([zA #[str a.Name,i64 a.Kind,i64 a.S.N,i64 a.S.I,zS a1 a.S.L.length c2,zS a4 a.S.E.length c5,zS a7 a.Formula.length c8,zS a10 a.Source.Definitions.length c11,zS a13 a.Source.Components.length c14,zS a16 a.Source.Meetings.length c17,zS a19 a.Source.Allowed.length c20,zS a22 a.Source.Hidden.length c23]]:List Value).toArray w (cL fun v w'=>∃ a8 a9 b0 b1 b2 b3 b4 b5 a5 b6 b7 a6 b8 b9 c0 c1 c3 c4,v=zA #[str R.Name,i64 R.Kind,i64 R.S.N,i64 R.S.I,zS a8 R.S.L.length a9,zS b0 R.S.E.length b1,zS b2 R.Formula.length b3,zS b4 R.Source.Definitions.length b5,zS b6 R.Source.Components.length b7,zS b8 R.Source.Meetings.length b9,zS c0 R.Source.Allowed.length c1,zS c3 R.Source.Hidden.length c4]/\List.length a5=List.length R.Source.Definitions/\List.length a6=List.length R.Source.Components/\aF G K (aV 9 K a8 a9 R.S.L::aV 114 K b0 b1 R.S.E::aV 83 K b2 b3 R.Formula::aV 131 K b4 b5 (cI a5 R.Source.Definitions)::rows [170,215,218] a5 R.Source.Definitions::aV 133 K b6 b7 (cI a6 R.Source.Components)::rows [2] a6 R.Source.Components::aV 135 K b8 b9 R.Source.Meetings::aV 9 K c0 c1 R.Source.Allowed::aV 9 K c3 c4 R.Source.Hidden::L) w'):=by
 let z:=[str a.Name,i64 a.Kind,i64 a.S.N,i64 a.S.I,zS a1 a.S.L.length c2,zS a4 a.S.E.length c5,zS a7 a.Formula.length c8,zS a10 a.Source.Definitions.length c11,zS a13 a.Source.Components.length c14,zS a16 a.Source.Meetings.length c17,zS a19 a.Source.Allowed.length c20,zS a22 a.Source.Hidden.length c23]
 let J:=[str ([]:aL),i64 0,i64 0,i64 0,zS none 0 0,zS none 0 0,zS none 0 0,zS none 0 0,zS none 0 0,zS none 0 0,zS none 0 0,zS none 0 0]
 let c6:=[str a.Name,i64 a.Kind,i64 0,i64 0,zS none 0 0,zS none 0 0,zS none 0 0,zS none 0 0,zS none 0 0,zS none 0 0,zS none 0 0,zS none 0 0]
 let c7:=[str a.Name,i64 0,i64 0,i64 0,zS none 0 0,zS none 0 0,zS none 0 0,zS none 0 0,zS none 0 0,zS none 0 0,zS none 0 0,zS none 0 0]
 refine aN func6 rfl (by kernel_rfl) (by show (1:Nat)<=23;decide) ?_;unfold aCr at hm
 refine aJ (eT (v:=zA #[str a.Name,i64 a.Kind,i64 a.S.N,i64 a.S.I,zS a1 a.S.L.length c2,zS a4 a.S.E.length c5,zS a7 a.Formula.length c8,zS a10 a.Source.Definitions.length c11,zS a13 a.Source.Components.length c14,zS a16 a.Source.Meetings.length c17,zS a19 a.Source.Allowed.length c20,zS a22 a.Source.Hidden.length c23]) (vs:=z) hs rfl rfl (fun V g2 e5=>(eE (vs:=J) zeroValue46 e5 rfl (fun Z g3 e6=>(aM (aJ (eE (vs:=J) zeroValue46 e6 rfl (fun a0 g4 c9=>(aM (aJ (aC (bH (t':=0) fa_33_0 rfl rfl) (aC (dD oK c9 (i:=2) rfl rfl rfl) (aC (bH (t':=0) aLU rfl rfl) (fA (i:=0) (ns:=[str a.Name]) (us:=c7) sizeOf9 c9 rfl rfl rfl rfl rfl (kJ rfl) rfl rfl (fun e7 (d0:aF G K (box a0 46 c7::box Z 46 J::box V 33 z::L) e7)=>(aM (aJ (aC (bH (t':=1) fa_33_1 rfl rfl) (aC (dD gJ d0 (i:=2) rfl rfl rfl) (aC (bH (t':=1) aJf rfl rfl) (fA (i:=0) (ns:=[i64 a.Kind]) (us:=c6) sizeOf2 d0 rfl rfl rfl rfl rfl (kJ rfl) rfl rfl (fun e8 (d1:aF G K (box a0 46 c6::box Z 46 J::box V 33 z::L) e8)=>(aM ?_)))))))))))))))))))))))
 refine aJ (aC (bH (t':=2) fa_33_2 rfl rfl) (aC (jL (us:=(zC a.S a1 c2 a4 c5)) ag_25 d1 (i:=2) rfl rfl rfl rfl) ?_));obtain ⟨b,e9,hm⟩:=aB hm
 refine aT (vs:=[zA (zCa a.S a1 c2 a4 c5)]) call14 rfl (aJR e9 d1 h3 h6) ?_
 rintro _ g5 ⟨d,e,g,h,rfl,f0⟩
 refine aC (bH (t':=2) aEF rfl rfl) (fA (i:=2) (ns:=(zC b d e g h)) (us:=[str a.Name,i64 a.Kind,i64 b.N,i64 b.I,zS d b.L.length e,zS g b.E.length h,zS none 0 0,zS none 0 0,zS none 0 0,zS none 0 0,zS none 0 0,zS none 0 0]) sizeOf38 f0 rfl rfl rfl rfl rfl (kJ rfl) rfl rfl (fun f1 (d2:aF G K (aV 9 K d e b.L::aV 114 K g h b.E::box a0 46 [str a.Name,i64 a.Kind,i64 b.N,i64 b.I,zS d b.L.length e,zS g b.E.length h,zS none 0 0,zS none 0 0,zS none 0 0,zS none 0 0,zS none 0 0,zS none 0 0]::box Z 46 J::box V 33 z::L) f1)=>(aM (aJ (aC (bH (t':=6) fa_33_3 rfl rfl) (aC (dD sc_26 d2 (i:=4) rfl rfl rfl) ?_))))))
 obtain ⟨l,f2,hm⟩:=aB hm
 refine aT (vs:=[zS a7 a.Formula.length c8]) call15 rfl (aGG f2 d2 h9) ?_
 rintro _ g6 ⟨j,k,rfl,f3⟩
 refine aC (bH (t':=6) aEG rfl rfl) (fA (i:=3) (ns:=[zS j l.length k]) (us:=[str a.Name,i64 a.Kind,i64 b.N,i64 b.I,zS d b.L.length e,zS g b.E.length h,zS j l.length k,zS none 0 0,zS none 0 0,zS none 0 0,zS none 0 0,zS none 0 0]) sizeOf39 f3 rfl rfl rfl rfl rfl (kJ rfl) rfl rfl (fun f4 (d3:aF G K (aV 83 K j k l::aV 9 K d e b.L::aV 114 K g h b.E::box a0 46 [str a.Name,i64 a.Kind,i64 b.N,i64 b.I,zS d b.L.length e,zS g b.E.length h,zS j l.length k,zS none 0 0,zS none 0 0,zS none 0 0,zS none 0 0,zS none 0 0]::box Z 46 J::box V 33 z::L) f4)=>(aM (aJ (aC (bH (t':=7) fa_33_4 rfl rfl) (aC (jL (us:=[zS a10 a.Source.Definitions.length c11,zS a13 a.Source.Components.length c14,zS a16 a.Source.Meetings.length c17,zS a19 a.Source.Allowed.length c20,zS a22 a.Source.Hidden.length c23]) ag_31 d3 (i:=5) rfl rfl rfl rfl) ?_))))))
 obtain ⟨c,f5,hm⟩:=aB hm
 refine aT (vs:=[zA #[zS a10 a.Source.Definitions.length c11,zS a13 a.Source.Components.length c14,zS a16 a.Source.Meetings.length c17,zS a19 a.Source.Allowed.length c20,zS a22 a.Source.Hidden.length c23]]) call16 rfl (aFM f5 d3 e0 e1 e2 e3 e4) ?_
 rintro _ g7 ⟨m,n,a2,o,p,a3,q,r,t,u,x,y,rfl,f6,f7,f8⟩
 refine aC (bH (t':=7) aCV rfl rfl) (fA (i:=10) (ns:=[zS m c.Definitions.length n,zS o c.Components.length p,zS q c.Meetings.length r,zS t c.Allowed.length u,zS x c.Hidden.length y]) (us:=[str a.Name,i64 a.Kind,i64 b.N,i64 b.I,zS d b.L.length e,zS g b.E.length h,zS j l.length k,zS m c.Definitions.length n,zS o c.Components.length p,zS q c.Meetings.length r,zS t c.Allowed.length u,zS x c.Hidden.length y]) sizeOf44 f8 rfl rfl rfl rfl rfl (kJ rfl) rfl rfl (fun f9 (d4:aF G K (aV 131 K m n (cI a2 c.Definitions)::rows [170,215,218] a2 c.Definitions::aV 133 K o p (cI a3 c.Components)::rows [2] a3 c.Components::aV 135 K q r c.Meetings::aV 9 K t u c.Allowed::aV 9 K x y c.Hidden::aV 83 K j k l::aV 9 K d e b.L::aV 114 K g h b.E::box a0 46 [str a.Name,i64 a.Kind,i64 b.N,i64 b.I,zS d b.L.length e,zS g b.E.length h,zS j l.length k,zS m c.Definitions.length n,zS o c.Components.length p,zS q c.Meetings.length r,zS t c.Allowed.length u,zS x c.Hidden.length y]::box Z 46 J::box V 33 z::L) f9)=>(aM (aJ (aC (jL (us:=[str a.Name,i64 a.Kind,i64 b.N,i64 b.I,zS d b.L.length e,zS g b.E.length h,zS j l.length k,zS m c.Definitions.length n,zS o c.Components.length p,zS q c.Meetings.length r,zS t c.Allowed.length u,zS x c.Hidden.length y]) aMr d4 (i:=10) rfl rfl rfl rfl) (fA (i:=11) (ns:=[str a.Name,i64 a.Kind,i64 b.N,i64 b.I,zS d b.L.length e,zS g b.E.length h,zS j l.length k,zS m c.Definitions.length n,zS o c.Components.length p,zS q c.Meetings.length r,zS t c.Allowed.length u,zS x c.Hidden.length y]) (us:=[str a.Name,i64 a.Kind,i64 b.N,i64 b.I,zS d b.L.length e,zS g b.E.length h,zS j l.length k,zS m c.Definitions.length n,zS o c.Components.length p,zS q c.Meetings.length r,zS t c.Allowed.length u,zS x c.Hidden.length y]) sizeOf46 d4 rfl rfl rfl rfl rfl (kJ rfl) rfl rfl (fun g0 (d5:aF G K (aV 131 K m n (cI a2 c.Definitions)::rows [170,215,218] a2 c.Definitions::aV 133 K o p (cI a3 c.Components)::rows [2] a3 c.Components::aV 135 K q r c.Meetings::aV 9 K t u c.Allowed::aV 9 K x y c.Hidden::aV 83 K j k l::aV 9 K d e b.L::aV 114 K g h b.E::box a0 46 [str a.Name,i64 a.Kind,i64 b.N,i64 b.I,zS d b.L.length e,zS g b.E.length h,zS j l.length k,zS m c.Definitions.length n,zS o c.Components.length p,zS q c.Meetings.length r,zS t c.Allowed.length u,zS x c.Hidden.length y]::box Z 46 [str a.Name,i64 a.Kind,i64 b.N,i64 b.I,zS d b.L.length e,zS g b.E.length h,zS j l.length k,zS m c.Definitions.length n,zS o c.Components.length p,zS q c.Meetings.length r,zS t c.Allowed.length u,zS x c.Hidden.length y]::box V 33 z::L) g0)=>(aM ?_))))))))
 obtain rfl:=zI hm
 exact aAP (retQ_m1 results6 (aPU (vs:=[str a.Name,i64 a.Kind,i64 b.N,i64 b.I,zS d b.L.length e,zS g b.E.length h,zS j l.length k,zS m c.Definitions.length n,zS o c.Components.length p,zS q c.Meetings.length r,zS t c.Allowed.length u,zS x c.Hidden.length y]) rfl aMr d5 (i:=11) rfl rfl rfl) ⟨d,e,g,h,j,k,m,n,a2,o,p,a3,q,r,t,u,x,y,rfl,f6,f7,(aF.arr 13 [8,9,7,0,1,2,3,4,5,6] d5 rfl)⟩)
theorem oD {b c:(List Edge)} {R:Bool} (hm:dZ b c=some R) (J:aF G K (L) w) (h:aW K a1 c2 b) (i:aW K a4 c5 c):
  Calls prog 83 ([zS a1 b.length c2,zS a4 c.length c5]:List Value).toArray w (cL fun v w'=>v=zB R/\aF G K (L) w'):=by
 refine aN func83 rfl (by kernel_rfl) (by show (2:Nat)<=26;decide) ?_;unfold dZ at hm
 refine aJ (aG (v:=zB false) (aM (aH (aJ (aO (v:=zS a1 b.length c2) (aC (aX (len:=b.length) uU rfl) (aO (v:=zS a4 c.length c5) (aC (aX (len:=c.length) uU rfl) (aC (sI rfl rfl) (aM ?_))))))))))
 rcases aI hm with ⟨j,hm⟩|⟨j,hm⟩
 ·exact aE
 ·refine aP j rfl (aU (aD (aH (aJ (aO (v:=zS a1 b.length c2) (aC (aX (len:=b.length) uU rfl) (aO (v:=i64 0) (aM (aQ [] (fun f w=>iT=some R/\aF G K (L) w) aE ?_)))))))));obtain ⟨V,o,ho⟩:=aB hm
  refine bW [0,1,12] o (fun d f w=>f 13=i64 d/\aF G K (L) w) aE ?_
  ·rintro d Z f a0 hm hr ⟨k,a⟩
   unfold iU at hm
   refine aJ (aC (eC k rfl) (aM (aH ?_)))
   rcases aI hm with ⟨l,hm⟩|⟨l,hm⟩
   ·refine aS l rfl (aU (aD (aH (bJ (aJ (bR k (aG (v:=i64 d) (aM (aH (fZ (C:=fun w'=>aF G K (L) w') Tryz_mixed (by kernel_rfl) (aF.mono a (eI.drew _)) (bE (fun _ a=>bC (v:=zS a1 b.length c2) rfl) (bE (fun _ a=>bC (v:=i64 d) rfl) ?_))))))))))));obtain ⟨e,m,hm⟩:=aB hm
    refine bE (fun _ a=>cR uU rfl h rfl rfl rfl m) ?_;obtain ⟨a2,p,q⟩:=aW.el (sz:=3) rfl h m
    cases q
    refine bE (fun _ a=>eD (t:=0) (vs:=[i64 e.F,i64 e.B,i64 e.To]) aKr a p rfl rfl rfl) (bE (fun _ a=>bC (v:=zS a4 c.length c5) rfl) (bE (fun _ a=>bC (v:=i64 d) rfl) ?_));obtain ⟨g,n,hm⟩:=aB hm
    refine bE (fun _ a=>cR uU rfl i rfl rfl rfl n) ?_;obtain ⟨a3,r,u⟩:=aW.el (sz:=3) rfl i n
    cases u
    refine bE (fun _ a=>eD (t:=0) (vs:=[i64 g.F,i64 g.B,i64 g.To]) aKr a r rfl rfl rfl) (bE (fun _ a=>R_neqG (eq_114 (x:=e) (y:=g)) rfl rfl) (uH (fun a5 a6=>(aD ?_))))
    rcases aI hm with ⟨z,hm⟩|⟨z,hm⟩
    ·exact aE
    ·exact aE
   ·exact aE
theorem sF {a b:(List aL)} {R:Bool} (hm:dG a b=some R) (g:aF G K (L) w) (h:aW K a1 c2 a) (i:aW K a4 c5 b):
  Calls prog 82 ([zS a1 a.length c2,zS a4 b.length c5]:List Value).toArray w (cL fun v w'=>v=zB R/\aF G K (L) w'):=by
 refine aN func82 rfl (by kernel_rfl) (by show (2:Nat)<=26;decide) ?_;unfold dG at hm
 refine aJ (aG (v:=zB false) (aM (aH (aJ (aO (v:=zS a1 a.length c2) (aC (aX (len:=a.length) cT rfl) (aO (v:=zS a4 b.length c5) (aC (aX (len:=b.length) cT rfl) (aC (sI rfl rfl) (aM ?_))))))))))
 rcases aI hm with ⟨c,hm⟩|⟨c,hm⟩
 ·exact aE
 ·refine aP c rfl (aU (aD (aH (aJ (aO (v:=zS a1 a.length c2) (aC (aX (len:=a.length) cT rfl) (aO (v:=i64 0) (aM (aQ [] (fun f w=>lE=some R/\aF G K (L) w) aE ?_)))))))));obtain ⟨j,d,ho⟩:=aB hm
  exact bW [0,1,12] d (fun e f w=>f 13=i64 e/\aF G K (L) w) aE aE
theorem aGI {a b:gM} {R:Bool} (hm:aEg a b=some R) (d:aF G K (L) w) (g:aW K a1 c2 a.L) (h:aW K a4 c5 a.E) (i:aW K a7 c8 b.L) (j:aW K a10 c11 b.E):
  Calls prog 45 ([zA (zCa a a1 c2 a4 c5),zA (zCa b a7 c8 a10 c11)]:List Value).toArray w (cL fun v w'=>v=zB R/\aF G K (L) w'):=by
 refine aN func45 rfl (by kernel_rfl) (by show (2:Nat)<=31;decide) ?_;unfold aEg at hm
 exact aJ (eT (v:=zA (zCa a a1 c2 a4 c5)) (vs:=(zC a a1 c2 a4 c5)) d rfl rfl (fun k l e=>(eT (v:=zA (zCa b a7 c8 a10 c11)) (vs:=(zC b a7 c8 a10 c11)) e rfl rfl (fun m n o=>(aG (v:=zB false) (aM (aH (aZ [] (fun f w=>∃ c,rT c=some R/\f 4=zB c/\aF G K (L) w) aE aE))))))))
theorem iJ {b c:(List aR)} {R:Bool} (hm:gB b c=some R) (J:aF G K (L) w) (h:aW K a1 c2 b) (i:aW K a4 c5 c):
  Calls prog 165 ([zS a1 b.length c2,zS a4 c.length c5]:List Value).toArray w (cL fun v w'=>v=zB R/\aF G K (L) w'):=by
 refine aN func165 rfl (by kernel_rfl) (by show (2:Nat)<=26;decide) ?_;unfold gB at hm
 refine aJ (aG (v:=zB false) (aM (aH (aJ (aO (v:=zS a1 b.length c2) (aC (aX (len:=b.length) nP rfl) (aO (v:=zS a4 c.length c5) (aC (aX (len:=c.length) nP rfl) (aC (sI rfl rfl) (aM ?_))))))))))
 rcases aI hm with ⟨j,hm⟩|⟨j,hm⟩
 ·exact aE
 ·refine aP j rfl (aU (aD (aH (aJ (aO (v:=zS a1 b.length c2) (aC (aX (len:=b.length) nP rfl) (aO (v:=i64 0) (aM (aQ [] (fun f w=>iV=some R/\aF G K (L) w) aE ?_)))))))));obtain ⟨V,o,ho⟩:=aB hm
  refine bW [0,1,12] o (fun d f w=>f 13=i64 d/\aF G K (L) w) aE ?_
  ·rintro d Z f a0 hm hr ⟨k,a⟩
   unfold iW at hm
   refine aJ (aC (eC k rfl) (aM (aH ?_)))
   rcases aI hm with ⟨l,hm⟩|⟨l,hm⟩
   ·refine aS l rfl (aU (aD (aH (bJ (aJ (bR k (aG (v:=i64 d) (aM (aH (fZ (C:=fun w'=>aF G K (L) w') Tryz_mixed (by kernel_rfl) (aF.mono a (eI.drew _)) (bE (fun _ a=>bC (v:=zS a1 b.length c2) rfl) (bE (fun _ a=>bC (v:=i64 d) rfl) ?_))))))))))));obtain ⟨e,m,hm⟩:=aB hm
    refine bE (fun _ a=>cR nP rfl h rfl rfl rfl m) ?_;obtain ⟨a2,p,q⟩:=aW.el (sz:=2) rfl h m
    cases q
    refine bE (fun _ a=>eD (t:=0) (vs:=[i64 e.Kind,i64 e.Value]) aIm a p rfl rfl rfl) (bE (fun _ a=>bC (v:=zS a4 c.length c5) rfl) (bE (fun _ a=>bC (v:=i64 d) rfl) ?_));obtain ⟨g,n,hm⟩:=aB hm
    refine bE (fun _ a=>cR nP rfl i rfl rfl rfl n) ?_;obtain ⟨a3,r,u⟩:=aW.el (sz:=2) rfl i n
    cases u
    refine bE (fun _ a=>eD (t:=0) (vs:=[i64 g.Kind,i64 g.Value]) aIm a r rfl rfl rfl) (bE (fun _ a=>R_neqG (eq_218 (x:=e) (y:=g)) rfl rfl) (uH (fun a5 a6=>(aD ?_))))
    rcases aI hm with ⟨z,hm⟩|⟨z,hm⟩
    ·exact aE
    ·exact aE
   ·exact aE
theorem fR {a b:(List (List aR))} {R:Bool} (hm:cJ a b=some R) (hs:aF G K (L) w) (m:aW K a1 c2 a) (n:aW K a4 c5 b):
  Calls prog 164 ([zS a1 a.length c2,zS a4 b.length c5,Value.func (.func 165) #[] #[]]:List Value).toArray w (cL fun v w'=>v=zB R/\aF G K (L) w'):=by
 refine aN func164 rfl (by kernel_rfl) (by show (3:Nat)<=32;decide) ?_;unfold cJ at hm
 refine aJ (aG (v:=zB false) (aM (aH (aJ (aO (v:=zS a1 a.length c2) (aC (aX (len:=a.length) mP rfl) (aO (v:=zS a4 b.length c5) (aC (aX (len:=b.length) mP rfl) (aC (sI rfl rfl) (aM ?_))))))))))
 rcases aI hm with ⟨o,hm⟩|⟨o,hm⟩
 ·exact aE
 ·refine aP o rfl (aU (aD (aH (aJ (aO (v:=zS a1 a.length c2) (aC (aX (len:=a.length) mP rfl) (aO (v:=i64 0) (aM (aQ [] (fun f w=>dS=some R/\aF G K (L) w) aE ?_)))))))));obtain ⟨a3,u,ho⟩:=aB hm
  refine bW [1,2,15,16] u (fun c f w=>f 17=i64 c/\aF G K (L) w) aE ?_
  ·rintro c a5 f a6 hm hr ⟨k,l⟩
   unfold dU at hm
   refine aJ (aC (eC k rfl) (aM (aH ?_)))
   rcases aI hm with ⟨p,hm⟩|⟨p,hm⟩
   ·refine aS p rfl (aU (aD (aH (bJ (aJ (bR k ?_))))));obtain ⟨d,q,hm⟩:=aB hm
    refine aC (cR mP rfl m rfl rfl k q) ?_;obtain ⟨a7,x,y⟩:=aW.el (sz:=1) rfl m q
    obtain ⟨e,g,rfl,z⟩:=y
    refine aC (bZ (t:=0) aIl l x rfl rfl) (aG (v:=i64 c) (aG (v:=zS e d.length g) (aM (aJ (aO (v:=zS a4 b.length c5) (aO (v:=i64 c) ?_))))));obtain ⟨h,r,hm⟩:=aB hm
    refine aC (cR mP rfl n rfl rfl rfl r) ?_;obtain ⟨a8,J,V⟩:=aW.el (sz:=1) rfl n r
    obtain ⟨i,j,rfl,Z⟩:=V
    refine aC (bZ (t:=0) aIl l J rfl rfl) (aG (v:=zS i h.length j) (aM (aJ (aO (v:=Value.func (.func 165) #[] #[]) (aO (v:=zS e d.length g) (aO (v:=zS i h.length j) ?_))))));obtain ⟨a9,a0,hm⟩:=aB hm
    exact eM (vs:=[zS e d.length g,zS i h.length j]) (caps:=[]) (us:=[zS e d.length g,zS i h.length j]) rfl call165 rfl rfl (iJ a0 l z Z) aE
   ·exact aE
theorem aFN {a b:bG} {R:Bool} (hm:aIr a b=some R) (d:aF G K (L) w) (g:aW K a1 c2 a.Arguments) (h:aW K a4 c5 b.Arguments):
  Calls prog 126 ([zA #[i64 a.Kind,i64 a.Number,str a.Name,zS a1 a.Arguments.length c2],zA #[i64 b.Kind,i64 b.Number,str b.Name,zS a4 b.Arguments.length c5]]:List Value).toArray w (cL fun v w'=>v=zB R/\aF G K (L) w'):=by
 refine aN func126 rfl (by kernel_rfl) (by show (2:Nat)<=31;decide) ?_;unfold aIr at hm
 exact aJ (eT (v:=zA #[i64 a.Kind,i64 a.Number,str a.Name,zS a1 a.Arguments.length c2]) (vs:=[i64 a.Kind,i64 a.Number,str a.Name,zS a1 a.Arguments.length c2]) d rfl rfl (fun i j e=>(eT (v:=zA #[i64 b.Kind,i64 b.Number,str b.Name,zS a4 b.Arguments.length c5]) (vs:=[i64 b.Kind,i64 b.Number,str b.Name,zS a4 b.Arguments.length c5]) e rfl rfl (fun k l m=>(aG (v:=zB false) (aM (aH (aZ [] (fun f w=>∃ c,tF c=some R/\f 4=zB c/\aF G K (L) w) aE aE))))))))
theorem gS {e h:(List bG)} {R:Bool} (hm:dC e h=some R) (hs:aF G K (L) w) (m:aW K a1 c2 e) (n:aW K a4 c5 h):
  Calls prog 125 ([zS a1 e.length c2,zS a4 h.length c5,Value.func (.func 126) #[] #[]]:List Value).toArray w (cL fun v w'=>v=zB R/\aF G K (L) w'):=by
 refine aN func125 rfl (by kernel_rfl) (by show (3:Nat)<=32;decide) ?_;unfold dC at hm
 refine aJ (aG (v:=zB false) (aM (aH (aJ (aO (v:=zS a1 e.length c2) (aC (aX (len:=e.length) lK rfl) (aO (v:=zS a4 h.length c5) (aC (aX (len:=h.length) lK rfl) (aC (sI rfl rfl) (aM ?_))))))))))
 rcases aI hm with ⟨o,hm⟩|⟨o,hm⟩
 ·exact aE
 ·refine aP o rfl (aU (aD (aH (aJ (aO (v:=zS a1 e.length c2) (aC (aX (len:=e.length) lK rfl) (aO (v:=i64 0) (aM (aQ [] (fun f w=>eP=some R/\aF G K (L) w) aE ?_)))))))));obtain ⟨b2,z,ho⟩:=aB hm
  refine bW [1,2,15,16] z (fun j f w=>f 17=i64 j/\aF G K (L) w) aE ?_
  ·rintro j b3 f b4 hm hr ⟨k,p⟩
   unfold eQ at hm
   refine aJ (aC (eC k rfl) (aM (aH ?_)))
   rcases aI hm with ⟨q,hm⟩|⟨q,hm⟩
   ·refine aS q rfl (aU (aD (aH (bJ (aJ (bR k ?_))))));obtain ⟨a,r,hm⟩:=aB hm
    refine aC (cR lK rfl m rfl rfl k r) ?_;obtain ⟨b5,J,V⟩:=aW.el (sz:=4) rfl m r
    obtain ⟨c,d,rfl,Z⟩:=V
    refine aC (eD (t:=0) (vs:=[i64 a.Kind,i64 a.Number,str a.Name,zS c a.Arguments.length d]) yA p J rfl rfl rfl) (eE (vs:=[i64 0,i64 0,str ([]:aL),zS none 0 0]) zeroValue170 p rfl (fun u b6 a0=>(aG (v:=i64 j) (fA (i:=0) (ns:=[i64 a.Kind,i64 a.Number,str a.Name,zS c a.Arguments.length d]) (us:=[i64 a.Kind,i64 a.Number,str a.Name,zS c a.Arguments.length d]) sizeOf170 a0 rfl rfl rfl rfl rfl (kJ rfl) rfl rfl (fun a2 (x:aF G K (box u 170 [i64 a.Kind,i64 a.Number,str a.Name,zS c a.Arguments.length d]::L) a2)=>(aM (aJ (aO (v:=zS a4 h.length c5) (aO (v:=i64 j) ?_)))))))))
    obtain ⟨b,y,hm⟩:=aB hm
    refine aC (cR lK rfl n rfl rfl rfl y) ?_;obtain ⟨b7,a3,a5⟩:=aW.el (sz:=4) rfl n y
    obtain ⟨g,c48,rfl,a6⟩:=a5
    refine aC (eD (t:=0) (vs:=[i64 b.Kind,i64 b.Number,str b.Name,zS g b.Arguments.length c48]) yA x a3 rfl rfl rfl) (eE (vs:=[i64 0,i64 0,str ([]:aL),zS none 0 0]) zeroValue170 x rfl (fun a7 b8 a8=>(fA (i:=0) (ns:=[i64 b.Kind,i64 b.Number,str b.Name,zS g b.Arguments.length c48]) (us:=[i64 b.Kind,i64 b.Number,str b.Name,zS g b.Arguments.length c48]) sizeOf170 a8 rfl rfl rfl rfl rfl (kJ rfl) rfl rfl (fun a9 (l:aF G K (box a7 170 [i64 b.Kind,i64 b.Number,str b.Name,zS g b.Arguments.length c48]::box u 170 [i64 a.Kind,i64 a.Number,str a.Name,zS c a.Arguments.length d]::L) a9)=>(aM (aJ (aO (v:=Value.func (.func 126) #[] #[]) (aC (jL (us:=[i64 a.Kind,i64 a.Number,str a.Name,zS c a.Arguments.length d]) yA l (i:=1) rfl rfl rfl rfl) (aC (jL (us:=[i64 b.Kind,i64 b.Number,str b.Name,zS g b.Arguments.length c48]) yA l (i:=0) rfl rfl rfl rfl) ?_)))))))))
    obtain ⟨b9,b0,hm⟩:=aB hm
    exact eM (vs:=[zA #[i64 a.Kind,i64 a.Number,str a.Name,zS c a.Arguments.length d],zA #[i64 b.Kind,i64 b.Number,str b.Name,zS g b.Arguments.length c48]]) (caps:=[]) (us:=[zA #[i64 a.Kind,i64 a.Number,str a.Name,zS c a.Arguments.length d],zA #[i64 b.Kind,i64 b.Number,str b.Name,zS g b.Arguments.length c48]]) rfl call126 rfl rfl (aFN b0 l Z a6) aE
   ·exact aE
theorem xP {a b:Definition} {R:Bool} (hm:yO a b=some R) (d:aF G K (L) w) (g:aW K a1 c2 a.Body) (h:aW K a4 c5 b.Body):
  Calls prog 85 ([zA #[str a.Name,i64 a.Parameters,zS a1 a.Body.length c2],zA #[str b.Name,i64 b.Parameters,zS a4 b.Body.length c5]]:List Value).toArray w (cL fun v w'=>v=zB R/\aF G K (L) w'):=by
 refine aN func85 rfl (by kernel_rfl) (by show (2:Nat)<=24;decide) ?_;unfold yO at hm
 exact aJ (eT (v:=zA #[str a.Name,i64 a.Parameters,zS a1 a.Body.length c2]) (vs:=[str a.Name,i64 a.Parameters,zS a1 a.Body.length c2]) d rfl rfl (fun i j e=>(eT (v:=zA #[str b.Name,i64 b.Parameters,zS a4 b.Body.length c5]) (vs:=[str b.Name,i64 b.Parameters,zS a4 b.Body.length c5]) e rfl rfl (fun k l m=>(aG (v:=zB false) (aM (aH (aZ [] (fun f w=>∃ c,mI c=some R/\f 4=zB c/\aF G K (L) w) aE aE))))))))
end Gv
