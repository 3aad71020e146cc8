/- Walks, printed by program. -/
import Derived.Test.YtohbafhnoifmoaaGreatDoorMJWk3
import Derived.Test.YtohbafhnoifmoaaGreatDoorMJWk5
import Derived.Test.YtohbafhnoifmoaaGreatDoorMJT
import Derived.Test.YtohbafhnoifmoaaGreatDoorMJWk1
set_option linter.all false
namespace Gv
open Go.Value renaming slice→zS,pointer→zP,agg→zA
open Option.some renaming inj→zI
open Gv.Hp renaming le_trans→zL,le_refl→zR
open Go Go.Proofs Go.Proofs.Tryz
set_option maxRecDepth 20000
set_option maxHeartbeats 40000000
variable {G:uA} {K:Hp} {L:List iU} {w:World} {b1 c3 c6 c2:Nat} {a2 a5 a1:Option Addr}
theorem yD {b:(List UInt8)} {c d:Int} {R:(Int × Int × Int)} (l:aH G K (box b1 78 [zS a2 b.length c3,i64 c,Value.int .u64 d]::L) w) (m:cR K a2 c3 b) (a:tE b c d=some R):
  Calls Tryz.prog 44 ([zP (some ⟨b1,0,none⟩)]:List Value).toArray w (eN fun v w'=>v=i64 R.1/\aH G K (box b1 78 [zS a2 b.length c3,i64 R.2.1,Value.int .u64 R.2.2]::L) w'):=by
 let g:=[zS a2 b.length c3,i64 c,Value.int .u64 d]
 let j:=[zS a2 b.length c3,i64 (wr (c+1)),Value.int .u64 d]
 refine zH func44 ?_;unfold tE at a
 iterate 10 refine aIQ ?_
 refine jR (fun f w=>∃ e,mT b c d e=some R/\f 0=zP (some ⟨b1,0,none⟩)/\f 3=i64 e/\aH G K (box b1 78 g::L) w) ?_ ?_
 ·rintro f w8 ⟨e,a,e6,e7,n⟩
  unfold mT at a
  refine yW ?_;refine bS (i:=0) (ns:=[i64 (wr (c+1))]) (us:=j) sizeOf3 n rfl rfl rfl rfl rfl (cS rfl) rfl rfl (fun o (p:aH G K (box b1 78 j::L) o)=>(yW ?_))
  refine aC (R_u64mul rfl rfl) (yW ?_);refine aC (R_convu64 runUnderlying76 rfl ⟨_,runUnderlying3⟩) (aC (aHv rfl rfl) (aC (aHv rfl rfl) (yW ?_)))
  refine bS (i:=0) (ns:=[Value.int .u64 (lE ((lE ((lE (d * 6364136223846793005))+(lE e)))+1442695040888963407))]) (us:=[zS a2 b.length c3,i64 (wr (c+1)),Value.int .u64 (lE ((lE ((lE (d * 6364136223846793005))+(lE e)))+1442695040888963407))]) sizeOf76 p rfl rfl rfl rfl rfl (cS rfl) rfl rfl ?_
  intro q (r:aH G K (box b1 78 [zS a2 b.length c3,i64 (wr (c+1)),Value.int .u64 (lE ((lE ((lE (d * 6364136223846793005))+(lE e)))+1442695040888963407))]::L) q)
  refine yW ?_;refine dF (C:=fun w'=>aH G K (box b1 78 [zS a2 b.length c3,i64 (wr (c+1)),Value.int .u64 (lE ((lE ((lE (d * 6364136223846793005))+(lE e)))+1442695040888963407))]::L) w') bV (by kernel_rfl) (aH.mono r (dG.drew _)) (yW ?_)
  refine dI (fun a5 k=>(yW ?_))
  rcases aG a with ⟨t,a⟩|⟨t,a⟩
  ·refine yW ?_;obtain rfl:=zI a
   exact bK (aW (bM results44 rfl ⟨rfl,k⟩))
  ·refine yW ?_;obtain ⟨a6,x,a⟩:=aB a
   refine aC (R_shrU rfl rfl x) (aC (R_andU rfl rfl) (aC (aEc runUnderlying2 rfl ⟨_,runUnderlying76⟩) (yW ?_)));obtain rfl:=zI a
   exact aIK results44 ⟨rfl,k⟩
 refine yW ?_;refine dF (C:=fun w'=>aH G K (box b1 78 g::L) w') bV (by kernel_rfl) (aH.mono l (dG.drew _)) (yW ?_)
 refine dI (fun a7 h=>(yW ?_))
 rcases aG a with ⟨z,a⟩|⟨z,a⟩
 ·refine yW ?_;refine dF (C:=fun w'=>aH G K (box b1 78 g::L) w') bV (by kernel_rfl) (aH.mono h (dG.drew _)) (yW ?_)
  obtain ⟨J,V,a⟩:=aB a
  refine yW ?_;obtain ⟨a8,a9,Z⟩:=cR.el (sz:=1) rfl m V
  cases Z
  refine yW ?_;refine aU (fun _ h=>aEc runUnderlying3 rfl ⟨_,runUnderlying5⟩) (yW ?_)
  refine dI (fun b0 a0=>(yW ?_));exact ⟨wr (J.toNat:Int),a,rfl,rfl,a0⟩
 ·refine yW ?_;exact ⟨0,a,rfl,rfl,h⟩
theorem cX {b:(List UInt8)} {i j n:Int} {R:(Int × Int × Int)} (k:aH G K (box b1 78 [zS a2 b.length c3,i64 i,Value.int .u64 j]::L) w) (l:cR K a2 c3 b) (a:dJ b i j n=some R):
  Calls Tryz.prog 19 ([zP (some ⟨b1,0,none⟩),i64 n]:List Value).toArray w (eN fun v w'=>v=i64 R.1/\aH G K (box b1 78 [zS a2 b.length c3,i64 R.2.1,Value.int .u64 R.2.2]::L) w'):=by
 refine zH func19 ?_;unfold dJ at a
 refine yW ?_
 rcases aG a with ⟨o,a⟩|⟨o,a⟩
 ·refine yW ?_;obtain rfl:=zI a
  exact bK (aW (bM results19 rfl ⟨rfl,k⟩))
 ·refine yW ?_;obtain ⟨c,q,a⟩:=aB a
  refine zF call44 (yD k l q) ?_
  rintro _ J ⟨rfl,m⟩
  iterate 3 refine aIQ ?_
  refine jR (fun f w=>∃ d e g,mU n d e g=some R/\f 1=i64 n/\f 5=i64 d/\aH G K (box b1 78 [zS a2 b.length c3,i64 e,Value.int .u64 g]::L) w) ?_ ?_
  ·rintro f V ⟨d,e,g,a,Z,a0,r⟩
   unfold mU at a
   refine yW ?_;obtain ⟨a1,t,a⟩:=aB a
   refine aC (R_rem rfl rfl t) (yW ?_);obtain rfl:=zI a
   exact aIK results19 ⟨rfl,r⟩
  refine yW ?_
  rcases aG a with ⟨x,a⟩|⟨x,a⟩
  ·refine yW ?_;obtain ⟨h,y,a⟩:=aB a
   refine zF call44 (yD m l y) ?_
   rintro _ a3 ⟨rfl,z⟩
   refine yW ?_;exact ⟨wr ((wr (c.1 * 256))+h.1),h.2.1,h.2.2,a,rfl,rfl,z⟩
  ·refine yW ?_;exact ⟨c.1,c.2.1,c.2.2,a,rfl,rfl,m⟩
theorem rA {a:(List UInt8)} {c d n:Int} {R:(Bool × Int × Int)} (e:aH G K (box b1 78 [zS a2 a.length c3,i64 c,Value.int .u64 d]::L) w) (g:cR K a2 c3 a) (b:pX a c d n=some R):
  Calls Tryz.prog 42 ([zP (some ⟨b1,0,none⟩),i64 n]:List Value).toArray w (eN fun v w'=>v=Value.bool R.1/\aH G K (box b1 78 [zS a2 a.length c3,i64 R.2.1,Value.int .u64 R.2.2]::L) w'):=by
 refine zH func42 ?_;unfold pX at b
 refine yW ?_;obtain ⟨k,h,b⟩:=aB b
 refine zF call19 (cX e g h) ?_
 rintro _ l ⟨rfl,i⟩
 refine yW ?_;obtain rfl:=zI b
 exact aIK results42 ⟨rfl,i⟩
theorem aDk {c:(List UInt8)} {a6 a7:Int} {R:((List bD) × Int × Int)} (hs:aH G K (box b1 78 [zS a2 c.length c3,i64 a6,Value.int .u64 a7]::L) w) (h4:cR K a2 c3 c) (b:xM c a6 a7=some R):
  Calls Tryz.prog 78 ([zP (some ⟨b1,0,none⟩)]:List Value).toArray w (eN fun v w'=>∃ b5 b6,v=zS b5 R.1.length b6/\aH G K (aJ 9 K b5 b6 R.1::box b1 78 [zS a2 c.length c3,i64 R.2.1,Value.int .u64 R.2.2]::L) w'):=by
 let b7:=box b1 78 [zS a2 c.length c3,i64 a6,Value.int .u64 a7]
 refine zH func78 ?_;unfold xM at b
 refine yW ?_;refine bZ (Kt:=K) (xs:=([([116,97,117]:bD)]:List bD)) (cs:=[str ([116,97,117]:bD)]) (vs:=[(0,str ([116,97,117]:bD))]) cF fL rfl rfl hs rfl (by kernel_rfl) rfl rfl rfl ⟨rfl,trivial⟩ (fun a5 w6 (d8:aH G K (aJ 9 K a5 1 ([([116,97,117]:bD)]:List bD)::b7::L) w6)=>(yW ?_))
 refine bZ (Kt:=K) (xs:=([([97]:bD),([98]:bD),([99]:bD),([103,101,116,40,48,41]:bD),([103,101,116,40,49,41]:bD)]:List bD)) (cs:=[str ([97]:bD),str ([98]:bD),str ([99]:bD),str ([103,101,116,40,48,41]:bD),str ([103,101,116,40,49,41]:bD)]) (vs:=[(0,str ([97]:bD)),(1,str ([98]:bD)),(2,str ([99]:bD)),(3,str ([103,101,116,40,48,41]:bD)),(4,str ([103,101,116,40,49,41]:bD))]) cF fL rfl rfl d8 rfl (by kernel_rfl) rfl rfl rfl ⟨rfl,rfl,rfl,rfl,rfl,trivial⟩ (fun e w9 (e0:aH G K (aJ 9 K e 5 ([([97]:bD),([98]:bD),([99]:bD),([103,101,116,40,48,41]:bD),([103,101,116,40,49,41]:bD)]:List bD)::aJ 9 K a5 1 ([([116,97,117]:bD)]:List bD)::b7::L) w9)=>(yW ?_))
 refine aZ (fun f w=>∃ p l m t u,lA p l m=some R/\f 3=zS t p.length u/\aH G K (aJ 9 K t u p::box b1 78 [zS a2 c.length c3,i64 l,Value.int .u64 m]::L) w) ?_ ?_
 ·rintro f h2 ⟨p,l,m,t,u,b,e1,b8⟩
  unfold lA at b
  iterate 1 refine aIQ ?_
  refine jR (fun f w=>∃ y z J,kZ l m y=some R/\f 3=zS z y.length J/\aH G K (aJ 9 K z J y::box b1 78 [zS a2 c.length c3,i64 l,Value.int .u64 m]::L) w) ?_ ?_
  ·rintro f h3 ⟨y,z,J,b,h5,e2⟩
   unfold kZ at b
   refine yW ?_;obtain rfl:=zI b
   exact aIK results78 ⟨z,J,rfl,e2⟩
  refine yW ?_
  rcases aG b with ⟨e4,b⟩|⟨e4,b⟩
  ·refine yW ?_;refine bZ (Kt:=K) (xs:=([([97]:bD)]:List bD)) (cs:=[str ([97]:bD)]) (vs:=[(0,str ([97]:bD))]) cF fL rfl rfl b8 rfl (by kernel_rfl) rfl rfl rfl ⟨rfl,trivial⟩ (fun e5 e6 (e7:aH G K (aJ 9 K e5 1 ([([97]:bD)]:List bD)::aJ 9 K t u p::box b1 78 [zS a2 c.length c3,i64 l,Value.int .u64 m]::L) e6)=>?_)
   obtain ⟨b9,e8,b⟩:=aB b
   refine dA (i:=0) cF underlying24 fL rfl rfl e7 rfl (zR _) (zR _) e8 rfl rfl rfl rfl (fun _ h=>h) (fun c0 c1 e9 (f0:aH G K (aJ 9 K c0 c1 b9::box b1 78 [zS a2 c.length c3,i64 l,Value.int .u64 m]::L) e9)=>(yW ?_));exact ⟨b9,c0,c1,b,rfl,f0⟩
  ·refine yW ?_;exact ⟨p,t,u,b,e1,b8⟩
 obtain ⟨h6,f1,b⟩:=aB b
 refine cE f1 (fun s f w=>match s with|(q,r,d,k)=>∃ g j,f 0=zP (some ⟨b1,0,none⟩)/\f 3=zS g d.length j/\f 4=zS e ([([97]:bD),([98]:bD),([99]:bD),([103,101,116,40,48,41]:bD),([103,101,116,40,49,41]:bD)]:List bD).length 5/\f 5=i64 k/\aH G K (aJ 9 K e 5 ([([97]:bD),([98]:bD),([99]:bD),([103,101,116,40,48,41]:bD),([103,101,116,40,49,41]:bD)]:List bD)::aJ 9 K g j d::box b1 78 [zS a2 c.length c3,i64 q,Value.int .u64 r]::L) w) ?_ ?_
 ·exact ⟨a5,1,rfl,rfl,rfl,rfl,e0⟩
 ·rintro ⟨q,r,d,k⟩ b0 f f2 a f3 ⟨g,j,c2,b2,c4,c5,c6⟩
  replace a:pY c q r d k=some b0:=a
  unfold pY at a
  refine yW ?_
  rcases aG a with ⟨f4,a⟩|⟨f4,a⟩
  ·refine yW ?_;refine aZ (fun f w=>∃ V Z x a0 a1,lB k V Z x=some b0/\f 0=zP (some ⟨b1,0,none⟩)/\f 3=zS a0 x.length a1/\f 4=zS e ([([97]:bD),([98]:bD),([99]:bD),([103,101,116,40,48,41]:bD),([103,101,116,40,49,41]:bD)]:List bD).length 5/\f 5=i64 k/\aH G K (aJ 9 K a0 a1 x::aJ 9 K e 5 ([([97]:bD),([98]:bD),([99]:bD),([103,101,116,40,48,41]:bD),([103,101,116,40,49,41]:bD)]:List bD)::box b1 78 [zS a2 c.length c3,i64 V,Value.int .u64 Z]::L) w) ?_ ?_
   ·rintro f h7 ⟨V,Z,x,a0,a1,a,f5,f6,f7,h8,f8⟩
    unfold lB at a
    refine yW ?_;exact ⟨(V,Z,x,wr (k+1)),(zI a).symm,a0,a1,f5,f6,f7,rfl,(aH.arr 2 [1,0] f8 rfl)⟩
   iterate 1 refine aIQ ?_
   refine cQ (fun f w=>∃ n o b3,lC d k n o b3=some b0/\f 0=zP (some ⟨b1,0,none⟩)/\f 3=zS g d.length j/\f 4=zS e ([([97]:bD),([98]:bD),([99]:bD),([103,101,116,40,48,41]:bD),([103,101,116,40,49,41]:bD)]:List bD).length 5/\f 5=i64 k/\f 20=Value.bool b3/\aH G K (aJ 9 K e 5 ([([97]:bD),([98]:bD),([99]:bD),([103,101,116,40,48,41]:bD),([103,101,116,40,49,41]:bD)]:List bD)::aJ 9 K g j d::box b1 78 [zS a2 c.length c3,i64 n,Value.int .u64 o]::L) w) ?_ ?_
   ·rintro f h9 ⟨n,o,b3,a,c7,f9,c8,c9,i0,b4⟩
    unfold lC at a
    refine yW ?_
    rcases aG a with ⟨g0,a⟩|⟨g0,a⟩
    ·refine yW ?_;obtain ⟨a3,d0,a⟩:=aB a
     have g1:=cU b4 (i:=0) rfl d0
     refine aC (dB cF rfl g1 rfl rfl rfl d0) (yW ?_);refine bZ (Kt:=K) (xs:=([a3]:List bD)) (cs:=[str a3]) (vs:=[(0,str a3)]) cF fL rfl rfl b4 rfl (by kernel_rfl) rfl rfl rfl ⟨rfl,trivial⟩ (fun g2 g3 (g4:aH G K (aJ 9 K g2 1 ([a3]:List bD)::aJ 9 K e 5 ([([97]:bD),([98]:bD),([99]:bD),([103,101,116,40,48,41]:bD),([103,101,116,40,49,41]:bD)]:List bD)::aJ 9 K g j d::box b1 78 [zS a2 c.length c3,i64 n,Value.int .u64 o]::L) g3)=>?_)
     obtain ⟨d1,g5,a⟩:=aB a
     refine dA (i:=1) cF underlying24 fL rfl rfl g4 rfl (zR _) (zR _) g5 rfl rfl rfl rfl (fun _ h=>h) (fun d2 d3 g6 (g7:aH G K (aJ 9 K e 5 ([([97]:bD),([98]:bD),([99]:bD),([103,101,116,40,48,41]:bD),([103,101,116,40,49,41]:bD)]:List bD)::aJ 9 K d2 d3 d1::box b1 78 [zS a2 c.length c3,i64 n,Value.int .u64 o]::L) g6)=>(yW ?_));exact ⟨n,o,d1,d2,d3,a,c7,rfl,c8,c9,(aH.arr 2 [1,0] g7 rfl)⟩
    ·refine yW ?_;exact ⟨n,o,d,g,j,a,c7,f9,c8,c9,(aH.arr 2 [1,0] b4 rfl)⟩
   refine yW ?_
   have g8:aH G K (box b1 78 [zS a2 c.length c3,i64 q,Value.int .u64 r]::aJ 9 K e 5 ([([97]:bD),([98]:bD),([99]:bD),([103,101,116,40,48,41]:bD),([103,101,116,40,49,41]:bD)]:List bD)::aJ 9 K g j d::L) f2:=(aH.arr 3 [2,0,1] c6 rfl)
   obtain ⟨a4,g9,a⟩:=aB a
   refine zF call42 (rA g8 h4 g9) ?_
   rintro _ i1 ⟨rfl,d4⟩
   refine yW ?_
   rcases aG a with ⟨h0,a⟩|⟨h0,a⟩
   ·refine yW ?_;exact ⟨a4.2.1,a4.2.2,decide ((d.length:Int) < 4),a,c2,b2,c4,c5,rfl,(aH.arr 3 [1,2,0] d4 rfl)⟩
   ·refine yW ?_;exact ⟨a4.2.1,a4.2.2,false,a,c2,b2,c4,c5,rfl,(aH.arr 3 [1,2,0] d4 rfl)⟩
  ·refine yW ?_
   have h1:=f3 _ (zI a).symm
   subst h1
   have b:(lA d q r)=some R:=b
   refine yW ?_;exact ⟨d,q,r,g,j,b,b2,(aH.arr 1 [] c6 rfl)⟩
theorem aDl {b:(List UInt8)} {d e:Int} {c:(List Int)} {R:(Int × Int × Int)} (g:aH G K (box b1 78 [zS a2 b.length c3,i64 d,Value.int .u64 e]::L) w) (h:cR K a2 c3 b) (i:cR K a5 c6 c) (a:xN b d e c=some R):
  Calls Tryz.prog 79 ([zP (some ⟨b1,0,none⟩),zS a5 c.length c6]:List Value).toArray w (eN fun v w'=>v=i64 R.1/\aH G K (box b1 78 [zS a2 b.length c3,i64 R.2.1,Value.int .u64 R.2.2]::L) w'):=by
 refine zH func79 ?_;unfold xN at a
 refine yW ?_;obtain ⟨o,j,a⟩:=aB a
 refine zF call19 (cX g h j) ?_
 rintro _ p ⟨rfl,k⟩
 obtain ⟨q,l,a⟩:=aB a
 refine yW ?_;obtain ⟨r,t,m⟩:=cR.el (sz:=1) rfl i l
 cases m
 refine yW ?_;obtain rfl:=zI a
 exact aIK results79 ⟨rfl,k⟩
theorem aEW {b:(List UInt8)} {h5 h6:Int} {R:(cO × Int × Int)} (hs:aH G K (box b1 78 [zS a2 b.length c3,i64 h5,Value.int .u64 h6]::L) w) (V:cR K a2 c3 b) (c:aCz b h5 h6=some R):
  Calls Tryz.prog 41 ([zP (some ⟨b1,0,none⟩)]:List Value).toArray w (eN fun v w'=>∃ k5 k6 k7 k8,v=zA (zCa R.1 k5 k6 k7 k8)/\aH G K (aJ 9 K k5 k6 R.1.L::aJ 69 K k7 k8 R.1.E::box b1 78 [zS a2 b.length c3,i64 R.2.1,Value.int .u64 R.2.2]::L) w'):=by
 let k:=zG
 refine zH func41 ?_;unfold aCz at c
 refine yW ?_;refine bR (vs:=k) zeroValue27 hs rfl (fun d w6 p5=>(yW ?_))
 have p6:aH G K (box b1 78 [zS a2 b.length c3,i64 h5,Value.int .u64 h6]::box d 27 k::L) w6:=(aH.arr 2 [1,0] p5 rfl)
 obtain ⟨j,p7,c⟩:=aB c
 refine zF call19 (cX p6 V p7) ?_
 rintro _ w11 ⟨rfl,p8⟩
 refine yW ?_;obtain ⟨q,p9,c⟩:=aB c
 refine zF call19 (cX p8 V p9) ?_
 rintro _ w16 ⟨rfl,q0⟩
 refine yW ?_;obtain ⟨a,q1,c⟩:=aB c
 refine zF call78 (aDk q0 V q1) ?_
 rintro _ w23 ⟨e,g,rfl,q2⟩
 refine yW ?_;refine bZ (Kt:=K) (xs:=([]:List Int)) (cs:=[]) (vs:=[]) bY fC rfl rfl q2 rfl (by kernel_rfl) rfl rfl rfl trivial (fun k9 q3 (q4:aH G K (aJ 2 K k9 0 ([]:List Int)::aJ 9 K e g a.1::box b1 78 [zS a2 b.length c3,i64 a.2.1,Value.int .u64 a.2.2]::box d 27 k::L) q3)=>(yW ?_))
 refine aZ (fun f w=>∃ d4 d5 l n o,oA b j q a d4 d5 l=some R/\f 0=zP (some ⟨b1,0,none⟩)/\f 2=zP (some ⟨d,0,none⟩)/\f 3=i64 (wr (1+j.1))/\f 4=i64 (wr ((wr (1+j.1))+q.1))/\f 5=zS e a.1.length g/\f 6=zS n l.length o/\aH G K (aJ 2 K n o l::aJ 9 K e g a.1::box b1 78 [zS a2 b.length c3,i64 d4,Value.int .u64 d5]::box d 27 k::L) w) ?_ ?_
 ·rintro f w39 ⟨d4,d5,l,n,o,c,q5,q6,q7,q8,q9,r0,r1⟩
  unfold oA at c
  refine yW ?_;refine bZ (Kt:=K) (xs:=([]:List Edge)) (cs:=[]) (vs:=[]) cI fG rfl rfl r1 rfl (by kernel_rfl) rfl rfl rfl trivial (fun h7 l0 (r2:aH G K (aJ 69 K h7 0 ([]:List Edge)::aJ 2 K n o l::aJ 9 K e g a.1::box b1 78 [zS a2 b.length c3,i64 d4,Value.int .u64 d5]::box d 27 k::L) l0)=>(yW ?_))
  have r3:aH G K (box b1 78 [zS a2 b.length c3,i64 d4,Value.int .u64 d5]::aJ 69 K h7 0 ([]:List Edge)::aJ 2 K n o l::aJ 9 K e g a.1::box d 27 k::L) l0:=(aH.arr 4 [3,0,1,2] r2 rfl)
  obtain ⟨r45,r4,c⟩:=aB c
  refine zF call19 (cX r3 V r4) ?_
  rintro _ w47 ⟨rfl,r5⟩
  refine yW ?_;refine aZ (fun f w=>∃ e9 f0 b4 b9 c0,qA b j q a e9 f0 b4=some R/\f 0=zP (some ⟨b1,0,none⟩)/\f 2=zP (some ⟨d,0,none⟩)/\f 4=i64 (wr ((wr (1+j.1))+q.1))/\f 5=zS e a.1.length g/\f 8=zS b9 b4.length c0/\aH G K (aJ 69 K b9 c0 b4::box b1 78 [zS a2 b.length c3,i64 e9,Value.int .u64 f0]::aJ 9 K e g a.1::box d 27 k::L) w) ?_ ?_
  ·rintro f r6 ⟨e9,f0,b4,b9,c0,c,l1,l2,l3,l4,r7,r8⟩
   unfold qA at c
   iterate 1 refine aIQ ?_
   refine jR (fun f w=>∃ f1 f2 c1 d6 d7,pZ b j q a f1 f2 c1=some R/\f 0=zP (some ⟨b1,0,none⟩)/\f 2=zP (some ⟨d,0,none⟩)/\f 4=i64 (wr ((wr (1+j.1))+q.1))/\f 5=zS e a.1.length g/\f 8=zS d6 c1.length d7/\aH G K (aJ 69 K d6 d7 c1::box b1 78 [zS a2 b.length c3,i64 f1,Value.int .u64 f2]::aJ 9 K e g a.1::box d 27 k::L) w) ?_ ?_
   ·rintro f s0 ⟨f1,f2,c1,d6,d7,c,e66,l5,e68,e69,e70,s1⟩
    unfold pZ at c
    refine yW ?_
    have s2:aH G K (box b1 78 [zS a2 b.length c3,i64 f1,Value.int .u64 f2]::aJ 69 K d6 d7 c1::aJ 9 K e g a.1::box d 27 k::L) s0:=(aH.arr 2 [1,0] s1 rfl)
    obtain ⟨l6,s3,c⟩:=aB c
    refine zF call19 (cX s2 V s3) ?_
    rintro _ w76 ⟨rfl,s4⟩
    refine yW ?_;obtain ⟨K78,s5,s6,s7,s8⟩:=aH.lendS (i:=2) s4 (zR _) rfl
    obtain ⟨K83,s9,t0,t1,t2⟩:=aH.lendS (i:=1) s7 s5 rfl
    obtain ⟨x,t3,c⟩:=aB c
    refine zF call43 (qZ t1 (s6.mono s9) t0 t3) ?_
    rintro _ w94 ⟨c2,c4,c5,c6,rfl,t4⟩
    have t5:=t2 _ _ t4
    have t6:=s8 _ _ t5
    refine bS (i:=5) (ns:=(zC x c2 c4 c5 c6)) (us:=(zC x c2 c4 c5 c6)) sizeOf27 t6 rfl l5 rfl rfl rfl (cS rfl) rfl rfl (fun t7 (l7:aH G K (aJ 9 K e g a.1::aJ 69 K d6 d7 c1::aJ 9 K c2 c4 x.L::aJ 69 K c5 c6 x.E::box b1 78 [zS a2 b.length c3,i64 l6.2.1,Value.int .u64 l6.2.2]::box d 27 (zC x c2 c4 c5 c6)::L) t7)=>(yW ?_));obtain rfl:=zI c
    exact bK (mG results41 (dM (vs:=(zC x c2 c4 c5 c6)) rfl cZ l7 (i:=5) rfl l5 rfl) ⟨c2,c4,c5,c6,rfl,(aH.arr 6 [2,3,4] l7 rfl)⟩)
   refine yW ?_
   have t9:aH G K (box b1 78 [zS a2 b.length c3,i64 e9,Value.int .u64 f0]::aJ 69 K b9 c0 b4::aJ 9 K e g a.1::box d 27 k::L) r6:=(aH.arr 2 [1,0] r8 rfl)
   obtain ⟨l8,u0,c⟩:=aB c
   refine zF call42 (rA t9 V u0) ?_
   rintro _ b06 ⟨rfl,l9⟩
   refine yW ?_
   rcases aG c with ⟨u1,c⟩|⟨u1,c⟩
   ·refine yW ?_;obtain ⟨c7,u2,c⟩:=aB c
    refine zF call19 (cX l9 V u2) ?_
    rintro _ b07 ⟨rfl,u3⟩
    refine yW ?_;obtain ⟨c8,u4,c⟩:=aB c
    refine zF call19 (cX u3 V u4) ?_
    rintro _ b08 ⟨rfl,u5⟩
    refine yW ?_;obtain ⟨a4,u6,c⟩:=aB c
    refine zF call19 (cX u5 V u6) ?_
    rintro _ b09 ⟨rfl,u7⟩
    refine aC (dD (vs:=[(0,i64 c7.1),(1,i64 c8.1),(2,i64 a4.1)]) (cs:=[i64 c7.1,i64 c8.1,i64 a4.1]) aDq rfl (by kernel_rfl)) (bZ (Kt:=K) (xs:=([⟨c7.1,c8.1,a4.1⟩]:List Edge)) (cs:=[i64 c7.1,i64 c8.1,i64 a4.1]) (vs:=[(0,zA #[i64 c7.1,i64 c8.1,i64 a4.1])]) cI fG rfl rfl u7 rfl (by kernel_rfl) rfl rfl rfl ⟨rfl,trivial⟩ (fun u8 u9 (v0:aH G K (aJ 69 K u8 1 ([⟨c7.1,c8.1,a4.1⟩]:List Edge)::box b1 78 [zS a2 b.length c3,i64 a4.2.1,Value.int .u64 a4.2.2]::aJ 69 K b9 c0 b4::aJ 9 K e g a.1::box d 27 k::L) u9)=>?_))
    obtain ⟨m0,v1,c⟩:=aB c
    refine dA (i:=1) cI underlying25 fG rfl rfl v0 rfl (zR _) (zR _) v1 rfl rfl rfl rfl (fun _ h=>h) (fun m1 m2 v2 (v3:aH G K (box b1 78 [zS a2 b.length c3,i64 a4.2.1,Value.int .u64 a4.2.2]::aJ 69 K m1 m2 m0::aJ 9 K e g a.1::box d 27 k::L) v2)=>(yW ?_));exact ⟨a4.2.1,a4.2.2,m0,m1,m2,c,l1,l2,l3,l4,rfl,(aH.arr 2 [1,0] v3 rfl)⟩
   ·refine yW ?_;exact ⟨l8.2.1,l8.2.2,b4,b9,c0,c,l1,l2,l3,l4,r7,(aH.arr 2 [1,0] l9 rfl)⟩
  obtain ⟨b10,v4,c⟩:=aB c
  refine cE v4 (fun s f w=>match s with|(d8,d9,c9,Z)=>∃ e0 e1,f 0=zP (some ⟨b1,0,none⟩)/\f 2=zP (some ⟨d,0,none⟩)/\f 3=i64 (wr (1+j.1))/\f 4=i64 (wr ((wr (1+j.1))+q.1))/\f 5=zS e a.1.length g/\f 6=zS n l.length o/\f 8=zS e0 c9.length e1/\f 9=i64 Z/\aH G K (box b1 78 [zS a2 b.length c3,i64 d8,Value.int .u64 d9]::aJ 69 K e0 e1 c9::aJ 2 K n o l::aJ 9 K e g a.1::box d 27 k::L) w) ?_ ?_
  ·exact ⟨h7,0,q5,q6,q7,q8,q9,r0,rfl,rfl,r5⟩
  ·rintro ⟨d8,d9,c9,Z⟩ f3 f b11 p v5 ⟨e0,e1,m3,m4,v6,m5,m6,v7,m7,v8,m8⟩
   replace p:uJ b j q a l d8 d9 c9 Z=some f3:=p
   unfold uJ at p
   refine yW ?_
   rcases aG p with ⟨v9,p⟩|⟨v9,p⟩
   ·refine yW ?_;refine aZ (fun f w=>∃ f4 f5 e2 f6 f7,xO Z f4 f5 e2=some f3/\f 0=zP (some ⟨b1,0,none⟩)/\f 2=zP (some ⟨d,0,none⟩)/\f 3=i64 (wr (1+j.1))/\f 4=i64 (wr ((wr (1+j.1))+q.1))/\f 5=zS e a.1.length g/\f 6=zS n l.length o/\f 8=zS f6 e2.length f7/\f 9=i64 Z/\aH G K (aJ 69 K f6 f7 e2::box b1 78 [zS a2 b.length c3,i64 f4,Value.int .u64 f5]::aJ 2 K n o l::aJ 9 K e g a.1::box d 27 k::L) w) ?_ ?_
    ·rintro f b12 ⟨f4,f5,e2,f6,f7,p,w0,w1,w2,w3,w4,w5,w7,b13,w8⟩
     unfold xO at p
     refine yW ?_;exact ⟨(f4,f5,e2,wr (Z - 1)),(zI p).symm,f6,f7,w0,w1,w2,w3,w4,w5,w7,rfl,(aH.arr 2 [1,0] w8 rfl)⟩
    refine yW ?_;obtain ⟨d0,w9,p⟩:=aB p
    refine zF call19 (cX m8 V w9) ?_
    rintro _ b14 ⟨rfl,x0⟩
    refine yW ?_;obtain ⟨a0,x1,p⟩:=aB p
    refine zF call19 (cX x0 V x1) ?_
    rintro _ b15 ⟨rfl,x2⟩
    refine yW ?_;obtain ⟨b6,x3,p⟩:=aB p
    refine zF call19 (cX x2 V x3) ?_
    rintro _ b16 ⟨rfl,x4⟩
    refine yW ?_;refine aZ (fun f w=>∃ f8 f9 e3 g0 g1,qB Z f8 f9 e3=some f3/\f 0=zP (some ⟨b1,0,none⟩)/\f 2=zP (some ⟨d,0,none⟩)/\f 3=i64 (wr (1+j.1))/\f 4=i64 (wr ((wr (1+j.1))+q.1))/\f 5=zS e a.1.length g/\f 6=zS n l.length o/\f 8=zS g0 e3.length g1/\f 9=i64 Z/\aH G K (aJ 69 K g0 g1 e3::box b1 78 [zS a2 b.length c3,i64 f8,Value.int .u64 f9]::aJ 2 K n o l::aJ 9 K e g a.1::box d 27 k::L) w) ?_ ?_
    ·rintro f b17 ⟨f8,f9,e3,g0,g1,p,x5,x6,x7,x8,x9,y0,y1,y2,y3⟩
     unfold qB at p
     refine yW ?_;exact ⟨f8,f9,e3,g0,g1,p,x5,x6,x7,x8,x9,y0,y1,y2,y3⟩
    obtain ⟨b18,y4,p⟩:=aB p
    refine cE y4 (fun s f w=>match s with|(a1,a3,t,y)=>∃ z J,f 0=zP (some ⟨b1,0,none⟩)/\f 2=zP (some ⟨d,0,none⟩)/\f 3=i64 (wr (1+j.1))/\f 4=i64 (wr ((wr (1+j.1))+q.1))/\f 5=zS e a.1.length g/\f 6=zS n l.length o/\f 8=zS z t.length J/\f 9=i64 Z/\f 10=i64 d0.1/\f 11=i64 a0.1/\f 12=i64 b6.1/\f 13=i64 y/\aH G K (box b1 78 [zS a2 b.length c3,i64 a1,Value.int .u64 a3]::aJ 69 K z J t::aJ 2 K n o l::aJ 9 K e g a.1::box d 27 k::L) w) ?_ ?_
    ·exact ⟨e0,e1,m3,m4,v6,m5,m6,v7,m7,v8,rfl,rfl,rfl,rfl,x4⟩
    ·rintro ⟨a1,a3,t,y⟩ g2 f b19 m y5 ⟨z,J,h8,h9,i0,i1,i2,i3,i4,i5,m9,n0,n1,n2,g3⟩
     replace m:xQ b j q l d0 a0 b6 a1 a3 t y=some g2:=m
     unfold xQ at m
     refine yW ?_
     rcases aG m with ⟨y6,m⟩|⟨y6,m⟩
     ·refine yW ?_;refine aZ (fun f w=>∃ g4 g5 e4 g6 g7,qC y g4 g5 e4=some g2/\f 0=zP (some ⟨b1,0,none⟩)/\f 2=zP (some ⟨d,0,none⟩)/\f 3=i64 (wr (1+j.1))/\f 4=i64 (wr ((wr (1+j.1))+q.1))/\f 5=zS e a.1.length g/\f 6=zS n l.length o/\f 8=zS g6 e4.length g7/\f 9=i64 Z/\f 10=i64 d0.1/\f 11=i64 a0.1/\f 12=i64 b6.1/\f 13=i64 y/\aH G K (box b1 78 [zS a2 b.length c3,i64 g4,Value.int .u64 g5]::aJ 69 K g6 g7 e4::aJ 2 K n o l::aJ 9 K e g a.1::box d 27 k::L) w) ?_ ?_
      ·rintro f b20 ⟨g4,g5,e4,g6,g7,m,y7,y8,y9,z0,z1,z2,z3,z4,z5,z6,z7,b21,z8⟩
       unfold qC at m
       refine yW ?_;exact ⟨(g4,g5,e4,wr (y+1)),(zI m).symm,g6,g7,y7,y8,y9,z0,z1,z2,z3,z4,z5,z6,z7,rfl,z8⟩
      refine yW ?_;obtain ⟨b22,n3,m⟩:=aB m
      have n4:=cU g3 (i:=2) rfl n3
      refine aC (dB bY rfl n4 rfl rfl rfl n3) (yW ?_)
      rcases aG m with ⟨z9,m⟩|⟨z9,m⟩
      ·refine yW ?_;exact ⟨a1,a3,t,z,J,m,h8,h9,i0,i1,i2,i3,i4,i5,m9,n0,n1,n2,g3⟩
      ·refine yW ?_;refine bZ (Kt:=K) (xs:=([]:List Int)) (cs:=[]) (vs:=[]) bY fC rfl rfl g3 rfl (by kernel_rfl) rfl rfl rfl trivial (fun n5 a00 (a01:aH G K (aJ 2 K n5 0 ([]:List Int)::box b1 78 [zS a2 b.length c3,i64 a1,Value.int .u64 a3]::aJ 69 K z J t::aJ 2 K n o l::aJ 9 K e g a.1::box d 27 k::L) a00)=>(yW ?_))
       refine aZ (fun f w=>∃ d1 e5 e6,qD b a0 a1 a3 t y d1=some g2/\f 0=zP (some ⟨b1,0,none⟩)/\f 2=zP (some ⟨d,0,none⟩)/\f 3=i64 (wr (1+j.1))/\f 4=i64 (wr ((wr (1+j.1))+q.1))/\f 5=zS e a.1.length g/\f 6=zS n l.length o/\f 8=zS z t.length J/\f 9=i64 Z/\f 10=i64 d0.1/\f 11=i64 a0.1/\f 12=i64 b6.1/\f 13=i64 y/\f 14=zS e5 d1.length e6/\aH G K (aJ 2 K e5 e6 d1::box b1 78 [zS a2 b.length c3,i64 a1,Value.int .u64 a3]::aJ 69 K z J t::aJ 2 K n o l::aJ 9 K e g a.1::box d 27 k::L) w) ?_ ?_
       ·rintro f b23 ⟨d1,e5,e6,m,a02,a03,a04,a05,a06,a07,b24,a08,a09,a10,a11,a12,b25,a13⟩
        unfold qD at m
        refine yW ?_;obtain ⟨b26,a14,a15,a16,a17⟩:=aH.lendS (i:=0) a13 (zR _) rfl
        obtain ⟨a5,a18,m⟩:=aB m
        refine zF call79 (aDl a16 (V.mono a14) a15 a18) ?_
        rintro _ b27 ⟨rfl,a19⟩
        have a20:=a17 _ _ a19
        refine aC (dD (vs:=[(0,i64 y),(1,i64 a0.1),(2,i64 a5.1)]) (cs:=[i64 y,i64 a0.1,i64 a5.1]) aDq rfl (by kernel_rfl)) (bZ (Kt:=K) (xs:=([⟨y,a0.1,a5.1⟩]:List Edge)) (cs:=[i64 y,i64 a0.1,i64 a5.1]) (vs:=[(0,zA #[i64 y,i64 a0.1,i64 a5.1])]) cI fG rfl rfl a20 rfl (by kernel_rfl) rfl rfl rfl ⟨rfl,trivial⟩ (fun a22 a23 (a24:aH G K (aJ 69 K a22 1 ([⟨y,a0.1,a5.1⟩]:List Edge)::aJ 2 K e5 e6 d1::box b1 78 [zS a2 b.length c3,i64 a5.2.1,Value.int .u64 a5.2.2]::aJ 69 K z J t::aJ 2 K n o l::aJ 9 K e g a.1::box d 27 k::L) a23)=>?_))
        obtain ⟨n6,a26,m⟩:=aB m
        refine dA (i:=2) cI underlying25 fG rfl rfl a24 rfl (zR _) (zR _) a26 rfl rfl rfl rfl (fun _ h=>h) (fun n7 n8 a27 (a28:aH G K (aJ 2 K e5 e6 d1::box b1 78 [zS a2 b.length c3,i64 a5.2.1,Value.int .u64 a5.2.2]::aJ 69 K n7 n8 n6::aJ 2 K n o l::aJ 9 K e g a.1::box d 27 k::L) a27)=>(yW ?_));exact ⟨a5.2.1,a5.2.2,n6,n7,n8,m,a02,a03,a04,a05,a06,a07,rfl,a08,a09,a10,a11,a12,(aH.arr 1 [] a28 rfl)⟩
       obtain ⟨b28,a29,m⟩:=aB m
       refine cE a29 (fun s f w=>match s with|(b3,a6)=>∃ d2 d3,f 0=zP (some ⟨b1,0,none⟩)/\f 2=zP (some ⟨d,0,none⟩)/\f 3=i64 (wr (1+j.1))/\f 4=i64 (wr ((wr (1+j.1))+q.1))/\f 5=zS e a.1.length g/\f 6=zS n l.length o/\f 8=zS z t.length J/\f 9=i64 Z/\f 10=i64 d0.1/\f 11=i64 a0.1/\f 12=i64 b6.1/\f 13=i64 y/\f 14=zS d2 b3.length d3/\f 15=i64 a6/\aH G K (aJ 2 K d2 d3 b3::box b1 78 [zS a2 b.length c3,i64 a1,Value.int .u64 a3]::aJ 69 K z J t::aJ 2 K n o l::aJ 9 K e g a.1::box d 27 k::L) w) ?_ ?_
       ·exact ⟨n5,0,h8,h9,i0,i1,i2,i3,i4,i5,m9,n0,n1,n2,rfl,rfl,a01⟩
       ·rintro ⟨b3,a6⟩ n9 f b29 u a30 ⟨d2,d3,i6,i7,i8,i9,j0,j1,j2,j3,j4,j5,j6,j7,o0,o1,j8⟩
        replace u:xP j q l b6 b3 a6=some n9:=u
        unfold xP at u
        refine yW ?_
        rcases aG u with ⟨a32,u⟩|⟨a32,u⟩
        ·refine yW ?_;refine aZ (fun f w=>∃ e7 g8 g9,qE a6 e7=some n9/\f 0=zP (some ⟨b1,0,none⟩)/\f 2=zP (some ⟨d,0,none⟩)/\f 3=i64 (wr (1+j.1))/\f 4=i64 (wr ((wr (1+j.1))+q.1))/\f 5=zS e a.1.length g/\f 6=zS n l.length o/\f 8=zS z t.length J/\f 9=i64 Z/\f 10=i64 d0.1/\f 11=i64 a0.1/\f 12=i64 b6.1/\f 13=i64 y/\f 14=zS g8 e7.length g9/\f 15=i64 a6/\aH G K (aJ 2 K g8 g9 e7::box b1 78 [zS a2 b.length c3,i64 a1,Value.int .u64 a3]::aJ 69 K z J t::aJ 2 K n o l::aJ 9 K e g a.1::box d 27 k::L) w) ?_ ?_
         ·rintro f b30 ⟨e7,g8,g9,u,a33,a34,a35,a36,a37,a38,a39,a40,a42,a43,a44,a45,a46,b31,a47⟩
          unfold qE at u
          refine yW ?_;exact ⟨(e7,wr (a6+1)),(zI u).symm,g8,g9,a33,a34,a35,a36,a37,a38,a39,a40,a42,a43,a44,a45,a46,rfl,a47⟩
         refine yW ?_;obtain ⟨b32,a48,u⟩:=aB u
         refine aC (dB bY rfl n4 rfl rfl rfl a48) (yW ?_)
         rcases aG u with ⟨a49,u⟩|⟨a49,u⟩
         ·refine yW ?_;refine bZ (Kt:=K) (xs:=([a6]:List Int)) (cs:=[i64 a6]) (vs:=[(0,i64 a6)]) bY fC rfl rfl j8 rfl (by kernel_rfl) rfl rfl rfl ⟨rfl,trivial⟩ (fun a50 a51 (a53:aH G K (aJ 2 K a50 1 ([a6]:List Int)::aJ 2 K d2 d3 b3::box b1 78 [zS a2 b.length c3,i64 a1,Value.int .u64 a3]::aJ 69 K z J t::aJ 2 K n o l::aJ 9 K e g a.1::box d 27 k::L) a51)=>?_)
          obtain ⟨o2,a54,u⟩:=aB u
          refine dA (i:=0) bY underlying35 fC rfl rfl a53 rfl (zR _) (zR _) a54 rfl rfl rfl rfl (fun _ h=>h) (fun o3 o4 a55 (a56:aH G K (aJ 2 K o3 o4 o2::box b1 78 [zS a2 b.length c3,i64 a1,Value.int .u64 a3]::aJ 69 K z J t::aJ 2 K n o l::aJ 9 K e g a.1::box d 27 k::L) a55)=>(yW ?_));exact ⟨o2,o3,o4,u,i6,i7,i8,i9,j0,j1,j2,j3,j4,j5,j6,j7,rfl,o1,a56⟩
         ·refine yW ?_;exact ⟨b3,d2,d3,u,i6,i7,i8,i9,j0,j1,j2,j3,j4,j5,j6,j7,o0,o1,j8⟩
        ·refine yW ?_
         have a57:=a30 _ (zI u).symm
         subst a57
         have m:(qD b a0 a1 a3 t y b3)=some g2:=m
         refine yW ?_;exact ⟨b3,d2,d3,m,i6,i7,i8,i9,j0,j1,j2,j3,j4,j5,j6,j7,o0,j8⟩
     ·refine yW ?_
      have a58:=y5 _ (zI m).symm
      subst a58
      have p:(qB Z a1 a3 t)=some f3:=p
      refine yW ?_;exact ⟨a1,a3,t,z,J,p,h8,h9,i0,i1,i2,i3,i4,i5,(aH.arr 2 [1,0] g3 rfl)⟩
   ·refine yW ?_
    have a59:=v5 _ (zI p).symm
    subst a59
    have c:(qA b j q a d8 d9 c9)=some R:=c
    refine yW ?_;exact ⟨d8,d9,c9,e0,e1,c,m3,m4,m5,m6,m7,(aH.arr 3 [1,0] m8 rfl)⟩
 obtain ⟨b33,a60,c⟩:=aB c
 refine cE a60 (fun s f w=>match s with|(a9,b0,b2,a7)=>∃ b7 b8,f 0=zP (some ⟨b1,0,none⟩)/\f 2=zP (some ⟨d,0,none⟩)/\f 3=i64 (wr (1+j.1))/\f 4=i64 (wr ((wr (1+j.1))+q.1))/\f 5=zS e a.1.length g/\f 6=zS b7 b2.length b8/\f 7=i64 a7/\aH G K (aJ 2 K b7 b8 b2::aJ 9 K e g a.1::box b1 78 [zS a2 b.length c3,i64 a9,Value.int .u64 b0]::box d 27 k::L) w) ?_ ?_
 ·exact ⟨k9,0,rfl,rfl,rfl,rfl,rfl,rfl,rfl,q4⟩
 ·rintro ⟨a9,b0,b2,a7⟩ o5 f a61 r a62 ⟨b7,b8,j9,k0,k1,k2,k3,a63,o6,k4⟩
  replace r:uK b j q a9 b0 b2 a7=some o5:=r
  unfold uK at r
  refine yW ?_
  rcases aG r with ⟨a65,r⟩|⟨a65,r⟩
  ·refine yW ?_;refine aZ (fun f w=>∃ h0 h1 e8 h2 h3,oB a7 h0 h1 e8=some o5/\f 0=zP (some ⟨b1,0,none⟩)/\f 2=zP (some ⟨d,0,none⟩)/\f 3=i64 (wr (1+j.1))/\f 4=i64 (wr ((wr (1+j.1))+q.1))/\f 5=zS e a.1.length g/\f 6=zS h2 e8.length h3/\f 7=i64 a7/\aH G K (aJ 2 K h2 h3 e8::aJ 9 K e g a.1::box b1 78 [zS a2 b.length c3,i64 h0,Value.int .u64 h1]::box d 27 k::L) w) ?_ ?_
   ·rintro f b34 ⟨h0,h1,e8,h2,h3,r,a66,a67,a68,a69,a70,a71,b35,a72⟩
    unfold oB at r
    refine yW ?_;exact ⟨(h0,h1,e8,wr (a7+1)),(zI r).symm,h2,h3,a66,a67,a68,a69,a70,a71,rfl,a72⟩
   refine yW ?_
   rcases aG r with ⟨a73,r⟩|⟨a73,r⟩
   ·refine yW ?_;refine bZ (Kt:=K) (xs:=([a7]:List Int)) (cs:=[i64 a7]) (vs:=[(0,i64 a7)]) bY fC rfl rfl k4 rfl (by kernel_rfl) rfl rfl rfl ⟨rfl,trivial⟩ (fun a74 a75 (a76:aH G K (aJ 2 K a74 1 ([a7]:List Int)::aJ 2 K b7 b8 b2::aJ 9 K e g a.1::box b1 78 [zS a2 b.length c3,i64 a9,Value.int .u64 b0]::box d 27 k::L) a75)=>?_)
    obtain ⟨o7,a77,r⟩:=aB r
    refine dA (i:=0) bY underlying35 fC rfl rfl a76 rfl (zR _) (zR _) a77 rfl rfl rfl rfl (fun _ h=>h) (fun o8 o9 a78 (a79:aH G K (aJ 2 K o8 o9 o7::aJ 9 K e g a.1::box b1 78 [zS a2 b.length c3,i64 a9,Value.int .u64 b0]::box d 27 k::L) a78)=>(yW ?_));exact ⟨a9,b0,o7,o8,o9,r,j9,k0,k1,k2,k3,rfl,o6,a79⟩
   ·refine yW ?_
    have a80:aH G K (box b1 78 [zS a2 b.length c3,i64 a9,Value.int .u64 b0]::aJ 2 K b7 b8 b2::aJ 9 K e g a.1::box d 27 k::L) a61:=(aH.arr 3 [2,0,1] k4 rfl)
    obtain ⟨a8,a81,r⟩:=aB r
    refine zF call19 (cX a80 V a81) ?_
    rintro _ b36 ⟨rfl,a82⟩
    refine bZ (Kt:=K) (xs:=([a8.1]:List Int)) (cs:=[i64 a8.1]) (vs:=[(0,i64 a8.1)]) bY fC rfl rfl a82 rfl (by kernel_rfl) rfl rfl rfl ⟨rfl,trivial⟩ (fun a83 a84 (a85:aH G K (aJ 2 K a83 1 ([a8.1]:List Int)::box b1 78 [zS a2 b.length c3,i64 a8.2.1,Value.int .u64 a8.2.2]::aJ 2 K b7 b8 b2::aJ 9 K e g a.1::box d 27 k::L) a84)=>?_);obtain ⟨p0,a86,r⟩:=aB r
    refine dA (i:=1) bY underlying35 fC rfl rfl a85 rfl (zR _) (zR _) a86 rfl rfl rfl rfl (fun _ h=>h) (fun p1 p2 a87 (a88:aH G K (box b1 78 [zS a2 b.length c3,i64 a8.2.1,Value.int .u64 a8.2.2]::aJ 2 K p1 p2 p0::aJ 9 K e g a.1::box d 27 k::L) a87)=>(yW ?_));exact ⟨a8.2.1,a8.2.2,p0,p1,p2,r,j9,k0,k1,k2,k3,rfl,o6,(aH.arr 3 [1,2,0] a88 rfl)⟩
  ·refine yW ?_
   have a89:=a62 _ (zI r).symm
   subst a89
   have c:(oA b j q a a9 b0 b2)=some R:=c
   refine yW ?_;exact ⟨a9,b0,b2,b7,b8,c,j9,k0,k1,k2,k3,a63,k4⟩
theorem aBc {j:(List UInt8)} {d0 d1:Int} {R:(cO × Int × Int)} (hs:aH G K (box b1 78 [zS a2 j.length c3,i64 d0,Value.int .u64 d1]::L) w) (h4:cR K a2 c3 j) (k:aIb j d0 d1=some R):
  Calls Tryz.prog 18 ([zP (some ⟨b1,0,none⟩)]:List Value).toArray w (eN fun v w'=>∃ d8 d9 e0 e1,v=zA (zCa R.1 d8 d9 e0 e1)/\aH G K (aJ 9 K d8 d9 R.1.L::aJ 69 K e0 e1 R.1.E::box b1 78 [zS a2 j.length c3,i64 R.2.1,Value.int .u64 R.2.2]::L) w'):=by
 let o:=zG
 refine zH func18 ?_;unfold aIb at k
 refine yW ?_;refine bR (vs:=o) zeroValue27 hs rfl (fun l w6 g6=>(yW ?_))
 have g7:aH G K (box b1 78 [zS a2 j.length c3,i64 d0,Value.int .u64 d1]::box l 27 o::L) w6:=(aH.arr 2 [1,0] g6 rfl)
 obtain ⟨a,g8,k⟩:=aB k
 refine zF call41 (aEW g7 h4 g8) ?_
 rintro _ n9 ⟨b,c,d,e,rfl,g9⟩
 refine bR (vs:=o) zeroValue27 g9 rfl (fun n o0 h0=>(bS (i:=0) (ns:=(zC a.1 b c d e)) (us:=(zC a.1 b c d e)) sizeOf27 h0 rfl rfl rfl rfl rfl (cS rfl) rfl rfl (fun h1 (h2:aH G K (box n 27 (zC a.1 b c d e)::aJ 9 K b c a.1.L::aJ 69 K d e a.1.E::box b1 78 [zS a2 j.length c3,i64 a.2.1,Value.int .u64 a.2.2]::box l 27 o::L) h1)=>(yW ?_))));refine bZ (Kt:=K) (xs:=([]:List Edge)) (cs:=[]) (vs:=[]) cI fG rfl rfl h2 rfl (by kernel_rfl) rfl rfl rfl trivial (fun e2 h3 (h5:aH G K (aJ 69 K e2 0 ([]:List Edge)::box n 27 (zC a.1 b c d e)::aJ 9 K b c a.1.L::aJ 69 K d e a.1.E::box b1 78 [zS a2 j.length c3,i64 a.2.1,Value.int .u64 a.2.2]::box l 27 o::L) h3)=>(yW ?_))
 refine aZ (fun f w=>∃ c1 c2 b2 b3 b4,qG j a c1 c2 b2=some R/\f 0=zP (some ⟨b1,0,none⟩)/\f 2=zP (some ⟨l,0,none⟩)/\f 3=zP (some ⟨n,0,none⟩)/\f 4=zS b3 b2.length b4/\aH G K (aJ 69 K b3 b4 b2::box n 27 (zC a.1 b c d e)::aJ 9 K b c a.1.L::aJ 69 K d e a.1.E::box b1 78 [zS a2 j.length c3,i64 c1,Value.int .u64 c2]::box l 27 o::L) w) ?_ ?_
 ·rintro f h6 ⟨c1,c2,b2,b3,b4,k,h7,h8,h9,i0,i1⟩
  unfold qG at k
  refine yW ?_
  have i2:aH G K (box b1 78 [zS a2 j.length c3,i64 c1,Value.int .u64 c2]::aJ 69 K b3 b4 b2::box n 27 (zC a.1 b c d e)::aJ 9 K b c a.1.L::aJ 69 K d e a.1.E::box l 27 o::L) h6:=(aH.arr 5 [4,0,1,2,3] i1 rfl)
  obtain ⟨o1,i3,k⟩:=aB k
  refine zF call19 (cX i2 h4 i3) ?_
  rintro _ o2 ⟨rfl,i4⟩
  refine yW ?_;refine aZ (fun f w=>∃ b6 c4 c5 c6 c7,qF a b6 c4 c5=some R/\f 2=zP (some ⟨l,0,none⟩)/\f 3=zP (some ⟨n,0,none⟩)/\f 4=zS c6 b6.length c7/\aH G K (aJ 69 K c6 c7 b6::box b1 78 [zS a2 j.length c3,i64 c4,Value.int .u64 c5]::box n 27 (zC a.1 b c d e)::aJ 9 K b c a.1.L::aJ 69 K d e a.1.E::box l 27 o::L) w) ?_ ?_
  ·rintro f o3 ⟨b6,c4,c5,c6,c7,k,e3,o4,o5,i5⟩
   unfold qF at k
   refine yW ?_;obtain ⟨o6,i6,i7,i8,i9⟩:=aH.lendS (i:=3) i5 (zR _) rfl
   obtain ⟨o7,j0,j1,j2,j3⟩:=aH.lendS (i:=0) i8 i6 rfl
   obtain ⟨p,j4,k⟩:=aB k
   refine zF call43 (qZ j2 (i7.mono j0) j1 j4) ?_
   rintro _ o8 ⟨a0,a1,a3,a4,rfl,j5⟩
   have j6:=j3 _ _ j5
   have j7:=i9 _ _ j6
   refine bS (i:=7) (ns:=(zC p a0 a1 a3 a4)) (us:=(zC p a0 a1 a3 a4)) sizeOf27 j7 rfl e3 rfl rfl rfl (cS rfl) rfl rfl (fun j8 (e4:aH G K (aJ 9 K b c a.1.L::aJ 69 K c6 c7 b6::aJ 9 K a0 a1 p.L::aJ 69 K a3 a4 p.E::box b1 78 [zS a2 j.length c3,i64 c4,Value.int .u64 c5]::box n 27 (zC a.1 b c d e)::aJ 69 K d e a.1.E::box l 27 (zC p a0 a1 a3 a4)::L) j8)=>(yW ?_));obtain rfl:=zI k
   exact bK (mG results18 (dM (vs:=(zC p a0 a1 a3 a4)) rfl cZ e4 (i:=7) rfl e3 rfl) ⟨a0,a1,a3,a4,rfl,(aH.arr 8 [2,3,4] e4 rfl)⟩)
  obtain ⟨o9,k0,k⟩:=aB k
  refine cE k0 (fun s f w=>match s with|(b7,b8,z,c8)=>∃ b9 c0,f 0=zP (some ⟨b1,0,none⟩)/\f 2=zP (some ⟨l,0,none⟩)/\f 3=zP (some ⟨n,0,none⟩)/\f 4=zS b9 z.length c0/\f 7=i64 c8/\aH G K (box b1 78 [zS a2 j.length c3,i64 b7,Value.int .u64 b8]::aJ 69 K b9 c0 z::box n 27 (zC a.1 b c d e)::aJ 9 K b c a.1.L::aJ 69 K d e a.1.E::box l 27 o::L) w) ?_ ?_
  ·exact ⟨b3,b4,h7,h8,h9,i0,rfl,i4⟩
  ·rintro ⟨b7,b8,z,c8⟩ k1 f p0 q k2 ⟨b9,c0,k3,e5,e6,k4,p1,e7⟩
   replace q:xR j a b7 b8 z c8=some k1:=q
   unfold xR at q
   refine yW ?_
   rcases aG q with ⟨k5,q⟩|⟨k5,q⟩
   ·refine yW ?_;refine cT ?_
    obtain ⟨d2,c9,p2,e8,k6⟩:=aH.lendB (i:=2) e7 rfl
    refine dV (C:=fun w'=>∃ L',aH G d2 L' w') [(0,0),(1,0),(2,0),(3,0),(5,0),(6,0),(7,0),(4,1),(8,1),(9,0),(10,1),(11,1),(12,0)] bV (by kernel_rfl) (fun _ hg=>⟨_,aH.mono e8 hg⟩) (fun p3 k7=>?_)
    have k8:=aH.mono e8 k7
    refine yW ?_;refine gX rfl ?_
    obtain ⟨a5,k9,q⟩:=aB q
    refine zF call19 (cX k8 (h4.mono c9) k9) ?_
    rintro _ p4 ⟨rfl,e9⟩
    refine aX (aA ⟨⟨_,e9⟩,?_⟩)
    refine gX rfl ?_;obtain ⟨t,l0,q⟩:=aB q
    refine zF call19 (cX e9 (h4.mono c9) l0) ?_
    rintro _ p5 ⟨rfl,f0⟩
    refine aX (aA ⟨⟨_,f0⟩,?_⟩)
    refine bX rfl (fun _ _=>dD (vs:=[(0,i64 a5.1),(2,i64 t.1)]) (cs:=[i64 a5.1,i64 0,i64 t.1]) aDq rfl (by kernel_rfl)) (gX rfl (bZ (Kt:=K) (xs:=([⟨a5.1,0,t.1⟩]:List Edge)) (cs:=[i64 a5.1,i64 0,i64 t.1]) (vs:=[(0,zA #[i64 a5.1,i64 0,i64 t.1])]) cI fG rfl rfl f0 rfl (by kernel_rfl) rfl rfl rfl ⟨rfl,trivial⟩ (fun l1 l2 (f1:aH G d2 (aJ 69 K l1 1 ([⟨a5.1,0,t.1⟩]:List Edge)::box b1 78 [zS a2 j.length c3,i64 t.2.1,Value.int .u64 t.2.2]::aJ 69 K b9 c0 z::aJ 9 K b c a.1.L::aJ 69 K d e a.1.E::box l 27 o::L) l2)=>(aX (aA ⟨⟨_,f1⟩,?_⟩)))))
    refine gX rfl ?_;obtain ⟨f2,l3,q⟩:=aB q
    refine dA (i:=1) cI underlying25 fG rfl rfl f1 rfl c9 c9 l3 rfl rfl rfl rfl (fun _ h=>h) (fun f3 f4 l4 (f5:aH G d2 (box b1 78 [zS a2 j.length c3,i64 t.2.1,Value.int .u64 t.2.2]::aJ 69 K f3 f4 f2::aJ 9 K b c a.1.L::aJ 69 K d e a.1.E::box l 27 o::L) l4)=>(aX (aA ⟨⟨_,f5⟩,?_⟩)))
    refine yW ?_;refine gZ ?_
    have l5:=k6 _ _ f5
    refine yW ?_;exact ⟨(t.2.1,t.2.2,f2,wr (c8 - 1)),(zI q).symm,f3,f4,k3,e5,e6,rfl,rfl,(aH.arr 3 [1,2,0] l5 rfl)⟩
   ·refine yW ?_
    have l6:=k2 _ (zI q).symm
    subst l6
    have k:(qF a z b7 b8)=some R:=k
    refine yW ?_;exact ⟨z,b7,b8,b9,c0,k,e5,e6,k4,(aH.arr 2 [1,0] e7 rfl)⟩
 obtain ⟨p6,l7,k⟩:=aB k
 refine cE l7 (fun s f w=>match s with|(J,V,r,a6)=>∃ u x,f 0=zP (some ⟨b1,0,none⟩)/\f 2=zP (some ⟨l,0,none⟩)/\f 3=zP (some ⟨n,0,none⟩)/\f 4=zS u r.length x/\f 5=i64 a6/\aH G K (aJ 69 K u x r::box n 27 (zC a.1 b c d e)::aJ 9 K b c a.1.L::aJ 69 K d e a.1.E::box b1 78 [zS a2 j.length c3,i64 J,Value.int .u64 V]::box l 27 o::L) w) ?_ ?_
 ·exact ⟨e2,0,rfl,rfl,rfl,rfl,rfl,h5⟩
 ·rintro ⟨J,V,r,a6⟩ f6 f p7 m l8 ⟨u,x,d3,d4,d5,d6,f7,d7⟩
  replace m:xS j a J V r a6=some f6:=m
  unfold xS at m
  refine yW ?_
  rcases aG m with ⟨l9,m⟩|⟨l9,m⟩
  ·refine yW ?_;refine cT (yW ?_)
   obtain ⟨g,f8,m⟩:=aB m
   have m0:=cU d7 (i:=3) rfl f8
   refine aC (dB cI rfl m0 rfl rfl rfl f8) (yW ?_);refine bR (vs:=[i64 0,i64 0,i64 0]) zeroValue69 d7 rfl (fun Z p8 m1=>(bS (i:=0) (ns:=[i64 g.F,i64 g.B,i64 g.To]) (us:=[i64 g.F,i64 g.B,i64 g.To]) sizeOf69 m1 rfl rfl rfl rfl rfl (cS rfl) rfl rfl (fun f9 (m2:aH G K (box Z 69 [i64 g.F,i64 g.B,i64 g.To]::aJ 69 K u x r::box n 27 (zC a.1 b c d e)::aJ 9 K b c a.1.L::aJ 69 K d e a.1.E::box b1 78 [zS a2 j.length c3,i64 J,Value.int .u64 V]::box l 27 o::L) f9)=>?_)))
   iterate 2 refine aIQ ?_
   refine jR (fun f w=>∃ a7 a8 y,qH r a6 g a7 a8 y=some f6/\f 0=zP (some ⟨b1,0,none⟩)/\f 2=zP (some ⟨l,0,none⟩)/\f 3=zP (some ⟨n,0,none⟩)/\f 4=zS u r.length x/\f 5=i64 a6/\f 6=zP (some ⟨Z,0,none⟩)/\aH G K (box Z 69 [i64 g.F,i64 y,i64 g.To]::aJ 69 K u x r::box n 27 (zC a.1 b c d e)::aJ 9 K b c a.1.L::aJ 69 K d e a.1.E::box b1 78 [zS a2 j.length c3,i64 a7,Value.int .u64 a8]::box l 27 o::L) w) ?_ ?_
   ·rintro f p9 ⟨a7,a8,y,m,m3,m4,m5,q0,q1,q2,m6⟩
    unfold qH at m
    refine yW ?_;refine bZ (Kt:=K) (xs:=([⟨g.F,y,g.To⟩]:List Edge)) (cs:=[i64 g.F,i64 y,i64 g.To]) (vs:=[(0,zA #[i64 g.F,i64 y,i64 g.To])]) cI fG rfl rfl m6 rfl (by kernel_rfl) rfl rfl rfl ⟨rfl,trivial⟩ (fun m7 m8 (m9:aH G K (aJ 69 K m7 1 ([⟨g.F,y,g.To⟩]:List Edge)::box Z 69 [i64 g.F,i64 y,i64 g.To]::aJ 69 K u x r::box n 27 (zC a.1 b c d e)::aJ 9 K b c a.1.L::aJ 69 K d e a.1.E::box b1 78 [zS a2 j.length c3,i64 a7,Value.int .u64 a8]::box l 27 o::L) m8)=>?_)
    obtain ⟨g0,n0,m⟩:=aB m
    refine dA (i:=1) cI underlying25 fG rfl rfl m9 rfl (zR _) (zR _) n0 rfl rfl rfl rfl (fun _ h=>h) (fun g1 g2 n1 (n2:aH G K (box Z 69 [i64 g.F,i64 y,i64 g.To]::aJ 69 K g1 g2 g0::box n 27 (zC a.1 b c d e)::aJ 9 K b c a.1.L::aJ 69 K d e a.1.E::box b1 78 [zS a2 j.length c3,i64 a7,Value.int .u64 a8]::box l 27 o::L) n1)=>(yW ?_));exact ⟨(a7,a8,g0,wr (a6+1)),(zI m).symm,g1,g2,m3,m4,m5,rfl,rfl,(aH.arr 1 [] n2 rfl)⟩
   refine yW ?_
   have n3:aH G K (box b1 78 [zS a2 j.length c3,i64 J,Value.int .u64 V]::box Z 69 [i64 g.F,i64 g.B,i64 g.To]::aJ 69 K u x r::box n 27 (zC a.1 b c d e)::aJ 9 K b c a.1.L::aJ 69 K d e a.1.E::box l 27 o::L) f9:=(aH.arr 6 [5,0,1,2,3,4] m2 rfl)
   obtain ⟨a9,n4,m⟩:=aB m
   refine zF call42 (rA n3 h4 n4) ?_
   rintro _ q3 ⟨rfl,g3⟩
   refine yW ?_
   rcases aG m with ⟨n5,m⟩|⟨n5,m⟩
   ·refine yW ?_;refine bS (i:=1) (ns:=[i64 0]) (us:=[i64 g.F,i64 0,i64 g.To]) sizeOf2 g3 rfl rfl rfl rfl rfl (cS rfl) rfl rfl (fun n6 (n7:aH G K (box b1 78 [zS a2 j.length c3,i64 a9.2.1,Value.int .u64 a9.2.2]::box Z 69 [i64 g.F,i64 0,i64 g.To]::aJ 69 K u x r::box n 27 (zC a.1 b c d e)::aJ 9 K b c a.1.L::aJ 69 K d e a.1.E::box l 27 o::L) n6)=>(yW ?_))
    exact ⟨a9.2.1,a9.2.2,0,m,d3,d4,d5,d6,f7,rfl,(aH.arr 6 [1,2,3,4,5,0] n7 rfl)⟩
   ·refine yW ?_;exact ⟨a9.2.1,a9.2.2,g.B,m,d3,d4,d5,d6,f7,rfl,(aH.arr 6 [1,2,3,4,5,0] g3 rfl)⟩
  ·refine yW ?_
   have n8:=l8 _ (zI m).symm
   subst n8
   have k:(qG j a J V r)=some R:=k
   refine yW ?_;exact ⟨J,V,r,u,x,k,d3,d4,d5,d6,d7⟩
theorem aGm {J:(List UInt8)} {R:(cO × cO)} (hs:aH G K (L) w) (h3:cR K a1 c2 J) (b:aEM J=some R):
  Calls Tryz.prog 6 ([zS a1 J.length c2]:List Value).toArray w (eN fun v w'=>∃ e8 e9 f0 f1 f2 f3 f4 f5,v=Value.tuple #[zA (zCa R.1 e8 e9 f0 f1),zA (zCa R.2 f2 f3 f4 f5)]/\aH G K (aJ 9 K e8 e9 R.1.L::aJ 69 K f0 f1 R.1.E::aJ 9 K f2 f3 R.2.L::aJ 69 K f4 f5 R.2.E::L) w'):=by
 let k:=zG
 refine zH func6 ?_;unfold aEM at b
 refine yW ?_;refine bR (vs:=k) zeroValue27 hs rfl (fun q w5 i4=>(bR (vs:=k) zeroValue27 i4 rfl (fun r w8 i5=>(yW ?_))))
 obtain ⟨y4,i6,b⟩:=aB b
 refine zF call17 (aGf i5 h3 i6) ?_
 rintro _ y5 ⟨a0,rfl,i7⟩
 refine yW ?_;obtain ⟨a,i8,b⟩:=aB b
 refine zF call18 (aBc i7 h3 i8) ?_
 rintro _ y6 ⟨d,e,g,h,rfl,i9⟩
 refine bR (vs:=k) zeroValue27 i9 rfl (fun V y7 j0=>(bS (i:=0) (ns:=(zC a.1 d e g h)) (us:=(zC a.1 d e g h)) sizeOf27 j0 rfl rfl rfl rfl rfl (cS rfl) rfl rfl (fun f6 (j1:aH G K (box V 27 (zC a.1 d e g h)::aJ 9 K d e a.1.L::aJ 69 K g h a.1.E::box a0 78 [zS a1 J.length c2,i64 a.2.1,Value.int .u64 a.2.2]::box r 27 k::box q 27 k::L) f6)=>(yW ?_))))
 have j2:aH G K (box a0 78 [zS a1 J.length c2,i64 a.2.1,Value.int .u64 a.2.2]::box V 27 (zC a.1 d e g h)::aJ 9 K d e a.1.L::aJ 69 K g h a.1.E::box r 27 k::box q 27 k::L) f6:=(aH.arr 4 [3,0,1,2] j1 rfl)
 obtain ⟨c,j3,b⟩:=aB b
 refine zF call18 (aBc j2 h3 j3) ?_
 rintro _ y8 ⟨m,n,o,p,rfl,j4⟩
 refine bR (vs:=k) zeroValue27 j4 rfl (fun a2 y9 j5=>(bS (i:=0) (ns:=(zC c.1 m n o p)) (us:=(zC c.1 m n o p)) sizeOf27 j5 rfl rfl rfl rfl rfl (cS rfl) rfl rfl (fun f7 (j6:aH G K (box a2 27 (zC c.1 m n o p)::aJ 9 K m n c.1.L::aJ 69 K o p c.1.E::box a0 78 [zS a1 J.length c2,i64 c.2.1,Value.int .u64 c.2.2]::box V 27 (zC a.1 d e g h)::aJ 9 K d e a.1.L::aJ 69 K g h a.1.E::box r 27 k::box q 27 k::L) f7)=>(yW ?_))))
 have j7:aH G K (box a0 78 [zS a1 J.length c2,i64 c.2.1,Value.int .u64 c.2.2]::box a2 27 (zC c.1 m n o p)::aJ 9 K m n c.1.L::aJ 69 K o p c.1.E::box V 27 (zC a.1 d e g h)::aJ 9 K d e a.1.L::aJ 69 K g h a.1.E::box r 27 k::box q 27 k::L) f7:=(aH.arr 4 [3,0,1,2] j6 rfl)
 obtain ⟨Z,j8,b⟩:=aB b
 refine zF call19 (cX j7 h3 j8) ?_
 rintro _ z0 ⟨rfl,c1⟩
 refine yW ?_;refine aZ (fun f w=>∃ b6 b8 a3 a4 a5 a6 a7 a8,gJ a b6 b8 a3 a4=some R/\f 2=zP (some ⟨q,0,none⟩)/\f 3=zP (some ⟨r,0,none⟩)/\f 5=zP (some ⟨V,0,none⟩)/\f 6=zP (some ⟨a2,0,none⟩)/\aH G K (aJ 69 K a7 a8 a4::aJ 9 K a5 a6 a3::box a2 27 [i64 b6,i64 b8,zS a5 a3.length a6,zS a7 a4.length a8]::box V 27 (zC a.1 d e g h)::aJ 9 K d e a.1.L::aJ 69 K g h a.1.E::box r 27 k::box q 27 k::L) w) ?_ ?_
 ·rintro f z1 ⟨b6,b8,a3,a4,a5,a6,a7,a8,b,f8,f9,z2,j9,k0⟩
  unfold gJ at b
  refine yW ?_;obtain ⟨z3,z4,k1,k2,k3⟩:=aH.lendB (i:=2) k0 rfl
  obtain ⟨g0,k4,z5,g1,k5⟩:=aH.lendB (i:=2) k2 rfl
  refine dV (C:=fun w'=>∃ L',aH G g0 L' w') [(0,0),(1,0),(2,1),(3,2)] bV (by kernel_rfl) (fun _ hg=>⟨_,aH.mono g1 hg⟩) (fun z6 k6=>?_)
  have e5:=aH.mono g1 k6
  refine yW ?_;refine bX rfl (fun _ ⟨_,e5⟩=>eU (t:=0) (vs:=[i64 b6,i64 b8,zS a5 a3.length a6,zS a7 a4.length a8]) cZ e5 (k1.mono k4) j9 rfl rfl) (gX rfl (bS (i:=5) (ns:=(zC a.1 d e g h)) (us:=(zC a.1 d e g h)) sizeOf27 e5 rfl f8 rfl rfl rfl (cS rfl) rfl rfl (fun k7 (g2:aH G g0 (aJ 69 K a7 a8 a4::aJ 9 K a5 a6 a3::aJ 9 K d e a.1.L::aJ 69 K g h a.1.E::box r 27 k::box q 27 (zC a.1 d e g h)::L) k7)=>(aX (aA ⟨⟨_,g2⟩,?_⟩)))))
  have k8:=k5 _ _ g2
  have k9:=k3 _ _ k8
  refine aCl rfl (bS (i:=6) (ns:=[i64 b6,i64 b8,zS a5 a3.length a6,zS a7 a4.length a8]) (us:=[i64 b6,i64 b8,zS a5 a3.length a6,zS a7 a4.length a8]) sizeOf27 k9 rfl f9 rfl rfl rfl (cS rfl) rfl rfl (fun l0 (e6:aH G K (box a2 27 [i64 b6,i64 b8,zS a5 a3.length a6,zS a7 a4.length a8]::box V 27 (zC a.1 d e g h)::aJ 69 K a7 a8 a4::aJ 9 K a5 a6 a3::aJ 9 K d e a.1.L::aJ 69 K g h a.1.E::box r 27 [i64 b6,i64 b8,zS a5 a3.length a6,zS a7 a4.length a8]::box q 27 (zC a.1 d e g h)::L) l0)=>(yW ?_)))
  refine gZ (yW ?_);obtain rfl:=zI b
  exact bK (uW results6 (dM (vs:=(zC a.1 d e g h)) rfl cZ e6 (i:=7) rfl f8 rfl) (dM (vs:=[i64 b6,i64 b8,zS a5 a3.length a6,zS a7 a4.length a8]) rfl cZ e6 (i:=6) rfl f9 rfl) ⟨d,e,g,h,a5,a6,a7,a8,rfl,(aH.arr 8 [4,5,3,2] e6 rfl)⟩)
 refine yW ?_
 rcases aG b with ⟨l2,b⟩|⟨l2,b⟩
 ·refine yW ?_;obtain ⟨z7,l3,l4,l5,l6⟩:=aH.lendS (i:=5) c1 (zR _) rfl
  obtain ⟨z8,l7,l8,l9,m0⟩:=aH.lendS (i:=5) l5 l3 rfl
  obtain ⟨z9,g3,m1,m2,m3⟩:=aH.lendB (i:=4) l9 rfl
  obtain ⟨u,m4,b⟩:=aB b
  refine zF call20 (aFn m2 m1 (l4.mono (zL l7 g3)) (l8.mono g3) m4) ?_
  rintro _ a00 ⟨c7,c8,c9,d0,rfl,m5⟩
  have m6:=m3 _ _ m5
  have m7:=m0 _ _ m6
  have m8:=l6 _ _ m7
  refine bS (i:=6) (ns:=(zC u c7 c8 c9 d0)) (us:=(zC u c7 c8 c9 d0)) sizeOf27 m8 rfl rfl rfl rfl rfl (cS rfl) rfl rfl (fun m9 (n0:aH G K (aJ 9 K d e a.1.L::aJ 69 K g h a.1.E::box V 27 (zC a.1 d e g h)::aJ 9 K c7 c8 u.L::aJ 69 K c9 d0 u.E::box a0 78 [zS a1 J.length c2,i64 Z.2.1,Value.int .u64 Z.2.2]::box a2 27 (zC u c7 c8 c9 d0)::aJ 9 K m n c.1.L::aJ 69 K o p c.1.E::box r 27 k::box q 27 k::L) m9)=>(yW ?_))
  exact ⟨u.N,u.I,u.L,u.E,c7,c8,c9,d0,b,rfl,rfl,rfl,rfl,(aH.arr 9 [4,3,6,2,0,1] n0 rfl)⟩
 ·refine yW ?_
  rcases aG b with ⟨n1,b⟩|⟨n1,b⟩
  ·refine yW ?_;obtain ⟨a01,n2,n3,n4,n5⟩:=aH.lendS (i:=5) c1 (zR _) rfl
   obtain ⟨a02,n6,n7,n8,n9⟩:=aH.lendS (i:=5) n4 n2 rfl
   obtain ⟨a03,g4,o0,o1,o2⟩:=aH.lendB (i:=4) n8 rfl
   obtain ⟨x,o3,b⟩:=aB b
   refine zF call21 (aCc o1 o0 (n3.mono (zL n6 g4)) (n7.mono g4) o3) ?_
   rintro _ a04 ⟨d1,d2,d3,d4,rfl,o4⟩
   have o5:=o2 _ _ o4
   have o6:=n9 _ _ o5
   have o7:=n5 _ _ o6
   refine bS (i:=6) (ns:=(zC x d1 d2 d3 d4)) (us:=(zC x d1 d2 d3 d4)) sizeOf27 o7 rfl rfl rfl rfl rfl (cS rfl) rfl rfl (fun o8 (o9:aH G K (aJ 9 K d e a.1.L::aJ 69 K g h a.1.E::box V 27 (zC a.1 d e g h)::aJ 9 K d1 d2 x.L::aJ 69 K d3 d4 x.E::box a0 78 [zS a1 J.length c2,i64 Z.2.1,Value.int .u64 Z.2.2]::box a2 27 (zC x d1 d2 d3 d4)::aJ 9 K m n c.1.L::aJ 69 K o p c.1.E::box r 27 k::box q 27 k::L) o8)=>(yW ?_))
   exact ⟨x.N,x.I,x.L,x.E,d1,d2,d3,d4,b,rfl,rfl,rfl,rfl,(aH.arr 9 [4,3,6,2,0,1] o9 rfl)⟩
  ·refine yW ?_
   rcases aG b with ⟨p0,b⟩|⟨p0,b⟩
   ·refine yW ?_;obtain ⟨a05,p1,p2,p3,p4⟩:=aH.lendS (i:=5) c1 (zR _) rfl
    obtain ⟨a06,p5,p6,p7,p8⟩:=aH.lendS (i:=5) p3 p1 rfl
    obtain ⟨a07,g5,p9,q0,q1⟩:=aH.lendB (i:=4) p7 rfl
    obtain ⟨y,q2,b⟩:=aB b
    refine zF call21 (aCc q0 p9 (p2.mono (zL p5 g5)) (p6.mono g5) q2) ?_
    rintro _ a08 ⟨d5,d6,d7,d8,rfl,q3⟩
    have q4:=q1 _ _ q3
    have q5:=p8 _ _ q4
    have q6:=p4 _ _ q5
    refine bS (i:=6) (ns:=(zC y d5 d6 d7 d8)) (us:=(zC y d5 d6 d7 d8)) sizeOf27 q6 rfl rfl rfl rfl rfl (cS rfl) rfl rfl (fun q7 (q8:aH G K (aJ 9 K d e a.1.L::aJ 69 K g h a.1.E::box V 27 (zC a.1 d e g h)::aJ 9 K d5 d6 y.L::aJ 69 K d7 d8 y.E::box a0 78 [zS a1 J.length c2,i64 Z.2.1,Value.int .u64 Z.2.2]::box a2 27 (zC y d5 d6 d7 d8)::aJ 9 K m n c.1.L::aJ 69 K o p c.1.E::box r 27 k::box q 27 k::L) q7)=>(yW ?_))
    exact ⟨y.N,y.I,y.L,y.E,d5,d6,d7,d8,b,rfl,rfl,rfl,rfl,(aH.arr 9 [4,3,6,2,0,1] q8 rfl)⟩
   ·refine yW ?_
    rcases aG b with ⟨q9,b⟩|⟨q9,b⟩
    ·refine yW ?_;obtain ⟨a09,r0,r1,r2,r3⟩:=aH.lendS (i:=5) c1 (zR _) rfl
     obtain ⟨a10,r4,r5,r6,r7⟩:=aH.lendS (i:=5) r2 r0 rfl
     obtain ⟨a11,g6,r8,r9,s0⟩:=aH.lendB (i:=4) r6 rfl
     obtain ⟨z,s1,b⟩:=aB b
     refine zF call22 (aFr r9 r8 (r1.mono (zL r4 g6)) (r5.mono g6) s1) ?_
     rintro _ a12 ⟨d9,e0,e1,e2,rfl,s2⟩
     have s3:=s0 _ _ s2
     have s4:=r7 _ _ s3
     have s5:=r3 _ _ s4
     refine bS (i:=6) (ns:=(zC z d9 e0 e1 e2)) (us:=(zC z d9 e0 e1 e2)) sizeOf27 s5 rfl rfl rfl rfl rfl (cS rfl) rfl rfl (fun s6 (s7:aH G K (aJ 9 K d e a.1.L::aJ 69 K g h a.1.E::box V 27 (zC a.1 d e g h)::aJ 9 K d9 e0 z.L::aJ 69 K e1 e2 z.E::box a0 78 [zS a1 J.length c2,i64 Z.2.1,Value.int .u64 Z.2.2]::box a2 27 (zC z d9 e0 e1 e2)::aJ 9 K m n c.1.L::aJ 69 K o p c.1.E::box r 27 k::box q 27 k::L) s6)=>(yW ?_))
     exact ⟨z.N,z.I,z.L,z.E,d9,e0,e1,e2,b,rfl,rfl,rfl,rfl,(aH.arr 9 [4,3,6,2,0,1] s7 rfl)⟩
    ·refine yW ?_
     rcases aG b with ⟨s8,b⟩|⟨s8,b⟩
     ·refine yW ?_;obtain ⟨a13,s9,t0,t1,t2⟩:=aH.lendS (i:=5) c1 (zR _) rfl
      obtain ⟨a14,t3,t4,t5,t6⟩:=aH.lendS (i:=5) t1 s9 rfl
      obtain ⟨a15,g7,t7,t8,t9⟩:=aH.lendB (i:=4) t5 rfl
      obtain ⟨j,u0,b⟩:=aB b
      refine zF call23 (yC t8 t7 (t0.mono (zL t3 g7)) (t4.mono g7) u0) ?_
      rintro _ a16 ⟨b1,b2,b3,b5,g8,g9,e4,rfl,a17,u1⟩
      have u2:=t9 _ _ u1
      have u3:=t6 _ _ u2
      have u4:=t2 _ _ u3
      refine yW ?_;refine bR (vs:=k) zeroValue27 u4 rfl (fun h0 a19 u5=>(bS (i:=0) (ns:=(zC j.1 b1 b2 b3 b5)) (us:=(zC j.1 b1 b2 b3 b5)) sizeOf27 u5 rfl rfl rfl rfl rfl (cS rfl) rfl rfl (fun u6 (h1:aH G K (box h0 27 (zC j.1 b1 b2 b3 b5)::aJ 9 K d e a.1.L::aJ 69 K g h a.1.E::box V 27 (zC a.1 d e g h)::aJ 9 K b1 b2 j.1.L::aJ 69 K b3 b5 j.1.E::aJ 35 K g8 g9 (dC e4 j.2.1)::rows [2] e4 j.2.1::box a0 78 [zS a1 J.length c2,i64 Z.2.1,Value.int .u64 Z.2.2]::box a2 27 (zC c.1 m n o p)::aJ 9 K m n c.1.L::aJ 69 K o p c.1.E::box r 27 k::box q 27 k::L) u6)=>(yW ?_))))
      rcases aG b with ⟨u7,b⟩|⟨u7,b⟩
      ·refine yW ?_;refine bS (i:=9) (ns:=(zC j.1 b1 b2 b3 b5)) (us:=(zC j.1 b1 b2 b3 b5)) sizeOf27 h1 rfl rfl rfl rfl rfl (cS rfl) rfl rfl (fun u8 (u9:aH G K (box h0 27 (zC j.1 b1 b2 b3 b5)::aJ 9 K d e a.1.L::aJ 69 K g h a.1.E::box V 27 (zC a.1 d e g h)::aJ 9 K b1 b2 j.1.L::aJ 69 K b3 b5 j.1.E::aJ 35 K g8 g9 (dC e4 j.2.1)::rows [2] e4 j.2.1::box a0 78 [zS a1 J.length c2,i64 Z.2.1,Value.int .u64 Z.2.2]::box a2 27 (zC j.1 b1 b2 b3 b5)::aJ 9 K m n c.1.L::aJ 69 K o p c.1.E::box r 27 k::box q 27 k::L) u8)=>(yW ?_))
       exact ⟨j.1.N,j.1.I,j.1.L,j.1.E,b1,b2,b3,b5,b,rfl,rfl,rfl,rfl,(aH.arr 12 [5,4,9,3,1,2] u9 rfl)⟩
      ·refine yW ?_;exact ⟨c.1.N,c.1.I,c.1.L,c.1.E,m,n,o,p,b,rfl,rfl,rfl,rfl,(aH.arr 12 [11,10,9,3,1,2] h1 rfl)⟩
     ·refine yW ?_
      rcases aG b with ⟨v0,b⟩|⟨v0,b⟩
      ·refine yW ?_;obtain ⟨a21,v1,v2,v3,v4⟩:=aH.lendS (i:=5) c1 (zR _) rfl
       obtain ⟨a22,v5,v6,v7,v8⟩:=aH.lendS (i:=5) v3 v1 rfl
       obtain ⟨a23,h2,v9,w0,w1⟩:=aH.lendB (i:=4) v7 rfl
       obtain ⟨l,w2,b⟩:=aB b
       refine zF call24 (aGB w0 v9 (v2.mono (zL v5 h2)) (v6.mono h2) w2) ?_
       rintro _ a24 ⟨a9,b0,b9,c0,rfl,w3⟩
       have w4:=w1 _ _ w3
       have w6:=v8 _ _ w4
       have w7:=v4 _ _ w6
       refine bS (i:=6) (ns:=(zC l a9 b0 b9 c0)) (us:=(zC l a9 b0 b9 c0)) sizeOf27 w7 rfl rfl rfl rfl rfl (cS rfl) rfl rfl (fun h4 (h5:aH G K (aJ 9 K d e a.1.L::aJ 69 K g h a.1.E::box V 27 (zC a.1 d e g h)::aJ 9 K a9 b0 l.L::aJ 69 K b9 c0 l.E::box a0 78 [zS a1 J.length c2,i64 Z.2.1,Value.int .u64 Z.2.2]::box a2 27 (zC l a9 b0 b9 c0)::aJ 9 K m n c.1.L::aJ 69 K o p c.1.E::box r 27 k::box q 27 k::L) h4)=>(yW ?_))
       rcases aG b with ⟨w9,b⟩|⟨w9,b⟩
       ·refine yW ?_
        have x0:aH G K (box a0 78 [zS a1 J.length c2,i64 Z.2.1,Value.int .u64 Z.2.2]::aJ 9 K d e a.1.L::aJ 69 K g h a.1.E::box V 27 (zC a.1 d e g h)::aJ 9 K a9 b0 l.L::aJ 69 K b9 c0 l.E::box a2 27 (zC l a9 b0 b9 c0)::aJ 9 K m n c.1.L::aJ 69 K o p c.1.E::box r 27 k::box q 27 k::L) h4:=(aH.arr 6 [5,0,1,2,3,4] h5 rfl)
        obtain ⟨e3,x1,b⟩:=aB b
        refine zF call19 (cX x0 h3 x1) ?_
        rintro _ a25 ⟨rfl,x2⟩
        refine yW ?_;obtain ⟨h6,a26,a27,h7,x3⟩:=aH.lendB (i:=6) x2 rfl
        refine dV (C:=fun w'=>∃ L',aH G h6 L' w') [(0,0),(1,0),(2,0),(3,0),(4,0),(5,0),(6,0),(7,0),(8,0),(9,1),(10,0),(11,2)] bV (by kernel_rfl) (fun _ hg=>⟨_,aH.mono h7 hg⟩) (fun a28 x4=>?_)
        have e7:=aH.mono h7 x4
        refine yW ?_;obtain ⟨a29,h8,b⟩:=aB b
        have x5:=mH e7 (i:=5) rfl
        obtain ⟨a30,a31,h9⟩:=Cut.ex 3 b9 c0 0
        refine bX rfl (fun _ _=>aFO cI x5 h9 rfl rfl rfl h8) (yW ?_);obtain ⟨a33,i0,b⟩:=aB b
        have x6:=mH e7 (i:=5) rfl
        obtain ⟨a35,a36,i1⟩:=Cut.ex 3 b9 c0 (wr (e3.1+1))
        refine bX rfl (fun _ _=>wU cI x6 i1 rfl rfl rfl i0) (gX rfl ?_);obtain ⟨c3,x7,b⟩:=aB b
        refine WO_appV (i:=5) cI underlying25 fG rfl rfl e7 rfl h8 h9 i0 i1 x7 rfl rfl rfl rfl (fun c4 c5 x8 (i2:aH G h6 (box a0 78 [zS a1 J.length c2,i64 e3.2.1,Value.int .u64 e3.2.2]::aJ 9 K d e a.1.L::aJ 69 K g h a.1.E::box V 27 (zC a.1 d e g h)::aJ 9 K a9 b0 l.L::aJ 69 K c4 c5 c3::aJ 9 K m n c.1.L::aJ 69 K o p c.1.E::box r 27 k::box q 27 k::L) x8)=>(aX (aA ⟨⟨_,i2⟩,?_⟩)))
        refine yW ?_
        have x9:=x3 _ _ i2
        refine aCl rfl (bS (i:=0) (ns:=[zS c4 c3.length c5]) (us:=[i64 l.N,i64 l.I,zS a9 l.L.length b0,zS c4 c3.length c5]) sizeOf25 x9 rfl rfl rfl rfl rfl (cS rfl) rfl rfl (fun y0 (y1:aH G K (box a2 27 [i64 l.N,i64 l.I,zS a9 l.L.length b0,zS c4 c3.length c5]::box a0 78 [zS a1 J.length c2,i64 e3.2.1,Value.int .u64 e3.2.2]::aJ 9 K d e a.1.L::aJ 69 K g h a.1.E::box V 27 (zC a.1 d e g h)::aJ 9 K a9 b0 l.L::aJ 69 K c4 c5 c3::aJ 9 K m n c.1.L::aJ 69 K o p c.1.E::box r 27 k::box q 27 k::L) y0)=>(yW ?_)))
        refine gZ (yW ?_);exact ⟨l.N,l.I,l.L,c3,a9,b0,c4,c5,b,rfl,rfl,rfl,rfl,(aH.arr 9 [6,5,0,4,2,3] y1 rfl)⟩
       ·refine yW ?_;exact ⟨l.N,l.I,l.L,l.E,a9,b0,b9,c0,b,rfl,rfl,rfl,rfl,(aH.arr 9 [4,3,6,2,0,1] h5 rfl)⟩
      ·refine yW ?_;exact ⟨c.1.N,c.1.I,c.1.L,c.1.E,m,n,o,p,b,rfl,rfl,rfl,rfl,(aH.arr 4 [3,2,1] c1 rfl)⟩
theorem aCi {p q:Int} {R:Bool} (c:aH G K (L) w) (a:rQ p q=some R):
  Calls Tryz.prog 27 ([i64 p,i64 q]:List Value).toArray w (eN fun v w'=>v=Value.bool R/\aH G K (L) w'):=by
 refine zH func27 ?_;unfold rQ at a
 iterate 6 refine aIQ ?_
 refine cQ (fun f w=>∃ b,jQ b=some R/\f 4=Value.bool b/\aH G K (L) w) ?_ ?_
 ·rintro f i ⟨b,a,d,e⟩
  unfold jQ at a
  refine yW ?_;obtain rfl:=zI a
  exact aIK results27 ⟨d,e⟩
 refine yW ?_
 rcases aG a with ⟨h,a⟩|⟨h,a⟩
 ·refine yW ?_;exact ⟨true,a,rfl,c⟩
 ·refine yW ?_;exact ⟨decide (q < 0),a,rfl,c⟩
end Gv
namespace Gv
open Go.Value renaming slice→zS,bool→zB,pointer→zP,agg→zA,tuple→zT,map→zM
open Option.some renaming inj→zI
open Gv.Hp renaming le_trans→zL,le_refl→zR
open Go Go.Proofs Go.Proofs.Tryz
set_option maxRecDepth 20000
set_option maxHeartbeats 40000000
variable {G:uA} {K:Hp} {L:List iU} {w:World} {a1 a4 a7 a10:Option Addr} {c2 c5 c8 c11:Nat}
theorem aCN {a b:cO} {R:((List bD) × Bool)} (hs:aH G K (L) w) (h3:cR K a1 c2 a.L) (h6:cR K a4 c5 a.E) (h9:cR K a7 c8 b.L) (i7:cR K a10 c11 b.E) (hm:uL a b=some R):
  Calls Tryz.prog 55 ([zA (zCa a a1 c2 a4 c5),zA (zCa b a7 c8 a10 c11),Value.func (.func 27) #[] #[]]:List Value).toArray w (eN fun v w'=>∃ K' l8 l9,v=zT #[zS l8 R.1.length l9,zB R.2]/\Hp.le K K'/\cR K' l8 l9 R.1/\aH G K' (L) w'):=by
 let m0:=(zC a a1 c2 a4 c5)
 let m1:=[i64 a.I,i64 b.I,zS none 0 0]
 refine zH func55 ?_;unfold uL at hm
 refine yW ?_;refine fS (v:=zA (zCa a a1 c2 a4 c5)) (vs:=m0) hs rfl rfl (fun c7 s0 s1=>?_)
 obtain ⟨s2,x,i9,j0,_⟩:=aH.lendB (i:=0) s1 rfl
 replace j0:aH G s2 (L) s0:=j0
 refine fS (v:=zA (zCa b a7 c8 a10 c11)) (vs:=(zC b a7 c8 a10 c11)) j0 rfl rfl (fun c9 s3 s4=>?_);obtain ⟨a5,u,g3,e6,_⟩:=aH.lendB (i:=0) s4 rfl
 replace e6:aH G a5 (L) s3:=e6
 refine yW ?_;refine aC (bE (t:=2) fX e6 (i9.mono u) rfl rfl) (aC (bO (k':=0+2) dT (jS rfl) g3 rfl) (aC (bE (t:=2) fX e6 g3 rfl rfl) (bZ (Kt:=a5) (xs:=([a.L,b.L]:List (List bD))) (cs:=[zS a1 a.L.length c2,zS a7 b.L.length c8]) (vs:=[(0,zS a1 a.L.length c2),(1,zS a7 b.L.length c8)]) aEj ez_24 rfl rfl e6 rfl (by kernel_rfl) rfl rfl rfl ⟨⟨a1,c2,rfl,(h3.mono (zL x u))⟩,⟨a7,c8,rfl,(h9.mono (zL x u))⟩,trivial⟩ (fun g4 s5 (s6:aH G a5 (aJ 24 a5 g4 2 ([a.L,b.L]:List (List bD))::L) s5)=>?_))))
 obtain ⟨K30,a69,s7,s8,s9⟩:=aH.lendS (i:=0) s6 (zR _) rfl
 obtain ⟨j1,t0,hm⟩:=aB hm
 refine zF call94 (nB s8 s7 t0) ?_
 rintro _ w39 ⟨j2,j3,rfl,t1⟩
 have t2:=s9 _ _ t1
 obtain ⟨K42,a72,t3,t4,t5⟩:=aH.lendS (i:=1) t2 (zL x u) rfl
 obtain ⟨g5,t6,hm⟩:=aB hm
 have hcl:=mD t4 t3 (yO (α:=gV) _) t6
 refine zF call74 hcl ?_
 rintro _ t7 ⟨m2,m3,j4,j5,rfl,t8⟩
 have m4:=t5 _ _ t8
 refine aC (R_field (v:=zS m2 g5.L.length m3) fv_27_2 rfl rfl) ?_;obtain ⟨c,m5,hm⟩:=aB hm
 have t9:=mH m4 (i:=1) rfl
 obtain ⟨g,l,m6⟩:=Cut.ex 1 m2 m3 1
 refine aC (wU cF t9 m6 rfl rfl rfl m5) ?_
 have u0:aH G a5 (aJ 9 K j2 j3 j1::aJ 9 K g l c::aJ 69 K j4 j5 g5.E::aJ 24 a5 g4 2 ([a.L,b.L]:List (List bD))::L) t7:=aH.cutP m4 (i:=1) rfl m5 m6
 refine yW ?_;refine aEf (Int × Int) Bool u0 ?_
 intro n u1 (j6:aH G a5 (fF n ([]:(List ((Int × Int) × Bool)))::aJ 9 K j2 j3 j1::aJ 9 K g l c::aJ 69 K j4 j5 g5.E::aJ 24 a5 g4 2 ([a.L,b.L]:List (List bD))::L) u1)
 refine yW ?_;refine aC (bE (t:=1) cN j6 (i9.mono u) rfl rfl) (aC (bO (k':=0+1) jP (jS rfl) g3 rfl) (aC (bE (t:=1) cN j6 g3 rfl rfl) (aC (dD (vs:=[(0,i64 a.I),(1,i64 b.I),(2,zS none 0 0)]) (cs:=m1) aFe rfl (by kernel_rfl)) (bZ (Kt:=a5) (xs:=([⟨a.I,b.I,[]⟩]:List bT)) (cs:=m1) (vs:=[(0,zA #[i64 a.I,i64 b.I,zS none 0 0])]) lG yT rfl rfl j6 rfl (by kernel_rfl) rfl rfl rfl ⟨⟨none,0,rfl,yO _⟩,trivial⟩ ?_))))
 intro m7 u2 (u3:aH G a5 (aJ 65 a5 m7 1 ([⟨a.I,b.I,[]⟩]:List bT)::fF n ([]:(List ((Int × Int) × Bool)))::aJ 9 K j2 j3 j1::aJ 9 K g l c::aJ 69 K j4 j5 g5.E::aJ 24 a5 g4 2 ([a.L,b.L]:List (List bD))::L) u2)
 refine yW ?_;refine aZ (fun f w=>∃ g6,Hp.le a5 g6/\kI=some R/\aH G g6 (L) w) ?_ ?_
 ·rintro f w71 ⟨g6,u4,hm,u5⟩
  unfold kI at hm
  refine yW ?_;obtain rfl:=zI hm
  exact bK (iO results55 rfl rfl ⟨g6,none,0,rfl,(zL (zL x u) u4),yO _,u5⟩)
 obtain ⟨a74,u7,hm⟩:=aB hm
 refine cE u7 (fun s f w=>match s with|(a6,d0)=>∃ b0 d1 d2,Hp.le a5 b0/\f 2=Value.func (.func 27) #[] #[]/\f 3=cL (some ⟨c7,0,none⟩) 0/\f 4=cL (some ⟨c9,0,none⟩) 0/\f 8=zS g c.length l/\f 9=zM (some n)/\f 10=zS d1 d0.length d2/\aH G b0 (aJ 65 b0 d1 d2 d0::fF n a6::aJ 9 K g l c::L) w) ?_ ?_
 ·exact ⟨a5,m7,1,(zR _),rfl,(jS rfl),(jS rfl),rfl,rfl,rfl,(aH.arr 6 [0,1,3] u3 rfl)⟩
 ·rintro ⟨a6,d0⟩ e7 f a75 m m8 ⟨b0,d1,d2,y,j7,j8,j9,k0,k1,a76,g7⟩
  replace m:oL a b c a6 d0=some e7:=m
  unfold oL at m
  refine yW ?_
  rcases aG m with ⟨u8,m⟩|⟨u8,m⟩
  ·refine yW ?_;refine aZ (fun f w=>∃ (e8:Hp) (g8:(List ((Int × Int) × Bool))) (e9:List bT) (g9:Option Addr) (h0:Nat),Hp.le b0 e8/\kJ g8 e9=some e7/\f 2=Value.func (.func 27) #[] #[]/\f 3=cL (some ⟨c7,0,none⟩) 0/\f 4=cL (some ⟨c9,0,none⟩) 0/\f 8=zS g c.length l/\f 9=zM (some n)/\f 10=zS g9 e9.length h0/\aH G e8 (aJ 65 e8 g9 h0 e9::fF n g8::aJ 9 K g l c::L) w) ?_ ?_
   ·rintro f a77 ⟨e8,g8,e9,g9,h0,u9,m,v0,v1,v2,v3,v4,v5,v6⟩
    unfold kJ at m
    refine yW ?_;exact ⟨(g8,e9),(zI m).symm,e8,g9,h0,(zL y u9),v0,v1,v2,v3,v4,v5,v6⟩
   refine yW ?_;obtain ⟨d,k2,m⟩:=aB m
   have v7:=cU g7 (i:=0) rfl k2
   refine aC (dB lG rfl v7 rfl rfl rfl k2) ?_;obtain ⟨a78,v8,v9⟩:=aFK (sz:=3) rfl g7 (i:=0) rfl k2
   obtain ⟨b2,b3,rfl,f0⟩:=v9
   refine aC (R_ldCG (t:=0) (vs:=[i64 d.a,i64 d.b,zS b2 d.trace.length b3]) ag_65 v8 rfl rfl rfl) (bR (vs:=[i64 0,i64 0,zS none 0 0]) zeroValue65 g7 rfl (fun h1 a79 w0=>(bS (i:=0) (ns:=[i64 d.a,i64 d.b,zS b2 d.trace.length b3]) (us:=[i64 d.a,i64 d.b,zS b2 d.trace.length b3]) sizeOf65 w0 rfl rfl rfl rfl rfl (cS rfl) rfl rfl (fun k3 (w1:aH G b0 (box h1 65 [i64 d.a,i64 d.b,zS b2 d.trace.length b3]::aJ 65 b0 d1 d2 d0::fF n a6::aJ 9 K g l c::L) k3)=>?_))))
   obtain ⟨a9,p,k4,h2,_⟩:=aH.lendB (i:=0) w1 rfl
   replace h2:aH G a9 (aJ 65 b0 d1 d2 d0::fF n a6::aJ 9 K g l c::L) k3:=h2
   refine yW ?_;obtain ⟨b4,m9,m⟩:=aB m
   have w2:=own_capE h2 (i:=0) rfl
   obtain ⟨b5,b6,n0⟩:=Cut.ex 3 d1 d2 1
   refine aC (wU lG w2 n0 rfl rfl rfl m9) ?_
   have f1:aH G a9 (aJ 65 b0 b5 b6 b4::fF n a6::aJ 9 K g l c::L) k3:=aH.cutPE h2 (i:=0) rfl m9 n0
   iterate 5 refine aIQ ?_
   refine cQ (fun f w=>∃ k5,iQ a b c a6 d b4 k5=some e7/\f 2=Value.func (.func 27) #[] #[]/\f 3=cL (some ⟨c7,0,none⟩) 0/\f 4=cL (some ⟨c9,0,none⟩) 0/\f 8=zS g c.length l/\f 9=zM (some n)/\f 10=zS b5 b4.length b6/\f 11=cL (some ⟨h1,0,none⟩) 0/\f 54=zB k5/\aH G a9 (aJ 65 b0 b5 b6 b4::fF n a6::aJ 9 K g l c::L) w) ?_ ?_
   ·rintro f w3 ⟨k5,m,n1,n2,n3,n4,n5,n6,w4,a80,n7⟩
    unfold iQ at m
    refine yW ?_
    rcases aG m with ⟨w5,m⟩|⟨w5,m⟩
    ·refine yW ?_
     have w6:aH G a9 (aJ 65 a9 b5 b6 b4::fF n a6::aJ 9 K g l c::L) w3:=aH.weak (i:=0) n7 rfl (fun _ h=>aJ.mono p h)
     refine yW ?_;exact ⟨a9,a6,b4,b5,b6,p,m,n1,n2,n3,n4,n5,n6,w6⟩
    ·refine yW ?_;refine aC (aFP (vs:=[(0,i64 d.a),(1,i64 d.b)]) (cs:=[i64 d.a,i64 d.b]) ar_127 bz_127 rfl (by kernel_rfl)) ?_
     obtain ⟨r,w7,m⟩:=aB m
     refine aEh (i:=1) (k:=⟨d.a,d.b⟩) (v:=true) runUnderlying126 ko_127 n7 rfl rfl rfl rfl w7 (fun w8 (w9:aH G a9 (aJ 65 b0 b5 b6 b4::fF n r::aJ 9 K g l c::L) w8)=>(yW ?_));obtain ⟨a81,x0,m⟩:=aB m
     refine oV (vs:=[i64 d.a,i64 d.b]) (caps:=[]) (us:=[i64 d.a,i64 d.b]) rfl call27 rfl rfl (aCi w9 x0) ?_
     rintro _ x1 ⟨rfl,n8⟩
     refine yW ?_
     rcases aG m with ⟨x2,m⟩|⟨x2,m⟩
     ·refine yW ?_;refine bK (aW (cA (aW (aW ?_))))
      have x3:=m8 _ (zI m).symm
      subst x3
      have hm:(some (d.trace,true))=some R:=hm
      obtain rfl:=zI hm
      exact cA (aW (aW (iO results55 rfl rfl ⟨a9,b2,b3,rfl,(zL (zL (zL x u) y) p),(f0.mono p),(aH.arr 3 [] n8 rfl)⟩)))
     ·refine yW ?_;refine aZ (fun f w=>∃ f2 f3 h4 h5,Hp.le a9 f2/\kK r f3=some e7/\f 2=Value.func (.func 27) #[] #[]/\f 3=cL (some ⟨c7,0,none⟩) 0/\f 4=cL (some ⟨c9,0,none⟩) 0/\f 8=zS g c.length l/\f 9=zM (some n)/\f 10=zS h4 f3.length h5/\aH G f2 (aJ 65 f2 h4 h5 f3::fF n r::aJ 9 K g l c::L) w) ?_ ?_
      ·rintro f a82 ⟨f2,f3,h4,h5,x5,m,x6,x7,x8,x9,y0,y1,y2⟩
       unfold kK at m
       refine yW ?_;exact ⟨f2,r,f3,h4,h5,(zL p x5),m,x6,x7,x8,x9,y0,y1,y2⟩
      have y3:aH G a9 (aJ 65 a9 b5 b6 b4::fF n r::aJ 9 K g l c::L) x1:=aH.weak (i:=0) n8 rfl (fun _ h=>aJ.mono p h)
      obtain ⟨a83,y4,m⟩:=aB m
      refine cE y4 (fun s f w=>match s with|(J,d3)=>∃ o Z a0,Hp.le a9 o/\f 2=Value.func (.func 27) #[] #[]/\f 3=cL (some ⟨c7,0,none⟩) 0/\f 4=cL (some ⟨c9,0,none⟩) 0/\f 8=zS g c.length l/\f 9=zM (some n)/\f 10=zS Z J.length a0/\f 11=cL (some ⟨h1,0,none⟩) 0/\f 69=zS g c.length l/\f 70=i64 (c.length:Int)/\f 71=i64 d3/\aH G o (aJ 65 o Z a0 J::fF n r::aJ 9 K g l c::L) w) ?_ ?_
      ·exact ⟨a9,b5,b6,(zR _),n1,n2,n3,n4,n5,n6,w4,rfl,rfl,rfl,y3⟩
      ·rintro ⟨J,d3⟩ n9 f a84 e y5 ⟨o,Z,a0,q,f4,d4,f5,f6,f7,y6,h7,f8,h8,f9,k6⟩
       replace e:oK a b c d J d3=some n9:=e
       unfold oK at e
       refine yW ?_
       rcases aG e with ⟨y7,e⟩|⟨y7,e⟩
       ·refine yW ?_;refine cT (yW ?_)
        obtain ⟨V,o0,e⟩:=aB e
        have y8:=cU k6 (i:=2) rfl o0
        refine aC (dB cF rfl y8 f8 rfl f9 o0) (yW ?_);refine cQ (fun f w=>∃ g0 g1 i0 i1,Hp.le o g0/\oJ d3 g1=some n9/\f 2=Value.func (.func 27) #[] #[]/\f 3=cL (some ⟨c7,0,none⟩) 0/\f 4=cL (some ⟨c9,0,none⟩) 0/\f 8=zS g c.length l/\f 9=zM (some n)/\f 10=zS i0 g1.length i1/\f 11=cL (some ⟨h1,0,none⟩) 0/\f 69=zS g c.length l/\f 70=i64 (c.length:Int)/\f 71=i64 d3/\aH G g0 (aJ 65 g0 i0 i1 g1::fF n r::aJ 9 K g l c::L) w) ?_ ?_
        ·rintro f a85 ⟨g0,g1,i0,i1,y9,e,z0,z1,z2,z3,z4,z5,z6,z7,z8,a86,z9⟩
         unfold oJ at e
         refine yW ?_;exact ⟨(g1,wr (d3+1)),(zI e).symm,g0,i0,i1,(zL q y9),z0,z1,z2,z3,z4,z5,z6,z7,z8,rfl,z9⟩
        refine kP (C:=fun w'=>∃ L',aH G o L' w') [] bV (by kernel_rfl) (fun a87 a00=>?_)
        have a8:=aH.mono k6 a00
        refine aHQ 0 ?_;refine cY (i:=1) rfl (by kernel_rfl) ⟨_,a8⟩ (fun _ ⟨_,a8⟩=>eU (t:=0) (vs:=m0) cZ a8 (i9.mono (zL (zL (zL u y) p) q)) d4 rfl rfl) (aHQ 2 ?_)
        refine cY (i:=3) rfl (by kernel_rfl) ⟨_,a8⟩ (fun _ ⟨_,a8⟩=>bE (t:=0) cN a8 (k4.mono q) rfl rfl) (aHQ 4 ?_);refine aHQ 6 ?_
        refine aHQ 7 ?_;refine cY (i:=8) rfl (by kernel_rfl) ⟨_,a8⟩ (fun _ ⟨_,a8⟩=>bE (t:=1) cN a8 (k4.mono q) rfl rfl) (aHQ 9 ?_)
        refine aHQ 11 ?_;refine cY (i:=12) rfl (by kernel_rfl) ⟨_,a8⟩ (fun _ ⟨_,a8⟩=>bE (t:=2) fX a8 (k4.mono q) rfl rfl) (aHQ 14 ?_)
        refine gY (i:=5) (j:=15) (by kernel_rfl) rfl rfl ?_ ?_
        ·obtain ⟨a3,a01,e⟩:=aB e
         refine aS (vs:=[zA (zCa a a1 c2 a4 c5),i64 d.a,str V]) call95 rfl (jB a8 (h3.mono (zL (zL (zL (zL x u) y) p) q)) (h6.mono (zL (zL (zL (zL x u) y) p) q)) a01) ?_
         rintro _ a88 ⟨rfl,k7⟩
         refine aX (aA ⟨fun _=>⟨_,k7⟩,?_⟩)
         refine gY (i:=10) (j:=15) (by kernel_rfl) rfl rfl ?_ ?_
         ·obtain ⟨b1,a02,e⟩:=aB e
          refine aS (vs:=[zA (zCa b a7 c8 a10 c11),i64 d.b,str V]) call95 rfl (jB k7 (h9.mono (zL (zL (zL (zL x u) y) p) q)) (i7.mono (zL (zL (zL (zL x u) y) p) q)) a02) ?_
          rintro _ a89 ⟨rfl,k8⟩
          refine aX (aA ⟨fun _=>⟨_,k8⟩,?_⟩)
          refine gY (i:=13) (j:=15) (by kernel_rfl) rfl rfl ?_ ?_
          ·obtain ⟨a03,a04,e⟩:=aB e
           refine aS (vs:=[zS b2 d.trace.length b3]) call33 rfl (dH k8 (f0.mono (zL p q)) a04) ?_
           rintro _ a90 ⟨a05,a06,rfl,o1⟩
           refine aX (aA ⟨fun _=>⟨_,o1⟩,?_⟩)
           refine cC (i:=15) (by kernel_rfl) rfl (bZ (Kt:=K) (xs:=([V]:List bD)) (cs:=[str V]) (vs:=[(0,str V)]) cF fL rfl rfl o1 rfl (by kernel_rfl) rfl rfl rfl ⟨rfl,trivial⟩ (fun a07 a08 (o2:aH G o (aJ 9 K a07 1 ([V]:List bD)::aJ 9 K a05 a06 a03::aJ 65 o Z a0 J::fF n r::aJ 9 K g l c::L) a08)=>(aX (aA ⟨fun _=>⟨_,o2⟩,?_⟩))))
           refine cC (i:=16) (by kernel_rfl) rfl ?_;obtain ⟨c1,a09,e⟩:=aB e
           refine dA (i:=0) cF underlying24 fL rfl rfl o2 rfl (zL (zL (zL (zL x u) y) p) q) (zL (zL (zL (zL x u) y) p) q) a09 rfl rfl rfl rfl (fun _ h=>h) (fun d5 d6 o3 (k9:aH G o (aJ 9 K d5 d6 c1::aJ 65 o Z a0 J::fF n r::aJ 9 K g l c::L) o3)=>(aX (aA ⟨fun _=>⟨_,k9⟩,?_⟩)))
           refine cY (i:=17) rfl (by kernel_rfl) ⟨_,k9⟩ (fun _ _=>dD (vs:=[(0,i64 a3),(1,i64 b1),(2,zS d5 c1.length d6)]) (cs:=[i64 a3,i64 b1,zS d5 c1.length d6]) aFe rfl (by kernel_rfl)) (cC (i:=18) (by kernel_rfl) rfl ?_);obtain ⟨b7,i2,a11,l0⟩:=aH.giveS (i:=0) k9 (zL (zL (zL (zL x u) y) p) q) rfl
           replace l0:aH G b7 (aJ 65 o Z a0 J::fF n r::aJ 9 K g l c::L) o3:=l0
           refine bZ (Kt:=b7) (xs:=([⟨a3,b1,c1⟩]:List bT)) (cs:=[i64 a3,i64 b1,zS d5 c1.length d6]) (vs:=[(0,zA #[i64 a3,i64 b1,zS d5 c1.length d6])]) lG yT rfl rfl l0 rfl (by kernel_rfl) rfl rfl rfl ⟨⟨d5,d6,rfl,a11⟩,trivial⟩ (fun a12 a13 (o4:aH G b7 (aJ 65 b7 a12 1 ([⟨a3,b1,c1⟩]:List bT)::aJ 65 o Z a0 J::fF n r::aJ 9 K g l c::L) a13)=>(aX (aA ⟨fun _=>⟨_,(aH.weakK o4 i2)⟩,?_⟩)))
           refine cC (i:=19) (by kernel_rfl) rfl ?_;obtain ⟨o5,a14,e⟩:=aB e
           refine yR (i:=0) b7 lG underlying66 yT rfl rfl o4 rfl i2 (zR _) a14 rfl rfl rfl rfl (fun _ _ _ h=>El.one h) (fun o6 o7 a15 (o8:aH G b7 (aJ 65 b7 o6 o7 o5::fF n r::aJ 9 K g l c::L) a15)=>(aX (aA ⟨fun _=>⟨_,(aH.weakK o8 i2)⟩,?_⟩)))
           refine aHQ 20 ?_;refine dW (by kernel_rfl) (yW ?_)
           exact ⟨b7,o5,o6,o7,i2,e,f4,d4,f5,f6,f7,rfl,h7,f8,h8,f9,o8⟩
          ·refine bZ (Kt:=K) (xs:=([V]:List bD)) (cs:=[str V]) (vs:=[(0,str V)]) cF fL rfl rfl k8 rfl (by kernel_rfl) rfl rfl rfl ⟨rfl,trivial⟩ (fun o9 a16 (p0:aH G o (aJ 9 K o9 1 ([V]:List bD)::aJ 65 o Z a0 J::fF n r::aJ 9 K g l c::L) a16)=>(aX (aA ⟨fun _=>⟨_,p0⟩,?_⟩)))
           refine cC (i:=13) (by kernel_rfl) rfl ?_;obtain ⟨a17,a18,e⟩:=aB e
           refine aS (vs:=[zS b2 d.trace.length b3]) call33 rfl (dH p0 (f0.mono (zL p q)) a18) ?_
           rintro _ a19 ⟨a20,a21,rfl,p1⟩
           refine aX (aA ⟨fun _=>⟨_,p1⟩,?_⟩)
           refine cC (i:=16) (by kernel_rfl) rfl ?_;obtain ⟨c3,a22,e⟩:=aB e
           have a23:aH G o (aJ 9 K o9 1 ([V]:List bD)::aJ 9 K a20 a21 a17::aJ 65 o Z a0 J::fF n r::aJ 9 K g l c::L) a19:=(aH.arr 2 [1,0] p1 rfl)
           refine dA (i:=0) cF underlying24 fL rfl rfl a23 rfl (zL (zL (zL (zL x u) y) p) q) (zL (zL (zL (zL x u) y) p) q) a22 rfl rfl rfl rfl (fun _ h=>h) (fun d7 d8 p2 (l1:aH G o (aJ 9 K d7 d8 c3::aJ 65 o Z a0 J::fF n r::aJ 9 K g l c::L) p2)=>(aX (aA ⟨fun _=>⟨_,l1⟩,?_⟩)))
           refine cY (i:=17) rfl (by kernel_rfl) ⟨_,l1⟩ (fun _ _=>dD (vs:=[(0,i64 a3),(1,i64 b1),(2,zS d7 c3.length d8)]) (cs:=[i64 a3,i64 b1,zS d7 c3.length d8]) aFe rfl (by kernel_rfl)) (cC (i:=18) (by kernel_rfl) rfl ?_);obtain ⟨b8,i3,a24,l2⟩:=aH.giveS (i:=0) l1 (zL (zL (zL (zL x u) y) p) q) rfl
           replace l2:aH G b8 (aJ 65 o Z a0 J::fF n r::aJ 9 K g l c::L) p2:=l2
           refine bZ (Kt:=b8) (xs:=([⟨a3,b1,c3⟩]:List bT)) (cs:=[i64 a3,i64 b1,zS d7 c3.length d8]) (vs:=[(0,zA #[i64 a3,i64 b1,zS d7 c3.length d8])]) lG yT rfl rfl l2 rfl (by kernel_rfl) rfl rfl rfl ⟨⟨d7,d8,rfl,a24⟩,trivial⟩ (fun a25 a26 (p3:aH G b8 (aJ 65 b8 a25 1 ([⟨a3,b1,c3⟩]:List bT)::aJ 65 o Z a0 J::fF n r::aJ 9 K g l c::L) a26)=>(aX (aA ⟨fun _=>⟨_,(aH.weakK p3 i3)⟩,?_⟩)))
           refine cC (i:=19) (by kernel_rfl) rfl ?_;obtain ⟨p4,a28,e⟩:=aB e
           refine yR (i:=0) b8 lG underlying66 yT rfl rfl p3 rfl i3 (zR _) a28 rfl rfl rfl rfl (fun _ _ _ h=>El.one h) (fun p5 p6 a29 (p7:aH G b8 (aJ 65 b8 p5 p6 p4::fF n r::aJ 9 K g l c::L) a29)=>(aX (aA ⟨fun _=>⟨_,(aH.weakK p7 i3)⟩,?_⟩)))
           refine aHQ 20 ?_;refine dW (by kernel_rfl) (yW ?_)
           exact ⟨b8,p4,p5,p6,i3,e,f4,d4,f5,f6,f7,rfl,h7,f8,h8,f9,p7⟩
         ·refine bZ (Kt:=K) (xs:=([V]:List bD)) (cs:=[str V]) (vs:=[(0,str V)]) cF fL rfl rfl k7 rfl (by kernel_rfl) rfl rfl rfl ⟨rfl,trivial⟩ (fun p8 a30 (p9:aH G o (aJ 9 K p8 1 ([V]:List bD)::aJ 65 o Z a0 J::fF n r::aJ 9 K g l c::L) a30)=>(aX (aA ⟨fun _=>⟨_,p9⟩,?_⟩)))
          refine cC (i:=10) (by kernel_rfl) rfl ?_;obtain ⟨d9,a31,e⟩:=aB e
          refine aS (vs:=[zA (zCa b a7 c8 a10 c11),i64 d.b,str V]) call95 rfl (jB p9 (h9.mono (zL (zL (zL (zL x u) y) p) q)) (i7.mono (zL (zL (zL (zL x u) y) p) q)) a31) ?_
          rintro _ a91 ⟨rfl,q0⟩
          refine aX (aA ⟨fun _=>⟨_,q0⟩,?_⟩)
          refine cC (i:=13) (by kernel_rfl) rfl ?_;obtain ⟨a32,a33,e⟩:=aB e
          refine aS (vs:=[zS b2 d.trace.length b3]) call33 rfl (dH q0 (f0.mono (zL p q)) a33) ?_
          rintro _ a34 ⟨a35,a36,rfl,q1⟩
          refine aX (aA ⟨fun _=>⟨_,q1⟩,?_⟩)
          refine cC (i:=16) (by kernel_rfl) rfl ?_;obtain ⟨c4,a38,e⟩:=aB e
          have a39:aH G o (aJ 9 K p8 1 ([V]:List bD)::aJ 9 K a35 a36 a32::aJ 65 o Z a0 J::fF n r::aJ 9 K g l c::L) a34:=(aH.arr 2 [1,0] q1 rfl)
          refine dA (i:=0) cF underlying24 fL rfl rfl a39 rfl (zL (zL (zL (zL x u) y) p) q) (zL (zL (zL (zL x u) y) p) q) a38 rfl rfl rfl rfl (fun _ h=>h) (fun e0 e1 q2 (l3:aH G o (aJ 9 K e0 e1 c4::aJ 65 o Z a0 J::fF n r::aJ 9 K g l c::L) q2)=>(aX (aA ⟨fun _=>⟨_,l3⟩,?_⟩)))
          refine cY (i:=17) rfl (by kernel_rfl) ⟨_,l3⟩ (fun _ _=>dD (vs:=[(0,i64 a3),(1,i64 d9),(2,zS e0 c4.length e1)]) (cs:=[i64 a3,i64 d9,zS e0 c4.length e1]) aFe rfl (by kernel_rfl)) (cC (i:=18) (by kernel_rfl) rfl ?_);obtain ⟨b9,i4,a40,l4⟩:=aH.giveS (i:=0) l3 (zL (zL (zL (zL x u) y) p) q) rfl
          replace l4:aH G b9 (aJ 65 o Z a0 J::fF n r::aJ 9 K g l c::L) q2:=l4
          refine bZ (Kt:=b9) (xs:=([⟨a3,d9,c4⟩]:List bT)) (cs:=[i64 a3,i64 d9,zS e0 c4.length e1]) (vs:=[(0,zA #[i64 a3,i64 d9,zS e0 c4.length e1])]) lG yT rfl rfl l4 rfl (by kernel_rfl) rfl rfl rfl ⟨⟨e0,e1,rfl,a40⟩,trivial⟩ (fun a41 a42 (q3:aH G b9 (aJ 65 b9 a41 1 ([⟨a3,d9,c4⟩]:List bT)::aJ 65 o Z a0 J::fF n r::aJ 9 K g l c::L) a42)=>(aX (aA ⟨fun _=>⟨_,(aH.weakK q3 i4)⟩,?_⟩)))
          refine cC (i:=19) (by kernel_rfl) rfl ?_;obtain ⟨q4,a43,e⟩:=aB e
          refine yR (i:=0) b9 lG underlying66 yT rfl rfl q3 rfl i4 (zR _) a43 rfl rfl rfl rfl (fun _ _ _ h=>El.one h) (fun q5 q6 a44 (q7:aH G b9 (aJ 65 b9 q5 q6 q4::fF n r::aJ 9 K g l c::L) a44)=>(aX (aA ⟨fun _=>⟨_,(aH.weakK q7 i4)⟩,?_⟩)))
          refine aHQ 20 ?_;refine dW (by kernel_rfl) (yW ?_)
          exact ⟨b9,q4,q5,q6,i4,e,f4,d4,f5,f6,f7,rfl,h7,f8,h8,f9,q7⟩
        ·refine bZ (Kt:=K) (xs:=([V]:List bD)) (cs:=[str V]) (vs:=[(0,str V)]) cF fL rfl rfl a8 rfl (by kernel_rfl) rfl rfl rfl ⟨rfl,trivial⟩ (fun q8 a45 (q9:aH G o (aJ 9 K q8 1 ([V]:List bD)::aJ 65 o Z a0 J::fF n r::aJ 9 K g l c::L) a45)=>(aX (aA ⟨fun _=>⟨_,q9⟩,?_⟩)))
         refine cC (i:=5) (by kernel_rfl) rfl ?_;obtain ⟨e2,a46,e⟩:=aB e
         refine aS (vs:=[zA (zCa a a1 c2 a4 c5),i64 d.a,str V]) call95 rfl (jB q9 (h3.mono (zL (zL (zL (zL x u) y) p) q)) (h6.mono (zL (zL (zL (zL x u) y) p) q)) a46) ?_
         rintro _ a92 ⟨rfl,r0⟩
         refine aX (aA ⟨fun _=>⟨_,r0⟩,?_⟩)
         refine cC (i:=10) (by kernel_rfl) rfl ?_;obtain ⟨e3,a47,e⟩:=aB e
         refine aS (vs:=[zA (zCa b a7 c8 a10 c11),i64 d.b,str V]) call95 rfl (jB r0 (h9.mono (zL (zL (zL (zL x u) y) p) q)) (i7.mono (zL (zL (zL (zL x u) y) p) q)) a47) ?_
         rintro _ a93 ⟨rfl,r1⟩
         refine aX (aA ⟨fun _=>⟨_,r1⟩,?_⟩)
         refine cC (i:=13) (by kernel_rfl) rfl ?_;obtain ⟨a48,a50,e⟩:=aB e
         refine aS (vs:=[zS b2 d.trace.length b3]) call33 rfl (dH r1 (f0.mono (zL p q)) a50) ?_
         rintro _ a52 ⟨a53,a54,rfl,r2⟩
         refine aX (aA ⟨fun _=>⟨_,r2⟩,?_⟩)
         refine cC (i:=16) (by kernel_rfl) rfl ?_;obtain ⟨c6,a55,e⟩:=aB e
         have a56:aH G o (aJ 9 K q8 1 ([V]:List bD)::aJ 9 K a53 a54 a48::aJ 65 o Z a0 J::fF n r::aJ 9 K g l c::L) a52:=(aH.arr 2 [1,0] r2 rfl)
         refine dA (i:=0) cF underlying24 fL rfl rfl a56 rfl (zL (zL (zL (zL x u) y) p) q) (zL (zL (zL (zL x u) y) p) q) a55 rfl rfl rfl rfl (fun _ h=>h) (fun e4 e5 r3 (l5:aH G o (aJ 9 K e4 e5 c6::aJ 65 o Z a0 J::fF n r::aJ 9 K g l c::L) r3)=>(aX (aA ⟨fun _=>⟨_,l5⟩,?_⟩)))
         refine cY (i:=17) rfl (by kernel_rfl) ⟨_,l5⟩ (fun _ _=>dD (vs:=[(0,i64 e2),(1,i64 e3),(2,zS e4 c6.length e5)]) (cs:=[i64 e2,i64 e3,zS e4 c6.length e5]) aFe rfl (by kernel_rfl)) (cC (i:=18) (by kernel_rfl) rfl ?_);obtain ⟨c0,i5,a57,l6⟩:=aH.giveS (i:=0) l5 (zL (zL (zL (zL x u) y) p) q) rfl
         replace l6:aH G c0 (aJ 65 o Z a0 J::fF n r::aJ 9 K g l c::L) r3:=l6
         refine bZ (Kt:=c0) (xs:=([⟨e2,e3,c6⟩]:List bT)) (cs:=[i64 e2,i64 e3,zS e4 c6.length e5]) (vs:=[(0,zA #[i64 e2,i64 e3,zS e4 c6.length e5])]) lG yT rfl rfl l6 rfl (by kernel_rfl) rfl rfl rfl ⟨⟨e4,e5,rfl,a57⟩,trivial⟩ (fun a59 a60 (r4:aH G c0 (aJ 65 c0 a59 1 ([⟨e2,e3,c6⟩]:List bT)::aJ 65 o Z a0 J::fF n r::aJ 9 K g l c::L) a60)=>(aX (aA ⟨fun _=>⟨_,(aH.weakK r4 i5)⟩,?_⟩)))
         refine cC (i:=19) (by kernel_rfl) rfl ?_;obtain ⟨r5,a61,e⟩:=aB e
         refine yR (i:=0) c0 lG underlying66 yT rfl rfl r4 rfl i5 (zR _) a61 rfl rfl rfl rfl (fun _ _ _ h=>El.one h) (fun r6 r7 a62 (r8:aH G c0 (aJ 65 c0 r6 r7 r5::fF n r::aJ 9 K g l c::L) a62)=>(aX (aA ⟨fun _=>⟨_,(aH.weakK r8 i5)⟩,?_⟩)))
         refine aHQ 20 ?_;refine dW (by kernel_rfl) (yW ?_)
         exact ⟨c0,r5,r6,r7,i5,e,f4,d4,f5,f6,f7,rfl,h7,f8,h8,f9,r8⟩
       ·refine yW ?_
        have a63:=y5 _ (zI e).symm
        subst a63
        have m:(kK r J)=some e7:=m
        refine yW ?_;exact ⟨o,J,Z,a0,q,m,f4,d4,f5,f6,f7,y6,k6⟩
   refine yW ?_
   rcases aG m with ⟨a64,m⟩|⟨a64,m⟩
   ·refine yW ?_
    rcases aG m with ⟨a65,m⟩|⟨a65,m⟩
    ·refine yW ?_;exact ⟨true,m,j7,j8,j9,k0,k1,rfl,(jS rfl),rfl,f1⟩
    ·refine yW ?_;refine aC (aFP (vs:=[(0,i64 d.a),(1,i64 d.b)]) (cs:=[i64 d.a,i64 d.b]) ar_127 bz_127 rfl (by kernel_rfl)) (yW ?_)
     refine aC (R_look1 (kv:=a6) (k:=⟨d.a,d.b⟩) (z:=(false:Bool)) runUnderlying126 ko_127 zeroValue4 f1 (i:=1) rfl rfl rfl) (yW ?_);exact ⟨((iV a6 ⟨d.a,d.b⟩).getD false),m,j7,j8,j9,k0,k1,rfl,(jS rfl),rfl,f1⟩
   ·refine yW ?_;refine aC (aFP (vs:=[(0,i64 d.a),(1,i64 d.b)]) (cs:=[i64 d.a,i64 d.b]) ar_127 bz_127 rfl (by kernel_rfl)) (yW ?_)
    refine aC (R_look1 (kv:=a6) (k:=⟨d.a,d.b⟩) (z:=(false:Bool)) runUnderlying126 ko_127 zeroValue4 f1 (i:=1) rfl rfl rfl) (yW ?_);exact ⟨((iV a6 ⟨d.a,d.b⟩).getD false),m,j7,j8,j9,k0,k1,rfl,(jS rfl),rfl,f1⟩
  ·refine yW ?_
   have a67:=m8 _ (zI m).symm
   subst a67
   have hm:(kI)=some R:=hm
   refine yW ?_;exact ⟨b0,y,hm,(aH.arr 3 [] g7 rfl)⟩
theorem aBd {a b:cO} {R:(Bool × (List bD) × Int)} (hs:aH G K (L) w) (u:G.lo=0) (h3:cR K a1 c2 a.L) (h6:cR K a4 c5 a.E) (h9:cR K a7 c8 b.L) (b8:cR K a10 c11 b.E) (e:oM a b=some R):
  Calls Tryz.prog 25 ([zA (zCa a a1 c2 a4 c5),zA (zCa b a7 c8 a10 c11),Value.func (.func 27) #[] #[]]:List Value).toArray w (eN fun v w'=>∃ K' b9 c0,v=zT #[zB R.1,zS b9 R.2.1.length c0,i64 R.2.2]/\Hp.le K K'/\cR K' b9 c0 R.2.1/\aH G K' (L) w'):=by
 let x:=(zC b a7 c8 a10 c11)
 let y:=(zC a a1 c2 a4 c5)
 refine zH func25 ?_;unfold oM at e
 refine yW ?_;refine fS (v:=zA (zCa a a1 c2 a4 c5)) (vs:=y) hs rfl rfl (fun z h1 d2=>(fS (v:=zA (zCa b a7 c8 a10 c11)) (vs:=x) d2 rfl rfl (fun J h2 d3=>?_)))
 iterate 7 refine aIQ ?_
 refine cQ (fun f w=>∃ a8,iT a b a8=some R/\f 2=Value.func (.func 27) #[] #[]/\f 3=zP (some ⟨z,0,none⟩)/\f 4=zP (some ⟨J,0,none⟩)/\f 24=zB a8/\aH G K (box J 27 x::box z 27 y::L) w) ?_ ?_
 ·rintro f h4 ⟨a8,e,c1,h5,h7,h8,c3⟩
  unfold iT at e
  refine yW ?_
  rcases aG e with ⟨d4,e⟩|⟨d4,e⟩
  ·refine yW ?_;obtain rfl:=zI e
   exact bK (aW (aAf results25 rfl rfl rfl ⟨K,none,0,rfl,(zR _),yO _,(aH.arr 2 [] c3 rfl)⟩))
  ·refine yW ?_;obtain ⟨c,d6,e⟩:=aB e
   refine zF call37 (iN c3 u h3 h6 d6) ?_
   rintro _ i0 ⟨a9,l,m,g,h,c4,c6,rfl,p,d7⟩
   refine yW ?_;refine bR (vs:=zG) zeroValue27 d7 rfl (fun q i1 d8=>(bS (i:=0) (ns:=(zC c.1 l m g h)) (us:=(zC c.1 l m g h)) sizeOf27 d8 rfl rfl rfl rfl rfl (cS rfl) rfl rfl (fun d9 (e0:aH G a9 (box q 27 (zC c.1 l m g h)::aJ 9 K l m c.1.L::aJ 69 K g h c.1.E::aJ 35 a9 c4 c6 c.2.1::box J 27 x::box z 27 y::L) d9)=>(yW ?_))))
   obtain ⟨d,e1,e⟩:=aB e
   refine zF call37 (iN e0 u (h9.mono p) (b8.mono p) e1) ?_
   rintro _ i2 ⟨V,n,o,j,k,e2,e3,rfl,t,e4⟩
   refine yW ?_;refine bR (vs:=zG) zeroValue27 e4 rfl (fun r i3 e5=>(bS (i:=0) (ns:=(zC d.1 n o j k)) (us:=(zC d.1 n o j k)) sizeOf27 e5 rfl rfl rfl rfl rfl (cS rfl) rfl rfl (fun e6 (c7:aH G V (box r 27 (zC d.1 n o j k)::aJ 9 K n o d.1.L::aJ 69 K j k d.1.E::aJ 35 V e2 e3 d.2.1::box q 27 (zC c.1 l m g h)::aJ 9 K l m c.1.L::aJ 69 K g h c.1.E::aJ 35 a9 c4 c6 c.2.1::box J 27 x::box z 27 y::L) e6)=>?_)))
   iterate 6 refine aIQ ?_
   refine cQ (fun f w=>∃ b0,iS c d b0=some R/\f 2=Value.func (.func 27) #[] #[]/\f 9=zP (some ⟨q,0,none⟩)/\f 12=zP (some ⟨r,0,none⟩)/\f 42=zB b0/\aH G V (box r 27 (zC d.1 n o j k)::aJ 9 K n o d.1.L::aJ 69 K j k d.1.E::box q 27 (zC c.1 l m g h)::aJ 9 K l m c.1.L::aJ 69 K g h c.1.E::L) w) ?_ ?_
   ·rintro f Z ⟨b0,e,i4,i5,i6,i7,c9⟩
    unfold iS at e
    refine yW ?_
    rcases aG e with ⟨e7,e⟩|⟨e7,e⟩
    ·refine yW ?_;obtain rfl:=zI e
     exact bK (aW (aAf results25 rfl rfl rfl ⟨V,none,0,rfl,(zL p t),yO _,(aH.arr 6 [] c9 rfl)⟩))
    ·refine yW ?_;obtain ⟨e9,a0,f0,b1⟩:=aH.giveS (i:=4) c9 (zL p t) rfl
     replace b1:aH G e9 (box r 27 (zC d.1 n o j k)::aJ 9 K n o d.1.L::aJ 69 K j k d.1.E::box q 27 (zC c.1 l m g h)::aJ 69 K g h c.1.E::L) Z:=b1
     obtain ⟨f1,a2,f2,b2⟩:=aH.giveS (i:=4) b1 (zL (zL p t) a0) rfl
     replace b2:aH G f1 (box r 27 (zC d.1 n o j k)::aJ 9 K n o d.1.L::aJ 69 K j k d.1.E::box q 27 (zC c.1 l m g h)::L) Z:=b2
     obtain ⟨f3,a3,f4,b3⟩:=aH.giveS (i:=1) b2 (zL (zL (zL p t) a0) a2) rfl
     replace b3:aH G f3 (box r 27 (zC d.1 n o j k)::aJ 69 K j k d.1.E::box q 27 (zC c.1 l m g h)::L) Z:=b3
     obtain ⟨f5,a5,f6,b4⟩:=aH.giveS (i:=1) b3 (zL (zL (zL (zL p t) a0) a2) a3) rfl
     replace b4:aH G f5 (box r 27 (zC d.1 n o j k)::box q 27 (zC c.1 l m g h)::L) Z:=b4
     obtain ⟨i8,f7,e⟩:=aB e
     refine zF call55 (aCN (a:=⟨c.1.N,c.1.I,c.1.L,c.1.E⟩) (b:=⟨d.1.N,d.1.I,d.1.L,d.1.E⟩) b4 (f0.mono (zL (zL a2 a3) a5)) (f2.mono (zL a3 a5)) (f4.mono a5) f6 f7) ?_
     rintro _ i9 ⟨f8,f9,g0,rfl,g1,g2,g3⟩
     refine yW ?_;obtain rfl:=zI e
     exact bK (aAf results25 rfl rfl rfl ⟨f8,f9,g0,rfl,(zL (zL (zL (zL (zL (zL p t) a0) a2) a3) a5) g1),g2,(aH.arr 2 [] g3 rfl)⟩)
   refine yW ?_
   rcases aG e with ⟨g5,e⟩|⟨g5,e⟩
   ·refine yW ?_;exact ⟨true,e,c1,rfl,rfl,rfl,(aH.arr 10 [0,1,2,4,5,6] c7 rfl)⟩
   ·refine yW ?_;exact ⟨!d.2.2,e,c1,rfl,rfl,rfl,(aH.arr 10 [0,1,2,4,5,6] c7 rfl)⟩
 refine yW ?_;obtain ⟨j0,g6,e⟩:=aB e
 refine zF call34 (jA d3 u h3 h6 g6) ?_
 rintro _ j1 ⟨rfl,d0⟩
 refine yW ?_
 rcases aG e with ⟨g7,e⟩|⟨g7,e⟩
 ·refine yW ?_;exact ⟨true,e,rfl,rfl,rfl,rfl,d0⟩
 ·refine yW ?_;obtain ⟨g8,g9,e⟩:=aB e
  refine zF call34 (jA d0 u h9 b8 g9) ?_
  rintro _ j2 ⟨rfl,h0⟩
  refine yW ?_;exact ⟨!g8,e,rfl,rfl,rfl,rfl,h0⟩
theorem yE {a b:cO} {R:(Bool × (List bD) × Int)} (h:aH G K (L) w) (i:G.lo=0) (j:cR K a1 c2 a.L) (k:cR K a4 c5 a.E) (l:cR K a7 c8 b.L) (m:cR K a10 c11 b.E) (c:tF a b=some R):
  Calls Tryz.prog 8 ([zA (zCa a a1 c2 a4 c5),zA (zCa b a7 c8 a10 c11)]:List Value).toArray w (eN fun v w'=>∃ d e g,v=zT #[zB R.1,zS e R.2.1.length g,i64 R.2.2]/\Hp.le K d/\cR d e g R.2.1/\aH G d (L) w'):=by
 refine zH func8 ?_;unfold tF at c
 refine yW ?_;refine fS (v:=zA (zCa a a1 c2 a4 c5)) (vs:=(zC a a1 c2 a4 c5)) h rfl rfl (fun J V n=>(fS (v:=zA (zCa b a7 c8 a10 c11)) (vs:=(zC b a7 c8 a10 c11)) n rfl rfl (fun Z a0 o=>(yW ?_))))
 obtain ⟨a2,p,c⟩:=aB c
 refine zF call25 (aBd o i j k l m p) ?_
 rintro _ a3 ⟨q,r,t,rfl,u,x,y⟩
 refine yW ?_;obtain rfl:=zI c
 exact bK (aAf results8 rfl rfl rfl ⟨q,r,t,rfl,u,x,(aH.arr 2 [] y rfl)⟩)
theorem nC {n low b:Int} {R:Bool} (d:aH G K (L) w) (a:zW n low b=some R):
  Calls Tryz.prog 56 ([i64 n,i64 low,i64 b]:List Value).toArray w (eN fun v w'=>v=zB R/\aH G K (L) w'):=by
 refine zH func56 ?_;unfold zW at a
 iterate 6 refine aIQ ?_
 refine cQ (fun f w=>∃ c,aBH c=some R/\f 6=zB c/\aH G K (L) w) ?_ ?_
 ·rintro f j ⟨c,a,e,g⟩
  unfold aBH at a
  refine yW ?_;obtain rfl:=zI a
  exact aIK results56 ⟨e,g⟩
 refine yW ?_
 rcases aG a with ⟨i,a⟩|⟨i,a⟩
 ·refine yW ?_;exact ⟨decide (n<=b),a,rfl,d⟩
 ·refine yW ?_;exact ⟨false,a,rfl,d⟩
theorem aGn {c:bD} {R:Int} (i:aH G K (L) w) (b:aEN c=some R):
  Calls Tryz.prog 156 ([str c]:List Value).toArray w (eN fun v w'=>v=i64 R/\aH G K (L) w'):=by
 refine zH func156 ?_;unfold aEN at b
 refine yW ?_;refine aZ (fun f w=>wF c=some R/\f 0=str c/\aH G K (L) w) ?_ ?_
 ·rintro f u ⟨b,x,j⟩
  unfold wF at b
  refine yW ?_;refine aC (fK runUnderlying9 rfl) (yW ?_)
  obtain rfl:=zI b
  exact aIK results156 ⟨rfl,j⟩
 obtain ⟨y,l,b⟩:=aB b
 refine cE l (fun (d:Int) f w=>f 0=str c/\f 3=i64 d/\aH G K (L) w) ?_ ?_
 ·exact ⟨rfl,rfl,i⟩
 ·rintro d m f z a g ⟨h,J,e⟩
  replace a:aBI c d=some m:=a
  unfold aBI at a
  refine yW ?_;refine aC (fK runUnderlying9 rfl) (yW ?_)
  rcases aG a with ⟨n,a⟩|⟨n,a⟩
  ·refine yW ?_;refine cT (yW ?_)
   obtain ⟨V,o,a⟩:=aB a
   refine aC (aAV runUnderlying9 rfl rfl o) (yW ?_)
   rcases aG a with ⟨p,a⟩|⟨p,a⟩
   ·refine yW ?_;refine bK (cA (aW (aW ?_)))
    have q:=g _ (zI a).symm
    subst q
    have b:(some d)=some R:=b
    obtain rfl:=zI b
    exact cA (aW (aW (bM results156 rfl ⟨rfl,e⟩)))
   ·refine yW ?_;exact ⟨wr (d+1),(zI a).symm,h,rfl,e⟩
  ·refine yW ?_
   have t:=g _ (zI a).symm
   subst t
   have b:(wF c)=some R:=b
   refine yW ?_;exact ⟨b,h,e⟩
theorem aCe {c:UInt8} {R:Bool} (d:aH G K (L) w) (a:aBJ c=some R):
  Calls Tryz.prog 198 ([Value.int .u8 (c.toNat:Int)]:List Value).toArray w (eN fun v w'=>v=zB R/\aH G K (L) w'):=by
 refine zH func198 ?_;unfold aBJ at a
 iterate 6 refine aIQ ?_
 refine cQ (fun f w=>∃ b,tG b=some R/\f 2=zB b/\aH G K (L) w) ?_ ?_
 ·rintro f j ⟨b,a,e,g⟩
  unfold tG at a
  refine yW ?_;obtain rfl:=zI a
  exact aIK results198 ⟨e,g⟩
 refine yW ?_
 rcases aG a with ⟨i,a⟩|⟨i,a⟩
 ·refine yW ?_;exact ⟨decide ((c.toNat:Int)<=122),a,rfl,d⟩
 ·refine yW ?_;exact ⟨false,a,rfl,d⟩
theorem aCf {c:UInt8} {R:Bool} (d:aH G K (L) w) (a:aBK c=some R):
  Calls Tryz.prog 199 ([Value.int .u8 (c.toNat:Int)]:List Value).toArray w (eN fun v w'=>v=zB R/\aH G K (L) w'):=by
 refine zH func199 ?_;unfold aBK at a
 iterate 6 refine aIQ ?_
 refine cQ (fun f w=>∃ b,tH b=some R/\f 2=zB b/\aH G K (L) w) ?_ ?_
 ·rintro f j ⟨b,a,e,g⟩
  unfold tH at a
  refine yW ?_;obtain rfl:=zI a
  exact aIK results199 ⟨e,g⟩
 refine yW ?_
 rcases aG a with ⟨i,a⟩|⟨i,a⟩
 ·refine yW ?_;exact ⟨decide ((c.toNat:Int)<=57),a,rfl,d⟩
 ·refine yW ?_;exact ⟨false,a,rfl,d⟩
theorem aCO {c:bD} {R:Bool} (e:aH G K (L) w) (a:aDe c=some R):
  Calls Tryz.prog 157 ([str c]:List Value).toArray w (eN fun v w'=>v=zB R/\aH G K (L) w'):=by
 refine zH func157 ?_;unfold aDe at a
 iterate 7 refine aIQ ?_
 refine cQ (fun f w=>∃ g,qI c g=some R/\f 0=str c/\f 16=zB g/\aH G K (L) w) ?_ ?_
 ·rintro f w4 ⟨g,a,r,e3,i⟩
  unfold qI at a
  refine yW ?_
  rcases aG a with ⟨t,a⟩|⟨t,a⟩
  ·refine yW ?_;obtain rfl:=zI a
   exact bK (aW (bM results157 rfl ⟨rfl,i⟩))
  ·refine yW ?_;refine aZ (fun f w=>wG=some R/\aH G K (L) w) ?_ ?_
   ·rintro f w8 ⟨a,x⟩
    unfold wG at a
    refine yW ?_;obtain rfl:=zI a
    exact aIK results157 ⟨rfl,x⟩
   obtain ⟨b7,z,a⟩:=aB a
   refine cE z (fun (d:Int) f w=>f 0=str c/\f 3=i64 d/\aH G K (L) w) ?_ ?_
   ·exact ⟨r,rfl,i⟩
   ·rintro d j f b8 b k ⟨l,m,n⟩
    replace b:aBL c d=some j:=b
    unfold aBL at b
    refine yW ?_;refine aC (fK runUnderlying9 rfl) (yW ?_)
    rcases aG b with ⟨J,b⟩|⟨J,b⟩
    ·refine yW ?_;refine cT ?_
     iterate 1 refine aIQ ?_
     refine cQ (fun f w=>∃ h,wH d h=some j/\f 0=str c/\f 3=i64 d/\f 34=zB h/\aH G K (L) w) ?_ ?_
     ·rintro f b9 ⟨h,b,V,c0,c1,o⟩
      unfold wH at b
      refine yW ?_
      rcases aG b with ⟨Z,b⟩|⟨Z,b⟩
      ·refine yW ?_;refine bK (cA (aW (aW ?_)))
       have a0:=k _ (zI b).symm
       subst a0
       have a:(some false)=some R:=a
       obtain rfl:=zI a
       exact cA (aW (aW (bM results157 rfl ⟨rfl,o⟩)))
      ·refine yW ?_;exact ⟨wr (d+1),(zI b).symm,V,rfl,o⟩
     refine yW ?_;obtain ⟨c2,p,b⟩:=aB b
     refine aC (aAV runUnderlying9 rfl rfl p) ?_;obtain ⟨c3,a2,b⟩:=aB b
     refine zF call198 (aCe n a2) ?_
     rintro _ c4 ⟨rfl,q⟩
     refine yW ?_
     rcases aG b with ⟨a3,b⟩|⟨a3,b⟩
     ·refine yW ?_;refine aC (aAV runUnderlying9 rfl rfl p) (yW ?_)
      obtain ⟨a4,a5,b⟩:=aB b
      refine zF call199 (aCf q a5) ?_
      rintro _ c5 ⟨rfl,a6⟩
      refine yW ?_;exact ⟨!a4,b,l,m,rfl,a6⟩
     ·refine yW ?_;exact ⟨false,b,l,m,rfl,q⟩
    ·refine yW ?_
     have a7:=k _ (zI b).symm
     subst a7
     have a:(wG)=some R:=a
     refine yW ?_;exact ⟨a,n⟩
 refine yW ?_
 rcases aG a with ⟨a8,a⟩|⟨a8,a⟩
 ·refine yW ?_;exact ⟨true,a,rfl,rfl,e⟩
 ·refine yW ?_;refine aC (fK runUnderlying9 rfl) (yW ?_)
  rcases aG a with ⟨a9,a⟩|⟨a9,a⟩
  ·refine yW ?_;exact ⟨true,a,rfl,rfl,e⟩
  ·refine yW ?_;obtain ⟨c7,b0,a⟩:=aB a
   refine aC (aAV runUnderlying9 rfl rfl b0) (yW ?_);obtain ⟨b1,b2,a⟩:=aB a
   refine zF call198 (aCe e b2) ?_
   rintro _ c8 ⟨rfl,b3⟩
   refine yW ?_;exact ⟨!b1,a,rfl,rfl,b3⟩
theorem aEX {b:bD} {R:Bool} (e:aH G K (L) w) (a:aCA b=some R):
  Calls Tryz.prog 158 ([str b]:List Value).toArray w (eN fun v w'=>v=zB R/\aH G K (L) w'):=by
 refine zH func158 ?_;unfold aCA at a
 iterate 6 refine aIQ ?_
 refine cQ (fun f w=>∃ c,qJ c=some R/\f 2=zB c/\aH G K (L) w) ?_ ?_
 ·rintro f l ⟨c,a,g,h⟩
  unfold qJ at a
  refine yW ?_;obtain rfl:=zI a
  exact aIK results158 ⟨g,h⟩
 refine yW ?_;obtain ⟨m,j,a⟩:=aB a
 refine zF call157 (aCO e j) ?_
 rintro _ n ⟨rfl,d⟩
 refine yW ?_
 rcases aG a with ⟨k,a⟩|⟨k,a⟩
 ·refine yW ?_;exact ⟨!(b == ([116,97,117]:bD)),a,rfl,d⟩
 ·refine yW ?_;exact ⟨false,a,rfl,d⟩
theorem aFu {c:bD} {by_:UInt8} {R:(List bD)} (hs:aH G K (L) w) (b:aDK c by_=some R):
  Calls Tryz.prog 159 ([str c,Value.int .u8 (by_.toNat:Int)]:List Value).toArray w (eN fun v w'=>∃ J V,v=zS J R.length V/\aH G K (aJ 9 K J V R::L) w'):=by
 refine zH func159 ?_;unfold aDK at b
 refine yW ?_;refine bZ (Kt:=K) (xs:=([]:List bD)) (cs:=[]) (vs:=[]) cF fL rfl rfl hs rfl (by kernel_rfl) rfl rfl rfl trivial (fun Z w2 (b4:aH G K (aJ 9 K Z 0 ([]:List bD)::L) w2)=>(yW ?_))
 refine aZ (fun f w=>∃ l x n o,tI c l x=some R/\f 0=str c/\f 5=zS n l.length o/\f 6=i64 x/\aH G K (aJ 9 K n o l::L) w) ?_ ?_
 ·rintro f e4 ⟨l,x,n,o,b,e8,e9,e7,b5⟩
  unfold tI at b
  refine yW ?_;obtain ⟨p,b6,b⟩:=aB b
  refine aC (R_slSL runUnderlying9 rfl rfl b6) (bZ (Kt:=K) (xs:=([p]:List bD)) (cs:=[str p]) (vs:=[(0,str p)]) cF fL rfl rfl b5 rfl (by kernel_rfl) rfl rfl rfl ⟨rfl,trivial⟩ (fun b7 b8 (b9:aH G K (aJ 9 K b7 1 ([p]:List bD)::aJ 9 K n o l::L) b8)=>?_));obtain ⟨c0,c1,b⟩:=aB b
  refine dA (i:=0) cF underlying24 fL rfl rfl b9 rfl (zR _) (zR _) c1 rfl rfl rfl rfl (fun _ h=>h) (fun a0 a2 c2 (c3:aH G K (aJ 9 K a0 a2 c0::L) c2)=>(yW ?_));obtain rfl:=zI b
  exact aIK results159 ⟨a0,a2,rfl,c3⟩
 obtain ⟨f0,c5,b⟩:=aB b
 refine cE c5 (fun s f w=>match s with|(d,g,e)=>∃ j k,f 0=str c/\f 1=Value.int .u8 (by_.toNat:Int)/\f 5=zS j d.length k/\f 6=i64 g/\f 7=i64 e/\aH G K (aJ 9 K j k d::L) w) ?_ ?_
 ·exact ⟨Z,0,rfl,rfl,rfl,rfl,rfl,b4⟩
 ·rintro ⟨d,g,e⟩ a3 f f1 a c7 ⟨j,k,y,a4,a6,a7,a8,z⟩
  replace a:aAH c by_ d g e=some a3:=a
  unfold aAH at a
  refine yW ?_;refine aC (fK runUnderlying9 rfl) (yW ?_)
  rcases aG a with ⟨c8,a⟩|⟨c8,a⟩
  ·refine yW ?_;refine aZ (fun f w=>∃ m q r t,tJ e m q=some a3/\f 0=str c/\f 1=Value.int .u8 (by_.toNat:Int)/\f 5=zS r m.length t/\f 6=i64 q/\f 7=i64 e/\aH G K (aJ 9 K r t m::L) w) ?_ ?_
   ·rintro f f2 ⟨m,q,r,t,a,c9,d0,d1,d2,f3,d3⟩
    unfold tJ at a
    refine yW ?_;exact ⟨(m,q,wr (e+1)),(zI a).symm,r,t,c9,d0,d1,d2,rfl,d3⟩
   refine yW ?_;obtain ⟨f4,d4,a⟩:=aB a
   refine aC (aAV runUnderlying9 rfl rfl d4) (yW ?_)
   rcases aG a with ⟨d5,a⟩|⟨d5,a⟩
   ·refine yW ?_;obtain ⟨u,d6,a⟩:=aB a
    refine aC (R_slSLH runUnderlying9 rfl rfl rfl d6) (bZ (Kt:=K) (xs:=([u]:List bD)) (cs:=[str u]) (vs:=[(0,str u)]) cF fL rfl rfl z rfl (by kernel_rfl) rfl rfl rfl ⟨rfl,trivial⟩ (fun d7 d8 (d9:aH G K (aJ 9 K d7 1 ([u]:List bD)::aJ 9 K j k d::L) d8)=>?_));obtain ⟨a9,e0,a⟩:=aB a
    refine dA (i:=0) cF underlying24 fL rfl rfl d9 rfl (zR _) (zR _) e0 rfl rfl rfl rfl (fun _ h=>h) (fun b0 b1 e1 (e2:aH G K (aJ 9 K b0 b1 a9::L) e1)=>(yW ?_));exact ⟨a9,wr (e+1),b0,b1,a,y,a4,rfl,rfl,a8,e2⟩
   ·refine yW ?_;exact ⟨d,g,j,k,a,y,a4,a6,a7,a8,z⟩
  ·refine yW ?_
   have e3:=c7 _ (zI a).symm
   subst e3
   have b:(tI c d g)=some R:=b
   refine yW ?_;exact ⟨d,g,j,k,b,y,a6,a7,z⟩
theorem aEY {e:bD} {R:(Int × Bool)} (q:aH G K (L) w) (c:aCB e=some R):
  Calls Tryz.prog 160 ([str e]:List Value).toArray w (eN fun v w'=>v=zT #[i64 R.1,zB R.2]/\aH G K (L) w'):=by
 refine zH func160 ?_;unfold aCB at c
 iterate 11 refine aIQ ?_
 refine jR (fun f w=>∃ g,qM e g=some R/\f 0=str e/\f 4=i64 g/\aH G K (L) w) ?_ ?_
 ·rintro f w4 ⟨g,c,j,k,l⟩
  unfold qM at c
  iterate 2 refine aIQ ?_
  refine cQ (fun f w=>∃ n,jW e g n=some R/\f 0=str e/\f 4=i64 g/\f 36=zB n/\aH G K (L) w) ?_ ?_
  ·rintro f c9 ⟨n,c,e7,e8,e9,r⟩
   unfold jW at c
   refine yW ?_
   rcases aG c with ⟨a3,c⟩|⟨a3,c⟩
   ·refine yW ?_;obtain rfl:=zI c
    exact bK (aW (iO results160 rfl rfl ⟨rfl,r⟩))
   ·refine yW ?_;refine aZ (fun f w=>∃ i,qL g i=some R/\f 4=i64 g/\f 5=i64 i/\aH G K (L) w) ?_ ?_
    ·rintro f d1 ⟨i,c,d2,a5,t⟩
     unfold qL at c
     iterate 1 refine aIQ ?_
     refine jR (fun f w=>∃ o,qK o=some R/\f 5=i64 o/\aH G K (L) w) ?_ ?_
     ·rintro f d3 ⟨o,c,d4,a6⟩
      unfold qK at c
      refine yW ?_;obtain rfl:=zI c
      exact bK (iO results160 rfl rfl ⟨rfl,a6⟩)
     refine yW ?_
     rcases aG c with ⟨a8,c⟩|⟨a8,c⟩
     ·refine yW ?_;refine aC (R_neg rfl) (yW ?_)
      exact ⟨wr (0 - i),c,rfl,t⟩
     ·refine yW ?_;exact ⟨i,c,a5,t⟩
    obtain ⟨d5,a9,c⟩:=aB c
    refine cE a9 (fun s f w=>match s with|(h,m)=>f 0=str e/\f 4=i64 g/\f 5=i64 h/\f 6=i64 m/\aH G K (L) w) ?_ ?_
    ·exact ⟨e7,e8,rfl,rfl,r⟩
    ·rintro ⟨h,m⟩ b0 f d6 d u ⟨b1,x,b2,d7,y⟩
     replace d:xT e h m=some b0:=d
     unfold xT at d
     refine yW ?_;refine aC (fK runUnderlying9 rfl) (yW ?_)
     rcases aG d with ⟨b3,d⟩|⟨b3,d⟩
     ·refine yW ?_;refine cT (yW ?_)
      obtain ⟨z,J,d⟩:=aB d
      refine aC (aAV runUnderlying9 rfl rfl J) ?_;obtain ⟨d8,b4,d⟩:=aB d
      refine zF call199 (aCf y b4) ?_
      rintro _ d9 ⟨rfl,V⟩
      refine yW ?_
      rcases aG d with ⟨b5,d⟩|⟨b5,d⟩
      ·refine yW ?_;refine bK (aW (cA (aW (aW ?_))))
       have b6:=u _ (zI d).symm
       subst b6
       have c:(some (0,false))=some R:=c
       obtain rfl:=zI c
       exact cA (aW (aW (iO results160 rfl rfl ⟨rfl,V⟩)))
      ·refine yW ?_;refine aC (aAV runUnderlying9 rfl rfl J) (aC (R_u8sub' (a:=z) (b:=(48:UInt8)) rfl rfl) (aC (aEc runUnderlying2 rfl ⟨_,runUnderlying5⟩) (yW ?_)))
       exact ⟨(wr ((wr (10 * h))+(wr ((z - (48:UInt8)).toNat:Int))),wr (m+1)),(zI d).symm,b1,x,rfl,rfl,V⟩
     ·refine yW ?_
      have b8:=u _ (zI d).symm
      subst b8
      have c:(qL g h)=some R:=c
      refine yW ?_;exact ⟨h,c,x,b2,y⟩
  refine yW ?_;refine aC (fK runUnderlying9 rfl) (yW ?_)
  rcases aG c with ⟨b9,c⟩|⟨b9,c⟩
  ·refine yW ?_;exact ⟨true,c,j,k,rfl,l⟩
  ·refine yW ?_;refine aC (fK runUnderlying9 rfl) (yW ?_)
   rcases aG c with ⟨c0,c⟩|⟨c0,c⟩
   ·refine yW ?_;exact ⟨true,c,j,k,rfl,l⟩
   ·refine yW ?_;obtain ⟨e0,c1,c⟩:=aB c
    refine aC (aAV runUnderlying9 rfl rfl c1) (yW ?_)
    rcases aG c with ⟨c2,c⟩|⟨c2,c⟩
    ·refine yW ?_;refine aC (fK runUnderlying9 rfl) (yW ?_)
     exact ⟨decide (1 < (e.length:Int)),c,j,k,rfl,l⟩
    ·refine yW ?_;exact ⟨false,c,j,k,rfl,l⟩
 iterate 1 refine aIQ ?_
 refine cQ (fun f w=>∃ p,qN e p=some R/\f 0=str e/\f 4=i64 0/\f 14=zB p/\aH G K (L) w) ?_ ?_
 ·rintro f e1 ⟨p,c,Z,c3,e4,a0⟩
  unfold qN at c
  refine yW ?_
  rcases aG c with ⟨c4,c⟩|⟨c4,c⟩
  ·refine yW ?_;exact ⟨1,c,Z,rfl,a0⟩
  ·refine yW ?_;exact ⟨0,c,Z,c3,a0⟩
 refine yW ?_;refine aC (fK runUnderlying9 rfl) (yW ?_)
 rcases aG c with ⟨c5,c⟩|⟨c5,c⟩
 ·refine yW ?_;obtain ⟨c6,c7,c⟩:=aB c
  refine aC (aAV runUnderlying9 rfl rfl c7) (yW ?_);exact ⟨(c6.toNat:Int) == 45,c,rfl,rfl,rfl,q⟩
 ·refine yW ?_;exact ⟨false,c,rfl,rfl,rfl,q⟩
theorem aEZ {n:bD} {R:((List Int) × Bool)} (hs:aH G K (L) w) (a:aCC n=some R):
  Calls Tryz.prog 129 ([str n]:List Value).toArray w (eN fun v w'=>∃ y z,v=zT #[zS y R.1.length z,zB R.2]/\aH G K (aJ 2 K y z R.1::L) w'):=by
 refine zH func129 ?_;unfold aCC at a
 refine yW ?_;obtain ⟨J,q2,a⟩:=aB a
 refine zF call156 (aGn hs q2) ?_
 rintro _ w3 ⟨rfl,V⟩
 refine yW ?_;refine aC (fK runUnderlying9 rfl) (yW ?_)
 rcases aG a with ⟨c5,a⟩|⟨c5,a⟩
 ·refine yW ?_;refine bZ (Kt:=K) (xs:=([]:List Int)) (cs:=[]) (vs:=[]) bY fC rfl rfl V rfl (by kernel_rfl) rfl rfl rfl trivial (fun Z w7 (b8:aH G K (aJ 2 K Z 0 ([]:List Int)::L) w7)=>(yW ?_))
  obtain ⟨r9,b9,a⟩:=aB a
  refine zF call157 (aCO b8 b9) ?_
  rintro _ g0 ⟨rfl,c0⟩
  refine yW ?_;obtain rfl:=zI a
  exact bK (aW (iO results129 rfl rfl ⟨Z,0,rfl,c0⟩))
 ·iterate 5 refine aIQ ?_
  refine cQ (fun f w=>∃ r,qQ n J r=some R/\f 0=str n/\f 4=i64 J/\f 31=zB r/\aH G K (L) w) ?_ ?_
  ·rintro f g1 ⟨r,a,g2,g3,g4,a0⟩
   unfold qQ at a
   refine yW ?_
   rcases aG a with ⟨c2,a⟩|⟨c2,a⟩
   ·refine yW ?_
    have c3:=aH.nil (α:=Int) a0 2 K
    obtain rfl:=zI a
    exact bK (aW (iO results129 rfl rfl ⟨none,0,rfl,c3⟩))
   ·refine yW ?_;refine aC (fK runUnderlying9 rfl) (yW ?_)
    obtain ⟨g5,c6,a⟩:=aB a
    refine aC (R_slSLH runUnderlying9 rfl rfl rfl c6) ?_;obtain ⟨d,c7,a⟩:=aB a
    refine zF call159 (aFu (by_:=(44:UInt8)) a0 c7) ?_
    rintro _ g6 ⟨e,g,rfl,c8⟩
    refine yW ?_;refine bZ (Kt:=K) (xs:=([]:List Int)) (cs:=[]) (vs:=[]) bY fC rfl rfl c8 rfl (by kernel_rfl) rfl rfl rfl trivial (fun a1 c9 (d0:aH G K (aJ 2 K a1 0 ([]:List Int)::aJ 9 K e g d::L) c9)=>(yW ?_))
    refine aZ (fun f w=>∃ o p q,qO o=some R/\f 6=zS p o.length q/\aH G K (aJ 2 K p q o::L) w) ?_ ?_
    ·rintro f g7 ⟨o,p,q,a,g8,d1⟩
     unfold qO at a
     refine yW ?_;obtain rfl:=zI a
     exact bK (iO results129 rfl rfl ⟨p,q,rfl,d1⟩)
    obtain ⟨g9,d3,a⟩:=aB a
    refine cE d3 (fun s f w=>match s with|(c,l)=>∃ j k,f 5=zS e d.length g/\f 6=zS j c.length k/\f 7=i64 l/\aH G K (aJ 2 K j k c::aJ 9 K e g d::L) w) ?_ ?_
    ·exact ⟨a1,0,rfl,rfl,rfl,d0⟩
    ·rintro ⟨c,l⟩ a2 f h0 b a3 ⟨j,k,a4,t,a5,u⟩
     replace b:xU d c l=some a2:=b
     unfold xU at b
     refine yW ?_
     rcases aG b with ⟨d4,b⟩|⟨d4,b⟩
     ·refine yW ?_;refine cT (yW ?_)
      obtain ⟨h1,a7,b⟩:=aB b
      have d5:=cU u (i:=1) rfl a7
      refine aC (dB cF rfl d5 rfl rfl rfl a7) (yW ?_);obtain ⟨m,d6,b⟩:=aB b
      refine zF call160 (aEY u d6) ?_
      rintro _ h2 ⟨rfl,a8⟩
      iterate 9 refine aIQ ?_
      refine cQ (fun f w=>∃ x,qP c l m x=some a2/\f 5=zS e d.length g/\f 6=zS j c.length k/\f 7=i64 l/\f 8=i64 m.1/\f 61=zB x/\aH G K (aJ 2 K j k c::aJ 9 K e g d::L) w) ?_ ?_
      ·rintro f h3 ⟨x,b,d7,h4,h5,h6,h7,a9⟩
       unfold qP at b
       refine yW ?_
       rcases aG b with ⟨d8,b⟩|⟨d8,b⟩
       ·refine yW ?_;refine bK (aW (cA (aW (aW ?_))))
        have d9:=a3 _ (zI b).symm
        subst d9
        have a:(some ([],false))=some R:=a
        have e0:=aH.nil (α:=Int) a9 2 K
        obtain rfl:=zI a
        exact cA (aW (aW (iO results129 rfl rfl ⟨none,0,rfl,(aH.arr 3 [0] e0 rfl)⟩)))
       ·refine yW ?_;refine bZ (Kt:=K) (xs:=([m.1]:List Int)) (cs:=[i64 m.1]) (vs:=[(0,i64 m.1)]) bY fC rfl rfl a9 rfl (by kernel_rfl) rfl rfl rfl ⟨rfl,trivial⟩ (fun e2 e3 (e4:aH G K (aJ 2 K e2 1 ([m.1]:List Int)::aJ 2 K j k c::aJ 9 K e g d::L) e3)=>?_)
        obtain ⟨b0,e5,b⟩:=aB b
        refine dA (i:=0) bY underlying35 fC rfl rfl e4 rfl (zR _) (zR _) e5 rfl rfl rfl rfl (fun _ h=>h) (fun b1 b2 e6 (e7:aH G K (aJ 2 K b1 b2 b0::aJ 9 K e g d::L) e6)=>(yW ?_));exact ⟨(b0,wr (l+1)),(zI b).symm,b1,b2,d7,rfl,rfl,e7⟩
      refine yW ?_
      rcases aG b with ⟨e8,b⟩|⟨e8,b⟩
      ·refine yW ?_;exact ⟨true,b,a4,t,a5,rfl,rfl,a8⟩
      ·refine yW ?_;obtain ⟨e9,f0,b⟩:=aB b
       refine zF call56 (nC a8 f0) ?_
       rintro _ h8 ⟨rfl,f1⟩
       refine yW ?_;exact ⟨!e9,b,a4,t,a5,rfl,rfl,f1⟩
     ·refine yW ?_
      have f2:=a3 _ (zI b).symm
      subst f2
      have a:(qO c)=some R:=a
      refine yW ?_;exact ⟨c,j,k,a,t,(aH.arr 2 [0] u rfl)⟩
  refine yW ?_;obtain ⟨h9,f3,a⟩:=aB a
  refine aC (R_slSH runUnderlying9 rfl rfl f3) ?_;obtain ⟨i0,f4,a⟩:=aB a
  refine zF call158 (aEX V f4) ?_
  rintro _ i1 ⟨rfl,b3⟩
  refine yW ?_
  rcases aG a with ⟨f5,a⟩|⟨f5,a⟩
  ·refine yW ?_;exact ⟨true,a,rfl,rfl,rfl,b3⟩
  ·refine yW ?_;refine aC (fK runUnderlying9 rfl) (yW ?_)
   obtain ⟨f6,f7,a⟩:=aB a
   refine aC (aAV runUnderlying9 rfl rfl f7) (yW ?_);exact ⟨(f6.toNat:Int) != 41,a,rfl,rfl,rfl,b3⟩
theorem aFv {b:bD} {R:Bool} (c:aH G K (L) w) (a:aDL b=some R):
  Calls Tryz.prog 96 ([str b]:List Value).toArray w (eN fun v w'=>v=zB R/\aH G K (L) w'):=by
 refine zH func96 ?_;unfold aDL at a
 refine yW ?_;obtain ⟨h,d,a⟩:=aB a
 refine zF call129 (aEZ c d) ?_
 rintro _ i ⟨j,k,rfl,e⟩
 refine yW ?_;obtain rfl:=zI a
 exact aIK results96 ⟨rfl,(aH.arr 1 [] e rfl)⟩
theorem aFw {c:(List bD)} {R:Bool} (i:aH G K (L) w) (j:cR K a1 c2 c) (b:aDM c=some R):
  Calls Tryz.prog 57 ([zS a1 c.length c2]:List Value).toArray w (eN fun v w'=>v=zB R/\aH G K (L) w'):=by
 refine zH func57 ?_;unfold aDM at b
 iterate 7 refine aIQ ?_
 refine cQ (fun f w=>∃ k,nN c k=some R/\f 0=zS a1 c.length c2/\f 17=zB k/\aH G K (L) w) ?_ ?_
 ·rintro f w7 ⟨k,b,r,e6,m⟩
  unfold nN at b
  refine yW ?_
  rcases aG b with ⟨t,b⟩|⟨t,b⟩
  ·refine yW ?_;obtain rfl:=zI b
   exact bK (aW (bM results57 rfl ⟨rfl,m⟩))
  ·refine yW ?_;refine aZ (fun f w=>tK=some R/\aH G K (L) w) ?_ ?_
   ·rintro f c6 ⟨b,x⟩
    unfold tK at b
    refine yW ?_;obtain rfl:=zI b
    exact aIK results57 ⟨rfl,x⟩
   obtain ⟨c7,z,b⟩:=aB b
   refine cE z (fun (d:Int) f w=>f 0=zS a1 c.length c2/\f 3=i64 d/\aH G K (L) w) ?_ ?_
   ·exact ⟨r,rfl,m⟩
   ·rintro d n f c8 a o ⟨e,g,h⟩
    replace a:aAI c d=some n:=a
    unfold aAI at a
    refine yW ?_
    rcases aG a with ⟨J,a⟩|⟨J,a⟩
    ·refine yW ?_;refine cT (yW ?_)
     refine cQ (fun f w=>∃ l,aIw d l=some n/\f 0=zS a1 c.length c2/\f 3=i64 d/\f 52=zB l/\aH G K (L) w) ?_ ?_
     ·rintro f d0 ⟨l,a,V,d1,d2,p⟩
      unfold aIw at a
      refine yW ?_
      rcases aG a with ⟨Z,a⟩|⟨Z,a⟩
      ·refine yW ?_;refine bK (cA (aW (aW ?_)))
       have a0:=o _ (zI a).symm
       subst a0
       have b:(some false)=some R:=b
       obtain rfl:=zI b
       exact cA (aW (aW (bM results57 rfl ⟨rfl,p⟩)))
      ·refine yW ?_;exact ⟨wr (d+1),(zI a).symm,V,rfl,p⟩
     refine dF (C:=fun w'=>aH G K (L) w') bV (by kernel_rfl) (aH.mono h (dG.drew _)) (yW ?_);obtain ⟨q,a3,a⟩:=aB a
     refine yW ?_;obtain ⟨d3,d4,a4⟩:=cR.el (sz:=1) rfl j a3
     cases a4
     refine yW ?_;obtain ⟨a5,a6,a⟩:=aB a
     refine jO (vs:=[str q]) (v:=zB a5) call96 rfl (fun _ h=>(aFv h a6)) (yW ?_)
     rcases aG a with ⟨a7,a⟩|⟨a7,a⟩
     ·refine yW ?_;refine dI (fun d5 a8=>(yW ?_))
      exact ⟨true,a,e,g,rfl,a8⟩
     ·refine yW ?_
      rcases aG a with ⟨a9,a⟩|⟨a9,a⟩
      ·refine yW ?_;refine dI (fun d6 b0=>(yW ?_))
       exact ⟨true,a,e,g,rfl,b0⟩
      ·refine yW ?_
       rcases aG a with ⟨b1,a⟩|⟨b1,a⟩
       ·refine yW ?_;obtain ⟨b2,b3,a⟩:=aB a
        refine yW ?_;obtain ⟨d7,d8,b4⟩:=cR.el (sz:=1) rfl j b3
        cases b4
        refine yW ?_;refine dI (fun d9 b5=>(yW ?_))
        exact ⟨!ltB b2 q,a,e,g,rfl,b5⟩
       ·refine yW ?_;refine dI (fun e0 b6=>(yW ?_))
        exact ⟨false,a,e,g,rfl,b6⟩
    ·refine yW ?_
     have b7:=o _ (zI a).symm
     subst b7
     have b:(tK)=some R:=b
     refine yW ?_;exact ⟨b,h⟩
 refine yW ?_
 rcases aG b with ⟨b8,b⟩|⟨b8,b⟩
 ·refine yW ?_;exact ⟨true,b,rfl,rfl,i⟩
 ·refine yW ?_
  rcases aG b with ⟨b9,b⟩|⟨b9,b⟩
  ·refine yW ?_;exact ⟨true,b,rfl,rfl,i⟩
  ·refine yW ?_;obtain ⟨c0,c1,b⟩:=aB b
   refine yW ?_;obtain ⟨e1,e2,c3⟩:=cR.el (sz:=1) rfl j c1
   cases c3
   refine yW ?_;exact ⟨!(c0 == ([116,97,117]:bD)),b,rfl,rfl,i⟩
end Gv
