/- Walks, printed by program. -/
import Derived.Test.YtfhgggimcgajdaaGreatDoorJWk7
set_option linter.all false
namespace Gv
open Gv.Hp renaming le_refl→zR
open Go.Value renaming slice→zS,bool→zB,pointer→zP,agg→zA,tuple→zT,map→zM
open Option.some renaming inj→zI
open Gv.Hp renaming le_trans→zL
open Go Go.Proofs Go.Proofs.Tryz
set_option maxRecDepth 20000
set_option maxHeartbeats 40000000
variable {G:qG} {K:Hp} {L:List iU} {w:World} {a1 a4 a7 a10 a13 a16 a20:Option Addr} {c2 c5 c8 c11 c14 c17 c21:Nat}
theorem aIc {s_:bZ} {b:(List aZ)} {R:((List bV) × Bool)} (hm:lL s_ b=some R) (hs:aM G K (L) w) (hG:G.lo=0) (h3:bY K a1 c2 s_.Definitions) (h6:bY K a4 c5 s_.Components) (h9:bY K a7 c8 s_.Meetings) (k9:bY K a10 c11 s_.Allowed) (l0:bY K a13 c14 s_.Hidden) (g0:bY K a16 c17 b):
  Calls prog 59 ([zA #[zS a1 s_.Definitions.length c2,zS a4 s_.Components.length c5,zS a7 s_.Meetings.length c8,zS a10 s_.Allowed.length c11,zS a13 s_.Hidden.length c14],zS a16 b.length c17]:List Value).toArray w (eK fun v w'=>∃ l1 l2 i5,v=zT #[zS l1 R.1.length l2,zB R.2]/\List.length i5=List.length R.1/\aM G K (bN 99 K l1 l2 (bK i5 R.1)::rows [70,2] i5 R.1::L) w'):=by
 let k:=[zS a1 s_.Definitions.length c2,zS a4 s_.Components.length c5,zS a7 s_.Meetings.length c8,zS a10 s_.Allowed.length c11,zS a13 s_.Hidden.length c14]
 let l3:=bN 99 K none 0 (bK ([]:List (Dp.Hd bV)) ([]:List bV))
 refine aP func59 rfl (by kernel_rfl) (by show (2:Nat)<=103;decide) ?_;unfold lL at hm
 refine aJ (dM (v:=zA #[zS a1 s_.Definitions.length c2,zS a4 s_.Components.length c5,zS a7 s_.Meetings.length c8,zS a10 s_.Allowed.length c11,zS a13 s_.Hidden.length c14]) (vs:=k) hs rfl rfl (fun q w7 l4=>(aD (v:=zS none 0 0) (aD (v:=zB false) (aF (aJ (aA (fQ (us:=k) aFf l4 (i:=0) rfl rfl rfl rfl) (aG (v:=zS a16 b.length c17) (aPv bJ Bool l4 ?_)))))))))
 intro a n8 (n9:aM G K (mN a ([]:(List (bJ × Bool)))::box q 37 k::L) n8)
 refine aA (lQ (vs:=[(0,zA #[zS a1 s_.Definitions.length c2,zS a4 s_.Components.length c5,zS a7 s_.Meetings.length c8,zS a10 s_.Allowed.length c11,zS a13 s_.Hidden.length c14]),(1,zS a16 b.length c17),(3,zM (some a))]) (cs:=[zS a1 s_.Definitions.length c2,zS a4 s_.Components.length c5,zS a7 s_.Meetings.length c8,zS a10 s_.Allowed.length c11,zS a13 s_.Hidden.length c14,zS a16 b.length c17,zS none 0 0,zM (some a)]) bs_140 rfl (by kernel_rfl)) (dM (v:=zA #[zS a1 s_.Definitions.length c2,zS a4 s_.Components.length c5,zS a7 s_.Meetings.length c8,zS a10 s_.Allowed.length c11,zS a13 s_.Hidden.length c14,zS a16 b.length c17,zS none 0 0,zM (some a)]) (vs:=[zS a1 s_.Definitions.length c2,zS a4 s_.Components.length c5,zS a7 s_.Meetings.length c8,zS a10 s_.Allowed.length c11,zS a13 s_.Hidden.length c14,zS a16 b.length c17,zS none 0 0,zM (some a)]) n9 rfl rfl (fun e o0 o1=>(aD (v:=zP (some ⟨e,0,none⟩)) (aF (aJ (aD (v:=zS none 0 0) (aF (aN (aJ (aG (v:=zS a16 b.length c17) (aA (bO (len:=b.length) gP rfl) (aG (v:=i64 0) (aF (bM [1,6] (fun f w=>∃ r d9 i6 b6 g1 g2 e6 c4 c6,Hp.le K r/\iZ s_ b d9 i6 b6=some R/\f 7=zS c4 b6.length c6/\List.length e6=List.length d9/\aM G r (bN 122 r c4 c6 b6::bN 99 K g1 g2 (bK e6 d9)::rows [70,2] e6 d9::box e 140 [zS a1 s_.Definitions.length c2,zS a4 s_.Components.length c5,zS a7 s_.Meetings.length c8,zS a10 s_.Allowed.length c11,zS a13 s_.Hidden.length c14,zS a16 b.length c17,zS g1 d9.length g2,zM (some a)]::mN a i6::L) w) ?_ ?_))))))))))))))
 ·rintro f w8 ⟨r,d9,i6,b6,g1,g2,e6,c4,c6,c7,hm,l5,o2,o3⟩
  unfold iZ at hm
  refine aB (aN (aJ (aG (v:=zS a16 b.length c17) (aA (bO (len:=b.length) gP rfl) (aG (v:=i64 0) (aF (bM [6] (fun f w=>∃ y g3 c9 d0 d1,oE y g3=some R/\List.length d1=List.length y/\aM G r (bN 99 K c9 d0 (bK d1 y)::rows [70,2] d1 y::box e 140 [zS a1 s_.Definitions.length c2,zS a4 s_.Components.length c5,zS a7 s_.Meetings.length c8,zS a10 s_.Allowed.length c11,zS a13 s_.Hidden.length c14,zS a16 b.length c17,zS c9 y.length d0,zM (some a)]::mN a g3::L) w) ?_ ?_)))))))
  ·rintro f w9 ⟨y,g3,c9,d0,d1,hm,o4,n⟩
   unfold oE at hm
   refine aB (aN (dU (C:=fun w'=>aM G r (bN 99 K c9 d0 (bK d1 y)::rows [70,2] d1 y::box e 140 [zS a1 s_.Definitions.length c2,zS a4 s_.Components.length c5,zS a7 s_.Meetings.length c8,zS a10 s_.Allowed.length c11,zS a13 s_.Hidden.length c14,zS a16 b.length c17,zS c9 y.length d0,zM (some a)]::mN a g3::L) w') cI (by kernel_rfl) (aM.mono n (eH.drew _)) (bG (fun _ n=>bP (v:=zP (some ⟨e,0,none⟩)) rfl) (bG (fun _ n=>qL rfl) (bG (fun _ n=>bC (t':=6) aIX rfl rfl) (bG (fun _ n=>bQ sc_94 n (i:=2) rfl rfl rfl) (bG (fun _ n=>bP (v:=zP (some ⟨e,0,none⟩)) rfl) (bG (fun _ n=>qL rfl) (bG (fun _ n=>bC (t':=6) aIX rfl rfl) (bG (fun _ n=>bQ sc_94 n (i:=2) rfl rfl rfl) (bG (fun _ n=>bO (len:=y.length) qI rfl) (bG (fun _ n=>vR rfl rfl) (bG (fun _ n=>fG (v:=zS c9 y.length d0) rfl) (bG (fun _ n=>fG (v:=zB (decide ((y.length:Int)<=200))) rfl) (eT (fun x0 o5=>(aB ?_)))))))))))))))))
   obtain rfl:=zI hm
   exact aX (kJ results59 rfl rfl ⟨c9,d0,d1,rfl,o4,(aM.weakK (aM.arr 4 [0,1] o5 rfl) c7)⟩)
  obtain ⟨x1,o7,ho⟩:=aC hm
  refine jP [1,6,7,68] o7 (fun d2 g4 z f w=>∃ e7 e8 e0,f 69=i64 z/\List.length e0=List.length d2/\aM G r (bN 122 r c4 c6 b6::bN 99 K e7 e8 (bK e0 d2)::rows [70,2] e0 d2::box e 140 [zS a1 s_.Definitions.length c2,zS a4 s_.Components.length c5,zS a7 s_.Meetings.length c8,zS a10 s_.Allowed.length c11,zS a13 s_.Hidden.length c14,zS a16 b.length c17,zS e7 d2.length e8,zM (some a)]::mN a g4::L) w) ?_ ?_
  ·exact ⟨g1,g2,e6,rfl,o2,o3⟩
  ·rintro d2 g4 z i7 f x2 hm hr ⟨e7,e8,e0,i8,l6,l7⟩
   unfold jZ at hm
   refine aJ (aA (cF i8 rfl) (aF (aN ?_)))
   rcases aH hm with ⟨i9,hm⟩|⟨i9,hm⟩
   ·refine aL i9 rfl (aW (aB (aN (bM [1,6,7,68,69] (fun f w=>∃ e1 j0 g5 g6 e9,sT z e1 j0=some i7/\List.length e9=List.length e1/\aM G r (bN 99 K g5 g6 (bK e9 e1)::rows [70,2] e9 e1::bN 122 r c4 c6 b6::box e 140 [zS a1 s_.Definitions.length c2,zS a4 s_.Components.length c5,zS a7 s_.Meetings.length c8,zS a10 s_.Allowed.length c11,zS a13 s_.Hidden.length c14,zS a16 b.length c17,zS g5 e1.length g6,zM (some a)]::mN a j0::L) w) ?_ ?_))))
    ·rintro f x3 ⟨e1,j0,g5,g6,e9,hm,o8,o9⟩
     unfold sT at hm
     exact aB (aU (aA (cA i8 rfl) (aG (v:=i64 (wr (z+1))) (aF ⟨_,(zI hm).symm,aT,g5,g6,e9,rfl,o8,(aM.arr 3 [2,0,1] o9 rfl)⟩))))
    refine aJ (bF i8 (aD (v:=i64 z) (aF (aJ (aG (v:=i64 z) (aA (cA rfl rfl) (aD (v:=i64 (wr (z+1))) (aF (bM [1,6,7,68,69] (fun f w=>∃ d3 g7 g8 g9 f0,lT z d3 g7=some i7/\List.length f0=List.length d3/\aM G r (bN 99 K g8 g9 (bK f0 d3)::rows [70,2] f0 d3::bN 122 r c4 c6 b6::box e 140 [zS a1 s_.Definitions.length c2,zS a4 s_.Components.length c5,zS a7 s_.Meetings.length c8,zS a10 s_.Allowed.length c11,zS a13 s_.Hidden.length c14,zS a16 b.length c17,zS g8 d3.length g9,zM (some a)]::mN a g7::L) w) ?_ ?_)))))))))
    ·rintro f x4 ⟨d3,g7,g8,g9,f0,hm,p0,p1⟩
     unfold lT at hm
     exact bH (aB ⟨aT,d3,g7,g8,g9,f0,hm,p0,p1⟩)
    obtain ⟨x5,p2,ho⟩:=aC hm
    refine jP [1,6,7,17,68,69] p2 (fun a0 f1 h0 f w=>∃ e2 e3 d4,f 18=i64 h0/\List.length d4=List.length a0/\aM G r (bN 122 r c4 c6 b6::bN 99 K e2 e3 (bK d4 a0)::rows [70,2] d4 a0::box e 140 [zS a1 s_.Definitions.length c2,zS a4 s_.Components.length c5,zS a7 s_.Meetings.length c8,zS a10 s_.Allowed.length c11,zS a13 s_.Hidden.length c14,zS a16 b.length c17,zS e2 a0.length e3,zM (some a)]::mN a f1::L) w) ?_ ?_
    ·exact ⟨e7,e8,e0,rfl,l6,l7⟩
    ·rintro a0 f1 h0 x6 f x7 hm hr ⟨e2,e3,d4,h1,l8,l9⟩
     unfold iY at hm
     refine aN (aJ (bF h1 (aG (v:=zS a16 b.length c17) (aA (bO (len:=b.length) gP rfl) (aA (cF rfl rfl) (aF ?_))))))
     rcases aH hm with ⟨j1,hm⟩|⟨j1,hm⟩
     ·refine aL j1 rfl (aW (aB (aN (bX ?_))));obtain ⟨m0,e4,j2,m1,p3⟩:=aM.lendSp l9 (Hp.le_refl _) .head
      refine kT (C:=fun w'=>∃ L',aM G m0 L' w') [(0,0),(1,0),(2,0),(3,0),(4,0),(5,0),(6,0),(7,0),(8,0),(9,0),(10,0),(11,1)] cI (by kernel_rfl) (fun _ hg=>⟨_,aM.mono m1 hg⟩) (fun p4 p5=>?_)
      have f2:=aM.mono m1 p5
      refine dB rfl (fun _ _=>bP (v:=zP (some ⟨e,0,none⟩)) rfl) (dB rfl (fun _ _=>bP (v:=i64 z) rfl) (dB rfl (fun _ _=>bP h1) (dB rfl (fun _ _=>bP l5) (dB rfl (fun _ _=>bP (v:=i64 z) rfl) ?_))));obtain ⟨p6,j3,hm⟩:=aC hm
      have m2:=aLt j2 j3
      refine dB rfl (fun _ _=>fT yE rfl m2 rfl rfl rfl j3) ?_;obtain ⟨x8,p7,p8⟩:=bY.el (sz:=1) rfl j2 j3
      obtain ⟨p9,q0,rfl,q1⟩:=p8
      refine dB rfl (fun _ ⟨_,f2⟩=>cC (t:=0) aBg f2 p7 rfl rfl) (dB rfl (fun _ _=>bP l5) (dB rfl (fun _ _=>bP h1) ?_));obtain ⟨q2,m3,hm⟩:=aC hm
      refine dB rfl (fun _ _=>fT yE rfl m2 rfl rfl rfl m3) ?_;obtain ⟨x9,q3,q4⟩:=bY.el (sz:=1) rfl j2 m3
      obtain ⟨q5,q6,rfl,q7⟩:=q4
      refine dB rfl (fun _ ⟨_,f2⟩=>cC (t:=0) aBg f2 q3 rfl rfl) (yC rfl ?_)
      have q8:aM G m0 (bN 99 K e2 e3 (bK d4 a0)::rows [70,2] d4 a0::mN a f1::box e 140 [zS a1 s_.Definitions.length c2,zS a4 s_.Components.length c5,zS a7 s_.Meetings.length c8,zS a10 s_.Allowed.length c11,zS a13 s_.Hidden.length c14,zS a16 b.length c17,zS e2 a0.length e3,zM (some a)]::L) p4:=(aM.arr 4 [0,1,3,2] f2 rfl)
      obtain ⟨y0,q9,hm⟩:=aC hm
      refine aQ (vs:=[zP (some ⟨e,0,none⟩),i64 z,i64 h0,zS p9 p6.length q0,zS q5 q2.length q6]) call84 rfl (aEU q9 q8 hG (h3.mono (zL c7 e4)) (h6.mono (zL c7 e4)) (h9.mono (zL c7 e4)) (k9.mono (zL c7 e4)) (l0.mono (zL c7 e4)) (g0.mono (zL c7 e4)) l8 q1 q7) ?_
      rintro _ y1 ⟨r0,r1,r2,rfl,r3,m4⟩
      refine cW (aB ⟨⟨_,m4⟩,?_⟩)
      refine yB ?_
      have r4:=p3 _ _ m4
      exact bH (aB (aU (bF h1 (aA (cA rfl rfl) (aD (v:=i64 (wr (h0+1))) (aF ⟨_,(zI hm).symm,aT,r0,r1,r2,rfl,r3,(aM.arr 5 [0,1,2,4,3] r4 rfl)⟩))))))
     ·refine aI j1 rfl (cD (bA (bA ?_)))
      have r5:=hr _ (zI hm).symm
      subst r5
      have hm:(lT z a0 f1)=some i7:=ho
      clear hr ho
      exact bR (aB ⟨aT,a0,f1,e2,e3,d4,hm,l8,(aM.arr 3 [1,2,0] l9 rfl)⟩)
   ·refine aI i9 rfl (cD (bA (bA ?_)))
    have r6:=hr _ (zI hm).symm
    subst r6
    have hm:(oE d2 g4)=some R:=ho
    clear hr ho
    exact bR (aB ⟨aT,d2,g4,e7,e8,e0,hm,l6,(aM.arr 1 [] l7 rfl)⟩)
 have r7:aM G K (l3::rows [70,2] ([]:List (Dp.Hd bV)) ([]:List bV)::box e 140 [zS a1 s_.Definitions.length c2,zS a4 s_.Components.length c5,zS a7 s_.Meetings.length c8,zS a10 s_.Allowed.length c11,zS a13 s_.Hidden.length c14,zS a16 b.length c17,zS none 0 0,zM (some a)]::mN a ([]:(List (bJ × Bool)))::box q 37 k::L) o0:=aM.nil (α:=aIk _) (aM.rowsNil (α:=bV) (tys:=[70,2]) o1) 99 K
 have r8:=aM.nil (α:=(List cM)) r7 122 K
 obtain ⟨y2,r9,ho⟩:=aC hm
 refine W_loop4K [1,2,6,24,25] r9 (fun g b2 b3 b4 f w=>∃ J o p l b7 b8,Hp.le K J/\f 7=zS b7 b3.length b8/\f 26=i64 b4/\List.length l=List.length g/\aM G J (bN 122 J b7 b8 b3::bN 99 K o p (bK l g)::rows [70,2] l g::box e 140 [zS a1 s_.Definitions.length c2,zS a4 s_.Components.length c5,zS a7 s_.Meetings.length c8,zS a10 s_.Allowed.length c11,zS a13 s_.Hidden.length c14,zS a16 b.length c17,zS o g.length p,zM (some a)]::mN a b2::box q 37 k::L) w) ?_ ?_
 ·exact ⟨K,none,0,[],none,0,(Hp.le_refl _),rfl,rfl,rfl,r8⟩
 ·rintro g b2 b3 b4 j4 f y3 hm hr ⟨J,o,p,l,b7,b8,u,m5,h2,m6,j5⟩
  unfold iI at hm
  refine aJ (aA (cF h2 rfl) (aF (aN ?_)))
  rcases aH hm with ⟨j6,hm⟩|⟨j6,hm⟩
  ·refine aL j6 rfl (aW (aB (aN (bM [1,2,6,24,25,26] (fun f w=>∃ f3 e5 j7 h4 h5 h7 f4 h8 i0,Hp.le J f3/\sU b4 e5 j7 h4=some j4/\f 7=zS h8 h4.length i0/\List.length f4=List.length e5/\aM G f3 (bN 122 f3 h8 i0 h4::bN 99 K h5 h7 (bK f4 e5)::rows [70,2] f4 e5::box e 140 [zS a1 s_.Definitions.length c2,zS a4 s_.Components.length c5,zS a7 s_.Meetings.length c8,zS a10 s_.Allowed.length c11,zS a13 s_.Hidden.length c14,zS a16 b.length c17,zS h5 e5.length h7,zM (some a)]::mN a j7::box q 37 k::L) w) ?_ ?_))))
   ·rintro f y4 ⟨f3,e5,j7,h4,h5,h7,f4,h8,i0,s0,hm,s1,s2,s3⟩
    unfold sU at hm
    exact aB (aU (aA (cA h2 rfl) (aG (v:=i64 (wr (b4+1))) (aF ⟨_,(zI hm).symm,aT,f3,h5,h7,f4,h8,i0,(zL u s0),s1,rfl,s2,s3⟩))))
   refine aJ (bF h2 ?_);obtain ⟨d,m7,hm⟩:=aC hm
   refine aA (cG gP rfl (g0.mono u) rfl rfl h2 m7) ?_;obtain ⟨y5,s4,s5⟩:=bY.el (sz:=3) rfl g0 m7
   obtain ⟨a2,a3,rfl,s6⟩:=s5
   refine aA (dZ (t:=0) (vs:=[i64 d.Definition,i64 d.Part,zS a2 d.Values.length a3]) vM j5 (s4.mono u) rfl rfl rfl) (eA (vs:=[i64 0,i64 0,zS none 0 0]) zeroValue70 j5 rfl (fun f5 y6 s7=>(aD (v:=i64 b4) (eD (i:=0) (ns:=[i64 d.Definition,i64 d.Part,zS a2 d.Values.length a3]) (us:=[i64 d.Definition,i64 d.Part,zS a2 d.Values.length a3]) sizeOf70 s7 rfl rfl rfl rfl rfl (gJ rfl) rfl rfl (fun s8 (j8:aM G J (box f5 70 [i64 d.Definition,i64 d.Part,zS a2 d.Values.length a3]::bN 122 J b7 b8 b3::bN 99 K o p (bK l g)::rows [70,2] l g::box e 140 [zS a1 s_.Definitions.length c2,zS a4 s_.Components.length c5,zS a7 s_.Meetings.length c8,zS a10 s_.Allowed.length c11,zS a13 s_.Hidden.length c14,zS a16 b.length c17,zS o g.length p,zM (some a)]::mN a b2::box q 37 k::L) s8)=>(aF (aJ (aA (bC (t':=0) zW rfl rfl) (aA (bQ aGR j8 (i:=6) rfl rfl rfl) (aA (fQ (us:=[i64 d.Definition,i64 d.Part,zS a2 d.Values.length a3]) vM j8 (i:=0) rfl rfl rfl rfl) ?_))))))))))
   obtain ⟨x,s9,hm⟩:=aC hm
   refine aQ (vs:=[zS a1 s_.Definitions.length c2,zA #[i64 d.Definition,i64 d.Part,zS a2 d.Values.length a3]]) call81 rfl (aOK s9 j8 hG (h3.mono u) (s6.mono u)) ?_
   rintro _ m8 ⟨m9,b9,c0,rfl,a5,n0⟩
   refine aG (v:=zT #[zS b9 x.1.length c0,zB x.2]) (aA (cJ rfl rfl) (aA (cJ rfl rfl) (aD (v:=zS b9 x.1.length c0) (aD (v:=zB x.2) (aF (aN (aJ (aG (v:=zB x.2) (aA (dA rfl) (aF ?_))))))))))
   rcases aH hm with ⟨j9,hm⟩|⟨j9,hm⟩
   ·refine aL j9 rfl (aJ (aD (v:=zS none 0 0) (aD (v:=zB false) (aF (aX (aK (aY (aK (aK (aK ?_))))))))))
    have t0:=hr _ (zI hm).symm
    subst t0
    have hm:(some ([],false))=some R:=ho
    clear hr ho
    have t1:aM G m9 (l3::rows [70,2] ([]:List (Dp.Hd bV)) ([]:List bV)::bN 127 m9 b9 c0 x.1::box f5 70 [i64 d.Definition,i64 d.Part,zS a2 d.Values.length a3]::bN 122 J b7 b8 b3::bN 99 K o p (bK l g)::rows [70,2] l g::box e 140 [zS a1 s_.Definitions.length c2,zS a4 s_.Components.length c5,zS a7 s_.Meetings.length c8,zS a10 s_.Allowed.length c11,zS a13 s_.Hidden.length c14,zS a16 b.length c17,zS o g.length p,zM (some a)]::mN a b2::box q 37 k::L) m8:=aM.nil (α:=aIk _) (aM.rowsNil (α:=bV) (tys:=[70,2]) n0) 99 K
    obtain rfl:=zI hm
    exact aY (aK (aK (kJ results59 rfl rfl ⟨none,0,([]:List (Dp.Hd bV)),rfl,rfl,(aM.weakK (aM.arr 10 [0,1] t1 rfl) (zL u a5))⟩)))
   ·refine aI j9 rfl (aW (aB (aJ (bF m5 (aG (v:=zS b9 x.1.length c0) ?_)))));obtain ⟨j,b5,k0,k1⟩:=aM.giveSp n0 (Hp.le_refl _) .head
    replace k1:aM G j (box f5 70 [i64 d.Definition,i64 d.Part,zS a2 d.Values.length a3]::bN 122 J b7 b8 b3::bN 99 K o p (bK l g)::rows [70,2] l g::box e 140 [zS a1 s_.Definitions.length c2,zS a4 s_.Components.length c5,zS a7 s_.Meetings.length c8,zS a10 s_.Allowed.length c11,zS a13 s_.Hidden.length c14,zS a16 b.length c17,zS o g.length p,zM (some a)]::mN a b2::box q 37 k::L) m8:=k1
    refine gA (Kt:=j) (xs:=([x.1]:List (List cM))) (cs:=[zS b9 x.1.length c0]) (vs:=[(0,zS b9 x.1.length c0)]) yE aLZ rfl rfl k1 rfl (by kernel_rfl) rfl rfl rfl ⟨⟨b9,c0,rfl,k0⟩,trivial⟩ (fun t3 t4 (t5:aM G j (bN 122 j t3 1 ([x.1]:List (List cM))::box f5 70 [i64 d.Definition,i64 d.Part,zS a2 d.Values.length a3]::bN 122 J b7 b8 b3::bN 99 K o p (bK l g)::rows [70,2] l g::box e 140 [zS a1 s_.Definitions.length c2,zS a4 s_.Components.length c5,zS a7 s_.Meetings.length c8,zS a10 s_.Allowed.length c11,zS a13 s_.Hidden.length c14,zS a16 b.length c17,zS o g.length p,zM (some a)]::mN a b2::box q 37 k::L) t4)=>?_)
    obtain ⟨a6,t6,hm⟩:=aC hm
    refine aEr (i:=1) j yE underlying121 aLZ rfl rfl t5 rfl (zL a5 b5) (Hp.le_refl _) t6 rfl rfl rfl rfl (fun _ _ _ h=>El.one h) (fun c1 c3 t7 (t8:aM G j (box f5 70 [i64 d.Definition,i64 d.Part,zS a2 d.Values.length a3]::bN 122 j c1 c3 a6::bN 99 K o p (bK l g)::rows [70,2] l g::box e 140 [zS a1 s_.Definitions.length c2,zS a4 s_.Components.length c5,zS a7 s_.Meetings.length c8,zS a10 s_.Allowed.length c11,zS a13 s_.Hidden.length c14,zS a16 b.length c17,zS o g.length p,zM (some a)]::mN a b2::box q 37 k::L) t7)=>(aD (v:=zS c1 a6.length c3) (aF (aJ (aG (v:=zS b9 x.1.length c0) (aA (bO (len:=x.1.length) lY rfl) (aG (v:=i64 0) (aF (bM [1,2,6,7,24,25,26] (fun f w=>∃ d5 i1 i2 i3 f6,lU b4 a6 d5 i1=some j4/\List.length f6=List.length d5/\aM G j (bN 99 K i2 i3 (bK f6 d5)::rows [70,2] f6 d5::bN 122 j c1 c3 a6::box e 140 [zS a1 s_.Definitions.length c2,zS a4 s_.Components.length c5,zS a7 s_.Meetings.length c8,zS a10 s_.Allowed.length c11,zS a13 s_.Hidden.length c14,zS a16 b.length c17,zS i2 d5.length i3,zM (some a)]::mN a i1::box q 37 k::L) w) ?_ ?_)))))))))
    ·rintro f y7 ⟨d5,i1,i2,i3,f6,hm,t9,u0⟩
     unfold lU at hm
     exact bH (aB ⟨aT,j,d5,i1,a6,i2,i3,f6,c1,c3,(zL a5 b5),hm,rfl,t9,(aM.arr 3 [2,0,1] u0 rfl)⟩)
    obtain ⟨y8,u1,ho⟩:=aC hm
    refine jP [1,2,6,7,8,24,25,26,44,45] u1 (fun m d6 k2 f w=>∃ a8 a9 V,f 46=i64 k2/\List.length V=List.length m/\aM G j (bN 122 j c1 c3 a6::bN 99 K a8 a9 (bK V m)::rows [70,2] V m::box e 140 [zS a1 s_.Definitions.length c2,zS a4 s_.Components.length c5,zS a7 s_.Meetings.length c8,zS a10 s_.Allowed.length c11,zS a13 s_.Hidden.length c14,zS a16 b.length c17,zS a8 m.length a9,zM (some a)]::mN a d6::box q 37 k::L) w) ?_ ?_
    ·exact ⟨o,p,l,rfl,m6,(aM.arr 1 [] t8 rfl)⟩
    ·rintro m d6 k2 y9 f z0 hm hr ⟨a8,a9,V,k3,n1,k4⟩
     unfold lV at hm
     refine aJ (aA (cF k3 rfl) (aF (aN ?_)))
     rcases aH hm with ⟨k5,hm⟩|⟨k5,hm⟩
     ·refine aL k5 rfl (aW (aB (aN (bX (aJ ?_)))));obtain ⟨c,n2,hm⟩:=aC hm
      refine aA (cG lY rfl k0 rfl rfl k3 n2) ?_;obtain ⟨z1,u2,u3⟩:=bY.el (sz:=4) rfl k0 n2
      obtain ⟨b0,b1,rfl,u4⟩:=u3
      refine aA (dZ (t:=0) (vs:=[bE c.B,i64 c.Next.Definition,i64 c.Next.Part,zS b0 c.Next.Values.length b1]) aJV k4 u2 rfl rfl rfl) (eA (vs:=[bE ([]:bJ),i64 0,i64 0,zS none 0 0]) zeroValue127 k4 rfl (fun k6 z2 u5=>(eD (i:=0) (ns:=[bE c.B,i64 c.Next.Definition,i64 c.Next.Part,zS b0 c.Next.Values.length b1]) (us:=[bE c.B,i64 c.Next.Definition,i64 c.Next.Part,zS b0 c.Next.Values.length b1]) sizeOf127 u5 rfl rfl rfl rfl rfl (gJ rfl) rfl rfl (fun u6 (n3:aM G j (box k6 127 [bE c.B,i64 c.Next.Definition,i64 c.Next.Part,zS b0 c.Next.Values.length b1]::bN 122 j c1 c3 a6::bN 99 K a8 a9 (bK V m)::rows [70,2] V m::box e 140 [zS a1 s_.Definitions.length c2,zS a4 s_.Components.length c5,zS a7 s_.Meetings.length c8,zS a10 s_.Allowed.length c11,zS a13 s_.Hidden.length c14,zS a16 b.length c17,zS a8 m.length a9,zM (some a)]::mN a d6::box q 37 k::L) u6)=>(aF (aJ (aA (bC (t':=0) tA rfl rfl) (aA (bQ fA n3 (i:=0) rfl rfl rfl) ?_))))))))
      obtain ⟨O,u7,hm⟩:=aC hm
      refine aQ (vs:=[bE c.B]) call82 rfl (aBq u7 n3 hG) ?_
      rintro _ z3 ⟨f7,f8,rfl,n4⟩
      refine aG (v:=zT #[bE O.1,zS f7 O.2.1.length f8,zB O.2.2]) (aA (cJ rfl rfl) (aA (cJ rfl rfl) (aA (cJ rfl rfl) (aD (v:=bE O.1) (aD (v:=zS f7 O.2.1.length f8) (aD (v:=zB O.2.2) (aF (aU (aG (v:=zP (some ⟨e,0,none⟩)) (aG (v:=bE O.1) (aG (v:=zS f7 O.2.1.length f8) (aG (v:=i64 b4) (aA (bC (t':=1) zX rfl rfl) (aA (fQ (us:=[i64 c.Next.Definition,i64 c.Next.Part,zS b0 c.Next.Values.length b1]) vM n4 (i:=1) rfl rfl rfl rfl) (gA (Kt:=j) (xs:=([c.Next]:List aZ)) (cs:=[i64 c.Next.Definition,i64 c.Next.Part,zS b0 c.Next.Values.length b1]) (vs:=[(0,zA #[i64 c.Next.Definition,i64 c.Next.Part,zS b0 c.Next.Values.length b1])]) gP aGt rfl rfl n4 rfl (by kernel_rfl) rfl rfl rfl ⟨⟨b0,b1,rfl,u4⟩,trivial⟩ (fun n5 n6 (u8:aM G j (bN 70 j n5 1 ([c.Next]:List aZ)::bN 2 K f7 f8 O.2.1::box k6 127 [bE c.B,i64 c.Next.Definition,i64 c.Next.Part,zS b0 c.Next.Values.length b1]::bN 122 j c1 c3 a6::bN 99 K a8 a9 (bK V m)::rows [70,2] V m::box e 140 [zS a1 s_.Definitions.length c2,zS a4 s_.Components.length c5,zS a7 s_.Meetings.length c8,zS a10 s_.Allowed.length c11,zS a13 s_.Hidden.length c14,zS a16 b.length c17,zS a8 m.length a9,zM (some a)]::mN a d6::box q 37 k::L) n6)=>?_))))))))))))))))
      obtain ⟨z4,d7,u9,v0,v1⟩:=aM.lendSp u8 (zL (zL u a5) b5) zt1
      obtain ⟨v2,d8,v3,v4,v5⟩:=aM.lendSp v0 d7 .head
      have v6:aM G v2 (bN 99 K a8 a9 (bK V m)::rows [70,2] V m::mN a d6::box e 140 [zS a1 s_.Definitions.length c2,zS a4 s_.Components.length c5,zS a7 s_.Meetings.length c8,zS a10 s_.Allowed.length c11,zS a13 s_.Hidden.length c14,zS a16 b.length c17,zS a8 m.length a9,zM (some a)]::box k6 127 [bE c.B,i64 c.Next.Definition,i64 c.Next.Part,zS b0 c.Next.Values.length b1]::bN 122 j c1 c3 a6::box q 37 k::L) n6:=(aM.arr 6 [2,3,5,4,0,1] v4 rfl)
      obtain ⟨z5,v7,hm⟩:=aC hm
      refine aQ (vs:=[zP (some ⟨e,0,none⟩),bE O.1,zS f7 O.2.1.length f8,i64 b4,i64 (-1),zS n5 ([c.Next]:List aZ).length 1]) call83 rfl (aCz v7 v6 hG (h3.mono (zL (zL (zL (zL u a5) b5) d7) d8)) (h6.mono (zL (zL (zL (zL u a5) b5) d7) d8)) (h9.mono (zL (zL (zL (zL u a5) b5) d7) d8)) (k9.mono (zL (zL (zL (zL u a5) b5) d7) d8)) (l0.mono (zL (zL (zL (zL u a5) b5) d7) d8)) (g0.mono (zL (zL (zL (zL u a5) b5) d7) d8)) n1 (u9.mono d8) v3) ?_
      rintro _ z6 ⟨v8,v9,w0,rfl,w1,w2⟩
      have w3:=v5 _ _ w2
      have w4:=v1 _ _ w3
      exact cW (bH (aB (aU (aA (cA k3 rfl) (aG (v:=i64 (wr (k2+1))) (aF ⟨_,(zI hm).symm,aT,v8,v9,w0,rfl,w1,(aM.arr 8 [7,2,3,5,4] w4 rfl)⟩))))))
     ·refine aI k5 rfl (cD (bA (bA ?_)))
      have w5:=hr _ (zI hm).symm
      subst w5
      have hm:(lU b4 a6 m d6)=some j4:=ho
      clear hr ho
      exact bR (aB ⟨aT,m,d6,a8,a9,V,hm,n1,(aM.arr 3 [1,2,0] k4 rfl)⟩)
  ·refine aI j6 rfl (cD (bA (bA ?_)))
   have w6:=hr _ (zI hm).symm
   subst w6
   have hm:(iZ s_ b g b2 b3)=some R:=ho
   clear hr ho
   exact bR (aB ⟨aT,J,g,b2,b3,o,p,l,b7,b8,u,hm,m5,m6,(aM.arr 6 [0,1,2,3,4] j5 rfl)⟩)
theorem aOL {s_:bJ} {c R:Int} (hm:aJc s_ c=some R) (z:aM G K (L) w):
  Calls prog 85 ([bE s_,i64 c]:List Value).toArray w (eK fun v w'=>v=i64 R/\aM G K (L) w'):=by
 refine aP func85 rfl (by kernel_rfl) (by show (2:Nat)<=35;decide) ?_;unfold aJc at hm
 refine aJ (aD (v:=i64 0) (aF (aN (aJ (aG (v:=i64 c) ?_)))));obtain ⟨r1,J,hm⟩:=aC hm
 refine aQ (vs:=[i64 c,i64 0,i64 65535]) call58 rfl (fK J z) ?_
 rintro _ w3 ⟨rfl,r⟩
 refine aA (dA rfl) (aF ?_)
 rcases aH hm with ⟨i,hm⟩|⟨i,hm⟩
 ·refine aL i rfl (aJ (aD (v:=i64 0) (aF ?_)));obtain rfl:=zI hm
  exact aX (aK (aO results85 rfl ⟨rfl,r⟩))
 ·refine aI i rfl (aW (aB (aJ (aG (v:=i64 c) (aD (v:=i64 c) (aF (aN (aJ (aG (v:=bE s_) (aA (fX runUnderlying9 rfl) (aG (v:=i64 0) (aF (bM [] (fun f w=>∃ e,aDV e=some R/\f 5=i64 e/\aM G K (L) w) ?_ ?_)))))))))))))
  ·rintro f w9 ⟨e,hm,O,a0⟩
   unfold aDV at hm
   refine aB (aJ (bF O (aD (v:=i64 e) (aF ?_))));obtain rfl:=zI hm
   exact aX (aO results85 rfl ⟨rfl,a0⟩)
  obtain ⟨b8,a2,ho⟩:=aC hm
  refine dD [0,12] a2 (fun d b f w=>f 5=i64 d/\f 13=i64 b/\aM G K (L) w) ?_ ?_
  ·exact ⟨rfl,rfl,r⟩
  ·rintro d b j f b9 hm hr ⟨t,k,u⟩
   unfold oO at hm
   refine aJ (aA (cF k rfl) (aF (aN ?_)))
   rcases aH hm with ⟨l,hm⟩|⟨l,hm⟩
   ·refine aL l rfl (aW (aB (aN (bM [0,12,13] (fun f w=>∃ m,aDW b m=some j/\f 5=i64 m/\aM G K (L) w) ?_ ?_))))
    ·rintro f c0 ⟨m,hm,a3,a4⟩
     unfold aDW at hm
     exact aB (aU (aA (cA k rfl) (aG (v:=i64 (wr (b+1))) (aF ⟨_,(zI hm).symm,aT,a3,rfl,a4⟩))))
    refine aJ (bF k (aD (v:=i64 b) (aF (aJ (bF t (aG (v:=bE s_) (aG (v:=i64 b) ?_)))))));obtain ⟨a5,a6,hm⟩:=aC hm
    refine aA (aDE runUnderlying9 rfl rfl a6) (aA (aLO runUnderlying2 rfl ⟨_,runUnderlying5⟩) (aA (R_mul rfl rfl) (aA (aOu rfl rfl) (aD (v:=i64 (xoI d (wr ((wr (a5.toNat:Int)) * 256)))) (aF (aJ (aG (v:=i64 0) (aF (bM [0,12,13] (fun f w=>∃ g,yH b g=some j/\f 5=i64 g/\aM G K (L) w) ?_ ?_)))))))))
    ·rintro f c1 ⟨g,hm,a7,a8⟩
     unfold yH at hm
     exact bH (aB ⟨aT,g,hm,a7,a8⟩)
    obtain ⟨c2,a9,ho⟩:=aC hm
    refine dD [0,12,13] a9 (fun a h f w=>f 5=i64 a/\f 23=i64 h/\aM G K (L) w) ?_ ?_
    ·exact ⟨rfl,rfl,u⟩
    ·rintro a h b0 f c3 hm hr ⟨x,y,n⟩
     unfold mA at hm
     refine aJ (aA (cF y rfl) (aF (aN ?_)))
     rcases aH hm with ⟨o,hm⟩|⟨o,hm⟩
     ·refine aL o rfl (aW (aB (aN (bM [0,12,13,23] (fun f w=>∃ p,yI h p=some b0/\f 5=i64 p/\aM G K (L) w) ?_ ?_))))
      ·rintro f c4 ⟨p,hm,b1,b2⟩
       unfold yI at hm
       exact aB (aU (aA (cA y rfl) (aG (v:=i64 (wr (h+1))) (aF ⟨_,(zI hm).symm,aT,b1,rfl,b2⟩))))
      refine aJ (bF x (aA (R_mul rfl rfl) (aD (v:=i64 (wr (a * 2))) (aF (aJ (aG (v:=i64 (wr (a * 2))) (aA (nN rfl rfl) (aF ?_))))))))
      rcases aH hm with ⟨q,hm⟩|⟨q,hm⟩
      ·exact aL q rfl (aU (aG (v:=i64 (wr (a * 2))) (aA (R_andI rfl rfl) (aA (aOu rfl rfl) (aD (v:=i64 (xoI (anI (wr (a * 2)) 65535) 4129)) (cW (bH (aB ⟨aT,xoI (anI (wr (a * 2)) 65535) 4129,hm,rfl,n⟩))))))))
      ·exact aI q rfl (aW (bH (aB ⟨aT,wr (a * 2),hm,rfl,n⟩)))
     ·refine aI o rfl (cD (bA (bA ?_)))
      have b3:=hr _ (zI hm).symm
      subst b3
      have hm:(yH b a)=some j:=ho
      clear hr ho
      exact bR (aB ⟨aT,a,hm,x,n⟩)
   ·refine aI l rfl (cD (bA (bA ?_)))
    have b4:=hr _ (zI hm).symm
    subst b4
    have hm:(aDV d)=some R:=ho
    clear hr ho
    exact bR (aB ⟨aT,d,hm,t,u⟩)
theorem aFy {b:(List dI)} {R:dI} (hm:rA b=some R) (h:aM G K (L) w) (c:bY K a1 c2 b):
  Calls prog 89 ([zS a1 b.length c2]:List Value).toArray w (eK fun v w'=>v=zA #[i64 R.Choice,i64 R.First,i64 R.Second,bE R.B]/\aM G K (L) w'):=by
 refine aP func89 rfl (by kernel_rfl) (by show (1:Nat)<=9;decide) ?_;unfold rA at hm
 refine aJ (eA (vs:=[i64 0,i64 0,i64 0,bE ([]:bJ)]) zeroValue66 h rfl (fun j o d=>(aF (aJ (aG (v:=zS a1 b.length c2) (aG (v:=zS a1 b.length c2) (aA (bO (len:=b.length) mX rfl) (aA (iW rfl rfl) ?_))))))));obtain ⟨a,e,hm⟩:=aC hm
 refine aA (cG mX rfl c rfl rfl rfl e) ?_;obtain ⟨p,k,l⟩:=bY.el (sz:=4) rfl c e
 cases l
 refine aA (dZ (t:=0) (vs:=[i64 a.Choice,i64 a.First,i64 a.Second,bE a.B]) ag_66 d k rfl rfl rfl) (eD (i:=0) (ns:=[i64 a.Choice,i64 a.First,i64 a.Second,bE a.B]) (us:=[i64 a.Choice,i64 a.First,i64 a.Second,bE a.B]) sizeOf66 d rfl rfl rfl rfl rfl (gJ rfl) rfl rfl (fun m (g:aM G K (box j 66 [i64 a.Choice,i64 a.First,i64 a.Second,bE a.B]::L) m)=>(aF ?_)));obtain rfl:=zI hm
 exact aX (aEs results89 (aBY (vs:=[i64 a.Choice,i64 a.First,i64 a.Second,bE a.B]) rfl ag_66 g (i:=0) rfl rfl rfl) ⟨rfl,(aM.arr 1 [] g rfl)⟩)
theorem aEd {m:bV} {p:(List dI)} {c:Nat} {R:Bool} (hm:nM m p=some R) (e:aM G K (L) w) (o:bY K a1 c2 m.State) (g:iG K a4 c [zS a7 p.length c8]) (h:bY K a7 c8 p):
  Calls prog 88 ([zA #[bE m.B,i64 m.First,i64 m.Second,zS a1 m.State.length c2],eP a4 c]:List Value).toArray w (eK fun v w'=>v=zB R/\aM G K (L) w'):=by
 let d:=[bE m.B,i64 m.First,i64 m.Second,zS a1 m.State.length c2]
 refine aP func88 rfl (by kernel_rfl) (by show (2:Nat)<=10;decide) ?_;unfold nM at hm
 refine aJ (dM (v:=zA #[bE m.B,i64 m.First,i64 m.Second,zS a1 m.State.length c2]) (vs:=d) e rfl rfl (fun j q a=>(aD (v:=zB false) (aF (aN (dU (C:=fun w'=>aM G K (box j 99 d::L) w') cI (by kernel_rfl) (aM.mono a (eH.drew _)) (bG (fun _ a=>bC (t':=1) aHz rfl rfl) (bG (fun _ a=>bQ dC a (i:=0) rfl rfl rfl) (bG (fun _ a=>cC (t:=0) sc_29 a g rfl rfl) ?_)))))))));obtain ⟨b,k,hm⟩:=aC hm
 refine eU (vs:=[zS a7 p.length c8]) (v:=zA #[i64 b.Choice,i64 b.First,i64 b.Second,bE b.B]) call89 rfl (fun _ a=>(aFy k a h)) (bG (fun _ a=>R_field (v:=i64 b.First) fv_66_1 rfl rfl) (bG (fun _ a=>nN rfl rfl) (bG (fun _ a=>fG (v:=zB (decide (b.First < m.First))) rfl) (eT (fun r l=>(aB ?_))))));obtain rfl:=zI hm
 exact aX (aO results88 rfl ⟨rfl,(aM.arr 1 [] l rfl)⟩)
theorem oP {s_:(List bV)} {d:(List dI)} {c:Nat} {R:Int} (hm:eQ s_ d=some R) (o:aM G K (L) w) (l:bY K a1 c2 s_) (p:iG K a4 c [zS a7 d.length c8]) (q:bY K a7 c8 d):
  Calls prog 87 ([zS a1 s_.length c2,Value.func (.func 88) #[] #[eP a4 c]]:List Value).toArray w (eK fun v w'=>v=i64 R/\aM G K (L) w'):=by
 refine aP func87 rfl (by kernel_rfl) (by show (2:Nat)<=19;decide) ?_;unfold eQ at hm
 refine aJ (aD (v:=i64 0) (aF (aN (aJ (aG (v:=zS a1 s_.length c2) (aA (bO (len:=s_.length) qI rfl) (aG (v:=i64 0) (aF (bM [] (fun f w=>fJ=some R/\aM G K (L) w) ?_ ?_)))))))))
 ·rintro f a3 ⟨hm,r⟩
  unfold fJ at hm
  refine aB (aJ (aD (v:=i64 (-1)) (aF ?_)));obtain rfl:=zI hm
  exact aX (aO results87 rfl ⟨rfl,r⟩)
 obtain ⟨a5,x,ho⟩:=aC hm
 refine dP [0,1,7] x (fun b f w=>f 8=i64 b/\aM G K (L) w) ?_ ?_
 ·exact ⟨rfl,o⟩
 ·rintro b a6 f a8 hm hr ⟨e,g⟩
  unfold eJ at hm
  refine aJ (aA (cF e rfl) (aF (aN ?_)))
  rcases aH hm with ⟨h,hm⟩|⟨h,hm⟩
  ·refine aL h rfl (aW (aB (aN (bX (aJ (bF e (aD (v:=i64 b) (aF (aJ (aG (v:=Value.func (.func 88) #[] #[eP a4 c]) (aG (v:=zS a1 s_.length c2) (aG (v:=i64 b) ?_))))))))))));obtain ⟨a,m,hm⟩:=aC hm
   refine aA (cG qI rfl l rfl rfl rfl m) ?_;obtain ⟨a9,y,z⟩:=bY.el (sz:=4) rfl l m
   obtain ⟨i,j,rfl,J⟩:=z
   refine aA (dZ (t:=0) (vs:=[bE a.B,i64 a.First,i64 a.Second,zS i a.State.length j]) ag_99 g y rfl rfl rfl) ?_;obtain ⟨b0,V,hm⟩:=aC hm
   refine sZ (vs:=[zA #[bE a.B,i64 a.First,i64 a.Second,zS i a.State.length j]]) (caps:=[eP a4 c]) (us:=[zA #[bE a.B,i64 a.First,i64 a.Second,zS i a.State.length j],eP a4 c]) rfl call88 rfl rfl (aEd V g J p q) ?_
   rintro _ b1 ⟨rfl,n⟩
   refine aF ?_
   rcases aH hm with ⟨k,hm⟩|⟨k,hm⟩
   ·refine aL k rfl (aJ (aG (v:=i64 b) (aD (v:=i64 b) (aF (aX (aY (aK (aK ?_))))))))
    have O:=hr _ (zI hm).symm
    subst O
    have hm:(some b)=some R:=ho
    clear hr ho
    obtain rfl:=zI hm
    exact aY (aK (aK (aO results87 rfl ⟨rfl,n⟩)))
   ·exact aI k rfl (aW (bH (aB (aU (aA (cA e rfl) (aG (v:=i64 (wr (b+1))) (aF ⟨_,(zI hm).symm,aT,rfl,n⟩)))))))
  ·refine aI h rfl (cD (bA (bA ?_)))
   have a2:=hr _ (zI hm).symm
   subst a2
   have hm:(fJ)=some R:=ho
   clear hr ho
   exact bR (aB ⟨aT,hm,g⟩)
theorem aFz {x_:rZ} {c:(List bV)} {log:(List dI)} {R:Int} (hm:gV x_ c log=some R) (o:aM G K (L) w) (p:bY K a1 c2 c) (q:bY K a4 c5 log):
  Calls prog 60 ([zA #[i64 x_.policy,i64 x_.seed],zS a1 c.length c2,zS a4 log.length c5]:List Value).toArray w (eK fun v w'=>v=i64 R/\aM G K (L) w'):=by
 refine aP func60 rfl (by kernel_rfl) (by show (3:Nat)<=38;decide) ?_;unfold gV at hm
 refine aJ (dM (v:=zA #[i64 x_.policy,i64 x_.seed]) (vs:=[i64 x_.policy,i64 x_.seed]) o rfl rfl (fun r w8 t=>(dM (v:=zS a4 log.length c5) (vs:=[zS a4 log.length c5]) t rfl rfl (fun d b8 a=>(aD (v:=i64 0) (aF (aN (bX (aJ (aA (bC (t':=0) aOA rfl rfl) (aA (bQ dC a (i:=1) rfl rfl rfl) (aA (cK rfl rfl) (aD (v:=zB (x_.policy == 2)) (aF ?_))))))))))))))
 rcases aH hm with ⟨e,hm⟩|⟨e,hm⟩
 ·refine aL e rfl (aN (dU (C:=fun w'=>aM G K (box d 29 [zS a4 log.length c5]::box r 60 [i64 x_.policy,i64 x_.seed]::L) w') cI (by kernel_rfl) (aM.mono a (eH.drew _)) (bG (fun _ a=>bC (t':=1) fa_60_1 rfl rfl) (bG (fun _ a=>bQ dC a (i:=1) rfl rfl rfl) ?_))));obtain ⟨u,x,hm⟩:=aC hm
  refine eU (vs:=[i64 x_.seed]) (v:=bE u) call86 rfl (fun _ a=>(uG a x)) ?_;obtain ⟨b9,y,hm⟩:=aC hm
  refine bG (fun _ a=>qH rfl rfl y) (bG (fun _ a=>bQ sc_29 a (i:=0) rfl rfl rfl) (bG (fun _ a=>bO (len:=log.length) mX rfl) ?_));obtain ⟨z,J,hm⟩:=aC hm
  refine eU (vs:=[i64 (log.length:Int)]) (v:=bE z) call86 rfl (fun _ a=>(uG a J)) ?_;obtain ⟨V,O,hm⟩:=aC hm
  refine bG (fun _ a=>qH rfl rfl O) ?_;obtain ⟨a0,a2,hm⟩:=aC hm
  refine eU (vs:=[bE V,i64 65535]) (v:=i64 a0) call85 rfl (fun _ a=>(aOL a2 a)) (bG (fun _ a=>bP (v:=zS a1 c.length c2) rfl) (bG (fun _ a=>bO (len:=c.length) qI rfl) ?_));obtain ⟨a3,a5,hm⟩:=aC hm
  refine bG (fun _ a=>aIj rfl rfl a5) (bG (fun _ a=>fG (v:=i64 a3) rfl) (eT (fun c0 a6=>(aB ?_))));obtain rfl:=zI hm
  exact aX (aY (aK (aO results60 rfl ⟨rfl,(aM.arr 2 [] a6 rfl)⟩)))
 ·refine aI e rfl (aN (cP [1,5] (fun f w=>∃ h,iA c log h=some R/\f 24=zB h/\aM G K (box d 29 [zS a4 log.length c5]::L) w) ?_ ?_))
  ·rintro f c1 ⟨h,hm,l,m⟩
   unfold iA at hm
   refine aB ?_
   rcases aH hm with ⟨j,hm⟩|⟨j,hm⟩
   ·refine aL j l (aJ (aG (v:=zS a1 c.length c2) (aA (yA (vs:=[zP (some ⟨d,0,none⟩)]) rfl) ?_)));obtain ⟨c3,n,a8,a9,b0⟩:=aM.lendBp m .head
    obtain ⟨k,b1,hm⟩:=aC hm
    refine aQ (vs:=[zS a1 c.length c2,Value.func (.func 88) #[] #[eP (some ⟨d,0,none⟩) 0]]) call87 rfl (oP b1 a9 (p.mono n) a8 (q.mono n)) ?_
    rintro _ c4 ⟨rfl,b2⟩
    have b3:=b0 _ _ b2
    refine aD (v:=i64 k) (aF (aJ (aG (v:=i64 k) (aA (R_max rfl rfl) (aD (v:=i64 (mxI k 0)) (aF ?_))))));obtain rfl:=zI hm
    exact aX (aY (aK (aO results60 rfl ⟨rfl,(aM.arr 1 [] b3 rfl)⟩)))
   ·refine aI j l (aW (bH (aB (aJ (aD (v:=i64 0) (aF ?_))))));obtain rfl:=zI hm
    exact aX (aO results60 rfl ⟨rfl,(aM.arr 1 [] m rfl)⟩)
  refine aU (aA (bC (t':=0) aOA rfl rfl) (aA (bQ dC a (i:=1) rfl rfl rfl) (aA (cK rfl rfl) (aG (v:=zB (x_.policy == 1)) ?_))))
  rcases aH hm with ⟨b,hm⟩|⟨b,hm⟩
  ·exact bB b rfl rfl (aA (bQ sc_29 a (i:=0) rfl rfl rfl) (bB b rfl rfl (aA (bO (len:=log.length) mX rfl) (bB b rfl rfl (aA (nN rfl rfl) (aA (bI (v:=zB (decide (0 < (log.length:Int)))) b rfl rfl) (aD (v:=zB (decide (0 < (log.length:Int)))) (aF ⟨aT,decide (0 < (log.length:Int)),hm,rfl,(aM.arr 2 [0] a rfl)⟩))))))))
  ·exact aV b rfl rfl (aV b rfl rfl (aV b rfl rfl (aA (bL (v:=zB false) b rfl rfl) (aD (v:=zB false) (aF ⟨aT,false,hm,rfl,(aM.arr 2 [0] a rfl)⟩)))))
theorem aHl {x_:rZ} {s_:bZ} {J:(List aZ)} {b2:List (Dp.Hd aZ)} {log:(List dI)} {many:Int} {R:((List dI) × (List aZ) × Int)} (hm:xP x_ s_ J log many=some R) (hs:aM G K (bN 70 K a16 c17 (bK b2 J)::rows [2] b2 J::bN 66 K a20 c21 log::L) w) (hG:G.lo=0) (h3:bY K a1 c2 s_.Definitions) (h6:bY K a4 c5 s_.Components) (h9:bY K a7 c8 s_.Meetings) (e9:bY K a10 c11 s_.Allowed) (f0:bY K a13 c14 s_.Hidden) (f1:List.length b2=List.length J):
  Calls prog 28 ([zA #[i64 x_.policy,i64 x_.seed],zA #[zS a1 s_.Definitions.length c2,zS a4 s_.Components.length c5,zS a7 s_.Meetings.length c8,zS a10 s_.Allowed.length c11,zS a13 s_.Hidden.length c14],zS a16 J.length c17,zS a20 log.length c21,i64 many]:List Value).toArray w (eK fun v w'=>∃ d2 d3 d4 d5 b8,v=zT #[zS d2 R.1.length d3,zS d4 R.2.1.length d5,i64 R.2.2]/\List.length b8=List.length R.2.1/\aM G K (bN 66 K d2 d3 R.1::bN 70 K d4 d5 (bK b8 R.2.1)::rows [2] b8 R.2.1::L) w'):=by
 let o:=[zS a1 s_.Definitions.length c2,zS a4 s_.Components.length c5,zS a7 s_.Meetings.length c8,zS a10 s_.Allowed.length c11,zS a13 s_.Hidden.length c14]
 refine aP func28 rfl (by kernel_rfl) (by show (5:Nat)<=62;decide) ?_;unfold xP at hm
 refine aJ (dM (v:=zA #[i64 x_.policy,i64 x_.seed]) (vs:=[i64 x_.policy,i64 x_.seed]) hs rfl rfl (fun y j5 f2=>(dM (v:=zA #[zS a1 s_.Definitions.length c2,zS a4 s_.Components.length c5,zS a7 s_.Meetings.length c8,zS a10 s_.Allowed.length c11,zS a13 s_.Hidden.length c14]) (vs:=o) f2 rfl rfl (fun z j6 f3=>(aD (v:=zS none 0 0) (aD (v:=zS none 0 0) (aD (v:=i64 0) (aF (aN (bM [] (fun f w=>∃ u V O a0 a2 a3 a5,jG u V=some R/\f 2=zS O u.length a0/\f 3=zS a3 V.length a5/\List.length a2=List.length u/\aM G K (bN 66 K a3 a5 V::bN 70 K O a0 (bK a2 u)::rows [2] a2 u::L) w) ?_ ?_))))))))))
 ·rintro f j7 ⟨u,V,O,a0,a2,a3,a5,hm,f4,f5,f6,f7⟩
  unfold jG at hm
  refine aB (aJ (bF f5 (bF f4 (aD (v:=zS a3 V.length a5) (aD (v:=zS O u.length a0) (aD (v:=i64 0) (aF ?_)))))));obtain rfl:=zI hm
  exact aX (aCI results28 rfl rfl rfl ⟨a3,a5,O,a0,a2,rfl,f6,f7⟩)
 obtain ⟨j8,f9,ho⟩:=aC hm
 refine dD [4,5,6] f9 (fun b g f w=>∃ j k c p q,f 2=zS j b.length k/\f 3=zS p g.length q/\List.length c=List.length b/\aM G K (box z 37 o::box y 60 [i64 x_.policy,i64 x_.seed]::bN 70 K j k (bK c b)::rows [2] c b::bN 66 K p q g::L) w) ?_ ?_
 ·exact ⟨a16,c17,b2,a20,c21,rfl,rfl,f1,f3⟩
 ·rintro b g j9 f k0 hm hr ⟨j,k,c,p,q,b9,a6,c0,c1⟩
  unfold fM at hm
  refine aN (aJ (bF a6 (aA (bO (len:=g.length) mX rfl) (aG (v:=i64 many) (aA (cF rfl rfl) (aF ?_))))))
  rcases aH hm with ⟨c3,hm⟩|⟨c3,hm⟩
  ·refine aL c3 rfl (aW (aB (bX (aJ (aA (fQ (us:=o) aFf c1 (i:=0) rfl rfl rfl rfl) (bF b9 ?_))))));obtain ⟨k1,a8,g0,k2,g1,g2⟩:=aM.lendD' (i:=2) c1 c0 rfl rfl
   obtain ⟨e,g3,hm⟩:=aC hm
   refine aQ (vs:=[zA #[zS a1 s_.Definitions.length c2,zS a4 s_.Components.length c5,zS a7 s_.Meetings.length c8,zS a10 s_.Allowed.length c11,zS a13 s_.Hidden.length c14],zS j b.length k]) call59 rfl (aIc g3 g1 hG (h3.mono a8) (h6.mono a8) (h9.mono a8) (e9.mono a8) (f0.mono a8) g0) ?_
   rintro _ g4 ⟨l,m,d6,rfl,b3,g5⟩
   have b4:=g2 _ _ g5
   refine aG (v:=zT #[zS l e.1.length m,zB e.2]) (aA (cJ rfl rfl) (aA (cJ rfl rfl) (aD (v:=zS l e.1.length m) (aD (v:=zB e.2) (aF (aN (aJ (aG (v:=zB e.2) (aA (dA rfl) (aF ?_))))))))))
   rcases aH hm with ⟨c4,hm⟩|⟨c4,hm⟩
   ·refine aL c4 rfl (aJ (aD (v:=zS none 0 0) (aD (v:=zS none 0 0) (aD (v:=i64 5) (aF (aX (aK (aY (aK ?_)))))))))
    have g6:=hr _ (zI hm).symm
    subst g6
    have hm:(some ([],[],5))=some R:=ho
    clear hr ho
    have g7:=aM.nil (α:=dI) b4 66 K
    have g8:aM G K (bN 70 K none 0 (bK ([]:List (Dp.Hd aZ)) ([]:List aZ))::rows [2] ([]:List (Dp.Hd aZ)) ([]:List aZ)::bN 66 K none 0 ([]:List dI)::bN 70 K j k (bK c b)::rows [2] c b::bN 99 K l m (bK d6 e.1)::rows [70,2] d6 e.1::box z 37 o::box y 60 [i64 x_.policy,i64 x_.seed]::bN 66 K p q g::L) g4:=aM.nil (α:=aIk _) (aM.rowsNil (α:=aZ) (tys:=[2]) g7) 70 K
    obtain rfl:=zI hm
    exact aY (aK (aK (aCI results28 rfl rfl rfl ⟨none,0,none,0,([]:List (Dp.Hd aZ)),rfl,rfl,(aM.arr 10 [2,0,1] g8 rfl)⟩)))
   ·refine aI c4 rfl (aW (aB (aN (aJ (aG (v:=zS l e.1.length m) (aA (bO (len:=e.1.length) qI rfl) (aA (cK rfl rfl) (aF ?_))))))))
    rcases aH hm with ⟨c6,hm⟩|⟨c6,hm⟩
    ·refine aL c6 rfl (cD (bA (aNx rfl (bA ?_))))
     have h0:=hr _ (zI hm).symm
     subst h0
     have hm:(jG b g)=some R:=ho
     clear hr ho
     exact bR (aB ⟨aT,b,g,j,k,c,p,q,hm,b9,a6,c0,(aM.arr 7 [6,0,1] b4 rfl)⟩)
    ·refine aI c6 rfl (aW (aB (aJ (aA (fQ (us:=[i64 x_.policy,i64 x_.seed]) ag_60 b4 (i:=5) rfl rfl rfl rfl) (aG (v:=zS l e.1.length m) (bF a6 ?_))))));obtain ⟨k3,h1,h2,k4,h4,h5⟩:=aM.lendD' (i:=2) b4 b3 rfl rfl
     obtain ⟨k5,h7,h8,i0,i1⟩:=aM.lendSp h4 h1 zt4
     obtain ⟨d,i2,hm⟩:=aC hm
     refine aQ (vs:=[zA #[i64 x_.policy,i64 x_.seed],zS l e.1.length m,zS p g.length q]) call60 rfl (aFz i2 i0 (h2.mono h7) h8) ?_
     rintro _ k6 ⟨rfl,i3⟩
     have i4:=i1 _ _ i3
     have i5:=h5 _ _ i4
     refine aD (v:=i64 d) (aF (aN ?_));obtain ⟨c7,d7,d8,k7,d9,i6⟩:=aM.lendD' (i:=0) i5 b3 rfl rfl
     refine kT (C:=fun w'=>∃ L',aM G c7 L' w') [(0,0),(1,0),(2,0),(3,0),(4,0),(5,0),(6,0),(7,0),(8,0),(9,0),(10,0),(11,0),(12,0),(13,0),(14,0),(15,0),(16,0),(17,0),(18,1),(19,1),(20,0)] cI (by kernel_rfl) (fun _ hg=>⟨_,aM.mono d9 hg⟩) (fun k8 i7=>?_)
     have x:=aM.mono d9 i7
     refine dB rfl (fun _ _=>bP a6) (dB rfl (fun _ _=>bP (v:=i64 d) rfl) (dB rfl (fun _ _=>bP (v:=zS l e.1.length m) rfl) (dB rfl (fun _ _=>bP (v:=i64 d) rfl) ?_)));obtain ⟨a,n,hm⟩:=aC hm
     have r:=aLt d8 n
     refine dB rfl (fun _ _=>fT qI rfl r rfl rfl rfl n) (dB rfl (fun _ _=>jE (k':=d.toNat * 4+1) aHz r rfl rfl) ?_);obtain ⟨k9,c9,i8⟩:=bY.el (sz:=4) rfl d8 n
     obtain ⟨l0,l1,rfl,l2⟩:=i8
     refine dB rfl (fun _ ⟨_,x⟩=>cC (t:=1) dC x c9 rfl rfl) (dB rfl (fun _ _=>bP (v:=zS l e.1.length m) rfl) (dB rfl (fun _ _=>bP (v:=i64 d) rfl) (dB rfl (fun _ _=>fT qI rfl r rfl rfl rfl n) (dB rfl (fun _ _=>jE (k':=d.toNat * 4+2) aLv r rfl rfl) (dB rfl (fun _ ⟨_,x⟩=>cC (t:=2) dC x c9 rfl rfl) (dB rfl (fun _ _=>bP (v:=zS l e.1.length m) rfl) (dB rfl (fun _ _=>bP (v:=i64 d) rfl) (dB rfl (fun _ _=>fT qI rfl r rfl rfl rfl n) (dB rfl (fun _ _=>jE (k':=d.toNat * 4+0) aLu r rfl rfl) (dB rfl (fun _ ⟨_,x⟩=>cC (t:=0) fA x c9 rfl rfl) (dB rfl (fun _ _=>lQ (vs:=[(0,i64 d),(1,i64 a.First),(2,i64 a.Second),(3,bE a.B)]) (cs:=[i64 d,i64 a.First,i64 a.Second,bE a.B]) bs_66 rfl (by kernel_rfl)) (yC rfl (gA (Kt:=K) (xs:=([⟨d,a.First,a.Second,a.B⟩]:List dI)) (cs:=[i64 d,i64 a.First,i64 a.Second,bE a.B]) (vs:=[(0,zA #[i64 d,i64 a.First,i64 a.Second,bE a.B])]) mX aNM rfl rfl x rfl (by kernel_rfl) rfl rfl rfl ⟨rfl,trivial⟩ (fun i9 j0 (e0:aM G c7 (bN 66 K i9 1 ([⟨d,a.First,a.Second,a.B⟩]:List dI)::bN 66 K p q g::bN 70 K j k (bK c b)::rows [2] c b::box z 37 o::box y 60 [i64 x_.policy,i64 x_.seed]::L) j0)=>(cW (aB ⟨⟨_,e0⟩,?_⟩))))))))))))))))
     refine yC rfl ?_;obtain ⟨b5,j1,hm⟩:=aC hm
     refine qM (i:=0) mX underlying29 aNM rfl rfl e0 rfl d7 d7 j1 rfl rfl rfl rfl (fun _ h=>h) (fun a9 b0 d0 (e1:aM G c7 (bN 66 K a9 b0 b5::bN 70 K j k (bK c b)::rows [2] c b::box z 37 o::box y 60 [i64 x_.policy,i64 x_.seed]::L) d0)=>(cW (aB ⟨⟨_,e1⟩,?_⟩)))
     refine dB rfl (fun _ _=>fG (v:=zS a9 b5.length b0) rfl) (yB ?_)
     have e2:=i6 _ _ e1
     refine aB (aU (aG (v:=zS l e.1.length m) (aG (v:=i64 d) (aA (fT qI rfl r rfl rfl rfl n) (aA (jE (k':=d.toNat * 4+3) aLw r rfl rfl) ?_)))));obtain ⟨⟨⟨b6,b7⟩,b1⟩,e3⟩:=aCJ b3 n
     refine aA (aKD (t:=3) sc_30 e2 (i:=0) rfl (kK b3 n e3) rfl rfl rfl) ?_
     have j2:aM G K (bN 70 K b6 b7 (bK b1 a.State)::aDG [2] b1 a.State::bN 66 K a9 b0 b5::bN 70 K j k (bK c b)::rows [2] c b::box z 37 o::box y 60 [i64 x_.policy,i64 x_.seed]::L) d0:=aM.arr 9 [0,1,4,5,6,7,8] (aM.rowOut (i:=1) e2 rfl e3 (aLR n)) rfl
     obtain ⟨j3,d1⟩:=aM.openL (i:=1) j2 rfl
     replace d1:aM G K (bN 70 K b6 b7 (bK b1 a.State)::rows [2] b1 a.State::bN 66 K a9 b0 b5::bN 70 K j k (bK c b)::rows [2] c b::box z 37 o::box y 60 [i64 x_.policy,i64 x_.seed]::L) d0:=d1
     exact aD (v:=zS b6 a.State.length b7) (cW (bH (aB ⟨_,(zI hm).symm,aT,b6,b7,b1,a9,b0,rfl,rfl,j3,(aM.arr 7 [5,6,0,1,2] d1 rfl)⟩)))
  ·refine aI c3 rfl (cD (bA (bA ?_)))
   have j4:=hr _ (zI hm).symm
   subst j4
   have hm:(jG b g)=some R:=ho
   clear hr ho
   exact bR (aB ⟨aT,b,g,j,k,c,p,q,hm,b9,a6,c0,(aM.arr 5 [4,2,3] c1 rfl)⟩)
theorem aId {s_:bZ} {R:(List aZ)} (hm:uA s_=some R) (hs:aM G K (L) w) (h3:bY K a1 c2 s_.Definitions) (h6:bY K a4 c5 s_.Components) (h9:bY K a7 c8 s_.Meetings) (f1:bY K a10 c11 s_.Allowed) (f2:bY K a13 c14 s_.Hidden):
  Calls prog 29 ([zA #[zS a1 s_.Definitions.length c2,zS a4 s_.Components.length c5,zS a7 s_.Meetings.length c8,zS a10 s_.Allowed.length c11,zS a13 s_.Hidden.length c14]]:List Value).toArray w (eK fun v w'=>∃ a6 a8 u,v=zS a6 R.length a8/\List.length u=List.length R/\aM G K (bN 70 K a6 a8 (bK u R)::rows [2] u R::L) w'):=by
 let a9:=[zS a1 s_.Definitions.length c2,zS a4 s_.Components.length c5,zS a7 s_.Meetings.length c8,zS a10 s_.Allowed.length c11,zS a13 s_.Hidden.length c14]
 refine aP func29 rfl (by kernel_rfl) (by show (1:Nat)<=24;decide) ?_;unfold uA at hm
 refine aJ (dM (v:=zA #[zS a1 s_.Definitions.length c2,zS a4 s_.Components.length c5,zS a7 s_.Meetings.length c8,zS a10 s_.Allowed.length c11,zS a13 s_.Hidden.length c14]) (vs:=a9) hs rfl rfl (fun c0 c1 b0=>(aD (v:=zS none 0 0) (aF (aJ (aD (v:=zS none 0 0) (aF (aN (aJ (aA (bC (t':=1) uM rfl rfl) (aA (bQ aGs b0 (i:=0) rfl rfl rfl) (aA (bO (len:=s_.Components.length) vV rfl) (aG (v:=i64 0) (aF (bM [] (fun f w=>∃ h l m n,sV h=some R/\f 3=zS l h.length m/\List.length n=List.length h/\aM G K (bN 70 K l m (bK n h)::rows [2] n h::L) w) ?_ ?_)))))))))))))))
 ·rintro f f3 ⟨h,l,m,n,hm,c3,c4,c6⟩
  unfold sV at hm
  refine aB (aJ (bF c3 (aD (v:=zS l h.length m) (aF ?_))));obtain rfl:=zI hm
  exact aX (aO results29 rfl ⟨l,m,n,rfl,c4,c6⟩)
 have c9:aM G K (bN 70 K none 0 (bK ([]:List (Dp.Hd aZ)) ([]:List aZ))::rows [2] ([]:List (Dp.Hd aZ)) ([]:List aZ)::box c0 37 a9::L) c1:=aM.nil (α:=aIk _) (aM.rowsNil (α:=aZ) (tys:=[2]) b0) 70 K
 obtain ⟨f4,d0,ho⟩:=aC hm
 refine dD [7,8] d0 (fun c y f w=>∃ j k b,f 3=zS j c.length k/\f 9=i64 y/\List.length b=List.length c/\aM G K (bN 70 K j k (bK b c)::rows [2] b c::L) w) ?_ ?_
 ·exact ⟨none,0,[],rfl,rfl,rfl,(aM.arr 3 [0,1] c9 rfl)⟩
 ·rintro c y f5 f f6 hm hr ⟨j,k,b,b1,z,J,V⟩
  unfold oF at hm
  refine aJ (aA (cF z rfl) (aF (aN ?_)))
  rcases aH hm with ⟨O,hm⟩|⟨O,hm⟩
  ·refine aL O rfl (aW (aB (aN (bX (aJ ?_)))));obtain ⟨a,b2,hm⟩:=aC hm
   refine aA (cG vV rfl h6 rfl rfl z b2) ?_;obtain ⟨f7,d1,d2⟩:=bY.el (sz:=2) rfl h6 b2
   obtain ⟨o,p,rfl,d3⟩:=d2
   refine aA (dZ (t:=0) (vs:=[i64 a.Definition,zS o a.Values.length p]) aFQ V d1 rfl rfl rfl) (eA (vs:=[i64 0,zS none 0 0]) zeroValue100 V rfl (fun d4 f8 d5=>(eD (i:=0) (ns:=[i64 a.Definition,zS o a.Values.length p]) (us:=[i64 a.Definition,zS o a.Values.length p]) sizeOf100 d5 rfl rfl rfl rfl rfl (gJ rfl) rfl rfl (fun d6 (d7:aM G K (box d4 100 [i64 a.Definition,zS o a.Values.length p]::bN 70 K j k (bK b c)::rows [2] b c::L) d6)=>(aF ?_)))))
   obtain ⟨r,d8,b3,b4,d9⟩:=aM.lendBp d7 .head
   refine kT (C:=fun w'=>∃ L',aM G r L' w') [(0,0),(1,0),(2,0),(3,0),(4,0),(5,1),(6,0),(7,1),(8,1),(9,0)] cI (by kernel_rfl) (fun _ hg=>⟨_,aM.mono b4 hg⟩) (fun f9 e0=>?_)
   have q:=aM.mono b4 e0
   refine dB rfl (fun _ _=>bP b1) (dB rfl (fun _ _=>bC (t':=0) vW rfl rfl) (dB rfl (fun _ ⟨_,q⟩=>cC (t:=0) dC q b3 rfl rfl) (dB rfl (fun _ _=>bC (t':=1) vX rfl rfl) (dB rfl (fun _ ⟨_,q⟩=>cC (t:=1) vL q b3 rfl rfl) (yC rfl ?_)))));obtain ⟨g,e1,hm⟩:=aC hm
   refine aQ (vs:=[zS o a.Values.length p]) call61 rfl (gW e1 q (d3.mono d8)) ?_
   rintro _ e2 ⟨d,e,rfl,b5⟩
   refine cW (aB ⟨⟨_,b5⟩,?_⟩)
   refine dB rfl (fun _ _=>lQ (vs:=[(0,i64 a.Definition),(1,i64 0),(2,zS d g.length e)]) (cs:=[i64 a.Definition,i64 0,zS d g.length e]) aLW rfl (by kernel_rfl)) (yC rfl ?_)
   have e3:aM G r (rows [2] ([(d,e)]:List (Dp.Hd aZ)) ([⟨a.Definition,0,g⟩]:List aZ)::bN 70 K j k (bK b c)::rows [2] b c::L) e2:=aM.rowsOneS (tys:=[2]) (hd:=((d,e):Dp.Hd aZ)) (x:=(⟨a.Definition,0,g⟩:aZ)) b5
   refine gA (Kt:=K) (xs:=bK ([(d,e)]:List (Dp.Hd aZ)) ([⟨a.Definition,0,g⟩]:List aZ)) (cs:=[i64 a.Definition,i64 0,zS d g.length e]) (vs:=[(0,zA #[i64 a.Definition,i64 0,zS d g.length e])]) gP aGt rfl rfl e3 rfl (by kernel_rfl) rfl rfl rfl ⟨rfl,trivial⟩ ?_
   intro e4 e5 (b6:aM G r (bN 70 K e4 1 (bK ([(d,e)]:List (Dp.Hd aZ)) ([⟨a.Definition,0,g⟩]:List aZ))::rows [2] ([(d,e)]:List (Dp.Hd aZ)) ([⟨a.Definition,0,g⟩]:List aZ)::bN 70 K j k (bK b c)::rows [2] b c::L) e5)
   refine cW (aB ⟨⟨_,b6⟩,?_⟩)
   refine yC rfl ?_;obtain ⟨a0,b7,hm⟩:=aC hm
   refine aOt (i:=0) (tys:=[2]) (hds:=b) (hds2:=([(d,e)]:List (Dp.Hd aZ))) gP underlying30 aGt rfl rfl b6 J rfl rfl rfl b7 rfl rfl rfl rfl ?_
   intro a2 a3 e6 (b8:aM G r (bN 70 K a2 a3 (bK (b++([(d,e)]:List (Dp.Hd aZ))) a0)::rows [2] (b++([(d,e)]:List (Dp.Hd aZ))) a0::L) e6)
   refine cW (aB ⟨⟨_,b8⟩,?_⟩)
   refine dB rfl (fun _ _=>fG (v:=zS a2 a0.length a3) rfl) (yB ?_)
   have e7:=d9 _ _ b8
   exact bH (aB (aU (aA (cA z rfl) (aG (v:=i64 (wr (y+1))) (aF ⟨_,(zI hm).symm,aT,a2,a3,(b++([(d,e)]:List (Dp.Hd aZ))),rfl,rfl,(aLs J rfl b7),(aM.arr 1 [] e7 rfl)⟩)))))
  ·refine aI O rfl (cD (bA (bA ?_)))
   have e8:=hr _ (zI hm).symm
   subst e8
   have hm:(sV c)=some R:=ho
   clear hr ho
   exact bR (aB ⟨aT,c,j,k,b,hm,b1,J,V⟩)
theorem aFA {s_:bZ} {a b g:Int} {R:((List dI) × (List aZ) × Int)} (hm:zE s_ a b g=some R) (hs:aM G K (L) w) (hG:G.lo=0) (k:bY K a1 c2 s_.Definitions) (l:bY K a4 c5 s_.Components) (m:bY K a7 c8 s_.Meetings) (n:bY K a10 c11 s_.Allowed) (o:bY K a13 c14 s_.Hidden):
  Calls prog 7 ([zA #[zS a1 s_.Definitions.length c2,zS a4 s_.Components.length c5,zS a7 s_.Meetings.length c8,zS a10 s_.Allowed.length c11,zS a13 s_.Hidden.length c14],i64 a,i64 b,i64 g]:List Value).toArray w (eK fun v w'=>∃ y z J V p,v=zT #[zS y R.1.length z,zS J R.2.1.length V,i64 R.2.2]/\List.length p=List.length R.2.1/\aM G K (bN 66 K y z R.1::bN 70 K J V (bK p R.2.1)::rows [2] p R.2.1::L) w'):=by
 let h:=[zS a1 s_.Definitions.length c2,zS a4 s_.Components.length c5,zS a7 s_.Meetings.length c8,zS a10 s_.Allowed.length c11,zS a13 s_.Hidden.length c14]
 refine aP func7 rfl (by kernel_rfl) (by show (4:Nat)<=32;decide) ?_;unfold zE at hm
 refine aJ (dM (v:=zA #[zS a1 s_.Definitions.length c2,zS a4 s_.Components.length c5,zS a7 s_.Meetings.length c8,zS a10 s_.Allowed.length c11,zS a13 s_.Hidden.length c14]) (vs:=h) hs rfl rfl (fun O e6 b9=>(aD (v:=zS none 0 0) (aD (v:=zS none 0 0) (aD (v:=i64 0) (aF (aJ (aG (v:=i64 a) (aG (v:=i64 b) (aA (lQ (vs:=[(0,i64 a),(1,i64 b)]) (cs:=[i64 a,i64 b]) bs_60 rfl (by kernel_rfl)) (eA (vs:=[i64 0,i64 0]) zeroValue60 b9 rfl (fun a0 e7 c0=>(eD (i:=0) (ns:=[i64 a,i64 b]) (us:=[i64 a,i64 b]) sizeOf60 c0 rfl rfl rfl rfl rfl (gJ rfl) rfl rfl (fun c1 (q:aM G K (box a0 60 [i64 a,i64 b]::box O 37 h::L) c1)=>(aF (aN (aJ (aA (fQ (us:=h) aFf q (i:=1) rfl rfl rfl rfl) (aA (fQ (us:=[i64 a,i64 b]) ag_60 q (i:=0) rfl rfl rfl rfl) (aG (v:=i64 g) ?_))))))))))))))))))))
 obtain ⟨j,c3,hm⟩:=aC hm
 refine aQ (vs:=[zA #[zS a1 s_.Definitions.length c2,zS a4 s_.Components.length c5,zS a7 s_.Meetings.length c8,zS a10 s_.Allowed.length c11,zS a13 s_.Hidden.length c14],zA #[i64 a,i64 b],i64 g]) call27 rfl (aMs (x_:=⟨a,b⟩) c3 q k l m n o) ?_
 rintro _ c4 ⟨rfl,a2⟩
 refine aD (v:=i64 j) (aF (aJ (aG (v:=i64 j) (aA (fV rfl rfl) (aF ?_)))))
 rcases aH hm with ⟨r,hm⟩|⟨r,hm⟩
 ·refine aL r rfl (aJ (aG (v:=i64 j) (aD (v:=zS none 0 0) (aD (v:=zS none 0 0) (aD (v:=i64 j) (aF ?_))))))
  have c6:=aM.nil (α:=dI) a2 66 K
  have c7:aM G K (bN 70 K none 0 (bK ([]:List (Dp.Hd aZ)) ([]:List aZ))::rows [2] ([]:List (Dp.Hd aZ)) ([]:List aZ)::bN 66 K none 0 ([]:List dI)::box a0 60 [i64 a,i64 b]::box O 37 h::L) c4:=aM.nil (α:=aIk _) (aM.rowsNil (α:=aZ) (tys:=[2]) c6) 70 K
  obtain rfl:=zI hm
  exact aX (aK (aCI results7 rfl rfl rfl ⟨none,0,none,0,([]:List (Dp.Hd aZ)),rfl,rfl,(aM.arr 5 [2,0,1] c7 rfl)⟩))
 ·refine aI r rfl (aW (aB (aN ?_)));obtain ⟨e8,d,d0,d1,d2⟩:=aM.lendBp a2 .head
  obtain ⟨a3,c,a5,a6,d3⟩:=aM.lendBp d1 .head
  refine kT (C:=fun w'=>∃ L',aM G a3 L' w') [(0,0),(1,0),(2,0),(4,0),(3,1),(5,1),(6,0),(7,0),(8,0),(9,0),(10,0),(11,0)] cI (by kernel_rfl) (fun _ hg=>⟨_,aM.mono a6 hg⟩) (fun e9 d4=>?_)
  have e:=aM.mono a6 d4
  refine dB rfl (fun _ ⟨_,e⟩=>dZ (t:=0) (vs:=[i64 a,i64 b]) ag_60 e (d0.mono c) rfl rfl rfl) (dB rfl (fun _ ⟨_,e⟩=>dZ (t:=0) (vs:=h) aFf e a5 rfl rfl rfl) (dB rfl (fun _ ⟨_,e⟩=>dZ (t:=0) (vs:=h) aFf e a5 rfl rfl rfl) (dB rfl (fun _ _=>bP (v:=i64 g) rfl) (yC rfl ?_))));obtain ⟨u,d5,hm⟩:=aC hm
  refine aQ (vs:=[zA #[zS a1 s_.Definitions.length c2,zS a4 s_.Components.length c5,zS a7 s_.Meetings.length c8,zS a10 s_.Allowed.length c11,zS a13 s_.Hidden.length c14]]) call29 rfl (aId d5 e (k.mono (zL d c)) (l.mono (zL d c)) (m.mono (zL d c)) (n.mono (zL d c)) (o.mono (zL d c))) ?_
  rintro _ d6 ⟨a8,a9,b0,rfl,d7,b1⟩
  refine cW (aB ⟨⟨_,b1⟩,?_⟩)
  refine yC rfl ?_
  have d8:=aM.nil (α:=dI) b1 66 K
  have d9:aM G a3 (bN 70 K a8 a9 (bK b0 u)::rows [2] b0 u::bN 66 K none 0 ([]:List dI)::L) d6:=(aM.arr 3 [1,2,0] d8 rfl)
  obtain ⟨x,e0,hm⟩:=aC hm
  have hcl:=aHl (x_:=⟨a,b⟩) e0 d9 hG (k.mono (zL d c)) (l.mono (zL d c)) (m.mono (zL d c)) (n.mono (zL d c)) (o.mono (zL d c)) d7
  refine aQ (vs:=[zA #[i64 a,i64 b],zA #[zS a1 s_.Definitions.length c2,zS a4 s_.Components.length c5,zS a7 s_.Meetings.length c8,zS a10 s_.Allowed.length c11,zS a13 s_.Hidden.length c14],zS a8 u.length a9,zS none 0 0,i64 g]) call28 rfl hcl ?_
  rintro _ f0 ⟨b2,b3,b4,b5,e1,rfl,e2,b6⟩
  refine cW (aB ⟨⟨_,b6⟩,?_⟩)
  refine dB rfl (fun _ _=>cJ rfl rfl) (dB rfl (fun _ _=>cJ rfl rfl) (dB rfl (fun _ _=>cJ rfl rfl) (dB rfl (fun _ _=>fG (v:=zS b2 x.1.length b3) rfl) (dB rfl (fun _ _=>fG (v:=zS b4 x.2.1.length b5) rfl) (dB rfl (fun _ _=>fG (v:=i64 x.2.2) rfl) (yB ?_))))))
  have e3:=d3 _ _ b6
  have e4:=d2 _ _ e3
  refine aB ?_;obtain rfl:=zI hm
  exact aX (aCI results7 rfl rfl rfl ⟨b2,b3,b4,b5,e1,rfl,e2,(aM.arr 2 [] e4 rfl)⟩)
theorem aMu {a b:dI} {R:Bool} (hm:aFp a b=some R) (j:aM G K (L) w):
  Calls prog 30 ([zA #[i64 a.Choice,i64 a.First,i64 a.Second,bE a.B],zA #[i64 b.Choice,i64 b.First,i64 b.Second,bE b.B]]:List Value).toArray w (eK fun v w'=>v=zB R/\aM G K (L) w'):=by
 refine aP func30 rfl (by kernel_rfl) (by show (2:Nat)<=25;decide) ?_;unfold aFp at hm
 refine aJ (dM (v:=zA #[i64 a.Choice,i64 a.First,i64 a.Second,bE a.B]) (vs:=[i64 a.Choice,i64 a.First,i64 a.Second,bE a.B]) j rfl rfl (fun q r k=>(dM (v:=zA #[i64 b.Choice,i64 b.First,i64 b.Second,bE b.B]) (vs:=[i64 b.Choice,i64 b.First,i64 b.Second,bE b.B]) k rfl rfl (fun t u c=>(aD (v:=zB false) (aF (aN (aJ (aA (bC (t':=0) aLx rfl rfl) (aA (bQ dC c (i:=1) rfl rfl rfl) (aA (bC (t':=0) aLx rfl rfl) (aA (bQ dC c (i:=0) rfl rfl rfl) (aA (fV rfl rfl) (aF ?_))))))))))))))
 rcases aH hm with ⟨d,hm⟩|⟨d,hm⟩
 ·refine aL d rfl (aJ (aD (v:=zB false) (aF ?_)));obtain rfl:=zI hm
  exact aX (aK (aO results30 rfl ⟨rfl,(aM.arr 2 [] c rfl)⟩))
 ·refine aI d rfl (aW (aB (aN (aJ (aA (bC (t':=1) aIU rfl rfl) (aA (bQ dC c (i:=1) rfl rfl rfl) (aA (bC (t':=1) aIU rfl rfl) (aA (bQ dC c (i:=0) rfl rfl rfl) (aA (fV rfl rfl) (aF ?_))))))))))
  rcases aH hm with ⟨e,hm⟩|⟨e,hm⟩
  ·refine aL e rfl (aJ (aD (v:=zB false) (aF ?_)));obtain rfl:=zI hm
   exact aX (aK (aO results30 rfl ⟨rfl,(aM.arr 2 [] c rfl)⟩))
  ·refine aI e rfl (aW (aB (aN (aJ (aA (bC (t':=2) aLy rfl rfl) (aA (bQ dC c (i:=1) rfl rfl rfl) (aA (bC (t':=2) aLy rfl rfl) (aA (bQ dC c (i:=0) rfl rfl rfl) (aA (fV rfl rfl) (aF ?_))))))))))
   rcases aH hm with ⟨g,hm⟩|⟨g,hm⟩
   ·refine aL g rfl (aJ (aD (v:=zB false) (aF ?_)));obtain rfl:=zI hm
    exact aX (aK (aO results30 rfl ⟨rfl,(aM.arr 2 [] c rfl)⟩))
   ·refine aI g rfl (aW (aB (aN (aJ (aA (bC (t':=3) aLz rfl rfl) (aA (bQ fA c (i:=1) rfl rfl rfl) (aA (bC (t':=3) aLz rfl rfl) (aA (bQ fA c (i:=0) rfl rfl rfl) (aA (vO rfl rfl) (aF ?_))))))))))
    rcases aH hm with ⟨h,hm⟩|⟨h,hm⟩
    ·refine aL h rfl (aJ (aD (v:=zB false) (aF ?_)));obtain rfl:=zI hm
     exact aX (aK (aO results30 rfl ⟨rfl,(aM.arr 2 [] c rfl)⟩))
    ·refine aI h rfl (aW (aB (aJ (aD (v:=zB true) (aF ?_)))));obtain rfl:=zI hm
     exact aX (aO results30 rfl ⟨rfl,(aM.arr 2 [] c rfl)⟩)
theorem aCL {a b:(List dI)} {R:Bool} (hm:aBn a b=some R) (l:aM G K (L) w) (m:bY K a1 c2 a) (n:bY K a4 c5 b):
  Calls prog 8 ([zS a1 a.length c2,zS a4 b.length c5]:List Value).toArray w (eK fun v w'=>v=zB R/\aM G K (L) w'):=by
 refine aP func8 rfl (by kernel_rfl) (by show (2:Nat)<=27;decide) ?_;unfold aBn at hm
 refine aJ (aD (v:=zB false) (aF (aN (aJ (aG (v:=zS a1 a.length c2) (aA (bO (len:=a.length) mX rfl) (aG (v:=zS a4 b.length c5) (aA (bO (len:=b.length) mX rfl) (aA (fV rfl rfl) (aF ?_))))))))))
 rcases aH hm with ⟨h,hm⟩|⟨h,hm⟩
 ·refine aL h rfl (aJ (aD (v:=zB false) (aF ?_)));obtain rfl:=zI hm
  exact aX (aK (aO results8 rfl ⟨rfl,l⟩))
 ·refine aI h rfl (aW (aB (aN (aJ (aD (v:=i64 0) (aF (bM [] (fun f w=>aBO=some R/\aM G K (L) w) ?_ ?_)))))))
  ·rintro f w9 ⟨hm,u⟩
   unfold aBO at hm
   refine aB (aJ (aD (v:=zB true) (aF ?_)));obtain rfl:=zI hm
   exact aX (aO results8 rfl ⟨rfl,u⟩)
  obtain ⟨a8,y,ho⟩:=aC hm
  refine dP [0,1] y (fun i f w=>f 5=i64 i/\aM G K (L) w) ?_ ?_
  ·exact ⟨rfl,l⟩
  ·rintro i a9 f b0 hm hr ⟨g,c⟩
   unfold wV at hm
   refine aN (aJ (bF g (aG (v:=zS a1 a.length c2) (aA (bO (len:=a.length) mX rfl) (aA (cF rfl rfl) (aF ?_))))))
   rcases aH hm with ⟨j,hm⟩|⟨j,hm⟩
   ·refine aL j rfl (aW (aB (aN (bX (aN (dU (C:=fun w'=>aM G K (L) w') cI (by kernel_rfl) (aM.mono c (eH.drew _)) (bG (fun _ c=>bP (v:=zS a1 a.length c2) rfl) (bG (fun _ c=>bP g) ?_))))))));obtain ⟨d,o,hm⟩:=aC hm
    refine bG (fun _ c=>cG mX rfl m rfl rfl rfl o) ?_;obtain ⟨b1,z,J⟩:=bY.el (sz:=4) rfl m o
    cases J
    refine bG (fun _ c=>dZ (t:=0) (vs:=[i64 d.Choice,i64 d.First,i64 d.Second,bE d.B]) ag_66 c z rfl rfl rfl) (bG (fun _ c=>bP (v:=zS a4 b.length c5) rfl) (bG (fun _ c=>bP g) ?_));obtain ⟨e,p,hm⟩:=aC hm
    refine bG (fun _ c=>cG mX rfl n rfl rfl rfl p) ?_;obtain ⟨b2,V,O⟩:=bY.el (sz:=4) rfl n p
    cases O
    refine bG (fun _ c=>dZ (t:=0) (vs:=[i64 e.Choice,i64 e.First,i64 e.Second,bE e.B]) ag_66 c V rfl rfl rfl) ?_;obtain ⟨a0,a2,hm⟩:=aC hm
    refine eU (vs:=[zA #[i64 d.Choice,i64 d.First,i64 d.Second,bE d.B],zA #[i64 e.Choice,i64 e.First,i64 e.Second,bE e.B]]) (v:=zB a0) call30 rfl (fun _ c=>(aMu a2 c)) (bG (fun _ c=>dA rfl) (eT (fun b3 q=>(aB ?_))))
    rcases aH hm with ⟨k,hm⟩|⟨k,hm⟩
    ·refine aL k rfl (aJ (aD (v:=zB false) (aF (aX (aY (aK (aK ?_)))))))
     have a3:=hr _ (zI hm).symm
     subst a3
     have hm:(some false)=some R:=ho
     clear hr ho
     obtain rfl:=zI hm
     exact aY (aK (aK (aO results8 rfl ⟨rfl,q⟩)))
    ·exact aI k rfl (aW (bH (aB (aU (bF g (aA (cA rfl rfl) (aD (v:=i64 (wr (i+1))) (aF ⟨_,(zI hm).symm,aT,rfl,q⟩))))))))
   ·refine aI j rfl (cD (bA (bA ?_)))
    have a6:=hr _ (zI hm).symm
    subst a6
    have hm:(aBO)=some R:=ho
    clear hr ho
    exact bR (aB ⟨aT,hm,c⟩)
theorem aGA {a b:(List Int)} {R:Bool} (hm:aBo a b=some R) (j:aM G K (L) w) (k:bY K a1 c2 a) (l:bY K a4 c5 b):
  Calls prog 62 ([zS a1 a.length c2,zS a4 b.length c5]:List Value).toArray w (eK fun v w'=>v=zB R/\aM G K (L) w'):=by
 refine aP func62 rfl (by kernel_rfl) (by show (2:Nat)<=26;decide) ?_;unfold aBo at hm
 refine aJ (aD (v:=zB false) (aF (aN (aJ (aG (v:=zS a1 a.length c2) (aA (bO (len:=a.length) fN rfl) (aG (v:=zS a4 b.length c5) (aA (bO (len:=b.length) fN rfl) (aA (fV rfl rfl) (aF ?_))))))))))
 rcases aH hm with ⟨e,hm⟩|⟨e,hm⟩
 ·refine aL e rfl (aJ (aD (v:=zB false) (aF ?_)));obtain rfl:=zI hm
  exact aX (aK (aO results62 rfl ⟨rfl,j⟩))
 ·refine aI e rfl (aW (aB (aN (aJ (aD (v:=i64 0) (aF (bM [] (fun f w=>aBP=some R/\aM G K (L) w) ?_ ?_)))))))
  ·rintro f w9 ⟨hm,q⟩
   unfold aBP at hm
   refine aB (aJ (aD (v:=zB true) (aF ?_)));obtain rfl:=zI hm
   exact aX (aO results62 rfl ⟨rfl,q⟩)
  obtain ⟨a3,u,ho⟩:=aC hm
  refine dP [0,1] u (fun g f w=>f 5=i64 g/\aM G K (L) w) ?_ ?_
  ·exact ⟨rfl,j⟩
  ·rintro g a5 f a6 hm hr ⟨d,c⟩
   unfold wW at hm
   refine aN (aJ (bF d (aG (v:=zS a1 a.length c2) (aA (bO (len:=a.length) fN rfl) (aA (cF rfl rfl) (aF ?_))))))
   rcases aH hm with ⟨h,hm⟩|⟨h,hm⟩
   ·refine aL h rfl (aW (aB (aN (bX (aN (dU (C:=fun w'=>aM G K (L) w') cI (by kernel_rfl) (aM.mono c (eH.drew _)) (bG (fun _ c=>bP (v:=zS a1 a.length c2) rfl) (bG (fun _ c=>bP d) ?_))))))));obtain ⟨a7,m,hm⟩:=aC hm
    refine bG (fun _ c=>cG fN rfl k rfl rfl rfl m) ?_;obtain ⟨a8,x,y⟩:=bY.el (sz:=1) rfl k m
    cases y
    refine bG (fun _ c=>cC (t:=0) dC c x rfl rfl) (bG (fun _ c=>bP (v:=zS a4 b.length c5) rfl) (bG (fun _ c=>bP d) ?_));obtain ⟨a9,n,hm⟩:=aC hm
    refine bG (fun _ c=>cG fN rfl l rfl rfl rfl n) ?_;obtain ⟨b0,z,J⟩:=bY.el (sz:=1) rfl l n
    cases J
    refine bG (fun _ c=>cC (t:=0) dC c z rfl rfl) (bG (fun _ c=>fV rfl rfl) (eT (fun b1 o=>(aB ?_))))
    rcases aH hm with ⟨i,hm⟩|⟨i,hm⟩
    ·refine aL i rfl (aJ (aD (v:=zB false) (aF (aX (aY (aK (aK ?_)))))))
     have V:=hr _ (zI hm).symm
     subst V
     have hm:(some false)=some R:=ho
     clear hr ho
     obtain rfl:=zI hm
     exact aY (aK (aK (aO results62 rfl ⟨rfl,o⟩)))
    ·exact aI i rfl (aW (bH (aB (aU (bF d (aA (cA rfl rfl) (aD (v:=i64 (wr (g+1))) (aF ⟨_,(zI hm).symm,aT,rfl,o⟩))))))))
   ·refine aI h rfl (cD (bA (bA ?_)))
    have a0:=hr _ (zI hm).symm
    subst a0
    have hm:(aBP)=some R:=ho
    clear hr ho
    exact bR (aB ⟨aT,hm,c⟩)
theorem aMv {a b:aZ} {R:Bool} (hm:aFq a b=some R) (j:aM G K (L) w) (k:bY K a1 c2 a.Values) (l:bY K a4 c5 b.Values):
  Calls prog 31 ([zA #[i64 a.Definition,i64 a.Part,zS a1 a.Values.length c2],zA #[i64 b.Definition,i64 b.Part,zS a4 b.Values.length c5]]:List Value).toArray w (eK fun v w'=>v=zB R/\aM G K (L) w'):=by
 refine aP func31 rfl (by kernel_rfl) (by show (2:Nat)<=21;decide) ?_;unfold aFq at hm
 refine aJ (dM (v:=zA #[i64 a.Definition,i64 a.Part,zS a1 a.Values.length c2]) (vs:=[i64 a.Definition,i64 a.Part,zS a1 a.Values.length c2]) j rfl rfl (fun t u m=>(dM (v:=zA #[i64 b.Definition,i64 b.Part,zS a4 b.Values.length c5]) (vs:=[i64 b.Definition,i64 b.Part,zS a4 b.Values.length c5]) m rfl rfl (fun x y c=>(aD (v:=zB false) (aF (aN (aJ (aA (bC (t':=0) aBx rfl rfl) (aA (bQ dC c (i:=1) rfl rfl rfl) (aA (bC (t':=0) aBx rfl rfl) (aA (bQ dC c (i:=0) rfl rfl rfl) (aA (fV rfl rfl) (aF ?_))))))))))))))
 rcases aH hm with ⟨d,hm⟩|⟨d,hm⟩
 ·refine aL d rfl (aJ (aD (v:=zB false) (aF ?_)));obtain rfl:=zI hm
  exact aX (aK (aO results31 rfl ⟨rfl,(aM.arr 2 [] c rfl)⟩))
 ·refine aI d rfl (aW (aB (aN (aJ (aA (bC (t':=1) aBy rfl rfl) (aA (bQ dC c (i:=1) rfl rfl rfl) (aA (bC (t':=1) aBy rfl rfl) (aA (bQ dC c (i:=0) rfl rfl rfl) (aA (fV rfl rfl) (aF ?_))))))))))
  rcases aH hm with ⟨e,hm⟩|⟨e,hm⟩
  ·refine aL e rfl (aJ (aD (v:=zB false) (aF ?_)));obtain rfl:=zI hm
   exact aX (aK (aO results31 rfl ⟨rfl,(aM.arr 2 [] c rfl)⟩))
  ·refine aI e rfl (aW (aB (aN (aJ (aA (bC (t':=2) xD rfl rfl) (aA (bQ vL c (i:=1) rfl rfl rfl) (aA (bC (t':=2) xD rfl rfl) (aA (bQ vL c (i:=0) rfl rfl rfl) ?_))))))));obtain ⟨z,p,hm⟩:=aC hm
   refine aQ (vs:=[zS a1 a.Values.length c2,zS a4 b.Values.length c5]) call62 rfl (aGA p c k l) ?_
   rintro _ J ⟨rfl,h⟩
   refine aA (dA rfl) (aF ?_)
   rcases aH hm with ⟨g,hm⟩|⟨g,hm⟩
   ·refine aL g rfl (aJ (aD (v:=zB false) (aF ?_)));obtain rfl:=zI hm
    exact aX (aK (aO results31 rfl ⟨rfl,(aM.arr 2 [] h rfl)⟩))
   ·refine aI g rfl (aW (aB (aJ (aD (v:=zB true) (aF ?_)))));obtain rfl:=zI hm
    exact aX (aO results31 rfl ⟨rfl,(aM.arr 2 [] h rfl)⟩)
theorem aCM {a b:(List aZ)} {R:Bool} (hm:aBp a b=some R) (l:aM G K (L) w) (m:bY K a1 c2 a) (n:bY K a4 c5 b):
  Calls prog 9 ([zS a1 a.length c2,zS a4 b.length c5]:List Value).toArray w (eK fun v w'=>v=zB R/\aM G K (L) w'):=by
 refine aP func9 rfl (by kernel_rfl) (by show (2:Nat)<=27;decide) ?_;unfold aBp at hm
 refine aJ (aD (v:=zB false) (aF (aN (aJ (aG (v:=zS a1 a.length c2) (aA (bO (len:=a.length) gP rfl) (aG (v:=zS a4 b.length c5) (aA (bO (len:=b.length) gP rfl) (aA (fV rfl rfl) (aF ?_))))))))))
 rcases aH hm with ⟨h,hm⟩|⟨h,hm⟩
 ·refine aL h rfl (aJ (aD (v:=zB false) (aF ?_)));obtain rfl:=zI hm
  exact aX (aK (aO results9 rfl ⟨rfl,l⟩))
 ·refine aI h rfl (aW (aB (aN (aJ (aD (v:=i64 0) (aF (bM [] (fun f w=>aBQ=some R/\aM G K (L) w) ?_ ?_)))))))
  ·rintro f w9 ⟨hm,z⟩
   unfold aBQ at hm
   refine aB (aJ (aD (v:=zB true) (aF ?_)));obtain rfl:=zI hm
   exact aX (aO results9 rfl ⟨rfl,z⟩)
  obtain ⟨b3,V,ho⟩:=aC hm
  refine dP [0,1] V (fun i f w=>f 5=i64 i/\aM G K (L) w) ?_ ?_
  ·exact ⟨rfl,l⟩
  ·rintro i b4 f b5 hm hr ⟨g,c⟩
   unfold wX at hm
   refine aN (aJ (bF g (aG (v:=zS a1 a.length c2) (aA (bO (len:=a.length) gP rfl) (aA (cF rfl rfl) (aF ?_))))))
   rcases aH hm with ⟨j,hm⟩|⟨j,hm⟩
   ·refine aL j rfl (aW (aB (aN (bX (aN (dU (C:=fun w'=>aM G K (L) w') cI (by kernel_rfl) (aM.mono c (eH.drew _)) (bG (fun _ c=>bP (v:=zS a1 a.length c2) rfl) (bG (fun _ c=>bP g) ?_))))))));obtain ⟨d,o,hm⟩:=aC hm
    refine bG (fun _ c=>cG gP rfl m rfl rfl rfl o) ?_;obtain ⟨b6,O,a0⟩:=bY.el (sz:=3) rfl m o
    obtain ⟨p,q,rfl,a2⟩:=a0
    refine bG (fun _ c=>dZ (t:=0) (vs:=[i64 d.Definition,i64 d.Part,zS p d.Values.length q]) vM c O rfl rfl rfl) (bG (fun _ c=>bP (v:=zS a4 b.length c5) rfl) (bG (fun _ c=>bP g) ?_));obtain ⟨e,r,hm⟩:=aC hm
    refine bG (fun _ c=>cG gP rfl n rfl rfl rfl r) ?_;obtain ⟨b7,a3,a5⟩:=bY.el (sz:=3) rfl n r
    obtain ⟨u,c45,rfl,a6⟩:=a5
    refine bG (fun _ c=>dZ (t:=0) (vs:=[i64 e.Definition,i64 e.Part,zS u e.Values.length c45]) vM c a3 rfl rfl rfl) ?_;obtain ⟨a7,a8,hm⟩:=aC hm
    refine eU (vs:=[zA #[i64 d.Definition,i64 d.Part,zS p d.Values.length q],zA #[i64 e.Definition,i64 e.Part,zS u e.Values.length c45]]) (v:=zB a7) call31 rfl (fun _ c=>(aMv a8 c a2 a6)) (bG (fun _ c=>dA rfl) (eT (fun b8 x=>(aB ?_))))
    rcases aH hm with ⟨k,hm⟩|⟨k,hm⟩
    ·refine aL k rfl (aJ (aD (v:=zB false) (aF (aX (aY (aK (aK ?_)))))))
     have a9:=hr _ (zI hm).symm
     subst a9
     have hm:(some false)=some R:=ho
     clear hr ho
     obtain rfl:=zI hm
     exact aY (aK (aK (aO results9 rfl ⟨rfl,x⟩)))
    ·exact aI k rfl (aW (bH (aB (aU (bF g (aA (cA rfl rfl) (aD (v:=i64 (wr (i+1))) (aF ⟨_,(zI hm).symm,aT,rfl,x⟩))))))))
   ·refine aI j rfl (cD (bA (bA ?_)))
    have b1:=hr _ (zI hm).symm
    subst b1
    have hm:(aBQ)=some R:=ho
    clear hr ho
    exact bR (aB ⟨aT,hm,c⟩)
theorem aNd {a b:bS} {R:Bool} (hm:aGX a b=some R) (g:aM G K (L) w):
  Calls prog 242 ([zA #[i64 a.Kind,i64 a.Value],zA #[i64 b.Kind,i64 b.Value]]:List Value).toArray w (eK fun v w'=>v=zB R/\aM G K (L) w'):=by
 refine aP func242 rfl (by kernel_rfl) (by show (2:Nat)<=15;decide) ?_;unfold aGX at hm
 refine aJ (dM (v:=zA #[i64 a.Kind,i64 a.Value]) (vs:=[i64 a.Kind,i64 a.Value]) g rfl rfl (fun m n h=>(dM (v:=zA #[i64 b.Kind,i64 b.Value]) (vs:=[i64 b.Kind,i64 b.Value]) h rfl rfl (fun o p c=>(aD (v:=zB false) (aF (aN (aJ (aA (bC (t':=0) vT rfl rfl) (aA (bQ dC c (i:=1) rfl rfl rfl) (aA (bC (t':=0) vT rfl rfl) (aA (bQ dC c (i:=0) rfl rfl rfl) (aA (fV rfl rfl) (aF ?_))))))))))))))
 rcases aH hm with ⟨d,hm⟩|⟨d,hm⟩
 ·refine aL d rfl (aJ (aD (v:=zB false) (aF ?_)));obtain rfl:=zI hm
  exact aX (aK (aO results242 rfl ⟨rfl,(aM.arr 2 [] c rfl)⟩))
 ·refine aI d rfl (aW (aB (aN (aJ (aA (bC (t':=1) kL rfl rfl) (aA (bQ dC c (i:=1) rfl rfl rfl) (aA (bC (t':=1) kL rfl rfl) (aA (bQ dC c (i:=0) rfl rfl rfl) (aA (fV rfl rfl) (aF ?_))))))))))
  rcases aH hm with ⟨e,hm⟩|⟨e,hm⟩
  ·refine aL e rfl (aJ (aD (v:=zB false) (aF ?_)));obtain rfl:=zI hm
   exact aX (aK (aO results242 rfl ⟨rfl,(aM.arr 2 [] c rfl)⟩))
  ·refine aI e rfl (aW (aB (aJ (aD (v:=zB true) (aF ?_)))));obtain rfl:=zI hm
   exact aX (aO results242 rfl ⟨rfl,(aM.arr 2 [] c rfl)⟩)
theorem aMw {a b:(List bS)} {R:Bool} (hm:aHI a b=some R) (l:aM G K (L) w) (m:bY K a1 c2 a) (n:bY K a4 c5 b):
  Calls prog 205 ([zS a1 a.length c2,zS a4 b.length c5]:List Value).toArray w (eK fun v w'=>v=zB R/\aM G K (L) w'):=by
 refine aP func205 rfl (by kernel_rfl) (by show (2:Nat)<=27;decide) ?_;unfold aHI at hm
 refine aJ (aD (v:=zB false) (aF (aN (aJ (aG (v:=zS a1 a.length c2) (aA (bO (len:=a.length) lX rfl) (aG (v:=zS a4 b.length c5) (aA (bO (len:=b.length) lX rfl) (aA (fV rfl rfl) (aF ?_))))))))))
 rcases aH hm with ⟨h,hm⟩|⟨h,hm⟩
 ·refine aL h rfl (aJ (aD (v:=zB false) (aF ?_)));obtain rfl:=zI hm
  exact aX (aK (aO results205 rfl ⟨rfl,l⟩))
 ·refine aI h rfl (aW (aB (aN (aJ (aD (v:=i64 0) (aF (bM [] (fun f w=>aDl=some R/\aM G K (L) w) ?_ ?_)))))))
  ·rintro f w9 ⟨hm,u⟩
   unfold aDl at hm
   refine aB (aJ (aD (v:=zB true) (aF ?_)));obtain rfl:=zI hm
   exact aX (aO results205 rfl ⟨rfl,u⟩)
  obtain ⟨a8,y,ho⟩:=aC hm
  refine dP [0,1] y (fun i f w=>f 5=i64 i/\aM G K (L) w) ?_ ?_
  ·exact ⟨rfl,l⟩
  ·rintro i a9 f b0 hm hr ⟨d,c⟩
   unfold aAN at hm
   refine aN (aJ (bF d (aG (v:=zS a1 a.length c2) (aA (bO (len:=a.length) lX rfl) (aA (cF rfl rfl) (aF ?_))))))
   rcases aH hm with ⟨j,hm⟩|⟨j,hm⟩
   ·refine aL j rfl (aW (aB (aN (bX (aN (dU (C:=fun w'=>aM G K (L) w') cI (by kernel_rfl) (aM.mono c (eH.drew _)) (bG (fun _ c=>bP (v:=zS a1 a.length c2) rfl) (bG (fun _ c=>bP d) ?_))))))));obtain ⟨e,o,hm⟩:=aC hm
    refine bG (fun _ c=>cG lX rfl m rfl rfl rfl o) ?_;obtain ⟨b1,z,J⟩:=bY.el (sz:=2) rfl m o
    cases J
    refine bG (fun _ c=>dZ (t:=0) (vs:=[i64 e.Kind,i64 e.Value]) aFR c z rfl rfl rfl) (bG (fun _ c=>bP (v:=zS a4 b.length c5) rfl) (bG (fun _ c=>bP d) ?_));obtain ⟨g,p,hm⟩:=aC hm
    refine bG (fun _ c=>cG lX rfl n rfl rfl rfl p) ?_;obtain ⟨b2,V,O⟩:=bY.el (sz:=2) rfl n p
    cases O
    refine bG (fun _ c=>dZ (t:=0) (vs:=[i64 g.Kind,i64 g.Value]) aFR c V rfl rfl rfl) ?_;obtain ⟨a0,a2,hm⟩:=aC hm
    refine eU (vs:=[zA #[i64 e.Kind,i64 e.Value],zA #[i64 g.Kind,i64 g.Value]]) (v:=zB a0) call242 rfl (fun _ c=>(aNd a2 c)) (bG (fun _ c=>dA rfl) (eT (fun b3 q=>(aB ?_))))
    rcases aH hm with ⟨k,hm⟩|⟨k,hm⟩
    ·refine aL k rfl (aJ (aD (v:=zB false) (aF (aX (aY (aK (aK ?_)))))))
     have a3:=hr _ (zI hm).symm
     subst a3
     have hm:(some false)=some R:=ho
     clear hr ho
     obtain rfl:=zI hm
     exact aY (aK (aK (aO results205 rfl ⟨rfl,q⟩)))
    ·exact aI k rfl (aW (bH (aB (aU (bF d (aA (cA rfl rfl) (aD (v:=i64 (wr (i+1))) (aF ⟨_,(zI hm).symm,aT,rfl,q⟩))))))))
   ·refine aI j rfl (cD (bA (bA ?_)))
    have a6:=hr _ (zI hm).symm
    subst a6
    have hm:(aDl)=some R:=ho
    clear hr ho
    exact bR (aB ⟨aT,hm,c⟩)
theorem aLj {a b:(List (List bS))} {R:Bool} (hm:aGe a b=some R) (j:aM G K (L) w) (k:bY K a1 c2 a) (l:bY K a4 c5 b):
  Calls prog 167 ([zS a1 a.length c2,zS a4 b.length c5]:List Value).toArray w (eK fun v w'=>v=zB R/\aM G K (L) w'):=by
 refine aP func167 rfl (by kernel_rfl) (by show (2:Nat)<=27;decide) ?_;unfold aGe at hm
 refine aJ (aD (v:=zB false) (aF (aN (aJ (aG (v:=zS a1 a.length c2) (aA (bO (len:=a.length) lE rfl) (aG (v:=zS a4 b.length c5) (aA (bO (len:=b.length) lE rfl) (aA (fV rfl rfl) (aF ?_))))))))))
 rcases aH hm with ⟨e,hm⟩|⟨e,hm⟩
 ·refine aL e rfl (aJ (aD (v:=zB false) (aF ?_)));obtain rfl:=zI hm
  exact aX (aK (aO results167 rfl ⟨rfl,j⟩))
 ·refine aI e rfl (aW (aB (aN (aJ (aD (v:=i64 0) (aF (bM [] (fun f w=>aBR=some R/\aM G K (L) w) ?_ ?_)))))))
  ·rintro f w9 ⟨hm,q⟩
   unfold aBR at hm
   refine aB (aJ (aD (v:=zB true) (aF ?_)));obtain rfl:=zI hm
   exact aX (aO results167 rfl ⟨rfl,q⟩)
  obtain ⟨b3,u,ho⟩:=aC hm
  refine dP [0,1] u (fun g f w=>f 5=i64 g/\aM G K (L) w) ?_ ?_
  ·exact ⟨rfl,j⟩
  ·rintro g b4 f b5 hm hr ⟨d,c⟩
   unfold wY at hm
   refine aN (aJ (bF d (aG (v:=zS a1 a.length c2) (aA (bO (len:=a.length) lE rfl) (aA (cF rfl rfl) (aF ?_))))))
   rcases aH hm with ⟨h,hm⟩|⟨h,hm⟩
   ·refine aL h rfl (aW (aB (aN (bX (aN (dU (C:=fun w'=>aM G K (L) w') cI (by kernel_rfl) (aM.mono c (eH.drew _)) (bG (fun _ c=>bP (v:=zS a1 a.length c2) rfl) (bG (fun _ c=>bP d) ?_))))))));obtain ⟨x,m,hm⟩:=aC hm
    refine bG (fun _ c=>cG lE rfl k rfl rfl rfl m) ?_;obtain ⟨b6,y,z⟩:=bY.el (sz:=1) rfl k m
    obtain ⟨J,V,rfl,O⟩:=z
    refine bG (fun _ c=>cC (t:=0) aFP c y rfl rfl) (bG (fun _ c=>bP (v:=zS a4 b.length c5) rfl) (bG (fun _ c=>bP d) ?_));obtain ⟨a0,n,hm⟩:=aC hm
    refine bG (fun _ c=>cG lE rfl l rfl rfl rfl n) ?_;obtain ⟨b7,a2,a3⟩:=bY.el (sz:=1) rfl l n
    obtain ⟨a5,c45,rfl,a6⟩:=a3
    refine bG (fun _ c=>cC (t:=0) aFP c a2 rfl rfl) ?_;obtain ⟨a7,a8,hm⟩:=aC hm
    refine eU (vs:=[zS J x.length V,zS a5 a0.length c45]) (v:=zB a7) call205 rfl (fun _ c=>(aMw a8 c O a6)) (bG (fun _ c=>dA rfl) (eT (fun b8 o=>(aB ?_))))
    rcases aH hm with ⟨i,hm⟩|⟨i,hm⟩
    ·refine aL i rfl (aJ (aD (v:=zB false) (aF (aX (aY (aK (aK ?_)))))))
     have a9:=hr _ (zI hm).symm
     subst a9
     have hm:(some false)=some R:=ho
     clear hr ho
     obtain rfl:=zI hm
     exact aY (aK (aK (aO results167 rfl ⟨rfl,o⟩)))
    ·exact aI i rfl (aW (bH (aB (aU (bF d (aA (cA rfl rfl) (aD (v:=i64 (wr (g+1))) (aF ⟨_,(zI hm).symm,aT,rfl,o⟩))))))))
   ·refine aI h rfl (cD (bA (bA ?_)))
    have b1:=hr _ (zI hm).symm
    subst b1
    have hm:(aBR)=some R:=ho
    clear hr ho
    exact bR (aB ⟨aT,hm,c⟩)
theorem aNe {a b:Part} {R:Bool} (hm:aGY a b=some R) (k:aM G K (L) w) (l:bY K a1 c2 a.Arguments) (m:bY K a4 c5 b.Arguments):
  Calls prog 124 ([zA #[i64 a.Kind,i64 a.Number,bE a.Name,zS a1 a.Arguments.length c2],zA #[i64 b.Kind,i64 b.Number,bE b.Name,zS a4 b.Arguments.length c5]]:List Value).toArray w (eK fun v w'=>v=zB R/\aM G K (L) w'):=by
 refine aP func124 rfl (by kernel_rfl) (by show (2:Nat)<=26;decide) ?_;unfold aGY at hm
 refine aJ (dM (v:=zA #[i64 a.Kind,i64 a.Number,bE a.Name,zS a1 a.Arguments.length c2]) (vs:=[i64 a.Kind,i64 a.Number,bE a.Name,zS a1 a.Arguments.length c2]) k rfl rfl (fun x y n=>(dM (v:=zA #[i64 b.Kind,i64 b.Number,bE b.Name,zS a4 b.Arguments.length c5]) (vs:=[i64 b.Kind,i64 b.Number,bE b.Name,zS a4 b.Arguments.length c5]) n rfl rfl (fun z J c=>(aD (v:=zB false) (aF (aN (aJ (aA (bC (t':=0) eY rfl rfl) (aA (bQ dC c (i:=1) rfl rfl rfl) (aA (bC (t':=0) eY rfl rfl) (aA (bQ dC c (i:=0) rfl rfl rfl) (aA (fV rfl rfl) (aF ?_))))))))))))))
 rcases aH hm with ⟨d,hm⟩|⟨d,hm⟩
 ·refine aL d rfl (aJ (aD (v:=zB false) (aF ?_)));obtain rfl:=zI hm
  exact aX (aK (aO results124 rfl ⟨rfl,(aM.arr 2 [] c rfl)⟩))
 ·refine aI d rfl (aW (aB (aN (aJ (aA (bC (t':=1) jH rfl rfl) (aA (bQ dC c (i:=1) rfl rfl rfl) (aA (bC (t':=1) jH rfl rfl) (aA (bQ dC c (i:=0) rfl rfl rfl) (aA (fV rfl rfl) (aF ?_))))))))))
  rcases aH hm with ⟨e,hm⟩|⟨e,hm⟩
  ·refine aL e rfl (aJ (aD (v:=zB false) (aF ?_)));obtain rfl:=zI hm
   exact aX (aK (aO results124 rfl ⟨rfl,(aM.arr 2 [] c rfl)⟩))
  ·refine aI e rfl (aW (aB (aN (aJ (aA (bC (t':=2) lD rfl rfl) (aA (bQ fA c (i:=1) rfl rfl rfl) (aA (bC (t':=2) lD rfl rfl) (aA (bQ fA c (i:=0) rfl rfl rfl) (aA (vO rfl rfl) (aF ?_))))))))))
   rcases aH hm with ⟨g,hm⟩|⟨g,hm⟩
   ·refine aL g rfl (aJ (aD (v:=zB false) (aF ?_)));obtain rfl:=zI hm
    exact aX (aK (aO results124 rfl ⟨rfl,(aM.arr 2 [] c rfl)⟩))
   ·refine aI g rfl (aW (aB (aN (aJ (aA (bC (t':=3) jI rfl rfl) (aA (bQ qN c (i:=1) rfl rfl rfl) (aA (bC (t':=3) jI rfl rfl) (aA (bQ qN c (i:=0) rfl rfl rfl) ?_))))))));obtain ⟨V,r,hm⟩:=aC hm
    refine aQ (vs:=[zS a1 a.Arguments.length c2,zS a4 b.Arguments.length c5]) call167 rfl (aLj r c l m) ?_
    rintro _ O ⟨rfl,j⟩
    refine aA (dA rfl) (aF ?_)
    rcases aH hm with ⟨h,hm⟩|⟨h,hm⟩
    ·refine aL h rfl (aJ (aD (v:=zB false) (aF ?_)));obtain rfl:=zI hm
     exact aX (aK (aO results124 rfl ⟨rfl,(aM.arr 2 [] j rfl)⟩))
    ·refine aI h rfl (aW (aB (aJ (aD (v:=zB true) (aF ?_)))));obtain rfl:=zI hm
     exact aX (aO results124 rfl ⟨rfl,(aM.arr 2 [] j rfl)⟩)
theorem aMx {a b:(List Part)} {R:Bool} (hm:aHJ a b=some R) (l:aM G K (L) w) (m:bY K a1 c2 a) (n:bY K a4 c5 b):
  Calls prog 90 ([zS a1 a.length c2,zS a4 b.length c5]:List Value).toArray w (eK fun v w'=>v=zB R/\aM G K (L) w'):=by
 refine aP func90 rfl (by kernel_rfl) (by show (2:Nat)<=27;decide) ?_;unfold aHJ at hm
 refine aJ (aD (v:=zB false) (aF (aN (aJ (aG (v:=zS a1 a.length c2) (aA (bO (len:=a.length) iH rfl) (aG (v:=zS a4 b.length c5) (aA (bO (len:=b.length) iH rfl) (aA (fV rfl rfl) (aF ?_))))))))))
 rcases aH hm with ⟨h,hm⟩|⟨h,hm⟩
 ·refine aL h rfl (aJ (aD (v:=zB false) (aF ?_)));obtain rfl:=zI hm
  exact aX (aK (aO results90 rfl ⟨rfl,l⟩))
 ·refine aI h rfl (aW (aB (aN (aJ (aD (v:=i64 0) (aF (bM [] (fun f w=>aDm=some R/\aM G K (L) w) ?_ ?_)))))))
  ·rintro f w9 ⟨hm,z⟩
   unfold aDm at hm
   refine aB (aJ (aD (v:=zB true) (aF ?_)));obtain rfl:=zI hm
   exact aX (aO results90 rfl ⟨rfl,z⟩)
  obtain ⟨b3,V,ho⟩:=aC hm
  refine dP [0,1] V (fun i f w=>f 5=i64 i/\aM G K (L) w) ?_ ?_
  ·exact ⟨rfl,l⟩
  ·rintro i b4 f b5 hm hr ⟨g,c⟩
   unfold aAO at hm
   refine aN (aJ (bF g (aG (v:=zS a1 a.length c2) (aA (bO (len:=a.length) iH rfl) (aA (cF rfl rfl) (aF ?_))))))
   rcases aH hm with ⟨j,hm⟩|⟨j,hm⟩
   ·refine aL j rfl (aW (aB (aN (bX (aN (dU (C:=fun w'=>aM G K (L) w') cI (by kernel_rfl) (aM.mono c (eH.drew _)) (bG (fun _ c=>bP (v:=zS a1 a.length c2) rfl) (bG (fun _ c=>bP g) ?_))))))));obtain ⟨d,o,hm⟩:=aC hm
    refine bG (fun _ c=>cG iH rfl m rfl rfl rfl o) ?_;obtain ⟨b6,O,a0⟩:=bY.el (sz:=4) rfl m o
    obtain ⟨p,q,rfl,a2⟩:=a0
    refine bG (fun _ c=>dZ (t:=0) (vs:=[i64 d.Kind,i64 d.Number,bE d.Name,zS p d.Arguments.length q]) yD c O rfl rfl rfl) (bG (fun _ c=>bP (v:=zS a4 b.length c5) rfl) (bG (fun _ c=>bP g) ?_));obtain ⟨e,r,hm⟩:=aC hm
    refine bG (fun _ c=>cG iH rfl n rfl rfl rfl r) ?_;obtain ⟨b7,a3,a5⟩:=bY.el (sz:=4) rfl n r
    obtain ⟨u,c45,rfl,a6⟩:=a5
    refine bG (fun _ c=>dZ (t:=0) (vs:=[i64 e.Kind,i64 e.Number,bE e.Name,zS u e.Arguments.length c45]) yD c a3 rfl rfl rfl) ?_;obtain ⟨a7,a8,hm⟩:=aC hm
    refine eU (vs:=[zA #[i64 d.Kind,i64 d.Number,bE d.Name,zS p d.Arguments.length q],zA #[i64 e.Kind,i64 e.Number,bE e.Name,zS u e.Arguments.length c45]]) (v:=zB a7) call124 rfl (fun _ c=>(aNe a8 c a2 a6)) (bG (fun _ c=>dA rfl) (eT (fun b8 x=>(aB ?_))))
    rcases aH hm with ⟨k,hm⟩|⟨k,hm⟩
    ·refine aL k rfl (aJ (aD (v:=zB false) (aF (aX (aY (aK (aK ?_)))))))
     have a9:=hr _ (zI hm).symm
     subst a9
     have hm:(some false)=some R:=ho
     clear hr ho
     obtain rfl:=zI hm
     exact aY (aK (aK (aO results90 rfl ⟨rfl,x⟩)))
    ·exact aI k rfl (aW (bH (aB (aU (bF g (aA (cA rfl rfl) (aD (v:=i64 (wr (i+1))) (aF ⟨_,(zI hm).symm,aT,rfl,x⟩))))))))
   ·refine aI j rfl (cD (bA (bA ?_)))
    have b1:=hr _ (zI hm).symm
    subst b1
    have hm:(aDm)=some R:=ho
    clear hr ho
    exact bR (aB ⟨aT,hm,c⟩)
end Gv
namespace Gv
open Gv.Hp renaming le_refl→zR
open Go.Value renaming slice→zS,bool→zB,agg→zA
open Option.some renaming inj→zI
open Go Go.Proofs Go.Proofs.Tryz
set_option maxRecDepth 20000
set_option maxHeartbeats 40000000
variable {G:qG} {K:Hp} {L:List iU} {w:World} {a1 a4 a7 a10 a13 a16 a19 a22 a25 a28 a5 a9 a11:Option Addr} {c2 c5 c8 c11 c14 c17 c20 c23 c26 c29 c6 c10 c12:Nat}
theorem aIe {a b:Definition} {R:Bool} (hm:uB a b=some R) (j:aM G K (L) w) (k:bY K a1 c2 a.Body) (l:bY K a4 c5 b.Body):
  Calls prog 63 ([zA #[bE a.Name,i64 a.Parameters,zS a1 a.Body.length c2],zA #[bE b.Name,i64 b.Parameters,zS a4 b.Body.length c5]]:List Value).toArray w (eK fun v w'=>v=zB R/\aM G K (L) w'):=by
 refine aP func63 rfl (by kernel_rfl) (by show (2:Nat)<=21;decide) ?_;unfold uB at hm
 refine aJ (dM (v:=zA #[bE a.Name,i64 a.Parameters,zS a1 a.Body.length c2]) (vs:=[bE a.Name,i64 a.Parameters,zS a1 a.Body.length c2]) j rfl rfl (fun t u m=>(dM (v:=zA #[bE b.Name,i64 b.Parameters,zS a4 b.Body.length c5]) (vs:=[bE b.Name,i64 b.Parameters,zS a4 b.Body.length c5]) m rfl rfl (fun x y c=>(aD (v:=zB false) (aF (aN (aJ (aA (bC (t':=0) vU rfl rfl) (aA (bQ fA c (i:=1) rfl rfl rfl) (aA (bC (t':=0) vU rfl rfl) (aA (bQ fA c (i:=0) rfl rfl rfl) (aA (vO rfl rfl) (aF ?_))))))))))))))
 rcases aH hm with ⟨d,hm⟩|⟨d,hm⟩
 ·refine aL d rfl (aJ (aD (v:=zB false) (aF ?_)));obtain rfl:=zI hm
  exact aX (aK (aO results63 rfl ⟨rfl,(aM.arr 2 [] c rfl)⟩))
 ·refine aI d rfl (aW (aB (aN (aJ (aA (bC (t':=1) rE rfl rfl) (aA (bQ dC c (i:=1) rfl rfl rfl) (aA (bC (t':=1) rE rfl rfl) (aA (bQ dC c (i:=0) rfl rfl rfl) (aA (fV rfl rfl) (aF ?_))))))))))
  rcases aH hm with ⟨e,hm⟩|⟨e,hm⟩
  ·refine aL e rfl (aJ (aD (v:=zB false) (aF ?_)));obtain rfl:=zI hm
   exact aX (aK (aO results63 rfl ⟨rfl,(aM.arr 2 [] c rfl)⟩))
  ·refine aI e rfl (aW (aB (aN (aJ (aA (bC (t':=2) jJ rfl rfl) (aA (bQ qO c (i:=1) rfl rfl rfl) (aA (bC (t':=2) jJ rfl rfl) (aA (bQ qO c (i:=0) rfl rfl rfl) ?_))))))));obtain ⟨z,p,hm⟩:=aC hm
   refine aQ (vs:=[zS a1 a.Body.length c2,zS a4 b.Body.length c5]) call90 rfl (aMx p c k l) ?_
   rintro _ J ⟨rfl,h⟩
   refine aA (dA rfl) (aF ?_)
   rcases aH hm with ⟨g,hm⟩|⟨g,hm⟩
   ·refine aL g rfl (aJ (aD (v:=zB false) (aF ?_)));obtain rfl:=zI hm
    exact aX (aK (aO results63 rfl ⟨rfl,(aM.arr 2 [] h rfl)⟩))
   ·refine aI g rfl (aW (aB (aJ (aD (v:=zB true) (aF ?_)))));obtain rfl:=zI hm
    exact aX (aO results63 rfl ⟨rfl,(aM.arr 2 [] h rfl)⟩)
theorem aHm {a b:(List Definition)} {R:Bool} (hm:xQ a b=some R) (l:aM G K (L) w) (m:bY K a1 c2 a) (n:bY K a4 c5 b):
  Calls prog 32 ([zS a1 a.length c2,zS a4 b.length c5]:List Value).toArray w (eK fun v w'=>v=zB R/\aM G K (L) w'):=by
 refine aP func32 rfl (by kernel_rfl) (by show (2:Nat)<=27;decide) ?_;unfold xQ at hm
 refine aJ (aD (v:=zB false) (aF (aN (aJ (aG (v:=zS a1 a.length c2) (aA (bO (len:=a.length) jO rfl) (aG (v:=zS a4 b.length c5) (aA (bO (len:=b.length) jO rfl) (aA (fV rfl rfl) (aF ?_))))))))))
 rcases aH hm with ⟨h,hm⟩|⟨h,hm⟩
 ·refine aL h rfl (aJ (aD (v:=zB false) (aF ?_)));obtain rfl:=zI hm
  exact aX (aK (aO results32 rfl ⟨rfl,l⟩))
 ·refine aI h rfl (aW (aB (aN (aJ (aD (v:=i64 0) (aF (bM [] (fun f w=>rB=some R/\aM G K (L) w) ?_ ?_)))))))
  ·rintro f w9 ⟨hm,z⟩
   unfold rB at hm
   refine aB (aJ (aD (v:=zB true) (aF ?_)));obtain rfl:=zI hm
   exact aX (aO results32 rfl ⟨rfl,z⟩)
  obtain ⟨b3,V,ho⟩:=aC hm
  refine dP [0,1] V (fun i f w=>f 5=i64 i/\aM G K (L) w) ?_ ?_
  ·exact ⟨rfl,l⟩
  ·rintro i b4 f b5 hm hr ⟨g,c⟩
   unfold nI at hm
   refine aN (aJ (bF g (aG (v:=zS a1 a.length c2) (aA (bO (len:=a.length) jO rfl) (aA (cF rfl rfl) (aF ?_))))))
   rcases aH hm with ⟨j,hm⟩|⟨j,hm⟩
   ·refine aL j rfl (aW (aB (aN (bX (aN (dU (C:=fun w'=>aM G K (L) w') cI (by kernel_rfl) (aM.mono c (eH.drew _)) (bG (fun _ c=>bP (v:=zS a1 a.length c2) rfl) (bG (fun _ c=>bP g) ?_))))))));obtain ⟨d,o,hm⟩:=aC hm
    refine bG (fun _ c=>cG jO rfl m rfl rfl rfl o) ?_;obtain ⟨b6,O,a0⟩:=bY.el (sz:=3) rfl m o
    obtain ⟨p,q,rfl,a2⟩:=a0
    refine bG (fun _ c=>dZ (t:=0) (vs:=[bE d.Name,i64 d.Parameters,zS p d.Body.length q]) aCK c O rfl rfl rfl) (bG (fun _ c=>bP (v:=zS a4 b.length c5) rfl) (bG (fun _ c=>bP g) ?_));obtain ⟨e,r,hm⟩:=aC hm
    refine bG (fun _ c=>cG jO rfl n rfl rfl rfl r) ?_;obtain ⟨b7,a3,a5⟩:=bY.el (sz:=3) rfl n r
    obtain ⟨u,c45,rfl,a6⟩:=a5
    refine bG (fun _ c=>dZ (t:=0) (vs:=[bE e.Name,i64 e.Parameters,zS u e.Body.length c45]) aCK c a3 rfl rfl rfl) ?_;obtain ⟨a7,a8,hm⟩:=aC hm
    refine eU (vs:=[zA #[bE d.Name,i64 d.Parameters,zS p d.Body.length q],zA #[bE e.Name,i64 e.Parameters,zS u e.Body.length c45]]) (v:=zB a7) call63 rfl (fun _ c=>(aIe a8 c a2 a6)) (bG (fun _ c=>dA rfl) (eT (fun b8 x=>(aB ?_))))
    rcases aH hm with ⟨k,hm⟩|⟨k,hm⟩
    ·refine aL k rfl (aJ (aD (v:=zB false) (aF (aX (aY (aK (aK ?_)))))))
     have a9:=hr _ (zI hm).symm
     subst a9
     have hm:(some false)=some R:=ho
     clear hr ho
     obtain rfl:=zI hm
     exact aY (aK (aK (aO results32 rfl ⟨rfl,x⟩)))
    ·exact aI k rfl (aW (bH (aB (aU (bF g (aA (cA rfl rfl) (aD (v:=i64 (wr (i+1))) (aF ⟨_,(zI hm).symm,aT,rfl,x⟩))))))))
   ·refine aI j rfl (cD (bA (bA ?_)))
    have b1:=hr _ (zI hm).symm
    subst b1
    have hm:(rB)=some R:=ho
    clear hr ho
    exact bR (aB ⟨aT,hm,c⟩)
theorem aII {a b:bT} {R:Bool} (hm:wZ a b=some R) (h:aM G K (L) w) (j:bY K a1 c2 a.Values) (k:bY K a4 c5 b.Values):
  Calls prog 64 ([zA #[i64 a.Definition,zS a1 a.Values.length c2],zA #[i64 b.Definition,zS a4 b.Values.length c5]]:List Value).toArray w (eK fun v w'=>v=zB R/\aM G K (L) w'):=by
 refine aP func64 rfl (by kernel_rfl) (by show (2:Nat)<=16;decide) ?_;unfold wZ at hm
 refine aJ (dM (v:=zA #[i64 a.Definition,zS a1 a.Values.length c2]) (vs:=[i64 a.Definition,zS a1 a.Values.length c2]) h rfl rfl (fun q r l=>(dM (v:=zA #[i64 b.Definition,zS a4 b.Values.length c5]) (vs:=[i64 b.Definition,zS a4 b.Values.length c5]) l rfl rfl (fun t u c=>(aD (v:=zB false) (aF (aN (aJ (aA (bC (t':=0) vW rfl rfl) (aA (bQ dC c (i:=1) rfl rfl rfl) (aA (bC (t':=0) vW rfl rfl) (aA (bQ dC c (i:=0) rfl rfl rfl) (aA (fV rfl rfl) (aF ?_))))))))))))))
 rcases aH hm with ⟨d,hm⟩|⟨d,hm⟩
 ·refine aL d rfl (aJ (aD (v:=zB false) (aF ?_)));obtain rfl:=zI hm
  exact aX (aK (aO results64 rfl ⟨rfl,(aM.arr 2 [] c rfl)⟩))
 ·refine aI d rfl (aW (aB (aN (aJ (aA (bC (t':=1) vX rfl rfl) (aA (bQ vL c (i:=1) rfl rfl rfl) (aA (bC (t':=1) vX rfl rfl) (aA (bQ vL c (i:=0) rfl rfl rfl) ?_))))))));obtain ⟨x,n,hm⟩:=aC hm
  refine aQ (vs:=[zS a1 a.Values.length c2,zS a4 b.Values.length c5]) call62 rfl (aGA n c j k) ?_
  rintro _ y ⟨rfl,g⟩
  refine aA (dA rfl) (aF ?_)
  rcases aH hm with ⟨e,hm⟩|⟨e,hm⟩
  ·refine aL e rfl (aJ (aD (v:=zB false) (aF ?_)));obtain rfl:=zI hm
   exact aX (aK (aO results64 rfl ⟨rfl,(aM.arr 2 [] g rfl)⟩))
  ·refine aI e rfl (aW (aB (aJ (aD (v:=zB true) (aF ?_)))));obtain rfl:=zI hm
   exact aX (aO results64 rfl ⟨rfl,(aM.arr 2 [] g rfl)⟩)
theorem aIf {a b:(List bT)} {R:Bool} (hm:aAP a b=some R) (l:aM G K (L) w) (m:bY K a1 c2 a) (n:bY K a4 c5 b):
  Calls prog 33 ([zS a1 a.length c2,zS a4 b.length c5]:List Value).toArray w (eK fun v w'=>v=zB R/\aM G K (L) w'):=by
 refine aP func33 rfl (by kernel_rfl) (by show (2:Nat)<=27;decide) ?_;unfold aAP at hm
 refine aJ (aD (v:=zB false) (aF (aN (aJ (aG (v:=zS a1 a.length c2) (aA (bO (len:=a.length) vV rfl) (aG (v:=zS a4 b.length c5) (aA (bO (len:=b.length) vV rfl) (aA (fV rfl rfl) (aF ?_))))))))))
 rcases aH hm with ⟨h,hm⟩|⟨h,hm⟩
 ·refine aL h rfl (aJ (aD (v:=zB false) (aF ?_)));obtain rfl:=zI hm
  exact aX (aK (aO results33 rfl ⟨rfl,l⟩))
 ·refine aI h rfl (aW (aB (aN (aJ (aD (v:=i64 0) (aF (bM [] (fun f w=>sW=some R/\aM G K (L) w) ?_ ?_)))))))
  ·rintro f w9 ⟨hm,z⟩
   unfold sW at hm
   refine aB (aJ (aD (v:=zB true) (aF ?_)));obtain rfl:=zI hm
   exact aX (aO results33 rfl ⟨rfl,z⟩)
  obtain ⟨b3,V,ho⟩:=aC hm
  refine dP [0,1] V (fun i f w=>f 5=i64 i/\aM G K (L) w) ?_ ?_
  ·exact ⟨rfl,l⟩
  ·rintro i b4 f b5 hm hr ⟨d,c⟩
   unfold oG at hm
   refine aN (aJ (bF d (aG (v:=zS a1 a.length c2) (aA (bO (len:=a.length) vV rfl) (aA (cF rfl rfl) (aF ?_))))))
   rcases aH hm with ⟨j,hm⟩|⟨j,hm⟩
   ·refine aL j rfl (aW (aB (aN (bX (aN (dU (C:=fun w'=>aM G K (L) w') cI (by kernel_rfl) (aM.mono c (eH.drew _)) (bG (fun _ c=>bP (v:=zS a1 a.length c2) rfl) (bG (fun _ c=>bP d) ?_))))))));obtain ⟨e,o,hm⟩:=aC hm
    refine bG (fun _ c=>cG vV rfl m rfl rfl rfl o) ?_;obtain ⟨b6,O,a0⟩:=bY.el (sz:=2) rfl m o
    obtain ⟨p,q,rfl,a2⟩:=a0
    refine bG (fun _ c=>dZ (t:=0) (vs:=[i64 e.Definition,zS p e.Values.length q]) aFQ c O rfl rfl rfl) (bG (fun _ c=>bP (v:=zS a4 b.length c5) rfl) (bG (fun _ c=>bP d) ?_));obtain ⟨g,r,hm⟩:=aC hm
    refine bG (fun _ c=>cG vV rfl n rfl rfl rfl r) ?_;obtain ⟨b7,a3,a5⟩:=bY.el (sz:=2) rfl n r
    obtain ⟨u,c45,rfl,a6⟩:=a5
    refine bG (fun _ c=>dZ (t:=0) (vs:=[i64 g.Definition,zS u g.Values.length c45]) aFQ c a3 rfl rfl rfl) ?_;obtain ⟨a7,a8,hm⟩:=aC hm
    refine eU (vs:=[zA #[i64 e.Definition,zS p e.Values.length q],zA #[i64 g.Definition,zS u g.Values.length c45]]) (v:=zB a7) call64 rfl (fun _ c=>(aII a8 c a2 a6)) (bG (fun _ c=>dA rfl) (eT (fun b8 x=>(aB ?_))))
    rcases aH hm with ⟨k,hm⟩|⟨k,hm⟩
    ·refine aL k rfl (aJ (aD (v:=zB false) (aF (aX (aY (aK (aK ?_)))))))
     have a9:=hr _ (zI hm).symm
     subst a9
     have hm:(some false)=some R:=ho
     clear hr ho
     obtain rfl:=zI hm
     exact aY (aK (aK (aO results33 rfl ⟨rfl,x⟩)))
    ·exact aI k rfl (aW (bH (aB (aU (bF d (aA (cA rfl rfl) (aD (v:=i64 (wr (i+1))) (aF ⟨_,(zI hm).symm,aT,rfl,x⟩))))))))
   ·refine aI j rfl (cD (bA (bA ?_)))
    have b1:=hr _ (zI hm).symm
    subst b1
    have hm:(sW)=some R:=ho
    clear hr ho
    exact bR (aB ⟨aT,hm,c⟩)
theorem aKj {a b:bU} {R:Bool} (hm:aCt a b=some R) (h:aM G K (L) w):
  Calls prog 65 ([zA #[bE a.Left,bE a.Right,bE a.Result],zA #[bE b.Left,bE b.Right,bE b.Result]]:List Value).toArray w (eK fun v w'=>v=zB R/\aM G K (L) w'):=by
 refine aP func65 rfl (by kernel_rfl) (by show (2:Nat)<=20;decide) ?_;unfold aCt at hm
 refine aJ (dM (v:=zA #[bE a.Left,bE a.Right,bE a.Result]) (vs:=[bE a.Left,bE a.Right,bE a.Result]) h rfl rfl (fun o p j=>(dM (v:=zA #[bE b.Left,bE b.Right,bE b.Result]) (vs:=[bE b.Left,bE b.Right,bE b.Result]) j rfl rfl (fun q r c=>(aD (v:=zB false) (aF (aN (aJ (aA (bC (t':=0) kM rfl rfl) (aA (bQ fA c (i:=1) rfl rfl rfl) (aA (bC (t':=0) kM rfl rfl) (aA (bQ fA c (i:=0) rfl rfl rfl) (aA (vO rfl rfl) (aF ?_))))))))))))))
 rcases aH hm with ⟨d,hm⟩|⟨d,hm⟩
 ·refine aL d rfl (aJ (aD (v:=zB false) (aF ?_)));obtain rfl:=zI hm
  exact aX (aK (aO results65 rfl ⟨rfl,(aM.arr 2 [] c rfl)⟩))
 ·refine aI d rfl (aW (aB (aN (aJ (aA (bC (t':=1) mC rfl rfl) (aA (bQ fA c (i:=1) rfl rfl rfl) (aA (bC (t':=1) mC rfl rfl) (aA (bQ fA c (i:=0) rfl rfl rfl) (aA (vO rfl rfl) (aF ?_))))))))))
  rcases aH hm with ⟨e,hm⟩|⟨e,hm⟩
  ·refine aL e rfl (aJ (aD (v:=zB false) (aF ?_)));obtain rfl:=zI hm
   exact aX (aK (aO results65 rfl ⟨rfl,(aM.arr 2 [] c rfl)⟩))
  ·refine aI e rfl (aW (aB (aN (aJ (aA (bC (t':=2) rF rfl rfl) (aA (bQ fA c (i:=1) rfl rfl rfl) (aA (bC (t':=2) rF rfl rfl) (aA (bQ fA c (i:=0) rfl rfl rfl) (aA (vO rfl rfl) (aF ?_))))))))))
   rcases aH hm with ⟨g,hm⟩|⟨g,hm⟩
   ·refine aL g rfl (aJ (aD (v:=zB false) (aF ?_)));obtain rfl:=zI hm
    exact aX (aK (aO results65 rfl ⟨rfl,(aM.arr 2 [] c rfl)⟩))
   ·refine aI g rfl (aW (aB (aJ (aD (v:=zB true) (aF ?_)))));obtain rfl:=zI hm
    exact aX (aO results65 rfl ⟨rfl,(aM.arr 2 [] c rfl)⟩)
theorem aJp {a b:(List bU)} {R:Bool} (hm:aDn a b=some R) (l:aM G K (L) w) (m:bY K a1 c2 a) (n:bY K a4 c5 b):
  Calls prog 34 ([zS a1 a.length c2,zS a4 b.length c5]:List Value).toArray w (eK fun v w'=>v=zB R/\aM G K (L) w'):=by
 refine aP func34 rfl (by kernel_rfl) (by show (2:Nat)<=27;decide) ?_;unfold aDn at hm
 refine aJ (aD (v:=zB false) (aF (aN (aJ (aG (v:=zS a1 a.length c2) (aA (bO (len:=a.length) mB rfl) (aG (v:=zS a4 b.length c5) (aA (bO (len:=b.length) mB rfl) (aA (fV rfl rfl) (aF ?_))))))))))
 rcases aH hm with ⟨h,hm⟩|⟨h,hm⟩
 ·refine aL h rfl (aJ (aD (v:=zB false) (aF ?_)));obtain rfl:=zI hm
  exact aX (aK (aO results34 rfl ⟨rfl,l⟩))
 ·refine aI h rfl (aW (aB (aN (aJ (aD (v:=i64 0) (aF (bM [] (fun f w=>xR=some R/\aM G K (L) w) ?_ ?_)))))))
  ·rintro f w9 ⟨hm,u⟩
   unfold xR at hm
   refine aB (aJ (aD (v:=zB true) (aF ?_)));obtain rfl:=zI hm
   exact aX (aO results34 rfl ⟨rfl,u⟩)
  obtain ⟨a8,y,ho⟩:=aC hm
  refine dP [0,1] y (fun i f w=>f 5=i64 i/\aM G K (L) w) ?_ ?_
  ·exact ⟨rfl,l⟩
  ·rintro i a9 f b0 hm hr ⟨g,c⟩
   unfold rP at hm
   refine aN (aJ (bF g (aG (v:=zS a1 a.length c2) (aA (bO (len:=a.length) mB rfl) (aA (cF rfl rfl) (aF ?_))))))
   rcases aH hm with ⟨j,hm⟩|⟨j,hm⟩
   ·refine aL j rfl (aW (aB (aN (bX (aN (dU (C:=fun w'=>aM G K (L) w') cI (by kernel_rfl) (aM.mono c (eH.drew _)) (bG (fun _ c=>bP (v:=zS a1 a.length c2) rfl) (bG (fun _ c=>bP g) ?_))))))));obtain ⟨d,o,hm⟩:=aC hm
    refine bG (fun _ c=>cG mB rfl m rfl rfl rfl o) ?_;obtain ⟨b1,z,J⟩:=bY.el (sz:=3) rfl m o
    cases J
    refine bG (fun _ c=>dZ (t:=0) (vs:=[bE d.Left,bE d.Right,bE d.Result]) aEO c z rfl rfl rfl) (bG (fun _ c=>bP (v:=zS a4 b.length c5) rfl) (bG (fun _ c=>bP g) ?_));obtain ⟨e,p,hm⟩:=aC hm
    refine bG (fun _ c=>cG mB rfl n rfl rfl rfl p) ?_;obtain ⟨b2,V,O⟩:=bY.el (sz:=3) rfl n p
    cases O
    refine bG (fun _ c=>dZ (t:=0) (vs:=[bE e.Left,bE e.Right,bE e.Result]) aEO c V rfl rfl rfl) ?_;obtain ⟨a0,a2,hm⟩:=aC hm
    refine eU (vs:=[zA #[bE d.Left,bE d.Right,bE d.Result],zA #[bE e.Left,bE e.Right,bE e.Result]]) (v:=zB a0) call65 rfl (fun _ c=>(aKj a2 c)) (bG (fun _ c=>dA rfl) (eT (fun b3 q=>(aB ?_))))
    rcases aH hm with ⟨k,hm⟩|⟨k,hm⟩
    ·refine aL k rfl (aJ (aD (v:=zB false) (aF (aX (aY (aK (aK ?_)))))))
     have a3:=hr _ (zI hm).symm
     subst a3
     have hm:(some false)=some R:=ho
     clear hr ho
     obtain rfl:=zI hm
     exact aY (aK (aK (aO results34 rfl ⟨rfl,q⟩)))
    ·exact aI k rfl (aW (bH (aB (aU (bF g (aA (cA rfl rfl) (aD (v:=i64 (wr (i+1))) (aF ⟨_,(zI hm).symm,aT,rfl,q⟩))))))))
   ·refine aI j rfl (cD (bA (bA ?_)))
    have a6:=hr _ (zI hm).symm
    subst a6
    have hm:(xR)=some R:=ho
    clear hr ho
    exact bR (aB ⟨aT,hm,c⟩)
theorem aFB {a b:(List bJ)} {R:Bool} (hm:zF a b=some R) (j:aM G K (L) w) (k:bY K a1 c2 a) (l:bY K a4 c5 b):
  Calls prog 35 ([zS a1 a.length c2,zS a4 b.length c5]:List Value).toArray w (eK fun v w'=>v=zB R/\aM G K (L) w'):=by
 refine aP func35 rfl (by kernel_rfl) (by show (2:Nat)<=26;decide) ?_;unfold zF at hm
 refine aJ (aD (v:=zB false) (aF (aN (aJ (aG (v:=zS a1 a.length c2) (aA (bO (len:=a.length) hH rfl) (aG (v:=zS a4 b.length c5) (aA (bO (len:=b.length) hH rfl) (aA (fV rfl rfl) (aF ?_))))))))))
 rcases aH hm with ⟨e,hm⟩|⟨e,hm⟩
 ·refine aL e rfl (aJ (aD (v:=zB false) (aF ?_)));obtain rfl:=zI hm
  exact aX (aK (aO results35 rfl ⟨rfl,j⟩))
 ·refine aI e rfl (aW (aB (aN (aJ (aD (v:=i64 0) (aF (bM [] (fun f w=>aAQ=some R/\aM G K (L) w) ?_ ?_)))))))
  ·rintro f w9 ⟨hm,q⟩
   unfold aAQ at hm
   refine aB (aJ (aD (v:=zB true) (aF ?_)));obtain rfl:=zI hm
   exact aX (aO results35 rfl ⟨rfl,q⟩)
  obtain ⟨a3,u,ho⟩:=aC hm
  refine dP [0,1] u (fun g f w=>f 5=i64 g/\aM G K (L) w) ?_ ?_
  ·exact ⟨rfl,j⟩
  ·rintro g a5 f a6 hm hr ⟨d,c⟩
   unfold uC at hm
   refine aN (aJ (bF d (aG (v:=zS a1 a.length c2) (aA (bO (len:=a.length) hH rfl) (aA (cF rfl rfl) (aF ?_))))))
   rcases aH hm with ⟨h,hm⟩|⟨h,hm⟩
   ·refine aL h rfl (aW (aB (aN (bX (aN (dU (C:=fun w'=>aM G K (L) w') cI (by kernel_rfl) (aM.mono c (eH.drew _)) (bG (fun _ c=>bP (v:=zS a1 a.length c2) rfl) (bG (fun _ c=>bP d) ?_))))))));obtain ⟨a7,m,hm⟩:=aC hm
    refine bG (fun _ c=>cG hH rfl k rfl rfl rfl m) ?_;obtain ⟨a8,x,y⟩:=bY.el (sz:=1) rfl k m
    cases y
    refine bG (fun _ c=>cC (t:=0) fA c x rfl rfl) (bG (fun _ c=>bP (v:=zS a4 b.length c5) rfl) (bG (fun _ c=>bP d) ?_));obtain ⟨a9,n,hm⟩:=aC hm
    refine bG (fun _ c=>cG hH rfl l rfl rfl rfl n) ?_;obtain ⟨b0,z,J⟩:=bY.el (sz:=1) rfl l n
    cases J
    refine bG (fun _ c=>cC (t:=0) fA c z rfl rfl) (bG (fun _ c=>vO rfl rfl) (eT (fun b1 o=>(aB ?_))))
    rcases aH hm with ⟨i,hm⟩|⟨i,hm⟩
    ·refine aL i rfl (aJ (aD (v:=zB false) (aF (aX (aY (aK (aK ?_)))))))
     have V:=hr _ (zI hm).symm
     subst V
     have hm:(some false)=some R:=ho
     clear hr ho
     obtain rfl:=zI hm
     exact aY (aK (aK (aO results35 rfl ⟨rfl,o⟩)))
    ·exact aI i rfl (aW (bH (aB (aU (bF d (aA (cA rfl rfl) (aD (v:=i64 (wr (g+1))) (aF ⟨_,(zI hm).symm,aT,rfl,o⟩))))))))
   ·refine aI h rfl (cD (bA (bA ?_)))
    have a0:=hr _ (zI hm).symm
    subst a0
    have hm:(aAQ)=some R:=ho
    clear hr ho
    exact bR (aB ⟨aT,hm,c⟩)
theorem aLk {a b:bZ} {R:Bool} (hm:aDX a b=some R) (p:aM G K (L) w) (q:bY K a1 c2 a.Definitions) (r:bY K a4 c5 a.Components) (t:bY K a7 c8 a.Meetings) (u:bY K a10 c11 a.Allowed) (x:bY K a13 c14 a.Hidden) (y:bY K a16 c17 b.Definitions) (z:bY K a19 c20 b.Components) (J:bY K a22 c23 b.Meetings) (V:bY K a25 c26 b.Allowed) (O:bY K a28 c29 b.Hidden):
  Calls prog 10 ([zA #[zS a1 a.Definitions.length c2,zS a4 a.Components.length c5,zS a7 a.Meetings.length c8,zS a10 a.Allowed.length c11,zS a13 a.Hidden.length c14],zA #[zS a16 b.Definitions.length c17,zS a19 b.Components.length c20,zS a22 b.Meetings.length c23,zS a25 b.Allowed.length c26,zS a28 b.Hidden.length c29]]:List Value).toArray w (eK fun v w'=>v=zB R/\aM G K (L) w'):=by
 refine aP func10 rfl (by kernel_rfl) (by show (2:Nat)<=35;decide) ?_;unfold aDX at hm
 refine aJ (dM (v:=zA #[zS a1 a.Definitions.length c2,zS a4 a.Components.length c5,zS a7 a.Meetings.length c8,zS a10 a.Allowed.length c11,zS a13 a.Hidden.length c14]) (vs:=[zS a1 a.Definitions.length c2,zS a4 a.Components.length c5,zS a7 a.Meetings.length c8,zS a10 a.Allowed.length c11,zS a13 a.Hidden.length c14]) p rfl rfl (fun b5 b6 a0=>(dM (v:=zA #[zS a16 b.Definitions.length c17,zS a19 b.Components.length c20,zS a22 b.Meetings.length c23,zS a25 b.Allowed.length c26,zS a28 b.Hidden.length c29]) (vs:=[zS a16 b.Definitions.length c17,zS a19 b.Components.length c20,zS a22 b.Meetings.length c23,zS a25 b.Allowed.length c26,zS a28 b.Hidden.length c29]) a0 rfl rfl (fun b7 b8 h=>(aD (v:=zB false) (aF (aN (aJ (aA (bC (t':=0) zW rfl rfl) (aA (bQ aGR h (i:=1) rfl rfl rfl) (aA (bC (t':=0) zW rfl rfl) (aA (bQ aGR h (i:=0) rfl rfl rfl) ?_))))))))))))
 obtain ⟨b9,a2,hm⟩:=aC hm
 refine aQ (vs:=[zS a1 a.Definitions.length c2,zS a16 b.Definitions.length c17]) call32 rfl (aHm a2 h q y) ?_
 rintro _ c0 ⟨rfl,c⟩
 refine aA (dA rfl) (aF ?_)
 rcases aH hm with ⟨j,hm⟩|⟨j,hm⟩
 ·refine aL j rfl (aJ (aD (v:=zB false) (aF ?_)));obtain rfl:=zI hm
  exact aX (aK (aO results10 rfl ⟨rfl,(aM.arr 2 [] c rfl)⟩))
 ·refine aI j rfl (aW (aB (aN (aJ (aA (bC (t':=1) uM rfl rfl) (aA (bQ aGs c (i:=1) rfl rfl rfl) (aA (bC (t':=1) uM rfl rfl) (aA (bQ aGs c (i:=0) rfl rfl rfl) ?_))))))));obtain ⟨c1,a5,hm⟩:=aC hm
  refine aQ (vs:=[zS a4 a.Components.length c5,zS a19 b.Components.length c20]) call33 rfl (aIf a5 c r z) ?_
  rintro _ c3 ⟨rfl,d⟩
  refine aA (dA rfl) (aF ?_)
  rcases aH hm with ⟨k,hm⟩|⟨k,hm⟩
  ·refine aL k rfl (aJ (aD (v:=zB false) (aF ?_)));obtain rfl:=zI hm
   exact aX (aK (aO results10 rfl ⟨rfl,(aM.arr 2 [] d rfl)⟩))
  ·refine aI k rfl (aW (aB (aN (aJ (aA (bC (t':=2) aCR rfl rfl) (aA (bQ aKF d (i:=1) rfl rfl rfl) (aA (bC (t':=2) aCR rfl rfl) (aA (bQ aKF d (i:=0) rfl rfl rfl) ?_))))))));obtain ⟨c4,a8,hm⟩:=aC hm
   refine aQ (vs:=[zS a7 a.Meetings.length c8,zS a22 b.Meetings.length c23]) call34 rfl (aJp a8 d t J) ?_
   rintro _ c6 ⟨rfl,e⟩
   refine aA (dA rfl) (aF ?_)
   rcases aH hm with ⟨l,hm⟩|⟨l,hm⟩
   ·refine aL l rfl (aJ (aD (v:=zB false) (aF ?_)));obtain rfl:=zI hm
    exact aX (aK (aO results10 rfl ⟨rfl,(aM.arr 2 [] e rfl)⟩))
   ·refine aI l rfl (aW (aB (aN (aJ (aA (bC (t':=3) aCS rfl rfl) (aA (bQ zV e (i:=1) rfl rfl rfl) (aA (bC (t':=3) aCS rfl rfl) (aA (bQ zV e (i:=0) rfl rfl rfl) ?_))))))));obtain ⟨c7,b0,hm⟩:=aC hm
    refine aQ (vs:=[zS a10 a.Allowed.length c11,zS a25 b.Allowed.length c26]) call35 rfl (aFB b0 e u V) ?_
    rintro _ c9 ⟨rfl,g⟩
    refine aA (dA rfl) (aF ?_)
    rcases aH hm with ⟨m,hm⟩|⟨m,hm⟩
    ·refine aL m rfl (aJ (aD (v:=zB false) (aF ?_)));obtain rfl:=zI hm
     exact aX (aK (aO results10 rfl ⟨rfl,(aM.arr 2 [] g rfl)⟩))
    ·refine aI m rfl (aW (aB (aN (aJ (aA (bC (t':=4) aEu rfl rfl) (aA (bQ zV g (i:=1) rfl rfl rfl) (aA (bC (t':=4) aEu rfl rfl) (aA (bQ zV g (i:=0) rfl rfl rfl) ?_))))))));obtain ⟨d0,b2,hm⟩:=aC hm
     refine aQ (vs:=[zS a13 a.Hidden.length c14,zS a28 b.Hidden.length c29]) call35 rfl (aFB b2 g x O) ?_
     rintro _ d1 ⟨rfl,o⟩
     refine aA (dA rfl) (aF ?_)
     rcases aH hm with ⟨n,hm⟩|⟨n,hm⟩
     ·refine aL n rfl (aJ (aD (v:=zB false) (aF ?_)));obtain rfl:=zI hm
      exact aX (aK (aO results10 rfl ⟨rfl,(aM.arr 2 [] o rfl)⟩))
     ·refine aI n rfl (aW (aB (aJ (aD (v:=zB true) (aF ?_)))));obtain rfl:=zI hm
      exact aX (aO results10 rfl ⟨rfl,(aM.arr 2 [] o rfl)⟩)
theorem kH {k:Int} {R:bJ} (hm:kA k=some R) (h:aM G K (L) w):
  Calls prog 40 ([i64 k]:List Value).toArray w (eK fun v w'=>v=bE R/\aM G K (L) w'):=by
 refine aP func40 rfl (by kernel_rfl) (by show (1:Nat)<=20;decide) ?_;unfold kA at hm
 refine aJ (aD (v:=bE ([]:bJ)) (aF (aN (aJ (aG (v:=i64 k) (aA (vR rfl rfl) (aF ?_)))))))
 rcases aH hm with ⟨c,hm⟩|⟨c,hm⟩
 ·refine aL c rfl (aJ (aD (v:=bE ([109,48]:bJ)) (aF ?_)));obtain rfl:=zI hm
  exact aX (aK (aO results40 rfl ⟨rfl,h⟩))
 ·refine aI c rfl (aW (aB (aJ (aD (v:=bE ([]:bJ)) (aF (aN (bM [] (fun f w=>∃ d,xA d=some R/\f 3=bE d/\aM G K (L) w) ?_ ?_)))))))
  ·rintro f w5 ⟨d,hm,p,q⟩
   unfold xA at hm
   refine aB (aJ (bF p ?_));obtain ⟨r,t,hm⟩:=aC hm
   refine aA (qH rfl rfl t) (aD (v:=bE r) (aF ?_));obtain rfl:=zI hm
   exact aX (aO results40 rfl ⟨rfl,q⟩)
  obtain ⟨a4,x,ho⟩:=aC hm
  refine dD [] x (fun j a f w=>f 0=i64 j/\f 3=bE a/\aM G K (L) w) ?_ ?_
  ·exact ⟨rfl,rfl,h⟩
  ·rintro j a a5 f a6 hm hr ⟨e,l,m⟩
   unfold aBS at hm
   refine aN (aJ (bF e (aA (nN rfl rfl) (aF ?_))))
   rcases aH hm with ⟨g,hm⟩|⟨g,hm⟩
   ·refine aL g rfl (aW (aB (bX (aJ (bF e ?_)))));obtain ⟨b,y,hm⟩:=aC hm
    refine aA (aIj rfl rfl y) (aA (cA rfl rfl) (aA (aNC runUnderlying5 rfl ⟨_,runUnderlying3⟩) (gA (Kt:=K) (xs:=([(UInt8.ofInt (wr (48+b)))]:List UInt8)) (cs:=[Value.int .u8 ((UInt8.ofInt (wr (48+b))).toNat:Int)]) (vs:=[(0,Value.int .u8 ((UInt8.ofInt (wr (48+b))).toNat:Int))]) aDH ez_5 rfl rfl m rfl (by kernel_rfl) rfl rfl rfl ⟨rfl,trivial⟩ ?_)))
    intro z J (n:aM G K (bN 5 K z 1 ([(UInt8.ofInt (wr (48+b)))]:List UInt8)::L) J)
    refine aA (aNB underlying118 underlying5 underlying9 n (i:=0) rfl rfl rfl) (bF l ?_);obtain ⟨V,O,hm⟩:=aC hm
    refine aA (qH rfl rfl O) (aD (v:=bE V) (aF (aU (bF e ?_))));obtain ⟨a0,a1,hm⟩:=aC hm
    exact aA (R_quo rfl rfl a1) (aD (v:=i64 a0) (cW (bH (aB ⟨_,(zI hm).symm,aT,rfl,rfl,(aM.arr 1 [] n rfl)⟩))))
   ·refine aI g rfl (cD (bA (bA ?_)))
    have a2:=hr _ (zI hm).symm
    subst a2
    have hm:(xA a)=some R:=ho
    clear hr ho
    exact bR (aB ⟨aT,a,hm,l,m⟩)
theorem aKk {a:(List bS)} {k:Int} {R:(Int × (List bS))} (hm:aCu a k=some R) (V:aM G K (bN 224 K a1 c2 a::L) w):
  Calls prog 125 ([zS a1 a.length c2,i64 k]:List Value).toArray w (eK fun v w'=>v=i64 R.1/\a.length=R.2.length/\aM G K (bN 224 K a1 c2 R.2::L) w'):=by
 refine aP func125 rfl (by kernel_rfl) (by show (2:Nat)<=27;decide) ?_;unfold aCu at hm
 refine aJ (aD (v:=i64 0) (aF (aN (aJ (aD (v:=i64 0) (aF (bM [] (fun f w=>∃ e g,aAR e g=some R/\f 1=i64 e/\a.length=g.length/\aM G K (bN 224 K a1 c2 g::L) w) ?_ ?_)))))))
 ·rintro f w7 ⟨e,g,hm,O,a0,a2⟩
  unfold aAR at hm
  refine aB (aJ (bF O (aD (v:=i64 e) (aF ?_))));obtain rfl:=zI hm
  exact aX (aO results125 rfl ⟨rfl,a0,a2⟩)
 obtain ⟨b5,a5,ho⟩:=aC hm
 refine jP [] a5 (fun c b d f w=>f 0=zS a1 c.length c2/\f 1=i64 b/\f 5=i64 d/\a.length=c.length/\aM G K (bN 224 K a1 c2 c::L) w) ?_ ?_
 ·exact ⟨rfl,rfl,rfl,rfl,V⟩
 ·rintro c b d b6 f b7 hm hr ⟨j,p,l,y,q⟩
  unfold uD at hm
  refine aN (aJ (bF l (bF j (aA (bO (len:=c.length) lX rfl) (aA (cF rfl rfl) (aF ?_))))))
  rcases aH hm with ⟨r,hm⟩|⟨r,hm⟩
  ·refine aL r rfl (aW (aB (aN (bX (aJ (bF j (bF l (bF p ?_))))))));obtain ⟨a6,u,hm⟩:=aC hm
   have m:=gC q (i:=0) rfl u
   refine aA (fT lX rfl m rfl rfl rfl u) (aA (jE (k':=d.toNat * 2+0) vT m rfl rfl) ?_);obtain ⟨z,o,hm⟩:=aC hm
   refine oZ (i:=0) (t:=0) (ns:=[i64 b]) (e':=(⟨b,a6.Value⟩:bS)) sizeOf2 q rfl (zR _) rfl rfl rfl u o rfl rfl (gJ rfl) rfl (fun cs h=>by cases h;rfl) (fun a7 (a8:aM G K (bN 224 K a1 c2 z::L) a7)=>(aF (aJ (bF p (aA (cA rfl rfl) (aD (v:=i64 (wr (b+1))) (aF (aJ (bF (v:=zS a1 z.length c2) (Eq.trans j (congrArg (fun n=>zS a1 n c2) (cE o))) (bF l (aG (v:=i64 (wr (b+1))) ?_)))))))))));obtain ⟨a9,J,hm⟩:=aC hm
   refine aA (fT lX rfl m rfl rfl rfl J) (aA (jE (k':=d.toNat * 2+1) kL m rfl rfl) ?_);obtain ⟨b0,x,hm⟩:=aC hm
   exact oZ (i:=0) (t:=1) (ns:=[i64 (wr (b+1))]) (e':=(⟨a9.Kind,wr (b+1)⟩:bS)) sizeOf2 a8 rfl (zR _) rfl rfl rfl J x rfl rfl (gJ rfl) rfl (fun cs h=>by cases h;rfl) (fun b1 (b2:aM G K (bN 224 K a1 c2 b0::L) b1)=>(aF (aU (aG (v:=i64 (wr (b+1))) (aA (cA rfl rfl) (aD (v:=i64 (wr ((wr (b+1))+1))) (cW (bH (aB (aU (bF l (aA (cA rfl rfl) (aD (v:=i64 (wr (d+1))) (aF ⟨_,(zI hm).symm,aT,(Eq.trans (Eq.trans j (congrArg (fun n=>zS a1 n c2) (cE o))) (congrArg (fun n=>zS a1 n c2) (cE x))),rfl,rfl,((y.trans (cE o)).trans (cE x)),b2⟩))))))))))))))
  ·refine aI r rfl (cD (bA (bA ?_)))
   have b3:=hr _ (zI hm).symm
   subst b3
   have hm:(aAR b c)=some R:=ho
   clear hr ho
   exact bR (aB ⟨aT,b,c,hm,p,y,q⟩)
theorem aJq {a:(List (List bS))} {b:List (Dp.Hd (List bS))} {k:Int} {R:(Int × (List (List bS)))} (hm:aAS a k=some R) (hs:aM G K (bN 190 K a1 c2 (bK b a)::rows [224] b a::L) w) (a2:List.length b=List.length a):
  Calls prog 91 ([zS a1 a.length c2,i64 k]:List Value).toArray w (eK fun v w'=>v=i64 R.1/\a.length=R.2.length/\aM G K (bN 190 K a1 c2 (bK b R.2)::rows [224] b R.2::L) w'):=by
 refine aP func91 rfl (by kernel_rfl) (by show (2:Nat)<=19;decide) ?_;unfold aAS at hm
 refine aJ (aD (v:=i64 0) (aF (aN (aJ (aD (v:=i64 0) (aF (bM [] (fun f w=>∃ l e,xS l e=some R/\f 1=i64 l/\List.length b=List.length e/\a.length=e.length/\aM G K (bN 190 K a1 c2 (bK b e)::rows [224] b e::L) w) ?_ ?_)))))))
 ·rintro f b9 ⟨l,e,hm,e9,c0,a4,a5⟩
  unfold xS at hm
  refine aB (aJ (bF e9 (aD (v:=i64 l) (aF ?_))));obtain rfl:=zI hm
  exact aX (aO results91 rfl ⟨rfl,a4,a5⟩)
 obtain ⟨c1,a8,ho⟩:=aC hm
 refine jP [] a8 (fun c j d f w=>f 0=zS a1 c.length c2/\f 1=i64 j/\f 5=i64 d/\List.length b=List.length c/\a.length=c.length/\aM G K (bN 190 K a1 c2 (bK b c)::rows [224] b c::L) w) ?_ ?_
 ·exact ⟨rfl,rfl,rfl,a2,rfl,hs⟩
 ·rintro c j d c3 f z hm hr ⟨q,J,r,g,V,m⟩
  unfold rQ at hm
  refine aN (aJ (bF r (bF q (aA (bO (len:=c.length) lE rfl) (aA (cF rfl rfl) (aF ?_))))))
  rcases aH hm with ⟨c48,hm⟩|⟨c48,hm⟩
  ·refine aL c48 rfl (aW (aB (aN (bX (aU (bF q (bF r ?_)))))));obtain ⟨u,h,hm⟩:=aC hm
   obtain ⟨⟨x,y⟩,o⟩:=aCJ g h
   have a9:=gC m (i:=0) rfl (kK g h o)
   refine aA (fT lE rfl a9 rfl rfl rfl h) (aA (aKD (t:=0) aFP m (i:=0) rfl (kK g h o) rfl rfl rfl) (bF J ?_))
   have b0:aM G K (bN 190 K a1 c2 (bK b c)::rows [224] ((b).eraseIdx d.toNat) ((c).eraseIdx d.toNat)::bN 224 K x y u::L) z:=aM.focusR (i:=0) m rfl rfl o h
   have b1:aM G K (bN 224 K x y u::bN 190 K a1 c2 (bK b c)::rows [224] ((b).eraseIdx d.toNat) ((c).eraseIdx d.toNat)::L) z:=(aM.arr 3 [2,0,1] b0 rfl)
   obtain ⟨b2,b3,hm⟩:=aC hm
   refine aQ (vs:=[zS x u.length y,i64 j]) call125 rfl (aKk b3 b1) ?_
   rintro _ b4 ⟨rfl,b5,b6⟩
   obtain ⟨O,p,hm⟩:=aC hm
   have b7:aM G K (bN 190 K a1 c2 (bK b O)::rows [224] b O::L) b4:=aM.unfocusR (tys:=[224]) b6 g o h b5 p
   exact aD (v:=i64 b2.1) (cW (bH (aB (aU (bF r (aA (cA rfl rfl) (aD (v:=i64 (wr (d+1))) (aF ⟨_,(zI hm).symm,aT,(Eq.trans q (congrArg (fun n=>zS a1 n c2) (cE p))),rfl,rfl,(g.trans (cE p)),(V.trans (cE p)),b7⟩))))))))
  ·refine aI c48 rfl (cD (bA (bA ?_)))
   have b8:=hr _ (zI hm).symm
   subst b8
   have hm:(xS j c)=some R:=ho
   clear hr ho
   exact bR (aB ⟨aT,j,c,hm,J,g,V,m⟩)
theorem aKl {a:(List Part)} {b:List (Dp.Hd Part)} {k:Int} {R:(Int × (List Part))} (hm:aCv a k=some R) (hs:aM G K (bN 152 K a1 c2 (bK b a)::rows [190,224] b a::L) w) (c5:List.length b=List.length a):
  Calls prog 66 ([zS a1 a.length c2,i64 k]:List Value).toArray w (eK fun v w'=>v=i64 R.1/\a.length=R.2.length/\aM G K (bN 152 K a1 c2 (bK b R.2)::rows [190,224] b R.2::L) w'):=by
 refine aP func66 rfl (by kernel_rfl) (by show (2:Nat)<=42;decide) ?_;unfold aCv at hm
 refine aJ (aD (v:=i64 0) (aF (aN (aJ (aD (v:=i64 0) (aF (bM [] (fun f w=>∃ V u,aAT V u=some R/\f 1=i64 V/\List.length b=List.length u/\a.length=u.length/\aM G K (bN 152 K a1 c2 (bK b u)::rows [190,224] b u::L) w) ?_ ?_)))))))
 ·rintro f e4 ⟨V,u,hm,e9,e5,c7,c8⟩
  unfold aAT at hm
  refine aB (aJ (bF e9 (aD (v:=i64 V) (aF ?_))));obtain rfl:=zI hm
  exact aX (aO results66 rfl ⟨rfl,c7,c8⟩)
 obtain ⟨e6,d0,ho⟩:=aC hm
 refine jP [] d0 (fun j c d f w=>f 0=zS a1 j.length c2/\f 1=i64 c/\f 5=i64 d/\List.length b=List.length j/\a.length=j.length/\aM G K (bN 152 K a1 c2 (bK b j)::rows [190,224] b j::L) w) ?_ ?_
 ·exact ⟨rfl,rfl,rfl,c5,rfl,hs⟩
 ·rintro j c d e7 f e8 hm hr ⟨x,a5,y,l,b4,a7⟩
  unfold uE at hm
  refine aN (aJ (bF y (bF x (aA (bO (len:=j.length) iH rfl) (aA (cF rfl rfl) (aF ?_))))))
  rcases aH hm with ⟨c48,hm⟩|⟨c48,hm⟩
  ·refine aL c48 rfl (aW (aB (aN (bX (aJ (bF x (bF y (bF a5 ?_))))))));obtain ⟨a8,O,hm⟩:=aC hm
   obtain ⟨⟨⟨z,J⟩,o⟩,q⟩:=aCJ l O
   have p:=gC a7 (i:=0) rfl (kK l O q)
   refine aA (fT iH rfl p rfl rfl rfl O) (aA (jE (k':=d.toNat * 4+0) eY p rfl rfl) ?_);obtain ⟨a9,e,hm⟩:=aC hm
   refine aGQ (i:=0) (t:=0) (ns:=[i64 c]) (e':=(⟨c,a8.Number,a8.Name,a8.Arguments⟩:Part)) sizeOf2 a7 l rfl rfl rfl rfl rfl O q e rfl rfl (gJ rfl) rfl rfl rfl (fun d1 (d2:aM G K (bN 152 K a1 c2 (bK b a9)::rows [190,224] b a9::L) d1)=>(aF (aJ (bF a5 (aA (cA rfl rfl) (aD (v:=i64 (wr (c+1))) (aF (aJ (bF (v:=zS a1 a9.length c2) (Eq.trans x (congrArg (fun n=>zS a1 n c2) (cE e))) (bF y (aG (v:=i64 (wr (c+1))) ?_)))))))))))
   obtain ⟨b0,b5,hm⟩:=aC hm
   refine aA (fT iH rfl p rfl rfl rfl b5) (aA (jE (k':=d.toNat * 4+1) jH p rfl rfl) ?_);obtain ⟨b1,m,hm⟩:=aC hm
   refine aGQ (i:=0) (t:=1) (ns:=[i64 (wr (c+1))]) (e':=(⟨b0.Kind,wr (c+1),b0.Name,b0.Arguments⟩:Part)) sizeOf2 d2 (l.trans (cE e)) rfl rfl rfl rfl rfl b5 q m rfl rfl (gJ rfl) rfl rfl rfl (fun d3 (d4:aM G K (bN 152 K a1 c2 (bK b b1)::rows [190,224] b b1::L) d3)=>(aF (aJ (aG (v:=i64 (wr (c+1))) (aA (cA rfl rfl) (aD (v:=i64 (wr ((wr (c+1))+1))) (aF (aJ (bF (v:=zS a1 b1.length c2) (Eq.trans (Eq.trans x (congrArg (fun n=>zS a1 n c2) (cE e))) (congrArg (fun n=>zS a1 n c2) (cE m))) (bF y (aG (v:=i64 (wr ((wr (c+1))+1))) ?_)))))))))))
   obtain ⟨b6,d5,hm⟩:=aC hm
   refine aQ (vs:=[i64 (wr ((wr (c+1))+1))]) call40 rfl (kH d5 d4) ?_
   rintro _ f0 ⟨rfl,d6⟩
   obtain ⟨b2,b7,hm⟩:=aC hm
   refine aA (fT iH rfl p rfl rfl rfl b7) (aA (jE (k':=d.toNat * 4+2) lD p rfl rfl) ?_);obtain ⟨g,r,hm⟩:=aC hm
   refine aGQ (i:=0) (t:=2) (ns:=[bE b6]) (e':=(⟨b2.Kind,b2.Number,b6,b2.Arguments⟩:Part)) sizeOf9 d6 ((l.trans (cE e)).trans (cE m)) rfl rfl rfl rfl rfl b7 q r rfl rfl (gJ rfl) rfl rfl rfl (fun a0 (b8:aM G K (bN 152 K a1 c2 (bK b g)::rows [190,224] b g::L) a0)=>(aF (aJ (aG (v:=i64 (wr ((wr (c+1))+1))) (aA (cA rfl rfl) (aD (v:=i64 (wr ((wr ((wr (c+1))+1))+1))) (aF (aU (bF (v:=zS a1 g.length c2) (Eq.trans (Eq.trans (Eq.trans x (congrArg (fun n=>zS a1 n c2) (cE e))) (congrArg (fun n=>zS a1 n c2) (cE m))) (congrArg (fun n=>zS a1 n c2) (cE r))) (bF y ?_))))))))))
   obtain ⟨h,a2,hm⟩:=aC hm
   refine aA (fT iH rfl p rfl rfl rfl a2) (aA (jE (k':=d.toNat * 4+3) jI p rfl rfl) (aA (aKD (t:=3) qN b8 (i:=0) rfl (kK (((l.trans (cE e)).trans (cE m)).trans (cE r)) a2 q) rfl rfl rfl) (aG (v:=i64 (wr ((wr ((wr (c+1))+1))+1))) ?_)))
   have d7:aM G K (bN 152 K a1 c2 (bK b g)::rows [190,224] ((b).eraseIdx d.toNat) ((g).eraseIdx d.toNat)::bN 190 K z J (bK o h.Arguments)::aDG [224] o h.Arguments::L) a0:=aM.arr 4 [3,2,0,1] (aM.rowOut (i:=1) b8 rfl q (aLR a2)) rfl
   obtain ⟨b9,b3⟩:=aM.openL (i:=3) d7 rfl
   replace b3:aM G K (bN 152 K a1 c2 (bK b g)::rows [190,224] ((b).eraseIdx d.toNat) ((g).eraseIdx d.toNat)::bN 190 K z J (bK o h.Arguments)::rows [224] o h.Arguments::L) a0:=b3
   have d8:aM G K (bN 190 K z J (bK o h.Arguments)::rows [224] o h.Arguments::bN 152 K a1 c2 (bK b g)::rows [190,224] ((b).eraseIdx d.toNat) ((g).eraseIdx d.toNat)::L) a0:=(aM.arr 4 [2,3,0,1] b3 rfl)
   obtain ⟨a3,d9,hm⟩:=aC hm
   refine aQ (vs:=[zS z h.Arguments.length J,i64 (wr ((wr ((wr (c+1))+1))+1))]) call91 rfl (aJq d9 d8 b9) ?_
   rintro _ c0 ⟨rfl,c1,e0⟩
   obtain ⟨c3,a4,hm⟩:=aC hm
   have e1:aM G K (bN 190 K z J (bK o a3.2)::aDG [224] o a3.2::bN 152 K a1 c2 (bK b g)::rows [190,224] ((b).eraseIdx d.toNat) ((g).eraseIdx d.toNat)::L) c0:=aM.closeL (i:=1) e0 rfl (b9.trans c1)
   have e2:aM G K (bN 152 K a1 c2 (bK b c3)::rows [190,224] b c3::L) c0:=aM.unfocusS (tys:=[190,224]) (x':=(⟨h.Kind,h.Number,h.Name,a3.2⟩:Part)) (aM.arr 4 [0,1,3,2] e1 rfl) (((l.trans (cE e)).trans (cE m)).trans (cE r)) q a2 (aQN c1) a4
   exact aD (v:=i64 a3.1) (cW (bH (aB (aU (bF y (aA (cA rfl rfl) (aD (v:=i64 (wr (d+1))) (aF ⟨_,(zI hm).symm,aT,(Eq.trans (Eq.trans (Eq.trans (Eq.trans x (congrArg (fun n=>zS a1 n c2) (cE e))) (congrArg (fun n=>zS a1 n c2) (cE m))) (congrArg (fun n=>zS a1 n c2) (cE r))) (congrArg (fun n=>zS a1 n c2) (cE a4))),rfl,rfl,((((l.trans (cE e)).trans (cE m)).trans (cE r)).trans (cE a4)),((((b4.trans (cE e)).trans (cE m)).trans (cE r)).trans (cE a4)),e2⟩))))))))
  ·refine aI c48 rfl (cD (bA (bA ?_)))
   have e3:=hr _ (zI hm).symm
   subst e3
   have hm:(aAT c j)=some R:=ho
   clear hr ho
   exact bR (aB ⟨aT,c,j,hm,a5,l,b4,a7⟩)
theorem aGm {a:(List Definition)} {b:List (Dp.Hd Definition)} {k:Int} {R:(Int × (List Definition))} (hm:oI a k=some R) (hs:aM G K (bN 104 K a1 c2 (bK b a)::rows [152,190,224] b a::L) w) (c1:List.length b=List.length a):
  Calls prog 36 ([zS a1 a.length c2,i64 k]:List Value).toArray w (eK fun v w'=>v=i64 R.1/\a.length=R.2.length/\aM G K (bN 104 K a1 c2 (bK b R.2)::rows [152,190,224] b R.2::L) w'):=by
 refine aP func36 rfl (by kernel_rfl) (by show (2:Nat)<=35;decide) ?_;unfold oI at hm
 refine aJ (aD (v:=i64 0) (aF (aN (aJ (aD (v:=i64 0) (aF (bM [] (fun f w=>∃ J p,oH J p=some R/\f 1=i64 J/\List.length b=List.length p/\a.length=p.length/\aM G K (bN 104 K a1 c2 (bK b p)::rows [152,190,224] b p::L) w) ?_ ?_)))))))
 ·rintro f d8 ⟨J,p,hm,e9,d9,c4,c5⟩
  unfold oH at hm
  refine aB (aJ (bF e9 (aD (v:=i64 J) (aF ?_))));obtain rfl:=zI hm
  exact aX (aO results36 rfl ⟨rfl,c4,c5⟩)
 obtain ⟨e0,c7,ho⟩:=aC hm
 refine jP [] c7 (fun g d c f w=>f 0=zS a1 g.length c2/\f 1=i64 d/\f 5=i64 c/\List.length b=List.length g/\a.length=g.length/\aM G K (bN 104 K a1 c2 (bK b g)::rows [152,190,224] b g::L) w) ?_ ?_
 ·exact ⟨rfl,rfl,rfl,c1,rfl,hs⟩
 ·rintro g d c e1 f e2 hm hr ⟨u,a4,x,l,a8,a9⟩
  unfold lM at hm
  refine aN (aJ (bF x (bF u (aA (bO (len:=g.length) jO rfl) (aA (cF rfl rfl) (aF ?_))))))
  rcases aH hm with ⟨c48,hm⟩|⟨c48,hm⟩
  ·refine aL c48 rfl (aW (aB (aN (bX (aJ (bF u (bF x (bF a4 ?_))))))));obtain ⟨b0,c8,hm⟩:=aC hm
   refine aQ (vs:=[i64 d]) call40 rfl (kH c8 a9) ?_
   rintro _ e3 ⟨rfl,b1⟩
   obtain ⟨b2,V,hm⟩:=aC hm
   obtain ⟨⟨⟨y,z⟩,m⟩,q⟩:=aCJ l V
   have r:=gC b1 (i:=0) rfl (kK l V q)
   refine aA (fT jO rfl r rfl rfl rfl V) (aA (jE (k':=c.toNat * 3+0) vU r rfl rfl) ?_);obtain ⟨a5,h,hm⟩:=aC hm
   refine aGQ (i:=0) (t:=0) (ns:=[bE b0]) (e':=(⟨b0,b2.Parameters,b2.Body⟩:Definition)) sizeOf9 b1 l rfl rfl rfl rfl rfl V q h rfl rfl (gJ rfl) rfl rfl rfl (fun c9 (d0:aM G K (bN 104 K a1 c2 (bK b a5)::rows [152,190,224] b a5::L) c9)=>(aF (aJ (bF a4 (aA (cA rfl rfl) (aD (v:=i64 (wr (d+1))) (aF (aJ (bF (v:=zS a1 a5.length c2) (Eq.trans u (congrArg (fun n=>zS a1 n c2) (cE h))) (bF x (aG (v:=i64 (wr (d+1))) ?_)))))))))))
   obtain ⟨b3,b4,hm⟩:=aC hm
   refine aA (fT jO rfl r rfl rfl rfl b4) (aA (jE (k':=c.toNat * 3+1) rE r rfl rfl) ?_);obtain ⟨e,o,hm⟩:=aC hm
   refine aGQ (i:=0) (t:=1) (ns:=[i64 (wr (d+1))]) (e':=(⟨b3.Name,wr (d+1),b3.Body⟩:Definition)) sizeOf2 d0 (l.trans (cE h)) rfl rfl rfl rfl rfl b4 q o rfl rfl (gJ rfl) rfl rfl rfl (fun O (b5:aM G K (bN 104 K a1 c2 (bK b e)::rows [152,190,224] b e::L) O)=>(aF (aJ (aG (v:=i64 (wr (d+1))) (aA (cA rfl rfl) (aD (v:=i64 (wr ((wr (d+1))+1))) (aF (aU (bF (v:=zS a1 e.length c2) (Eq.trans (Eq.trans u (congrArg (fun n=>zS a1 n c2) (cE h))) (congrArg (fun n=>zS a1 n c2) (cE o))) (bF x ?_))))))))))
   obtain ⟨j,a0,hm⟩:=aC hm
   refine aA (fT jO rfl r rfl rfl rfl a0) (aA (jE (k':=c.toNat * 3+2) jJ r rfl rfl) (aA (aKD (t:=2) qO b5 (i:=0) rfl (kK ((l.trans (cE h)).trans (cE o)) a0 q) rfl rfl rfl) (aG (v:=i64 (wr ((wr (d+1))+1))) ?_)))
   have d1:aM G K (bN 104 K a1 c2 (bK b e)::rows [152,190,224] ((b).eraseIdx c.toNat) ((e).eraseIdx c.toNat)::bN 152 K y z (bK m j.Body)::aDG [190,224] m j.Body::L) O:=aM.arr 4 [3,2,0,1] (aM.rowOut (i:=1) b5 rfl q (aLR a0)) rfl
   obtain ⟨b6,a7⟩:=aM.openL (i:=3) d1 rfl
   replace a7:aM G K (bN 104 K a1 c2 (bK b e)::rows [152,190,224] ((b).eraseIdx c.toNat) ((e).eraseIdx c.toNat)::bN 152 K y z (bK m j.Body)::rows [190,224] m j.Body::L) O:=a7
   have d2:aM G K (bN 152 K y z (bK m j.Body)::rows [190,224] m j.Body::bN 104 K a1 c2 (bK b e)::rows [152,190,224] ((b).eraseIdx c.toNat) ((e).eraseIdx c.toNat)::L) O:=(aM.arr 4 [2,3,0,1] a7 rfl)
   obtain ⟨a2,d3,hm⟩:=aC hm
   refine aQ (vs:=[zS y j.Body.length z,i64 (wr ((wr (d+1))+1))]) call66 rfl (aKl d3 d2 b6) ?_
   rintro _ b7 ⟨rfl,b8,d4⟩
   obtain ⟨b9,a3,hm⟩:=aC hm
   have d5:aM G K (bN 152 K y z (bK m a2.2)::aDG [190,224] m a2.2::bN 104 K a1 c2 (bK b e)::rows [152,190,224] ((b).eraseIdx c.toNat) ((e).eraseIdx c.toNat)::L) b7:=aM.closeL (i:=1) d4 rfl (b6.trans b8)
   have d6:aM G K (bN 104 K a1 c2 (bK b b9)::rows [152,190,224] b b9::L) b7:=aM.unfocusS (tys:=[152,190,224]) (x':=(⟨j.Name,j.Parameters,a2.2⟩:Definition)) (aM.arr 4 [0,1,3,2] d5 rfl) ((l.trans (cE h)).trans (cE o)) q a0 (aJT b8) a3
   exact aD (v:=i64 a2.1) (cW (bH (aB (aU (bF x (aA (cA rfl rfl) (aD (v:=i64 (wr (c+1))) (aF ⟨_,(zI hm).symm,aT,(Eq.trans (Eq.trans (Eq.trans u (congrArg (fun n=>zS a1 n c2) (cE h))) (congrArg (fun n=>zS a1 n c2) (cE o))) (congrArg (fun n=>zS a1 n c2) (cE a3))),rfl,rfl,(((l.trans (cE h)).trans (cE o)).trans (cE a3)),(((a8.trans (cE h)).trans (cE o)).trans (cE a3)),d6⟩))))))))
  ·refine aI c48 rfl (cD (bA (bA ?_)))
   have d7:=hr _ (zI hm).symm
   subst d7
   have hm:(oH d g)=some R:=ho
   clear hr ho
   exact bR (aB ⟨aT,d,g,hm,a4,l,a8,a9⟩)
theorem aEH {a:(List Int)} {k:Int} {R:(Int × (List Int))} (hm:vD a k=some R) (x:aM G K (bN 2 K a1 c2 a::L) w):
  Calls prog 41 ([zS a1 a.length c2,i64 k]:List Value).toArray w (eK fun v w'=>v=i64 R.1/\a.length=R.2.length/\aM G K (bN 2 K a1 c2 R.2::L) w'):=by
 refine aP func41 rfl (by kernel_rfl) (by show (2:Nat)<=19;decide) ?_;unfold vD at hm
 refine aJ (aD (v:=i64 0) (aF (aN (aJ (aD (v:=i64 0) (aF (bM [] (fun f w=>∃ d e,rR d e=some R/\f 1=i64 d/\a.length=e.length/\aM G K (bN 2 K a1 c2 e::L) w) ?_ ?_)))))))
 ·rintro f w7 ⟨d,e,hm,y,z,J⟩
  unfold rR at hm
  refine aB (aJ (bF y (aD (v:=i64 d) (aF ?_))));obtain rfl:=zI hm
  exact aX (aO results41 rfl ⟨rfl,z,J⟩)
 obtain ⟨a8,O,ho⟩:=aC hm
 refine jP [] O (fun b c g f w=>f 0=zS a1 b.length c2/\f 1=i64 c/\f 5=i64 g/\a.length=b.length/\aM G K (bN 2 K a1 c2 b::L) w) ?_ ?_
 ·exact ⟨rfl,rfl,rfl,rfl,x⟩
 ·rintro b c g a9 f b0 hm hr ⟨j,l,m,u,o⟩
  unfold xT at hm
  refine aN (aJ (bF m (bF j (aA (bO (len:=b.length) fN rfl) (aA (cF rfl rfl) (aF ?_))))))
  rcases aH hm with ⟨p,hm⟩|⟨p,hm⟩
  ·refine aL p rfl (aW (aB (aN (bX (aJ (bF j (bF m (bF l ?_))))))));obtain ⟨b1,q,hm⟩:=aC hm
   have a0:=gC o (i:=0) rfl q
   refine aA (fT fN rfl a0 rfl rfl rfl q) ?_;obtain ⟨a2,r,hm⟩:=aC hm
   exact oZ (i:=0) (t:=0) (ns:=[i64 c]) (e':=(c:Int)) sizeOf2 o rfl (zR _) rfl rfl rfl q r rfl rfl (gJ rfl) rfl (fun cs h=>by cases h;rfl) (fun a3 (a5:aM G K (bN 2 K a1 c2 a2::L) a3)=>(aF (aU (bF l (aA (cA rfl rfl) (aD (v:=i64 (wr (c+1))) (cW (bH (aB (aU (bF m (aA (cA rfl rfl) (aD (v:=i64 (wr (g+1))) (aF ⟨_,(zI hm).symm,aT,(Eq.trans j (congrArg (fun n=>zS a1 n c2) (cE r))),rfl,rfl,(u.trans (cE r)),a5⟩))))))))))))))
  ·refine aI p rfl (cD (bA (bA ?_)))
   have a6:=hr _ (zI hm).symm
   subst a6
   have hm:(rR c b)=some R:=ho
   clear hr ho
   exact bR (aB ⟨aT,c,b,hm,l,u,o⟩)
theorem aGF {a:(List bT)} {b:List (Dp.Hd bT)} {k:Int} {R:(Int × (List bT))} (hm:pZ a k=some R) (hs:aM G K (bN 100 K a1 c2 (bK b a)::rows [2] b a::L) w) (a9:List.length b=List.length a):
  Calls prog 37 ([zS a1 a.length c2,i64 k]:List Value).toArray w (eK fun v w'=>v=i64 R.1/\a.length=R.2.length/\aM G K (bN 100 K a1 c2 (bK b R.2)::rows [2] b R.2::L) w'):=by
 refine aP func37 rfl (by kernel_rfl) (by show (2:Nat)<=27;decide) ?_;unfold pZ at hm
 refine aJ (aD (v:=i64 0) (aF (aN (aJ (aD (v:=i64 0) (aF (bM [] (fun f w=>∃ o l,oW o l=some R/\f 1=i64 o/\List.length b=List.length l/\a.length=l.length/\aM G K (bN 100 K a1 c2 (bK b l)::rows [2] b l::L) w) ?_ ?_)))))))
 ·rintro f c5 ⟨o,l,hm,e9,c6,b1,b2⟩
  unfold oW at hm
  refine aB (aJ (bF e9 (aD (v:=i64 o) (aF ?_))));obtain rfl:=zI hm
  exact aX (aO results37 rfl ⟨rfl,b1,b2⟩)
 obtain ⟨c7,b4,ho⟩:=aC hm
 refine jP [] b4 (fun c d e f w=>f 0=zS a1 c.length c2/\f 1=i64 d/\f 5=i64 e/\List.length b=List.length c/\a.length=c.length/\aM G K (bN 100 K a1 c2 (bK b c)::rows [2] b c::L) w) ?_ ?_
 ·exact ⟨rfl,rfl,rfl,a9,rfl,hs⟩
 ·rintro c d e c8 f c9 hm hr ⟨p,J,q,g,a3,V⟩
  unfold mF at hm
  refine aN (aJ (bF q (bF p (aA (bO (len:=c.length) vV rfl) (aA (cF rfl rfl) (aF ?_))))))
  rcases aH hm with ⟨c48,hm⟩|⟨c48,hm⟩
  ·refine aL c48 rfl (aW (aB (aN (bX (aJ (bF p (bF q (bF J ?_))))))));obtain ⟨b5,r,hm⟩:=aC hm
   obtain ⟨⟨O,a0⟩,m⟩:=aCJ g r
   have u:=gC V (i:=0) rfl (kK g r m)
   refine aA (fT vV rfl u rfl rfl rfl r) (aA (jE (k':=e.toNat * 2+0) vW u rfl rfl) ?_);obtain ⟨h,j,hm⟩:=aC hm
   refine aGQ (i:=0) (t:=0) (ns:=[i64 d]) (e':=(⟨d,b5.Values⟩:bT)) sizeOf2 V g rfl rfl rfl rfl rfl r m j rfl rfl (gJ rfl) rfl rfl rfl (fun a2 (a4:aM G K (bN 100 K a1 c2 (bK b h)::rows [2] b h::L) a2)=>(aF (aJ (bF J (aA (cA rfl rfl) (aD (v:=i64 (wr (d+1))) (aF (aU (bF (v:=zS a1 h.length c2) (Eq.trans p (congrArg (fun n=>zS a1 n c2) (cE j))) (bF q ?_))))))))));obtain ⟨x,y,hm⟩:=aC hm
   refine aA (fT vV rfl u rfl rfl rfl y) (aA (jE (k':=e.toNat * 2+1) vX u rfl rfl) (aA (aKD (t:=1) vL a4 (i:=0) rfl (kK (g.trans (cE j)) y m) rfl rfl rfl) (aG (v:=i64 (wr (d+1))) ?_)))
   have b6:aM G K (bN 100 K a1 c2 (bK b h)::rows [2] ((b).eraseIdx e.toNat) ((h).eraseIdx e.toNat)::bN 2 K O a0 x.Values::L) a2:=aM.arr 3 [2,1,0] (aM.rowOut (i:=1) a4 rfl m (aLR y)) rfl
   have b7:aM G K (bN 2 K O a0 x.Values::bN 100 K a1 c2 (bK b h)::rows [2] ((b).eraseIdx e.toNat) ((h).eraseIdx e.toNat)::L) a2:=(aM.arr 3 [2,0,1] b6 rfl)
   obtain ⟨a5,b8,hm⟩:=aC hm
   refine aQ (vs:=[zS O x.Values.length a0,i64 (wr (d+1))]) call41 rfl (aEH b8 b7) ?_
   rintro _ b9 ⟨rfl,c0,c1⟩
   obtain ⟨a7,z,hm⟩:=aC hm
   have c3:aM G K (bN 100 K a1 c2 (bK b a7)::rows [2] b a7::L) b9:=aM.unfocusS (tys:=[2]) (x':=(⟨x.Definition,a5.2⟩:bT)) (aM.arr 3 [0,2,1] c1 rfl) (g.trans (cE j)) m y (aKT c0) z
   exact aD (v:=i64 a5.1) (cW (bH (aB (aU (bF q (aA (cA rfl rfl) (aD (v:=i64 (wr (e+1))) (aF ⟨_,(zI hm).symm,aT,(Eq.trans (Eq.trans p (congrArg (fun n=>zS a1 n c2) (cE j))) (congrArg (fun n=>zS a1 n c2) (cE z))),rfl,rfl,((g.trans (cE j)).trans (cE z)),((a3.trans (cE j)).trans (cE z)),c3⟩))))))))
  ·refine aI c48 rfl (cD (bA (bA ?_)))
   have c4:=hr _ (zI hm).symm
   subst c4
   have hm:(oW d c)=some R:=ho
   clear hr ho
   exact bR (aB ⟨aT,d,c,hm,J,g,a3,V⟩)
theorem aIg {a:(List bU)} {k:Int} {R:(Int × (List bU))} (hm:uF a k=some R) (hs:aM G K (bN 107 K a1 c2 a::L) w):
  Calls prog 38 ([zS a1 a.length c2,i64 k]:List Value).toArray w (eK fun v w'=>v=i64 R.1/\a.length=R.2.length/\aM G K (bN 107 K a1 c2 R.2::L) w'):=by
 refine aP func38 rfl (by kernel_rfl) (by show (2:Nat)<=37;decide) ?_;unfold uF at hm
 refine aJ (aD (v:=i64 0) (aF (aN (aJ (aD (v:=i64 0) (aF (bM [] (fun f w=>∃ m o,sX m o=some R/\f 1=i64 m/\a.length=o.length/\aM G K (bN 107 K a1 c2 o::L) w) ?_ ?_)))))))
 ·rintro f w7 ⟨m,o,hm,e6,b2,b3⟩
  unfold sX at hm
  refine aB (aJ (bF e6 (aD (v:=i64 m) (aF ?_))));obtain rfl:=zI hm
  exact aX (aO results38 rfl ⟨rfl,b2,b3⟩)
 obtain ⟨d1,b5,ho⟩:=aC hm
 refine jP [] b5 (fun c b d f w=>f 0=zS a1 c.length c2/\f 1=i64 b/\f 5=i64 d/\a.length=c.length/\aM G K (bN 107 K a1 c2 c::L) w) ?_ ?_
 ·exact ⟨rfl,rfl,rfl,rfl,hs⟩
 ·rintro c b d d2 f d3 hm hr ⟨g,q,j,y,z⟩
  unfold oJ at hm
  refine aN (aJ (bF j (bF g (aA (bO (len:=c.length) mB rfl) (aA (cF rfl rfl) (aF ?_))))))
  rcases aH hm with ⟨r,hm⟩|⟨r,hm⟩
  ·refine aL r rfl (aW (aB (aN (bX (aJ (bF g (bF j (bF q ?_))))))));obtain ⟨J,b6,hm⟩:=aC hm
   refine aQ (vs:=[i64 b]) call40 rfl (kH b6 z) ?_
   rintro _ d4 ⟨rfl,V⟩
   obtain ⟨O,u,hm⟩:=aC hm
   have e:=gC V (i:=0) rfl u
   refine aA (fT mB rfl e rfl rfl rfl u) (aA (jE (k':=d.toNat * 3+0) kM e rfl rfl) ?_);obtain ⟨a0,l,hm⟩:=aC hm
   refine oZ (i:=0) (t:=0) (ns:=[bE J]) (e':=(⟨J,O.Right,O.Result⟩:bU)) sizeOf9 V rfl (zR _) rfl rfl rfl u l rfl rfl (gJ rfl) rfl (fun cs h=>by cases h;rfl) (fun b7 (b8:aM G K (bN 107 K a1 c2 a0::L) b7)=>(aF (aJ (bF q (aA (cA rfl rfl) (aD (v:=i64 (wr (b+1))) (aF (aJ (bF (v:=zS a1 a0.length c2) (Eq.trans g (congrArg (fun n=>zS a1 n c2) (cE l))) (bF j (aG (v:=i64 (wr (b+1))) ?_)))))))))));obtain ⟨a2,b9,hm⟩:=aC hm
   refine aQ (vs:=[i64 (wr (b+1))]) call40 rfl (kH b9 b8) ?_
   rintro _ d5 ⟨rfl,c0⟩
   obtain ⟨a3,a5,hm⟩:=aC hm
   refine aA (fT mB rfl e rfl rfl rfl a5) (aA (jE (k':=d.toNat * 3+1) mC e rfl rfl) ?_);obtain ⟨a6,p,hm⟩:=aC hm
   refine oZ (i:=0) (t:=1) (ns:=[bE a2]) (e':=(⟨a3.Left,a2,a3.Result⟩:bU)) sizeOf9 c0 rfl (zR _) rfl rfl rfl a5 p rfl rfl (gJ rfl) rfl (fun cs h=>by cases h;rfl) (fun c1 (c3:aM G K (bN 107 K a1 c2 a6::L) c1)=>(aF (aJ (aG (v:=i64 (wr (b+1))) (aA (cA rfl rfl) (aD (v:=i64 (wr ((wr (b+1))+1))) (aF (aJ (bF (v:=zS a1 a6.length c2) (Eq.trans (Eq.trans g (congrArg (fun n=>zS a1 n c2) (cE l))) (congrArg (fun n=>zS a1 n c2) (cE p))) (bF j (aG (v:=i64 (wr ((wr (b+1))+1))) ?_)))))))))))
   obtain ⟨a7,c4,hm⟩:=aC hm
   refine aQ (vs:=[i64 (wr ((wr (b+1))+1))]) call40 rfl (kH c4 c3) ?_
   rintro _ d6 ⟨rfl,c5⟩
   obtain ⟨a8,a9,hm⟩:=aC hm
   refine aA (fT mB rfl e rfl rfl rfl a9) (aA (jE (k':=d.toNat * 3+2) rF e rfl rfl) ?_);obtain ⟨c6,x,hm⟩:=aC hm
   exact oZ (i:=0) (t:=2) (ns:=[bE a7]) (e':=(⟨a8.Left,a8.Right,a7⟩:bU)) sizeOf9 c5 rfl (zR _) rfl rfl rfl a9 x rfl rfl (gJ rfl) rfl (fun cs h=>by cases h;rfl) (fun c7 (c8:aM G K (bN 107 K a1 c2 c6::L) c7)=>(aF (aU (aG (v:=i64 (wr ((wr (b+1))+1))) (aA (cA rfl rfl) (aD (v:=i64 (wr ((wr ((wr (b+1))+1))+1))) (cW (bH (aB (aU (bF j (aA (cA rfl rfl) (aD (v:=i64 (wr (d+1))) (aF ⟨_,(zI hm).symm,aT,(Eq.trans (Eq.trans (Eq.trans g (congrArg (fun n=>zS a1 n c2) (cE l))) (congrArg (fun n=>zS a1 n c2) (cE p))) (congrArg (fun n=>zS a1 n c2) (cE x))),rfl,rfl,(((y.trans (cE l)).trans (cE p)).trans (cE x)),c8⟩))))))))))))))
  ·refine aI r rfl (cD (bA (bA ?_)))
   have c9:=hr _ (zI hm).symm
   subst c9
   have hm:(sX b c)=some R:=ho
   clear hr ho
   exact bR (aB ⟨aT,b,c,hm,q,y,z⟩)
theorem aEe {a:(List bJ)} {k:Int} {R:(Int × (List bJ))} (hm:sK a k=some R) (z:aM G K (bN 9 K a1 c2 a::L) w):
  Calls prog 39 ([zS a1 a.length c2,i64 k]:List Value).toArray w (eK fun v w'=>v=i64 R.1/\a.length=R.2.length/\aM G K (bN 9 K a1 c2 R.2::L) w'):=by
 refine aP func39 rfl (by kernel_rfl) (by show (2:Nat)<=20;decide) ?_;unfold sK at hm
 refine aJ (aD (v:=i64 0) (aF (aN (aJ (aD (v:=i64 0) (aF (bM [] (fun f w=>∃ d e,qA d e=some R/\f 1=i64 d/\a.length=e.length/\aM G K (bN 9 K a1 c2 e::L) w) ?_ ?_)))))))
 ·rintro f w7 ⟨d,e,hm,J,V,O⟩
  unfold qA at hm
  refine aB (aJ (bF J (aD (v:=i64 d) (aF ?_))));obtain rfl:=zI hm
  exact aX (aO results39 rfl ⟨rfl,V,O⟩)
 obtain ⟨b1,a2,ho⟩:=aC hm
 refine jP [] a2 (fun b c g f w=>f 0=zS a1 b.length c2/\f 1=i64 c/\f 5=i64 g/\a.length=b.length/\aM G K (bN 9 K a1 c2 b::L) w) ?_ ?_
 ·exact ⟨rfl,rfl,rfl,rfl,z⟩
 ·rintro b c g b2 f b3 hm hr ⟨j,l,m,r,u⟩
  unfold vE at hm
  refine aN (aJ (bF m (bF j (aA (bO (len:=b.length) hH rfl) (aA (cF rfl rfl) (aF ?_))))))
  rcases aH hm with ⟨o,hm⟩|⟨o,hm⟩
  ·refine aL o rfl (aW (aB (aN (bX (aJ (bF j (bF m (bF l ?_))))))));obtain ⟨x,a3,hm⟩:=aC hm
   refine aQ (vs:=[i64 c]) call40 rfl (kH a3 u) ?_
   rintro _ b4 ⟨rfl,y⟩
   obtain ⟨b5,p,hm⟩:=aC hm
   have a5:=gC y (i:=0) rfl p
   refine aA (fT hH rfl a5 rfl rfl rfl p) ?_;obtain ⟨a6,q,hm⟩:=aC hm
   exact oZ (i:=0) (t:=0) (ns:=[bE x]) (e':=(x:bJ)) sizeOf9 y rfl (zR _) rfl rfl rfl p q rfl rfl (gJ rfl) rfl (fun cs h=>by cases h;rfl) (fun a7 (a8:aM G K (bN 9 K a1 c2 a6::L) a7)=>(aF (aU (bF l (aA (cA rfl rfl) (aD (v:=i64 (wr (c+1))) (cW (bH (aB (aU (bF m (aA (cA rfl rfl) (aD (v:=i64 (wr (g+1))) (aF ⟨_,(zI hm).symm,aT,(Eq.trans j (congrArg (fun n=>zS a1 n c2) (cE q))),rfl,rfl,(r.trans (cE q)),a8⟩))))))))))))))
  ·refine aI o rfl (cD (bA (bA ?_)))
   have a9:=hr _ (zI hm).symm
   subst a9
   have hm:(qA c b)=some R:=ho
   clear hr ho
   exact bR (aB ⟨aT,c,b,hm,l,r,u⟩)
theorem aJr {m:(List Definition)} {b:List (Dp.Hd Definition)} {g:(List bT)} {d:List (Dp.Hd bT)} {l:(List bU)} {h e:(List bJ)} {k:Int} {R:(Int × (List Definition) × (List bT) × (List bU) × (List bJ) × (List bJ))} (hm:aAU m g l h e k=some R) (hs:aM G K (bN 104 K a1 c2 (bK b m)::rows [152,190,224] b m::bN 100 K a5 c6 (bK d g)::rows [2] d g::bN 107 K a9 c10 l::bN 9 K a11 c12 h::bN 9 K a13 c14 e::L) w) (b3:List.length b=List.length m) (b4:List.length d=List.length g):
  Calls prog 11 ([zA #[zS a1 m.length c2,zS a5 g.length c6,zS a9 l.length c10,zS a11 h.length c12,zS a13 e.length c14],i64 k]:List Value).toArray w (eK fun v w'=>v=i64 R.1/\m.length=R.2.1.length/\g.length=R.2.2.1.length/\l.length=R.2.2.2.1.length/\h.length=R.2.2.2.2.1.length/\e.length=R.2.2.2.2.2.length/\aM G K (bN 104 K a1 c2 (bK b R.2.1)::rows [152,190,224] b R.2.1::bN 100 K a5 c6 (bK d R.2.2.1)::rows [2] d R.2.2.1::bN 107 K a9 c10 R.2.2.2.1::bN 9 K a11 c12 R.2.2.2.2.1::bN 9 K a13 c14 R.2.2.2.2.2::L) w'):=by
 let x:=[zS a1 m.length c2,zS a5 g.length c6,zS a9 l.length c10,zS a11 h.length c12,zS a13 e.length c14]
 let o:=bN 9 K a13 c14 e
 let q:=bN 9 K a11 c12 h
 let r:=bN 107 K a9 c10 l
 let u:=bN 100 K a5 c6 (bK d g)
 refine aP func11 rfl (by kernel_rfl) (by show (2:Nat)<=26;decide) ?_;unfold aAU at hm
 refine aJ (dM (v:=zA #[zS a1 m.length c2,zS a5 g.length c6,zS a9 l.length c10,zS a11 h.length c12,zS a13 e.length c14]) (vs:=x) hs rfl rfl (fun n b5 y=>(aD (v:=i64 0) (aF (aJ (aA (bC (t':=0) zW rfl rfl) (aA (bQ aGR y (i:=0) rfl rfl rfl) (aG (v:=i64 k) ?_))))))))
 have b6:aM G K (bN 104 K a1 c2 (bK b m)::rows [152,190,224] b m::box n 37 x::u::rows [2] d g::r::q::o::L) b5:=(aM.arr 3 [1,2,0] y rfl)
 obtain ⟨a,b7,hm⟩:=aC hm
 refine aQ (vs:=[zS a1 m.length c2,i64 k]) call36 rfl (aGm b7 b6 b3) ?_
 rintro _ z ⟨rfl,J,b8⟩
 have V:aM G K (bN 104 K a1 c2 (bK b a.2)::rows [152,190,224] b a.2::box n 37 [zS a1 a.2.length c2,zS a5 g.length c6,zS a9 l.length c10,zS a11 h.length c12,zS a13 e.length c14]::u::rows [2] d g::r::q::o::L) z:=by rw [←J];exact b8
 refine aD (v:=i64 a.1) (aF (aJ (aA (bC (t':=1) uM rfl rfl) (aA (bQ aGs V (i:=2) rfl rfl rfl) (aG (v:=i64 a.1) ?_)))))
 have b9:aM G K (u::rows [2] d g::bN 104 K a1 c2 (bK b a.2)::rows [152,190,224] b a.2::box n 37 [zS a1 a.2.length c2,zS a5 g.length c6,zS a9 l.length c10,zS a11 h.length c12,zS a13 e.length c14]::r::q::o::L) z:=(aM.arr 5 [3,4,0,1,2] V rfl)
 obtain ⟨c,c0,hm⟩:=aC hm
 refine aQ (vs:=[zS a5 g.length c6,i64 a.1]) call37 rfl (aGF c0 b9 b4) ?_
 rintro _ O ⟨rfl,a0,c1⟩
 have a2:aM G K (bN 100 K a5 c6 (bK d c.2)::rows [2] d c.2::bN 104 K a1 c2 (bK b a.2)::rows [152,190,224] b a.2::box n 37 [zS a1 a.2.length c2,zS a5 c.2.length c6,zS a9 l.length c10,zS a11 h.length c12,zS a13 e.length c14]::r::q::o::L) O:=by rw [←a0];exact c1
 refine aD (v:=i64 c.1) (aF (aJ (aA (bC (t':=2) aCR rfl rfl) (aA (bQ aKF a2 (i:=4) rfl rfl rfl) (aG (v:=i64 c.1) ?_)))))
 have c3:aM G K (r::bN 100 K a5 c6 (bK d c.2)::rows [2] d c.2::bN 104 K a1 c2 (bK b a.2)::rows [152,190,224] b a.2::box n 37 [zS a1 a.2.length c2,zS a5 c.2.length c6,zS a9 l.length c10,zS a11 h.length c12,zS a13 e.length c14]::q::o::L) O:=(aM.arr 6 [5,0,1,2,3,4] a2 rfl)
 obtain ⟨j,c4,hm⟩:=aC hm
 refine aQ (vs:=[zS a9 l.length c10,i64 c.1]) call38 rfl (aIg c4 c3) ?_
 rintro _ a3 ⟨rfl,a4,c5⟩
 have a6:aM G K (bN 107 K a9 c10 j.2::bN 100 K a5 c6 (bK d c.2)::rows [2] d c.2::bN 104 K a1 c2 (bK b a.2)::rows [152,190,224] b a.2::box n 37 [zS a1 a.2.length c2,zS a5 c.2.length c6,zS a9 j.2.length c10,zS a11 h.length c12,zS a13 e.length c14]::q::o::L) a3:=by rw [←a4];exact c5
 refine aD (v:=i64 j.1) (aF (aJ (aA (bC (t':=3) aCS rfl rfl) (aA (bQ zV a6 (i:=5) rfl rfl rfl) (aG (v:=i64 j.1) ?_)))))
 have c7:aM G K (q::bN 107 K a9 c10 j.2::bN 100 K a5 c6 (bK d c.2)::rows [2] d c.2::bN 104 K a1 c2 (bK b a.2)::rows [152,190,224] b a.2::box n 37 [zS a1 a.2.length c2,zS a5 c.2.length c6,zS a9 j.2.length c10,zS a11 h.length c12,zS a13 e.length c14]::o::L) a3:=(aM.arr 7 [6,0,1,2,3,4,5] a6 rfl)
 obtain ⟨p,c8,hm⟩:=aC hm
 refine aQ (vs:=[zS a11 h.length c12,i64 j.1]) call39 rfl (aEe c8 c7) ?_
 rintro _ a7 ⟨rfl,a8,c9⟩
 have b0:aM G K (bN 9 K a11 c12 p.2::bN 107 K a9 c10 j.2::bN 100 K a5 c6 (bK d c.2)::rows [2] d c.2::bN 104 K a1 c2 (bK b a.2)::rows [152,190,224] b a.2::box n 37 [zS a1 a.2.length c2,zS a5 c.2.length c6,zS a9 j.2.length c10,zS a11 p.2.length c12,zS a13 e.length c14]::o::L) a7:=by rw [←a8];exact c9
 refine aD (v:=i64 p.1) (aF (aJ (aA (bC (t':=4) aEu rfl rfl) (aA (bQ zV b0 (i:=6) rfl rfl rfl) (aG (v:=i64 p.1) ?_)))))
 have d0:aM G K (o::bN 9 K a11 c12 p.2::bN 107 K a9 c10 j.2::bN 100 K a5 c6 (bK d c.2)::rows [2] d c.2::bN 104 K a1 c2 (bK b a.2)::rows [152,190,224] b a.2::box n 37 [zS a1 a.2.length c2,zS a5 c.2.length c6,zS a9 j.2.length c10,zS a11 p.2.length c12,zS a13 e.length c14]::L) a7:=(aM.arr 8 [7,0,1,2,3,4,5,6] b0 rfl)
 obtain ⟨t,d1,hm⟩:=aC hm
 refine aQ (vs:=[zS a13 e.length c14,i64 p.1]) call39 rfl (aEe d1 d0) ?_
 rintro _ d2 ⟨rfl,b1,d3⟩
 have d4:aM G K (bN 9 K a13 c14 t.2::bN 9 K a11 c12 p.2::bN 107 K a9 c10 j.2::bN 100 K a5 c6 (bK d c.2)::rows [2] d c.2::bN 104 K a1 c2 (bK b a.2)::rows [152,190,224] b a.2::box n 37 [zS a1 a.2.length c2,zS a5 c.2.length c6,zS a9 j.2.length c10,zS a11 p.2.length c12,zS a13 t.2.length c14]::L) d2:=by rw [←b1];exact d3
 refine aD (v:=i64 t.1) (aF (aJ (aG (v:=i64 t.1) (aD (v:=i64 t.1) (aF ?_)))));obtain rfl:=zI hm
 exact aX (aO results11 rfl ⟨rfl,J,a0,a4,a8,b1,(aM.arr 8 [5,6,3,4,2,1,0] d4 rfl)⟩)
theorem aJs {a:(List dI)} {k:Int} {R:(Int × (List dI))} (hm:aAV a k=some R) (hs:aM G K (bN 66 K a1 c2 a::L) w):
  Calls prog 12 ([zS a1 a.length c2,i64 k]:List Value).toArray w (eK fun v w'=>v=i64 R.1/\a.length=R.2.length/\aM G K (bN 66 K a1 c2 R.2::L) w'):=by
 refine aP func12 rfl (by kernel_rfl) (by show (2:Nat)<=42;decide) ?_;unfold aAV at hm
 refine aJ (aD (v:=i64 0) (aF (aN (aJ (aD (v:=i64 0) (aF (bM [] (fun f w=>∃ o p,xU o p=some R/\f 1=i64 o/\a.length=p.length/\aM G K (bN 66 K a1 c2 p::L) w) ?_ ?_)))))))
 ·rintro f w7 ⟨o,p,hm,e6,b3,b4⟩
  unfold xU at hm
  refine aB (aJ (bF e6 (aD (v:=i64 o) (aF ?_))));obtain rfl:=zI hm
  exact aX (aO results12 rfl ⟨rfl,b3,b4⟩)
 obtain ⟨d1,b6,ho⟩:=aC hm
 refine jP [] b6 (fun d b e f w=>f 0=zS a1 d.length c2/\f 1=i64 b/\f 5=i64 e/\a.length=d.length/\aM G K (bN 66 K a1 c2 d::L) w) ?_ ?_
 ·exact ⟨rfl,rfl,rfl,rfl,hs⟩
 ·rintro d b e d2 f d3 hm hr ⟨g,r,j,a2,u⟩
  unfold rS at hm
  refine aN (aJ (bF j (bF g (aA (bO (len:=d.length) mX rfl) (aA (cF rfl rfl) (aF ?_))))))
  rcases aH hm with ⟨x,hm⟩|⟨x,hm⟩
  ·refine aL x rfl (aW (aB (aN (bX (aJ (bF g (bF j (bF r ?_))))))));obtain ⟨y,z,hm⟩:=aC hm
   have c:=gC u (i:=0) rfl z
   refine aA (fT mX rfl c rfl rfl rfl z) (aA (jE (k':=e.toNat * 4+0) aLx c rfl rfl) ?_);obtain ⟨a3,l,hm⟩:=aC hm
   refine oZ (i:=0) (t:=0) (ns:=[i64 b]) (e':=(⟨b,y.First,y.Second,y.B⟩:dI)) sizeOf2 u rfl (zR _) rfl rfl rfl z l rfl rfl (gJ rfl) rfl (fun cs h=>by cases h;rfl) (fun b7 (b8:aM G K (bN 66 K a1 c2 a3::L) b7)=>(aF (aJ (bF r (aA (cA rfl rfl) (aD (v:=i64 (wr (b+1))) (aF (aJ (bF (v:=zS a1 a3.length c2) (Eq.trans g (congrArg (fun n=>zS a1 n c2) (cE l))) (bF j (aG (v:=i64 (wr (b+1))) ?_)))))))))));obtain ⟨J,a5,hm⟩:=aC hm
   refine aA (fT mX rfl c rfl rfl rfl a5) (aA (jE (k':=e.toNat * 4+1) aIU c rfl rfl) ?_);obtain ⟨a6,m,hm⟩:=aC hm
   refine oZ (i:=0) (t:=1) (ns:=[i64 (wr (b+1))]) (e':=(⟨J.Choice,wr (b+1),J.Second,J.B⟩:dI)) sizeOf2 b8 rfl (zR _) rfl rfl rfl a5 m rfl rfl (gJ rfl) rfl (fun cs h=>by cases h;rfl) (fun b9 (c0:aM G K (bN 66 K a1 c2 a6::L) b9)=>(aF (aJ (aG (v:=i64 (wr (b+1))) (aA (cA rfl rfl) (aD (v:=i64 (wr ((wr (b+1))+1))) (aF (aJ (bF (v:=zS a1 a6.length c2) (Eq.trans (Eq.trans g (congrArg (fun n=>zS a1 n c2) (cE l))) (congrArg (fun n=>zS a1 n c2) (cE m))) (bF j (aG (v:=i64 (wr ((wr (b+1))+1))) ?_)))))))))))
   obtain ⟨V,a7,hm⟩:=aC hm
   refine aA (fT mX rfl c rfl rfl rfl a7) (aA (jE (k':=e.toNat * 4+2) aLy c rfl rfl) ?_);obtain ⟨a8,q,hm⟩:=aC hm
   refine oZ (i:=0) (t:=2) (ns:=[i64 (wr ((wr (b+1))+1))]) (e':=(⟨V.Choice,V.First,wr ((wr (b+1))+1),V.B⟩:dI)) sizeOf2 c0 rfl (zR _) rfl rfl rfl a7 q rfl rfl (gJ rfl) rfl (fun cs h=>by cases h;rfl) (fun c1 (c3:aM G K (bN 66 K a1 c2 a8::L) c1)=>(aF (aJ (aG (v:=i64 (wr ((wr (b+1))+1))) (aA (cA rfl rfl) (aD (v:=i64 (wr ((wr ((wr (b+1))+1))+1))) (aF (aJ (bF (v:=zS a1 a8.length c2) (Eq.trans (Eq.trans (Eq.trans g (congrArg (fun n=>zS a1 n c2) (cE l))) (congrArg (fun n=>zS a1 n c2) (cE m))) (congrArg (fun n=>zS a1 n c2) (cE q))) (bF j (aG (v:=i64 (wr ((wr ((wr (b+1))+1))+1))) ?_)))))))))))
   obtain ⟨a9,c4,hm⟩:=aC hm
   refine aQ (vs:=[i64 (wr ((wr ((wr (b+1))+1))+1))]) call40 rfl (kH c4 c3) ?_
   rintro _ d4 ⟨rfl,c5⟩
   obtain ⟨O,b0,hm⟩:=aC hm
   refine aA (fT mX rfl c rfl rfl rfl b0) (aA (jE (k':=e.toNat * 4+3) aLz c rfl rfl) ?_);obtain ⟨c6,a0,hm⟩:=aC hm
   exact oZ (i:=0) (t:=3) (ns:=[bE a9]) (e':=(⟨O.Choice,O.First,O.Second,a9⟩:dI)) sizeOf9 c5 rfl (zR _) rfl rfl rfl b0 a0 rfl rfl (gJ rfl) rfl (fun cs h=>by cases h;rfl) (fun c7 (c8:aM G K (bN 66 K a1 c2 c6::L) c7)=>(aF (aU (aG (v:=i64 (wr ((wr ((wr (b+1))+1))+1))) (aA (cA rfl rfl) (aD (v:=i64 (wr ((wr ((wr ((wr (b+1))+1))+1))+1))) (cW (bH (aB (aU (bF j (aA (cA rfl rfl) (aD (v:=i64 (wr (e+1))) (aF ⟨_,(zI hm).symm,aT,(Eq.trans (Eq.trans (Eq.trans (Eq.trans g (congrArg (fun n=>zS a1 n c2) (cE l))) (congrArg (fun n=>zS a1 n c2) (cE m))) (congrArg (fun n=>zS a1 n c2) (cE q))) (congrArg (fun n=>zS a1 n c2) (cE a0))),rfl,rfl,((((a2.trans (cE l)).trans (cE m)).trans (cE q)).trans (cE a0)),c8⟩))))))))))))))
  ·refine aI x rfl (cD (bA (bA ?_)))
   have c9:=hr _ (zI hm).symm
   subst c9
   have hm:(xU b d)=some R:=ho
   clear hr ho
   exact bR (aB ⟨aT,b,d,hm,r,a2,u⟩)
theorem aJt {a:(List aZ)} {b:List (Dp.Hd aZ)} {k:Int} {R:(Int × (List aZ))} (hm:aAW a k=some R) (hs:aM G K (bN 70 K a1 c2 (bK b a)::rows [2] b a::L) w) (b4:List.length b=List.length a):
  Calls prog 13 ([zS a1 a.length c2,i64 k]:List Value).toArray w (eK fun v w'=>v=i64 R.1/\a.length=R.2.length/\aM G K (bN 70 K a1 c2 (bK b R.2)::rows [2] b R.2::L) w'):=by
 refine aP func13 rfl (by kernel_rfl) (by show (2:Nat)<=34;decide) ?_;unfold aAW at hm
 refine aJ (aD (v:=i64 0) (aF (aN (aJ (aD (v:=i64 0) (aF (bM [] (fun f w=>∃ x m,xV x m=some R/\f 1=i64 x/\List.length b=List.length m/\a.length=m.length/\aM G K (bN 70 K a1 c2 (bK b m)::rows [2] b m::L) w) ?_ ?_)))))))
 ·rintro f d1 ⟨x,m,hm,e9,d2,b6,b7⟩
  unfold xV at hm
  refine aB (aJ (bF e9 (aD (v:=i64 x) (aF ?_))));obtain rfl:=zI hm
  exact aX (aO results13 rfl ⟨rfl,b6,b7⟩)
 obtain ⟨d3,b9,ho⟩:=aC hm
 refine jP [] b9 (fun e c d f w=>f 0=zS a1 e.length c2/\f 1=i64 c/\f 5=i64 d/\List.length b=List.length e/\a.length=e.length/\aM G K (bN 70 K a1 c2 (bK b e)::rows [2] b e::L) w) ?_ ?_
 ·exact ⟨rfl,rfl,rfl,b4,rfl,hs⟩
 ·rintro e c d d4 f d5 hm hr ⟨q,V,r,h,a5,O⟩
  unfold rT at hm
  refine aN (aJ (bF r (bF q (aA (bO (len:=e.length) gP rfl) (aA (cF rfl rfl) (aF ?_))))))
  rcases aH hm with ⟨c48,hm⟩|⟨c48,hm⟩
  ·refine aL c48 rfl (aW (aB (aN (bX (aJ (bF q (bF r (bF V ?_))))))));obtain ⟨a7,y,hm⟩:=aC hm
   obtain ⟨⟨a0,a2⟩,o⟩:=aCJ h y
   have p:=gC O (i:=0) rfl (kK h y o)
   refine aA (fT gP rfl p rfl rfl rfl y) (aA (jE (k':=d.toNat * 3+0) aBx p rfl rfl) ?_);obtain ⟨a3,g,hm⟩:=aC hm
   refine aGQ (i:=0) (t:=0) (ns:=[i64 c]) (e':=(⟨c,a7.Part,a7.Values⟩:aZ)) sizeOf2 O h rfl rfl rfl rfl rfl y o g rfl rfl (gJ rfl) rfl rfl rfl (fun c0 (c1:aM G K (bN 70 K a1 c2 (bK b a3)::rows [2] b a3::L) c0)=>(aF (aJ (bF V (aA (cA rfl rfl) (aD (v:=i64 (wr (c+1))) (aF (aJ (bF (v:=zS a1 a3.length c2) (Eq.trans q (congrArg (fun n=>zS a1 n c2) (cE g))) (bF r (aG (v:=i64 (wr (c+1))) ?_)))))))))));obtain ⟨a8,a9,hm⟩:=aC hm
   refine aA (fT gP rfl p rfl rfl rfl a9) (aA (jE (k':=d.toNat * 3+1) aBy p rfl rfl) ?_);obtain ⟨j,l,hm⟩:=aC hm
   refine aGQ (i:=0) (t:=1) (ns:=[i64 (wr (c+1))]) (e':=(⟨a8.Definition,wr (c+1),a8.Values⟩:aZ)) sizeOf2 c1 (h.trans (cE g)) rfl rfl rfl rfl rfl a9 o l rfl rfl (gJ rfl) rfl rfl rfl (fun a4 (b0:aM G K (bN 70 K a1 c2 (bK b j)::rows [2] b j::L) a4)=>(aF (aJ (aG (v:=i64 (wr (c+1))) (aA (cA rfl rfl) (aD (v:=i64 (wr ((wr (c+1))+1))) (aF (aU (bF (v:=zS a1 j.length c2) (Eq.trans (Eq.trans q (congrArg (fun n=>zS a1 n c2) (cE g))) (congrArg (fun n=>zS a1 n c2) (cE l))) (bF r ?_))))))))))
   obtain ⟨u,z,hm⟩:=aC hm
   refine aA (fT gP rfl p rfl rfl rfl z) (aA (jE (k':=d.toNat * 3+2) xD p rfl rfl) (aA (aKD (t:=2) vL b0 (i:=0) rfl (kK ((h.trans (cE g)).trans (cE l)) z o) rfl rfl rfl) (aG (v:=i64 (wr ((wr (c+1))+1))) ?_)))
   have c3:aM G K (bN 70 K a1 c2 (bK b j)::rows [2] ((b).eraseIdx d.toNat) ((j).eraseIdx d.toNat)::bN 2 K a0 a2 u.Values::L) a4:=aM.arr 3 [2,1,0] (aM.rowOut (i:=1) b0 rfl o (aLR z)) rfl
   have c4:aM G K (bN 2 K a0 a2 u.Values::bN 70 K a1 c2 (bK b j)::rows [2] ((b).eraseIdx d.toNat) ((j).eraseIdx d.toNat)::L) a4:=(aM.arr 3 [2,0,1] c3 rfl)
   obtain ⟨b1,c5,hm⟩:=aC hm
   refine aQ (vs:=[zS a0 u.Values.length a2,i64 (wr ((wr (c+1))+1))]) call41 rfl (aEH c5 c4) ?_
   rintro _ c6 ⟨rfl,c7,c8⟩
   obtain ⟨b2,J,hm⟩:=aC hm
   have c9:aM G K (bN 70 K a1 c2 (bK b b2)::rows [2] b b2::L) c6:=aM.unfocusS (tys:=[2]) (x':=(⟨u.Definition,u.Part,b1.2⟩:aZ)) (aM.arr 3 [0,2,1] c8 rfl) ((h.trans (cE g)).trans (cE l)) o z (aOx c7) J
   exact aD (v:=i64 b1.1) (cW (bH (aB (aU (bF r (aA (cA rfl rfl) (aD (v:=i64 (wr (d+1))) (aF ⟨_,(zI hm).symm,aT,(Eq.trans (Eq.trans (Eq.trans q (congrArg (fun n=>zS a1 n c2) (cE g))) (congrArg (fun n=>zS a1 n c2) (cE l))) (congrArg (fun n=>zS a1 n c2) (cE J))),rfl,rfl,(((h.trans (cE g)).trans (cE l)).trans (cE J)),(((a5.trans (cE g)).trans (cE l)).trans (cE J)),c9⟩))))))))
  ·refine aI c48 rfl (cD (bA (bA ?_)))
   have d0:=hr _ (zI hm).symm
   subst d0
   have hm:(xV c e)=some R:=ho
   clear hr ho
   exact bR (aB ⟨aT,c,e,hm,V,h,a5,O⟩)
theorem aEI {a:(List dI)} {k R:Int} (hm:vF a k=some R) (u:aM G K (L) w) (h:bY K a1 c2 a):
  Calls prog 14 ([zS a1 a.length c2,i64 k]:List Value).toArray w (eK fun v w'=>v=i64 R/\aM G K (L) w'):=by
 refine aP func14 rfl (by kernel_rfl) (by show (2:Nat)<=50;decide) ?_;unfold vF at hm
 refine aJ (aD (v:=i64 0) (aF (aN (aJ (aD (v:=i64 0) (aF (bM [] (fun f w=>∃ j,xW j=some R/\f 1=i64 j/\aM G K (L) w) ?_ ?_)))))))
 ·rintro f w6 ⟨j,hm,x,y⟩
  unfold xW at hm
  refine aB (aJ (bF x (aD (v:=i64 j) (aF ?_))));obtain rfl:=zI hm
  exact aX (aO results14 rfl ⟨rfl,y⟩)
 obtain ⟨b2,J,ho⟩:=aC hm
 refine dD [0] J (fun c e f w=>f 1=i64 c/\f 5=i64 e/\aM G K (L) w) ?_ ?_
 ·exact ⟨rfl,rfl,u⟩
 ·rintro c e b3 f b4 hm hr ⟨l,g,b⟩
  unfold rU at hm
  refine aN (aJ (bF g (aG (v:=zS a1 a.length c2) (aA (bO (len:=a.length) mX rfl) (aA (cF rfl rfl) (aF ?_))))))
  rcases aH hm with ⟨m,hm⟩|⟨m,hm⟩
  ·refine aL m rfl (aW (aB (aN (bX (aN (aJ (aG (v:=zS a1 a.length c2) (bF g ?_))))))));obtain ⟨b5,i,hm⟩:=aC hm
   refine aA (cG mX rfl h rfl rfl rfl i) ?_;obtain ⟨b6,d,V⟩:=bY.el (sz:=4) rfl h i
   cases V
   refine aA (cH (k':=e.toNat * 4+0) aLx rfl d rfl) (aA (cC (t:=0) dC b d rfl rfl) (bF l (aA (fV rfl rfl) (aF ?_))))
   rcases aH hm with ⟨n,hm⟩|⟨n,hm⟩
   ·refine aL n rfl (aJ (aD (v:=i64 (-1)) (aF (aX (aK (aY (aK (aK ?_))))))))
    have O:=hr _ (zI hm).symm
    subst O
    have hm:(some (-1))=some R:=ho
    clear hr ho
    obtain rfl:=zI hm
    exact aY (aK (aK (aO results14 rfl ⟨rfl,b⟩)))
   ·refine aI n rfl (aW (aB (aJ (bF l (aA (cA rfl rfl) (aD (v:=i64 (wr (c+1))) (aF (aN (aJ (aG (v:=zS a1 a.length c2) (bF g (aA (cG mX rfl h rfl rfl rfl i) (aA (cH (k':=e.toNat * 4+1) aIU rfl d rfl) (aA (cC (t:=1) dC b d rfl rfl) (aG (v:=i64 (wr (c+1))) (aA (fV rfl rfl) (aF ?_)))))))))))))))))
    rcases aH hm with ⟨o,hm⟩|⟨o,hm⟩
    ·refine aL o rfl (aJ (aD (v:=i64 (-1)) (aF (aX (aK (aY (aK (aK ?_))))))))
     have a2:=hr _ (zI hm).symm
     subst a2
     have hm:(some (-1))=some R:=ho
     clear hr ho
     obtain rfl:=zI hm
     exact aY (aK (aK (aO results14 rfl ⟨rfl,b⟩)))
    ·refine aI o rfl (aW (aB (aJ (aG (v:=i64 (wr (c+1))) (aA (cA rfl rfl) (aD (v:=i64 (wr ((wr (c+1))+1))) (aF (aN (aJ (aG (v:=zS a1 a.length c2) (bF g (aA (cG mX rfl h rfl rfl rfl i) (aA (cH (k':=e.toNat * 4+2) aLy rfl d rfl) (aA (cC (t:=2) dC b d rfl rfl) (aG (v:=i64 (wr ((wr (c+1))+1))) (aA (fV rfl rfl) (aF ?_)))))))))))))))))
     rcases aH hm with ⟨p,hm⟩|⟨p,hm⟩
     ·refine aL p rfl (aJ (aD (v:=i64 (-1)) (aF (aX (aK (aY (aK (aK ?_))))))))
      have a4:=hr _ (zI hm).symm
      subst a4
      have hm:(some (-1))=some R:=ho
      clear hr ho
      obtain rfl:=zI hm
      exact aY (aK (aK (aO results14 rfl ⟨rfl,b⟩)))
     ·refine aI p rfl (aW (aB (aJ (aG (v:=i64 (wr ((wr (c+1))+1))) (aA (cA rfl rfl) (aD (v:=i64 (wr ((wr ((wr (c+1))+1))+1))) (aF (aN (aN (dU (C:=fun w'=>aM G K (L) w') cI (by kernel_rfl) (aM.mono b (eH.drew _)) (bG (fun _ b=>bP (v:=zS a1 a.length c2) rfl) (bG (fun _ b=>bP g) (bG (fun _ b=>cG mX rfl h rfl rfl rfl i) (bG (fun _ b=>cH (k':=e.toNat * 4+3) aLz rfl d rfl) (bG (fun _ b=>cC (t:=3) fA b d rfl rfl) (bG (fun _ b=>bP (v:=i64 (wr ((wr ((wr (c+1))+1))+1))) rfl) ?_))))))))))))))))
      obtain ⟨a6,a7,hm⟩:=aC hm
      refine eU (vs:=[i64 (wr ((wr ((wr (c+1))+1))+1))]) (v:=bE a6) call40 rfl (fun _ b=>(kH a7 b)) (bG (fun _ b=>vO rfl rfl) (eT (fun b7 r=>(aB ?_))))
      rcases aH hm with ⟨q,hm⟩|⟨q,hm⟩
      ·refine aL q rfl (aJ (aD (v:=i64 (-1)) (aF (aX (aK (aY (aK (aK ?_))))))))
       have a8:=hr _ (zI hm).symm
       subst a8
       have hm:(some (-1))=some R:=ho
       clear hr ho
       obtain rfl:=zI hm
       exact aY (aK (aK (aO results14 rfl ⟨rfl,r⟩)))
      ·exact aI q rfl (aW (aB (aU (aG (v:=i64 (wr ((wr ((wr (c+1))+1))+1))) (aA (cA rfl rfl) (aD (v:=i64 (wr ((wr ((wr ((wr (c+1))+1))+1))+1))) (cW (bH (aB (aU (bF g (aA (cA rfl rfl) (aD (v:=i64 (wr (e+1))) (aF ⟨_,(zI hm).symm,aT,rfl,rfl,r⟩))))))))))))))
  ·refine aI m rfl (cD (bA (bA ?_)))
   have b0:=hr _ (zI hm).symm
   subst b0
   have hm:(xW c)=some R:=ho
   clear hr ho
   exact bR (aB ⟨aT,c,hm,l,b⟩)
theorem aJu {a:(List Int)} {k R:Int} (hm:aAX a k=some R) (n:aM G K (L) w) (l:bY K a1 c2 a):
  Calls prog 42 ([zS a1 a.length c2,i64 k]:List Value).toArray w (eK fun v w'=>v=i64 R/\aM G K (L) w'):=by
 refine aP func42 rfl (by kernel_rfl) (by show (2:Nat)<=21;decide) ?_;unfold aAX at hm
 refine aJ (aD (v:=i64 0) (aF (aN (aJ (aD (v:=i64 0) (aF (bM [] (fun f w=>∃ c,xX c=some R/\f 1=i64 c/\aM G K (L) w) ?_ ?_)))))))
 ·rintro f V ⟨c,hm,o,p⟩
  unfold xX at hm
  refine aB (aJ (bF o (aD (v:=i64 c) (aF ?_))));obtain rfl:=zI hm
  exact aX (aO results42 rfl ⟨rfl,p⟩)
 obtain ⟨O,r,ho⟩:=aC hm
 refine dD [0] r (fun b e f w=>f 1=i64 b/\f 5=i64 e/\aM G K (L) w) ?_ ?_
 ·exact ⟨rfl,rfl,n⟩
 ·rintro b e a0 f a2 hm hr ⟨g,h,d⟩
  unfold rV at hm
  refine aN (aJ (bF h (aG (v:=zS a1 a.length c2) (aA (bO (len:=a.length) fN rfl) (aA (cF rfl rfl) (aF ?_))))))
  rcases aH hm with ⟨i,hm⟩|⟨i,hm⟩
  ·refine aL i rfl (aW (aB (aN (bX (aN (aJ (aG (v:=zS a1 a.length c2) (bF h ?_))))))));obtain ⟨a3,m,hm⟩:=aC hm
   refine aA (cG fN rfl l rfl rfl rfl m) ?_;obtain ⟨a4,u,x⟩:=bY.el (sz:=1) rfl l m
   cases x
   refine aA (cC (t:=0) dC d u rfl rfl) (bF g (aA (fV rfl rfl) (aF ?_)))
   rcases aH hm with ⟨j,hm⟩|⟨j,hm⟩
   ·refine aL j rfl (aJ (aD (v:=i64 (-1)) (aF (aX (aK (aY (aK (aK ?_))))))))
    have y:=hr _ (zI hm).symm
    subst y
    have hm:(some (-1))=some R:=ho
    clear hr ho
    obtain rfl:=zI hm
    exact aY (aK (aK (aO results42 rfl ⟨rfl,d⟩)))
   ·exact aI j rfl (aW (aB (aU (bF g (aA (cA rfl rfl) (aD (v:=i64 (wr (b+1))) (cW (bH (aB (aU (bF h (aA (cA rfl rfl) (aD (v:=i64 (wr (e+1))) (aF ⟨_,(zI hm).symm,aT,rfl,rfl,d⟩))))))))))))))
  ·refine aI i rfl (cD (bA (bA ?_)))
   have J:=hr _ (zI hm).symm
   subst J
   have hm:(xX b)=some R:=ho
   clear hr ho
   exact bR (aB ⟨aT,b,hm,g,d⟩)
theorem aEJ {a:(List aZ)} {k R:Int} (hm:vG a k=some R) (u:aM G K (L) w) (h:bY K a1 c2 a):
  Calls prog 15 ([zS a1 a.length c2,i64 k]:List Value).toArray w (eK fun v w'=>v=i64 R/\aM G K (L) w'):=by
 refine aP func15 rfl (by kernel_rfl) (by show (2:Nat)<=40;decide) ?_;unfold vG at hm
 refine aJ (aD (v:=i64 0) (aF (aN (aJ (aD (v:=i64 0) (aF (bM [] (fun f w=>∃ i,xY i=some R/\f 1=i64 i/\aM G K (L) w) ?_ ?_)))))))
 ·rintro f w6 ⟨i,hm,x,y⟩
  unfold xY at hm
  refine aB (aJ (bF x (aD (v:=i64 i) (aF ?_))));obtain rfl:=zI hm
  exact aX (aO results15 rfl ⟨rfl,y⟩)
 obtain ⟨b3,J,ho⟩:=aC hm
 refine dD [0] J (fun b d f w=>f 1=i64 b/\f 5=i64 d/\aM G K (L) w) ?_ ?_
 ·exact ⟨rfl,rfl,u⟩
 ·rintro b d b4 f b5 hm hr ⟨l,g,c⟩
  unfold rW at hm
  refine aN (aJ (bF g (aG (v:=zS a1 a.length c2) (aA (bO (len:=a.length) gP rfl) (aA (cF rfl rfl) (aF ?_))))))
  rcases aH hm with ⟨m,hm⟩|⟨m,hm⟩
  ·refine aL m rfl (aW (aB (aN (bX (aN (aJ (aG (v:=zS a1 a.length c2) (bF g ?_))))))));obtain ⟨V,j,hm⟩:=aC hm
   refine aA (cG gP rfl h rfl rfl rfl j) ?_;obtain ⟨b6,e,O⟩:=bY.el (sz:=3) rfl h j
   obtain ⟨a0,a2,rfl,a3⟩:=O
   refine aA (cH (k':=d.toNat * 3+0) aBx rfl e rfl) (aA (cC (t:=0) dC c e rfl rfl) (bF l (aA (fV rfl rfl) (aF ?_))))
   rcases aH hm with ⟨n,hm⟩|⟨n,hm⟩
   ·refine aL n rfl (aJ (aD (v:=i64 (-1)) (aF (aX (aK (aY (aK (aK ?_))))))))
    have a4:=hr _ (zI hm).symm
    subst a4
    have hm:(some (-1))=some R:=ho
    clear hr ho
    obtain rfl:=zI hm
    exact aY (aK (aK (aO results15 rfl ⟨rfl,c⟩)))
   ·refine aI n rfl (aW (aB (aJ (bF l (aA (cA rfl rfl) (aD (v:=i64 (wr (b+1))) (aF (aN (aJ (aG (v:=zS a1 a.length c2) (bF g (aA (cG gP rfl h rfl rfl rfl j) (aA (cH (k':=d.toNat * 3+1) aBy rfl e rfl) (aA (cC (t:=1) dC c e rfl rfl) (aG (v:=i64 (wr (b+1))) (aA (fV rfl rfl) (aF ?_)))))))))))))))))
    rcases aH hm with ⟨o,hm⟩|⟨o,hm⟩
    ·refine aL o rfl (aJ (aD (v:=i64 (-1)) (aF (aX (aK (aY (aK (aK ?_))))))))
     have a6:=hr _ (zI hm).symm
     subst a6
     have hm:(some (-1))=some R:=ho
     clear hr ho
     obtain rfl:=zI hm
     exact aY (aK (aK (aO results15 rfl ⟨rfl,c⟩)))
    ·refine aI o rfl (aW (aB (aJ (aG (v:=i64 (wr (b+1))) (aA (cA rfl rfl) (aD (v:=i64 (wr ((wr (b+1))+1))) (aF (aJ (aG (v:=zS a1 a.length c2) (bF g (aA (cG gP rfl h rfl rfl rfl j) (aA (cH (k':=d.toNat * 3+2) xD rfl e rfl) (aA (cC (t:=2) vL c e rfl rfl) (aG (v:=i64 (wr ((wr (b+1))+1))) ?_))))))))))))));obtain ⟨q,a8,hm⟩:=aC hm
     refine aQ (vs:=[zS a0 V.Values.length a2,i64 (wr ((wr (b+1))+1))]) call42 rfl (aJu a8 c a3) ?_
     rintro _ b7 ⟨rfl,r⟩
     refine aD (v:=i64 q) (aF (aJ (aG (v:=i64 q) (aA (cF rfl rfl) (aF ?_)))))
     rcases aH hm with ⟨p,hm⟩|⟨p,hm⟩
     ·refine aL p rfl (aJ (aD (v:=i64 (-1)) (aF (aX (aY (aK (aK ?_)))))))
      have a9:=hr _ (zI hm).symm
      subst a9
      have hm:(some (-1))=some R:=ho
      clear hr ho
      obtain rfl:=zI hm
      exact aY (aK (aK (aO results15 rfl ⟨rfl,r⟩)))
     ·exact aI p rfl (aW (bH (aB (aU (bF g (aA (cA rfl rfl) (aD (v:=i64 (wr (d+1))) (aF ⟨_,(zI hm).symm,aT,rfl,rfl,r⟩))))))))
  ·refine aI m rfl (cD (bA (bA ?_)))
   have b1:=hr _ (zI hm).symm
   subst b1
   have hm:(xY b)=some R:=ho
   clear hr ho
   exact bR (aB ⟨aT,b,hm,l,c⟩)
end Gv
