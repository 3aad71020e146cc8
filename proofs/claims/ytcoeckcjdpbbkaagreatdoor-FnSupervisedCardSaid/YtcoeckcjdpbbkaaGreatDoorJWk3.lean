/- Walks, printed by program. -/
import Derived.Test.YtcoeckcjdpbbkaaGreatDoorJWk1
set_option linter.all false
namespace Gv
open Go.Value renaming slice→zS,bool→zB,pointer→zP
open Option.some renaming inj→zI
open Gv.Hp renaming le_trans→zL,le_refl→zR
open Go Go.Proofs Go.Proofs.Tryz
set_option maxRecDepth 20000
set_option maxHeartbeats 40000000
variable {G:Env} {K Kf:Hp} {L:List gV} {w:World} {a1 a4 a7 a10 a13 a16 a19 a22 a2:Option Addr} {c2 c5 c8 c11 c14 c20 c23 b1 c3:Nat}
theorem aMH {a b:(List Int)} {R:Bool} (hm:aGg a b=some R) (g:aD G K (L) w) (h:aN K a1 c2 a) (i:aN K a4 c5 b):
  Calls prog 137 ([zS a1 a.length c2,zS a4 b.length c5]:List Value).toArray w (dS fun v w'=>v=zB R/\aD G K (L) w'):=by
 refine cH func137 ?_;unfold aGg at hm
 refine aC ?_
 rcases aI hm with ⟨c,hm⟩|⟨c,hm⟩
 ·exact aJ
 ·refine aC ?_;refine aK [] (fun f w=>aJR=some R/\aD G K (L) w) aJ ?_
  obtain ⟨j,d,ho⟩:=aB hm
  exact bY [0,1] d (fun e f w=>f 5=i64 e/\aD G K (L) w) aJ aJ
theorem aAk {rows:(List (List Int))} {a:(List Int)} {R:Int} (hm:aBA rows a=some R) (d:aD G K (L) w) (e:aN K a1 c2 rows) (g:aN K a4 c5 a):
  Calls prog 95 ([zS a1 rows.length c2,zS a4 a.length c5]:List Value).toArray w (dS fun v w'=>v=i64 R/\aD G K (L) w'):=by
 refine cH func95 ?_;unfold aBA at hm
 refine aC ?_;refine aK [] (fun f w=>aLc=some R/\aD G K (L) w) aJ ?_
 obtain ⟨h,b,ho⟩:=aB hm
 exact bY [0,1] b (fun c f w=>f 5=i64 c/\aD G K (L) w) aJ aJ
theorem aHl {p:aO} {b:Nat} {d:aP} {c:Nat} {R:((List (List Int)) × (List Edge) × Bool)} (hm:aEw p d=some R) (hs:aD G K (L) w) (h3:bZ K a1 b (zE p a4 c5 a7 c8 a10 c11 a13 c14)) (h6:aN K a4 c5 p.S.L) (h9:aN K a7 c8 p.S.E) (u5:aN K a10 c11 p.M) (u6:aN K a13 c14 p.C) (e9:bZ K a16 c (zC d a19 c20 a22 c23)) (m1:aN K a19 c20 d.L) (m2:aN K a22 c23 d.E):
  Calls prog 44 ([bR a1 b,bR a16 c]:List Value).toArray w (dS fun v w'=>∃ K' j0 j1 j2 j3 j4,v=zP (some ⟨j4,0,none⟩)/\Hp.le K K'/\aD G K' (aF 28 K' j0 j1 R.1::aF 90 K j2 j3 R.2.1::box j4 99 [bR a1 b,bR a16 c,zS j0 R.1.length j1,zS j2 R.2.1.length j3,zB R.2.2]::L) w'):=by
 refine nT func44 rfl (by kernel_rfl) (by show (2:Nat)<=149;decide) ?_;unfold aEw at hm
 refine bS (bH (v:=zP none) (bF (bI (aCm (C:=fun w'=>∃ L',aD G K L' w') [(0,0),(1,0),(2,0),(3,0),(4,0),(5,0),(6,0),(7,0),(8,0),(9,0),(10,0),(11,1),(12,1),(13,0),(14,1),(15,0)] Tryz_mixed (by kernel_rfl) (fun _ hg=>⟨_,aD.mono hs hg⟩) (fun u7 m3=>?_)))))
 have d8:=aD.mono hs m3
 refine bN rfl (fun _ _=>cC (v:=bR a1 b) rfl) (bN rfl (fun _ _=>cC (v:=bR a16 c) rfl) (bN rfl (fun _ _=>cC (v:=bR a1 b) rfl) (bN rfl (fun _ _=>aGy rfl h3) (bN rfl (fun _ _=>aDf (k':=b+0) aCA rfl h3 rfl) (bN rfl (fun _ _=>aDf (k':=b+1) aFd rfl h3 rfl) (bN rfl (fun _ ⟨_,d8⟩=>dQ (t:=1) oG d8 h3 rfl rfl) (bN rfl (fun _ _=>cC (v:=bR a16 c) rfl) (bN rfl (fun _ _=>aGy rfl e9) (bN rfl (fun _ _=>aDf (k':=c+1) aFd rfl e9 rfl) (bN rfl (fun _ ⟨_,d8⟩=>dQ (t:=1) oG d8 e9 rfl rfl) (fF rfl (iG (Kt:=K) (xs:=([p.S.I,d.I]:List Int)) (cs:=[i64 p.S.I,i64 d.I]) (vs:=[(0,i64 p.S.I),(1,i64 d.I)]) eN aHr rfl rfl d8 rfl (by kernel_rfl) rfl rfl rfl ⟨rfl,rfl,trivial⟩ (fun f0 j5 (j6:aD G K (aF 2 K f0 2 ([p.S.I,d.I]:List Int)::L) j5)=>(aM (aG ⟨⟨_,j6⟩,?_⟩)))))))))))))))
 refine fF rfl ?_;obtain ⟨c1,j,m4,g7⟩:=aD.giveSp j6 (zR _) .head
 replace g7:aD G c1 (L) j5:=g7
 refine iG (Kt:=c1) (xs:=([([p.S.I,d.I]:List Int)]:List (List Int))) (cs:=[zS f0 ([p.S.I,d.I]:List Int).length 2]) (vs:=[(0,zS f0 ([p.S.I,d.I]:List Int).length 2)]) jO aDu rfl rfl g7 rfl (by kernel_rfl) rfl rfl rfl ⟨⟨f0,2,rfl,m4⟩,trivial⟩ (fun d9 m5 (j7:aD G c1 (aF 28 c1 d9 1 ([([p.S.I,d.I]:List Int)]:List (List Int))::L) m5)=>(aM (aG ⟨⟨_,(aD.weakK j7 j)⟩,?_⟩)))
 refine bN rfl (fun _ _=>jZ (vs:=[(0,bR a1 b),(1,bR a16 c),(2,zS d9 ([([p.S.I,d.I]:List Int)]:List (List Int)).length 1)]) (cs:=[bR a1 b,bR a16 c,zS d9 ([([p.S.I,d.I]:List Int)]:List (List Int)).length 1,zS none 0 0,zB false]) bs_99 rfl (by kernel_rfl)) (fF rfl (aEd (v:=Value.agg #[bR a1 b,bR a16 c,zS d9 ([([p.S.I,d.I]:List Int)]:List (List Int)).length 1,zS none 0 0,zB false]) (vs:=[bR a1 b,bR a16 c,zS d9 ([([p.S.I,d.I]:List Int)]:List (List Int)).length 1,zS none 0 0,zB false]) j7 rfl rfl (fun e u8 j8=>(aM (aG ⟨⟨_,(aD.weakK j8 j)⟩,?_⟩)))))
 refine bN rfl (fun _ _=>sW (v:=zP (some ⟨e,0,none⟩)) rfl) (jE (aG (bI (bS (bH (v:=i64 0) (bF (aK [5] (fun f w=>∃ b5 b6 b7 c2 c3 c4 c6,Hp.le c1 b5/\zY b6 b7=some R/\aD G b5 (aF 90 K c4 c6 b7::aF 28 b5 c2 c3 b6::box e 99 [bR a1 b,bR a16 c,zS c2 b6.length c3,zS c4 b7.length c6,zB false]::L) w) ?_ ?_)))))))
 ·rintro f u9 ⟨b5,b6,b7,c2,c3,c4,c6,m6,hm,v0⟩
  unfold zY at hm
  refine aG (bI (aW [5] (fun f w=>∃ g8,zX b6 b7 g8=some R/\aD G b5 (aF 90 K c4 c6 b7::aF 28 b5 c2 c3 b6::box e 99 [bR a1 b,bR a16 c,zS c2 b6.length c3,zS c4 b7.length c6,zB g8]::L) w) ?_ ?_))
  ·rintro f v1 ⟨g8,hm,m7⟩
   unfold zX at hm
   refine aG (bS (aU (v:=zP (some ⟨e,0,none⟩)) (bH (v:=zP (some ⟨e,0,none⟩)) (bF ?_))));obtain rfl:=zI hm
   exact aFP (retQ_1 results44 rfl ⟨b5,c2,c3,c4,c6,e,rfl,(zL j m6),(aD.arr 2 [1,0] m7 rfl)⟩)
  exact aJ
 have v2:=aD.nil (α:=Edge) j8 90 K
 obtain ⟨v3,m9,ho⟩:=aB hm
 refine mW [0,1,5] m9 (fun c7 e0 Z f w=>∃ a6 e1 e2 e3 e4,Hp.le c1 a6/\f 6=i64 Z/\aD G a6 (aF 90 K e3 e4 e0::box e 99 [bR a1 b,bR a16 c,zS e1 c7.length e2,zS e3 e0.length e4,zB false]::aF 28 a6 e1 e2 c7::L) w) aJ ?_
 ·rintro c7 e0 Z g9 f v4 hm hr ⟨a6,e1,e2,e3,e4,k,e5,h0⟩
  unfold aAa at hm
  refine bI (bS (gN e5 (aU (v:=zP (some ⟨e,0,none⟩)) (aL (qD rfl) (aL (cE (t':=2) aCB rfl rfl) (aL (hY aFX h0 (i:=1) rfl rfl rfl) (aL (mV (len:=c7.length) jO rfl) (aL (wZ rfl rfl) (bF ?_)))))))))
  rcases aI hm with ⟨h1,hm⟩|⟨h1,hm⟩
  ·refine cP h1 rfl (dD (aG (bI (aK [0,1,5,6] (fun f w=>∃ e6 f1 f2 f3 f4 f5 f6,Hp.le a6 e6/\aFE Z f1 f2=some g9/\aD G e6 (aF 90 K f5 f6 f2::aF 28 e6 f3 f4 f1::box e 99 [bR a1 b,bR a16 c,zS f3 f1.length f4,zS f5 f2.length f6,zB false]::L) w) ?_ ?_))))
   ·rintro f v5 ⟨e6,f1,f2,f3,f4,f5,f6,n0,hm,n1⟩
    unfold aFE at hm
    exact aG (cK (gN e5 (aL (uW rfl rfl) (bH (v:=i64 (wr (Z+1))) (bF ⟨_,(zI hm).symm,aR,e6,f3,f4,f5,f6,(zL k n0),rfl,(aD.arr 3 [0,2,1] n1 rfl)⟩)))))
   refine bI ?_;obtain ⟨v6,c9,n2,n3,n4⟩:=aD.lendBp h0 zt1
   obtain ⟨n5,d0,j9,k0,n6⟩:=aD.lendSp n3 c9 zt1
   refine aCm (C:=fun w'=>∃ L',aD G n5 L' w') [(0,0),(1,0),(2,0),(3,0),(4,0),(5,0),(6,0),(7,0),(8,0),(9,0),(10,0),(11,0),(12,1),(13,0)] Tryz_mixed (by kernel_rfl) (fun _ hg=>⟨_,aD.mono k0 hg⟩) (fun v7 n7=>?_)
   have b8:=aD.mono k0 n7
   refine bN rfl (fun _ _=>cC (v:=bR a1 b) rfl) (bN rfl (fun _ _=>aGy rfl (h3.mono (zL (zL (zL j k) c9) d0))) (bN rfl (fun _ _=>aDf (k':=b+0) aCA rfl (h3.mono (zL (zL (zL j k) c9) d0)) rfl) (bN rfl (fun _ _=>cC (v:=zP (some ⟨e,0,none⟩)) rfl) (bN rfl (fun _ _=>qD rfl) (bN rfl (fun _ _=>cE (t':=2) aCB rfl rfl) (bN rfl (fun _ ⟨_,b8⟩=>dQ (t:=2) aFX b8 (n2.mono d0) rfl rfl) (bN rfl (fun _ _=>cC e5) ?_)))))))
   obtain ⟨v8,h2,hm⟩:=aB hm
   have n8:=aCz j9 h2
   refine bN rfl (fun _ _=>bV jO rfl n8 rfl rfl rfl h2) ?_;obtain ⟨v9,n9,o0⟩:=aN.el (sz:=1) rfl j9 h2
   obtain ⟨w0,w1,rfl,k1⟩:=o0
   refine bN rfl (fun _ ⟨_,b8⟩=>dQ (t:=0) aCe b8 n9 rfl rfl) ?_;obtain ⟨o1,k3,hm⟩:=aB hm
   refine bN rfl (fun _ _=>aHe eN rfl k1 rfl rfl rfl k3) ?_;obtain ⟨w2,o2,o3⟩:=aN.el (sz:=1) rfl k1 k3
   cases o3
   refine bN rfl (fun _ ⟨_,b8⟩=>dQ (t:=0) oG b8 o2 rfl rfl) (fF rfl ?_);obtain ⟨u,o4,hm⟩:=aB hm
   refine cI (vs:=[bR a1 (b+0),i64 o1]) call93 rfl (aFI o4 b8 (bZ.sub (t:=0) (m:=4) (h3.mono (zL (zL (zL j k) c9) d0)) rfl) (h6.mono (zL (zL (zL j k) c9) d0)) (h9.mono (zL (zL (zL j k) c9) d0))) ?_
   rintro _ w3 ⟨y,z,rfl,k4⟩
   refine aM (aG ⟨⟨_,k4⟩,?_⟩)
   refine bN rfl (fun _ _=>sW (v:=zS y u.length z) rfl) (jE ?_)
   have o5:=n6 _ _ k4
   have o6:=n4 _ _ o5
   refine aG (bS (bH (v:=i64 0) (bF (aK [0,1,5,6] (fun f w=>∃ h4 h5 h7 k5 k6 k7 k8,Hp.le a6 h4/\aFF Z h5 h7=some g9/\aD G h4 (aF 90 K k7 k8 h7::aF 28 h4 k5 k6 h5::box e 99 [bR a1 b,bR a16 c,zS k5 h5.length k6,zS k7 h7.length k8,zB false]::L) w) aJ ?_))));obtain ⟨w4,o7,ho⟩:=aB hm
   refine mW [0,1,5,6,7] o7 (fun q g b3 f w=>∃ a0 J V l n,Hp.le a6 a0/\f 8=i64 b3/\aD G a0 (box e 99 [bR a1 b,bR a16 c,zS J q.length V,zS l g.length n,zB false]::aF 28 a0 J V q::aF 90 K y z u::aF 90 K l n g::L) w) ?_ ?_
   ·exact ⟨a6,e1,e2,e3,e4,(zR _),rfl,o6⟩
   ·rintro q g b3 k9 f w5 hm hr ⟨a0,J,V,l,n,x,e7,l0⟩
    unfold vT at hm
    refine bI (bS (gN e7 (aU (v:=zS y u.length z) (aL (mV (len:=u.length) eU rfl) (aL (wZ rfl rfl) (bF ?_))))))
    rcases aI hm with ⟨h8,hm⟩|⟨h8,hm⟩
    ·refine cP h8 rfl (dD (aG (bI (aK [0,1,5,6,7,8] (fun f w=>∃ e8 f7 f8 f9 g0 g1 g2,Hp.le a0 e8/\sC b3 f7 f8=some k9/\aD G e8 (box e 99 [bR a1 b,bR a16 c,zS f9 f7.length g0,zS g1 f8.length g2,zB false]::aF 28 e8 f9 g0 f7::aF 90 K y z u::aF 90 K g1 g2 f8::L) w) ?_ ?_))))
     ·rintro f w6 ⟨e8,f7,f8,f9,g0,g1,g2,o8,hm,o9⟩
      unfold sC at hm
      exact aG (cK (gN e7 (aL (uW rfl rfl) (bH (v:=i64 (wr (b3+1))) (bF ⟨_,(zI hm).symm,aR,e8,f9,g0,g1,g2,(zL x o8),rfl,o9⟩)))))
     refine bI ?_;obtain ⟨p0,a8,l1,a,p1⟩:=aD.lendSp l0 (zR _) zt1
     refine aKj (C:=fun w'=>aD G p0 (box e 99 [bR a1 b,bR a16 c,zS J q.length V,zS l g.length n,zB false]::aF 90 K y z u::aF 90 K l n g::L) w') Tryz_mixed (by kernel_rfl) (aD.mono a (gD.drew _)) (jN (fun _ a=>cC (v:=bR a16 c) rfl) (jN (fun _ a=>cC (v:=zP (some ⟨e,0,none⟩)) rfl) (jN (fun _ a=>qD rfl) (jN (fun _ a=>cE (t':=2) aCB rfl rfl) (jN (fun _ a=>hY aFX a (i:=0) rfl rfl rfl) (jN (fun _ a=>cC e5) ?_))))))
     obtain ⟨w7,i0,hm⟩:=aB hm
     have p2:=aCz l1 i0
     refine jN (fun _ a=>bV jO rfl p2 rfl rfl rfl i0) ?_;obtain ⟨w8,p3,p4⟩:=aN.el (sz:=1) rfl l1 i0
     obtain ⟨w9,x0,rfl,l2⟩:=p4
     refine jN (fun _ a=>dQ (t:=0) aCe a p3 rfl rfl) ?_;obtain ⟨p5,l3,hm⟩:=aB hm
     refine jN (fun _ a=>aHe eN rfl l2 rfl rfl rfl l3) ?_;obtain ⟨x1,p6,p7⟩:=aN.el (sz:=1) rfl l2 l3
     cases p7
     refine jN (fun _ a=>dQ (t:=0) oG a p6 rfl rfl) (jN (fun _ a=>cC (v:=bR a1 b) rfl) (jN (fun _ a=>aGy rfl (h3.mono (zL (zL (zL j k) x) a8))) (jN (fun _ a=>aDf (k':=b+0) aCA rfl (h3.mono (zL (zL (zL j k) x) a8)) rfl) (jN (fun _ a=>aDf (k':=b+2) aGG rfl (h3.mono (zL (zL (zL j k) x) a8)) rfl) (jN (fun _ a=>dQ (t:=2) aHg a (h3.mono (zL (zL (zL j k) x) a8)) rfl rfl) (jN (fun _ a=>cC (v:=zS y u.length z) rfl) (jN (fun _ a=>cC e7) ?_)))))))
     obtain ⟨r,b9,hm⟩:=aB hm
     have d1:=bC a (i:=1) rfl b9
     refine jN (fun _ a=>bV eU rfl d1 rfl rfl rfl b9) (jN (fun _ a=>aPz (k':=b3.toNat * 3+1) aGE d1 rfl rfl) (jN (fun _ a=>aCN (t:=1) oG a (i:=1) rfl b9 rfl rfl rfl) ?_));obtain ⟨p8,l4,hm⟩:=aB hm
     refine jN (fun _ a=>aHe qX rfl (h6.mono (zL (zL (zL j k) x) a8)) rfl rfl rfl l4) ?_;obtain ⟨x2,p9,q0⟩:=aN.el (sz:=1) rfl h6 l4
     cases q0
     refine jN (fun _ a=>dQ (t:=0) sc_9 a (p9.mono (zL (zL (zL j k) x) a8)) rfl rfl) ?_;obtain ⟨o,q1,hm⟩:=aB hm
     refine aDG (vs:=[bR a16 c,i64 p5,str p8]) (v:=Value.tuple #[i64 o.1,zB o.2]) call94 rfl (fun _ a=>(aGP q1 a (e9.mono (zL (zL (zL j k) x) a8)) (m1.mono (zL (zL (zL j k) x) a8)) (m2.mono (zL (zL (zL j k) x) a8)))) (jN (fun _ a=>cC (v:=Value.tuple #[i64 o.1,zB o.2]) rfl) (jN (fun _ a=>cN rfl rfl) (jN (fun _ a=>cN rfl rfl) (jN (fun _ a=>sW (v:=i64 o.1) rfl) (jN (fun _ a=>sW (v:=zB o.2) rfl) (oS (fun x3 q2=>?_)))))))
     have i1:=p1 _ _ q2
     refine aG (bI (bS (aU (v:=zB o.2) (aL (aHw rfl) (bF ?_)))))
     rcases aI hm with ⟨i2,hm⟩|⟨i2,hm⟩
     ·exact cP i2 rfl (wD (fH (qU (aG ⟨aR,a0,q,g,J,V,l,n,(zR _),hm,(aD.arr 2 [1,0] i1 rfl)⟩))))
     ·refine bM i2 rfl (dD (aG (bS (aU (v:=zS y u.length z) (gN e7 (aL (bV eU rfl d1 rfl rfl rfl b9) (aL (aPz (k':=b3.toNat * 3+2) aGF d1 rfl rfl) (aL (aCN (t:=2) oG i1 (i:=2) rfl b9 rfl rfl rfl) (aU (v:=i64 o.1) (iG (Kt:=K) (xs:=([r.To,o.1]:List Int)) (cs:=[i64 r.To,i64 o.1]) (vs:=[(0,i64 r.To),(1,i64 o.1)]) eN aHr rfl rfl i1 rfl (by kernel_rfl) rfl rfl rfl ⟨rfl,rfl,trivial⟩ (fun b4 q3 (l5:aD G a0 (aF 2 K b4 2 ([r.To,o.1]:List Int)::aF 28 a0 J V q::box e 99 [bR a1 b,bR a16 c,zS J q.length V,zS l g.length n,zB false]::aF 90 K y z u::aF 90 K l n g::L) q3)=>(bH (v:=zS b4 ([r.To,o.1]:List Int).length 2) (bF (bS (aU (v:=zP (some ⟨e,0,none⟩)) (aL (qD rfl) (aL (cE (t':=2) aCB rfl rfl) (aL (hY aFX l5 (i:=2) rfl rfl rfl) (aU (v:=zS b4 ([r.To,o.1]:List Int).length 2) ?_)))))))))))))))))))
      obtain ⟨x4,q4,q5,q6,q7⟩:=aD.lendSp l5 (zR _) zt1
      obtain ⟨x5,q8,q9,r0,r1⟩:=aD.lendSp q6 (zL (zL (zL j k) x) q4) .head
      obtain ⟨i3,r2,hm⟩:=aB hm
      refine cI (vs:=[zS J q.length V,zS b4 ([r.To,o.1]:List Int).length 2]) call95 rfl (aAk r2 r0 (q5.mono q8) q9) ?_
      rintro _ r3 ⟨rfl,r4⟩
      have r5:=r1 _ _ r4
      have g3:=q7 _ _ r5
      refine bH (v:=i64 i3) (bF (sV [0,1,5,6,7,8] (fun f w=>∃ a9 a3 b0 b1 b2,Hp.le a0 a9/\zZ Z g b3 r a3 b0=some k9/\f 12=i64 b0/\aD G a9 (aF 28 a9 b1 b2 a3::box e 99 [bR a1 b,bR a16 c,zS b1 a3.length b2,zS l g.length n,zB false]::aF 90 K y z u::aF 90 K l n g::L) w) ?_ ?_))
      ·rintro f x6 ⟨a9,a3,b0,b1,b2,g4,hm,r6,r7⟩
       unfold zZ at hm
       obtain ⟨x7,i4,r8,r9,s0⟩:=aD.lendBp r7 zt1
       obtain ⟨i5,i6,s1,l6,s2⟩:=aD.lendSp r9 (zL (zL (zL (zL j k) x) g4) i4) zt1
       refine aCm (C:=fun w'=>∃ L',aD G i5 L' w') [(0,0),(1,0),(2,0),(3,0),(4,0),(5,0),(6,0),(7,0),(8,0),(9,0),(10,0),(11,1),(12,1),(13,1),(14,1),(15,2),(16,2),(17,2)] Tryz_mixed (by kernel_rfl) (fun _ hg=>⟨_,aD.mono l6 hg⟩) (fun x8 s3=>?_)
       have c0:=aD.mono l6 s3
       refine bN rfl (fun _ _=>cC (v:=zP (some ⟨e,0,none⟩)) rfl) (bN rfl (fun _ _=>cC (v:=zP (some ⟨e,0,none⟩)) rfl) (bN rfl (fun _ _=>qD rfl) (bN rfl (fun _ _=>cE (t':=3) aPH rfl rfl) (bN rfl (fun _ ⟨_,c0⟩=>dQ (t:=3) aOD c0 (r8.mono i6) rfl rfl) (bN rfl (fun _ _=>cC e5) (bN rfl (fun _ _=>cC (v:=zS y u.length z) rfl) (bN rfl (fun _ _=>cC e7) (bN rfl (fun _ _=>bV eU rfl d1 rfl rfl rfl b9) (bN rfl (fun _ _=>aPz (k':=b3.toNat * 3+1) aGE d1 rfl rfl) ?_)))))))))
       obtain ⟨x9,s4,s5⟩:=aN.el (sz:=3) rfl s1 b9
       cases s5
       refine bN rfl (fun _ ⟨_,c0⟩=>dQ (t:=1) oG c0 s4 rfl rfl) (fF rfl (gN r6 (aM (aG ⟨⟨_,c0⟩,?_⟩))))
       refine fF rfl (aL (jZ (vs:=[(0,i64 Z),(1,i64 r.B),(2,i64 b0)]) (cs:=[i64 Z,i64 r.B,i64 b0]) aMu rfl (by kernel_rfl)) (aM (aG ⟨⟨_,c0⟩,?_⟩)))
       refine fF rfl (iG (Kt:=K) (xs:=([⟨Z,r.B,b0⟩]:List Edge)) (cs:=[i64 Z,i64 r.B,i64 b0]) (vs:=[(0,Value.agg #[i64 Z,i64 r.B,i64 b0])]) eU aFc rfl rfl c0 rfl (by kernel_rfl) rfl rfl rfl ⟨rfl,trivial⟩ (fun s6 s7 (l7:aD G i5 (aF 90 K s6 1 ([⟨Z,r.B,b0⟩]:List Edge)::aF 28 a9 b1 b2 a3::aF 90 K l n g::L) s7)=>(aM (aG ⟨⟨_,l7⟩,?_⟩))))
       refine fF rfl ?_;obtain ⟨d2,s8,hm⟩:=aB hm
       refine aBl (i:=1) eU underlying25 aFc rfl rfl l7 rfl (zL (zL (zL (zL (zL j k) x) g4) i4) i6) (zL (zL (zL (zL (zL j k) x) g4) i4) i6) s8 rfl rfl rfl rfl (fun _ h=>h) (fun d3 d4 s9 (l8:aD G i5 (aF 28 a9 b1 b2 a3::aF 90 K d3 d4 d2::L) s9)=>(aM (aG ⟨⟨_,l8⟩,?_⟩)))
       have t0:=s2 _ _ l8
       have t1:=s0 _ _ t0
       exact aFR rfl (aL (qD rfl) (bF (aFR rfl (aL (cE (t':=3) aPH rfl rfl) (bF (aFR rfl (iS (i:=0) (ns:=[zS d3 d2.length d4]) (us:=[bR a1 b,bR a16 c,zS b1 a3.length b2,zS d3 d2.length d4,zB false]) sizeOf25 t1 rfl rfl rfl rfl rfl (lS rfl) rfl rfl (fun t2 (t3:aD G a9 (box e 99 [bR a1 b,bR a16 c,zS b1 a3.length b2,zS d3 d2.length d4,zB false]::aF 90 K y z u::aF 28 a9 b1 b2 a3::aF 90 K d3 d4 d2::L) t2)=>(bF (jE (iP (aG ⟨aR,a9,a3,d2,b1,b2,d3,d4,g4,hm,(aD.arr 3 [0,2,1] t3 rfl)⟩))))))))))))
      refine bS (aU (v:=i64 i3) (aL (wZ rfl rfl) (bF ?_)))
      rcases aI hm with ⟨i7,hm⟩|⟨i7,hm⟩
      ·refine cP i7 rfl (bS (aU (v:=zP (some ⟨e,0,none⟩)) (aL (qD rfl) (aL (cE (t':=2) aCB rfl rfl) (aL (hY aFX g3 (i:=2) rfl rfl rfl) (aL (mV (len:=q.length) jO rfl) (bH (v:=i64 (q.length:Int)) (bF (cK (aU (v:=zP (some ⟨e,0,none⟩)) (aU (v:=zP (some ⟨e,0,none⟩)) (aL (qD rfl) (aL (cE (t':=2) aCB rfl rfl) (aL (hY aFX g3 (i:=2) rfl rfl rfl) (aU (v:=zS b4 ([r.To,o.1]:List Int).length 2) ?_)))))))))))))))
       obtain ⟨a5,l9,t4,i8⟩:=aD.giveSp g3 (zL (zL j k) x) zt1
       replace i8:aD G a5 (aF 28 a0 J V q::box e 99 [bR a1 b,bR a16 c,zS J q.length V,zS l g.length n,zB false]::aF 90 K y z u::aF 90 K l n g::L) r3:=i8
       refine iG (Kt:=a5) (xs:=([([r.To,o.1]:List Int)]:List (List Int))) (cs:=[zS b4 ([r.To,o.1]:List Int).length 2]) (vs:=[(0,zS b4 ([r.To,o.1]:List Int).length 2)]) jO aDu rfl rfl i8 rfl (by kernel_rfl) rfl rfl rfl ⟨⟨b4,2,rfl,t4⟩,trivial⟩ (fun t5 t6 (t7:aD G a5 (aF 28 a5 t5 1 ([([r.To,o.1]:List Int)]:List (List Int))::aF 28 a0 J V q::box e 99 [bR a1 b,bR a16 c,zS J q.length V,zS l g.length n,zB false]::aF 90 K y z u::aF 90 K l n g::L) t6)=>?_)
       obtain ⟨d5,t8,hm⟩:=aB hm
       exact aJu (i:=0) a5 jO underlying36 aDu rfl rfl t7 rfl l9 (zR _) t8 rfl rfl rfl rfl (fun _ _ _ h=>El.one h) (fun d6 d7 t9 (u0:aD G a5 (aF 28 a5 d6 d7 d5::box e 99 [bR a1 b,bR a16 c,zS J q.length V,zS l g.length n,zB false]::aF 90 K y z u::aF 90 K l n g::L) t9)=>(aL (qD rfl) (aL (cE (t':=2) aCB rfl rfl) (iS (i:=1) (ns:=[zS d6 d5.length d7]) (us:=[bR a1 b,bR a16 c,zS d6 d5.length d7,zS l g.length n,zB false]) sizeOf36 u0 rfl rfl rfl rfl rfl (lS rfl) rfl rfl (fun u1 (u2:aD G a5 (aF 28 a5 d6 d7 d5::box e 99 [bR a1 b,bR a16 c,zS d6 d5.length d7,zS l g.length n,zB false]::aF 90 K y z u::aF 90 K l n g::L) u1)=>(bF ⟨aR,a5,d5,(q.length:Int),d6,d7,l9,hm,rfl,u2⟩))))))
      ·exact bM i7 rfl (dD (aG ⟨aR,a0,q,i3,J,V,(zR _),hm,rfl,(aD.arr 2 [0] g3 rfl)⟩))
    ·refine bM h8 rfl (wD (fH (fH ?_)))
     have u3:=hr _ (zI hm).symm
     subst u3
     have hm:(aFF Z q g)=some g9:=ho
     clear hr ho
     exact qU (aG ⟨aR,a0,q,g,J,V,l,n,x,hm,(aD.arr 4 [3,1,0] l0 rfl)⟩)
  ·refine bM h1 rfl (wD (fH (fH ?_)))
   have u4:=hr _ (zI hm).symm
   subst u4
   have hm:(zY c7 e0)=some R:=ho
   clear hr ho
   exact qU (aG ⟨aR,a6,c7,e0,e1,e2,e3,e4,k,hm,(aD.arr 3 [0,2,1] h0 rfl)⟩)
theorem aHm {n:Int} {R:(List Bool)} (hm:aEx n=some R) (p:aD G K (L) w):
  Calls prog 96 ([i64 n]:List Value).toArray w (dS fun v w'=>∃ j k,v=zS j R.length k/\aD G K (aF 4 K j k R::L) w'):=by
 refine cH func96 ?_;unfold aEx at hm
 refine aC ?_;obtain ⟨a,q,hm⟩:=aB hm
 refine aKR (e:=(false:Bool)) nG ez_4 rfl rfl p rfl rfl rfl q rfl (fun b r (a0:aD G K (aF 4 K b a.length a::L) r)=>(aC ?_));refine aK [] (fun f w=>∃ c,aIL c=some R/\f 3=zS b c.length a.length/\aD G K (aF 4 K b a.length c::L) w) aJ ?_
 obtain ⟨a1,u,ho⟩:=aB hm
 refine bQ [0] u (fun d l f w=>f 3=zS b d.length a.length/\f 4=i64 l/\aD G K (aF 4 K b a.length d::L) w) aJ ?_
 ·rintro d l a2 f a4 hm hr ⟨x,a5,m⟩
  unfold vU at hm
  refine aC ?_
  rcases aI hm with ⟨y,hm⟩|⟨y,hm⟩
  ·refine aC ?_;refine cR (aC ?_)
   obtain ⟨a6,g,hm⟩:=aB hm
   have z:=bC m (i:=0) rfl g
   refine aL (bV nG rfl z rfl rfl rfl g) ?_;obtain ⟨J,o,hm⟩:=aB hm
   refine nU (i:=0) (t:=0) (ns:=[zB true]) (e':=(true:Bool)) sizeOf4 m rfl (zR _) rfl rfl rfl g o rfl rfl (lS rfl) rfl (fun cs h=>by cases h;rfl) (fun V (Z:aD G K (aF 4 K b a.length J::L) V)=>(aC ?_));exact ⟨_,(zI hm).symm,aR,(Eq.trans x (congrArg (fun n=>zS b n a.length) (lD o))),rfl,Z⟩
  ·exact aJ
theorem aIx {a R:aH} (hm:aBB a=some R) (b:aD G K (L) w):
  Calls prog 139 ([str a]:List Value).toArray w (dS fun v w'=>v=str R/\aD G K (L) w'):=by
 exact aJ
theorem aIS {a:(List Int)} {n:Int} {R:Bool} (hm:aHQ a n=some R) (d:aD G K (L) w) (e:aN K a1 c2 a):
  Calls prog 98 ([zS a1 a.length c2,i64 n]:List Value).toArray w (dS fun v w'=>v=zB R/\aD G K (L) w'):=by
 refine cH func98 ?_;unfold aHQ at hm
 refine aC ?_;refine aK [] (fun f w=>aLd=some R/\aD G K (L) w) aJ ?_
 obtain ⟨g,b,ho⟩:=aB hm
 exact bY [0,1] b (fun c f w=>f 5=i64 c/\aD G K (L) w) aJ aJ
theorem aLA {a b:(List Bool)} {R:Bool} (hm:aEy a b=some R) (e:aD G K (L) w) (g:aN K a1 c2 a) (h:aN K a4 c5 b):
  Calls prog 100 ([zS a1 a.length c2,zS a4 b.length c5]:List Value).toArray w (dS fun v w'=>v=zB R/\aD G K (L) w'):=by
 refine cH func100 ?_;unfold aEy at hm
 refine aC ?_;refine aK [] (fun f w=>aIM=some R/\aD G K (L) w) aJ ?_
 obtain ⟨i,c,ho⟩:=aB hm
 exact bY [0,1] c (fun d f w=>f 5=i64 d/\aD G K (L) w) aJ aJ
theorem aFp {a b:(List Int)} {R:Int} (hm:aBC a b=some R) (h:aD G K (L) w) (i:aN K a1 c2 a) (j:aN K a4 c5 b):
  Calls prog 140 ([zS a1 a.length c2,zS a4 b.length c5]:List Value).toArray w (dS fun v w'=>v=i64 R/\aD G K (L) w'):=by
 refine cH func140 ?_;unfold aBC at hm
 refine aC ?_;refine aK [0,1] (fun f w=>aDi a b=some R/\aD G K (L) w) aJ ?_
 obtain ⟨k,e,ho⟩:=aB hm
 refine bY [0,1] e (fun c f w=>f 5=i64 c/\aD G K (L) w) aJ ?_
 ·rintro c g f l hm hr ⟨m,n⟩
  unfold nX at hm
  iterate 2 refine cO ?_
  exact aW [0,1,5] (fun f w=>∃ d,vA a b c d=some g/\f 15=zB d/\aD G K (L) w) aJ aJ
theorem aGl {rows:(List (List Int))} {a:(List Int)} {R:(List (List Int))} (hm:aCX rows a=some R) (hs:aD G K (L) w) (J:Hp.le Kf K) (h3:aN Kf a1 c2 rows) (p:aN Kf a4 c5 a):
  Calls prog 101 ([zS a1 rows.length c2,zS a4 a.length c5]:List Value).toArray w (dS fun v w'=>∃ V Z,v=zS V R.length Z/\aD G K (aF 28 Kf V Z R::L) w'):=by
 refine cH func101 ?_;unfold aCX at hm
 refine aC ?_;refine iG (Kt:=Kf) (xs:=([]:List (List Int))) (cs:=[]) (vs:=[]) jO aDu rfl rfl hs rfl (by kernel_rfl) rfl rfl rfl trivial (fun a7 w8 (f4:aD G K (aF 28 Kf a7 0 ([]:List (List Int))::L) w8)=>(aC ?_))
 refine aK [1] (fun f w=>∃ d q k l,aBE a d q=some R/\f 5=zS k d.length l/\f 6=zB q/\aD G K (aF 28 Kf k l d::L) w) ?_ ?_
 ·rintro f f5 ⟨d,q,k,l,hm,f6,f7,b9⟩
  unfold aBE at hm
  iterate 1 refine cO ?_
  refine sV [] (fun f w=>∃ r a0 a2,aBD r=some R/\f 5=zS a0 r.length a2/\aD G K (aF 28 Kf a0 a2 r::L) w) aJ (aC ?_)
  rcases aI hm with ⟨c0,hm⟩|⟨c0,hm⟩
  ·refine aC ?_;refine iG (Kt:=Kf) (xs:=([a]:List (List Int))) (cs:=[zS a4 a.length c5]) (vs:=[(0,zS a4 a.length c5)]) jO aDu rfl rfl b9 rfl (by kernel_rfl) rfl rfl rfl ⟨⟨a4,c5,rfl,p⟩,trivial⟩ (fun c1 c3 (c4:aD G K (aF 28 Kf c1 1 ([a]:List (List Int))::aF 28 Kf k l d::L) c3)=>?_)
   obtain ⟨a3,c6,hm⟩:=aB hm
   refine aJu (i:=0) Kf jO underlying36 aDu rfl rfl c4 rfl (zR _) (zR _) c6 rfl rfl rfl rfl (fun _ _ _ h=>El.one h) (fun a5 a6 c7 (c8:aD G K (aF 28 Kf a5 a6 a3::L) c7)=>(aC ?_));exact ⟨aR,a3,a5,a6,hm,rfl,c8⟩
  ·exact aJ
 obtain ⟨f8,c9,ho⟩:=aB hm
 refine mW [0,1] c9 (fun b t m f w=>∃ e g,f 5=zS e b.length g/\f 6=zB t/\f 7=i64 m/\aD G K (aF 28 Kf e g b::L) w) aJ ?_
 ·rintro b t m a8 f f9 hm hr ⟨e,g,g0,g1,g2,d0⟩
  unfold xG at hm
  refine aC ?_
  rcases aI hm with ⟨d1,hm⟩|⟨d1,hm⟩
  ·refine aC ?_;refine cR (aC ?_)
   obtain ⟨c,d2,hm⟩:=aB hm
   refine aC ?_;obtain ⟨g3,g4,d3⟩:=aN.el (sz:=1) rfl h3 d2
   obtain ⟨u,x,rfl,a9⟩:=d3
   refine aC ?_;obtain ⟨d4,d5,hm⟩:=aB hm
   refine cG call140 (aFp d5 d0 (a9.mono J) (p.mono J)) ?_
   rintro _ g5 ⟨rfl,g6⟩
   iterate 3 refine cO ?_
   refine sV [0,1,7] (fun f w=>∃ j y n o,kL m c j y=some a8/\f 5=zS n j.length o/\f 6=zB y/\aD G K (aF 28 Kf n o j::L) w) ?_ ?_
   ·rintro f g7 ⟨j,y,n,o,hm,g8,d6,d7⟩
    unfold kL at hm
    refine aC ?_;refine iG (Kt:=Kf) (xs:=([c]:List (List Int))) (cs:=[zS u c.length x]) (vs:=[(0,zS u c.length x)]) jO aDu rfl rfl d7 rfl (by kernel_rfl) rfl rfl rfl ⟨⟨u,x,rfl,a9⟩,trivial⟩ (fun d8 d9 (e0:aD G K (aF 28 Kf d8 1 ([c]:List (List Int))::aF 28 Kf n o j::L) d9)=>?_)
    obtain ⟨e1,e2,hm⟩:=aB hm
    refine aJu (i:=0) Kf jO underlying36 aDu rfl rfl e0 rfl (zR _) (zR _) e2 rfl rfl rfl rfl (fun _ _ _ h=>El.one h) (fun b0 b1 e3 (e4:aD G K (aF 28 Kf b0 b1 e1::L) e3)=>(aC ?_));exact ⟨_,(zI hm).symm,aR,b0,b1,rfl,d6,rfl,e4⟩
   iterate 1 refine cO ?_
   refine aW [0,1,5,6,7,8] (fun f w=>∃ z,tC a b t m c d4 z=some a8/\f 27=zB z/\aD G K (aF 28 Kf e g b::L) w) ?_ ?_
   ·rintro f g9 ⟨z,hm,h0,e5⟩
    unfold tC at hm
    refine aC ?_
    rcases aI hm with ⟨e6,hm⟩|⟨e6,hm⟩
    ·refine aC ?_
     rcases aI hm with ⟨e7,hm⟩|⟨e7,hm⟩
     ·refine aC ?_;refine iG (Kt:=Kf) (xs:=([a]:List (List Int))) (cs:=[zS a4 a.length c5]) (vs:=[(0,zS a4 a.length c5)]) jO aDu rfl rfl e5 rfl (by kernel_rfl) rfl rfl rfl ⟨⟨a4,c5,rfl,p⟩,trivial⟩ (fun e8 e9 (f0:aD G K (aF 28 Kf e8 1 ([a]:List (List Int))::aF 28 Kf e g b::L) e9)=>?_)
      obtain ⟨b2,f1,hm⟩:=aB hm
      refine aJu (i:=0) Kf jO underlying36 aDu rfl rfl f0 rfl (zR _) (zR _) f1 rfl rfl rfl rfl (fun _ _ _ h=>El.one h) (fun b3 b4 f2 (f3:aD G K (aF 28 Kf b3 b4 b2::L) f2)=>(aC ?_));exact ⟨aR,b2,true,b3,b4,hm,rfl,rfl,f3⟩
     ·exact aJ
    ·exact aJ
   exact aJ
  ·exact aJ
theorem aAA {a:(List Int)} {n R:Int} (hm:aAI a n=some R) (d:aD G K (L) w) (e:aN K a1 c2 a):
  Calls prog 102 ([zS a1 a.length c2,i64 n]:List Value).toArray w (dS fun v w'=>v=i64 R/\aD G K (L) w'):=by
 refine cH func102 ?_;unfold aAI at hm
 refine aC ?_;refine aK [] (fun f w=>aIN=some R/\aD G K (L) w) aJ ?_
 obtain ⟨g,b,ho⟩:=aB hm
 exact bY [0,1] b (fun c f w=>f 5=i64 c/\aD G K (L) w) aJ aJ
theorem aHZ {t:aP} {y:Nat} {a:(List Int)} {R:aP} (hm:aGh t a=some R) (hs:aD G K (L) w) (h3:bZ K a1 y (zC t a4 c5 a7 c8)) (h6:aN K a4 c5 t.L) (h9:aN K a7 c8 t.E) (u:aN K a10 c11 a):
  Calls prog 47 ([bR a1 y,zS a10 a.length c11]:List Value).toArray w (dS fun v w'=>∃ z J V Z,v=Value.agg (zCa R z J V Z)/\aD G K (aF 9 K z J R.L::aF 90 K V Z R.E::L) w'):=by
 let h:=zG
 refine cH func47 ?_;unfold aGh at hm
 refine aC ?_;refine kK fun j d0 b2=>?_
 refine aC ?_;obtain ⟨e,b3,hm⟩:=aB hm
 refine cG call102 (aAA b3 b2 u) ?_
 rintro _ d1 ⟨rfl,d2⟩
 refine nW ([]:List Edge) fun n d3 d4=>?_;refine aL (jZ (vs:=[(0,i64 (a.length:Int)),(1,i64 e),(3,zS n ([]:List Edge).length 0)]) (cs:=[i64 (a.length:Int),i64 e,zS none 0 0,zS n ([]:List Edge).length 0]) aJH rfl (by kernel_rfl)) (kK fun k d5 d6=>?_)
 refine kZ fun d7 d8=>?_;refine aC ?_
 refine nW ([]:List aH) fun d9 e0 b4=>?_;refine aC ?_
 obtain ⟨b,b5,hm⟩:=aB hm
 refine aGA (i:=0) qX underlying24 ez_9 rfl rfl b4 rfl (zR _) h6 b5 rfl rfl rfl rfl (fun c d b6 (e1:aD G K (aF 9 K c d b::box k 27 [i64 (a.length:Int),i64 e,zS none 0 0,zS n ([]:List Edge).length 0]::aF 90 K n 0 ([]:List Edge)::box j 27 h::L) b6)=>(aC ?_));refine kZ fun e2 e3=>?_
 refine aC ?_;refine aK [4,5] (fun f w=>∃ x a0 a2,aJS a e b x=some R/\aD G K (aF 90 K a0 a2 x::aF 9 K c d b::box k 27 [i64 (a.length:Int),i64 e,zS c b.length d,zS a0 x.length a2]::box j 27 h::L) w) aJ ?_
 obtain ⟨e4,b7,ho⟩:=aB hm
 refine bQ [0,1,4,5] b7 (fun g o f w=>∃ l m,f 6=i64 o/\aD G K (aF 9 K c d b::box k 27 [i64 (a.length:Int),i64 e,zS c b.length d,zS l g.length m]::aF 90 K l m g::box j 27 h::L) w) aJ ?_
 ·rintro g o a3 f e5 hm hr ⟨l,m,e6,e7⟩
  unfold yI at hm
  refine aC ?_
  rcases aI hm with ⟨b8,hm⟩|⟨b8,hm⟩
  ·refine aC ?_;refine aK [0,1,4,5,6] (fun f w=>∃ p q r,uN o p=some a3/\aD G K (aF 90 K q r p::aF 9 K c d b::box k 27 [i64 (a.length:Int),i64 e,zS c b.length d,zS q p.length r]::box j 27 h::L) w) ?_ ?_
   ·rintro f e8 ⟨p,q,r,hm,e9⟩
    unfold uN at hm
    refine aC ?_;exact ⟨_,(zI hm).symm,aR,q,r,rfl,lI⟩
   refine aC ?_;obtain ⟨a5,b9,hm⟩:=aB hm
   refine aC ?_;obtain ⟨f0,f1,c0⟩:=aN.el (sz:=3) rfl h9 b9
   cases c0
   refine aC ?_;refine kK fun c1 f2 f3=>?_
   refine kZ fun f4 c2=>?_;refine aC ?_
   obtain ⟨a6,c3,hm⟩:=aB hm
   refine cG call102 (aAA c3 c2 u) ?_
   rintro _ f5 ⟨rfl,f6⟩
   refine aC ?_;refine kZ fun f7 c4=>?_
   refine aC ?_;obtain ⟨a8,c6,hm⟩:=aB hm
   refine cG call102 (aAA c6 c4 u) ?_
   rintro _ f8 ⟨rfl,f9⟩
   refine aC ?_;refine kZ fun g0 g1=>?_
   iterate 3 refine cO ?_
   exact aW [0,1,4,5,6,7] (fun f w=>∃ a9,yH g o a5 a6 a8 a9=some a3/\f 58=zB a9/\aD G K (box c1 90 [i64 a6,i64 a5.B,i64 a8]::aF 9 K c d b::box k 27 [i64 (a.length:Int),i64 e,zS c b.length d,zS l g.length m]::aF 90 K l m g::box j 27 h::L) w) aJ aJ
  ·exact aJ
theorem aHn {t:aP} {k2:Nat} {R:(List Int)} (hm:aEA t=some R) (hs:aD G K (L) w) (h3:bZ K a1 k2 (zC t a4 c5 a7 c8)) (h6:aN K a4 c5 t.L) (h9:aN K a7 c8 t.E):
  Calls prog 48 ([bR a1 k2]:List Value).toArray w (dS fun v w'=>∃ a5 a6,v=zS a5 R.length a6/\aD G K (aF 2 K a5 a6 R::L) w'):=by
 refine cH func48 ?_;unfold aEA at hm
 refine aC ?_;obtain ⟨a,c2,hm⟩:=aB hm
 refine aKR (e:=(false:Bool)) nG ez_4 rfl rfl hs rfl rfl rfl c2 rfl (fun b c3 (a8:aD G K (aF 4 K b a.length a::L) c3)=>(aC ?_));obtain ⟨f3,p,hm⟩:=aB hm
 have a9:=bC a8 (i:=0) rfl p
 refine aL (bV nG rfl a9 rfl rfl rfl p) ?_;obtain ⟨c4,b0,hm⟩:=aB hm
 refine nU (i:=0) (t:=0) (ns:=[zB true]) (e':=(true:Bool)) sizeOf4 a8 rfl (zR _) rfl rfl rfl p b0 rfl rfl (lS rfl) rfl (fun cs h=>by cases h;rfl) (fun c6 (c7:aD G K (aF 4 K b a.length c4::L) c6)=>(aC ?_));refine aK [0] (fun f w=>∃ c,aCG t c=some R/\f 3=zS b c.length a.length/\aD G K (aF 4 K b a.length c::L) w) ?_ ?_
 ·rintro f f4 ⟨c,hm,f5,f6⟩
  unfold aCG at hm
  refine aC ?_;refine nW ([]:List Int) fun f7 f8 f9=>?_
  refine aC ?_;refine aK [] (fun f w=>∃ q b1 b2,aIO q=some R/\f 6=zS b1 q.length b2/\aD G K (aF 2 K b1 b2 q::L) w) aJ ?_
  obtain ⟨g0,c9,ho⟩:=aB hm
  refine bQ [0,3] c9 (fun r u f w=>∃ x y,f 6=zS x r.length y/\f 7=i64 u/\aD G K (aF 2 K x y r::aF 4 K b a.length c::L) w) aJ ?_
  ·rintro r u d0 f g1 hm hr ⟨x,y,g2,g3,g4⟩
   unfold aAc at hm
   refine aC ?_
   rcases aI hm with ⟨d1,hm⟩|⟨d1,hm⟩
   ·refine aC ?_;refine aK [0,3,7] (fun f w=>∃ g j k,aAb u g=some d0/\f 6=zS j g.length k/\aD G K (aF 2 K j k g::aF 4 K b a.length c::L) w) ?_ ?_
    ·rintro f g5 ⟨g,j,k,hm,d2,d3⟩
     unfold aAb at hm
     refine aC ?_;exact ⟨_,(zI hm).symm,aR,j,k,d2,rfl,d3⟩
    exact aJ
   ·exact aJ
 obtain ⟨g6,d4,ho⟩:=aB hm
 refine bQ [0] d4 (fun z b3 f w=>f 3=zS b z.length a.length/\f 4=zB b3/\aD G K (aF 4 K b a.length z::L) w) ?_ ?_
 ·exact ⟨(Eq.trans rfl (congrArg (fun n=>zS b n a.length) (lD b0))),rfl,c7⟩
 ·rintro z b3 b4 f g7 hm hr ⟨g8,g9,h0⟩
  unfold aEz at hm
  refine aC ?_
  rcases aI hm with ⟨d5,hm⟩|⟨d5,hm⟩
  ·refine aC ?_;refine aK [0] (fun f w=>∃ l J,aFG l J=some b4/\f 3=zS b l.length a.length/\f 4=zB J/\aD G K (aF 4 K b a.length l::L) w) ?_ ?_
   ·rintro f h1 ⟨l,J,hm,d6,d7,d8⟩
    unfold aFG at hm
    refine aC ?_;exact ⟨_,(zI hm).symm,aR,d6,d7,d8⟩
   refine aC ?_;refine aK [0] (fun f w=>∃ V b5,aIP V b5=some b4/\f 3=zS b V.length a.length/\f 4=zB b5/\aD G K (aF 4 K b a.length V::L) w) aJ ?_
   obtain ⟨h2,d9,ho⟩:=aB hm
   refine mW [0] d9 (fun d Z m f w=>f 3=zS b d.length a.length/\f 4=zB Z/\f 5=i64 m/\aD G K (aF 4 K b a.length d::L) w) aJ ?_
   ·rintro d Z m b6 f h4 hm hr ⟨e0,h5,h7,h8⟩
    unfold aAd at hm
    refine aC ?_
    rcases aI hm with ⟨e1,hm⟩|⟨e1,hm⟩
    ·refine aC ?_;refine aK [0,5] (fun f w=>∃ o a0,sD m o a0=some b6/\f 3=zS b o.length a.length/\f 4=zB a0/\aD G K (aF 4 K b a.length o::L) w) ?_ ?_
     ·rintro f i0 ⟨o,a0,hm,e2,e3,e4⟩
      unfold sD at hm
      refine aC ?_;exact ⟨_,(zI hm).symm,aR,e2,e3,rfl,e4⟩
     iterate 1 refine cO ?_
     refine aW [0,3,4,5] (fun f w=>∃ a2,sE t d Z m a2=some b6/\f 53=zB a2/\aD G K (aF 4 K b a.length d::L) w) ?_ ?_
     ·rintro f i1 ⟨a2,hm,i2,e5⟩
      unfold sE at hm
      refine aC ?_
      rcases aI hm with ⟨e6,hm⟩|⟨e6,hm⟩
      ·refine aC ?_;obtain ⟨i3,e7,hm⟩:=aB hm
       refine aC ?_;obtain ⟨i4,i5,e8⟩:=aN.el (sz:=3) rfl h9 e7
       cases e8
       refine aC ?_;obtain ⟨i6,b7,hm⟩:=aB hm
       refine aL (bV nG rfl a9 rfl rfl rfl b7) ?_;obtain ⟨b8,b9,hm⟩:=aB hm
       refine nU (i:=0) (t:=0) (ns:=[zB true]) (e':=(true:Bool)) sizeOf4 e5 rfl (zR _) rfl rfl rfl b7 b9 rfl rfl (lS rfl) rfl (fun cs h=>by cases h;rfl) (fun e9 (f0:aD G K (aF 4 K b a.length b8::L) e9)=>(aC ?_));exact ⟨aR,b8,true,hm,(Eq.trans e0 (congrArg (fun n=>zS b n a.length) (lD b9))),rfl,f0⟩
      ·exact aJ
     exact aJ
    ·exact aJ
  ·exact aJ
theorem aEL {a:(List UInt8)} {b c:Int} {R:(Int × Int × Int)} (hm:vV a b c=some R) (e:aD G K (box b1 88 [zS a2 a.length c3,i64 b,Value.int .u64 c]::L) w) (g:aN K a2 c3 a):
  Calls prog 41 ([zP (some ⟨b1,0,none⟩)]:List Value).toArray w (dS fun v w'=>v=i64 R.1/\aD G K (box b1 88 [zS a2 a.length c3,i64 R.2.1,Value.int .u64 R.2.2]::L) w'):=by
 refine cH func41 ?_;unfold vV at hm
 iterate 10 refine cO ?_
 exact sV [0] (fun f w=>∃ d,tD a b c d=some R/\f 3=i64 d/\aD G K (box b1 88 [zS a2 a.length c3,i64 b,Value.int .u64 c]::L) w) aJ aJ
theorem bJ {a:(List UInt8)} {b c n:Int} {R:(Int × Int × Int)} (hm:bO a b c n=some R) (h:aD G K (box b1 88 [zS a2 a.length c3,i64 b,Value.int .u64 c]::L) w) (i:aN K a2 c3 a):
  Calls prog 17 ([zP (some ⟨b1,0,none⟩),i64 n]:List Value).toArray w (dS fun v w'=>v=i64 R.1/\aD G K (box b1 88 [zS a2 a.length c3,i64 R.2.1,Value.int .u64 R.2.2]::L) w'):=by
 refine cH func17 ?_;unfold bO at hm
 refine aC ?_
 rcases aI hm with ⟨j,hm⟩|⟨j,hm⟩
 ·exact aJ
 ·refine aC ?_;obtain ⟨l,k,hm⟩:=aB hm
  refine cG call41 (aEL k h i) ?_
  rintro _ m ⟨rfl,o⟩
  iterate 3 refine cO ?_
  exact sV [1] (fun f w=>∃ d e g,tE n d e g=some R/\f 5=i64 d/\aD G K (box b1 88 [zS a2 a.length c3,i64 e,Value.int .u64 g]::L) w) aJ aJ
theorem wS {a:(List UInt8)} {b c n:Int} {R:(Bool × Int × Int)} (hm:iH a b c n=some R) (d:aD G K (box b1 88 [zS a2 a.length c3,i64 b,Value.int .u64 c]::L) w) (e:aN K a2 c3 a):
  Calls prog 15 ([zP (some ⟨b1,0,none⟩),i64 n]:List Value).toArray w (dS fun v w'=>v=zB R.1/\aD G K (box b1 88 [zS a2 a.length c3,i64 R.2.1,Value.int .u64 R.2.2]::L) w'):=by
 exact aJ
end Gv
namespace Gv
open Go.Value renaming slice→zS,pointer→zP,agg→zA
open Option.some renaming inj→zI
open Gv.Hp renaming le_refl→zR
open Go Go.Proofs Go.Proofs.Tryz
set_option maxRecDepth 20000
set_option maxHeartbeats 40000000
variable {G:Env} {K:Hp} {L:List gV} {w:World} {b1 c3 c6 c9 c12 c15 c18:Nat} {a2 a5 a8 a11 a14 a17:Option Addr}
theorem aAM {b:(List UInt8)} {c6 c7 most:Int} {R:(aP × Int × Int)} (hm:mQ b c6 c7 most=some R) (hs:aD G K (box b1 88 [zS a2 b.length c3,i64 c6,Value.int .u64 c7]::L) w) (r:aN K a2 c3 b):
  Calls prog 14 ([zP (some ⟨b1,0,none⟩),i64 most]:List Value).toArray w (dS fun v w'=>∃ d7 d8 d9 e0,v=zA (zCa R.1 d7 d8 d9 e0)/\aD G K (aF 9 K d7 d8 R.1.L::aF 90 K d9 e0 R.1.E::box b1 88 [zS a2 b.length c3,i64 R.2.1,Value.int .u64 R.2.2]::L) w'):=by
 let d:=zG
 refine cH func14 ?_;unfold mQ at hm
 refine aC ?_;refine kK fun e w6 l3=>?_
 refine aC ?_;refine nW ([([116,97,117]:aH),([97]:aH),([98]:aH),([99]:aH),([103,101,116,40,48,41]:aH)]:List aH) fun m w9 l4=>?_
 refine aC ?_
 have f3:aD G K (box b1 88 [zS a2 b.length c3,i64 c6,Value.int .u64 c7]::aF 9 K m 5 ([([116,97,117]:aH),([97]:aH),([98]:aH),([99]:aH),([103,101,116,40,48,41]:aH)]:List aH)::box e 27 d::L) w9:=lI
 obtain ⟨c,f4,hm⟩:=aB hm
 refine cG call17 (bJ f4 f3 r) ?_
 rintro _ l5 ⟨rfl,l6⟩
 iterate 1 refine cO ?_
 refine aL (jZ (vs:=[(0,i64 (wr (1+c.1)))]) (cs:=[i64 (wr (1+c.1)),i64 0,zS none 0 0,zS none 0 0]) aJH rfl (by kernel_rfl)) (kK fun o l7 l8=>?_);refine kZ fun l9 m0=>?_
 refine aC ?_;refine nW ([]:List Edge) fun f5 f6 m1=>?_
 refine aC ?_
 have f7:aD G K (box b1 88 [zS a2 b.length c3,i64 c.2.1,Value.int .u64 c.2.2]::aF 90 K f5 0 ([]:List Edge)::box o 27 [i64 (wr (1+c.1)),i64 0,zS none 0 0,zS none 0 0]::aF 9 K m 5 ([([116,97,117]:aH),([97]:aH),([98]:aH),([99]:aH),([103,101,116,40,48,41]:aH)]:List aH)::box e 27 d::L) f6:=lI
 obtain ⟨m2,f8,hm⟩:=aB hm
 refine cG call17 (bJ f8 f7 r) ?_
 rintro _ m3 ⟨rfl,m4⟩
 refine aC ?_;refine aK [0,4,5,6] (fun f w=>∃ i j a3 c8 c9,tF b c i j a3=some R/\f 7=zS c8 a3.length c9/\aD G K (aF 90 K c8 c9 a3::box b1 88 [zS a2 b.length c3,i64 i,Value.int .u64 j]::box o 27 [i64 (wr (1+c.1)),i64 0,zS none 0 0,zS none 0 0]::aF 9 K m 5 ([([116,97,117]:aH),([97]:aH),([98]:aH),([99]:aH),([103,101,116,40,48,41]:aH)]:List aH)::box e 27 d::L) w) ?_ ?_
 ·rintro f m5 ⟨i,j,a3,c8,c9,hm,m6,f9⟩
  unfold tF at hm
  refine aC ?_;obtain ⟨m7,g0,g1,g2,g3⟩:=aD.lendSp f9 (zR _) zt3
  obtain ⟨m8,g4,g5,g6,g7⟩:=aD.lendSp g2 g0 .head
  obtain ⟨a,g8,hm⟩:=aB hm
  refine cG call39 (aEJ g8 g6 (g1.mono g4) g5) ?_
  rintro _ m9 ⟨g,h,k,l,rfl,g9⟩
  have h0:=g7 _ _ g9
  have n0:=g3 _ _ h0
  refine kK fun z n1 n2=>?_;refine kZ fun n3 n4=>?_
  refine aC ?_;refine nW ([]:List Edge) fun n5 n6 n7=>?_
  refine aC ?_;refine aK [0,4,11] (fun f w=>∃ p J V,yJ b i j a p=some R/\f 12=zS J p.length V/\aD G K (aF 90 K J V p::box z 27 (zC a g h k l)::aF 9 K g h a.L::aF 90 K k l a.E::box b1 88 [zS a2 b.length c3,i64 i,Value.int .u64 j]::box e 27 d::L) w) ?_ ?_
  ·rintro f n8 ⟨p,J,V,hm,n9,o0⟩
   unfold yJ at hm
   refine aC ?_;refine kZ fun h1 o1=>?_
   refine aC ?_
   have h2:aD G K (box b1 88 [zS a2 b.length c3,i64 i,Value.int .u64 j]::aF 90 K J V p::box z 27 [i64 a.N,i64 a.I,zS g a.L.length h,zS J p.length V]::aF 9 K g h a.L::aF 90 K k l a.E::box e 27 d::L) h1:=lI
   obtain ⟨o2,h3,hm⟩:=aB hm
   refine cG call15 (wS h3 h2 r) ?_
   rintro _ o3 ⟨rfl,h5⟩
   refine aC ?_
   rcases aI hm with ⟨h6,hm⟩|⟨h6,hm⟩
   ·refine aC ?_;obtain ⟨o4,h7,h8,h9,o5⟩:=aD.lendSp h5 (zR _) zt3
    obtain ⟨o6,i0,i1,i2,o7⟩:=aD.lendSp h9 h7 zt1
    obtain ⟨o8,e1,i3,i4,o9⟩:=aD.lendBp i2 zt1
    obtain ⟨p0,i5,hm⟩:=aB hm
    exact cG call40 (aHX (t:=⟨a.N,a.I,a.L,p⟩) i5 i4 i3 (h8.mono (Hp.le_trans i0 e1)) (i1.mono e1)) aJ
   ·exact aJ
  obtain ⟨p1,i6,ho⟩:=aB hm
  refine bQ [0,4,11] i6 (fun Z a4 f w=>∃ a5 a6,f 12=zS a5 Z.length a6/\f 13=i64 a4/\aD G K (aF 90 K a5 a6 Z::box z 27 (zC a g h k l)::aF 9 K g h a.L::aF 90 K k l a.E::box b1 88 [zS a2 b.length c3,i64 i,Value.int .u64 j]::box e 27 d::L) w) aJ ?_
  ·rintro Z a4 e2 f p2 hm hr ⟨a5,a6,p3,p4,p5⟩
   unfold pB at hm
   refine aC ?_
   rcases aI hm with ⟨i7,hm⟩|⟨i7,hm⟩
   ·refine aC ?_;refine aK [0,4,11,13] (fun f w=>∃ a7 a9 b0,pA a4 a7=some e2/\f 12=zS a9 a7.length b0/\aD G K (aF 90 K a9 b0 a7::box z 27 (zC a g h k l)::aF 9 K g h a.L::aF 90 K k l a.E::box b1 88 [zS a2 b.length c3,i64 i,Value.int .u64 j]::box e 27 d::L) w) ?_ ?_
    ·rintro f p6 ⟨a7,a9,b0,hm,i8,i9⟩
     unfold pA at hm
     refine aC ?_;exact ⟨_,(zI hm).symm,aR,a9,b0,i8,rfl,i9⟩
    refine aC ?_;exact aW [0,4,11,12,13] (fun f w=>∃ e3,jP a Z a4 e3=some e2/\f 113=Value.bool e3/\aD G K (aF 90 K a5 a6 Z::box z 27 (zC a g h k l)::aF 9 K g h a.L::aF 90 K k l a.E::box b1 88 [zS a2 b.length c3,i64 i,Value.int .u64 j]::box e 27 d::L) w) aJ aJ
   ·exact aJ
 obtain ⟨p7,j0,ho⟩:=aB hm
 refine uX [0,4,5,6,8] j0 (fun b2 b3 a0 n f w=>∃ b4 b6,f 7=zS b4 a0.length b6/\f 9=i64 n/\aD G K (box b1 88 [zS a2 b.length c3,i64 b2,Value.int .u64 b3]::aF 90 K b4 b6 a0::box o 27 [i64 (wr (1+c.1)),i64 0,zS none 0 0,zS none 0 0]::aF 9 K m 5 ([([116,97,117]:aH),([97]:aH),([98]:aH),([99]:aH),([103,101,116,40,48,41]:aH)]:List aH)::box e 27 d::L) w) aJ ?_
 ·rintro b2 b3 a0 n d0 f p8 hm hr ⟨b4,b6,j1,p9,q0⟩
  unfold nH at hm
  refine aC ?_
  rcases aI hm with ⟨j2,hm⟩|⟨j2,hm⟩
  ·refine aC ?_;refine aK [0,4,5,6,8,9] (fun f w=>∃ d1 d2 b7 b8 b9,tG n d1 d2 b7=some d0/\f 7=zS b8 b7.length b9/\aD G K (aF 90 K b8 b9 b7::box b1 88 [zS a2 b.length c3,i64 d1,Value.int .u64 d2]::box o 27 [i64 (wr (1+c.1)),i64 0,zS none 0 0,zS none 0 0]::aF 9 K m 5 ([([116,97,117]:aH),([97]:aH),([98]:aH),([99]:aH),([103,101,116,40,48,41]:aH)]:List aH)::box e 27 d::L) w) ?_ ?_
   ·rintro f q1 ⟨d1,d2,b7,b8,b9,hm,j3,q2⟩
    unfold tG at hm
    refine aC ?_;exact ⟨_,(zI hm).symm,aR,b8,b9,j3,rfl,lI⟩
   refine aC ?_;refine aK [0,4,5,6,8,9] (fun f w=>∃ e4 e5 d3 e6 e7,yK b c n e4 e5 d3=some d0/\f 7=zS e6 d3.length e7/\aD G K (aF 90 K e6 e7 d3::box b1 88 [zS a2 b.length c3,i64 e4,Value.int .u64 e5]::box o 27 [i64 (wr (1+c.1)),i64 0,zS none 0 0,zS none 0 0]::aF 9 K m 5 ([([116,97,117]:aH),([97]:aH),([98]:aH),([99]:aH),([103,101,116,40,48,41]:aH)]:List aH)::box e 27 d::L) w) aJ ?_
   obtain ⟨q3,j4,ho⟩:=aB hm
   refine uX [0,4,5,6,8,9] j4 (fun c0 c1 q u f w=>∃ x y,f 7=zS x q.length y/\f 10=i64 u/\aD G K (box b1 88 [zS a2 b.length c3,i64 c0,Value.int .u64 c1]::aF 90 K x y q::box o 27 [i64 (wr (1+c.1)),i64 0,zS none 0 0,zS none 0 0]::aF 9 K m 5 ([([116,97,117]:aH),([97]:aH),([98]:aH),([99]:aH),([103,101,116,40,48,41]:aH)]:List aH)::box e 27 d::L) w) aJ ?_
   ·rintro c0 c1 q u j5 f q4 hm hr ⟨x,y,d4,q5,j6⟩
    unfold pD at hm
    refine aC ?_
    rcases aI hm with ⟨j7,hm⟩|⟨j7,hm⟩
    ·refine aC ?_;refine aK [0,4,5,6,8,9,10] (fun f w=>∃ d5 d6 c2 c4 c5,pC u d5 d6 c2=some j5/\f 7=zS c4 c2.length c5/\aD G K (box b1 88 [zS a2 b.length c3,i64 d5,Value.int .u64 d6]::aF 90 K c4 c5 c2::box o 27 [i64 (wr (1+c.1)),i64 0,zS none 0 0,zS none 0 0]::aF 9 K m 5 ([([116,97,117]:aH),([97]:aH),([98]:aH),([99]:aH),([103,101,116,40,48,41]:aH)]:List aH)::box e 27 d::L) w) ?_ ?_
     ·rintro f q6 ⟨d5,d6,c2,c4,c5,hm,j8,j9⟩
      unfold pC at hm
      refine aC ?_;exact ⟨_,(zI hm).symm,aR,c4,c5,j8,rfl,j9⟩
     refine aC ?_;obtain ⟨e8,k0,hm⟩:=aB hm
     refine cG call17 (bJ k0 j6 r) ?_
     rintro _ q7 ⟨rfl,e9⟩
     refine aC ?_
     rcases aI hm with ⟨k1,hm⟩|⟨k1,hm⟩
     ·refine aC ?_;exact ⟨aR,e8.2.1,e8.2.2,q,x,y,hm,d4,e9⟩
     ·refine aC ?_;obtain ⟨f0,k2,hm⟩:=aB hm
      refine cG call15 (wS k2 e9 r) ?_
      rintro _ q8 ⟨rfl,f1⟩
      refine aC ?_
      rcases aI hm with ⟨k3,hm⟩|⟨k3,hm⟩
      ·refine aC ?_;obtain ⟨a1,k4,hm⟩:=aB hm
       refine cG call17 (bJ k4 f1 r) ?_
       rintro _ q9 ⟨rfl,r0⟩
       refine aL (jZ (vs:=[(0,i64 n),(1,i64 u),(2,i64 a1.1)]) (cs:=[i64 n,i64 u,i64 a1.1]) aMu rfl (by kernel_rfl)) (nW ([⟨n,u,a1.1⟩]:List Edge) fun r1 r2 r3=>?_);obtain ⟨k5,r4,hm⟩:=aB hm
       refine aIw fun k6 k7 r5 k8=>?_;refine aC ?_
       exact ⟨aR,a1.2.1,a1.2.2,k5,k6,k7,hm,rfl,k8⟩
      ·refine aC ?_;exact ⟨aR,f0.2.1,f0.2.2,q,x,y,hm,d4,f1⟩
    ·refine aC ?_
     have k9:=hr _ (zI hm).symm
     subst k9
     have hm:(yK b c n c0 c1 q)=some d0:=ho
     clear hr ho
     refine aC ?_;exact ⟨aR,c0,c1,q,x,y,hm,d4,lI⟩
  ·refine aC ?_
   have l0:=hr _ (zI hm).symm
   subst l0
   have hm:(tF b c b2 b3 a0)=some R:=ho
   clear hr ho
   refine aC ?_;exact ⟨aR,b2,b3,a0,b4,b6,hm,j1,lI⟩
theorem aGm {g:(List UInt8)} {J V:Int} {R:(aO × Int × Int)} (hm:aCY g J V=some R) (hs:aD G K (box b1 88 [zS a2 g.length c3,i64 J,Value.int .u64 V]::L) w) (h4:aN K a2 c3 g):
  Calls prog 13 ([zP (some ⟨b1,0,none⟩)]:List Value).toArray w (dS fun v w'=>∃ b9 c0 c1 c2 c4 c5 c6 c7,v=zA (zEa R.1 b9 c0 c1 c2 c4 c5 c6 c7)/\aD G K (aF 9 K b9 c0 R.1.S.L::aF 90 K c1 c2 R.1.S.E::aF 2 K c4 c5 R.1.M::aF 9 K c6 c7 R.1.C::box b1 88 [zS a2 g.length c3,i64 R.2.1,Value.int .u64 R.2.2]::L) w'):=by
 let k:=zK
 refine cH func13 ?_;unfold aCY at hm
 refine aC ?_;refine kK fun l w6 g1=>?_
 refine aC ?_
 have d9:aD G K (box b1 88 [zS a2 g.length c3,i64 J,Value.int .u64 V]::box l 30 k::L) w6:=lI
 obtain ⟨a,e0,hm⟩:=aB hm
 refine cG call14 (aAM e0 d9 h4) ?_
 rintro _ g2 ⟨b,c,d,e,rfl,g3⟩
 refine nW ([]:List Int) fun c8 g4 g5=>?_;refine nW ([]:List aH) fun m g6 g7=>?_
 refine aL (jZ (vs:=[(0,zA (zCa a.1 b c d e)),(1,zS c8 ([]:List Int).length 0),(2,zS m ([]:List aH).length 0)]) (cs:=[i64 a.1.N,i64 a.1.I,zS b a.1.L.length c,zS d a.1.E.length e,zS c8 ([]:List Int).length 0,zS m ([]:List aH).length 0]) aOE rfl (by kernel_rfl)) (kK fun n g8 g9=>?_);refine kZ fun h0 h1=>?_
 refine aC ?_;refine aK [0,2,3] (fun f w=>∃ Z a0 h i j,aBF g a Z a0 h=some R/\aD G K (aF 2 K i j h::box n 30 [i64 a.1.N,i64 a.1.I,zS b a.1.L.length c,zS d a.1.E.length e,zS i h.length j,zS m ([]:List aH).length 0]::aF 9 K m 0 ([]:List aH)::aF 9 K b c a.1.L::aF 90 K d e a.1.E::box b1 88 [zS a2 g.length c3,i64 Z,Value.int .u64 a0]::box l 30 k::L) w) ?_ ?_
 ·rintro f h2 ⟨Z,a0,h,i,j,hm,h3⟩
  unfold aBF at hm
  refine aC ?_;refine nW ([([97]:aH),([98]:aH),([99]:aH),([103,101,116]:aH)]:List aH) fun a1 h5 h6=>?_
  refine aC ?_;refine aK [2,3] (fun f w=>∃ a3 c9 d0 d1 d2,aEB a h a3 c9 d0=some R/\aD G K (aF 9 K d1 d2 a3::aF 2 K i j h::box n 30 [i64 a.1.N,i64 a.1.I,zS b a.1.L.length c,zS d a.1.E.length e,zS i h.length j,zS d1 a3.length d2]::aF 9 K b c a.1.L::aF 90 K d e a.1.E::box b1 88 [zS a2 g.length c3,i64 c9,Value.int .u64 d0]::box l 30 k::L) w) aJ ?_
  obtain ⟨h7,e1,ho⟩:=aB hm
  refine uX [0,2,3,5] e1 (fun a4 a5 o a6 f w=>∃ p q,f 6=i64 a6/\aD G K (aF 9 K a1 4 ([([97]:aH),([98]:aH),([99]:aH),([103,101,116]:aH)]:List aH)::aF 2 K i j h::box n 30 [i64 a.1.N,i64 a.1.I,zS b a.1.L.length c,zS d a.1.E.length e,zS i h.length j,zS p o.length q]::aF 9 K p q o::aF 9 K b c a.1.L::aF 90 K d e a.1.E::box b1 88 [zS a2 g.length c3,i64 a4,Value.int .u64 a5]::box l 30 k::L) w) aJ ?_
  ·rintro a4 a5 o a6 e2 f e3 hm hr ⟨p,q,h8,h9⟩
   unfold tH at hm
   refine aC ?_
   rcases aI hm with ⟨e4,hm⟩|⟨e4,hm⟩
   ·refine aC ?_;refine aK [0,2,3,5,6] (fun f w=>∃ a7 a8 r t u,xH a6 a7 a8 r=some e2/\aD G K (aF 9 K t u r::aF 9 K a1 4 ([([97]:aH),([98]:aH),([99]:aH),([103,101,116]:aH)]:List aH)::aF 2 K i j h::box n 30 [i64 a.1.N,i64 a.1.I,zS b a.1.L.length c,zS d a.1.E.length e,zS i h.length j,zS t r.length u]::aF 9 K b c a.1.L::aF 90 K d e a.1.E::box b1 88 [zS a2 g.length c3,i64 a7,Value.int .u64 a8]::box l 30 k::L) w) ?_ ?_
    ·rintro f i0 ⟨a7,a8,r,t,u,hm,i1⟩
     unfold xH at hm
     refine aC ?_;exact ⟨_,(zI hm).symm,aR,t,u,rfl,lI⟩
    refine aC ?_
    have e5:aD G K (box b1 88 [zS a2 g.length c3,i64 a4,Value.int .u64 a5]::aF 9 K a1 4 ([([97]:aH),([98]:aH),([99]:aH),([103,101,116]:aH)]:List aH)::aF 2 K i j h::box n 30 [i64 a.1.N,i64 a.1.I,zS b a.1.L.length c,zS d a.1.E.length e,zS i h.length j,zS p o.length q]::aF 9 K p q o::aF 9 K b c a.1.L::aF 90 K d e a.1.E::box l 30 k::L) e3:=lI
    obtain ⟨i2,e6,hm⟩:=aB hm
    refine cG call17 (bJ e6 e5 h4) ?_
    rintro _ i3 ⟨rfl,e7⟩
    refine aC ?_
    rcases aI hm with ⟨e8,hm⟩|⟨e8,hm⟩
    ·refine aC ?_;obtain ⟨i4,i5,d3,e9,f0⟩:=aD.lendSp e7 (zR _) zt1
     obtain ⟨i6,d4,i7,i8,f1⟩:=aD.lendBp e9 zt2
     refine wW [(0,0),(1,0),(2,0),(3,0),(4,0),(5,0),(6,1),(7,1),(8,0),(9,2)] fun i9 j0=>?_;refine aC ?_
     obtain ⟨f2,a9,hm⟩:=aB hm
     have f3:=aCz (d3.mono d4) a9
     refine bN rfl (fun _ _=>bV qX rfl f3 rfl rfl rfl a9) ?_;obtain ⟨j1,j2,f4⟩:=aN.el (sz:=1) rfl (d3.mono d4) a9
     cases f4
     refine aC ?_;refine fF rfl (nW ([f2]:List aH) fun j3 j4 f5=>?_)
     refine aM (aG ⟨⟨_,f5⟩,?_⟩)
     refine fF rfl ?_;obtain ⟨j5,j6,hm⟩:=aB hm
     refine aIw fun j7 j8 j9 d5=>?_;refine aM (aG ⟨⟨_,d5⟩,?_⟩)
     refine aC ?_
     have f6:=f1 _ _ d5
     have k0:=f0 _ _ f6
     exact aJ
    ·exact aJ
   ·exact aJ
 obtain ⟨k1,f7,ho⟩:=aB hm
 refine uX [0,2,3] f7 (fun d6 d7 b0 b2 f w=>∃ b3 b4,f 4=i64 b2/\aD G K (box n 30 [i64 a.1.N,i64 a.1.I,zS b a.1.L.length c,zS d a.1.E.length e,zS b3 b0.length b4,zS m ([]:List aH).length 0]::aF 9 K m 0 ([]:List aH)::aF 2 K b3 b4 b0::aF 9 K b c a.1.L::aF 90 K d e a.1.E::box b1 88 [zS a2 g.length c3,i64 d6,Value.int .u64 d7]::box l 30 k::L) w) aJ ?_
 ·rintro d6 d7 b0 b2 f8 f k2 hm hr ⟨b3,b4,k3,k4⟩
  unfold tI at hm
  refine aC ?_
  rcases aI hm with ⟨f9,hm⟩|⟨f9,hm⟩
  ·refine aC ?_;refine aK [0,2,3,4] (fun f w=>∃ b6 b7 x y z,xI b2 b6 b7 x=some f8/\aD G K (aF 2 K y z x::box n 30 [i64 a.1.N,i64 a.1.I,zS b a.1.L.length c,zS d a.1.E.length e,zS y x.length z,zS m ([]:List aH).length 0]::aF 9 K m 0 ([]:List aH)::aF 9 K b c a.1.L::aF 90 K d e a.1.E::box b1 88 [zS a2 g.length c3,i64 b6,Value.int .u64 b7]::box l 30 k::L) w) ?_ ?_
   ·rintro f k5 ⟨b6,b7,x,y,z,hm,k6⟩
    unfold xI at hm
    refine aC ?_;exact ⟨_,(zI hm).symm,aR,y,z,rfl,lI⟩
   exact aJ
  ·exact aJ
theorem aDx {a:(List UInt8)} {t u:Int} {R:((List aH) × Int × Int)} (hm:xJ a t u=some R) (hs:aD G K (box b1 88 [zS a2 a.length c3,i64 t,Value.int .u64 u]::L) w) (h4:aN K a2 c3 a):
  Calls prog 134 ([zP (some ⟨b1,0,none⟩)]:List Value).toArray w (dS fun v w'=>∃ x y,v=zS x R.1.length y/\aD G K (aF 9 K x y R.1::box b1 88 [zS a2 a.length c3,i64 R.2.1,Value.int .u64 R.2.2]::L) w'):=by
 refine cH func134 ?_;unfold xJ at hm
 refine aC ?_;refine nW ([([116,97,117]:aH)]:List aH) fun a5 w6 b5=>?_
 refine aC ?_;refine nW ([([97]:aH),([98]:aH),([99]:aH),([103,101,116,40,48,41]:aH),([103,101,116,40,49,41]:aH)]:List aH) fun m w9 b7=>?_
 refine aC ?_;refine aK [] (fun f w=>∃ e b c n o,wK e b c=some R/\f 3=zS n e.length o/\aD G K (aF 9 K n o e::box b1 88 [zS a2 a.length c3,i64 b,Value.int .u64 c]::L) w) ?_ ?_
 ·rintro f b8 ⟨e,b,c,n,o,hm,b9,c0⟩
  unfold wK at hm
  iterate 1 refine cO ?_
  exact sV [] (fun f w=>∃ p z J,wJ b c p=some R/\f 3=zS z p.length J/\aD G K (aF 9 K z J p::box b1 88 [zS a2 a.length c3,i64 b,Value.int .u64 c]::L) w) aJ aJ
 obtain ⟨c1,a6,ho⟩:=aB hm
 refine uX [0,4] a6 (fun V Z d g f w=>∃ h i,f 3=zS h d.length i/\f 5=i64 g/\aD G K (aF 9 K m 5 ([([97]:aH),([98]:aH),([99]:aH),([103,101,116,40,48,41]:aH),([103,101,116,40,49,41]:aH)]:List aH)::aF 9 K h i d::box b1 88 [zS a2 a.length c3,i64 V,Value.int .u64 Z]::L) w) aJ ?_
 ·rintro V Z d g a0 f c2 hm hr ⟨h,i,c4,c5,c6⟩
  unfold nI at hm
  refine aC ?_
  rcases aI hm with ⟨a7,hm⟩|⟨a7,hm⟩
  ·refine aC ?_;refine aK [0,4,5] (fun f w=>∃ q r j k l,kM g q r j=some a0/\f 3=zS k j.length l/\aD G K (aF 9 K k l j::aF 9 K m 5 ([([97]:aH),([98]:aH),([99]:aH),([103,101,116,40,48,41]:aH),([103,101,116,40,49,41]:aH)]:List aH)::box b1 88 [zS a2 a.length c3,i64 q,Value.int .u64 r]::L) w) ?_ ?_
   ·rintro f c7 ⟨q,r,j,k,l,hm,a9,c8⟩
    unfold kM at hm
    refine aC ?_;exact ⟨_,(zI hm).symm,aR,k,l,a9,rfl,lI⟩
   iterate 1 refine cO ?_
   exact aW [0,3,4,5] (fun f w=>∃ a1 a3 a4,rA d g a1 a3 a4=some a0/\f 20=Value.bool a4/\aD G K (aF 9 K m 5 ([([97]:aH),([98]:aH),([99]:aH),([103,101,116,40,48,41]:aH),([103,101,116,40,49,41]:aH)]:List aH)::aF 9 K h i d::box b1 88 [zS a2 a.length c3,i64 a1,Value.int .u64 a3]::L) w) aJ aJ
  ·exact aJ
theorem aDy {a:(List UInt8)} {c d:Int} {b:(List Int)} {R:(Int × Int × Int)} (hm:aBG a c d b=some R) (e:aD G K (box b1 88 [zS a2 a.length c3,i64 c,Value.int .u64 d]::L) w) (g:aN K a2 c3 a) (h:aN K a5 c6 b):
  Calls prog 135 ([zP (some ⟨b1,0,none⟩),zS a5 b.length c6]:List Value).toArray w (dS fun v w'=>v=i64 R.1/\aD G K (box b1 88 [zS a2 a.length c3,i64 R.2.1,Value.int .u64 R.2.2]::L) w'):=by
 exact aJ
theorem aKy {b:(List UInt8)} {e5 e6:Int} {R:(aP × Int × Int)} (hm:aCZ b e5 e6=some R) (hs:aD G K (box b1 88 [zS a2 b.length c3,i64 e5,Value.int .u64 e6]::L) w) (o:aN K a2 c3 b):
  Calls prog 92 ([zP (some ⟨b1,0,none⟩)]:List Value).toArray w (dS fun v w'=>∃ i3 i4 i5 i6,v=zA (zCa R.1 i3 i4 i5 i6)/\aD G K (aF 9 K i3 i4 R.1.L::aF 90 K i5 i6 R.1.E::box b1 88 [zS a2 b.length c3,i64 R.2.1,Value.int .u64 R.2.2]::L) w'):=by
 let e:=zG
 refine nT func92 rfl (by kernel_rfl) (by show (1:Nat)<=125;decide) ?_;unfold aCZ at hm
 refine bS (fG (vs:=e) zeroValue27 hs rfl (fun g w6 k8=>(bF (bS (aU (v:=zP (some ⟨b1,0,none⟩)) ?_)))))
 have k9:aD G K (box b1 88 [zS a2 b.length c3,i64 e5,Value.int .u64 e6]::box g 27 e::L) w6:=(aD.arr 2 [1,0] k8 rfl)
 obtain ⟨j,l0,hm⟩:=aB hm
 refine cI (vs:=[zP (some ⟨b1,0,none⟩),i64 4]) call17 rfl (bJ l0 k9 o) ?_
 rintro _ t8 ⟨rfl,l1⟩
 refine aL (uW rfl rfl) (bH (v:=i64 (wr (1+j.1))) (bF (bS (aU (v:=i64 (wr (1+j.1))) (aU (v:=zP (some ⟨b1,0,none⟩)) (aU (v:=i64 (wr (1+j.1))) (aL (R_sub rfl rfl) ?_)))))));obtain ⟨p,l2,hm⟩:=aB hm
 refine cI (vs:=[zP (some ⟨b1,0,none⟩),i64 (wr (7 - (wr (1+j.1))))]) call17 rfl (bJ l2 l1 o) ?_
 rintro _ t9 ⟨rfl,l3⟩
 refine aL (uW rfl rfl) (bH (v:=i64 (wr ((wr (1+j.1))+p.1))) (bF (bS (aU (v:=zP (some ⟨b1,0,none⟩)) ?_))));obtain ⟨a,l4,hm⟩:=aB hm
 refine cI (vs:=[zP (some ⟨b1,0,none⟩)]) call134 rfl (aDx l4 l3 o) ?_
 rintro _ u0 ⟨c,d,rfl,l5⟩
 refine bH (v:=zS c a.1.length d) (bF (bS (iG (Kt:=K) (xs:=([]:List Int)) (cs:=[]) (vs:=[]) eN aHr rfl rfl l5 rfl (by kernel_rfl) rfl rfl rfl trivial (fun e7 l6 (l7:aD G K (aF 2 K e7 0 ([]:List Int)::aF 9 K c d a.1::box b1 88 [zS a2 b.length c3,i64 a.2.1,Value.int .u64 a.2.2]::box g 27 e::L) l6)=>(bH (v:=zS e7 ([]:List Int).length 0) (bF (bI (bS (bH (v:=i64 0) (bF (aK [0,2,3,4,5] (fun f w=>∃ b6 b7 k l m,vB b j p a b6 b7 k=some R/\f 6=zS l k.length m/\aD G K (aF 2 K l m k::aF 9 K c d a.1::box b1 88 [zS a2 b.length c3,i64 b6,Value.int .u64 b7]::box g 27 e::L) w) ?_ ?_)))))))))))
 ·rintro f u1 ⟨b6,b7,k,l,m,hm,i7,l8⟩
  unfold vB at hm
  refine aG (bS (iG (Kt:=K) (xs:=([]:List Edge)) (cs:=[]) (vs:=[]) eU aFc rfl rfl l8 rfl (by kernel_rfl) rfl rfl rfl trivial (fun e8 i8 (l9:aD G K (aF 90 K e8 0 ([]:List Edge)::aF 2 K l m k::aF 9 K c d a.1::box b1 88 [zS a2 b.length c3,i64 b6,Value.int .u64 b7]::box g 27 e::L) i8)=>(bH (v:=zS e8 ([]:List Edge).length 0) (bF (bI (bS (aU (v:=zP (some ⟨b1,0,none⟩)) (aU (v:=i64 (wr (1+j.1))) (aL (R_mul rfl rfl) (aL (uW rfl rfl) ?_)))))))))))
  have m0:aD G K (box b1 88 [zS a2 b.length c3,i64 b6,Value.int .u64 b7]::aF 90 K e8 0 ([]:List Edge)::aF 2 K l m k::aF 9 K c d a.1::box g 27 e::L) i8:=(aD.arr 4 [3,0,1,2] l9 rfl)
  obtain ⟨m1,m2,hm⟩:=aB hm
  refine cI (vs:=[zP (some ⟨b1,0,none⟩),i64 (wr (2+(wr (2 * (wr (1+j.1))))))]) call17 rfl (bJ m2 m0 o) ?_
  rintro _ u2 ⟨rfl,u3⟩
  refine bH (v:=i64 m1.1) (bF (aK [0,2,4,5] (fun f w=>∃ c0 c1 b8 c2 c48,xL b j p a c0 c1 b8=some R/\f 8=zS c2 b8.length c48/\aD G K (aF 90 K c2 c48 b8::box b1 88 [zS a2 b.length c3,i64 c0,Value.int .u64 c1]::aF 9 K c d a.1::box g 27 e::L) w) ?_ ?_))
  ·rintro f m3 ⟨c0,c1,b8,c2,c48,hm,m4,m5⟩
   unfold xL at hm
   refine aG (sV [0,2,4,5] (fun f w=>∃ i9 j0 e9 j1 j2,xK b j p a i9 j0 e9=some R/\f 8=zS j1 e9.length j2/\aD G K (aF 90 K j1 j2 e9::box b1 88 [zS a2 b.length c3,i64 i9,Value.int .u64 j0]::aF 9 K c d a.1::box g 27 e::L) w) aJ (bS (aU (v:=zP (some ⟨b1,0,none⟩)) ?_)))
   have m6:aD G K (box b1 88 [zS a2 b.length c3,i64 c0,Value.int .u64 c1]::aF 90 K c2 c48 b8::aF 9 K c d a.1::box g 27 e::L) m3:=(aD.arr 2 [1,0] m5 rfl)
   obtain ⟨u4,m7,hm⟩:=aB hm
   refine cI (vs:=[zP (some ⟨b1,0,none⟩),i64 3]) call15 rfl (wS m7 m6 o) ?_
   rintro _ u5 ⟨rfl,m8⟩
   refine bF ?_
   rcases aI hm with ⟨j3,hm⟩|⟨j3,hm⟩
   ·refine cP j3 rfl (cK (gN m4 (aU (v:=zP (some ⟨b1,0,none⟩)) (aU (v:=i64 (wr ((wr (1+j.1))+p.1))) ?_))));obtain ⟨u6,m9,hm⟩:=aB hm
    refine cI (vs:=[zP (some ⟨b1,0,none⟩),i64 (wr ((wr (1+j.1))+p.1))]) call17 rfl (bJ m9 m8 o) ?_
    rintro _ u7 ⟨rfl,n0⟩
    refine aU (v:=zP (some ⟨b1,0,none⟩)) (aU (v:=zS c a.1.length d) (aL (mV (len:=a.1.length) qX rfl) ?_));obtain ⟨u8,n1,hm⟩:=aB hm
    refine cI (vs:=[zP (some ⟨b1,0,none⟩),i64 (a.1.length:Int)]) call17 rfl (bJ n1 n0 o) ?_
    rintro _ u9 ⟨rfl,n2⟩
    refine aU (v:=zP (some ⟨b1,0,none⟩)) (aU (v:=i64 (wr ((wr (1+j.1))+p.1))) ?_);obtain ⟨v0,n3,hm⟩:=aB hm
    exact cI (vs:=[zP (some ⟨b1,0,none⟩),i64 (wr ((wr (1+j.1))+p.1))]) call17 rfl (bJ n3 n2 o) aJ
   ·exact aJ
  obtain ⟨v1,n4,ho⟩:=aB hm
  refine uX [0,2,3,4,5,6] n4 (fun c4 c5 b9 a9 f w=>∃ c6 c7,f 8=zS c6 b9.length c7/\f 9=i64 a9/\aD G K (box b1 88 [zS a2 b.length c3,i64 c4,Value.int .u64 c5]::aF 90 K c6 c7 b9::aF 2 K l m k::aF 9 K c d a.1::box g 27 e::L) w) aJ ?_
  ·rintro c4 c5 b9 a9 f0 f v2 hm hr ⟨c6,c7,n5,j4,j5⟩
   unfold qH at hm
   refine bI (bS (gN j4 (aL (aOs rfl rfl) (bF ?_))))
   rcases aI hm with ⟨f1,hm⟩|⟨f1,hm⟩
   ·refine cP f1 rfl (dD (aG (bI (aK [0,2,3,4,5,6,9] (fun f w=>∃ f2 f3 c8 c9 d0,aBH a9 f2 f3 c8=some f0/\f 8=zS c9 c8.length d0/\aD G K (aF 90 K c9 d0 c8::box b1 88 [zS a2 b.length c3,i64 f2,Value.int .u64 f3]::aF 2 K l m k::aF 9 K c d a.1::box g 27 e::L) w) ?_ ?_))))
    ·rintro f v3 ⟨f2,f3,c8,c9,d0,hm,n6,n7⟩
     unfold aBH at hm
     exact aG (cK (gN j4 (aL (R_sub rfl rfl) (bH (v:=i64 (wr (a9 - 1))) (bF ⟨_,(zI hm).symm,aR,c9,d0,n6,rfl,(aD.arr 2 [1,0] n7 rfl)⟩)))))
    refine bS (aU (v:=zP (some ⟨b1,0,none⟩)) (aU (v:=i64 (wr (1+j.1))) ?_));obtain ⟨j6,n8,hm⟩:=aB hm
    refine cI (vs:=[zP (some ⟨b1,0,none⟩),i64 (wr (1+j.1))]) call17 rfl (bJ n8 j5 o) ?_
    rintro _ v4 ⟨rfl,n9⟩
    refine bH (v:=i64 j6.1) (bF (bS (aU (v:=zP (some ⟨b1,0,none⟩)) (aU (v:=zS c a.1.length d) (aL (mV (len:=a.1.length) qX rfl) ?_)))));obtain ⟨J,o0,hm⟩:=aB hm
    refine cI (vs:=[zP (some ⟨b1,0,none⟩),i64 (a.1.length:Int)]) call17 rfl (bJ o0 n9 o) ?_
    rintro _ v5 ⟨rfl,o1⟩
    refine bH (v:=i64 J.1) (bF (bS (aU (v:=zP (some ⟨b1,0,none⟩)) (aU (v:=i64 (wr (1+j.1))) ?_))));obtain ⟨j7,o2,hm⟩:=aB hm
    refine cI (vs:=[zP (some ⟨b1,0,none⟩),i64 (wr (1+j.1))]) call17 rfl (bJ o2 o1 o) ?_
    rintro _ v6 ⟨rfl,v7⟩
    refine bH (v:=i64 j7.1) (bF (bS (bH (v:=i64 0) (bF (aK [0,2,3,4,5,6,9] (fun f w=>∃ j8 j9 f4 k0 k1,aBI a9 j8 j9 f4=some f0/\f 8=zS k0 f4.length k1/\aD G K (aF 90 K k0 k1 f4::box b1 88 [zS a2 b.length c3,i64 j8,Value.int .u64 j9]::aF 2 K l m k::aF 9 K c d a.1::box g 27 e::L) w) aJ ?_)))));obtain ⟨v8,o3,ho⟩:=aB hm
    refine uX [0,2,3,4,5,6,9,10,11,12] o3 (fun q r n u f w=>∃ y z,f 8=zS y n.length z/\f 13=i64 u/\aD G K (box b1 88 [zS a2 b.length c3,i64 q,Value.int .u64 r]::aF 90 K y z n::aF 2 K l m k::aF 9 K c d a.1::box g 27 e::L) w) aJ ?_
    ·rintro q r n u f5 f v9 hm hr ⟨y,z,k2,d1,d2⟩
     unfold tJ at hm
     refine bI (bS (gN d1 (aU (v:=i64 (wr ((wr (1+j.1))+p.1))) (aL (wZ rfl rfl) (bF ?_)))))
     rcases aI hm with ⟨f6,hm⟩|⟨f6,hm⟩
     ·refine cP f6 rfl (dD (aG (bI (aK [0,2,3,4,5,6,9,10,11,12,13] (fun f w=>∃ f7 f8 d3 d4 d5,xM u f7 f8 d3=some f5/\f 8=zS d4 d3.length d5/\aD G K (box b1 88 [zS a2 b.length c3,i64 f7,Value.int .u64 f8]::aF 90 K d4 d5 d3::aF 2 K l m k::aF 9 K c d a.1::box g 27 e::L) w) ?_ ?_))))
      ·rintro f w0 ⟨f7,f8,d3,d4,d5,hm,o4,o5⟩
       unfold xM at hm
       exact aG (cK (gN d1 (aL (uW rfl rfl) (bH (v:=i64 (wr (u+1))) (bF ⟨_,(zI hm).symm,aR,d4,d5,o4,rfl,o5⟩)))))
      refine bI (bS (gN i7 (gN d1 ?_)));obtain ⟨w1,f9,hm⟩:=aB hm
      have k3:=bC d2 (i:=2) rfl f9
      refine aL (bV eN rfl k3 rfl rfl rfl f9) (aL (aCN (t:=0) oG d2 (i:=2) rfl f9 rfl rfl rfl) (aU (v:=i64 j6.1) (aL (R_neq rfl rfl) (bF ?_))))
      rcases aI hm with ⟨k4,hm⟩|⟨k4,hm⟩
      ·exact aJ
      ·refine bM k4 rfl (dD (aG (bS (iG (Kt:=K) (xs:=([]:List Int)) (cs:=[]) (vs:=[]) eN aHr rfl rfl d2 rfl (by kernel_rfl) rfl rfl rfl trivial (fun g0 o6 (o7:aD G K (aF 2 K g0 0 ([]:List Int)::box b1 88 [zS a2 b.length c3,i64 q,Value.int .u64 r]::aF 90 K y z n::aF 2 K l m k::aF 9 K c d a.1::box g 27 e::L) o6)=>(bH (v:=zS g0 ([]:List Int).length 0) (bF (bI (bS (bH (v:=i64 0) (bF (aK [0,2,3,4,5,6,8,9,10,11,12,13] (fun f w=>∃ a5 b0 b2,xN b J q r n u a5=some f5/\f 14=zS b0 a5.length b2/\aD G K (aF 2 K b0 b2 a5::box b1 88 [zS a2 b.length c3,i64 q,Value.int .u64 r]::aF 90 K y z n::aF 2 K l m k::aF 9 K c d a.1::box g 27 e::L) w) ?_ ?_))))))))))))
       ·rintro f w2 ⟨a5,b0,b2,hm,o8,o9⟩
        unfold xN at hm
        refine aG (cK (gN k2 (gN d1 (aU (v:=i64 J.1) (aU (v:=zP (some ⟨b1,0,none⟩)) (gN o8 ?_))))));obtain ⟨w3,p0,p1,p2,p3⟩:=aD.lendSp o9 (zR _) .head
        obtain ⟨x,p4,hm⟩:=aB hm
        refine cI (vs:=[zP (some ⟨b1,0,none⟩),zS b0 a5.length b2]) call135 rfl (aDy p4 p2 (o.mono p0) p1) ?_
        rintro _ w4 ⟨rfl,p5⟩
        have p6:=p3 _ _ p5
        refine aL (jZ (vs:=[(0,i64 u),(1,i64 J.1),(2,i64 x.1)]) (cs:=[i64 u,i64 J.1,i64 x.1]) aMu rfl (by kernel_rfl)) (iG (Kt:=K) (xs:=([⟨u,J.1,x.1⟩]:List Edge)) (cs:=[i64 u,i64 J.1,i64 x.1]) (vs:=[(0,zA #[i64 u,i64 J.1,i64 x.1])]) eU aFc rfl rfl p6 rfl (by kernel_rfl) rfl rfl rfl ⟨rfl,trivial⟩ (fun p7 p8 (p9:aD G K (aF 90 K p7 1 ([⟨u,J.1,x.1⟩]:List Edge)::aF 2 K b0 b2 a5::box b1 88 [zS a2 b.length c3,i64 x.2.1,Value.int .u64 x.2.2]::aF 90 K y z n::aF 2 K l m k::aF 9 K c d a.1::box g 27 e::L) p8)=>?_))
        obtain ⟨g1,q0,hm⟩:=aB hm
        exact aBl (i:=2) eU underlying25 aFc rfl rfl p9 rfl (zR _) (zR _) q0 rfl rfl rfl rfl (fun _ h=>h) (fun g2 g3 q1 (q2:aD G K (aF 2 K b0 b2 a5::box b1 88 [zS a2 b.length c3,i64 x.2.1,Value.int .u64 x.2.2]::aF 90 K g2 g3 g1::aF 2 K l m k::aF 9 K c d a.1::box g 27 e::L) q1)=>(bH (v:=zS g2 g1.length g3) (aM (iP (aG ⟨aR,x.2.1,x.2.2,g1,g2,g3,hm,rfl,(aD.arr 1 [] q2 rfl)⟩)))))
       obtain ⟨w5,q3,ho⟩:=aB hm
       refine bQ [0,2,3,4,5,6,8,9,10,11,12,13] q3 (fun a6 Z f w=>∃ b3 b4,f 14=zS b3 a6.length b4/\f 15=i64 Z/\aD G K (aF 2 K b3 b4 a6::box b1 88 [zS a2 b.length c3,i64 q,Value.int .u64 r]::aF 90 K y z n::aF 2 K l m k::aF 9 K c d a.1::box g 27 e::L) w) ?_ ?_
       ·exact ⟨g0,0,rfl,rfl,o7⟩
       ·rintro a6 Z q4 f w7 hm hr ⟨b3,b4,g4,d6,d7⟩
        unfold nA at hm
        refine bI (bS (gN d6 (aU (v:=i64 (wr ((wr (1+j.1))+p.1))) (aL (wZ rfl rfl) (bF ?_)))))
        rcases aI hm with ⟨g5,hm⟩|⟨g5,hm⟩
        ·refine cP g5 rfl (dD (aG (bI (aK [0,2,3,4,5,6,8,9,10,11,12,13,15] (fun f w=>∃ d8 d9 e0,xO Z d8=some q4/\f 14=zS d9 d8.length e0/\aD G K (aF 2 K d9 e0 d8::box b1 88 [zS a2 b.length c3,i64 q,Value.int .u64 r]::aF 90 K y z n::aF 2 K l m k::aF 9 K c d a.1::box g 27 e::L) w) ?_ ?_))))
         ·rintro f w8 ⟨d8,d9,e0,hm,q5,q6⟩
          unfold xO at hm
          exact aG (cK (gN d6 (aL (uW rfl rfl) (bH (v:=i64 (wr (Z+1))) (bF ⟨_,(zI hm).symm,aR,d9,e0,q5,rfl,q6⟩)))))
         refine bS (gN i7 (gN d6 ?_));obtain ⟨w9,k5,hm⟩:=aB hm
         refine aL (bV eN rfl k3 rfl rfl rfl k5) (aL (aCN (t:=0) oG d7 (i:=3) rfl k5 rfl rfl rfl) (aU (v:=i64 j7.1) (aL (aMg rfl rfl) (bF ?_))))
         rcases aI hm with ⟨g6,hm⟩|⟨g6,hm⟩
         ·refine cP g6 rfl (cK (gN g4 (gN d6 (iG (Kt:=K) (xs:=([Z]:List Int)) (cs:=[i64 Z]) (vs:=[(0,i64 Z)]) eN aHr rfl rfl d7 rfl (by kernel_rfl) rfl rfl rfl ⟨rfl,trivial⟩ (fun q7 q8 (q9:aD G K (aF 2 K q7 1 ([Z]:List Int)::aF 2 K b3 b4 a6::box b1 88 [zS a2 b.length c3,i64 q,Value.int .u64 r]::aF 90 K y z n::aF 2 K l m k::aF 9 K c d a.1::box g 27 e::L) q8)=>?_)))));obtain ⟨g7,r0,hm⟩:=aB hm
          exact aBl (i:=0) eN underlying28 aHr rfl rfl q9 rfl (zR _) (zR _) r0 rfl rfl rfl rfl (fun _ h=>h) (fun g8 g9 r1 (r2:aD G K (aF 2 K g8 g9 g7::box b1 88 [zS a2 b.length c3,i64 q,Value.int .u64 r]::aF 90 K y z n::aF 2 K l m k::aF 9 K c d a.1::box g 27 e::L) r1)=>(bH (v:=zS g8 g7.length g9) (aM (iP (aG ⟨aR,g7,g8,g9,hm,rfl,r2⟩)))))
         ·exact bM g6 rfl (dD (iP (aG ⟨aR,a6,b3,b4,hm,g4,d7⟩)))
        ·refine bM g5 rfl (wD (fH (fH ?_)))
         have r3:=hr _ (zI hm).symm
         subst r3
         have hm:(xN b J q r n u a6)=some f5:=ho
         clear hr ho
         exact qU (aG ⟨aR,a6,b3,b4,hm,g4,d7⟩)
     ·refine bM f6 rfl (wD (fH (fH ?_)))
      have r4:=hr _ (zI hm).symm
      subst r4
      have hm:(aBI a9 q r n)=some f0:=ho
      clear hr ho
      exact qU (aG ⟨aR,q,r,n,y,z,hm,k2,(aD.arr 2 [1,0] d2 rfl)⟩)
   ·refine bM f1 rfl (wD (fH (fH ?_)))
    have r5:=hr _ (zI hm).symm
    subst r5
    have hm:(xL b j p a c4 c5 b9)=some R:=ho
    clear hr ho
    exact qU (aG ⟨aR,c4,c5,b9,c6,c7,hm,n5,(aD.arr 3 [1,0] j5 rfl)⟩)
 obtain ⟨x0,r6,ho⟩:=aB hm
 refine uX [0,2,3,4,5] r6 (fun a0 a1 a3 a4 f w=>∃ a7 a8,f 6=zS a7 a3.length a8/\f 7=i64 a4/\aD G K (aF 2 K a7 a8 a3::aF 9 K c d a.1::box b1 88 [zS a2 b.length c3,i64 a0,Value.int .u64 a1]::box g 27 e::L) w) ?_ ?_
 ·exact ⟨e7,0,rfl,rfl,l7⟩
 ·rintro a0 a1 a3 a4 r7 f r8 hm hr ⟨a7,a8,h0,e1,h1⟩
  unfold qJ at hm
  refine bI (bS (gN e1 (aU (v:=i64 (wr ((wr (1+j.1))+p.1))) (aL (wZ rfl rfl) (bF ?_)))))
  rcases aI hm with ⟨h2,hm⟩|⟨h2,hm⟩
  ·refine cP h2 rfl (dD (aG (bI (aK [0,2,3,4,5,7] (fun f w=>∃ h3 h5 e2 e3 e4,qI a4 h3 h5 e2=some r7/\f 6=zS e3 e2.length e4/\aD G K (aF 2 K e3 e4 e2::aF 9 K c d a.1::box b1 88 [zS a2 b.length c3,i64 h3,Value.int .u64 h5]::box g 27 e::L) w) ?_ ?_))))
   ·rintro f x1 ⟨h3,h5,e2,e3,e4,hm,s0,s1⟩
    unfold qI at hm
    exact aG (cK (gN e1 (aL (uW rfl rfl) (bH (v:=i64 (wr (a4+1))) (bF ⟨_,(zI hm).symm,aR,e3,e4,s0,rfl,s1⟩)))))
   refine bS (gN e1 (aU (v:=i64 (wr (1+j.1))) (aL (wZ rfl rfl) (bF ?_))))
   rcases aI hm with ⟨h6,hm⟩|⟨h6,hm⟩
   ·refine cP h6 rfl (cK (gN h0 (gN e1 (iG (Kt:=K) (xs:=([a4]:List Int)) (cs:=[i64 a4]) (vs:=[(0,i64 a4)]) eN aHr rfl rfl h1 rfl (by kernel_rfl) rfl rfl rfl ⟨rfl,trivial⟩ (fun s2 s3 (s4:aD G K (aF 2 K s2 1 ([a4]:List Int)::aF 2 K a7 a8 a3::aF 9 K c d a.1::box b1 88 [zS a2 b.length c3,i64 a0,Value.int .u64 a1]::box g 27 e::L) s3)=>?_)))));obtain ⟨h7,s5,hm⟩:=aB hm
    exact aBl (i:=0) eN underlying28 aHr rfl rfl s4 rfl (zR _) (zR _) s5 rfl rfl rfl rfl (fun _ h=>h) (fun h8 h9 s6 (s7:aD G K (aF 2 K h8 h9 h7::aF 9 K c d a.1::box b1 88 [zS a2 b.length c3,i64 a0,Value.int .u64 a1]::box g 27 e::L) s6)=>(bH (v:=zS h8 h7.length h9) (aM (iP (aG ⟨aR,a0,a1,h7,h8,h9,hm,rfl,s7⟩)))))
   ·refine bM h6 rfl (cK (gN h0 (aU (v:=zP (some ⟨b1,0,none⟩)) (aU (v:=i64 (wr (1+j.1))) ?_))))
    have s8:aD G K (box b1 88 [zS a2 b.length c3,i64 a0,Value.int .u64 a1]::aF 2 K a7 a8 a3::aF 9 K c d a.1::box g 27 e::L) r8:=(aD.arr 3 [2,0,1] h1 rfl)
    obtain ⟨V,s9,hm⟩:=aB hm
    refine cI (vs:=[zP (some ⟨b1,0,none⟩),i64 (wr (1+j.1))]) call17 rfl (bJ s9 s8 o) ?_
    rintro _ x2 ⟨rfl,t0⟩
    refine iG (Kt:=K) (xs:=([V.1]:List Int)) (cs:=[i64 V.1]) (vs:=[(0,i64 V.1)]) eN aHr rfl rfl t0 rfl (by kernel_rfl) rfl rfl rfl ⟨rfl,trivial⟩ (fun t1 t2 (t3:aD G K (aF 2 K t1 1 ([V.1]:List Int)::box b1 88 [zS a2 b.length c3,i64 V.2.1,Value.int .u64 V.2.2]::aF 2 K a7 a8 a3::aF 9 K c d a.1::box g 27 e::L) t2)=>?_);obtain ⟨i0,t4,hm⟩:=aB hm
    exact aBl (i:=1) eN underlying28 aHr rfl rfl t3 rfl (zR _) (zR _) t4 rfl rfl rfl rfl (fun _ h=>h) (fun i1 i2 t5 (t6:aD G K (box b1 88 [zS a2 b.length c3,i64 V.2.1,Value.int .u64 V.2.2]::aF 2 K i1 i2 i0::aF 9 K c d a.1::box g 27 e::L) t5)=>(bH (v:=zS i1 i0.length i2) (aM (iP (aG ⟨aR,V.2.1,V.2.2,i0,i1,i2,hm,rfl,(aD.arr 3 [1,2,0] t6 rfl)⟩)))))
  ·refine bM h2 rfl (wD (fH (fH ?_)))
   have t7:=hr _ (zI hm).symm
   subst t7
   have hm:(vB b j p a a0 a1 a3)=some R:=ho
   clear hr ho
   exact qU (aG ⟨aR,a0,a1,a3,a7,a8,hm,h0,h1⟩)
theorem aJg {a:(List UInt8)} {r u:Int} {p:aO} {x:Nat} {R:(aP × Int × Int)} (hm:aAe a r u p=some R) (hs:aD G K (box b1 88 [zS a2 a.length c3,i64 r,Value.int .u64 u]::L) w) (h4:aN K a2 c3 a) (h7:bZ K a5 x (zE p a8 c9 a11 c12 a14 c15 a17 c18)) (a9:aN K a8 c9 p.S.L) (b0:aN K a11 c12 p.S.E) (d2:aN K a14 c15 p.M) (d3:aN K a17 c18 p.C):
  Calls prog 43 ([zP (some ⟨b1,0,none⟩),bR a5 x]:List Value).toArray w (dS fun v w'=>∃ y z J V,v=zA (zCa R.1 y z J V)/\aD G K (aF 9 K y z R.1.L::aF 90 K J V R.1.E::box b1 88 [zS a2 a.length c3,i64 R.2.1,Value.int .u64 R.2.2]::L) w'):=by
 let h:=zG
 refine cH func43 ?_;unfold aAe at hm
 refine aC ?_;refine kK fun j d4 d5=>?_
 iterate 4 refine cO ?_
 refine aW [0,1,4] (fun f w=>∃ c d k,lT a p c d k=some R/\f 22=Value.bool k/\aD G K (box j 27 h::box b1 88 [zS a2 a.length c3,i64 c,Value.int .u64 d]::L) w) ?_ ?_
 ·rintro f d6 ⟨c,d,k,hm,d7,b2⟩
  unfold lT at hm
  refine aC ?_
  rcases aI hm with ⟨b3,hm⟩|⟨b3,hm⟩
  ·refine aC ?_;obtain ⟨b,b4,hm⟩:=aB hm
   refine cG call16 (aFH b4 b2 (bZ.sub (t:=0) (m:=4) h7 rfl) a9 b0) ?_
   rintro _ d8 ⟨l,n,e,g,rfl,d9⟩
   refine kK fun b5 e0 e1=>?_;refine kZ fun b6 e2=>?_
   refine aC ?_
   have b7:aD G K (box b1 88 [zS a2 a.length c3,i64 c,Value.int .u64 d]::box b5 27 (zC b l n e g)::aF 9 K l n b.L::aF 90 K e g b.E::box j 27 h::L) b6:=lI
   obtain ⟨o,b8,hm⟩:=aB hm
   refine cG call17 (bJ b8 b7 h4) ?_
   rintro _ e3 ⟨rfl,b9⟩
   refine aC ?_;obtain ⟨c0,e4,e5,e6,c1⟩:=aD.lendBp b9 zt1
   refine wW [(0,0),(1,0),(2,0),(3,0),(4,0),(5,0),(6,0),(7,0),(8,0),(9,1),(10,0),(11,2)] fun e7 q=>?_;refine aC ?_
   obtain ⟨e8,Z,hm⟩:=aB hm
   have c2:=iW q (i:=2) rfl
   obtain ⟨e9,f0,a0⟩:=Cut.ex 3 e g 0
   refine bN rfl (fun _ _=>aFy eU c2 a0 rfl rfl rfl Z) (aC ?_);obtain ⟨f1,a1,hm⟩:=aB hm
   have c4:=iW q (i:=2) rfl
   obtain ⟨f2,f3,a3⟩:=Cut.ex 3 e g (wr (o.1+1))
   refine bN rfl (fun _ _=>aAD eU c4 a3 rfl rfl rfl a1) (fF rfl ?_);obtain ⟨c5,c6,hm⟩:=aB hm
   refine aPB (i:=2) eU underlying25 aFc rfl rfl q rfl Z a0 a1 a3 c6 rfl rfl rfl rfl (fun c7 c8 d0 (a4:aD G c0 (box b1 88 [zS a2 a.length c3,i64 o.2.1,Value.int .u64 o.2.2]::aF 9 K l n b.L::aF 90 K c7 c8 c5::box j 27 h::L) d0)=>(aM (aG ⟨⟨_,a4⟩,?_⟩)))
   refine aC ?_
   have f4:=c1 _ _ a4
   exact aJ
  ·exact aJ
 exact aJ
end Gv
