/- Walks, printed by program. -/
import Derived.Test.YtnpdckpkipjngaaGreatDoorKWk3
set_option linter.all false
namespace Gv
open Go.Value renaming slice→zS,bool→zB,pointer→zP,agg→zA,tuple→zT
open Option.some renaming inj→zI
open Go Go.Proofs
set_option maxRecDepth 20000
set_option maxHeartbeats 40000000
variable {G:Env} {K:Hp} {L:List nD} {w:World} {a1 a4:Option Addr} {c2 c5:Nat}
theorem tN {s_:aZ} {suffix:aZ} {R:Bool} (hs:aN G K (L) w)  (hm:gI s_ suffix=some R):
  Calls Tryz.prog 244 ([cR s_,cR suffix]:List Value).toArray w (gV fun v w'=>v=zB R∧aN G K (L) w'):=by
 refine aW Tryz.func244 rfl (by kernel_rfl) (by show (2:Nat)≤21;decide) ?_
 unfold gI at hm
 refine aH (aC (aB (aG (v:=zB false) rfl) (aD (aA (aH (cU (fun f w=>∃ (v1:Bool),eM v1=some R∧f 4=zB v1∧aN G K (L) w) ?_ ?_))))))
 ·rintro f w3 ⟨v1,hm,e2,a4⟩
  unfold eM at hm
  refine aA ?_
  cases zI hm
  exact bC (bA Tryz.results244 rfl ⟨e2,a4⟩)
 refine aC (aB (aF (v:=cR s_) rfl) (aB (gU Tryz.runUnderlying9 rfl) (aB (aF (v:=cR suffix) rfl) (aB (gU Tryz.runUnderlying9 rfl) (aB (yL rfl rfl) (aB (aF (v:=zB (decide ((suffix.length:Int)≤(s_.length:Int)))) rfl) ?_))))))
 rcases aM hm with ⟨c6,hm⟩|⟨c6,hm⟩
 ·refine bK c6 rfl rfl (aB (aF (v:=cR s_) rfl) (bK c6 rfl rfl (aB (aF (v:=cR s_) rfl) (bK c6 rfl rfl (aB (gU Tryz.runUnderlying9 rfl) (bK c6 rfl rfl (aB (aF (v:=cR suffix) rfl) (bK c6 rfl rfl (aB (gU Tryz.runUnderlying9 rfl) (bK c6 rfl rfl (aB (hY rfl rfl) (bK c6 rfl rfl ?_))))))))))))
  obtain ⟨r7,q8,hm⟩:=aJ hm
  exact aB (R_slSL Tryz.runUnderlying9 rfl rfl q8) (bK c6 rfl rfl (aB (aF (v:=cR suffix) rfl) (bK c6 rfl rfl (aB (aAJ rfl rfl) (aB (bH (v:=zB (r7 == suffix)) c6 rfl rfl) (aB (aG (v:=zB (r7 == suffix)) rfl) (aD (aA ⟨r7 == suffix,hm,rfl,hs⟩))))))))
 ·exact bE c6 rfl rfl (bE c6 rfl rfl (bE c6 rfl rfl (bE c6 rfl rfl (bE c6 rfl rfl (bE c6 rfl rfl (bE c6 rfl rfl (bE c6 rfl rfl (bE c6 rfl rfl (aB (bL (v:=zB false) c6 rfl rfl) (aB (aG (v:=zB false) rfl) (aD (aA ⟨false,hm,rfl,hs⟩))))))))))))
theorem sR {s_:aZ} {suffix:aZ} {R:aZ} (hs:aN G K (L) w)  (hm:gC s_ suffix=some R):
  Calls Tryz.prog 208 ([cR s_,cR suffix]:List Value).toArray w (gV fun v w'=>v=cR R∧aN G K (L) w'):=by
 refine aW Tryz.func208 rfl (by kernel_rfl) (by show (2:Nat)≤16;decide) ?_
 unfold gC at hm
 refine aH (aC (aB (aG (v:=cR ([]:aZ)) rfl) (aD (aA (aH (aH (aC (aB (aF (v:=cR s_) rfl) (aB (aF (v:=cR suffix) rfl) ?_)))))))))
 obtain ⟨r1,q2,hm⟩:=aJ hm
 refine aX (vs:=[cR s_,cR suffix]) Tryz.call244 rfl (tN hs q2) ?_
 rintro _ w3 ⟨rfl,a1⟩
 refine aD (aA ?_)
 rcases aM hm with ⟨c5,hm⟩|⟨c5,hm⟩
 ·refine aQ c5 rfl (aH (aC (aB (aF (v:=cR s_) rfl) (aB (aF (v:=cR s_) rfl) (aB (gU Tryz.runUnderlying9 rfl) (aB (aF (v:=cR suffix) rfl) (aB (gU Tryz.runUnderlying9 rfl) (aB (hY rfl rfl) ?_))))))))
  obtain ⟨r6,q7,hm⟩:=aJ hm
  refine aB (R_slSH Tryz.runUnderlying9 rfl rfl q7) (aB (aG (v:=cR r6) rfl) (aD (aA ?_)))
  cases zI hm
  exact bC (aS (bA Tryz.results208 rfl ⟨rfl,a1⟩))
 ·refine aO c5 rfl (aY (aA (aH (aC (aB (aF (v:=cR s_) rfl) (aB (aG (v:=cR s_) rfl) (aD (aA ?_))))))))
  cases zI hm
  exact bC (bA Tryz.results208 rfl ⟨rfl,a1⟩)
theorem aBW {s_:aZ} {suffix:aZ} {R:aZ} (hs:aN G K (L) w)  (hm:kH s_ suffix=some R):
  Calls Tryz.prog 155 ([cR s_,cR suffix]:List Value).toArray w (gV fun v w'=>v=cR R∧aN G K (L) w'):=by
 refine aW Tryz.func155 rfl (by kernel_rfl) (by show (2:Nat)≤8;decide) ?_
 unfold kH at hm
 refine aH (aC (aB (aG (v:=cR ([]:aZ)) rfl) (aD (aA (aH (aC (aB (aF (v:=cR s_) rfl) (aB (aF (v:=cR suffix) rfl) ?_))))))))
 obtain ⟨r1,q2,hm⟩:=aJ hm
 refine aX (vs:=[cR s_,cR suffix]) Tryz.call208 rfl (sR hs q2) ?_
 rintro _ w3 ⟨rfl,a2⟩
 refine aB (aG (v:=cR r1) rfl) (aD (aA ?_))
 cases zI hm
 exact bC (bA Tryz.results155 rfl ⟨rfl,a2⟩)
theorem aHT {s_:aZ} {R:(aZ × (List Int) × Bool)} (hs:aN G K (L) w) (hG:G.lo=0) (hm:aCk s_=some R):
  Calls Tryz.prog 117 ([cR s_]:List Value).toArray w (gV fun v w'=>∃ (ra0:Option Addr) (rc0:Nat),v=zT #[cR R.1,zS ra0 R.2.1.length rc0,zB R.2.2]∧aN G K (aK 2 K ra0 rc0 R.2.1::L) w'):=by
 refine aW Tryz.func117 rfl (by kernel_rfl) (by show (1:Nat)≤43;decide) ?_
 unfold aCk at hm
 refine aH (aC (aB (aG (v:=cR ([]:aZ)) rfl) (aB (aG (v:=zS none 0 0) rfl) (aB (aG (v:=zB false) rfl) (aD (aA (aH (aC (aB (aF (v:=cR s_) rfl) ?_)))))))))
 obtain ⟨r1,q2,hm⟩:=aJ hm
 refine aX (vs:=[cR s_,cR ([40]:aZ)]) Tryz.call152 rfl (lib_Cut hs q2) ?_
 rintro _ w3 ⟨rfl,b5⟩
 refine aB (aF (v:=zT #[cR r1.1,cR r1.2.1,zB r1.2.2]) rfl) (aB (bX rfl rfl) (aB (bX rfl rfl) (aB (bX rfl rfl) (aB (aG (v:=cR r1.1) rfl) (aB (aG (v:=cR r1.2.1) rfl) (aB (aG (v:=zB r1.2.2) rfl) (aD (aA (aH (aC (aB (aG (v:=zS none 0 0) rfl) (aD (aA (aDz (fun f w=>∃ (a1:List Int) (a6:Option Addr) (c7:Nat),oJ s_ r1 a1=some R∧f 0=cR s_∧f 5=cR r1.1∧f 8=zS a6 a1.length c7∧aN G K (aK 2 K a6 c7 a1::L) w) ?_ ?_))))))))))))))
 ·rintro f f0 ⟨a1,a6,c7,hm,e8,e9,a8,c2⟩
  unfold oJ at hm
  refine aH (aH (aC (aB (aF e9) (aB (aF a8) ?_))))
  obtain ⟨f1,f2,c3,c4,c5⟩:=aN.lendS (i:=0) c2 (Hp.le_refl _) rfl
  obtain ⟨a2,c6,hm⟩:=aJ hm
  refine aX (vs:=[cR r1.1,zS a6 a1.length c7]) Tryz.call156 rfl (aJG c4 hG c3 c6) ?_
  rintro _ f3 ⟨rfl,hs21⟩
  have b6:=c5 _ _ hs21
  refine aB (aF (v:=zT #[cR a2.1,zB a2.2]) rfl) (aB (bX rfl rfl) (aB (bX rfl rfl) (aB (aG (v:=cR a2.1) rfl) (aB (aG (v:=zB a2.2) rfl) (aD (aA (aH (cU (fun f w=>∃ (a9:Bool),oI r1 a1 a9=some R∧f 5=cR r1.1∧f 8=zS a6 a1.length c7∧f 40=zB a9∧aN G K (aK 2 K a6 c7 a1::L) w) ?_ ?_))))))))
  ·rintro f f4 ⟨a9,hm,c8,c9,b7,b8⟩
   unfold oI at hm
   refine aA ?_
   rcases aM hm with ⟨b0,hm⟩|⟨b0,hm⟩
   ·refine aQ b0 b7 (aH (aC (aB (aG (v:=cR ([]:aZ)) rfl) (aB (aG (v:=zS none 0 0) rfl) (aB (aG (v:=zB false) rfl) (aD (aA ?_)))))))
    have d0:=aN.nil (α:=Int) b8 2 K
    cases zI hm
    exact bC (aS (retQ_3 Tryz.results117 rfl rfl rfl ⟨none,0,rfl,(aN.arr 2 [0] d0 rfl)⟩))
   ·refine aO b0 b7 (aY (aA (aH (aC (aB (aF c8) (aB (aF c9) (aB (aG (v:=cR r1.1) rfl) (aB (aG (v:=zS a6 a1.length c7) rfl) (aB (aG (v:=zB true) rfl) (aD (aA ?_)))))))))))
    cases zI hm
    exact bC (retQ_3 Tryz.results117 rfl rfl rfl ⟨a6,c7,rfl,b8⟩)
  refine aC (aB (aF (v:=zB a2.2) rfl) (aB (eP rfl) (aB (aF (v:=zB (!a2.2)) rfl) ?_)))
  rcases aM hm with ⟨a3,hm⟩|⟨a3,hm⟩
  ·exact aV a3 rfl rfl (aV a3 rfl rfl (aV a3 rfl rfl (aB (bH (v:=zB true) a3 rfl rfl) (aD (aA ⟨true,hm,e9,a8,rfl,b6⟩)))))
  ·exact bI a3 rfl rfl (aB (aF (v:=cR a2.1) rfl) (bI a3 rfl rfl (aB (aF e8) (bI a3 rfl rfl (aB (aFZ rfl rfl) (aB (bL (v:=zB (!(a2.1 == s_))) a3 rfl rfl) (aD (aA ⟨!(a2.1 == s_),hm,e9,a8,rfl,b6⟩))))))))
 refine aH (aC (aB (aF (v:=zB r1.2.2) rfl) (aD (aA ?_))))
 rcases aM hm with ⟨b1,hm⟩|⟨b1,hm⟩
 ·refine aQ b1 rfl (aH (aC (aB (aG (v:=zB false) rfl) (aD (aA (aH (aC (aB (aF (v:=cR r1.2.1) rfl) ?_))))))))
  obtain ⟨d3,d4,hm⟩:=aJ hm
  refine aX (vs:=[cR r1.2.1,cR ([41]:aZ)]) Tryz.call155 rfl (aBW b5 d4) ?_
  rintro _ f5 ⟨rfl,d5⟩
  obtain ⟨d6,d7,hm⟩:=aJ hm
  refine aX (vs:=[cR d3,cR ([44]:aZ)]) Tryz.call154 rfl (lib_Split d5 d7) ?_
  rintro _ f6 ⟨d8,d9,rfl,e0⟩
  obtain ⟨f7,f8,e1,e2,e3⟩:=aN.lendS (i:=0) e0 (Hp.le_refl _) rfl
  obtain ⟨r50,e4,hm⟩:=aJ hm
  refine aX (vs:=[zS d8 d6.length d9]) Tryz.call153 rfl (aGu e2 hG e1 e4) ?_
  rintro _ f9 ⟨b2,b3,rfl,e5⟩
  have b9:=e3 _ _ e5
  refine aB (aF (v:=zT #[zS b2 r50.1.length b3,zB r50.2]) rfl) (aB (bX rfl rfl) (aB (bX rfl rfl) (aB (aG (v:=zS b2 r50.1.length b3) rfl) (aB (aG (v:=zB r50.2) rfl) (aD (aA (aH (aC (aB (aF (v:=zB r50.2) rfl) (aB (eP rfl) (aD (aA ?_))))))))))))
  rcases aM hm with ⟨b4,hm⟩|⟨b4,hm⟩
  ·refine aQ b4 rfl (aH (aC (aB (aG (v:=cR ([]:aZ)) rfl) (aB (aG (v:=zS none 0 0) rfl) (aB (aG (v:=zB false) rfl) (aD (aA ?_)))))))
   have e6:=aN.nil (α:=Int) b9 2 K
   cases zI hm
   exact bC (aS (retQ_3 Tryz.results117 rfl rfl rfl ⟨none,0,rfl,(aN.arr 3 [0] e6 rfl)⟩))
  ·exact aO b4 rfl (aY (aA ⟨r50.1,b2,b3,hm,rfl,rfl,rfl,(aN.arr 1 [] b9 rfl)⟩))
 ·refine aO b1 rfl ?_
  have hs60:=aN.nil (α:=Int) b5 2 K
  exact aY (aA ⟨[],none,0,hm,rfl,rfl,rfl,hs60⟩)
theorem aJH {s_:aZ} {R:Bool} (hs:aN G K (L) w) (hG:G.lo=0) (hm:aBl s_=some R):
  Calls Tryz.prog 75 ([cR s_]:List Value).toArray w (gV fun v w'=>v=zB R∧aN G K (L) w'):=by
 refine aW Tryz.func75 rfl (by kernel_rfl) (by show (1:Nat)≤13;decide) ?_
 unfold aBl at hm
 refine aH (aC (aB (aG (v:=zB false) rfl) (aD (aA (aH (aC (aB (aF (v:=cR s_) rfl) ?_)))))))
 obtain ⟨r1,q2,hm⟩:=aJ hm
 refine aX (vs:=[cR s_]) Tryz.call117 rfl (aHT hs hG q2) ?_
 rintro _ w5 ⟨a3,c4,rfl,a4⟩
 refine aB (aF (v:=zT #[cR r1.1,zS a3 r1.2.1.length c4,zB r1.2.2]) rfl) (aB (bX rfl rfl) (aB (bX rfl rfl) (aB (bX rfl rfl) (aB (aG (v:=cR r1.1) rfl) (aB (aG (v:=zS a3 r1.2.1.length c4) rfl) (aB (aG (v:=zB r1.2.2) rfl) (aD (aA (aH (aC (aB (aF (v:=zB r1.2.2) rfl) (aB (aG (v:=zB r1.2.2) rfl) (aD (aA ?_))))))))))))))
 cases zI hm
 exact bC (bA Tryz.results75 rfl ⟨rfl,(aN.arr 1 [] a4 rfl)⟩)
theorem aMg {i:Int} {many:Int} {R:Bool} (hs:aN G K (L) w)  (hm:aGR i many=some R):
  Calls Tryz.prog 76 ([i64 i,i64 many]:List Value).toArray w (gV fun v w'=>v=zB R∧aN G K (L) w'):=by
 refine aW Tryz.func76 rfl (by kernel_rfl) (by show (2:Nat)≤9;decide) ?_
 unfold aGR at hm
 refine aH (aC (aB (aG (v:=zB false) rfl) (aD (aA (aH (aC (aB (aF (v:=i64 i) rfl) (aB (aF (v:=i64 many) rfl) (aB (hY rfl rfl) ?_)))))))))
 obtain ⟨r1,q2,hm⟩:=aJ hm
 refine aX (vs:=[i64 i,i64 0,i64 (wr (many - 1))]) Tryz.call73 rfl (uW hs q2) ?_
 rintro _ w3 ⟨rfl,a2⟩
 refine aB (aG (v:=zB r1) rfl) (aD (aA ?_))
 cases zI hm
 exact bC (bA Tryz.results76 rfl ⟨rfl,a2⟩)
theorem aIw {t:cH} {R:Bool} (hs:aN G K (L) w) (hG:G.lo=0) (h3:cJ K a1 c2 t.L) (h6:cJ K a4 c5 t.E) (hm:nI t=some R):
  Calls Tryz.prog 33 ([zA (zCa t a1 c2 a4 c5)]:List Value).toArray w (gV fun v w'=>v=zB R∧aN G K (L) w'):=by
 refine aW Tryz.func33 rfl (by kernel_rfl) (by show (1:Nat)≤109;decide) ?_
 unfold nI at hm
 refine aH (aC (fC (v:=zA (zCa t a1 c2 a4 c5)) (vs:=(zC t a1 c2 a4 c5)) hs rfl rfl (fun b7 w8 f0=>(aB (aG (v:=zB false) rfl) (aD (aA (aH (aH (cU (fun f w=>∃ (d5:Bool),nH t d5=some R∧f 1=zP (some ⟨b7,0,none⟩)∧f 30=zB d5∧aN G K (box b7 30 (zC t a1 c2 a4 c5)::L) w) ?_ ?_)))))))))
 ·rintro f l8 ⟨d5,hm,f1,f2,d6⟩
  unfold nH at hm
  refine aA ?_
  rcases aM hm with ⟨d7,hm⟩|⟨d7,hm⟩
  ·refine aQ d7 f2 (aH (aC (aB (aG (v:=zB false) rfl) (aD (aA ?_)))))
   cases zI hm
   exact bC (aS (bA Tryz.results33 rfl ⟨rfl,(aN.arr 1 [] d6 rfl)⟩))
  ·refine aO d7 f2 (aY (aA (aH (aH (aC (aB (bD (t':=2) iO f1 rfl) (aB (bY jK d6 (i:=0) rfl rfl rfl) (aB (bR (len:=t.L.length) cE rfl) (aB (aF (v:=i64 0) rfl) (aD (aA (bJ (fun f w=>uM t=some R∧f 1=zP (some ⟨b7,0,none⟩)∧aN G K (box b7 30 (zC t a1 c2 a4 c5)::L) w) ?_ ?_))))))))))))
   ·rintro f l9 ⟨hm,f3,f4⟩
    unfold uM at hm
    refine aA (aH (aH (aC (aB (bD (t':=3) eO f3 rfl) (aB (bY jQ f4 (i:=0) rfl rfl rfl) (aB (bR (len:=t.E.length) cZ rfl) (aB (aF (v:=i64 0) rfl) (aD (aA (bJ (fun f w=>zW=some R∧aN G K (L) w) ?_ ?_))))))))))
    ·rintro f m0 ⟨hm,h2⟩
     unfold zW at hm
     refine aA (aH (aC (aB (aG (v:=zB true) rfl) (aD (aA ?_)))))
     cases zI hm
     exact bC (bA Tryz.results33 rfl ⟨rfl,h2⟩)
    obtain ⟨m1,h5,hm⟩:=aJ hm
    refine cP h5 (fun (b8:Int) f w=>f 1=zP (some ⟨b7,0,none⟩)∧f 65=zS a4 t.E.length c5∧f 66=i64 (t.E.length:Int)∧f 67=i64 b8∧aN G K (box b7 30 (zC t a1 c2 a4 c5)::L) w) ?_ ?_
    ·exact ⟨f3,rfl,rfl,rfl,f4⟩
    ·rintro b8 f5 f m2 a2 f6 ⟨c0,c4,c6,c1,d8⟩
     replace a2:qE t b8=some f5:=a2
     unfold qE at a2
     refine aH (aC (aB (cK c1 c6) (aD (aA (aH ?_)))))
     rcases aM a2 with ⟨d9,a2⟩|⟨d9,a2⟩
     ·refine aQ d9 rfl (aY (aA (aH (cQ (aH (aC (aB (aF c1) ?_)))))))
      obtain ⟨a5,f7,a2⟩:=aJ a2
      refine aB (cV cZ rfl h6 c4 rfl c1 f7) ?_
      obtain ⟨m3,h7,h8⟩:=cJ.el (sz:=3) rfl h6 f7
      cases h8
      refine aB (iU (t:=0) (vs:=[i64 a5.F,i64 a5.B,i64 a5.To]) oC d8 h7 rfl rfl rfl) (cL (vs:=[i64 0,i64 0,i64 0]) Tryz.zeroValue63 d8 rfl (fun f8 m4 h9=>(aB (aG (v:=i64 b8) rfl) (cM (i:=0) (ns:=[i64 a5.F,i64 a5.B,i64 a5.To]) (us:=[i64 a5.F,i64 a5.B,i64 a5.To]) Tryz.sizeOf63 h9 rfl rfl rfl rfl rfl (eD rfl) rfl rfl (fun i0 (a0:aN G K (box f8 63 [i64 a5.F,i64 a5.B,i64 a5.To]::box b7 30 (zC t a1 c2 a4 c5)::L) i0)=>(aD (aA (aH (cU (fun f w=>∃ (e0:Bool),lM b8 e0=some f5∧f 1=zP (some ⟨b7,0,none⟩)∧f 65=zS a4 t.E.length c5∧f 66=i64 (t.E.length:Int)∧f 67=i64 b8∧f 107=zB e0∧aN G K (box b7 30 (zC t a1 c2 a4 c5)::L) w) ?_ ?_)))))))))
      ·rintro f m5 ⟨e0,a2,i1,i2,i3,i4,f9,g0⟩
       unfold lM at a2
       refine aA ?_
       rcases aM a2 with ⟨e1,a2⟩|⟨e1,a2⟩
       ·refine aQ e1 f9 (aH (aC (aB (aG (v:=zB false) rfl) (aD (aA (bC (bN (aS (aS ?_)))))))))
        have i5:=f6 _ (zI a2).symm
        subst i5
        have hm:(some false)=some R:=hm
        cases zI hm
        exact bN (aS (aS (bA Tryz.results33 rfl ⟨rfl,(aN.arr 1 [] g0 rfl)⟩)))
       ·exact aO e1 f9 (aY (bO (aA (aC (aB (cY i4 rfl) (aB (aF (v:=i64 (wr (b8+1))) rfl) (aD (aA ⟨wr (b8+1),(zI a2).symm,i1,i2,i3,rfl,g0⟩))))))))
      refine cW (C:=fun w'=>aN G K (box f8 63 [i64 a5.F,i64 a5.B,i64 a5.To]::box b7 30 (zC t a1 c2 a4 c5)::L) w') bQ (by kernel_rfl) (aN.mono a0 (dE.drew _)) (aT (fun _ a0=>dO (us:=(zC t a1 c2 a4 c5)) kE a0 (i:=1) rfl c0 rfl rfl) (aT (fun _ a0=>bD (t':=0) iX rfl rfl) (aT (fun _ a0=>bY dF a0 (i:=0) rfl rfl rfl) ?_)))
      obtain ⟨g1,i7,a2⟩:=aJ a2
      refine iV (vs:=[zA (zCa t a1 c2 a4 c5),i64 a5.F]) (v:=zB g1) Tryz.call74 rfl (fun _ a0=>(pP a0 h3 h6 i7)) (aT (fun _ a0=>eP rfl) (aT (fun _ a0=>aF (v:=zB (!g1)) rfl) ?_))
      rcases aM a2 with ⟨b1,a2⟩|⟨b1,a2⟩
      ·refine aU (g:=77) rfl rfl (cA b1) (aU (g:=77) rfl rfl (cA b1) (aU (g:=77) rfl rfl (cA b1) (aU (g:=77) rfl rfl (cA b1) (aU (g:=77) rfl rfl (cA b1) (aT (fun _ a0=>bH (v:=zB true) b1 rfl rfl) (aT (fun _ a0=>aF (v:=zB true) rfl) (aU (g:=84) rfl rfl (cA (rfl:true=true)) (aU (g:=84) rfl rfl (cA (rfl:true=true)) (aU (g:=84) rfl rfl (cA (rfl:true=true)) (aU (g:=84) rfl rfl (cA (rfl:true=true)) (aU (g:=84) rfl rfl (cA (rfl:true=true)) (aU (g:=84) rfl rfl (cA (rfl:true=true)) (aU (g:=84) rfl rfl (cA (rfl:true=true)) (aT (fun _ a0=>bH (v:=zB true) (rfl:true=true) rfl rfl) (aT (fun _ a0=>aF (v:=zB true) rfl) (aU (g:=93) rfl rfl (cA (rfl:true=true)) (aU (g:=93) rfl rfl (cA (rfl:true=true)) (aU (g:=93) rfl rfl (cA (rfl:true=true)) (bF (g:=96) rfl rfl (bF (g:=96) rfl rfl (bF (g:=96) rfl rfl (bF (g:=96) rfl rfl (bF (g:=96) rfl rfl ?_)))))))))))))))))))))))
       exact bF (g:=96) rfl rfl (bF (g:=96) rfl rfl (bF (g:=96) rfl rfl (bF (g:=96) rfl rfl (aU (g:=93) rfl rfl (cA (rfl:true=true)) (aT (fun _ a0=>bH (v:=zB true) (rfl:true=true) rfl rfl) (dD (fun m6 i8=>(aA ⟨true,a2,c0,c4,c6,c1,rfl,(aN.arr 1 [] i8 rfl)⟩))))))))
      ·refine bG (g:=77) rfl rfl (cC b1) (aT (fun _ a0=>dO (us:=(zC t a1 c2 a4 c5)) kE a0 (i:=1) rfl c0 rfl rfl) (bG (g:=77) rfl rfl (cC b1) (aT (fun _ a0=>bD (t':=2) lY rfl rfl) (bG (g:=77) rfl rfl (cC b1) (aT (fun _ a0=>bY dF a0 (i:=0) rfl rfl rfl) (bG (g:=77) rfl rfl (cC b1) ?_))))))
       obtain ⟨e2,i9,a2⟩:=aJ a2
       refine iV (vs:=[zA (zCa t a1 c2 a4 c5),i64 a5.To]) (v:=zB e2) Tryz.call74 rfl (fun _ a0=>(pP a0 h3 h6 i9)) (bG (g:=77) rfl rfl (cC b1) (aT (fun _ a0=>eP rfl) (aT (fun _ a0=>bL (v:=zB (!e2)) b1 rfl rfl) (aT (fun _ a0=>aF (v:=zB (!e2)) rfl) ?_))))
       rcases aM a2 with ⟨a8,a2⟩|⟨a8,a2⟩
       ·refine aU (g:=84) rfl rfl (cA a8) (aU (g:=84) rfl rfl (cA a8) (aU (g:=84) rfl rfl (cA a8) (aU (g:=84) rfl rfl (cA a8) (aU (g:=84) rfl rfl (cA a8) (aU (g:=84) rfl rfl (cA a8) (aU (g:=84) rfl rfl (cA a8) (aT (fun _ a0=>bH (v:=zB true) a8 rfl rfl) (aT (fun _ a0=>aF (v:=zB true) rfl) (aU (g:=93) rfl rfl (cA (rfl:true=true)) (aU (g:=93) rfl rfl (cA (rfl:true=true)) (aU (g:=93) rfl rfl (cA (rfl:true=true)) (bF (g:=96) rfl rfl (bF (g:=96) rfl rfl (bF (g:=96) rfl rfl (bF (g:=96) rfl rfl (bF (g:=96) rfl rfl (bF (g:=96) rfl rfl (bF (g:=96) rfl rfl (bF (g:=96) rfl rfl (bF (g:=96) rfl rfl (aU (g:=93) rfl rfl (cA (rfl:true=true)) (aT (fun _ a0=>bH (v:=zB true) (rfl:true=true) rfl rfl) (dD ?_)))))))))))))))))))))))
        intro m7 j0
        exact aA ⟨true,a2,c0,c4,c6,c1,rfl,(aN.arr 1 [] j0 rfl)⟩
       ·refine bG (g:=84) rfl rfl (cC a8) (aT (fun _ a0=>bD (t':=1) gO rfl rfl) (bG (g:=84) rfl rfl (cC a8) (aT (fun _ a0=>bY dF a0 (i:=0) rfl rfl rfl) (bG (g:=84) rfl rfl (cC a8) (aT (fun _ a0=>bD (t':=2) iO c0 rfl) (bG (g:=84) rfl rfl (cC a8) (aT (fun _ a0=>bY jK a0 (i:=1) rfl rfl rfl) (bG (g:=84) rfl rfl (cC a8) (aT (fun _ a0=>bR (len:=t.L.length) cE rfl) (bG (g:=84) rfl rfl (cC a8) ?_))))))))))
        obtain ⟨e3,j1,a2⟩:=aJ a2
        refine iV (vs:=[i64 a5.B,i64 (t.L.length:Int)]) (v:=zB e3) Tryz.call76 rfl (fun _ a0=>(aMg a0 j1)) (bG (g:=84) rfl rfl (cC a8) (aT (fun _ a0=>eP rfl) (aT (fun _ a0=>bL (v:=zB (!e3)) a8 rfl rfl) (aT (fun _ a0=>aF (v:=zB (!e3)) rfl) ?_))))
        rcases aM a2 with ⟨b2,a2⟩|⟨b2,a2⟩
        ·exact aU (g:=93) rfl rfl (cA b2) (aU (g:=93) rfl rfl (cA b2) (aU (g:=93) rfl rfl (cA b2) (bF (g:=96) rfl rfl (bF (g:=96) rfl rfl (bF (g:=96) rfl rfl (bF (g:=96) rfl rfl (bF (g:=96) rfl rfl (bF (g:=96) rfl rfl (bF (g:=96) rfl rfl (bF (g:=96) rfl rfl (bF (g:=96) rfl rfl (aU (g:=93) rfl rfl (cA b2) (aT (fun _ a0=>bH (v:=zB true) b2 rfl rfl) (dD (fun m8 j2=>(aA ⟨true,a2,c0,c4,c6,c1,rfl,(aN.arr 1 [] j2 rfl)⟩))))))))))))))))
        ·refine bG (g:=93) rfl rfl (cC b2) (aT (fun _ a0=>aF (v:=i64 b8) rfl) (bG (g:=93) rfl rfl (cC b2) (aT (fun _ a0=>lJ rfl rfl) (bG (g:=93) rfl rfl (cC b2) (aT (fun _ a0=>aF (v:=zB (decide (0 < b8))) rfl) ?_)))))
         rcases aM a2 with ⟨a6,a2⟩|⟨a6,a2⟩
         ·refine bG (g:=96) rfl rfl a6 (aT (fun _ a0=>bD (t':=3) eO c0 rfl) (bG (g:=96) rfl rfl a6 (aT (fun _ a0=>bY jQ a0 (i:=1) rfl rfl rfl) (bG (g:=96) rfl rfl a6 (aT (fun _ a0=>aF (v:=i64 b8) rfl) (bG (g:=96) rfl rfl a6 (aT (fun _ a0=>hY rfl rfl) (bG (g:=96) rfl rfl a6 ?_))))))))
          obtain ⟨c7,g2,a2⟩:=aJ a2
          refine aT (fun _ a0=>cV cZ rfl h6 rfl rfl rfl g2) ?_
          obtain ⟨m9,j3,j4⟩:=cJ.el (sz:=3) rfl h6 g2
          cases j4
          refine bG (g:=96) rfl rfl a6 (aT (fun _ a0=>iU (t:=0) (vs:=[i64 c7.F,i64 c7.B,i64 c7.To]) oC a0 j3 rfl rfl rfl) (bG (g:=96) rfl rfl a6 (aT (fun _ a0=>dO (us:=[i64 a5.F,i64 a5.B,i64 a5.To]) oC a0 (i:=0) rfl rfl rfl rfl) (bG (g:=96) rfl rfl a6 ?_))))
          obtain ⟨d3,j5,a2⟩:=aJ a2
          exact iV (vs:=[zA #[i64 c7.F,i64 c7.B,i64 c7.To],zA #[i64 a5.F,i64 a5.B,i64 a5.To]]) (v:=i64 d3) Tryz.call77 rfl (fun _ a0=>(aAQ a0 j5)) (bG (g:=96) rfl rfl a6 (aT (fun _ a0=>yL rfl rfl) (bG (g:=93) rfl rfl (cC b2) (aT (fun _ a0=>bH (v:=zB (decide (0≤d3))) a6 rfl rfl) (aT (fun _ a0=>bL (v:=zB (decide (0≤d3))) b2 rfl rfl) (dD (fun n0 j6=>(aA ⟨decide (0≤d3),a2,c0,c4,c6,c1,rfl,(aN.arr 1 [] j6 rfl)⟩))))))))
         ·exact aU (g:=96) rfl rfl (bU a6) (aU (g:=96) rfl rfl (bU a6) (aU (g:=96) rfl rfl (bU a6) (aU (g:=96) rfl rfl (bU a6) (aU (g:=96) rfl rfl (bU a6) (aU (g:=96) rfl rfl (bU a6) (aU (g:=96) rfl rfl (bU a6) (aU (g:=96) rfl rfl (bU a6) (aU (g:=96) rfl rfl (bU a6) (bG (g:=93) rfl rfl (cC b2) (aT (fun _ a0=>bL (v:=zB false) a6 rfl rfl) (aT (fun _ a0=>bL (v:=zB false) b2 rfl rfl) (dD (fun n1 j7=>(aA ⟨false,a2,c0,c4,c6,c1,rfl,(aN.arr 1 [] j7 rfl)⟩))))))))))))))
     ·refine aO d9 rfl (cN (bB (bB ?_)))
      have j8:=f6 _ (zI a2).symm
      subst j8
      have hm:(zW)=some R:=hm
      exact bS (aA ⟨hm,(aN.arr 1 [] d8 rfl)⟩)
   obtain ⟨n2,j9,hm⟩:=aJ hm
   refine cP j9 (fun (b0:Int) f w=>f 1=zP (some ⟨b7,0,none⟩)∧f 32=zS a1 t.L.length c2∧f 33=i64 (t.L.length:Int)∧f 34=i64 b0∧aN G K (box b7 30 (zC t a1 c2 a4 c5)::L) w) ?_ ?_
   ·exact ⟨f1,rfl,rfl,rfl,d6⟩
   ·rintro b0 g3 f n3 a3 g4 ⟨c8,d1,d2,c3,e4⟩
    replace a3:qF t b0=some g3:=a3
    unfold qF at a3
    refine aH (aC (aB (cK c3 d2) (aD (aA (aH ?_)))))
    rcases aM a3 with ⟨e5,a3⟩|⟨e5,a3⟩
    ·refine aQ e5 rfl (aY (aA (aH (cQ (aH (aC (aB (aF c3) ?_)))))))
     obtain ⟨b3,g5,a3⟩:=aJ a3
     refine aB (cV cE rfl h3 d1 rfl c3 g5) ?_
     obtain ⟨n4,k0,k1⟩:=cJ.el (sz:=1) rfl h3 g5
     cases k1
     refine aB (bP (t:=0) qR e4 k0 rfl rfl) (aB (aG (v:=i64 b0) rfl) (aB (aG (v:=cR b3) rfl) (aD (aA (aH (cU (fun f w=>∃ (e6:Bool),nG b0 e6=some g3∧f 1=zP (some ⟨b7,0,none⟩)∧f 32=zS a1 t.L.length c2∧f 33=i64 (t.L.length:Int)∧f 34=i64 b0∧f 62=zB e6∧aN G K (box b7 30 (zC t a1 c2 a4 c5)::L) w) ?_ ?_))))))
     ·rintro f n5 ⟨e6,a3,k2,k3,k4,k5,g6,g7⟩
      unfold nG at a3
      refine aA ?_
      rcases aM a3 with ⟨e7,a3⟩|⟨e7,a3⟩
      ·refine aQ e7 g6 (aH (aC (aB (aG (v:=zB false) rfl) (aD (aA (bC (bN (aS (aS ?_)))))))))
       have k6:=g4 _ (zI a3).symm
       subst k6
       have hm:(some false)=some R:=hm
       cases zI hm
       exact bN (aS (aS (bA Tryz.results33 rfl ⟨rfl,(aN.arr 1 [] g7 rfl)⟩)))
      ·exact aO e7 g6 (aY (bO (aA (aC (aB (cY k5 rfl) (aB (aF (v:=i64 (wr (b0+1))) rfl) (aD (aA ⟨wr (b0+1),(zI a3).symm,k2,k3,k4,rfl,g7⟩))))))))
     refine aC (aB (aF (v:=cR b3) rfl) ?_)
     obtain ⟨k8,k9,a3⟩:=aJ a3
     refine aX (vs:=[cR b3]) Tryz.call75 rfl (aJH e4 hG k9) ?_
     rintro _ n6 ⟨rfl,c9⟩
     refine aB (eP rfl) (aB (aF (v:=zB (!k8)) rfl) ?_)
     rcases aM a3 with ⟨b4,a3⟩|⟨b4,a3⟩
     ·exact aV b4 rfl rfl (aV b4 rfl rfl (aV b4 rfl rfl (aV b4 rfl rfl (aV b4 rfl rfl (aB (bH (v:=zB true) b4 rfl rfl) (aB (aF (v:=zB true) rfl) (aV (rfl:true=true) rfl rfl (aV (rfl:true=true) rfl rfl (aV (rfl:true=true) rfl rfl (dG (g:=52) rfl rfl (dG (g:=52) rfl rfl (dG (g:=52) rfl rfl (dG (g:=52) rfl rfl (dG (g:=52) rfl rfl (dG (g:=52) rfl rfl (dG (g:=52) rfl rfl (dG (g:=52) rfl rfl (aV (rfl:true=true) rfl rfl (aB (bH (v:=zB true) (rfl:true=true) rfl rfl) (aD (aA ⟨true,a3,c8,d1,d2,c3,rfl,c9⟩)))))))))))))))))))))
     ·refine bI b4 rfl rfl (aB (aF (v:=cR b3) rfl) (bI b4 rfl rfl (aB (aAJ rfl rfl) (bI b4 rfl rfl (aB (aF (v:=i64 b0) rfl) (bI b4 rfl rfl (aB (pB rfl rfl) (bI b4 rfl rfl (aB (R_neqB Tryz.runUnderlying4 rfl rfl) (aB (bL (v:=zB ((b3 == ([116,97,117]:aZ)) != (b0 == 0))) b4 rfl rfl) (aB (aF (v:=zB ((b3 == ([116,97,117]:aZ)) != (b0 == 0))) rfl) ?_)))))))))))
      rcases aM a3 with ⟨b5,a3⟩|⟨b5,a3⟩
      ·exact aV b5 rfl rfl (aV b5 rfl rfl (aV b5 rfl rfl (dG (g:=52) rfl rfl (dG (g:=52) rfl rfl (dG (g:=52) rfl rfl (dG (g:=52) rfl rfl (dG (g:=52) rfl rfl (dG (g:=52) rfl rfl (dG (g:=52) rfl rfl (dG (g:=52) rfl rfl (aV b5 rfl rfl (aB (bH (v:=zB true) b5 rfl rfl) (aD (aA ⟨true,a3,c8,d1,d2,c3,rfl,c9⟩))))))))))))))
      ·refine bI b5 rfl rfl (aB (aF (v:=i64 b0) rfl) (bI b5 rfl rfl (aB (lJ rfl rfl) (bI b5 rfl rfl (aB (aF (v:=zB (decide (1 < b0))) rfl) ?_)))))
       rcases aM a3 with ⟨a7,a3⟩|⟨a7,a3⟩
       ·refine bK a7 rfl rfl (aB (aF (v:=cR b3) rfl) (bK a7 rfl rfl (aB (bD (t':=2) iO c8 rfl) (bK a7 rfl rfl (aB (bY jK c9 (i:=0) rfl rfl rfl) (bK a7 rfl rfl (aB (aF (v:=i64 b0) rfl) (bK a7 rfl rfl (aB (hY rfl rfl) (bK a7 rfl rfl ?_))))))))))
        obtain ⟨d0,g8,a3⟩:=aJ a3
        refine aB (cV cE rfl h3 rfl rfl rfl g8) ?_
        obtain ⟨n7,l0,l1⟩:=cJ.el (sz:=1) rfl h3 g8
        cases l1
        exact bK a7 rfl rfl (aB (bP (t:=0) qR c9 l0 rfl rfl) (bK a7 rfl rfl (aB (R_leqS rfl rfl) (bI b5 rfl rfl (aB (bH (v:=zB (qW b3 d0||b3 == d0)) a7 rfl rfl) (aB (bL (v:=zB (qW b3 d0||b3 == d0)) b5 rfl rfl) (aD (aA ⟨(qW b3 d0||b3 == d0),a3,c8,d1,d2,c3,rfl,c9⟩))))))))
       ·exact bE a7 rfl rfl (bE a7 rfl rfl (bE a7 rfl rfl (bE a7 rfl rfl (bE a7 rfl rfl (bE a7 rfl rfl (bE a7 rfl rfl (bE a7 rfl rfl (bI b5 rfl rfl (aB (bL (v:=zB false) a7 rfl rfl) (aB (bL (v:=zB false) b5 rfl rfl) (aD (aA ⟨false,a3,c8,d1,d2,c3,rfl,c9⟩))))))))))))
    ·refine aO e5 rfl (cN (bB (bB ?_)))
     have l2:=g4 _ (zI a3).symm
     subst l2
     have hm:(uM t)=some R:=hm
     exact bS (aA ⟨hm,c8,e4⟩)
 refine aC (aB (bD (t':=0) aAR rfl rfl) (aB (bY dF f0 (i:=0) rfl rfl rfl) ?_))
 obtain ⟨l3,l4,hm⟩:=aJ hm
 refine aX (vs:=[i64 t.N,i64 1,i64 40]) Tryz.call73 rfl (uW f0 l4) ?_
 rintro _ n8 ⟨rfl,d4⟩
 refine aB (eP rfl) (aB (aF (v:=zB (!l3)) rfl) ?_)
 rcases aM hm with ⟨b6,hm⟩|⟨b6,hm⟩
 ·exact aV b6 rfl rfl (aV b6 rfl rfl (aV b6 rfl rfl (aV b6 rfl rfl (aV b6 rfl rfl (aB (bH (v:=zB true) b6 rfl rfl) (aB (aF (v:=zB true) rfl) (aV (rfl:true=true) rfl rfl (aV (rfl:true=true) rfl rfl (aV (rfl:true=true) rfl rfl (aV (rfl:true=true) rfl rfl (aV (rfl:true=true) rfl rfl (aB (bH (v:=zB true) (rfl:true=true) rfl rfl) (aB (aF (v:=zB true) rfl) (aV (rfl:true=true) rfl rfl (aV (rfl:true=true) rfl rfl (aV (rfl:true=true) rfl rfl (aV (rfl:true=true) rfl rfl (aB (bH (v:=zB true) (rfl:true=true) rfl rfl) (aD (aA ⟨true,hm,rfl,rfl,d4⟩))))))))))))))))))))
 ·refine bI b6 rfl rfl (aB (dO (us:=(zC t a1 c2 a4 c5)) kE d4 (i:=0) rfl rfl rfl rfl) (bI b6 rfl rfl (aB (bD (t':=1) wV rfl rfl) (bI b6 rfl rfl (aB (bY dF d4 (i:=0) rfl rfl rfl) (bI b6 rfl rfl ?_))))))
  obtain ⟨g9,l5,hm⟩:=aJ hm
  refine aX (vs:=[zA (zCa t a1 c2 a4 c5),i64 t.I]) Tryz.call74 rfl (pP d4 h3 h6 l5) ?_
  rintro _ n9 ⟨rfl,e8⟩
  refine bI b6 rfl rfl (aB (eP rfl) (aB (bL (v:=zB (!g9)) b6 rfl rfl) (aB (aF (v:=zB (!g9)) rfl) ?_)))
  rcases aM hm with ⟨c188,hm⟩|⟨c188,hm⟩
  ·exact aV c188 rfl rfl (aV c188 rfl rfl (aV c188 rfl rfl (aV c188 rfl rfl (aV c188 rfl rfl (aB (bH (v:=zB true) c188 rfl rfl) (aB (aF (v:=zB true) rfl) (aV (rfl:true=true) rfl rfl (aV (rfl:true=true) rfl rfl (aV (rfl:true=true) rfl rfl (aV (rfl:true=true) rfl rfl (aB (bH (v:=zB true) (rfl:true=true) rfl rfl) (aD (aA ⟨true,hm,rfl,rfl,e8⟩)))))))))))))
  ·refine bI c188 rfl rfl (aB (bD (t':=2) iO rfl rfl) (bI c188 rfl rfl (aB (bY jK e8 (i:=0) rfl rfl rfl) (bI c188 rfl rfl (aB (bR (len:=t.L.length) cE rfl) (bI c188 rfl rfl ?_))))))
   obtain ⟨h0,l6,hm⟩:=aJ hm
   refine aX (vs:=[i64 (t.L.length:Int),i64 1,i64 12]) Tryz.call73 rfl (uW e8 l6) ?_
   rintro _ o0 ⟨rfl,e9⟩
   refine bI c188 rfl rfl (aB (eP rfl) (aB (bL (v:=zB (!h0)) c188 rfl rfl) (aB (aF (v:=zB (!h0)) rfl) ?_)))
   rcases aM hm with ⟨b9,hm⟩|⟨b9,hm⟩
   ·exact aV b9 rfl rfl (aV b9 rfl rfl (aV b9 rfl rfl (aV b9 rfl rfl (aB (bH (v:=zB true) b9 rfl rfl) (aD (aA ⟨true,hm,rfl,rfl,e9⟩))))))
   ·exact bI b9 rfl rfl (aB (bD (t':=3) eO rfl rfl) (bI b9 rfl rfl (aB (bY jQ e9 (i:=0) rfl rfl rfl) (bI b9 rfl rfl (aB (bR (len:=t.E.length) cZ rfl) (bI b9 rfl rfl (aB (lJ rfl rfl) (aB (bL (v:=zB (decide (300 < (t.E.length:Int)))) b9 rfl rfl) (aD (aA ⟨decide (300 < (t.E.length:Int)),hm,rfl,rfl,e9⟩))))))))))
theorem tS {t:cH} {R:Bool} (hs:aN G K (L) w) (hG:G.lo=0) (h3:cJ K a1 c2 t.L) (h6:cJ K a4 c5 t.E) (hm:fQ t=some R):
  Calls Tryz.prog 34 ([zA (zCa t a1 c2 a4 c5)]:List Value).toArray w (gV fun v w'=>v=zB R∧aN G K (L) w'):=by
 refine aW Tryz.func34 rfl (by kernel_rfl) (by show (1:Nat)≤48;decide) ?_
 unfold fQ at hm
 refine aH (aC (fC (v:=zA (zCa t a1 c2 a4 c5)) (vs:=(zC t a1 c2 a4 c5)) hs rfl rfl (fun b7 w8 c4=>(aB (aG (v:=zB false) rfl) (aD (aA (aH (aH (aC (aB (dO (us:=(zC t a1 c2 a4 c5)) kE c4 (i:=0) rfl rfl rfl rfl) ?_))))))))))
 obtain ⟨f4,d2,hm⟩:=aJ hm
 refine aX (vs:=[zA (zCa t a1 c2 a4 c5)]) Tryz.call33 rfl (aIw c4 hG h3 h6 d2) ?_
 rintro _ f5 ⟨rfl,b6⟩
 refine aB (eP rfl) (aD (aA ?_))
 rcases aM hm with ⟨c14,hm⟩|⟨c14,hm⟩
 ·refine aQ c14 rfl (aH (aC (aB (aG (v:=zB false) rfl) (aD (aA ?_)))))
  cases zI hm
  exact bC (aS (bA Tryz.results34 rfl ⟨rfl,(aN.arr 1 [] b6 rfl)⟩))
 ·refine aO c14 rfl (aY (aA (aH (aH (aC (aB (bD (t':=3) eO rfl rfl) (aB (bY jQ b6 (i:=0) rfl rfl rfl) (aB (bR (len:=t.E.length) cZ rfl) (aB (aF (v:=i64 0) rfl) (aD (aA (bJ (fun f w=>kL=some R∧aN G K (L) w) ?_ ?_))))))))))))
  ·rintro f f6 ⟨hm,d4⟩
   unfold kL at hm
   refine aA (aH (aC (aB (aG (v:=zB true) rfl) (aD (aA ?_)))))
   cases zI hm
   exact bC (bA Tryz.results34 rfl ⟨rfl,d4⟩)
  obtain ⟨f7,d6,hm⟩:=aJ hm
  refine cP d6 (fun (a8:Int) f w=>f 1=zP (some ⟨b7,0,none⟩)∧f 9=zS a4 t.E.length c5∧f 10=i64 (t.E.length:Int)∧f 11=i64 a8∧aN G K (box b7 30 (zC t a1 c2 a4 c5)::L) w) ?_ ?_
  ·exact ⟨rfl,rfl,rfl,rfl,b6⟩
  ·rintro a8 c6 f f8 a2 c7 ⟨b1,b2,b3,a9,b8⟩
   replace a2:gM t a8=some c6:=a2
   unfold gM at a2
   refine aH (aC (aB (cK a9 b3) (aD (aA (aH ?_)))))
   rcases aM a2 with ⟨b9,a2⟩|⟨b9,a2⟩
   ·refine aQ b9 rfl (aY (aA (aH (cQ (aH (aC (aB (aF a9) ?_)))))))
    obtain ⟨a6,c8,a2⟩:=aJ a2
    refine aB (cV cZ rfl h6 b2 rfl a9 c8) ?_
    obtain ⟨f9,d7,d8⟩:=cJ.el (sz:=3) rfl h6 c8
    cases d8
    refine aB (iU (t:=0) (vs:=[i64 a6.F,i64 a6.B,i64 a6.To]) oC b8 d7 rfl rfl rfl) (cL (vs:=[i64 0,i64 0,i64 0]) Tryz.zeroValue63 b8 rfl (fun c9 g0 d9=>(aB (aG (v:=i64 a8) rfl) (cM (i:=0) (ns:=[i64 a6.F,i64 a6.B,i64 a6.To]) (us:=[i64 a6.F,i64 a6.B,i64 a6.To]) Tryz.sizeOf63 d9 rfl rfl rfl rfl rfl (eD rfl) rfl rfl (fun e0 (a0:aN G K (box c9 63 [i64 a6.F,i64 a6.B,i64 a6.To]::box b7 30 (zC t a1 c2 a4 c5)::L) e0)=>(aD (aA (aH (cU (fun f w=>∃ (c0:Bool),fM a8 c0=some c6∧f 1=zP (some ⟨b7,0,none⟩)∧f 9=zS a4 t.E.length c5∧f 10=i64 (t.E.length:Int)∧f 11=i64 a8∧f 46=zB c0∧aN G K (box b7 30 (zC t a1 c2 a4 c5)::L) w) ?_ ?_)))))))))
    ·rintro f g1 ⟨c0,a2,e1,e2,e3,e4,d0,d1⟩
     unfold fM at a2
     refine aA ?_
     rcases aM a2 with ⟨c1,a2⟩|⟨c1,a2⟩
     ·refine aQ c1 d0 (aH (aC (aB (aG (v:=zB false) rfl) (aD (aA (bC (bN (aS (aS ?_)))))))))
      have e5:=c7 _ (zI a2).symm
      subst e5
      have hm:(some false)=some R:=hm
      cases zI hm
      exact bN (aS (aS (bA Tryz.results34 rfl ⟨rfl,(aN.arr 1 [] d1 rfl)⟩)))
     ·exact aO c1 d0 (aY (bO (aA (aC (aB (cY e4 rfl) (aB (aF (v:=i64 (wr (a8+1))) rfl) (aD (aA ⟨wr (a8+1),(zI a2).symm,e1,e2,e3,rfl,d1⟩))))))))
    refine cW (C:=fun w'=>aN G K (box c9 63 [i64 a6.F,i64 a6.B,i64 a6.To]::box b7 30 (zC t a1 c2 a4 c5)::L) w') bQ (by kernel_rfl) (aN.mono a0 (dE.drew _)) (aT (fun _ a0=>bD (t':=1) gO rfl rfl) (aT (fun _ a0=>bY dF a0 (i:=0) rfl rfl rfl) (aT (fun _ a0=>pB rfl rfl) (aT (fun _ a0=>aF (v:=zB (a6.B == 0)) rfl) ?_))))
    rcases aM a2 with ⟨a7,a2⟩|⟨a7,a2⟩
    ·refine aU (g:=19) rfl rfl (cA a7) (aU (g:=19) rfl rfl (cA a7) (aU (g:=19) rfl rfl (cA a7) (bF (g:=22) rfl rfl (bF (g:=22) rfl rfl (bF (g:=22) rfl rfl (bF (g:=22) rfl rfl (bF (g:=22) rfl rfl (bF (g:=22) rfl rfl (bF (g:=22) rfl rfl (bF (g:=22) rfl rfl (bF (g:=22) rfl rfl (bF (g:=22) rfl rfl (aU (g:=19) rfl rfl (cA a7) (aU (g:=19) rfl rfl (cA a7) (bF (g:=34) rfl rfl (bF (g:=34) rfl rfl (bF (g:=34) rfl rfl (bF (g:=34) rfl rfl (bF (g:=34) rfl rfl (bF (g:=34) rfl rfl (bF (g:=34) rfl rfl (bF (g:=34) rfl rfl (bF (g:=34) rfl rfl ?_)))))))))))))))))))))))
     exact bF (g:=34) rfl rfl (aU (g:=19) rfl rfl (cA a7) (aT (fun _ a0=>bH (v:=zB true) a7 rfl rfl) (dD (fun g2 e7=>(aA ⟨true,a2,b1,b2,b3,a9,rfl,(aN.arr 1 [] e7 rfl)⟩)))))
    ·refine bG (g:=19) rfl rfl (cC a7) (aT (fun _ a0=>aF (v:=i64 a8) rfl) (bG (g:=19) rfl rfl (cC a7) (aT (fun _ a0=>lJ rfl rfl) (bG (g:=19) rfl rfl (cC a7) (aT (fun _ a0=>aF (v:=zB (decide (0 < a8))) rfl) ?_)))))
     rcases aM a2 with ⟨a3,a2⟩|⟨a3,a2⟩
     ·refine bG (g:=22) rfl rfl a3 (aT (fun _ a0=>bD (t':=3) eO b1 rfl) (bG (g:=22) rfl rfl a3 (aT (fun _ a0=>bY jQ a0 (i:=1) rfl rfl rfl) (bG (g:=22) rfl rfl a3 (aT (fun _ a0=>aF (v:=i64 a8) rfl) (bG (g:=22) rfl rfl a3 (aT (fun _ a0=>hY rfl rfl) (bG (g:=22) rfl rfl a3 ?_))))))))
      obtain ⟨b4,c3,a2⟩:=aJ a2
      refine aT (fun _ a0=>cV cZ rfl h6 rfl rfl rfl c3) ?_
      obtain ⟨g3,b5,e8⟩:=cJ.el (sz:=3) rfl h6 c3
      cases e8
      refine bG (g:=22) rfl rfl a3 (aT (fun _ a0=>dC (k':=(wr (a8 - 1)).toNat * 3+0) iX rfl b5 rfl) (bG (g:=22) rfl rfl a3 (aT (fun _ a0=>bP (t:=0) dF a0 b5 rfl rfl) (bG (g:=22) rfl rfl a3 (aT (fun _ a0=>bD (t':=0) iX rfl rfl) (bG (g:=22) rfl rfl a3 (aT (fun _ a0=>bY dF a0 (i:=0) rfl rfl rfl) (bG (g:=22) rfl rfl a3 (aT (fun _ a0=>pB rfl rfl) (bG (g:=19) rfl rfl (cC a7) (aT (fun _ a0=>bH (v:=zB (b4.F == a6.F)) a3 rfl rfl) (bG (g:=19) rfl rfl (cC a7) (aT (fun _ a0=>aF (v:=zB (b4.F == a6.F)) rfl) ?_)))))))))))))
      rcases aM a2 with ⟨a5,a2⟩|⟨a5,a2⟩
      ·refine bG (g:=34) rfl rfl a5 (aT (fun _ a0=>bD (t':=3) eO b1 rfl) (bG (g:=34) rfl rfl a5 (aT (fun _ a0=>bY jQ a0 (i:=1) rfl rfl rfl) (bG (g:=34) rfl rfl a5 (aT (fun _ a0=>aF (v:=i64 a8) rfl) (bG (g:=34) rfl rfl a5 (aT (fun _ a0=>hY rfl rfl) (bG (g:=34) rfl rfl a5 (aT (fun _ a0=>cV cZ rfl h6 rfl rfl rfl c3) (bG (g:=34) rfl rfl a5 (aT (fun _ a0=>dC (k':=(wr (a8 - 1)).toNat * 3+1) gO rfl b5 rfl) (bG (g:=34) rfl rfl a5 (aT (fun _ a0=>bP (t:=1) dF a0 b5 rfl rfl) (bG (g:=34) rfl rfl a5 (aT (fun _ a0=>bD (t':=1) gO rfl rfl) (bG (g:=34) rfl rfl a5 (aT (fun _ a0=>bY dF a0 (i:=0) rfl rfl rfl) (bG (g:=34) rfl rfl a5 (aT (fun _ a0=>pB rfl rfl) (bG (g:=19) rfl rfl (cC a7) (aT (fun _ a0=>bH (v:=zB (b4.B == a6.B)) a5 rfl rfl) (aT (fun _ a0=>bL (v:=zB (b4.B == a6.B)) a7 rfl rfl) (dD ?_)))))))))))))))))))))))
       intro g4 e9
       exact aA ⟨b4.B == a6.B,a2,b1,b2,b3,a9,rfl,(aN.arr 1 [] e9 rfl)⟩
      ·exact aU (g:=34) rfl rfl (bU a5) (aU (g:=34) rfl rfl (bU a5) (aU (g:=34) rfl rfl (bU a5) (aU (g:=34) rfl rfl (bU a5) (aU (g:=34) rfl rfl (bU a5) (aU (g:=34) rfl rfl (bU a5) (aU (g:=34) rfl rfl (bU a5) (aU (g:=34) rfl rfl (bU a5) (aU (g:=34) rfl rfl (bU a5) (aU (g:=34) rfl rfl (bU a5) (bG (g:=19) rfl rfl (cC a7) (aT (fun _ a0=>bL (v:=zB false) a5 rfl rfl) (aT (fun _ a0=>bL (v:=zB false) a7 rfl rfl) (dD (fun g5 f0=>(aA ⟨false,a2,b1,b2,b3,a9,rfl,(aN.arr 1 [] f0 rfl)⟩)))))))))))))))
     ·refine aU (g:=22) rfl rfl (bU a3) (aU (g:=22) rfl rfl (bU a3) (aU (g:=22) rfl rfl (bU a3) (aU (g:=22) rfl rfl (bU a3) (aU (g:=22) rfl rfl (bU a3) (aU (g:=22) rfl rfl (bU a3) (aU (g:=22) rfl rfl (bU a3) (aU (g:=22) rfl rfl (bU a3) (aU (g:=22) rfl rfl (bU a3) (aU (g:=22) rfl rfl (bU a3) (bG (g:=19) rfl rfl (cC a7) (aT (fun _ a0=>bL (v:=zB false) a3 rfl rfl) (bG (g:=19) rfl rfl (cC a7) (aT (fun _ a0=>aF (v:=zB false) rfl) (aU (g:=34) rfl rfl (bU (by decide:¬ false=true)) (aU (g:=34) rfl rfl (bU (by decide:¬ false=true)) (aU (g:=34) rfl rfl (bU (by decide:¬ false=true)) (aU (g:=34) rfl rfl (bU (by decide:¬ false=true)) (aU (g:=34) rfl rfl (bU (by decide:¬ false=true)) (aU (g:=34) rfl rfl (bU (by decide:¬ false=true)) (aU (g:=34) rfl rfl (bU (by decide:¬ false=true)) (aU (g:=34) rfl rfl (bU (by decide:¬ false=true)) (aU (g:=34) rfl rfl (bU (by decide:¬ false=true)) (aU (g:=34) rfl rfl (bU (by decide:¬ false=true)) ?_)))))))))))))))))))))))
      exact bG (g:=19) rfl rfl (cC a7) (aT (fun _ a0=>bL (v:=zB false) (by decide:¬ false=true) rfl rfl) (aT (fun _ a0=>bL (v:=zB false) a7 rfl rfl) (dD (fun g6 f1=>(aA ⟨false,a2,b1,b2,b3,a9,rfl,(aN.arr 1 [] f1 rfl)⟩)))))
   ·refine aO b9 rfl (cN (bB (bB ?_)))
    have f2:=c7 _ (zI a2).symm
    subst f2
    have hm:(kL)=some R:=hm
    exact bS (aA ⟨hm,(aN.arr 1 [] b8 rfl)⟩)
theorem lD {s_:(List aZ)} {v_:aZ} {R:Int} (hs:aN G K (L) w) (h3:cJ K a1 c2 s_) (hm:eB s_ v_=some R):
  Calls Tryz.prog 82 ([zS a1 s_.length c2,cR v_]:List Value).toArray w (gV fun v w'=>v=i64 R∧aN G K (L) w'):=by
 refine aW Tryz.func82 rfl (by kernel_rfl) (by show (2:Nat)≤19;decide) ?_
 unfold eB at hm
 refine aH (aC (aB (aG (v:=i64 0) rfl) (aD (aA (aH (aH (aC (aB (aF (v:=zS a1 s_.length c2) rfl) (aB (bR (len:=s_.length) cE rfl) (aB (aF (v:=i64 0) rfl) (aD (aA (bJ (fun f w=>fU=some R∧aN G K (L) w) ?_ ?_)))))))))))))
 ·rintro f w4 ⟨hm,b2⟩
  unfold fU at hm
  refine aA (aH (aC (aB (aG (v:=i64 (-1)) rfl) (aD (aA ?_)))))
  cases zI hm
  exact bC (bA Tryz.results82 rfl ⟨rfl,b2⟩)
 obtain ⟨c3,b4,hm⟩:=aJ hm
 refine cP b4 (fun (a2:Int) f w=>f 0=zS a1 s_.length c2∧f 1=cR v_∧f 7=i64 (s_.length:Int)∧f 8=i64 a2∧aN G K (L) w) ?_ ?_
 ·exact ⟨rfl,rfl,rfl,rfl,hs⟩
 ·rintro a2 b5 f c4 a0 a7 ⟨a8,a9,b0,a4,a3⟩
  replace a0:dQ s_ v_ a2=some b5:=a0
  unfold dQ at a0
  refine aH (aC (aB (cK a4 b0) (aD (aA (aH ?_)))))
  rcases aM a0 with ⟨a5,a0⟩|⟨a5,a0⟩
  ·refine aQ a5 rfl (aY (aA (aH (cQ (aH (aC (aB (aF a4) (aB (aG (v:=i64 a2) rfl) (aD (aA (aH (aC (aB (aF a9) (aB (aF a8) (aB (aF (v:=i64 a2) rfl) ?_)))))))))))))))
   obtain ⟨c5,b1,a0⟩:=aJ a0
   refine aB (cV cE rfl h3 rfl rfl rfl b1) ?_
   obtain ⟨c6,b6,b7⟩:=cJ.el (sz:=1) rfl h3 b1
   cases b7
   refine aB (bP (t:=0) qR a3 b6 rfl rfl) (aB (aAJ rfl rfl) (aD (aA ?_)))
   rcases aM a0 with ⟨a6,a0⟩|⟨a6,a0⟩
   ·refine aQ a6 rfl (aH (aC (aB (aF (v:=i64 a2) rfl) (aB (aG (v:=i64 a2) rfl) (aD (aA (bC (bN (aS (aS ?_))))))))))
    have b8:=a7 _ (zI a0).symm
    subst b8
    have hm:(some a2)=some R:=hm
    cases zI hm
    exact bN (aS (aS (bA Tryz.results82 rfl ⟨rfl,a3⟩)))
   ·exact aO a6 rfl (aY (bO (aA (aC (aB (cY a4 rfl) (aB (aF (v:=i64 (wr (a2+1))) rfl) (aD (aA ⟨wr (a2+1),(zI a0).symm,a8,a9,b0,rfl,a3⟩))))))))
  ·refine aO a5 rfl (cN (bB (bB ?_)))
   have c0:=a7 _ (zI a0).symm
   subst c0
   have hm:(fU)=some R:=hm
   exact bS (aA ⟨hm,a3⟩)
theorem rN {s_:(List aZ)} {v_:aZ} {R:Bool} (hs:aN G K (L) w) (h3:cJ K a1 c2 s_) (hm:dR s_ v_=some R):
  Calls Tryz.prog 121 ([zS a1 s_.length c2,cR v_]:List Value).toArray w (gV fun v w'=>v=zB R∧aN G K (L) w'):=by
 refine aW Tryz.func121 rfl (by kernel_rfl) (by show (2:Nat)≤9;decide) ?_
 unfold dR at hm
 refine aH (aC (aB (aG (v:=zB false) rfl) (aD (aA (aH (aC (aB (aF (v:=zS a1 s_.length c2) rfl) (aB (aF (v:=cR v_) rfl) ?_))))))))
 obtain ⟨r4,q5,hm⟩:=aJ hm
 refine aX (vs:=[zS a1 s_.length c2,cR v_]) Tryz.call82 rfl (lD hs h3 q5) ?_
 rintro _ w6 ⟨rfl,a3⟩
 refine aB (yL rfl rfl) (aB (aG (v:=zB (decide (0≤r4))) rfl) (aD (aA ?_)))
 cases zI hm
 exact bC (bA Tryz.results121 rfl ⟨rfl,a3⟩)
theorem oY {s_:(List Edge)} {R:(List Edge)} (hs:aN G K (aK 63 K a1 c2 s_::L) w)  (hm:dT s_=some R):
  Calls Tryz.prog 84 ([zS a1 s_.length c2]:List Value).toArray w (gV fun v w'=>∃ (ra0:Option Addr) (rc0:Nat),v=zS ra0 R.length rc0∧aN G K (aK 63 K ra0 rc0 R::L) w'):=by
 refine aW Tryz.func84 rfl (by kernel_rfl) (by show (1:Nat)≤61;decide) ?_
 unfold dT at hm
 refine aH (aC (aB (aG (v:=zS none 0 0) rfl) (aD (aA (aH (aH (aC (aB (aF (v:=zS a1 s_.length c2) rfl) (aB (bR (len:=s_.length) cZ rfl) (aB (cK rfl rfl) (aD (aA ?_))))))))))))
 rcases aM hm with ⟨c3,hm⟩|⟨c3,hm⟩
 ·refine aQ c3 rfl (aH (aC (aB (aF (v:=zS a1 s_.length c2) rfl) (aB (aG (v:=zS a1 s_.length c2) rfl) (aD (aA ?_))))))
  cases zI hm
  exact bC (aS (bA Tryz.results84 rfl ⟨a1,c2,rfl,hs⟩))
 ·refine aO c3 rfl (aY (aA (aH (aH (aC (aB (aG (v:=i64 1) rfl) (aD (aA (bJ (fun f w=>eE s_=some R∧f 0=zS a1 s_.length c2∧aN G K (aK 63 K a1 c2 s_::L) w) ?_ ?_)))))))))
  ·rintro f w6 ⟨hm,e5,g2⟩
   unfold eE at hm
   refine aA (aH (aC (aB (aF e5) (aB (aG (v:=zS a1 s_.length c2) rfl) (aD (aA ?_))))))
   cases zI hm
   exact bC (bA Tryz.results84 rfl ⟨a1,c2,rfl,g2⟩)
  obtain ⟨i8,g4,hm⟩:=aJ hm
  refine cP g4 (fun (a6:Int) f w=>f 0=zS a1 s_.length c2∧f 3=i64 a6∧aN G K (aK 63 K a1 c2 s_::L) w) ?_ ?_
  ·exact ⟨rfl,rfl,hs⟩
  ·rintro a6 b7 f i9 a0 e2 ⟨a9,b1,a3⟩
   replace a0:cX s_ a6=some b7:=a0
   unfold cX at a0
   refine aH (aH (aC (aB (aF b1) (aB (aF a9) (aB (bR (len:=s_.length) cZ rfl) (aB (cK rfl rfl) (aD (aA ?_))))))))
   rcases aM a0 with ⟨d1,a0⟩|⟨d1,a0⟩
   ·refine aQ d1 rfl (aY (aA (aH (bJ (fun f w=>eF a6=some b7∧f 0=zS a1 s_.length c2∧f 3=i64 a6∧aN G K (aK 63 K a1 c2 s_::L) w) ?_ ?_))))
    ·rintro f j0 ⟨a0,g5,g6,g7⟩
     unfold eF at a0
     exact aA (aC (aB (aF g6) (aB (cY rfl rfl) (aB (aG (v:=i64 (wr (a6+1))) rfl) (aD (aA ⟨wr (a6+1),(zI a0).symm,g5,rfl,g7⟩))))))
    refine aH (cW (C:=fun w'=>aN G K (aK 63 K a1 c2 s_::L) w') bQ (by kernel_rfl) (aN.mono a3 (dE.drew _)) (aT (fun _ a3=>aF a9) (aT (fun _ a3=>aF b1) ?_)))
    obtain ⟨b8,d2,a0⟩:=aJ a0
    have b2:=dH a3 (i:=0) rfl d2
    refine aT (fun _ a3=>eY cZ rfl b2 rfl rfl rfl d2) (aT (fun _ a3=>aCA (t:=0) (vs:=[i64 b8.F,i64 b8.B,i64 b8.To]) oC a3 (i:=0) rfl d2 rfl rfl rfl rfl) (aT (fun _ a3=>aF a9) (aT (fun _ a3=>aF b1) (aT (fun _ a3=>hY rfl rfl) ?_))))
    obtain ⟨b9,e3,a0⟩:=aJ a0
    refine aT (fun _ a3=>eY cZ rfl b2 rfl rfl rfl e3) (aT (fun _ a3=>aCA (t:=0) (vs:=[i64 b9.F,i64 b9.B,i64 b9.To]) oC a3 (i:=0) rfl e3 rfl rfl rfl rfl) (aT (fun _ a3=>R_eqlG (eq_63 (x:=b8) (y:=b9)) rfl rfl) (dD (fun j1 d3=>(aA ?_)))))
    rcases aM a0 with ⟨c45,a0⟩|⟨c45,a0⟩
    ·refine aQ c45 rfl (aH (aC (aB (aF a9) (aB (aF b1) ?_))))
     obtain ⟨b5,c0,a0⟩:=aJ a0
     have c1:=uY d3 (i:=0) rfl
     obtain ⟨d4,d5,hx50⟩:=Cut.ex 3 a1 c2 a6
     refine aB (aGg cZ c1 hx50 rfl rfl rfl c0) (aB (aG (v:=zS d4 b5.length d5) rfl) (aD (aA (aH (aH (aC (aB (aG (v:=i64 1) rfl) (aD (aA (bJ (fun f w=>∃ (c4:List Edge) (c5:Int),eG c4 c5=some b7∧f 0=zS a1 c4.length c2∧f 3=i64 c5∧aN G K (aK 63 K a1 c2 c4::L) w) ?_ ?_))))))))))
     ·rintro f j2 ⟨c4,c5,a0,e4,e55,e6⟩
      unfold eG at a0
      refine aA (aH (aC (aB (aF e4) (aB (aF e55) ?_))))
      obtain ⟨j3,g8,a0⟩:=aJ a0
      have g9:=uY e6 (i:=0) rfl
      obtain ⟨j4,j5,e7⟩:=Cut.ex 3 a1 c2 c5
      refine aB (aGg cZ g9 e7 rfl rfl rfl g8) ?_
      obtain ⟨e8,e9,a0⟩:=aJ a0
      refine aHA cZ aAm rfl e6 (i:=0) rfl e7 rfl rfl e9 (fun f0 (f1:aN G K (aK 63 K a1 c2 e8::L) f0)=>(aD (aA (aH (aC (aB (aF (v:=zS a1 e8.length c2) (Eq.trans e4 (congrArg (fun n=>zS a1 n c2) (aGC e9)))) (aB (aF e55) ?_)))))))
      obtain ⟨d6,f2,a0⟩:=aJ a0
      have h0:=uY f1 (i:=0) rfl
      obtain ⟨d7,d8,f3⟩:=Cut.ex 3 a1 c2 0
      refine aB (aLF cZ h0 f3 rfl rfl rfl f2) (aB (aG (v:=zS d7 d6.length d8) rfl) (aD (aA (bC (bN (aS (aS (aS ?_))))))))
      have h1:=e2 _ (zI a0).symm
      subst h1
      have hm:(some d6)=some R:=hm
      have h2:aN G K (aK 63 K d7 d8 d6::L) f0:=aN.cutP f1 (i:=0) rfl f2 f3
      cases zI hm
      exact bN (aS (aS (bA Tryz.results84 rfl ⟨d7,d8,rfl,h2⟩)))
     obtain ⟨j6,h4,a0⟩:=aJ a0
     refine cP h4 (fun (s:(List Edge × Int × Int)) f w=>match s with|(a7,a8,b0)=>f 0=zS a1 a7.length c2∧f 3=i64 a8∧f 4=zS d4 b5.length d5∧f 5=i64 b0∧aN G K (aK 63 K a1 c2 a7::L) w) ?_ ?_
     ·exact ⟨a9,b1,rfl,rfl,d3⟩
     ·rintro ⟨a7,a8,b0⟩ f4 f j7 a2 h5 ⟨c6,c7,b3,b4,a4⟩
      replace a2:fV a6 b5 a7 a8 b0=some f4:=a2
      unfold fV at a2
      refine aH (aH (aC (aB (aF b4) (aB (aF b3) (aB (bR (len:=b5.length) cZ rfl) (aB (cK rfl rfl) (aD (aA ?_))))))))
      rcases aM a2 with ⟨d9,a2⟩|⟨d9,a2⟩
      ·refine aQ d9 rfl (aY (aA (aH (bJ (fun f w=>∃ (b6:List Edge) (c8:Int),eH b0 b6 c8=some f4∧f 0=zS a1 b6.length c2∧f 3=i64 c8∧f 4=zS d4 b5.length d5∧f 5=i64 b0∧aN G K (aK 63 K a1 c2 b6::L) w) ?_ ?_))))
       ·rintro f j8 ⟨b6,c8,a2,h6,h7,h8,h9,i0⟩
        unfold eH at a2
        exact aA (aC (aB (aF h9) (aB (cY rfl rfl) (aB (aG (v:=i64 (wr (b0+1))) rfl) (aD (aA ⟨(b6,c8,wr (b0+1)),(zI a2).symm,h6,h7,h8,rfl,i0⟩))))))
       refine aH (cW (C:=fun w'=>aN G K (aK 63 K a1 c2 a7::L) w') bQ (by kernel_rfl) (aN.mono a4 (dE.drew _)) (aT (fun _ a4=>aF b3) (aT (fun _ a4=>aF b4) ?_)))
       obtain ⟨j9,f5,a2⟩:=aJ a2
       obtain ⟨a5,f6,a2⟩:=aJ a2
       refine aT (fun _ a4=>aGI cZ b2 hx50 c0 c1 rfl rfl rfl f5 rfl) (aT (fun _ a4=>aCA (t:=0) (vs:=[i64 a5.F,i64 a5.B,i64 a5.To]) oC a4 (i:=0) rfl f6 rfl rfl rfl rfl) (aT (fun _ a4=>aF b3) (aT (fun _ a4=>aF b4) (aT (fun _ a4=>hY rfl rfl) ?_))))
       obtain ⟨k0,i1,a2⟩:=aJ a2
       obtain ⟨c9,i2,a2⟩:=aJ a2
       refine aT (fun _ a4=>aGI cZ b2 hx50 c0 c1 rfl rfl rfl i1 rfl) (aT (fun _ a4=>aCA (t:=0) (vs:=[i64 c9.F,i64 c9.B,i64 c9.To]) oC a4 (i:=0) rfl i2 rfl rfl rfl rfl) (aT (fun _ a4=>R_neqG (eq_63 (x:=a5) (y:=c9)) rfl rfl) (dD (fun k1 e0=>(aA ?_)))))
       rcases aM a2 with ⟨e1,a2⟩|⟨e1,a2⟩
       ·refine aQ e1 rfl (aH (aC (aB (aF c6) (aB (aF c7) (aB (aF b3) (aB (aF b4) (aB (aGI cZ b2 hx50 c0 c1 rfl rfl rfl f5 rfl) (aB (aCA (t:=0) (vs:=[i64 a5.F,i64 a5.B,i64 a5.To]) oC e0 (i:=0) rfl f6 rfl rfl rfl rfl) ?_))))))))
        obtain ⟨k2,f7,a2⟩:=aJ a2
        refine aB (eY cZ rfl b2 rfl rfl rfl f7) ?_
        obtain ⟨f8,f9,a2⟩:=aJ a2
        exact rO (i:=0) (t:=0) (ns:=[i64 a5.F,i64 a5.B,i64 a5.To]) (e':=(⟨a5.F,a5.B,a5.To⟩:Edge)) Tryz.sizeOf63 e0 rfl (Hp.le_refl _) rfl rfl rfl f7 f9 rfl rfl (eD rfl) rfl (fun cs h=>by cases h;rfl) (fun i3 (i4:aN G K (aK 63 K a1 c2 f8::L) i3)=>(aD (aA (aC (aB (aF c7) (aB (cY rfl rfl) (aB (aG (v:=i64 (wr (a8+1))) rfl) (aD (bO (aA ⟨f8,wr (a8+1),a2,(Eq.trans c6 (congrArg (fun n=>zS a1 n c2) (jM f9))),rfl,b3,b4,i4⟩))))))))))
       ·exact aO e1 rfl (aY (bO (aA ⟨a7,a8,a2,c6,c7,b3,b4,e0⟩)))
      ·refine aO d9 rfl (cN (bB (bB ?_)))
       have i5:=h5 _ (zI a2).symm
       subst i5
       have a0:(eG a7 a8)=some b7:=a0
       exact bS (aA ⟨a7,a8,a0,c6,c7,a4⟩)
    ·exact aO c45 rfl (aY (bO (aA ⟨a0,a9,b1,d3⟩)))
   ·refine aO d1 rfl (cN (bB (bB ?_)))
    have i6:=e2 _ (zI a0).symm
    subst i6
    have hm:(eE s_)=some R:=hm
    exact bS (aA ⟨hm,a9,a3⟩)
theorem sS {s_:(List aZ)} {R:(List aZ)} (hs:aN G K (aK 9 K a1 c2 s_::L) w)  (hm:eT s_=some R):
  Calls Tryz.prog 81 ([zS a1 s_.length c2]:List Value).toArray w (gV fun v w'=>∃ (ra0:Option Addr) (rc0:Nat),v=zS ra0 R.length rc0∧aN G K (aK 9 K ra0 rc0 R::L) w'):=by
 refine aW Tryz.func81 rfl (by kernel_rfl) (by show (1:Nat)≤61;decide) ?_
 unfold eT at hm
 refine aH (aC (aB (aG (v:=zS none 0 0) rfl) (aD (aA (aH (aH (aC (aB (aF (v:=zS a1 s_.length c2) rfl) (aB (bR (len:=s_.length) cE rfl) (aB (cK rfl rfl) (aD (aA ?_))))))))))))
 rcases aM hm with ⟨c3,hm⟩|⟨c3,hm⟩
 ·refine aQ c3 rfl (aH (aC (aB (aF (v:=zS a1 s_.length c2) rfl) (aB (aG (v:=zS a1 s_.length c2) rfl) (aD (aA ?_))))))
  cases zI hm
  exact bC (aS (bA Tryz.results81 rfl ⟨a1,c2,rfl,hs⟩))
 ·refine aO c3 rfl (aY (aA (aH (aH (aC (aB (aG (v:=i64 1) rfl) (aD (aA (bJ (fun f w=>fJ s_=some R∧f 0=zS a1 s_.length c2∧aN G K (aK 9 K a1 c2 s_::L) w) ?_ ?_)))))))))
  ·rintro f w6 ⟨hm,e5,f9⟩
   unfold fJ at hm
   refine aA (aH (aC (aB (aF e5) (aB (aG (v:=zS a1 s_.length c2) rfl) (aD (aA ?_))))))
   cases zI hm
   exact bC (bA Tryz.results81 rfl ⟨a1,c2,rfl,f9⟩)
  obtain ⟨i5,g1,hm⟩:=aJ hm
  refine cP g1 (fun (a5:Int) f w=>f 0=zS a1 s_.length c2∧f 3=i64 a5∧aN G K (aK 9 K a1 c2 s_::L) w) ?_ ?_
  ·exact ⟨rfl,rfl,hs⟩
  ·rintro a5 b6 f i6 a0 d8 ⟨a8,b0,a3⟩
   replace a0:dL s_ a5=some b6:=a0
   unfold dL at a0
   refine aH (aH (aC (aB (aF b0) (aB (aF a8) (aB (bR (len:=s_.length) cE rfl) (aB (cK rfl rfl) (aD (aA ?_))))))))
   rcases aM a0 with ⟨c7,a0⟩|⟨c7,a0⟩
   ·refine aQ c7 rfl (aY (aA (aH (bJ (fun f w=>fK a5=some b6∧f 0=zS a1 s_.length c2∧f 3=i64 a5∧aN G K (aK 9 K a1 c2 s_::L) w) ?_ ?_))))
    ·rintro f i7 ⟨a0,g2,g3,g4⟩
     unfold fK at a0
     exact aA (aC (aB (aF g3) (aB (cY rfl rfl) (aB (aG (v:=i64 (wr (a5+1))) rfl) (aD (aA ⟨wr (a5+1),(zI a0).symm,g2,rfl,g4⟩))))))
    refine aH (cW (C:=fun w'=>aN G K (aK 9 K a1 c2 s_::L) w') bQ (by kernel_rfl) (aN.mono a3 (dE.drew _)) (aT (fun _ a3=>aF a8) (aT (fun _ a3=>aF b0) ?_)))
    obtain ⟨i8,c8,a0⟩:=aJ a0
    have b1:=dH a3 (i:=0) rfl c8
    refine aT (fun _ a3=>eY cE rfl b1 rfl rfl rfl c8) (aT (fun _ a3=>tQ (t:=0) qR a3 (i:=0) rfl c8 rfl rfl rfl) (aT (fun _ a3=>aF a8) (aT (fun _ a3=>aF b0) (aT (fun _ a3=>hY rfl rfl) ?_))))
    obtain ⟨i9,d9,a0⟩:=aJ a0
    refine aT (fun _ a3=>eY cE rfl b1 rfl rfl rfl d9) (aT (fun _ a3=>tQ (t:=0) qR a3 (i:=0) rfl d9 rfl rfl rfl) (aT (fun _ a3=>aAJ rfl rfl) (dD (fun j0 c9=>(aA ?_)))))
    rcases aM a0 with ⟨c45,a0⟩|⟨c45,a0⟩
    ·refine aQ c45 rfl (aH (aC (aB (aF a8) (aB (aF b0) ?_))))
     obtain ⟨b4,b7,a0⟩:=aJ a0
     have b8:=uY c9 (i:=0) rfl
     obtain ⟨d0,d1,b9⟩:=Cut.ex 1 a1 c2 a5
     refine aB (aGg cE b8 b9 rfl rfl rfl b7) (aB (aG (v:=zS d0 b4.length d1) rfl) (aD (aA (aH (aH (aC (aB (aG (v:=i64 1) rfl) (aD (aA (bJ (fun f w=>∃ (c0:List aZ) (c1:Int),dZ c0 c1=some b6∧f 0=zS a1 c0.length c2∧f 3=i64 c1∧aN G K (aK 9 K a1 c2 c0::L) w) ?_ ?_))))))))))
     ·rintro f j1 ⟨c0,c1,a0,e0,e1,e2⟩
      unfold dZ at a0
      refine aA (aH (aC (aB (aF e0) (aB (aF e1) ?_))))
      obtain ⟨j2,g5,a0⟩:=aJ a0
      have g6:=uY e2 (i:=0) rfl
      obtain ⟨j3,j4,e3⟩:=Cut.ex 1 a1 c2 c1
      refine aB (aGg cE g6 e3 rfl rfl rfl g5) ?_
      obtain ⟨e4,q65,a0⟩:=aJ a0
      refine aHA cE oB rfl e2 (i:=0) rfl e3 rfl rfl q65 (fun e6 (e7:aN G K (aK 9 K a1 c2 e4::L) e6)=>(aD (aA (aH (aC (aB (aF (v:=zS a1 e4.length c2) (Eq.trans e0 (congrArg (fun n=>zS a1 n c2) (aGC q65)))) (aB (aF e1) ?_)))))))
      obtain ⟨d2,e8,a0⟩:=aJ a0
      have g7:=uY e7 (i:=0) rfl
      obtain ⟨d3,d4,e9⟩:=Cut.ex 1 a1 c2 0
      refine aB (aLF cE g7 e9 rfl rfl rfl e8) (aB (aG (v:=zS d3 d2.length d4) rfl) (aD (aA (bC (bN (aS (aS (aS ?_))))))))
      have g8:=d8 _ (zI a0).symm
      subst g8
      have hm:(some d2)=some R:=hm
      have g9:aN G K (aK 9 K d3 d4 d2::L) e6:=aN.cutP e7 (i:=0) rfl e8 e9
      cases zI hm
      exact bN (aS (aS (bA Tryz.results81 rfl ⟨d3,d4,rfl,g9⟩)))
     obtain ⟨j5,h1,a0⟩:=aJ a0
     refine cP h1 (fun (s:(List aZ × Int × Int)) f w=>match s with|(a6,a7,a9)=>f 0=zS a1 a6.length c2∧f 3=i64 a7∧f 4=zS d0 b4.length d1∧f 5=i64 a9∧aN G K (aK 9 K a1 c2 a6::L) w) ?_ ?_
     ·exact ⟨a8,b0,rfl,rfl,c9⟩
     ·rintro ⟨a6,a7,a9⟩ f0 f j6 a2 h2 ⟨e95,c4,b2,b3,a4⟩
      replace a2:dK a5 b4 a6 a7 a9=some f0:=a2
      unfold dK at a2
      refine aH (aH (aC (aB (aF b3) (aB (aF b2) (aB (bR (len:=b4.length) cE rfl) (aB (cK rfl rfl) (aD (aA ?_))))))))
      rcases aM a2 with ⟨d5,a2⟩|⟨d5,a2⟩
      ·refine aQ d5 rfl (aY (aA (aH (bJ (fun f w=>∃ (b5:List aZ) (c5:Int),eA a9 b5 c5=some f0∧f 0=zS a1 b5.length c2∧f 3=i64 c5∧f 4=zS d0 b4.length d1∧f 5=i64 a9∧aN G K (aK 9 K a1 c2 b5::L) w) ?_ ?_))))
       ·rintro f j7 ⟨b5,c5,a2,h3,h4,h5,h6,h7⟩
        unfold eA at a2
        exact aA (aC (aB (aF h6) (aB (cY rfl rfl) (aB (aG (v:=i64 (wr (a9+1))) rfl) (aD (aA ⟨(b5,c5,wr (a9+1)),(zI a2).symm,h3,h4,h5,rfl,h7⟩))))))
       refine aH (cW (C:=fun w'=>aN G K (aK 9 K a1 c2 a6::L) w') bQ (by kernel_rfl) (aN.mono a4 (dE.drew _)) (aT (fun _ a4=>aF b2) (aT (fun _ a4=>aF b3) ?_)))
       obtain ⟨j8,f1,a2⟩:=aJ a2
       obtain ⟨f2,f3,a2⟩:=aJ a2
       refine aT (fun _ a4=>aGI cE b1 b9 b7 b8 rfl rfl rfl f1 rfl) (aT (fun _ a4=>tQ (t:=0) qR a4 (i:=0) rfl f3 rfl rfl rfl) (aT (fun _ a4=>aF b2) (aT (fun _ a4=>aF b3) (aT (fun _ a4=>hY rfl rfl) ?_))))
       obtain ⟨j9,h8,a2⟩:=aJ a2
       obtain ⟨k0,h9,a2⟩:=aJ a2
       refine aT (fun _ a4=>aGI cE b1 b9 b7 b8 rfl rfl rfl h8 rfl) (aT (fun _ a4=>tQ (t:=0) qR a4 (i:=0) rfl h9 rfl rfl rfl) (aT (fun _ a4=>aFZ rfl rfl) (dD (fun k1 d6=>(aA ?_)))))
       rcases aM a2 with ⟨d7,a2⟩|⟨d7,a2⟩
       ·refine aQ d7 rfl (aH (aC (aB (aF e95) (aB (aF c4) (aB (aF b2) (aB (aF b3) (aB (aGI cE b1 b9 b7 b8 rfl rfl rfl f1 rfl) (aB (tQ (t:=0) qR d6 (i:=0) rfl f3 rfl rfl rfl) ?_))))))))
        obtain ⟨k2,f4,a2⟩:=aJ a2
        refine aB (eY cE rfl b1 rfl rfl rfl f4) ?_
        obtain ⟨f5,f6,a2⟩:=aJ a2
        exact rO (i:=0) (t:=0) (ns:=[cR f2]) (e':=(f2:aZ)) Tryz.sizeOf9 d6 rfl (Hp.le_refl _) rfl rfl rfl f4 f6 rfl rfl (eD rfl) rfl (fun cs h=>by cases h;rfl) (fun i0 (i1:aN G K (aK 9 K a1 c2 f5::L) i0)=>(aD (aA (aC (aB (aF c4) (aB (cY rfl rfl) (aB (aG (v:=i64 (wr (a7+1))) rfl) (aD (bO (aA ⟨f5,wr (a7+1),a2,(Eq.trans e95 (congrArg (fun n=>zS a1 n c2) (jM f6))),rfl,b2,b3,i1⟩))))))))))
       ·exact aO d7 rfl (aY (bO (aA ⟨a6,a7,a2,e95,c4,b2,b3,d6⟩)))
      ·refine aO d5 rfl (cN (bB (bB ?_)))
       have i2:=h2 _ (zI a2).symm
       subst i2
       have a0:(dZ a6 a7)=some b6:=a0
       exact bS (aA ⟨a6,a7,a0,e95,c4,a4⟩)
    ·exact aO c45 rfl (aY (bO (aA ⟨a0,a8,b0,c9⟩)))
   ·refine aO c7 rfl (cN (bB (bB ?_)))
    have i3:=d8 _ (zI a0).symm
    subst i3
    have hm:(fJ s_)=some R:=hm
    exact bS (aA ⟨hm,a8,a3⟩)
theorem aOJ {states:Int} {initial:Int} {labels:(List aZ)} {arcs:(List lS)} {R:cH} (hs:aN G K (L) w) (h3:cJ K a1 c2 labels) (h6:cJ K a4 c5 arcs) (hm:aGS states initial labels arcs=some R):
  Calls Tryz.prog 36 ([i64 states,i64 initial,zS a1 labels.length c2,zS a4 arcs.length c5]:List Value).toArray w (gV fun v w'=>∃ (ra0:Option Addr) (rc0:Nat) (ra1:Option Addr) (rc1:Nat),v=zA (zCa R ra0 rc0 ra1 rc1)∧aN G K (aK 9 K ra0 rc0 R.L::aK 63 K ra1 rc1 R.E::L) w'):=by
 refine aW Tryz.func36 rfl (by kernel_rfl) (by show (4:Nat)≤55;decide) ?_
 unfold aGS at hm
 refine aH (aC (cL (vs:=zG) Tryz.zeroValue30 hs rfl (fun b7 w8 g0=>(aD (aA (aH (aC (aB (aF (v:=i64 states) rfl) (aB (aF (v:=i64 initial) rfl) (dA (Kt:=K) (xs:=([([116,97,117]:aZ)]:List aZ)) (cs:=[cR ([116,97,117]:aZ)]) (vs:=[(0,cR ([116,97,117]:aZ))]) cE oB rfl rfl g0 rfl (by kernel_rfl) rfl rfl rfl ⟨rfl,trivial⟩ (fun g1 g2 (g3:aN G K (aK 9 K g1 1 ([([116,97,117]:aZ)]:List aZ)::box b7 30 zG::L) g2)=>(aB (aF (v:=zS a1 labels.length c2) rfl) ?_))))))))))))
 obtain ⟨b5,g4,hm⟩:=aJ hm
 refine qP (i:=0) cE Tryz.underlying22 oB rfl rfl g3 rfl (Hp.le_refl _) h3 g4 rfl rfl rfl rfl (fun a7 a8 g5 (g6:aN G K (aK 9 K a7 a8 b5::box b7 30 zG::L) g5)=>(aB (gW (vs:=[(0,i64 states),(1,i64 initial),(2,zS a7 b5.length a8)]) (cs:=[i64 states,i64 initial,zS a7 b5.length a8,zS none 0 0]) bs_30 rfl (by kernel_rfl)) (cL (vs:=zG) Tryz.zeroValue30 g6 rfl (fun a9 l4 g7=>(cM (i:=0) (ns:=[i64 states,i64 initial,zS a7 b5.length a8,zS none 0 0]) (us:=[i64 states,i64 initial,zS a7 b5.length a8,zS none 0 0]) Tryz.sizeOf30 g7 rfl rfl rfl rfl rfl (eD rfl) rfl rfl (fun e0 (e1:aN G K (box a9 30 [i64 states,i64 initial,zS a7 b5.length a8,zS none 0 0]::aK 9 K a7 a8 b5::box b7 30 zG::L) e0)=>(aD (aA (aH (aC (aB (bD (t':=2) iO rfl rfl) (aB (bY jK e1 (i:=0) rfl rfl rfl) ?_))))))))))))
 have g8:aN G K (aK 9 K a7 a8 b5::box a9 30 [i64 states,i64 initial,zS a7 b5.length a8,zS none 0 0]::box b7 30 zG::L) e0:=(aN.arr 2 [1,0] e1 rfl)
 obtain ⟨d1,g9,hm⟩:=aJ hm
 refine aX (vs:=[zS a7 b5.length a8,Value.func (.func 80) #[] #[]]) Tryz.call79 rfl (aNw g8 g9) ?_
 rintro _ e2 ⟨rfl,h0,h1⟩
 have e3:aN G K (aK 9 K a7 a8 d1::box a9 30 [i64 states,i64 initial,zS a7 d1.length a8,zS none 0 0]::box b7 30 zG::L) e2:=Eq.mp (congrArg (fun n=>aN G K (aK 9 K a7 a8 d1::box a9 30 [i64 states,i64 initial,zS a7 n a8,zS none 0 0]::box b7 30 zG::L) e2) h0) h1
 refine aD (aA (aH (aC (aB (bD (t':=2) iO rfl rfl) (aB (bY jK e3 (i:=1) rfl rfl rfl) ?_)))))
 obtain ⟨a0,h2,hm⟩:=aJ hm
 refine aX (vs:=[zS a7 d1.length a8]) Tryz.call81 rfl (sS e3 h2) ?_
 rintro _ l5 ⟨a2,a3,rfl,h4⟩
 refine aB (bD (t':=2) iO rfl rfl) (cM (i:=1) (ns:=[zS a2 a0.length a3]) (us:=[i64 states,i64 initial,zS a2 a0.length a3,zS none 0 0]) Tryz.sizeOf22 h4 rfl rfl rfl rfl rfl (eD rfl) rfl rfl (fun h5 (h7:aN G K (aK 9 K a2 a3 a0::box a9 30 [i64 states,i64 initial,zS a2 a0.length a3,zS none 0 0]::box b7 30 zG::L) h5)=>(aD (aA (aH (aH (aC (aB (aF (v:=zS a4 arcs.length c5) rfl) (aB (bR (len:=arcs.length) sl_68 rfl) (aB (aF (v:=i64 0) rfl) (aD (aA (bJ (fun f w=>∃ (c8:List Edge) (b6:Option Addr) (c42:Nat),aES states initial a0 c8=some R∧f 8=zP (some ⟨b7,0,none⟩)∧f 9=zP (some ⟨a9,0,none⟩)∧aN G K (aK 63 K b6 c42 c8::aK 9 K a2 a3 a0::box a9 30 [i64 states,i64 initial,zS a2 a0.length a3,zS b6 c8.length c42]::box b7 30 zG::L) w) ?_ ?_)))))))))))))
 ·rintro f l6 ⟨c8,b6,c42,hm,e4,d2,e5⟩
  unfold aES at hm
  refine aA (aH (aC (aB (bD (t':=3) eO d2 rfl) (aB (bY jQ e5 (i:=2) rfl rfl rfl) ?_))))
  obtain ⟨d3,h8,hm⟩:=aJ hm
  refine aX (vs:=[zS b6 c8.length c42,Value.func (.func 77) #[] #[]]) Tryz.call83 rfl (aMd e5 h8) ?_
  rintro _ e6 ⟨rfl,h9,i0⟩
  have e7:aN G K (aK 63 K b6 c42 d3::aK 9 K a2 a3 a0::box a9 30 [i64 states,i64 initial,zS a2 a0.length a3,zS b6 d3.length c42]::box b7 30 zG::L) e6:=Eq.mp (congrArg (fun n=>aN G K (aK 63 K b6 c42 d3::aK 9 K a2 a3 a0::box a9 30 [i64 states,i64 initial,zS a2 a0.length a3,zS b6 n c42]::box b7 30 zG::L) e6) h9) i0
  refine aD (aA (aH (aC (aB (bD (t':=3) eO d2 rfl) (aB (bY jQ e7 (i:=2) rfl rfl rfl) ?_)))))
  obtain ⟨b3,i1,hm⟩:=aJ hm
  refine aX (vs:=[zS b6 d3.length c42]) Tryz.call84 rfl (oY e7 i1) ?_
  rintro _ l7 ⟨b1,b2,rfl,i2⟩
  refine aB (bD (t':=3) eO d2 rfl) (cM (i:=2) (ns:=[zS b1 b3.length b2]) (us:=[i64 states,i64 initial,zS a2 a0.length a3,zS b1 b3.length b2]) Tryz.sizeOf28 i2 rfl rfl rfl rfl rfl (eD rfl) rfl rfl (fun i3 (e8:aN G K (aK 63 K b1 b2 b3::aK 9 K a2 a3 a0::box a9 30 [i64 states,i64 initial,zS a2 a0.length a3,zS b1 b3.length b2]::box b7 30 zG::L) i3)=>(aD (aA (aH (aC (aB (dO (us:=[i64 states,i64 initial,zS a2 a0.length a3,zS b1 b3.length b2]) kE e8 (i:=2) rfl d2 rfl rfl) (cM (i:=3) (ns:=[i64 states,i64 initial,zS a2 a0.length a3,zS b1 b3.length b2]) (us:=[i64 states,i64 initial,zS a2 a0.length a3,zS b1 b3.length b2]) Tryz.sizeOf30 e8 rfl e4 rfl rfl rfl (eD rfl) rfl rfl (fun i4 (e9:aN G K (aK 63 K b1 b2 b3::aK 9 K a2 a3 a0::box a9 30 [i64 states,i64 initial,zS a2 a0.length a3,zS b1 b3.length b2]::box b7 30 [i64 states,i64 initial,zS a2 a0.length a3,zS b1 b3.length b2]::L) i4)=>(aD (aA ?_)))))))))))
  cases zI hm
  exact bC (aGF Tryz.results36 (oA (vs:=[i64 states,i64 initial,zS a2 a0.length a3,zS b1 b3.length b2]) rfl kE e9 (i:=3) rfl e4 rfl) ⟨a2,a3,b1,b2,rfl,(aN.arr 4 [1,0] e9 rfl)⟩)
 have i6:=aN.nil (α:=Edge) h7 63 K
 obtain ⟨l8,i7,hm⟩:=aJ hm
 refine cP i7 (fun (s:(List Edge × Int)) f w=>match s with|(b8,c9)=>∃ (b9:Option Addr) (c0:Nat),f 8=zP (some ⟨b7,0,none⟩)∧f 9=zP (some ⟨a9,0,none⟩)∧f 25=zS a4 arcs.length c5∧f 26=i64 (arcs.length:Int)∧f 27=i64 c9∧aN G K (aK 63 K b9 c0 b8::aK 9 K a2 a3 a0::box a9 30 [i64 states,i64 initial,zS a2 a0.length a3,zS b9 b8.length c0]::box b7 30 zG::L) w) ?_ ?_
 ·exact ⟨none,0,rfl,rfl,rfl,rfl,rfl,i6⟩
 ·rintro ⟨b8,c9⟩ i8 f l9 b0 i9 ⟨b9,c0,f0,d0,f1,f2,d4,d5⟩
  replace b0:aCW arcs a0 b8 c9=some i8:=b0
  unfold aCW at b0
  refine aH (aC (aB (cK d4 f2) (aD (aA (aH ?_)))))
  rcases aM b0 with ⟨d6,b0⟩|⟨d6,b0⟩
  ·refine aQ d6 rfl (aY (aA (aH (cQ (aH (aC ?_))))))
   obtain ⟨a5,f3,b0⟩:=aJ b0
   refine aB (cV sl_68 rfl h6 f1 rfl d4 f3) ?_
   obtain ⟨m0,j0,j1⟩:=cJ.el (sz:=3) rfl h6 f3
   cases j1
   refine aB (iU (t:=0) (vs:=[i64 a5.from_,cR a5.label,i64 a5.to_]) ag_70 d5 j0 rfl rfl rfl) (cL (vs:=[i64 0,cR ([]:aZ),i64 0]) Tryz.zeroValue70 d5 rfl (fun f4 m1 j2=>(cM (i:=0) (ns:=[i64 a5.from_,cR a5.label,i64 a5.to_]) (us:=[i64 a5.from_,cR a5.label,i64 a5.to_]) Tryz.sizeOf70 j2 rfl rfl rfl rfl rfl (eD rfl) rfl rfl (fun j3 (j4:aN G K (box f4 70 [i64 a5.from_,cR a5.label,i64 a5.to_]::aK 63 K b9 c0 b8::aK 9 K a2 a3 a0::box a9 30 [i64 states,i64 initial,zS a2 a0.length a3,zS b9 b8.length c0]::box b7 30 zG::L) j3)=>(aD (aA ?_))))))
   obtain ⟨m2,d7,d8,j5,j6⟩:=aN.lendB (i:=0) j4 rfl
   obtain ⟨d9,c1,f5,f6,j7⟩:=aN.lendB (i:=2) j5 rfl
   refine hJ (C:=fun w'=>∃ L',aN G d9 L' w') [(0,0),(1,0),(2,0),(3,0),(4,0),(5,0),(6,0),(7,0),(9,0),(10,0),(8,1),(11,0),(12,1),(13,1),(14,0),(15,2)] bQ (by kernel_rfl) (fun _ hg=>⟨_,aN.mono f6 hg⟩) (fun m3 j8=>?_)
   have b4:=aN.mono f6 j8
   refine cD rfl (fun _ _=>bD (t':=3) eO d0 rfl) (cD rfl (fun _ ⟨_,b4⟩=>bP (t:=3) jQ b4 f5 rfl rfl) (cD rfl (fun _ _=>bD (t':=0) fa_70_0 rfl rfl) (cD rfl (fun _ ⟨_,b4⟩=>bP (t:=0) dF b4 (d8.mono c1) rfl rfl) (cD rfl (fun _ _=>bD (t':=2) iO d0 rfl) (cD rfl (fun _ ⟨_,b4⟩=>bP (t:=2) jK b4 f5 rfl rfl) (cD rfl (fun _ _=>bD (t':=1) fa_70_1 rfl rfl) (cD rfl (fun _ ⟨_,b4⟩=>bP (t:=1) qR b4 (d8.mono c1) rfl rfl) (cD rfl (fun _ _=>bD (t':=2) fa_70_2 rfl rfl) (cD rfl (fun _ ⟨_,b4⟩=>bP (t:=2) dF b4 (d8.mono c1) rfl rfl) (nZ rfl ?_))))))))))
   obtain ⟨m4,m5,j9,k0,k1⟩:=aN.lendS (i:=1) b4 (Hp.le_trans d7 c1) rfl
   obtain ⟨c3,k2,b0⟩:=aJ b0
   refine aX (vs:=[zS a2 a0.length a3,cR a5.label]) Tryz.call82 rfl (lD k0 j9 k2) ?_
   rintro _ m6 ⟨rfl,k3⟩
   have f7:=k1 _ _ k3
   refine aD (aA ⟨⟨_,f7⟩,?_⟩)
   refine cD rfl (fun _ _=>gW (vs:=[(0,i64 a5.from_),(1,i64 c3),(2,i64 a5.to_)]) (cs:=[i64 a5.from_,i64 c3,i64 a5.to_]) bs_63 rfl (by kernel_rfl)) (nZ rfl (dA (Kt:=K) (xs:=([⟨a5.from_,c3,a5.to_⟩]:List Edge)) (cs:=[i64 a5.from_,i64 c3,i64 a5.to_]) (vs:=[(0,zA #[i64 a5.from_,i64 c3,i64 a5.to_])]) cZ aAm rfl rfl f7 rfl (by kernel_rfl) rfl rfl rfl ⟨rfl,trivial⟩ (fun k4 k5 (f8:aN G d9 (aK 63 K k4 1 ([⟨a5.from_,c3,a5.to_⟩]:List Edge)::aK 9 K a2 a3 a0::aK 63 K b9 c0 b8::box b7 30 zG::L) k5)=>(aD (aA ⟨⟨_,f8⟩,?_⟩)))))
   refine nZ rfl ?_
   obtain ⟨c4,k6,b0⟩:=aJ b0
   refine jO (i:=1) cZ Tryz.underlying28 aAm rfl rfl f8 rfl (Hp.le_trans d7 c1) (Hp.le_trans d7 c1) k6 rfl rfl rfl rfl (fun _ h=>h) (fun c6 c7 k7 (f9:aN G d9 (aK 9 K a2 a3 a0::aK 63 K c6 c7 c4::box b7 30 zG::L) k7)=>(aD (aA ⟨⟨_,f9⟩,?_⟩)))
   refine cD rfl (fun _ _=>bD (t':=3) eO d0 rfl) ?_
   have k8:=j7 _ _ f9
   have k9:=j6 _ _ k8
   exact aGd rfl (cM (i:=1) (ns:=[zS c6 c4.length c7]) (us:=[i64 states,i64 initial,zS a2 a0.length a3,zS c6 c4.length c7]) Tryz.sizeOf28 k9 rfl rfl rfl rfl rfl (eD rfl) rfl rfl (fun l0 (l1:aN G K (box f4 70 [i64 a5.from_,cR a5.label,i64 a5.to_]::box a9 30 [i64 states,i64 initial,zS a2 a0.length a3,zS c6 c4.length c7]::aK 9 K a2 a3 a0::aK 63 K c6 c7 c4::box b7 30 zG::L) l0)=>(aD (aA (qQ (bO (aA (aC (aB (cY d4 rfl) (aB (aF (v:=i64 (wr (c9+1))) rfl) (aD (aA ⟨(c4,wr (c9+1)),(zI b0).symm,c6,c7,f0,d0,f1,f2,rfl,(aN.arr 4 [3,2,1] l1 rfl)⟩))))))))))))
  ·refine aO d6 rfl (cN (bB (bB ?_)))
   have l2:=i9 _ (zI b0).symm
   subst l2
   have hm:(aES states initial a0 b8)=some R:=hm
   exact bS (aA ⟨b8,b9,c0,hm,f0,d0,d5⟩)
theorem vO {s_:(List Int)} {v_:Int} {R:Int} (hs:aN G K (L) w) (h3:cJ K a1 c2 s_) (hm:fR s_ v_=some R):
  Calls Tryz.prog 149 ([zS a1 s_.length c2,i64 v_]:List Value).toArray w (gV fun v w'=>v=i64 R∧aN G K (L) w'):=by
 refine aW Tryz.func149 rfl (by kernel_rfl) (by show (2:Nat)≤19;decide) ?_
 unfold fR at hm
 refine aH (aC (aB (aG (v:=i64 0) rfl) (aD (aA (aH (aH (aC (aB (aF (v:=zS a1 s_.length c2) rfl) (aB (bR (len:=s_.length) cG rfl) (aB (aF (v:=i64 0) rfl) (aD (aA (bJ (fun f w=>gJ=some R∧aN G K (L) w) ?_ ?_)))))))))))))
 ·rintro f w4 ⟨hm,b2⟩
  unfold gJ at hm
  refine aA (aH (aC (aB (aG (v:=i64 (-1)) rfl) (aD (aA ?_)))))
  cases zI hm
  exact bC (bA Tryz.results149 rfl ⟨rfl,b2⟩)
 obtain ⟨c3,b4,hm⟩:=aJ hm
 refine cP b4 (fun (a2:Int) f w=>f 0=zS a1 s_.length c2∧f 1=i64 v_∧f 7=i64 (s_.length:Int)∧f 8=i64 a2∧aN G K (L) w) ?_ ?_
 ·exact ⟨rfl,rfl,rfl,rfl,hs⟩
 ·rintro a2 b5 f c4 a0 a7 ⟨a8,a9,b0,a4,a3⟩
  replace a0:dW s_ v_ a2=some b5:=a0
  unfold dW at a0
  refine aH (aC (aB (cK a4 b0) (aD (aA (aH ?_)))))
  rcases aM a0 with ⟨a5,a0⟩|⟨a5,a0⟩
  ·refine aQ a5 rfl (aY (aA (aH (cQ (aH (aC (aB (aF a4) (aB (aG (v:=i64 a2) rfl) (aD (aA (aH (aC (aB (aF a9) (aB (aF a8) (aB (aF (v:=i64 a2) rfl) ?_)))))))))))))))
   obtain ⟨c5,b1,a0⟩:=aJ a0
   refine aB (cV cG rfl h3 rfl rfl rfl b1) ?_
   obtain ⟨c6,b6,b7⟩:=cJ.el (sz:=1) rfl h3 b1
   cases b7
   refine aB (bP (t:=0) dF a3 b6 rfl rfl) (aB (pB rfl rfl) (aD (aA ?_)))
   rcases aM a0 with ⟨a6,a0⟩|⟨a6,a0⟩
   ·refine aQ a6 rfl (aH (aC (aB (aF (v:=i64 a2) rfl) (aB (aG (v:=i64 a2) rfl) (aD (aA (bC (bN (aS (aS ?_))))))))))
    have b8:=a7 _ (zI a0).symm
    subst b8
    have hm:(some a2)=some R:=hm
    cases zI hm
    exact bN (aS (aS (bA Tryz.results149 rfl ⟨rfl,a3⟩)))
   ·exact aO a6 rfl (aY (bO (aA (aC (aB (cY a4 rfl) (aB (aF (v:=i64 (wr (a2+1))) rfl) (aD (aA ⟨wr (a2+1),(zI a0).symm,a8,a9,b0,rfl,a3⟩))))))))
  ·refine aO a5 rfl (cN (bB (bB ?_)))
   have c0:=a7 _ (zI a0).symm
   subst c0
   have hm:(gJ)=some R:=hm
   exact bS (aA ⟨hm,a3⟩)
theorem kS {s_:(List Int)} {v_:Int} {R:Bool} (hs:aN G K (L) w) (h3:cJ K a1 c2 s_) (hm:dI s_ v_=some R):
  Calls Tryz.prog 106 ([zS a1 s_.length c2,i64 v_]:List Value).toArray w (gV fun v w'=>v=zB R∧aN G K (L) w'):=by
 refine aW Tryz.func106 rfl (by kernel_rfl) (by show (2:Nat)≤9;decide) ?_
 unfold dI at hm
 refine aH (aC (aB (aG (v:=zB false) rfl) (aD (aA (aH (aC (aB (aF (v:=zS a1 s_.length c2) rfl) (aB (aF (v:=i64 v_) rfl) ?_))))))))
 obtain ⟨r4,q5,hm⟩:=aJ hm
 refine aX (vs:=[zS a1 s_.length c2,i64 v_]) Tryz.call149 rfl (vO hs h3 q5) ?_
 rintro _ w6 ⟨rfl,a3⟩
 refine aB (yL rfl rfl) (aB (aG (v:=zB (decide (0≤r4))) rfl) (aD (aA ?_)))
 cases zI hm
 exact bC (bA Tryz.results106 rfl ⟨rfl,a3⟩)
end Gv
