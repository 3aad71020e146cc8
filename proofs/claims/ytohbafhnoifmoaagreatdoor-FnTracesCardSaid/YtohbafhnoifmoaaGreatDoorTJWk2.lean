/- Walks, printed by program. -/
import Derived.Test.YtohbafhnoifmoaaGreatDoorTJWk1
set_option linter.all false
namespace Gv
open Go.Value renaming slice→zS,bool→zB
open Option.some renaming inj→zI
open Gv.Hp renaming le_trans→zL,le_refl→zR
open Go Go.Proofs Go.Proofs.Tryz
set_option maxRecDepth 20000
set_option maxHeartbeats 40000000
variable {G:Env} {K:Hp} {L:List nJ} {w:World} {a1 a4 a7 a10:Option Addr} {c5 c8 c2 c11:Nat}
theorem aBs {t:cG} {l:Nat} {R:(List Int)} (hs:aI G K (L) w) (k:kK K a1 l (zC t a4 c5 a7 c8)) (h6:cX K a4 c5 t.L) (h9:cX K a7 c8 t.E) (j:sI t=some R):
  Calls Tryz.prog 46 ([cU a1 l]:List Value).toArray w (gK fun v w'=>∃ (f0:Option Addr) (f1:Nat),v=zS f0 R.length f1∧aI G K (aK 2 K f0 f1 R::L) w'):=by
 refine aW func46 rfl (by kernel_rfl) (by show (1:Nat)≤82;decide) ?_
 unfold sI at j
 refine aL (aF (v:=zS none 0 0) (aG (aL (aO (v:=cU a1 l) (aD (cJ rfl k) (aD (bO (k':=l+0) gS rfl k rfl) (aD (bH (t:=0) cK hs k rfl rfl) ?_)))))))
 obtain ⟨b,g7,j⟩:=aB j
 refine aFu (e:=(false:Bool)) fO ez_4 rfl rfl hs rfl rfl rfl g7 rfl (fun c g8 (c6:aI G K (aK 4 K c b.length b::L) g8)=>(aF (v:=zS c b.length b.length) (aG (aL (aO (v:=zS c b.length b.length) (aO (v:=cU a1 l) (aD (cJ rfl k) (aD (bO (k':=l+1) oP rfl k rfl) (aD (bH (t:=1) cK c6 k rfl rfl) ?_)))))))))
 obtain ⟨m5,c7,j⟩:=aB j
 have a3:=dA c6 (i:=0) rfl c7
 refine aD (dT fO rfl a3 rfl rfl rfl c7) ?_
 obtain ⟨g9,f2,j⟩:=aB j
 refine nG (i:=0) (t:=0) (ns:=[zB true]) (e':=(true:Bool)) sizeOf4 c6 rfl (zR _) rfl rfl rfl c7 f2 rfl rfl (dE rfl) rfl (fun cs h=>by cases h;rfl) (fun h0 (h1:aI G K (aK 4 K c b.length g9::L) h0)=>(aG (aQ (aL (aF (v:=zB true) (aG (bB (fun f w=>∃ (p:List Bool),vD t p=some R∧f 0=cU a1 l∧f 3=zS c p.length b.length∧aI G K (aK 4 K c b.length p::L) w) ?_ ?_)))))))
 ·rintro f m6 ⟨p,j,h2,h4,h5⟩
  unfold vD at j
  refine aA (aL (bR (Kt:=K) (xs:=([]:List Int)) (cs:=[]) (vs:=[]) cF jC rfl rfl h5 rfl (by kernel_rfl) rfl rfl rfl trivial (fun c9 h7 (h8:aI G K (aK 2 K c9 0 ([]:List Int)::aK 4 K c b.length p::L) h7)=>(aF (v:=zS c9 ([]:List Int).length 0) (aG (aQ (aL (aF (v:=i64 0) (aG (bB (fun f w=>∃ (a5:List Int) (a6:Option Addr) (a8:Nat),aAt a5=some R∧f 6=zS a6 a5.length a8∧aI G K (aK 2 K a6 a8 a5::L) w) ?_ ?_))))))))))
  ·rintro f m7 ⟨a5,a6,a8,j,i0,i1⟩
   unfold aAt at j
   refine aA (aL (aN i0 (aF (v:=zS a6 a5.length a8) (aG ?_))))
   obtain rfl:=zI j
   exact bM (bP results46 rfl ⟨a6,a8,rfl,i1⟩)
  obtain ⟨m8,i3,j⟩:=aB j
  refine cE i3 (fun (s:(List Int × Int)) f w=>match s with|(y,r)=>∃ (J:Option Addr) (V:Nat),f 0=cU a1 l∧f 3=zS c p.length b.length∧f 6=zS J y.length V∧f 7=i64 r∧aI G K (aK 2 K J V y::aK 4 K c b.length p::L) w) ?_ ?_
  ·exact ⟨c9,0,h2,h4,rfl,rfl,h8⟩
  ·rintro ⟨y,r⟩ f3 f m9 m i4 ⟨J,V,d0,d1,d2,a9,b0⟩
   replace m:qZ t p y r=some f3:=m
   unfold qZ at m
   refine aQ (aL (aN a9 (aN d0 (aD (cJ rfl k) (aD (bO (k':=l+0) gS rfl k rfl) (aD (bH (t:=0) cK b0 k rfl rfl) (aD (cL rfl rfl) (aG ?_))))))))
   rcases aH m with ⟨d3,m⟩|⟨d3,m⟩
   ·refine aM d3 rfl (bA (aA (aQ (bB (fun f w=>∃ (b1:List Int) (b7:Option Addr) (b8:Nat),vC r b1=some f3∧f 0=cU a1 l∧f 3=zS c p.length b.length∧f 6=zS b7 b1.length b8∧f 7=i64 r∧aI G K (aK 2 K b7 b8 b1::aK 4 K c b.length p::L) w) ?_ ?_))))
    ·rintro f n0 ⟨b1,b7,b8,m,i5,i6,i7,i8,i9⟩
     unfold vC at m
     exact aA (aP (aN i8 (aD (cP rfl rfl) (aF (v:=i64 (wr (r+1))) (aG ⟨(b1,wr (r+1)),(zI m).symm,b7,b8,i5,i6,i7,rfl,i9⟩)))))
    refine aL (aN d1 (aN a9 ?_))
    obtain ⟨n1,f4,m⟩:=aB m
    refine aD (dT fO rfl a3 rfl rfl rfl f4) (aD (gP (t:=0) aDW b0 (i:=1) rfl f4 rfl rfl rfl) (aG ?_))
    rcases aH m with ⟨d4,m⟩|⟨d4,m⟩
    ·refine aM d4 rfl (aP (aN d2 (aN a9 (bR (Kt:=K) (xs:=([r]:List Int)) (cs:=[i64 r]) (vs:=[(0,i64 r)]) cF jC rfl rfl b0 rfl (by kernel_rfl) rfl rfl rfl ⟨rfl,trivial⟩ (fun j0 j1 (j2:aI G K (aK 2 K j0 1 ([r]:List Int)::aK 2 K J V y::aK 4 K c b.length p::L) j1)=>?_)))))
     obtain ⟨d5,j3,m⟩:=aB m
     exact dG (i:=0) cF underlying35 jC rfl rfl j2 rfl (zR _) (zR _) j3 rfl rfl rfl rfl (fun _ h=>h) (fun d6 d7 j4 (j5:aI G K (aK 2 K d6 d7 d5::aK 4 K c b.length p::L) j4)=>(aF (v:=zS d6 d5.length d7) (aZ (bC (aA ⟨d5,d6,d7,m,d0,d1,rfl,a9,j5⟩)))))
    ·exact aJ d4 rfl (bA (bC (aA ⟨y,J,V,m,d0,d1,d2,a9,b0⟩)))
   ·refine aJ d3 rfl (cA (aT (aT ?_)))
    have j6:=i4 _ (zI m).symm
    subst j6
    have j:(aAt y)=some R:=j
    exact bJ (aA ⟨y,J,V,j,d2,(aI.arr 2 [0] b0 rfl)⟩)
 obtain ⟨n2,j7,j⟩:=aB j
 refine cE j7 (fun (s:(List Bool × Bool)) f w=>match s with|(Z,d8)=>f 0=cU a1 l∧f 3=zS c Z.length b.length∧f 4=zB d8∧aI G K (aK 4 K c b.length Z::L) w) ?_ ?_
 ·exact ⟨rfl,(Eq.trans rfl (congrArg (fun n=>zS c n b.length) (lE f2))),rfl,h1⟩
 ·rintro ⟨Z,d8⟩ b9 f n3 o j8 ⟨f5,f6,j9,f7⟩
  replace o:xR t Z d8=some b9:=o
  unfold xR at o
  refine aQ (aL (aN j9 (aG ?_)))
  rcases aH o with ⟨d9,o⟩|⟨d9,o⟩
  ·refine aM d9 rfl (bA (aA (bB (fun f w=>∃ (b2:List Bool) (c0:Bool),aDc b2 c0=some b9∧f 0=cU a1 l∧f 3=zS c b2.length b.length∧f 4=zB c0∧aI G K (aK 4 K c b.length b2::L) w) ?_ ?_)))
   ·rintro f n4 ⟨b2,c0,o,k0,k1,k3,k4⟩
    unfold aDc at o
    exact aA ⟨(b2,c0),(zI o).symm,k0,k1,k3,k4⟩
   refine aL (aF (v:=zB false) (aG (aL (aF (v:=i64 0) (aG (bB (fun f w=>∃ (b3:List Bool) (c1:Bool),aAu b3 c1=some b9∧f 0=cU a1 l∧f 3=zS c b3.length b.length∧f 4=zB c1∧aI G K (aK 4 K c b.length b3::L) w) ?_ ?_))))))
   ·rintro f n5 ⟨b3,c1,o,k5,k6,k7,k8⟩
    unfold aAu at o
    exact bC (aA ⟨b3,c1,o,k5,k6,k7,k8⟩)
   obtain ⟨n6,k9,o⟩:=aB o
   refine cE k9 (fun (s:(List Bool × Bool × Int)) f w=>match s with|(u,z,q)=>f 0=cU a1 l∧f 3=zS c u.length b.length∧f 4=zB z∧f 5=i64 q∧aI G K (aK 4 K c b.length u::L) w) ?_ ?_
   ·exact ⟨f5,f6,rfl,rfl,f7⟩
   ·rintro ⟨u,z,q⟩ e0 f n7 a l0 ⟨a0,b4,e1,b5,x⟩
    replace a:rA t u z q=some e0:=a
    unfold rA at a
    refine aQ (aL (aN b5 (aN a0 (aD (cJ rfl k) (aD (bO (k':=l+3) cV rfl k rfl) (aD (bH (t:=3) fH x k rfl rfl) (aD (bU (len:=t.E.length) cM rfl) (aD (cL rfl rfl) (aG ?_)))))))))
    rcases aH a with ⟨e2,a⟩|⟨e2,a⟩
    ·refine aM e2 rfl (bA (aA (aQ (bB (fun f w=>∃ (b6:List Bool) (c2:Bool),oC q b6 c2=some e0∧f 0=cU a1 l∧f 3=zS c b6.length b.length∧f 4=zB c2∧f 5=i64 q∧aI G K (aK 4 K c b.length b6::L) w) ?_ ?_))))
     ·rintro f n8 ⟨b6,c2,a,l1,l2,l3,l4,l5⟩
      unfold oC at a
      exact aA (aP (aN l4 (aD (cP rfl rfl) (aF (v:=i64 (wr (q+1))) (aG ⟨(b6,c2,wr (q+1)),(zI a).symm,l1,l2,l3,rfl,l5⟩)))))
     refine aQ (cN (fun f w=>∃ (e3:Bool),oD t u z q e3=some e0∧f 0=cU a1 l∧f 3=zS c u.length b.length∧f 4=zB z∧f 5=i64 q∧f 53=zB e3∧aI G K (aK 4 K c b.length u::L) w) ?_ ?_)
     ·rintro f n9 ⟨e3,a,e4,e5,l6,e6,f8,c3⟩
      unfold oD at a
      refine aA ?_
      rcases aH a with ⟨e7,a⟩|⟨e7,a⟩
      ·refine aM e7 f8 (aL (aN e5 (aN e4 (aD (cJ rfl k) (aD (bO (k':=l+3) cV rfl k rfl) (aD (bH (t:=3) fH c3 k rfl rfl) (aN e6 ?_)))))))
       obtain ⟨o0,f9,a⟩:=aB a
       refine aD (dI cM rfl h9 rfl rfl rfl f9) ?_
       obtain ⟨o1,g0,l7⟩:=cX.el (sz:=3) rfl h9 f9
       cases l7
       refine aD (bO (k':=q.toNat * 3+2) gR rfl g0 rfl) (aD (bH (t:=2) cK c3 g0 rfl rfl) ?_)
       obtain ⟨o2,g1,a⟩:=aB a
       refine aD (dT fO rfl a3 rfl rfl rfl g1) ?_
       obtain ⟨g2,g3,a⟩:=aB a
       exact nG (i:=0) (t:=0) (ns:=[zB true]) (e':=(true:Bool)) sizeOf4 c3 rfl (zR _) rfl rfl rfl g1 g3 rfl rfl (dE rfl) rfl (fun cs h=>by cases h;rfl) (fun l8 (l9:aI G K (aK 4 K c b.length g2::L) l8)=>(aG (aP (aF (v:=zB true) (aZ (bC (aA ⟨g2,true,a,e4,(Eq.trans e5 (congrArg (fun n=>zS c n b.length) (lE g3))),rfl,e6,l9⟩)))))))
      ·exact aJ e7 f8 (bA (bC (aA ⟨u,z,a,e4,e5,l6,e6,c3⟩)))
     refine aP (aN b4 (aN a0 (aD (cJ rfl k) (aD (bO (k':=l+3) cV rfl k rfl) (aD (bH (t:=3) fH x k rfl rfl) (aN b5 ?_))))))
     obtain ⟨o3,e8,a⟩:=aB a
     refine aD (dI cM rfl h9 rfl rfl rfl e8) ?_
     obtain ⟨o4,c4,m0⟩:=cX.el (sz:=3) rfl h9 e8
     cases m0
     refine aD (bO (k':=q.toNat * 3+0) hQ rfl c4 rfl) (aD (bH (t:=0) cK x c4 rfl rfl) ?_)
     obtain ⟨m1,g4,a⟩:=aB a
     refine aD (dT fO rfl a3 rfl rfl rfl g4) (aD (gP (t:=0) aDW x (i:=0) rfl g4 rfl rfl rfl) (aO (v:=zB m1) ?_))
     rcases aH a with ⟨d,a⟩|⟨d,a⟩
     ·refine bD d rfl rfl (aN b4 (bD d rfl rfl (aN a0 (bD d rfl rfl (aD (cJ rfl k) (bD d rfl rfl (aD (bO (k':=l+3) cV rfl k rfl) (bD d rfl rfl (aD (bH (t:=3) fH x k rfl rfl) (bD d rfl rfl (aN b5 (bD d rfl rfl (aD (dI cM rfl h9 rfl rfl rfl e8) (bD d rfl rfl (aD (bO (k':=q.toNat * 3+2) gR rfl c4 rfl) (bD d rfl rfl (aD (bH (t:=2) cK x c4 rfl rfl) (bD d rfl rfl ?_))))))))))))))))))
      obtain ⟨g5,g6,a⟩:=aB a
      exact aD (dT fO rfl a3 rfl rfl rfl g6) (bD d rfl rfl (aD (gP (t:=0) aDW x (i:=0) rfl g6 rfl rfl rfl) (bD d rfl rfl (aD (eJ rfl) (aD (bL (v:=zB (!g5)) d rfl rfl) (aG ⟨!g5,a,a0,b4,e1,b5,rfl,x⟩))))))
     ·exact aR d rfl rfl (aR d rfl rfl (aR d rfl rfl (aR d rfl rfl (aR d rfl rfl (aR d rfl rfl (aR d rfl rfl (aR d rfl rfl (aR d rfl rfl (aR d rfl rfl (aR d rfl rfl (aR d rfl rfl (aD (bK (v:=zB false) d rfl rfl) (aG ⟨false,a,a0,b4,e1,b5,rfl,x⟩)))))))))))))
    ·refine aJ e2 rfl (cA (aT (aT ?_)))
     have m2:=l0 _ (zI a).symm
     subst m2
     have o:(aAu u z)=some b9:=o
     exact bJ (aA ⟨u,z,o,a0,b4,e1,x⟩)
  ·refine aJ d9 rfl (cA (aT (aT ?_)))
   have m3:=j8 _ (zI o).symm
   subst m3
   have j:(vD t Z)=some R:=j
   exact bJ (aA ⟨Z,j,f5,f6,f7⟩)
theorem aJN {a b R:Int} (e:aI G K (L) w) (c:aGh a b=some R):
  Calls Tryz.prog 123 ([i64 a,i64 b]:List Value).toArray w (gK fun v w'=>v=i64 R∧aI G K (L) w'):=by
 refine aW func123 rfl (by kernel_rfl) (by show (2:Nat)≤10;decide) ?_
 unfold aGh at c
 refine aL (aF (v:=i64 0) (aG (aQ (aL (aO (v:=i64 a) (aO (v:=i64 b) (aD (kZ rfl rfl) (aG ?_))))))))
 rcases aH c with ⟨d,c⟩|⟨d,c⟩
 ·refine aM d rfl (aL (aO (v:=i64 a) (aF (v:=i64 a) (aG ?_))))
  obtain rfl:=zI c
  exact bM (aV (bP results123 rfl ⟨rfl,e⟩))
 ·refine aJ d rfl (bA (aA (aL (aO (v:=i64 b) (aF (v:=i64 b) (aG ?_))))))
  obtain rfl:=zI c
  exact bM (bP results123 rfl ⟨rfl,e⟩)
theorem aDC {p:(List Int)} {R:Int} (o:aI G K (L) w) (k:cX K a1 c2 p) (b:pU p=some R):
  Calls Tryz.prog 83 ([zS a1 p.length c2]:List Value).toArray w (gK fun v w'=>v=i64 R∧aI G K (L) w'):=by
 refine aW func83 rfl (by kernel_rfl) (by show (1:Nat)≤19;decide) ?_
 unfold pU at b
 refine aL (aF (v:=i64 0) (aG (aL (aF (v:=i64 0) (aG (aQ (aL (aF (v:=i64 0) (aG (bB (fun f w=>∃ (e:Int),xS e=some R∧f 3=i64 e∧aI G K (L) w) ?_ ?_))))))))))
 ·rintro f w6 ⟨e,b,q,r⟩
  unfold xS at b
  refine aA (aL (aN q (aF (v:=i64 e) (aG ?_))))
  obtain rfl:=zI b
  exact bM (bP results83 rfl ⟨rfl,r⟩)
 obtain ⟨a5,x,b⟩:=aB b
 refine cE x (fun (s:(Int × Int)) f w=>match s with|(c,d)=>f 0=zS a1 p.length c2∧f 3=i64 c∧f 4=i64 d∧aI G K (L) w) ?_ ?_
 ·exact ⟨rfl,rfl,rfl,o⟩
 ·rintro ⟨c,d⟩ y f a6 a z ⟨g,l,h,i⟩
  replace a:mR p c d=some y:=a
  unfold mR at a
  refine aQ (aL (aN h (aN g (aD (bU (len:=p.length) cF rfl) (aD (cL rfl rfl) (aG ?_))))))
  rcases aH a with ⟨j,a⟩|⟨j,a⟩
  ·refine aM j rfl (bA (aA (aQ (cY (aP (aN l (aN g (aN h ?_))))))))
   obtain ⟨J,m,a⟩:=aB a
   refine aD (dI cF rfl k rfl rfl rfl m) ?_
   obtain ⟨a7,V,Z⟩:=cX.el (sz:=1) rfl k m
   cases Z
   refine aD (bH (t:=0) cK i V rfl rfl) (aD (cP rfl rfl) ?_)
   obtain ⟨n,a0,a⟩:=aB a
   refine aS (vs:=[i64 c,i64 (wr (J+1))]) call123 rfl (aJN i a0) ?_
   rintro _ a8 ⟨rfl,a2⟩
   exact aF (v:=i64 n) (aZ (bC (aA (aP (aN h (aD (cP rfl rfl) (aF (v:=i64 (wr (d+1))) (aG ⟨(n,wr (d+1)),(zI a).symm,g,rfl,rfl,a2⟩))))))))
  ·refine aJ j rfl (cA (aT (aT ?_)))
   have a3:=z _ (zI a).symm
   subst a3
   have b:(xS c)=some R:=b
   exact bJ (aA ⟨c,b,l,i⟩)
theorem aFL {t:cG} {k:Nat} {p:(List Int)} {R:cG} (hs:aI G K (L) w) (e:kK K a1 k (zC t a4 c5 a7 c8)) (h6:cX K a4 c5 t.L) (h9:cX K a7 c8 t.E) (m:cX K a10 c11 p) (d:rB t p=some R):
  Calls Tryz.prog 47 ([cU a1 k,zS a10 p.length c11]:List Value).toArray w (gK fun v w'=>∃ (b9:Option Addr) (c0:Nat) (c1:Option Addr) (c2:Nat),v=Value.agg (zCa R b9 c0 c1 c2)∧aI G K (aK 9 K b9 c0 R.L::aK 69 K c1 c2 R.E::L) w'):=by
 let n:=zG
 refine aW func47 rfl (by kernel_rfl) (by show (2:Nat)≤56;decide) ?_
 unfold rB at d
 refine aL (bW (vs:=n) zeroValue27 hs rfl (fun j i5 e3=>(aG (aL (bR (Kt:=K) (xs:=([]:List Edge)) (cs:=[]) (vs:=[]) cM gZ rfl rfl e3 rfl (by kernel_rfl) rfl rfl rfl trivial (fun b0 e4 (e5:aI G K (aK 69 K b0 0 ([]:List Edge)::box j 27 n::L) e4)=>(aF (v:=zS b0 ([]:List Edge).length 0) (aG (aQ (aL (aF (v:=i64 0) (aG (bB (fun f w=>∃ (q:List Edge) (a2:Option Addr) (a3:Nat),oU t p q=some R∧f 0=cU a1 k∧f 1=zS a10 p.length c11∧f 4=Value.pointer (some ⟨j,0,none⟩)∧f 5=zS a2 q.length a3∧aI G K (aK 69 K a2 a3 q::box j 27 n::L) w) ?_ ?_)))))))))))))
 ·rintro f i6 ⟨q,a2,a3,d,c3,c4,c6,e6,c7⟩
  unfold oU at d
  refine aA (aQ (fK (C:=fun w'=>∃ L',aI G K L' w') [(0,0),(2,0),(3,0),(4,0),(5,0),(6,0),(7,0),(8,0),(9,0),(10,0),(11,0),(12,0),(13,0),(1,1),(14,1),(15,2)] bZ (by kernel_rfl) (fun _ hg=>⟨_,aI.mono c7 hg⟩) (fun i7 e7=>?_)))
  have o:=aI.mono c7 e7
  refine bS rfl (fun _ _=>bE c4) (bS rfl (fun _ _=>bE c4) (bS rfl (fun _ _=>bE c3) (bS rfl (fun _ _=>cJ rfl e) (bS rfl (fun _ _=>bO (k':=k+1) oP rfl e rfl) (bS rfl (fun _ ⟨_,o⟩=>bH (t:=1) cK o e rfl rfl) ?_)))))
  obtain ⟨e8,c9,d⟩:=aB d
  refine bS rfl (fun _ _=>dI cF rfl m rfl rfl rfl c9) ?_
  obtain ⟨i8,e9,f0⟩:=cX.el (sz:=1) rfl m c9
  cases f0
  refine bS rfl (fun _ ⟨_,o⟩=>bH (t:=0) cK o e9 rfl rfl) (bS rfl (fun _ _=>bE c3) (bS rfl (fun _ _=>cJ rfl e) (bS rfl (fun _ _=>bO (k':=k+2) fL rfl e rfl) (bS rfl (fun _ ⟨_,o⟩=>bH (t:=2) iT o e rfl rfl) (bS rfl (fun _ _=>bE e6) (kY rfl ?_))))))
  obtain ⟨f1,f2,d⟩:=aB d
  refine aS (vs:=[zS a10 p.length c11]) call83 rfl (aDC o m f2) ?_
  rintro _ i9 ⟨rfl,d0⟩
  refine aZ (aA ⟨⟨_,d0⟩,?_⟩)
  refine kY rfl ?_
  obtain ⟨j0,f3,f4,f5,f6⟩:=aI.lendS (i:=0) d0 (zR _) rfl
  obtain ⟨a,f7,d⟩:=aB d
  refine aS (vs:=[i64 f1,i64 e8,zS a4 t.L.length c5,zS a2 q.length a3]) call43 rfl (zF f5 (h6.mono f3) f4 f7) ?_
  rintro _ j1 ⟨r,u,x,y,rfl,f8⟩
  have d1:=f6 _ _ f8
  refine aZ (aA ⟨⟨_,d1⟩,?_⟩)
  refine aGa rfl (bY (i:=3) (ns:=(zC a r u x y)) (us:=(zC a r u x y)) sizeOf27 d1 rfl c6 rfl rfl rfl (dE rfl) rfl rfl (fun f9 (d2:aI G K (aK 69 K a2 a3 q::aK 9 K r u a.L::aK 69 K x y a.E::box j 27 (zC a r u x y)::L) f9)=>(aG (lF (aA ?_)))))
  obtain rfl:=zI d
  exact bM (vY results47 (fV (vs:=(zC a r u x y)) rfl dJ d2 (i:=3) rfl c6 rfl) ⟨r,u,x,y,rfl,(aI.arr 4 [1,2] d2 rfl)⟩)
 obtain ⟨j2,g1,d⟩:=aB d
 refine cE g1 (fun (s:(List Edge × Int)) f w=>match s with|(l,a5)=>∃ (z:Option Addr) (J:Nat),f 0=cU a1 k∧f 1=zS a10 p.length c11∧f 4=Value.pointer (some ⟨j,0,none⟩)∧f 5=zS z l.length J∧f 6=i64 a5∧aI G K (aK 69 K z J l::box j 27 n::L) w) ?_ ?_
 ·exact ⟨b0,0,rfl,rfl,rfl,rfl,rfl,e5⟩
 ·rintro ⟨l,a5⟩ g2 f j3 c g3 ⟨z,J,a8,a9,d3,d4,b1,a6⟩
  replace c:mM t p l a5=some g2:=c
  unfold mM at c
  refine aQ (aL (aN b1 (aN a8 (aD (cJ rfl e) (aD (bO (k':=k+3) cV rfl e rfl) (aD (bH (t:=3) fH a6 e rfl rfl) (aD (bU (len:=t.E.length) cM rfl) (aD (cL rfl rfl) (aG ?_)))))))))
  rcases aH c with ⟨b2,c⟩|⟨b2,c⟩
  ·refine aM b2 rfl (bA (aA (aQ (cY (aL (aN a8 (aD (cJ rfl e) (aD (bO (k':=k+3) cV rfl e rfl) (aD (bH (t:=3) fH a6 e rfl rfl) (aN b1 ?_))))))))))
   obtain ⟨b,d5,c⟩:=aB c
   refine aD (dI cM rfl h9 rfl rfl rfl d5) ?_
   obtain ⟨j4,g4,g5⟩:=cX.el (sz:=3) rfl h9 d5
   cases g5
   refine aD (gT (t:=0) (vs:=[i64 b.F,i64 b.B,i64 b.To]) mQ a6 g4 rfl rfl rfl) (bW (vs:=[i64 0,i64 0,i64 0]) zeroValue69 a6 rfl (fun g6 j5 g7=>(bY (i:=0) (ns:=[i64 b.F,i64 b.B,i64 b.To]) (us:=[i64 b.F,i64 b.B,i64 b.To]) sizeOf69 g7 rfl rfl rfl rfl rfl (dE rfl) rfl rfl (fun g8 (g9:aI G K (box g6 69 [i64 b.F,i64 b.B,i64 b.To]::aK 69 K z J l::box j 27 n::L) g8)=>(aG ?_)))))
   obtain ⟨b3,V,b4,d6,h0⟩:=aI.lendB (i:=0) g9 rfl
   refine fK (C:=fun w'=>∃ L',aI G b3 L' w') [(0,0),(1,0),(2,0),(3,0),(4,0),(5,0),(6,0),(7,0),(8,0),(9,0),(10,0),(11,0),(12,0),(13,0),(14,1),(15,1),(16,0)] bZ (by kernel_rfl) (fun _ hg=>⟨_,aI.mono d6 hg⟩) (fun j6 h1=>?_)
   have g:=aI.mono d6 h1
   refine bS rfl (fun _ _=>bE d4) (bS rfl (fun _ _=>bE a9) (bS rfl (fun _ _=>bT (t':=0) hQ rfl rfl) (bS rfl (fun _ ⟨_,g⟩=>bH (t:=0) cK g b4 rfl rfl) ?_)))
   obtain ⟨Z,d7,c⟩:=aB c
   refine bS rfl (fun _ _=>dI cF rfl (m.mono V) rfl rfl rfl d7) ?_
   obtain ⟨j7,h2,h4⟩:=cX.el (sz:=1) rfl m d7
   cases h4
   refine bS rfl (fun _ ⟨_,g⟩=>bH (t:=0) cK g (h2.mono V) rfl rfl) (bS rfl (fun _ _=>bT (t':=1) iZ rfl rfl) (bS rfl (fun _ ⟨_,g⟩=>bH (t:=1) cK g b4 rfl rfl) (bS rfl (fun _ _=>bE a9) (bS rfl (fun _ _=>bT (t':=2) gR rfl rfl) (bS rfl (fun _ ⟨_,g⟩=>bH (t:=2) cK g b4 rfl rfl) ?_)))))
   obtain ⟨a0,d8,c⟩:=aB c
   refine bS rfl (fun _ _=>dI cF rfl (m.mono V) rfl rfl rfl d8) ?_
   obtain ⟨j8,h5,h7⟩:=cX.el (sz:=1) rfl m d8
   cases h7
   refine bS rfl (fun _ ⟨_,g⟩=>bH (t:=0) cK g (h5.mono V) rfl rfl) (bS rfl (fun _ _=>dL (vs:=[(0,i64 Z),(1,i64 b.B),(2,i64 a0)]) (cs:=[i64 Z,i64 b.B,i64 a0]) aFy rfl (by kernel_rfl)) (kY rfl (bR (Kt:=K) (xs:=([⟨Z,b.B,a0⟩]:List Edge)) (cs:=[i64 Z,i64 b.B,i64 a0]) (vs:=[(0,Value.agg #[i64 Z,i64 b.B,i64 a0])]) cM gZ rfl rfl g rfl (by kernel_rfl) rfl rfl rfl ⟨rfl,trivial⟩ (fun h8 i0 (d9:aI G b3 (aK 69 K h8 1 ([⟨Z,b.B,a0⟩]:List Edge)::aK 69 K z J l::box j 27 n::L) i0)=>(aZ (aA ⟨⟨_,d9⟩,?_⟩))))))
   refine kY rfl ?_
   obtain ⟨b5,i1,c⟩:=aB c
   refine dG (i:=0) cM underlying25 gZ rfl rfl d9 rfl V V i1 rfl rfl rfl rfl (fun _ h=>h) (fun b6 b7 i2 (e0:aI G b3 (aK 69 K b6 b7 b5::box j 27 n::L) i2)=>(aZ (aA ⟨⟨_,e0⟩,?_⟩)))
   refine bS rfl (fun _ _=>dV (v:=zS b6 b5.length b7) rfl) (lF ?_)
   have i3:=h0 _ _ e0
   exact bC (aA (aP (aN b1 (aD (cP rfl rfl) (aF (v:=i64 (wr (a5+1))) (aG ⟨(b5,wr (a5+1)),(zI c).symm,b6,b7,a8,a9,d3,rfl,rfl,(aI.arr 1 [] i3 rfl)⟩))))))
  ·refine aJ b2 rfl (cA (aT (aT ?_)))
   have i4:=g3 _ (zI c).symm
   subst i4
   have d:(oU t p l)=some R:=d
   exact bJ (aA ⟨l,z,J,d,a8,a9,d3,d4,a6⟩)
theorem tL {a b:(List Int)} {R:Bool} (m:aI G K (L) w) (n:cX K a1 c2 a) (o:cX K a4 c5 b) (c:oV a b=some R):
  Calls Tryz.prog 54 ([zS a1 a.length c2,zS a4 b.length c5]:List Value).toArray w (gK fun v w'=>v=zB R∧aI G K (L) w'):=by
 refine aW func54 rfl (by kernel_rfl) (by show (2:Nat)≤26;decide) ?_
 unfold oV at c
 refine aL (aF (v:=zB false) (aG (aQ (aL (aO (v:=zS a1 a.length c2) (aD (bU (len:=a.length) cF rfl) (aO (v:=zS a4 b.length c5) (aD (bU (len:=b.length) cF rfl) (aD (aBw rfl rfl) (aG ?_))))))))))
 rcases aH c with ⟨i,c⟩|⟨i,c⟩
 ·refine aM i rfl (aL (aF (v:=zB false) (aG ?_)))
  obtain rfl:=zI c
  exact bM (aV (bP results54 rfl ⟨rfl,m⟩))
 ·refine aJ i rfl (bA (aA (aQ (aL (aF (v:=i64 0) (aG (bB (fun f w=>aBI=some R∧aI G K (L) w) ?_ ?_)))))))
  ·rintro f w9 ⟨c,z⟩
   unfold aBI at c
   refine aA (aL (aF (v:=zB true) (aG ?_)))
   obtain rfl:=zI c
   exact bM (bP results54 rfl ⟨rfl,z⟩)
  obtain ⟨b0,V,c⟩:=aB c
  refine cE V (fun (g:Int) f w=>f 0=zS a1 a.length c2∧f 1=zS a4 b.length c5∧f 5=i64 g∧aI G K (L) w) ?_ ?_
  ·exact ⟨rfl,rfl,rfl,m⟩
  ·rintro g Z f b1 d p ⟨j,q,h,e⟩
   replace d:lX a b g=some Z:=d
   unfold lX at d
   refine aQ (aL (aN h (aN j (aD (bU (len:=a.length) cF rfl) (aD (cL rfl rfl) (aG ?_))))))
   rcases aH d with ⟨k,d⟩|⟨k,d⟩
   ·refine aM k rfl (bA (aA (aQ (cY (aQ (eR (C:=fun w'=>aI G K (L) w') bZ (by kernel_rfl) (aI.mono e (eC.drew _)) (bF (fun _ e=>bE j) (bF (fun _ e=>bE h) ?_))))))))
    obtain ⟨b2,r,d⟩:=aB d
    refine bF (fun _ e=>dI cF rfl n rfl rfl rfl r) ?_
    obtain ⟨b3,a0,a2⟩:=cX.el (sz:=1) rfl n r
    cases a2
    refine bF (fun _ e=>bH (t:=0) cK e a0 rfl rfl) (bF (fun _ e=>bE q) (bF (fun _ e=>bE h) ?_))
    obtain ⟨b4,u,d⟩:=aB d
    refine bF (fun _ e=>dI cF rfl o rfl rfl rfl u) ?_
    obtain ⟨b5,a3,a5⟩:=cX.el (sz:=1) rfl o u
    cases a5
    refine bF (fun _ e=>bH (t:=0) cK e a3 rfl rfl) (bF (fun _ e=>aBw rfl rfl) (fE (fun b6 x=>(aA ?_))))
    rcases aH d with ⟨l,d⟩|⟨l,d⟩
    ·refine aM l rfl (aL (aF (v:=zB false) (aG (bM (bV (aV (aV ?_)))))))
     have a6:=p _ (zI d).symm
     subst a6
     have c:(some false)=some R:=c
     obtain rfl:=zI c
     exact bV (aV (aV (bP results54 rfl ⟨rfl,x⟩)))
    ·exact aJ l rfl (bA (bC (aA (aP (aN h (aD (cP rfl rfl) (aF (v:=i64 (wr (g+1))) (aG ⟨wr (g+1),(zI d).symm,j,q,rfl,x⟩))))))))
   ·refine aJ k rfl (cA (aT (aT ?_)))
    have a8:=p _ (zI d).symm
    subst a8
    have c:(aBI)=some R:=c
    exact bJ (aA ⟨c,e⟩)
theorem aFA {e:(List Int)} {n:Int} {R:(List Int)} (hs:aI G K (L) w) (o:cX K a1 c2 e) (b:aDt e n=some R):
  Calls Tryz.prog 154 ([zS a1 e.length c2,i64 n]:List Value).toArray w (gK fun v w'=>∃ (d4:Option Addr) (d5:Nat),v=zS d4 R.length d5∧aI G K (aK 2 K d4 d5 R::L) w'):=by
 refine aW func154 rfl (by kernel_rfl) (by show (2:Nat)≤49;decide) ?_
 unfold aDt at b
 refine aL (aF (v:=zS none 0 0) (aG (aL (bR (Kt:=K) (xs:=([]:List Int)) (cs:=[]) (vs:=[]) cF jC rfl rfl hs rfl (by kernel_rfl) rfl rfl rfl trivial (fun a4 w5 (e8:aI G K (aK 2 K a4 0 ([]:List Int)::L) w5)=>(aF (v:=zS a4 ([]:List Int).length 0) (aG (aL (aF (v:=zB false) (aG (aQ (aL (aF (v:=i64 0) (aG (bB (fun f w=>∃ (p:List Int) (b4:Bool) (q:Option Addr) (r:Nat),aAX n p b4=some R∧f 1=i64 n∧f 5=zS q p.length r∧f 6=zB b4∧aI G K (aK 2 K q r p::L) w) ?_ ?_)))))))))))))))
 ·rintro f i6 ⟨p,b4,q,r,b,e9,d6,f0,d7⟩
  unfold aAX at b
  refine aA (uV (fun f w=>∃ (u:List Int) (x:Option Addr) (y:Nat),aAW u=some R∧f 5=zS x u.length y∧aI G K (aK 2 K x y u::L) w) ?_ ?_)
  ·rintro f i7 ⟨u,x,y,b,f1,f2⟩
   unfold aAW at b
   refine aL (aN f1 (aF (v:=zS x u.length y) (aG ?_)))
   obtain rfl:=zI b
   exact bM (bP results154 rfl ⟨x,y,rfl,f2⟩)
  refine aL (aN f0 (aD (eJ rfl) (aG ?_)))
  rcases aH b with ⟨b5,b⟩|⟨b5,b⟩
  ·refine aM b5 rfl (aP (aN d6 (aN e9 (bR (Kt:=K) (xs:=([n]:List Int)) (cs:=[i64 n]) (vs:=[(0,i64 n)]) cF jC rfl rfl d7 rfl (by kernel_rfl) rfl rfl rfl ⟨rfl,trivial⟩ (fun f4 f5 (f6:aI G K (aK 2 K f4 1 ([n]:List Int)::aK 2 K q r p::L) f5)=>?_)))))
   obtain ⟨b6,f7,b⟩:=aB b
   exact dG (i:=0) cF underlying35 jC rfl rfl f6 rfl (zR _) (zR _) f7 rfl rfl rfl rfl (fun _ h=>h) (fun b7 b8 f8 (f9:aI G K (aK 2 K b7 b8 b6::L) f8)=>(aF (v:=zS b7 b6.length b8) (aG ⟨b6,b7,b8,b,rfl,f9⟩)))
  ·exact aJ b5 rfl (bA (aA ⟨p,q,r,b,d6,d7⟩))
 obtain ⟨i8,g0,b⟩:=aB b
 refine cE g0 (fun (s:(List Int × Bool × Int)) f w=>match s with|(d,j,k)=>∃ (l:Option Addr) (m:Nat),f 0=zS a1 e.length c2∧f 1=i64 n∧f 5=zS l d.length m∧f 6=zB j∧f 7=i64 k∧aI G K (aK 2 K l m d::L) w) ?_ ?_
 ·exact ⟨a4,0,rfl,rfl,rfl,rfl,rfl,e8⟩
 ·rintro ⟨d,j,k⟩ b9 f i9 a g1 ⟨l,m,V,Z,c0,a0,a2,a3⟩
  replace a:pV e n d j k=some b9:=a
  unfold pV at a
  refine aQ (aL (aN a2 (aN V (aD (bU (len:=e.length) cF rfl) (aD (cL rfl rfl) (aG ?_))))))
  rcases aH a with ⟨c1,a⟩|⟨c1,a⟩
  ·refine aM c1 rfl (bA (aA (aQ (cY (uV (fun f w=>∃ (z:List Int) (a5:Bool) (a6:Option Addr) (a7:Nat),sJ e k z a5=some b9∧f 0=zS a1 e.length c2∧f 1=i64 n∧f 5=zS a6 z.length a7∧f 6=zB a5∧f 7=i64 k∧aI G K (aK 2 K a6 a7 z::L) w) ?_ ?_)))))
   ·rintro f j0 ⟨z,a5,a6,a7,a,d8,g2,g3,g4,d9,e0⟩
    unfold sJ at a
    refine aP (aN g3 (aN d8 (aN d9 ?_)))
    obtain ⟨a9,e1,a⟩:=aB a
    refine aD (dI cF rfl o rfl rfl rfl e1) ?_
    obtain ⟨j1,g5,g6⟩:=cX.el (sz:=1) rfl o e1
    cases g6
    refine aD (bH (t:=0) cK e0 g5 rfl rfl) (bR (Kt:=K) (xs:=([a9]:List Int)) (cs:=[i64 a9]) (vs:=[(0,i64 a9)]) cF jC rfl rfl e0 rfl (by kernel_rfl) rfl rfl rfl ⟨rfl,trivial⟩ (fun g7 g8 (g9:aI G K (aK 2 K g7 1 ([a9]:List Int)::aK 2 K a6 a7 z::L) g8)=>?_))
    obtain ⟨c3,h0,a⟩:=aB a
    exact dG (i:=0) cF underlying35 jC rfl rfl g9 rfl (zR _) (zR _) h0 rfl rfl rfl rfl (fun _ h=>h) (fun c4 c5 h1 (h2:aI G K (aK 2 K c4 c5 c3::L) h1)=>(aF (v:=zS c4 c3.length c5) (aZ (bC (aA (aP (aN d9 (aD (cP rfl rfl) (aF (v:=i64 (wr (k+1))) (aG ⟨(c3,a5,wr (k+1)),(zI a).symm,c4,c5,d8,g2,rfl,g4,rfl,h2⟩))))))))))
   refine aQ (cN (fun f w=>∃ (c6:Bool),xD e n d j k c6=some b9∧f 0=zS a1 e.length c2∧f 1=i64 n∧f 5=zS l d.length m∧f 6=zB j∧f 7=i64 k∧f 24=zB c6∧aI G K (aK 2 K l m d::L) w) ?_ ?_)
   ·rintro f j2 ⟨c6,a,b0,J,c7,h4,b1,e2,b2⟩
    unfold xD at a
    refine aA ?_
    rcases aH a with ⟨c8,a⟩|⟨c8,a⟩
    ·refine aM c8 e2 (aL (aF (v:=zB true) (aG (aL (aN b0 (aN b1 ?_))))))
     obtain ⟨j3,e3,a⟩:=aB a
     refine aD (dI cF rfl o rfl rfl rfl e3) ?_
     obtain ⟨j4,h5,h6⟩:=cX.el (sz:=1) rfl o e3
     cases h6
     refine aD (bH (t:=0) cK b2 h5 rfl rfl) (aN J (aD (kZ rfl rfl) (aG ?_)))
     rcases aH a with ⟨d0,a⟩|⟨d0,a⟩
     ·refine aM d0 rfl (aP (aN c7 (aN J (bR (Kt:=K) (xs:=([n]:List Int)) (cs:=[i64 n]) (vs:=[(0,i64 n)]) cF jC rfl rfl b2 rfl (by kernel_rfl) rfl rfl rfl ⟨rfl,trivial⟩ (fun h7 h8 (h9:aI G K (aK 2 K h7 1 ([n]:List Int)::aK 2 K l m d::L) h8)=>?_)))))
      obtain ⟨d1,i0,a⟩:=aB a
      exact dG (i:=0) cF underlying35 jC rfl rfl h9 rfl (zR _) (zR _) i0 rfl rfl rfl rfl (fun _ h=>h) (fun d2 d3 i1 (i2:aI G K (aK 2 K d2 d3 d1::L) i1)=>(aF (v:=zS d2 d1.length d3) (aG ⟨d1,true,d2,d3,a,b0,J,rfl,rfl,b1,i2⟩)))
     ·exact aJ d0 rfl (bA (aA ⟨d,true,l,m,a,b0,J,c7,rfl,b1,b2⟩))
    ·exact aJ c8 e2 (bA (aA ⟨d,j,l,m,a,b0,J,c7,h4,b1,b2⟩))
   refine aP (aN a0 (aD (eJ rfl) (aO (v:=zB (!j)) ?_)))
   rcases aH a with ⟨c,a⟩|⟨c,a⟩
   ·refine bD c rfl rfl (aN V (bD c rfl rfl (aN a2 (bD c rfl rfl ?_))))
    obtain ⟨e4,e5,a⟩:=aB a
    refine aD (dI cF rfl o rfl rfl rfl e5) ?_
    obtain ⟨j5,i3,i4⟩:=cX.el (sz:=1) rfl o e5
    cases i4
    exact bD c rfl rfl (aD (bH (t:=0) cK a3 i3 rfl rfl) (bD c rfl rfl (aN Z (bD c rfl rfl (aD (zV rfl rfl) (aD (bL (v:=zB (decide (n≤e4))) c rfl rfl) (aG ⟨decide (n≤e4),a,V,Z,c0,a0,a2,rfl,a3⟩)))))))
   ·exact aR c rfl rfl (aR c rfl rfl (aR c rfl rfl (aR c rfl rfl (aR c rfl rfl (aR c rfl rfl (aD (bK (v:=zB false) c rfl rfl) (aG ⟨false,a,V,Z,c0,a0,a2,rfl,a3⟩)))))))
  ·refine aJ c1 rfl (cA (aT (aT ?_)))
   have i5:=g1 _ (zI a).symm
   subst i5
   have b:(aAX n d j)=some R:=b
   exact bJ (aA ⟨d,j,l,m,b,Z,c0,a0,a3⟩)
theorem aIE {t:cG} {g:Nat} {p:(List Int)} {k:Int} {R:(List Int)} (hs:aI G K (L) w) (b:kK K a1 g (zC t a4 c5 a7 c8)) (h6:cX K a4 c5 t.L) (z:cX K a7 c8 t.E) (a9:cX K a10 c11 p) (e:aDu t p k=some R):
  Calls Tryz.prog 152 ([cU a1 g,zS a10 p.length c11,i64 k]:List Value).toArray w (gK fun v w'=>∃ (b0:Option Addr) (b1:Nat),v=zS b0 R.length b1∧aI G K (aK 2 K b0 b1 R::L) w'):=by
 refine aW func152 rfl (by kernel_rfl) (by show (3:Nat)≤55;decide) ?_
 unfold aDu at e
 refine aL (aF (v:=zS none 0 0) (aG (aL (bR (Kt:=K) (xs:=([]:List Int)) (cs:=[]) (vs:=[]) cF jC rfl rfl hs rfl (by kernel_rfl) rfl rfl rfl trivial (fun a2 b9 (c0:aI G K (aK 2 K a2 0 ([]:List Int)::L) b9)=>(aF (v:=zS a2 ([]:List Int).length 0) (aG (aQ (aL (aF (v:=i64 0) (aG (bB (fun f w=>∃ (r:List Int) (u:Option Addr) (x:Nat),aBJ r=some R∧f 7=zS u r.length x∧aI G K (aK 2 K u x r::L) w) ?_ ?_))))))))))))
 ·rintro f e7 ⟨r,u,x,e,c1,c2⟩
  unfold aBJ at e
  refine aA (aL (aN c1 (aF (v:=zS u r.length x) (aG ?_))))
  obtain rfl:=zI e
  exact bM (bP results152 rfl ⟨u,x,rfl,c2⟩)
 obtain ⟨e8,c4,e⟩:=aB e
 refine cE c4 (fun (s:(List Int × Int)) f w=>match s with|(h,d)=>∃ (l:Option Addr) (m:Nat),f 0=cU a1 g∧f 1=zS a10 p.length c11∧f 2=i64 k∧f 7=zS l h.length m∧f 8=i64 d∧aI G K (aK 2 K l m h::L) w) ?_ ?_
 ·exact ⟨a2,0,rfl,rfl,rfl,rfl,rfl,c0⟩
 ·rintro ⟨h,d⟩ b2 f e9 a c6 ⟨l,m,n,J,a3,a5,o,j⟩
  replace a:lY t p k h d=some b2:=a
  unfold lY at a
  refine aQ (aL (aN o (aN n (aD (cJ rfl b) (aD (bO (k':=g+3) cV rfl b rfl) (aD (bH (t:=3) fH j b rfl rfl) (aD (bU (len:=t.E.length) cM rfl) (aD (cL rfl rfl) (aG ?_)))))))))
  rcases aH a with ⟨a6,a⟩|⟨a6,a⟩
  ·refine aM a6 rfl (bA (aA (aQ (bB (fun f w=>∃ (y:List Int) (V:Option Addr) (Z:Nat),xT d y=some b2∧f 0=cU a1 g∧f 1=zS a10 p.length c11∧f 2=i64 k∧f 7=zS V y.length Z∧f 8=i64 d∧aI G K (aK 2 K V Z y::L) w) ?_ ?_))))
   ·rintro f f0 ⟨y,V,Z,a,c7,c9,d0,d1,d2,d3⟩
    unfold xT at a
    exact aA (aP (aN d2 (aD (cP rfl rfl) (aF (v:=i64 (wr (d+1))) (aG ⟨(y,wr (d+1)),(zI a).symm,V,Z,c7,c9,d0,d1,rfl,d3⟩)))))
   refine aL (aN n (aD (cJ rfl b) (aD (bO (k':=g+3) cV rfl b rfl) (aD (bH (t:=3) fH j b rfl rfl) (aN o ?_)))))
   obtain ⟨d4,a0,a⟩:=aB a
   refine aD (dI cM rfl z rfl rfl rfl a0) ?_
   obtain ⟨f1,q,d5⟩:=cX.el (sz:=3) rfl z a0
   cases d5
   refine aD (bO (k':=d.toNat * 3+0) hQ rfl q rfl) (aD (bH (t:=0) cK j q rfl rfl) (aN a3 (aD (gE rfl rfl) (aG ?_))))
   rcases aH a with ⟨a8,a⟩|⟨a8,a⟩
   ·refine aM a8 rfl (fK (C:=fun w'=>∃ L',aI G K L' w') [(0,0),(1,0),(2,0),(3,0),(4,0),(5,0),(6,0),(7,0),(8,0),(9,0),(10,0),(11,0),(12,0),(13,0),(14,0),(15,0),(16,0),(17,0),(18,0),(19,0),(20,0),(21,0),(22,0),(23,0),(24,1),(25,0)] bZ (by kernel_rfl) (fun _ hg=>⟨_,aI.mono j hg⟩) (fun f2 d6=>?_))
    have c:=aI.mono j d6
    refine bS rfl (fun _ _=>bE a5) (bS rfl (fun _ _=>bE n) (bS rfl (fun _ _=>cJ rfl b) (bS rfl (fun _ _=>bO (k':=g+3) cV rfl b rfl) (bS rfl (fun _ ⟨_,c⟩=>bH (t:=3) fH c b rfl rfl) (bS rfl (fun _ _=>bE o) (bS rfl (fun _ _=>dI cM rfl z rfl rfl rfl a0) (bS rfl (fun _ _=>bO (k':=d.toNat * 3+1) iZ rfl q rfl) (bS rfl (fun _ ⟨_,c⟩=>bH (t:=1) cK c q rfl rfl) (bS rfl (fun _ _=>bE J) (bS rfl (fun _ _=>bU (len:=p.length) cF rfl) (bS rfl (fun _ _=>aCO rfl rfl) (bS rfl (fun _ _=>bE J) (bS rfl (fun _ _=>bE n) (bS rfl (fun _ _=>cJ rfl b) (bS rfl (fun _ _=>bO (k':=g+3) cV rfl b rfl) (bS rfl (fun _ ⟨_,c⟩=>bH (t:=3) fH c b rfl rfl) (bS rfl (fun _ _=>bE o) (bS rfl (fun _ _=>dI cM rfl z rfl rfl rfl a0) (bS rfl (fun _ _=>bO (k':=d.toNat * 3+2) gR rfl q rfl) (bS rfl (fun _ ⟨_,c⟩=>bH (t:=2) cK c q rfl rfl) ?_))))))))))))))))))))
    obtain ⟨d7,b3,a⟩:=aB a
    refine bS rfl (fun _ _=>dI cF rfl a9 rfl rfl rfl b3) ?_
    obtain ⟨f3,d8,d9⟩:=cX.el (sz:=1) rfl a9 b3
    cases d9
    refine bS rfl (fun _ ⟨_,c⟩=>bH (t:=0) cK c d8 rfl rfl) (bS rfl (fun _ _=>cP rfl rfl) (kY rfl ?_))
    obtain ⟨f4,f5,e0,e1,e2⟩:=aI.lendS (i:=0) c (zR _) rfl
    obtain ⟨b4,e3,a⟩:=aB a
    refine aS (vs:=[zS l h.length m,i64 (wr ((wr (d4.B * (p.length:Int)))+d7))]) call154 rfl (aFA e1 e0 e3) ?_
    rintro _ f6 ⟨b5,b6,rfl,e4⟩
    have b7:=e2 _ _ e4
    refine aZ (aA ⟨⟨_,b7⟩,?_⟩)
    exact bS rfl (fun _ _=>dV (v:=zS b5 b4.length b6) rfl) (lF (bC (aA ⟨b4,b5,b6,a,n,J,a3,rfl,o,(aI.arr 1 [] b7 rfl)⟩)))
   ·exact aJ a8 rfl (bA (bC (aA ⟨h,l,m,a,n,J,a3,a5,o,j⟩)))
  ·refine aJ a6 rfl (cA (aT (aT ?_)))
   have e5:=c6 _ (zI a).symm
   subst e5
   have e:(aBJ h)=some R:=e
   exact bJ (aA ⟨h,l,m,e,a5,j⟩)
theorem aGM {t:cG} {k2:Nat} {p R:(List Int)} (hs:aI G K (L) w) (h3:kK K a1 k2 (zC t a4 c5 a7 c8)) (h6:cX K a4 c5 t.L) (h9:cX K a7 c8 t.E) (b3:cX K a10 c11 p) (r:aAY t p=some R):
  Calls Tryz.prog 124 ([cU a1 k2,zS a10 p.length c11]:List Value).toArray w (gK fun v w'=>∃ (g9:Option Addr) (h0:Nat),v=zS g9 R.length h0∧aI G K (aK 2 K g9 h0 R::L) w'):=by
 refine aW func124 rfl (by kernel_rfl) (by show (2:Nat)≤78;decide) ?_
 unfold aAY at r
 refine aL (aF (v:=zS none 0 0) (aG (aL (bR (Kt:=K) (xs:=([]:List (List Int))) (cs:=[]) (vs:=[]) oQ aEB rfl rfl hs rfl (by kernel_rfl) rfl rfl rfl trivial (fun d6 k9 (l0:aI G K (aK 35 K d6 0 ([]:List (List Int))::L) k9)=>(aF (v:=zS d6 ([]:List (List Int)).length 0) (aG (aQ (aL (aF (v:=i64 0) (aG (bB (fun f w=>∃ (b:Hp) (e:List (List Int)) (k:Option Addr) (l:Nat),Hp.le K b∧lG p e=some R∧f 1=zS a10 p.length c11∧f 5=zS k e.length l∧aI G b (aK 35 b k l e::L) w) ?_ ?_))))))))))))
 ·rintro f t4 ⟨b,e,k,l,a0,r,l1,l2,l3⟩
  unfold lG at r
  refine aA (aL (bR (Kt:=K) (xs:=([]:List Int)) (cs:=[]) (vs:=[]) cF jC rfl rfl l3 rfl (by kernel_rfl) rfl rfl rfl trivial (fun d7 l4 (l5:aI G b (aK 2 K d7 0 ([]:List Int)::aK 35 b k l e::L) l4)=>(aF (v:=zS d7 ([]:List Int).length 0) (aG (aL (aF (v:=i64 0) (aG (aQ (aL (aF (v:=i64 0) (aG (bB (fun f w=>∃ (b4:List Int) (b5:Option Addr) (b6:Nat),xU b4=some R∧f 7=zS b5 b4.length b6∧aI G b (aK 2 K b5 b6 b4::L) w) ?_ ?_)))))))))))))
  ·rintro f t5 ⟨b4,b5,b6,r,l6,l7⟩
   unfold xU at r
   refine aA (aL (aN l6 (aF (v:=zS b5 b4.length b6) (aG ?_))))
   obtain rfl:=zI r
   exact bM (bP results124 rfl ⟨b5,b6,rfl,(aI.weakK l7 a0)⟩)
  obtain ⟨t6,l9,r⟩:=aB r
  refine cE l9 (fun (s:(List Int × Int × Int)) f w=>match s with|(j,u,n)=>∃ (o:Option Addr) (q:Nat),f 1=zS a10 p.length c11∧f 5=zS k e.length l∧f 7=zS o j.length q∧f 8=i64 u∧f 9=i64 n∧aI G b (aK 2 K o q j::aK 35 b k l e::L) w) ?_ ?_
  ·exact ⟨d7,0,l1,l2,rfl,rfl,rfl,l5⟩
  ·rintro ⟨j,u,n⟩ b7 f t7 c m0 ⟨o,q,h1,m1,h2,m2,h4,h5⟩
   replace c:jI p e j u n=some b7:=c
   unfold jI at c
   refine aQ (aL (aN h4 (aN h1 (aD (bU (len:=p.length) cF rfl) (aD (cL rfl rfl) (aG ?_))))))
   rcases aH c with ⟨d8,c⟩|⟨d8,c⟩
   ·refine aM d8 rfl (bA (aA (aQ (bB (fun f w=>∃ (b8:List Int) (c3:Int) (c4:Option Addr) (c6:Nat),xV n b8 c3=some b7∧f 1=zS a10 p.length c11∧f 5=zS k e.length l∧f 7=zS c4 b8.length c6∧f 8=i64 c3∧f 9=i64 n∧aI G b (aK 2 K c4 c6 b8::aK 35 b k l e::L) w) ?_ ?_))))
    ·rintro f t8 ⟨b8,c3,c4,c6,c,m3,m4,m5,m6,m7,m8⟩
     unfold xV at c
     exact aA (aP (aN m7 (aD (cP rfl rfl) (aF (v:=i64 (wr (n+1))) (aG ⟨(b8,c3,wr (n+1)),(zI c).symm,c4,c6,m3,m4,m5,m6,rfl,m8⟩)))))
    refine aL (aF (v:=i64 (-1)) (aG (aQ (aL (aF (v:=i64 0) (aG (bB (fun f w=>∃ (c7:Int),sL j u n c7=some b7∧f 1=zS a10 p.length c11∧f 5=zS k e.length l∧f 7=zS o j.length q∧f 8=i64 u∧f 9=i64 n∧f 10=i64 c7∧aI G b (aK 2 K o q j::aK 35 b k l e::L) w) ?_ ?_)))))))
    ·rintro f t9 ⟨c7,c,h7,h8,i0,d9,i1,i2,i3⟩
     unfold sL at c
     refine aA (uV (fun f w=>∃ (c9:Int) (a2:Int),sK j n c9 a2=some b7∧f 1=zS a10 p.length c11∧f 5=zS k e.length l∧f 7=zS o j.length q∧f 8=i64 c9∧f 9=i64 n∧f 10=i64 a2∧aI G b (aK 2 K o q j::aK 35 b k l e::L) w) ?_ ?_)
     ·rintro f u0 ⟨c9,a2,c,m9,n0,n1,n2,n3,n4,n5⟩
      unfold sK at c
      refine aP (aN n1 (aN n4 (bR (Kt:=K) (xs:=([a2]:List Int)) (cs:=[i64 a2]) (vs:=[(0,i64 a2)]) cF jC rfl rfl n5 rfl (by kernel_rfl) rfl rfl rfl ⟨rfl,trivial⟩ (fun n6 n7 (n8:aI G b (aK 2 K n6 1 ([a2]:List Int)::aK 2 K o q j::aK 35 b k l e::L) n7)=>?_))))
      obtain ⟨e0,n9,c⟩:=aB c
      exact dG (i:=0) cF underlying35 jC rfl rfl n8 rfl a0 a0 n9 rfl rfl rfl rfl (fun _ h=>h) (fun e1 e2 o0 (o1:aI G b (aK 2 K e1 e2 e0::aK 35 b k l e::L) o0)=>(aF (v:=zS e1 e0.length e2) (aZ (bC (aA ⟨e0,c9,e1,e2,c,m9,n0,rfl,n2,n3,o1⟩)))))
     refine aL (aN i2 (aD (cL rfl rfl) (aG ?_)))
     rcases aH c with ⟨e3,c⟩|⟨e3,c⟩
     ·exact aM e3 rfl (aL (aN d9 (aF (v:=i64 u) (aG (aP (aN d9 (aD (cP rfl rfl) (aF (v:=i64 (wr (u+1))) (aG ⟨wr (u+1),u,c,h7,h8,i0,rfl,i1,rfl,i3⟩)))))))))
     ·exact aJ e3 rfl (bA (aA ⟨u,c7,c,h7,h8,i0,d9,i1,i2,i3⟩))
    obtain ⟨u1,o2,c⟩:=aB c
    refine cE o2 (fun (s:(Int × Int)) f w=>match s with|(x,y)=>f 1=zS a10 p.length c11∧f 5=zS k e.length l∧f 7=zS o j.length q∧f 8=i64 u∧f 9=i64 n∧f 10=i64 x∧f 11=i64 y∧aI G b (aK 2 K o q j::aK 35 b k l e::L) w) ?_ ?_
    ·exact ⟨h1,m1,h2,m2,h4,rfl,rfl,h5⟩
    ·rintro ⟨x,y⟩ d0 f u2 a o3 ⟨i4,i5,i6,i7,e4,e5,e6,i8⟩
     replace a:kR p e j n x y=some d0:=a
     unfold kR at a
     refine aQ (aQ (cN (fun f w=>∃ (e7:Bool),mT p e j n x y e7=some d0∧f 1=zS a10 p.length c11∧f 5=zS k e.length l∧f 7=zS o j.length q∧f 8=i64 u∧f 9=i64 n∧f 10=i64 x∧f 11=i64 y∧f 41=zB e7∧aI G b (aK 2 K o q j::aK 35 b k l e::L) w) ?_ ?_))
     ·rintro f u3 ⟨e7,a,b9,c0,e8,e9,c1,f0,d1,i9,j0⟩
      unfold mT at a
      refine aA ?_
      rcases aH a with ⟨f1,a⟩|⟨f1,a⟩
      ·refine aM f1 i9 (bA (aA (aQ (bB (fun f w=>∃ (d2:Int),oW y d2=some d0∧f 1=zS a10 p.length c11∧f 5=zS k e.length l∧f 7=zS o j.length q∧f 8=i64 u∧f 9=i64 n∧f 10=i64 d2∧f 11=i64 y∧aI G b (aK 2 K o q j::aK 35 b k l e::L) w) ?_ ?_))))
       ·rintro f u4 ⟨d2,a,o4,o5,o6,o7,o8,o9,p0,p1⟩
        unfold oW at a
        exact aA (aP (aN p0 (aD (cP rfl rfl) (aF (v:=i64 (wr (y+1))) (aG ⟨(d2,wr (y+1)),(zI a).symm,o4,o5,o6,o7,o8,o9,rfl,p1⟩)))))
       refine aQ (cN (fun f w=>∃ (f2:Bool),mS j x y f2=some d0∧f 1=zS a10 p.length c11∧f 5=zS k e.length l∧f 7=zS o j.length q∧f 8=i64 u∧f 9=i64 n∧f 10=i64 x∧f 11=i64 y∧f 63=zB f2∧aI G b (aK 2 K o q j::aK 35 b k l e::L) w) ?_ ?_)
       ·rintro f u5 ⟨f2,a,j1,j2,f3,j3,j4,p2,f4,j5,d3⟩
        unfold mS at a
        refine aA ?_
        rcases aH a with ⟨f5,a⟩|⟨f5,a⟩
        ·refine aM f5 j5 (aP (aN f3 (aN f4 ?_)))
         obtain ⟨j6,f6,a⟩:=aB a
         have p3:=dA d3 (i:=0) rfl f6
         exact aD (dT cF rfl p3 rfl rfl rfl f6) (aD (gP (t:=0) cK d3 (i:=0) rfl f6 rfl rfl rfl) (aF (v:=i64 j6) (aZ (bC (aA ⟨j6,a,j1,j2,f3,j3,j4,rfl,f4,d3⟩)))))
        ·exact aJ f5 j5 (bA (bC (aA ⟨x,a,j1,j2,f3,j3,j4,p2,f4,d3⟩)))
       obtain ⟨p4,d4,f7,d,j7⟩:=aI.lendS (i:=1) j0 (zR _) rfl
       refine eR (C:=fun w'=>aI G p4 (aK 2 K o q j::L) w') bZ (by kernel_rfl) (aI.mono d (eC.drew _)) (bF (fun _ d=>bE b9) (bF (fun _ d=>bE d1) ?_))
       obtain ⟨p5,j8,a⟩:=aB a
       refine bF (fun _ d=>dI cF rfl (b3.mono (zL a0 d4)) rfl rfl rfl j8) ?_
       obtain ⟨u6,p6,p7⟩:=cX.el (sz:=1) rfl b3 j8
       cases p7
       refine bF (fun _ d=>bH (t:=0) cK d (p6.mono (zL a0 d4)) rfl rfl) (bF (fun _ d=>bE b9) (bF (fun _ d=>bE c1) ?_))
       obtain ⟨p8,j9,a⟩:=aB a
       refine bF (fun _ d=>dI cF rfl (b3.mono (zL a0 d4)) rfl rfl rfl j9) ?_
       obtain ⟨u7,p9,q0⟩:=cX.el (sz:=1) rfl b3 j9
       cases q0
       refine bF (fun _ d=>bH (t:=0) cK d (p9.mono (zL a0 d4)) rfl rfl) (bF (fun _ d=>gE rfl rfl) (bF (fun _ d=>bE (v:=zB (p5 == p8)) rfl) ?_))
       rcases aH a with ⟨m,a⟩|⟨m,a⟩
       ·refine cC (g:=53) rfl rfl m (bF (fun _ d=>bE c0) (cC (g:=53) rfl rfl m (bF (fun _ d=>bE d1) (cC (g:=53) rfl rfl m ?_))))
        obtain ⟨q1,f8,a⟩:=aB a
        have k0:=aGc f7 f8
        refine bF (fun _ d=>dT oQ rfl k0 rfl rfl rfl f8) (cC (g:=53) rfl rfl m ?_)
        obtain ⟨u8,q2,q3⟩:=cX.el (sz:=1) rfl f7 f8
        obtain ⟨q4,q5,rfl,q6⟩:=q3
        refine bF (fun _ d=>bH (t:=0) aIt d q2 rfl rfl) (cC (g:=53) rfl rfl m (bF (fun _ d=>bE c0) (cC (g:=53) rfl rfl m (bF (fun _ d=>bE c1) (cC (g:=53) rfl rfl m ?_)))))
        obtain ⟨q7,k1,a⟩:=aB a
        refine bF (fun _ d=>dT oQ rfl k0 rfl rfl rfl k1) (cC (g:=53) rfl rfl m ?_)
        obtain ⟨u9,q8,q9⟩:=cX.el (sz:=1) rfl f7 k1
        obtain ⟨r0,r1,rfl,r2⟩:=q9
        refine bF (fun _ d=>bH (t:=0) aIt d q8 rfl rfl) (cC (g:=53) rfl rfl m ?_)
        obtain ⟨f9,r3,a⟩:=aB a
        refine pZ (vs:=[zS q4 q1.length q5,zS r0 q7.length r1]) (v:=zB f9) call54 rfl (fun _ d=>(tL d q6 r2 r3)) (bF (fun _ d=>bL (v:=zB f9) m rfl rfl) (fE (fun v0 r4=>?_)))
        have r5:=j7 _ _ r4
        exact aA ⟨f9,a,b9,c0,e8,e9,c1,f0,d1,rfl,(aI.arr 2 [1,0] r5 rfl)⟩
       ·refine bI (g:=53) rfl rfl (dQ m) (bI (g:=53) rfl rfl (dQ m) (bI (g:=53) rfl rfl (dQ m) (bI (g:=53) rfl rfl (dQ m) (bI (g:=53) rfl rfl (dQ m) (bI (g:=53) rfl rfl (dQ m) (bI (g:=53) rfl rfl (dQ m) (bI (g:=53) rfl rfl (dQ m) (bI (g:=53) rfl rfl (dQ m) (bF (fun _ d=>bK (v:=zB false) m rfl rfl) (fE (fun v1 r6=>?_)))))))))))
        have r7:=j7 _ _ r6
        exact aA ⟨false,a,b9,c0,e8,e9,c1,f0,d1,rfl,(aI.arr 2 [1,0] r7 rfl)⟩
      ·refine aJ f1 i9 (cA (aT (aT ?_)))
       have r8:=o3 _ (zI a).symm
       subst r8
       have c:(sL j u n x)=some b7:=c
       exact bJ (aA ⟨x,c,b9,c0,e8,e9,c1,f0,j0⟩)
     refine aP (aN e6 (aN e4 (aD (cL rfl rfl) (aO (v:=zB (decide (y < n))) ?_))))
     rcases aH a with ⟨a3,a⟩|⟨a3,a⟩
     ·exact bD a3 rfl rfl (aN e5 (bD a3 rfl rfl (aD (cL rfl rfl) (aD (bL (v:=zB (decide (x < 0))) a3 rfl rfl) (aG ⟨decide (x < 0),a,i4,i5,i6,i7,e4,e5,e6,rfl,i8⟩)))))
     ·exact aR a3 rfl rfl (aR a3 rfl rfl (aD (bK (v:=zB false) a3 rfl rfl) (aG ⟨false,a,i4,i5,i6,i7,e4,e5,e6,rfl,i8⟩)))
   ·refine aJ d8 rfl (cA (aT (aT ?_)))
    have r9:=m0 _ (zI c).symm
    subst r9
    have r:(xU j)=some R:=r
    exact bJ (aA ⟨j,o,q,r,h2,(aI.arr 2 [0] h5 rfl)⟩)
 obtain ⟨v2,s0,r⟩:=aB r
 refine cE s0 (fun (s:(List (List Int) × Int)) f w=>match s with|(V,a8)=>∃ (J:Hp) (a5:Option Addr) (a6:Nat),Hp.le K J∧f 0=cU a1 k2∧f 1=zS a10 p.length c11∧f 5=zS a5 V.length a6∧f 6=i64 a8∧aI G J (aK 35 J a5 a6 V::L) w) ?_ ?_
 ·exact ⟨K,d6,0,(zR _),rfl,rfl,rfl,rfl,l0⟩
 ·rintro ⟨V,a8⟩ s1 f v3 z s2 ⟨J,a5,a6,Z,g0,g1,k3,g2,g3⟩
  replace z:iK t p V a8=some s1:=z
  unfold iK at z
  refine aQ (aL (aN g2 (aN g0 (aD (cJ rfl (h3.mono Z)) (aD (bO (k':=k2+0) gS rfl (h3.mono Z) rfl) (aD (bH (t:=0) cK g3 (h3.mono Z) rfl rfl) (aD (cL rfl rfl) (aG ?_))))))))
  rcases aH z with ⟨g4,z⟩|⟨g4,z⟩
  ·refine aM g4 rfl (bA (aA (aQ (cY (aP (aN k3 (aN g0 (aN g1 (aN g2 ?_)))))))))
   obtain ⟨a9,s3,z⟩:=aB z
   refine aS (vs:=[cU a1 k2,zS a10 p.length c11,i64 a8]) call152 rfl (aIE g3 (h3.mono Z) (h6.mono Z) (h9.mono Z) (b3.mono Z) s3) ?_
   rintro _ s4 ⟨b0,b1,rfl,s5⟩
   have s6:aI G J (rows [2] ([(b0,b1)]:List (Dp.Hd (List Int))) [a9]::aK 35 J a5 a6 V::L) s4:=aI.rowsOne s5
   refine bR (Kt:=K) (xs:=eD ([(b0,b1)]:List (Dp.Hd (List Int))) ([a9]:List (List Int))) (cs:=[zS b0 a9.length b1]) (vs:=[(0,zS b0 a9.length b1)]) oQ aEB rfl rfl s6 rfl (by kernel_rfl) rfl rfl rfl ⟨rfl,trivial⟩ ?_
   intro s7 k4 (s8:aI G J (aK 35 K s7 1 (eD ([(b0,b1)]:List (Dp.Hd (List Int))) ([a9]:List (List Int)))::rows [2] ([(b0,b1)]:List (Dp.Hd (List Int))) ([a9]:List (List Int))::aK 35 J a5 a6 V::L) k4)
   obtain ⟨d5,k5,s9,_,g5,_⟩:=aI.lendD' (i:=0) s8 rfl rfl rfl
   replace g5:aI G d5 (aK 35 J a5 a6 V::L) k4:=g5
   obtain ⟨g6,t0,z⟩:=aB z
   exact lW (i:=0) oQ underlying53 aEB rfl rfl g5 rfl k5 s9 t0 rfl rfl rfl rfl (fun g7 g8 t1 (t2:aI G d5 (aK 35 d5 g7 g8 g6::L) t1)=>(aF (v:=zS g7 g6.length g8) (aZ (bC (aA (aP (aN g2 (aD (cP rfl rfl) (aF (v:=i64 (wr (a8+1))) (aG ⟨(g6,wr (a8+1)),(zI z).symm,d5,g7,g8,(zL Z k5),g0,g1,rfl,rfl,t2⟩))))))))))
  ·refine aJ g4 rfl (cA (aT (aT ?_)))
   have t3:=s2 _ (zI z).symm
   subst t3
   have r:(lG p V)=some R:=r
   exact bJ (aA ⟨J,V,a5,a6,Z,r,g1,k3,g3⟩)
theorem aGN {t:cG} {j:Nat} {R:((List Int) × Int)} (x:aI G K (L) w) (o:kK K a1 j (zC t a4 c5 a7 c8)) (h6:cX K a4 c5 t.L) (h9:cX K a7 c8 t.E) (b:aAZ t=some R):
  Calls Tryz.prog 84 ([cU a1 j]:List Value).toArray w (gK fun v w'=>∃ (y:Option Addr) (z:Nat),v=Value.tuple #[zS y R.1.length z,i64 R.2]∧aI G K (aK 2 K y z R.1::L) w'):=by
 refine aW func84 rfl (by kernel_rfl) (by show (1:Nat)≤23;decide) ?_
 unfold aAZ at b
 refine aL (aF (v:=zS none 0 0) (aF (v:=i64 0) (aG (aL (aO (v:=cU a1 j) (aD (cJ rfl o) (aD (bO (k':=j+0) gS rfl o rfl) (aD (bH (t:=0) cK x o rfl rfl) ?_))))))))
 obtain ⟨n,a3,b⟩:=aB b
 refine aFu (e:=(0:Int)) cF jC rfl rfl x rfl rfl rfl a3 rfl (fun p a5 (a6:aI G K (aK 2 K p n.length n::L) a5)=>(aF (v:=zS p n.length n.length) (aG (aL (aF (v:=i64 0) (aG (cY ?_)))))))
 obtain ⟨d3,a8,b⟩:=aB b
 refine cE a8 (fun (s:(List Int × Int)) f w=>match s with|(c,d)=>∃ (g:Option Addr) (h:Nat),f 0=cU a1 j∧f 4=zS g c.length h∧f 5=i64 d∧aI G K (aK 2 K g h c::L) w) ?_ ?_
 ·exact ⟨p,n.length,rfl,rfl,rfl,a6⟩
 ·rintro ⟨c,d⟩ a9 f d4 a b0 ⟨g,h,J,q,V,b1⟩
  replace a:kT t c d=some a9:=a
  unfold kT at a
  refine aQ (cY (aL (aN J (aN q ?_))))
  obtain ⟨d5,r,b2,b3,b4⟩:=aI.lendS (i:=0) b1 (zR _) rfl
  obtain ⟨k,b5,a⟩:=aB a
  refine aS (vs:=[cU a1 j,zS g c.length h]) call124 rfl (aGM b3 (o.mono r) (h6.mono r) (h9.mono r) b2 b5) ?_
  rintro _ d6 ⟨l,m,rfl,b6⟩
  have b7:=b4 _ _ b6
  refine aF (v:=zS l k.length m) (aG (aQ (aL (aO (v:=zS l k.length m) (aN q ?_)))))
  obtain ⟨d7,b8,b9,c0,c1⟩:=aI.lendS (i:=1) b7 (zR _) rfl
  obtain ⟨d8,c2,c3,c4,c6⟩:=aI.lendS (i:=0) c0 b8 rfl
  obtain ⟨d9,c7,a⟩:=aB a
  refine aS (vs:=[zS l k.length m,zS g c.length h]) call54 rfl (tL c4 (b9.mono c2) c3 c7) ?_
  rintro _ e0 ⟨rfl,c9⟩
  have d0:=c6 _ _ c9
  have Z:=c1 _ _ d0
  refine aG ?_
  rcases aH a with ⟨u,a⟩|⟨u,a⟩
  ·refine aM u rfl (aL (aN q (aN V (aF (v:=zS g c.length h) (aF (v:=i64 d) (aG (bM (aV (bV (aV (aV ?_)))))))))))
   have d1:=b0 _ (zI a).symm
   subst d1
   have b:(some (c,d))=some R:=b
   obtain rfl:=zI b
   exact bV (kF results84 rfl rfl ⟨g,h,rfl,(aI.arr 1 [] Z rfl)⟩)
  ·exact aJ u rfl (bA (aA (aP (aO (v:=zS l k.length m) (aF (v:=zS l k.length m) (aZ (bC (aA (aP (aN V (aD (cP rfl rfl) (aF (v:=i64 (wr (d+1))) (aG ⟨(k,wr (d+1)),(zI a).symm,l,m,J,rfl,rfl,(aI.arr 2 [0] Z rfl)⟩)))))))))))))
theorem aEN {t:cG} {d:Nat} {R:(List Int)} (i:aI G K (L) w) (j:kK K a1 d (zC t a4 c5 a7 c8)) (k:cX K a4 c5 t.L) (l:cX K a7 c8 t.E) (e:aBW t=some R):
  Calls Tryz.prog 48 ([cU a1 d]:List Value).toArray w (gK fun v w'=>∃ (g:Option Addr) (h:Nat),v=zS g R.length h∧aI G K (aK 2 K g h R::L) w'):=by
 refine aW func48 rfl (by kernel_rfl) (by show (1:Nat)≤11;decide) ?_
 unfold aBW at e
 refine aL (aF (v:=zS none 0 0) (aG (aL (aO (v:=cU a1 d) ?_))))
 obtain ⟨a,m,e⟩:=aB e
 refine aS (vs:=[cU a1 d]) call84 rfl (aGN i j k l m) ?_
 rintro _ p ⟨b,c,rfl,n⟩
 refine aO (v:=Value.tuple #[zS b a.1.length c,i64 a.2]) (aD (bQ rfl rfl) (aD (bQ rfl rfl) (aF (v:=zS b a.1.length c) (aF (v:=i64 a.2) (aG (aL (aO (v:=zS b a.1.length c) (aF (v:=zS b a.1.length c) (aG ?_)))))))))
 obtain rfl:=zI e
 exact bM (bP results48 rfl ⟨b,c,rfl,n⟩)
theorem aHE {t:cG} {d:Nat} {R:cG} (hs:aI G K (L) w) (J:kK K a1 d (zC t a4 c5 a7 c8)) (V:cX K a4 c5 t.L) (Z:cX K a7 c8 t.E) (c:aAc t=some R):
  Calls Tryz.prog 20 ([cU a1 d]:List Value).toArray w (gK fun v w'=>∃ (a0:Option Addr) (a2:Nat) (a3:Option Addr) (a5:Nat),v=Value.agg (zCa R a0 a2 a3 a5)∧aI G K (aK 9 K a0 a2 R.L::aK 69 K a3 a5 R.E::L) w'):=by
 let p:=zG
 refine aW func20 rfl (by kernel_rfl) (by show (1:Nat)≤10;decide) ?_
 unfold aAc at c
 refine aL (bW (vs:=p) zeroValue27 hs rfl (fun a6 g6 b6=>(aG (aL (aO (v:=cU a1 d) (aO (v:=cU a1 d) ?_))))))
 obtain ⟨q,b7,c⟩:=aB c
 refine aS (vs:=[cU a1 d]) call46 rfl (aBs b6 J V Z b7) ?_
 rintro _ g7 ⟨r,u,rfl,b8⟩
 obtain ⟨g8,x,b9,c0,c1⟩:=aI.lendS (i:=0) b8 (zR _) rfl
 obtain ⟨a,c2,c⟩:=aB c
 refine aS (vs:=[cU a1 d,zS r q.length u]) call45 rfl (aCA c0 (J.mono x) (V.mono x) (Z.mono x) b9 c2) ?_
 rintro _ g9 ⟨e,g,h,j,rfl,c3⟩
 have c4:=c1 _ _ c3
 refine bW (vs:=p) zeroValue27 c4 rfl (fun o h0 c6=>(bY (i:=0) (ns:=(zC a e g h j)) (us:=(zC a e g h j)) sizeOf27 c6 rfl rfl rfl rfl rfl (dE rfl) rfl rfl (fun c7 (c9:aI G K (box o 27 (zC a e g h j)::aK 2 K r u q::aK 9 K e g a.L::aK 69 K h j a.E::box a6 27 p::L) c7)=>(aG (aL ?_)))))
 obtain ⟨h1,d0,d1,d2,d3⟩:=aI.lendS (i:=2) c9 (zR _) rfl
 obtain ⟨h2,d4,d5,d6,d7⟩:=aI.lendS (i:=2) d2 d0 rfl
 obtain ⟨h4,a8,d8,d9,e0⟩:=aI.lendB (i:=0) d6 rfl
 obtain ⟨a9,e1,c⟩:=aB c
 refine aS (vs:=[cU (some ⟨o,0,none⟩) 0]) call48 rfl (aEN d9 d8 (d1.mono (zL d4 a8)) (d5.mono a8) e1) ?_
 rintro _ h5 ⟨b0,b1,rfl,e2⟩
 have e3:=e0 _ _ e2
 have e4:=d7 _ _ e3
 have e5:=d3 _ _ e4
 obtain ⟨h7,b2,e6,e7,e8⟩:=aI.lendS (i:=0) e5 (zR _) rfl
 obtain ⟨h8,b3,e9,f0,f1⟩:=aI.lendS (i:=0) e7 b2 rfl
 obtain ⟨i0,y,f2,f3,f4⟩:=aI.lendB (i:=0) f0 rfl
 obtain ⟨i1,z,f5,f6,f7⟩:=aI.lendS (i:=0) f3 (zL (zL b2 b3) y) rfl
 obtain ⟨b,f8,c⟩:=aB c
 refine aS (vs:=[cU (some ⟨o,0,none⟩) 0,zS b0 a9.length b1]) call47 rfl (aFL f6 (f2.mono z) (e6.mono (zL (zL b3 y) z)) (e9.mono (zL y z)) f5 f8) ?_
 rintro _ i2 ⟨k,l,m,n,rfl,f9⟩
 have g0:=f7 _ _ f9
 have g1:=f4 _ _ g0
 have g2:=f1 _ _ g1
 have g3:=e8 _ _ g2
 refine bY (i:=7) (ns:=(zC b k l m n)) (us:=(zC b k l m n)) sizeOf27 g3 rfl rfl rfl rfl rfl (dE rfl) rfl rfl (fun g4 (b4:aI G K (aK 9 K e g a.L::aK 69 K h j a.E::box o 27 (zC a e g h j)::aK 2 K b0 b1 a9::aK 9 K k l b.L::aK 69 K m n b.E::aK 2 K r u q::box a6 27 (zC b k l m n)::L) g4)=>(aG ?_))
 obtain rfl:=zI c
 exact bM (vY results20 (fV (vs:=(zC b k l m n)) rfl dJ b4 (i:=7) rfl rfl rfl) ⟨k,l,m,n,rfl,(aI.arr 8 [4,5] b4 rfl)⟩)
theorem wI {e:Edge} {h:Nat} {p:(List Int)} {R:Bool} (b:aI G K (L) w) (d:kK K a1 h [i64 e.F,i64 e.B,i64 e.To]) (i:cX K a4 c5 p) (c:sM e p=some R):
  Calls Tryz.prog 85 ([cU a1 h,zS a4 p.length c5]:List Value).toArray w (gK fun v w'=>v=zB R∧aI G K (L) w'):=by
 refine aW func85 rfl (by kernel_rfl) (by show (2:Nat)≤27;decide) ?_
 unfold sM at c
 refine aL (aF (v:=zB false) (aG (aQ (cN (fun f w=>∃ (j:Bool),vE j=some R∧f 4=zB j∧aI G K (L) w) ?_ ?_))))
 ·rintro f Z ⟨j,c,o,q⟩
  unfold vE at c
  refine aA ?_
  obtain rfl:=zI c
  exact bM (bP results85 rfl ⟨o,q⟩)
 refine eR (C:=fun w'=>aI G K (L) w') bZ (by kernel_rfl) (aI.mono b (eC.drew _)) (bF (fun _ b=>bE (v:=cU a1 h) rfl) (bF (fun _ b=>cJ rfl d) (bF (fun _ b=>bO (k':=h+1) iZ rfl d rfl) (bF (fun _ b=>bH (t:=1) cK b d rfl rfl) (bF (fun _ b=>gE rfl rfl) (bF (fun _ b=>bE (v:=zB (e.B == 0)) rfl) ?_))))))
 rcases aH c with ⟨a,c⟩|⟨a,c⟩
 ·refine cC (g:=10) rfl rfl a (bF (fun _ b=>bE (v:=zS a4 p.length c5) rfl) (cC (g:=10) rfl rfl a (bF (fun _ b=>bE (v:=cU a1 h) rfl) (cC (g:=10) rfl rfl a (bF (fun _ b=>cJ rfl d) (cC (g:=10) rfl rfl a (bF (fun _ b=>bO (k':=h+0) hQ rfl d rfl) (cC (g:=10) rfl rfl a (bF (fun _ b=>bH (t:=0) cK b d rfl rfl) (cC (g:=10) rfl rfl a ?_))))))))))
  obtain ⟨k,m,c⟩:=aB c
  refine bF (fun _ b=>dI cF rfl i rfl rfl rfl m) ?_
  obtain ⟨a0,u,x⟩:=cX.el (sz:=1) rfl i m
  cases x
  refine cC (g:=10) rfl rfl a (bF (fun _ b=>bH (t:=0) cK b u rfl rfl) (cC (g:=10) rfl rfl a (bF (fun _ b=>bE (v:=zS a4 p.length c5) rfl) (cC (g:=10) rfl rfl a (bF (fun _ b=>bE (v:=cU a1 h) rfl) (cC (g:=10) rfl rfl a (bF (fun _ b=>cJ rfl d) (cC (g:=10) rfl rfl a (bF (fun _ b=>bO (k':=h+2) gR rfl d rfl) (cC (g:=10) rfl rfl a (bF (fun _ b=>bH (t:=2) cK b d rfl rfl) (cC (g:=10) rfl rfl a ?_))))))))))))
  obtain ⟨l,n,c⟩:=aB c
  refine bF (fun _ b=>dI cF rfl i rfl rfl rfl n) ?_
  obtain ⟨a2,y,z⟩:=cX.el (sz:=1) rfl i n
  cases z
  exact cC (g:=10) rfl rfl a (bF (fun _ b=>bH (t:=0) cK b y rfl rfl) (cC (g:=10) rfl rfl a (bF (fun _ b=>gE rfl rfl) (bF (fun _ b=>bL (v:=zB (k == l)) a rfl rfl) (bF (fun _ b=>dV (v:=zB (k == l)) rfl) (fE (fun a3 J=>(aA ⟨k == l,c,rfl,J⟩))))))))
 ·exact bI (g:=10) rfl rfl (dQ a) (bI (g:=10) rfl rfl (dQ a) (bI (g:=10) rfl rfl (dQ a) (bI (g:=10) rfl rfl (dQ a) (bI (g:=10) rfl rfl (dQ a) (bI (g:=10) rfl rfl (dQ a) (bI (g:=10) rfl rfl (dQ a) (bI (g:=10) rfl rfl (dQ a) (bI (g:=10) rfl rfl (dQ a) (bI (g:=10) rfl rfl (dQ a) (bI (g:=10) rfl rfl (dQ a) (bI (g:=10) rfl rfl (dQ a) (bI (g:=10) rfl rfl (dQ a) (bI (g:=10) rfl rfl (dQ a) (bI (g:=10) rfl rfl (dQ a) (bF (fun _ b=>bK (v:=zB false) a rfl rfl) (bF (fun _ b=>dV (v:=zB false) rfl) (fE (fun a5 V=>(aA ⟨false,c,rfl,V⟩)))))))))))))))))))
theorem aIF {e:(List Bool)} {R:(List Int)} (hs:aI G K (L) w) (h3:cX K a1 c2 e) (c:aDv e=some R):
  Calls Tryz.prog 86 ([zS a1 e.length c2]:List Value).toArray w (gK fun v w'=>∃ (a3:Option Addr) (a5:Nat),v=zS a3 R.length a5∧aI G K (aK 2 K a3 a5 R::L) w'):=by
 refine aW func86 rfl (by kernel_rfl) (by show (1:Nat)≤21;decide) ?_
 unfold aDv at c
 refine aL (aF (v:=zS none 0 0) (aG (aL (bR (Kt:=K) (xs:=([]:List Int)) (cs:=[]) (vs:=[]) cF jC rfl rfl hs rfl (by kernel_rfl) rfl rfl rfl trivial (fun x w5 (b1:aI G K (aK 2 K x 0 ([]:List Int)::L) w5)=>(aF (v:=zS x ([]:List Int).length 0) (aG (aQ (aL (aF (v:=i64 0) (aG (bB (fun f w=>∃ (k:List Int) (l:Option Addr) (m:Nat),aBK k=some R∧f 3=zS l k.length m∧aI G K (aK 2 K l m k::L) w) ?_ ?_))))))))))))
 ·rintro f d2 ⟨k,l,m,c,b2,b3⟩
  unfold aBK at c
  refine aA (aL (aN b2 (aF (v:=zS l k.length m) (aG ?_))))
  obtain rfl:=zI c
  exact bM (bP results86 rfl ⟨l,m,rfl,b3⟩)
 obtain ⟨d3,b5,c⟩:=aB c
 refine cE b5 (fun (s:(List Int × Int)) f w=>match s with|(d,b)=>∃ (g:Option Addr) (j:Nat),f 0=zS a1 e.length c2∧f 3=zS g d.length j∧f 4=i64 b∧aI G K (aK 2 K g j d::L) w) ?_ ?_
 ·exact ⟨x,0,rfl,rfl,rfl,b1⟩
 ·rintro ⟨d,b⟩ a6 f d4 a b6 ⟨g,j,p,y,n,q⟩
  replace a:lZ e d b=some a6:=a
  unfold lZ at a
  refine aQ (aL (aN n (aN p (aD (bU (len:=e.length) fO rfl) (aD (cL rfl rfl) (aG ?_))))))
  rcases aH a with ⟨z,a⟩|⟨z,a⟩
  ·refine aM z rfl (bA (aA (aQ (bB (fun f w=>∃ (o:List Int) (r:Option Addr) (u:Nat),xW b o=some a6∧f 0=zS a1 e.length c2∧f 3=zS r o.length u∧f 4=i64 b∧aI G K (aK 2 K r u o::L) w) ?_ ?_))))
   ·rintro f d5 ⟨o,r,u,a,b7,b8,b9,c0⟩
    unfold xW at a
    exact aA (aP (aN b9 (aD (cP rfl rfl) (aF (v:=i64 (wr (b+1))) (aG ⟨(o,wr (b+1)),(zI a).symm,r,u,b7,b8,rfl,c0⟩)))))
   refine aL (aN p (aN n ?_))
   obtain ⟨d6,a7,a⟩:=aB a
   refine aD (dI fO rfl h3 rfl rfl rfl a7) ?_
   obtain ⟨d7,c1,c3⟩:=cX.el (sz:=1) rfl h3 a7
   cases c3
   refine aD (bH (t:=0) aDW q c1 rfl rfl) (aG ?_)
   rcases aH a with ⟨J,a⟩|⟨J,a⟩
   ·refine aM J rfl (aP (aN y (aN n (bR (Kt:=K) (xs:=([b]:List Int)) (cs:=[i64 b]) (vs:=[(0,i64 b)]) cF jC rfl rfl q rfl (by kernel_rfl) rfl rfl rfl ⟨rfl,trivial⟩ (fun c4 c5 (c6:aI G K (aK 2 K c4 1 ([b]:List Int)::aK 2 K g j d::L) c5)=>?_)))))
    obtain ⟨V,c7,a⟩:=aB a
    exact dG (i:=0) cF underlying35 jC rfl rfl c6 rfl (zR _) (zR _) c7 rfl rfl rfl rfl (fun _ h=>h) (fun Z a0 c8 (d0:aI G K (aK 2 K Z a0 V::L) c8)=>(aF (v:=zS Z V.length a0) (aZ (bC (aA ⟨V,Z,a0,a,p,rfl,n,d0⟩)))))
   ·exact aJ J rfl (bA (bC (aA ⟨d,g,j,a,p,y,n,q⟩)))
  ·refine aJ z rfl (cA (aT (aT ?_)))
   have d1:=b6 _ (zI a).symm
   subst d1
   have c:(aBK d)=some R:=c
   exact bJ (aA ⟨d,g,j,c,y,q⟩)
theorem aCY {t:cG} {k:Nat} {p:(List Int)} {R:(List Bool)} (hs:aI G K (L) w) (q:kK K a1 k (zC t a4 c5 a7 c8)) (h6:cX K a4 c5 t.L) (h9:cX K a7 c8 t.E) (h2:cX K a10 c11 p) (l:uE t p=some R):
  Calls Tryz.prog 87 ([cU a1 k,zS a10 p.length c11]:List Value).toArray w (gK fun v w'=>∃ (f4:Option Addr) (f5:Nat),v=zS f4 R.length f5∧aI G K (aK 4 K f4 f5 R::L) w'):=by
 refine aW func87 rfl (by kernel_rfl) (by show (2:Nat)≤82;decide) ?_
 unfold uE at l
 refine aL (aF (v:=zS none 0 0) (aG (aL (aO (v:=cU a1 k) (aD (cJ rfl q) (aD (bO (k':=k+0) gS rfl q rfl) (aD (bH (t:=0) cK hs q rfl rfl) ?_)))))))
 obtain ⟨a,h4,l⟩:=aB l
 refine aFu (e:=(false:Bool)) fO ez_4 rfl rfl hs rfl rfl rfl h4 rfl (fun b h5 (h7:aI G K (aK 4 K b a.length a::L) h5)=>(aF (v:=zS b a.length a.length) (aG (aQ (aL (aF (v:=i64 0) (aG (bB (fun f w=>∃ (b9:List Bool),oX t p b9=some R∧f 0=cU a1 k∧f 1=zS a10 p.length c11∧f 5=zS b b9.length a.length∧aI G K (aK 4 K b a.length b9::L) w) ?_ ?_))))))))
 ·rintro f o5 ⟨b9,l,h8,i0,i1,i2⟩
  unfold oX at l
  refine aA (aQ (aL (aF (v:=zB true) (aG (bB (fun f w=>∃ (b1:List Bool),qS b1=some R∧f 5=zS b b1.length a.length∧aI G K (aK 4 K b a.length b1::L) w) ?_ ?_)))))
  ·rintro f o6 ⟨b1,l,i3,i4⟩
   unfold qS at l
   refine aA (aL (aN i3 (aF (v:=zS b b1.length a.length) (aG ?_))))
   obtain rfl:=zI l
   exact bM (bP results87 rfl ⟨b,a.length,rfl,i4⟩)
  obtain ⟨o7,i6,l⟩:=aB l
  refine cE i6 (fun (s:(List Bool × Bool)) f w=>match s with|(a0,d5)=>f 0=cU a1 k∧f 1=zS a10 p.length c11∧f 5=zS b a0.length a.length∧f 7=zB d5∧aI G K (aK 4 K b a.length a0::L) w) ?_ ?_
  ·exact ⟨h8,i0,i1,rfl,i2⟩
  ·rintro ⟨a0,d5⟩ c0 f o8 m i7 ⟨i8,i9,f6,j0,f7⟩
   replace m:lI t p a0 d5=some c0:=m
   unfold lI at m
   refine aQ (aL (aN j0 (aG ?_)))
   rcases aH m with ⟨d6,m⟩|⟨d6,m⟩
   ·refine aM d6 rfl (bA (aA (bB (fun f w=>∃ (b2:List Bool) (c1:Bool),aBo b2 c1=some c0∧f 0=cU a1 k∧f 1=zS a10 p.length c11∧f 5=zS b b2.length a.length∧f 7=zB c1∧aI G K (aK 4 K b a.length b2::L) w) ?_ ?_)))
    ·rintro f o9 ⟨b2,c1,m,j1,j2,j3,j4,j5⟩
     unfold aBo at m
     exact aA ⟨(b2,c1),(zI m).symm,j1,j2,j3,j4,j5⟩
    refine aL (aF (v:=zB false) (aG (aL (aF (v:=i64 0) (aG (bB (fun f w=>∃ (b3:List Bool) (c2:Bool),wA b3 c2=some c0∧f 0=cU a1 k∧f 1=zS a10 p.length c11∧f 5=zS b b3.length a.length∧f 7=zB c2∧aI G K (aK 4 K b a.length b3::L) w) ?_ ?_))))))
    ·rintro f p0 ⟨b3,c2,m,j6,j7,j8,j9,k0⟩
     unfold wA at m
     exact bC (aA ⟨b3,c2,m,j6,j7,j8,j9,k0⟩)
    obtain ⟨p1,k1,m⟩:=aB m
    refine cE k1 (fun (s:(List Bool × Bool × Int)) f w=>match s with|(o,y,r)=>f 0=cU a1 k∧f 1=zS a10 p.length c11∧f 5=zS b o.length a.length∧f 7=zB y∧f 8=i64 r∧aI G K (aK 4 K b a.length o::L) w) ?_ ?_
    ·exact ⟨i8,i9,f6,rfl,rfl,f7⟩
    ·rintro ⟨o,y,r⟩ c3 f p2 c k3 ⟨c4,d7,c6,d8,c7,a2⟩
     replace c:jY t p o y r=some c3:=c
     unfold jY at c
     refine aQ (aL (aN c7 (aN c4 (aD (cJ rfl q) (aD (bO (k':=k+0) gS rfl q rfl) (aD (bH (t:=0) cK a2 q rfl rfl) (aD (cL rfl rfl) (aG ?_))))))))
     rcases aH c with ⟨d9,c⟩|⟨d9,c⟩
     ·refine aM d9 rfl (bA (aA (aQ (bB (fun f w=>∃ (b4:List Bool) (c9:Bool),lH r b4 c9=some c3∧f 0=cU a1 k∧f 1=zS a10 p.length c11∧f 5=zS b b4.length a.length∧f 7=zB c9∧f 8=i64 r∧aI G K (aK 4 K b a.length b4::L) w) ?_ ?_))))
      ·rintro f p3 ⟨b4,c9,c,k4,k5,k6,k7,k8,k9⟩
       unfold lH at c
       exact aA (aP (aN k8 (aD (cP rfl rfl) (aF (v:=i64 (wr (r+1))) (aG ⟨(b4,c9,wr (r+1)),(zI c).symm,k4,k5,k6,k7,rfl,k9⟩)))))
      refine aQ (aL (aN c6 (aN c7 ?_)))
      obtain ⟨p4,b5,c⟩:=aB c
      have e0:=dA a2 (i:=0) rfl b5
      refine aD (dT fO rfl e0 rfl rfl rfl b5) (aD (gP (t:=0) aDW a2 (i:=0) rfl b5 rfl rfl rfl) (aD (eJ rfl) (aG ?_)))
      rcases aH c with ⟨e1,c⟩|⟨e1,c⟩
      ·exact aM e1 rfl (cA (aT (bJ (aA ⟨o,y,c,c4,d7,c6,d8,c7,a2⟩))))
      ·refine aJ e1 rfl (bA (aA (aL (aF (v:=zB false) (aG (aQ (aL (aF (v:=i64 0) (aG (bB (fun f w=>∃ (e2:Bool),qT o y r e2=some c3∧f 0=cU a1 k∧f 1=zS a10 p.length c11∧f 5=zS b o.length a.length∧f 7=zB y∧f 8=i64 r∧f 9=zB e2∧aI G K (aK 4 K b a.length o::L) w) ?_ ?_))))))))))
       ·rintro f p5 ⟨e2,c,f8,f9,e3,l0,e4,l1,g0⟩
        unfold qT at c
        refine aA (aL (aN l1 (aD (eJ rfl) (aG ?_))))
        rcases aH c with ⟨e5,c⟩|⟨e5,c⟩
        ·refine aM e5 rfl (aL (aN e3 (aN e4 (aD (dT fO rfl e0 rfl rfl rfl b5) ?_))))
         obtain ⟨g1,g2,c⟩:=aB c
         exact nG (i:=0) (t:=0) (ns:=[zB false]) (e':=(false:Bool)) sizeOf4 g0 rfl (zR _) rfl rfl rfl b5 g2 rfl rfl (dE rfl) rfl (fun cs h=>by cases h;rfl) (fun l2 (l3:aI G K (aK 4 K b a.length g1::L) l2)=>(aG (aP (aF (v:=zB true) (aZ (bC (aA ⟨g1,true,c,f8,f9,(Eq.trans e3 (congrArg (fun n=>zS b n a.length) (lE g2))),rfl,e4,l3⟩)))))))
        ·exact aJ e5 rfl (bA (bC (aA ⟨o,y,c,f8,f9,e3,l0,e4,g0⟩)))
       obtain ⟨p6,l4,c⟩:=aB c
       refine cE l4 (fun (s:(Bool × Int)) f w=>match s with|(a3,J)=>f 0=cU a1 k∧f 1=zS a10 p.length c11∧f 5=zS b o.length a.length∧f 7=zB y∧f 8=i64 r∧f 9=zB a3∧f 10=i64 J∧aI G K (aK 4 K b a.length o::L) w) ?_ ?_
       ·exact ⟨c4,d7,c6,d8,c7,rfl,rfl,a2⟩
       ·rintro ⟨a3,J⟩ g3 f p7 d l5 ⟨V,a5,a6,b6,a8,g4,a9,b7⟩
        replace d:iL t p o r a3 J=some g3:=d
        unfold iL at d
        refine aQ (aL (aN a9 (aN V (aD (cJ rfl q) (aD (bO (k':=k+3) cV rfl q rfl) (aD (bH (t:=3) fH b7 q rfl rfl) (aD (bU (len:=t.E.length) cM rfl) (aD (cL rfl rfl) (aG ?_)))))))))
        rcases aH d with ⟨e6,d⟩|⟨e6,d⟩
        ·refine aM e6 rfl (bA (aA (aQ (cY (aL (aN V (aD (cJ rfl q) (aD (bO (k':=k+3) cV rfl q rfl) (aD (bH (t:=3) fH b7 q rfl rfl) (aN a9 ?_))))))))))
         obtain ⟨u,g5,d⟩:=aB d
         refine aD (dI cM rfl h9 rfl rfl rfl g5) ?_
         obtain ⟨p8,l6,l7⟩:=cX.el (sz:=3) rfl h9 g5
         cases l7
         refine aD (gT (t:=0) (vs:=[i64 u.F,i64 u.B,i64 u.To]) mQ b7 l6 rfl rfl rfl) (bW (vs:=[i64 0,i64 0,i64 0]) zeroValue69 b7 rfl (fun g6 p9 l8=>(bY (i:=0) (ns:=[i64 u.F,i64 u.B,i64 u.To]) (us:=[i64 u.F,i64 u.B,i64 u.To]) sizeOf69 l8 rfl rfl rfl rfl rfl (dE rfl) rfl rfl (fun l9 (d0:aI G K (box g6 69 [i64 u.F,i64 u.B,i64 u.To]::aK 4 K b a.length o::L) l9)=>(aG (cN (fun f w=>∃ (d1:Bool),jX J d1=some g3∧f 0=cU a1 k∧f 1=zS a10 p.length c11∧f 5=zS b o.length a.length∧f 7=zB y∧f 8=i64 r∧f 9=zB d1∧f 10=i64 J∧aI G K (aK 4 K b a.length o::L) w) ?_ ?_))))))
         ·rintro f q0 ⟨d1,d,m0,m1,m2,m3,m4,m5,m6,m7⟩
          unfold jX at d
          exact bC (aA (aP (aN m6 (aD (cP rfl rfl) (aF (v:=i64 (wr (J+1))) (aG ⟨(d1,wr (J+1)),(zI d).symm,m0,m1,m2,m3,m4,m5,rfl,m7⟩))))))
         refine aP (aN g4 (aO (v:=zB a3) ?_))
         rcases aH d with ⟨j,d⟩|⟨j,d⟩
         ·exact aX j rfl rfl (aX j rfl rfl (aX j rfl rfl (aX j rfl rfl (aX j rfl rfl (dP (g:=64) rfl rfl (dP (g:=64) rfl rfl (aX j rfl rfl (aX j rfl rfl (dP (g:=68) rfl rfl (dP (g:=68) rfl rfl (dP (g:=68) rfl rfl (dP (g:=68) rfl rfl (dP (g:=68) rfl rfl (aX j rfl rfl (aD (bL (v:=zB true) j rfl rfl) (aF (v:=zB true) (aG ⟨true,d,V,a5,a6,b6,a8,rfl,a9,(aI.arr 1 [] d0 rfl)⟩)))))))))))))))))
         ·refine bG j rfl rfl (aD (bT (t':=0) hQ rfl rfl) (bG j rfl rfl (aD (dS cK d0 (i:=0) rfl rfl rfl) (bG j rfl rfl (aN a8 (bG j rfl rfl (aD (gE rfl rfl) (bG j rfl rfl (aO (v:=zB (u.F == r)) ?_)))))))))
          rcases aH d with ⟨Z,d⟩|⟨Z,d⟩
          ·refine bD Z rfl rfl (aN a5 (bD Z rfl rfl ?_))
           obtain ⟨q1,m8,m9,n0,n1⟩:=aI.lendB (i:=0) d0 rfl
           obtain ⟨g7,n2,d⟩:=aB d
           refine aS (vs:=[cU (some ⟨g6,0,none⟩) 0,zS a10 p.length c11]) call85 rfl (wI n0 m9 (h2.mono m8) n2) ?_
           rintro _ q2 ⟨rfl,n3⟩
           have d2:=n1 _ _ n3
           refine bG j rfl rfl (aD (bL (v:=zB g7) Z rfl rfl) (bG j rfl rfl (aO (v:=zB g7) ?_)))
           rcases aH d with ⟨x,d⟩|⟨x,d⟩
           ·refine bD x rfl rfl (aN a6 (bD x rfl rfl (aD (bT (t':=2) gR rfl rfl) (bD x rfl rfl (aD (dS cK d2 (i:=0) rfl rfl rfl) (bD x rfl rfl ?_))))))
            obtain ⟨d3,g8,d⟩:=aB d
            exact aD (dT fO rfl e0 rfl rfl rfl g8) (bD x rfl rfl (aD (gP (t:=0) aDW d2 (i:=1) rfl g8 rfl rfl rfl) (bG j rfl rfl (aD (bL (v:=zB d3) x rfl rfl) (aD (bK (v:=zB d3) j rfl rfl) (aF (v:=zB d3) (aG ⟨d3,d,V,a5,a6,b6,a8,rfl,a9,(aI.arr 1 [] d2 rfl)⟩)))))))
           ·exact aR x rfl rfl (aR x rfl rfl (aR x rfl rfl (aR x rfl rfl (aR x rfl rfl (bG j rfl rfl (aD (bK (v:=zB false) x rfl rfl) (aD (bK (v:=zB false) j rfl rfl) (aF (v:=zB false) (aG ⟨false,d,V,a5,a6,b6,a8,rfl,a9,(aI.arr 1 [] d2 rfl)⟩)))))))))
          ·exact aR Z rfl rfl (aR Z rfl rfl (bG j rfl rfl (aD (bK (v:=zB false) Z rfl rfl) (bG j rfl rfl (aO (v:=zB false) (aR (by decide:¬ false=true) rfl rfl (aR (by decide:¬ false=true) rfl rfl (aR (by decide:¬ false=true) rfl rfl (aR (by decide:¬ false=true) rfl rfl (aR (by decide:¬ false=true) rfl rfl (bG j rfl rfl (aD (bK (v:=zB false) (by decide:¬ false=true) rfl rfl) (aD (bK (v:=zB false) j rfl rfl) (aF (v:=zB false) (aG ⟨false,d,V,a5,a6,b6,a8,rfl,a9,(aI.arr 1 [] d0 rfl)⟩)))))))))))))))
        ·refine aJ e6 rfl (cA (aT (aT ?_)))
         have n4:=l5 _ (zI d).symm
         subst n4
         have c:(qT o y r a3)=some c3:=c
         exact bJ (aA ⟨a3,c,V,a5,a6,b6,a8,g4,b7⟩)
     ·refine aJ d9 rfl (cA (aT (aT ?_)))
      have n5:=k3 _ (zI c).symm
      subst n5
      have m:(wA o y)=some c0:=m
      exact bJ (aA ⟨o,y,m,c4,d7,c6,d8,a2⟩)
   ·refine aJ d6 rfl (cA (aT (aT ?_)))
    have n6:=i7 _ (zI m).symm
    subst n6
    have l:(qS a0)=some R:=l
    exact bJ (aA ⟨a0,l,f6,f7⟩)
 obtain ⟨q3,n7,l⟩:=aB l
 refine cE n7 (fun (s:(List Bool × Int)) f w=>match s with|(b0,b8)=>f 0=cU a1 k∧f 1=zS a10 p.length c11∧f 5=zS b b0.length a.length∧f 6=i64 b8∧aI G K (aK 4 K b a.length b0::L) w) ?_ ?_
 ·exact ⟨rfl,rfl,rfl,rfl,h7⟩
 ·rintro ⟨b0,b8⟩ n8 f q4 z n9 ⟨e7,g9,e8,e9,d4⟩
  replace z:iA t b0 b8=some n8:=z
  unfold iA at z
  refine aQ (aL (aN e9 (aN e7 (aD (cJ rfl q) (aD (bO (k':=k+0) gS rfl q rfl) (aD (bH (t:=0) cK d4 q rfl rfl) (aD (cL rfl rfl) (aG ?_))))))))
  rcases aH z with ⟨f0,z⟩|⟨f0,z⟩
  ·refine aM f0 rfl (bA (aA (aQ (cY (aP (aN e8 (aN e9 ?_)))))))
   obtain ⟨q5,f1,z⟩:=aB z
   have o0:=dA d4 (i:=0) rfl f1
   refine aD (dT fO rfl o0 rfl rfl rfl f1) ?_
   obtain ⟨h0,h1,z⟩:=aB z
   exact nG (i:=0) (t:=0) (ns:=[zB true]) (e':=(true:Bool)) sizeOf4 d4 rfl (zR _) rfl rfl rfl f1 h1 rfl rfl (dE rfl) rfl (fun cs h=>by cases h;rfl) (fun o1 (o2:aI G K (aK 4 K b a.length h0::L) o1)=>(aZ (bC (aA (aP (aN e9 (aD (cP rfl rfl) (aF (v:=i64 (wr (b8+1))) (aG ⟨(h0,wr (b8+1)),(zI z).symm,e7,g9,(Eq.trans e8 (congrArg (fun n=>zS b n a.length) (lE h1))),rfl,o2⟩)))))))))
  ·refine aJ f0 rfl (cA (aT (aT ?_)))
   have o3:=n9 _ (zI z).symm
   subst o3
   have l:(oX t p b0)=some R:=l
   exact bJ (aA ⟨b0,l,e7,g9,e8,d4⟩)
end Gv
