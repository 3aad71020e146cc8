/- Walks, printed by program. -/
import Derived.Test.YtkgakibhmcbflaaGreatDoorJLW
import Derived.Test.YtkgakibhmcbflaaGreatDoorJMd
set_option linter.all false
namespace Gv
open Go.Value renaming slice→zS,bool→zB,pointer→zP,agg→zA,tuple→zT
open Option.some renaming inj→zI
open Gv.Hp renaming le_refl→zR
open Go Go.Proofs
set_option maxRecDepth 20000
set_option maxHeartbeats 40000000
variable {G:Env} {K:Hp} {L:List nG} {w:World} {a1 a4 a7:Option Addr} {c2 c5 c8:Nat}
theorem aEv {d:(List bI)} {R:((List Int) × Bool)} (hs:aI G K (L) w) (hG:G.lo=0) (J:bX K a1 c2 d) (b:uQ d=some R):
  Calls Tryz.prog 123 ([zS a1 d.length c2]:List Value).toArray w (gQ fun v w'=>∃ (V:Option Addr) (Z:Nat),v=zT #[zS V R.1.length Z,zB R.2]∧aI G K (aR 2 K V Z R.1::L) w'):=by
 refine aS Tryz.func123 rfl (by kernel_rfl) (by show (1:Nat)≤28;decide) ?_
 unfold uQ at b
 refine aK (aF (v:=zS none 0 0) (aF (v:=zB false) (aG (aK (aF (v:=zS none 0 0) (aG (aO (aK (aL (v:=zS a1 d.length c2) (aD (bT (len:=d.length) dM rfl) (aL (v:=i64 0) (aG (aZ (fun f w=>∃ (g:List Int) (j:Option Addr) (k:Nat),tO g=some R∧f 4=zS j g.length k∧aI G K (aR 2 K j k g::L) w) ?_ ?_)))))))))))))
 ·rintro f w8 ⟨g,j,k,b,e7,b1⟩
  unfold tO at b
  refine aA (aK (aN e7 (aF (v:=zS j g.length k) (aF (v:=zB true) (aG ?_)))))
  obtain rfl:=zI b
  exact bK (sA Tryz.results123 rfl rfl ⟨j,k,rfl,b1⟩)
 have b3:=aI.nil (α:=Int) hs 2 K
 obtain ⟨d2,b4,b⟩:=aC b
 refine cC b4 (fun (s:(List Int × Int)) f w=>match s with|(e,l)=>∃ (m:Option Addr) (n:Nat),f 4=zS m e.length n∧f 9=zS a1 d.length c2∧f 10=i64 (d.length:Int)∧f 11=i64 l∧aI G K (aR 2 K m n e::L) w) ?_ ?_
 ·exact ⟨none,0,rfl,rfl,rfl,rfl,b3⟩
 ·rintro ⟨e,l⟩ b5 f d3 a a0 ⟨m,n,a2,a3,a4,o,p⟩
  replace a:mG d e l=some b5:=a
  unfold mG at a
  refine aK (aD (cT o a4) (aG (aO ?_)))
  rcases aH a with ⟨q,a⟩|⟨q,a⟩
  ·refine aM q rfl (aY (aA (aO (cI (aK ?_)))))
   obtain ⟨r,a6,a⟩:=aC a
   refine aD (cU dM rfl J a3 rfl o a6) ?_
   obtain ⟨d4,b6,b7⟩:=bX.el (sz:=1) rfl J a6
   cases b7
   refine aD (bG (t:=0) yF p b6 rfl rfl) (aF (v:=str r) (aG (aK (aL (v:=str r) ?_))))
   obtain ⟨c,b8,a⟩:=aC a
   refine aQ (vs:=[str r]) Tryz.call161 rfl (aGs p hG b8) ?_
   rintro _ d5 ⟨rfl,a7⟩
   refine aL (v:=zT #[i64 c.1,zB c.2]) (aD (cH rfl rfl) (aD (cH rfl rfl) (aF (v:=i64 c.1) (aF (v:=zB c.2) (aG (aO (aK (aL (v:=zB c.2) (aD (eR rfl) (aG ?_))))))))))
   rcases aH a with ⟨u,a⟩|⟨u,a⟩
   ·refine aM u rfl (aK (aF (v:=zS none 0 0) (aF (v:=zB false) (aG (bK (aX (bS (aX (aX ?_)))))))))
    have b9:=a0 _ (zI a).symm
    subst b9
    have b:(some ([],false))=some R:=b
    have c0:=aI.nil (α:=Int) a7 2 K
    obtain rfl:=zI b
    exact bS (aX (aX (sA Tryz.results123 rfl rfl ⟨none,0,rfl,(aI.arr 2 [0] c0 rfl)⟩)))
   ·refine aJ u rfl (aY (aA (aP (aN a2 (aL (v:=i64 c.1) (cJ (Kt:=K) (xs:=([c.1]:List Int)) (cs:=[i64 c.1]) (vs:=[(0,i64 c.1)]) bO jU rfl rfl a7 rfl (by kernel_rfl) rfl rfl rfl ⟨rfl,trivial⟩ (fun c3 c4 (c5:aI G K (aR 2 K c3 1 ([c.1]:List Int)::aR 2 K m n e::L) c4)=>?_)))))))
    obtain ⟨x,c7,a⟩:=aC a
    exact eK (i:=0) bO Tryz.underlying40 jU rfl rfl c5 rfl (zR _) (zR _) c7 rfl rfl rfl rfl (fun _ h=>h) (fun y z c8 (c9:aI G K (aR 2 K y z x::L) c8)=>(aF (v:=zS y x.length z) (bM (bA (aA (aP (aD (cK o rfl) (aL (v:=i64 (wr (l+1))) (aG ⟨(x,wr (l+1)),(zI a).symm,y,z,rfl,a3,a4,rfl,c9⟩)))))))))
  ·refine aJ q rfl (cA (aV (aV ?_)))
   have d0:=a0 _ (zI a).symm
   subst d0
   have b:(tO e)=some R:=b
   exact bN (aA ⟨e,m,n,b,a2,p⟩)
theorem aHj {c:UInt8} {R:Bool} (e:aI G K (L) w) (a:aDD c=some R):
  Calls Tryz.prog 211 ([Value.int .u8 (c.toNat:Int)]:List Value).toArray w (gQ fun v w'=>v=zB R∧aI G K (L) w'):=by
 refine aS Tryz.func211 rfl (by kernel_rfl) (by show (1:Nat)≤9;decide) ?_
 unfold aDD at a
 refine aK (aF (v:=zB false) (aG (aO (dO (fun f w=>∃ (d:Bool),aAG d=some R∧f 2=zB d∧aI G K (L) w) ?_ ?_))))
 ·rintro f k ⟨d,a,h,i⟩
  unfold aAG at a
  refine aA ?_
  obtain rfl:=zI a
  exact bK (bE Tryz.results211 rfl ⟨h,i⟩)
 refine aP (aL (v:=Value.int .u8 (c.toNat:Int)) (aD (uJ rfl rfl) (aL (v:=zB (decide (48≤(c.toNat:Int)))) ?_)))
 rcases aH a with ⟨b,a⟩|⟨b,a⟩
 ·exact bB b rfl rfl (aL (v:=Value.int .u8 (c.toNat:Int)) (bB b rfl rfl (aD (aGU rfl rfl) (aD (bF (v:=zB (decide ((c.toNat:Int)≤57))) b rfl rfl) (aF (v:=zB (decide ((c.toNat:Int)≤57))) (aG ⟨decide ((c.toNat:Int)≤57),a,rfl,e⟩))))))
 ·exact aU b rfl rfl (aU b rfl rfl (aD (bH (v:=zB false) b rfl rfl) (aF (v:=zB false) (aG ⟨false,a,rfl,e⟩))))
theorem aIj {c:bI} {R:Bool} (hs:aI G K (L) w) (b:aCV c=some R):
  Calls Tryz.prog 186 ([str c]:List Value).toArray w (gQ fun v w'=>v=zB R∧aI G K (L) w'):=by
 refine aS Tryz.func186 rfl (by kernel_rfl) (by show (1:Nat)≤42;decide) ?_
 unfold aCV at b
 refine aK (aF (v:=zB false) (aG (aO (aK (aL (v:=str c) (aD (xA Tryz.runUnderlying9 rfl) (aL (v:=i64 0) (aG (aZ (fun f w=>zZ c=some R∧f 0=str c∧aI G K (L) w) ?_ ?_)))))))))
 ·rintro f w2 ⟨b,e1,a1⟩
  unfold zZ at b
  refine aA (aO (dO (fun f w=>∃ (p:Bool),aBB p=some R∧f 2=zB p∧aI G K (L) w) ?_ ?_))
  ·rintro f w6 ⟨p,b,e5,a9⟩
   unfold aBB at b
   refine aA ?_
   obtain rfl:=zI b
   exact bK (bE Tryz.results186 rfl ⟨e5,a9⟩)
  refine aP (aN e1 (aD (xA Tryz.runUnderlying9 rfl) (aD (uJ rfl rfl) (aL (v:=zB (decide (1≤(c.length:Int)))) ?_))))
  rcases aH b with ⟨j,b⟩|⟨j,b⟩
  ·exact bB j rfl rfl (aN e1 (bB j rfl rfl (aD (xA Tryz.runUnderlying9 rfl) (bB j rfl rfl (aD (aGU rfl rfl) (aD (bF (v:=zB (decide ((c.length:Int)≤10))) j rfl rfl) (aF (v:=zB (decide ((c.length:Int)≤10))) (aG ⟨decide ((c.length:Int)≤10),b,rfl,a1⟩))))))))
  ·exact aU j rfl rfl (aU j rfl rfl (aU j rfl rfl (aD (bH (v:=zB false) j rfl rfl) (aF (v:=zB false) (aG ⟨false,b,rfl,a1⟩)))))
 obtain ⟨c5,b1,b⟩:=aC b
 refine cC b1 (fun (d:Int) f w=>f 0=str c∧f 6=i64 (c.length:Int)∧f 7=i64 d∧aI G K (L) w) ?_ ?_
 ·exact ⟨rfl,rfl,rfl,hs⟩
 ·rintro d q f c6 a a2 ⟨k,r,l,t⟩
  replace a:sO c d=some q:=a
  unfold sO at a
  refine aK (aD (cT l r) (aG (aO ?_)))
  rcases aH a with ⟨u,a⟩|⟨u,a⟩
  ·refine aM u rfl (aY (aA (aO (cI (aK (aN l (aF (v:=i64 d) (aG (aO (dO (fun f w=>∃ (m:Bool),qE c d m=some q∧f 0=str c∧f 3=i64 d∧f 4=zB m∧f 6=i64 (c.length:Int)∧f 7=i64 d∧aI G K (L) w) ?_ ?_))))))))))
   ·rintro f c7 ⟨m,a,n,a3,b2,x,y,z⟩
    unfold qE at a
    refine aA (aO (dO (fun f w=>∃ (J:Bool),wJ d J=some q∧f 0=str c∧f 6=i64 (c.length:Int)∧f 7=i64 d∧f 32=zB J∧aI G K (L) w) ?_ ?_))
    ·rintro f c8 ⟨J,a,b3,b4,b5,a4,a5⟩
     unfold wJ at a
     refine aA ?_
     rcases aH a with ⟨V,a⟩|⟨V,a⟩
     ·refine aM V a4 (aK (aF (v:=zB false) (aG (bK (bS (aX (aX ?_)))))))
      have b6:=a2 _ (zI a).symm
      subst b6
      have b:(some false)=some R:=b
      obtain rfl:=zI b
      exact bS (aX (aX (bE Tryz.results186 rfl ⟨rfl,a5⟩)))
     ·exact aJ V a4 (aY (bA (aA (aP (aD (cK b5 rfl) (aL (v:=i64 (wr (d+1))) (aG ⟨wr (d+1),(zI a).symm,b3,b4,rfl,a5⟩)))))))
    refine aP (aN b2 (aD (eR rfl) (aL (v:=zB (!m)) ?_)))
    rcases aH a with ⟨e,a⟩|⟨e,a⟩
    ·refine bB e rfl rfl (aN a3 (bB e rfl rfl (aD (lA rfl rfl) (bB e rfl rfl (aL (v:=zB (d == 0)) ?_)))))
     rcases aH a with ⟨h,a⟩|⟨h,a⟩
     ·exact aT h rfl rfl (aT h rfl rfl (aT h rfl rfl (aT h rfl rfl (aT h rfl rfl (bB e rfl rfl (aD (bF (v:=zB true) h rfl rfl) (aD (bF (v:=zB true) e rfl rfl) (aG ⟨true,a,n,x,y,rfl,z⟩))))))))
     ·refine bD h rfl rfl (aN n (bD h rfl rfl (aN a3 (bD h rfl rfl ?_))))
      obtain ⟨b8,b9,a⟩:=aC a
      refine aD (R_ixS Tryz.runUnderlying9 rfl rfl b9) (bD h rfl rfl ?_)
      obtain ⟨Z,c0,a⟩:=aC a
      refine aQ (vs:=[Value.int .u8 (b8.toNat:Int)]) Tryz.call211 rfl (aHj z c0) ?_
      rintro _ d0 ⟨rfl,c1⟩
      exact bD h rfl rfl (aD (eR rfl) (bB e rfl rfl (aD (bH (v:=zB (!Z)) h rfl rfl) (aD (bF (v:=zB (!Z)) e rfl rfl) (aG ⟨!Z,a,n,x,y,rfl,c1⟩)))))
    ·exact aU e rfl rfl (aU e rfl rfl (aU e rfl rfl (cE (g:=25) rfl rfl (cE (g:=25) rfl rfl (cE (g:=25) rfl rfl (cE (g:=25) rfl rfl (cE (g:=25) rfl rfl (aU e rfl rfl (aD (bH (v:=zB false) e rfl rfl) (aG ⟨false,a,n,x,y,rfl,z⟩))))))))))
   refine aP (aN k (aL (v:=i64 d) ?_))
   obtain ⟨o,a6,a⟩:=aC a
   refine aD (R_ixS Tryz.runUnderlying9 rfl rfl a6) (aD (uJ rfl rfl) (aL (v:=zB (decide (97≤(o.toNat:Int)))) ?_))
   rcases aH a with ⟨i,a⟩|⟨i,a⟩
   ·exact bB i rfl rfl (aN k (bB i rfl rfl (aL (v:=i64 d) (bB i rfl rfl (aD (R_ixS Tryz.runUnderlying9 rfl rfl a6) (bB i rfl rfl (aD (aGU rfl rfl) (aD (bF (v:=zB (decide ((o.toNat:Int)≤122))) i rfl rfl) (aF (v:=zB (decide ((o.toNat:Int)≤122))) (aG ⟨decide ((o.toNat:Int)≤122),a,k,rfl,rfl,r,l,t⟩))))))))))
   ·exact aU i rfl rfl (aU i rfl rfl (aU i rfl rfl (aU i rfl rfl (aD (bH (v:=zB false) i rfl rfl) (aF (v:=zB false) (aG ⟨false,a,k,rfl,rfl,r,l,t⟩))))))
  ·refine aJ u rfl (cA (aV (aV ?_)))
   have c2:=a2 _ (zI a).symm
   subst c2
   have b:(zZ c)=some R:=b
   exact bN (aA ⟨b,k,t⟩)
theorem aGt {b:bI} {R:Bool} (h:aI G K (L) w) (a:aBi b=some R):
  Calls Tryz.prog 164 ([str b]:List Value).toArray w (gQ fun v w'=>v=zB R∧aI G K (L) w'):=by
 refine aS Tryz.func164 rfl (by kernel_rfl) (by show (1:Nat)≤9;decide) ?_
 unfold aBi at a
 refine aK (aF (v:=zB false) (aG (aO (dO (fun f w=>∃ (d:Bool),uR d=some R∧f 2=zB d∧aI G K (L) w) ?_ ?_))))
 ·rintro f n ⟨d,a,i,j⟩
  unfold uR at a
  refine aA ?_
  obtain rfl:=zI a
  exact bK (bE Tryz.results164 rfl ⟨i,j⟩)
 refine aP (aL (v:=str b) ?_)
 obtain ⟨l,m,a⟩:=aC a
 refine aQ (vs:=[str b]) Tryz.call186 rfl (aIj h m) ?_
 rintro _ o ⟨rfl,e⟩
 refine aL (v:=zB l) ?_
 rcases aH a with ⟨c,a⟩|⟨c,a⟩
 ·exact bB c rfl rfl (aL (v:=str b) (bB c rfl rfl (aD (aJq rfl rfl) (aD (bF (v:=zB (!(b == ([116,97,117]:bI)))) c rfl rfl) (aF (v:=zB (!(b == ([116,97,117]:bI)))) (aG ⟨!(b == ([116,97,117]:bI)),a,rfl,e⟩))))))
 ·exact aU c rfl rfl (aU c rfl rfl (aD (bH (v:=zB false) c rfl rfl) (aF (v:=zB false) (aG ⟨false,a,rfl,e⟩))))
theorem rZ {n low c:Int} {R:Bool} (e:aI G K (L) w) (a:uS n low c=some R):
  Calls Tryz.prog 58 ([i64 n,i64 low,i64 c]:List Value).toArray w (gQ fun v w'=>v=zB R∧aI G K (L) w'):=by
 refine aS Tryz.func58 rfl (by kernel_rfl) (by show (3:Nat)≤15;decide) ?_
 unfold uS at a
 refine aK (aF (v:=zB false) (aG (aO (dO (fun f w=>∃ (d:Bool),aBC d=some R∧f 6=zB d∧aI G K (L) w) ?_ ?_))))
 ·rintro f k ⟨d,a,h,i⟩
  unfold aBC at a
  refine aA ?_
  obtain rfl:=zI a
  exact bK (bE Tryz.results58 rfl ⟨h,i⟩)
 refine aP (aL (v:=i64 n) (aL (v:=i64 low) (aD (uJ rfl rfl) (aL (v:=zB (decide (low≤n))) ?_))))
 rcases aH a with ⟨b,a⟩|⟨b,a⟩
 ·exact bB b rfl rfl (aL (v:=i64 n) (bB b rfl rfl (aL (v:=i64 c) (bB b rfl rfl (aD (aGU rfl rfl) (aD (bF (v:=zB (decide (n≤c))) b rfl rfl) (aF (v:=zB (decide (n≤c))) (aG ⟨decide (n≤c),a,rfl,e⟩))))))))
 ·exact aU b rfl rfl (aU b rfl rfl (aU b rfl rfl (aD (bH (v:=zB false) b rfl rfl) (aF (v:=zB false) (aG ⟨false,a,rfl,e⟩)))))
theorem aHk {n:Int} {R:Bool} (b:aI G K (L) w) (a:aDE n=some R):
  Calls Tryz.prog 188 ([i64 n]:List Value).toArray w (gQ fun v w'=>v=zB R∧aI G K (L) w'):=by
 refine aS Tryz.func188 rfl (by kernel_rfl) (by show (1:Nat)≤5;decide) ?_
 unfold aDE at a
 refine aK (aF (v:=zB false) (aG (aK (aL (v:=i64 n) ?_))))
 obtain ⟨c,d,a⟩:=aC a
 refine aQ (vs:=[i64 n,i64 0,i64 63]) Tryz.call58 rfl (rZ b d) ?_
 rintro _ h ⟨rfl,e⟩
 refine aF (v:=zB c) (aG ?_)
 obtain rfl:=zI a
 exact bK (bE Tryz.results188 rfl ⟨rfl,e⟩)
theorem aDQ {n:Int} {R:Bool} (b:aI G K (L) w) (a:xB n=some R):
  Calls Tryz.prog 187 ([i64 n]:List Value).toArray w (gQ fun v w'=>v=zB R∧aI G K (L) w'):=by
 refine aS Tryz.func187 rfl (by kernel_rfl) (by show (1:Nat)≤6;decide) ?_
 unfold xB at a
 refine aK (aF (v:=zB false) (aG (aK (aL (v:=i64 n) ?_))))
 obtain ⟨c,d,a⟩:=aC a
 refine aQ (vs:=[i64 n]) Tryz.call188 rfl (aHk b d) ?_
 rintro _ h ⟨rfl,e⟩
 refine aD (eR rfl) (aF (v:=zB (!c)) (aG ?_))
 obtain rfl:=zI a
 exact bK (bE Tryz.results187 rfl ⟨rfl,e⟩)
theorem tH {d:(List Int)} {R:Int} (r:aI G K (L) w) (j:bX K a1 c2 d) (b:gS d=some R):
  Calls Tryz.prog 127 ([zS a1 d.length c2,Value.func (.func 187) #[] #[]]:List Value).toArray w (gQ fun v w'=>v=i64 R∧aI G K (L) w'):=by
 refine aS Tryz.func127 rfl (by kernel_rfl) (by show (2:Nat)≤19;decide) ?_
 unfold gS at b
 refine aK (aF (v:=i64 0) (aG (aO (aK (aL (v:=zS a1 d.length c2) (aD (bT (len:=d.length) bO rfl) (aL (v:=i64 0) (aG (aZ (fun f w=>fU=some R∧aI G K (L) w) ?_ ?_)))))))))
 ·rintro f w4 ⟨b,u⟩
  unfold fU at b
  refine aA (aK (aF (v:=i64 (-1)) (aG ?_)))
  obtain rfl:=zI b
  exact bK (bE Tryz.results127 rfl ⟨rfl,u⟩)
 obtain ⟨a5,y,b⟩:=aC b
 refine cC y (fun (c:Int) f w=>f 0=zS a1 d.length c2∧f 1=Value.func (.func 187) #[] #[]∧f 7=i64 (d.length:Int)∧f 8=i64 c∧aI G K (L) w) ?_ ?_
 ·exact ⟨rfl,rfl,rfl,rfl,r⟩
 ·rintro c z f a6 a k ⟨l,m,n,e,g⟩
  replace a:dR d c=some z:=a
  unfold dR at a
  refine aK (aD (cT e n) (aG (aO ?_)))
  rcases aH a with ⟨h,a⟩|⟨h,a⟩
  ·refine aM h rfl (aY (aA (aO (cI (aK (aN e (aF (v:=i64 c) (aG (aK (aN m (aN l (aL (v:=i64 c) ?_))))))))))))
   obtain ⟨o,p,a⟩:=aC a
   refine aD (cU bO rfl j rfl rfl rfl p) ?_
   obtain ⟨a7,J,V⟩:=bX.el (sz:=1) rfl j p
   cases V
   refine aD (bG (t:=0) bY g J rfl rfl) ?_
   obtain ⟨a8,Z,a⟩:=aC a
   refine mS (vs:=[i64 o]) (caps:=[]) (us:=[i64 o]) rfl Tryz.call187 rfl rfl (aDQ g Z) ?_
   rintro _ a9 ⟨rfl,q⟩
   refine aG ?_
   rcases aH a with ⟨i,a⟩|⟨i,a⟩
   ·refine aM i rfl (aK (aL (v:=i64 c) (aF (v:=i64 c) (aG (bK (bS (aX (aX ?_))))))))
    have a0:=k _ (zI a).symm
    subst a0
    have b:(some c)=some R:=b
    obtain rfl:=zI b
    exact bS (aX (aX (bE Tryz.results127 rfl ⟨rfl,q⟩)))
   ·exact aJ i rfl (aY (bA (aA (aP (aD (cK e rfl) (aL (v:=i64 (wr (c+1))) (aG ⟨wr (c+1),(zI a).symm,l,m,n,rfl,q⟩)))))))
  ·refine aJ h rfl (cA (aV (aV ?_)))
   have a3:=k _ (zI a).symm
   subst a3
   have b:(fU)=some R:=b
   exact bN (aA ⟨b,g⟩)
theorem rH {a:(List Int)} {R:Bool} (c:aI G K (L) w) (d:bX K a1 c2 a) (b:fV a=some R):
  Calls Tryz.prog 94 ([zS a1 a.length c2,Value.func (.func 187) #[] #[]]:List Value).toArray w (gQ fun v w'=>v=zB R∧aI G K (L) w'):=by
 refine aS Tryz.func94 rfl (by kernel_rfl) (by show (2:Nat)≤9;decide) ?_
 unfold fV at b
 refine aK (aF (v:=zB false) (aG (aK (aL (v:=zS a1 a.length c2) (aL (v:=Value.func (.func 187) #[] #[]) ?_)))))
 obtain ⟨e,g,b⟩:=aC b
 refine aQ (vs:=[zS a1 a.length c2,Value.func (.func 187) #[] #[]]) Tryz.call127 rfl (tH c d g) ?_
 rintro _ j ⟨rfl,h⟩
 refine aD (uJ rfl rfl) (aF (v:=zB (decide (0≤e))) (aG ?_))
 obtain rfl:=zI b
 exact bK (bE Tryz.results94 rfl ⟨rfl,h⟩)
theorem aFO {a:(List Int)} {R:Bool} (c:aI G K (L) w) (d:bX K a1 c2 a) (b:aAa a=some R):
  Calls Tryz.prog 165 ([zS a1 a.length c2]:List Value).toArray w (gQ fun v w'=>v=zB R∧aI G K (L) w'):=by
 refine aS Tryz.func165 rfl (by kernel_rfl) (by show (1:Nat)≤6;decide) ?_
 unfold aAa at b
 refine aK (aF (v:=zB false) (aG (aK (aL (v:=zS a1 a.length c2) ?_))))
 obtain ⟨e,g,b⟩:=aC b
 refine aQ (vs:=[zS a1 a.length c2,Value.func (.func 187) #[] #[]]) Tryz.call94 rfl (rH c d g) ?_
 rintro _ j ⟨rfl,h⟩
 refine aD (eR rfl) (aF (v:=zB (!e)) (aG ?_))
 obtain rfl:=zI b
 exact bK (bE Tryz.results165 rfl ⟨rfl,h⟩)
theorem aIk {d:(List Int)} {j R:bI} (hs:aI G K (L) w) (hG:G.lo=0) (y:bX K a1 c2 d) (b:aCW d j=some R):
  Calls Tryz.prog 166 ([zS a1 d.length c2,str j]:List Value).toArray w (gQ fun v w'=>v=str R∧aI G K (L) w'):=by
 refine aS Tryz.func166 rfl (by kernel_rfl) (by show (2:Nat)≤27;decide) ?_
 unfold aCW at b
 refine aK (aF (v:=str ([]:bI)) (aG (aK (aL (v:=zS a1 d.length c2) (aD (bT (len:=d.length) bO rfl) ?_)))))
 obtain ⟨c,q5,b⟩:=aC b
 refine aDY (e:=([]:bI)) dM aBx rfl rfl hs rfl rfl rfl q5 rfl (fun g w7 (b0:aI G K (aR 9 K g c.length c::L) w7)=>(aF (v:=zS g c.length c.length) (aG (aO (aK (aL (v:=zS a1 d.length c2) (aD (bT (len:=d.length) bO rfl) (aL (v:=i64 0) (aG (aZ (fun f w=>∃ (m:List bI),aAb j m=some R∧f 1=str j∧f 5=zS g m.length c.length∧aI G K (aR 9 K g c.length m::L) w) ?_ ?_))))))))))
 ·rintro f d3 ⟨m,b,b1,b2,b3⟩
  unfold aAb at b
  refine aA (aK (aN b2 (aN b1 ?_)))
  obtain ⟨d4,d5,b4,b5,b6⟩:=aI.lendS (i:=0) b3 (zR _) rfl
  obtain ⟨b7,b8,b⟩:=aC b
  refine aQ (vs:=[zS g m.length c.length,str j]) Tryz.call189 rfl (lib_Join b5 hG b4 b8) ?_
  rintro _ d6 ⟨rfl,b9⟩
  have c0:=b6 _ _ b9
  refine aF (v:=str b7) (aG ?_)
  obtain rfl:=zI b
  exact bK (bE Tryz.results166 rfl ⟨rfl,(aI.arr 1 [] c0 rfl)⟩)
 obtain ⟨d7,c3,b⟩:=aC b
 refine cC c3 (fun (s:(List bI × Int)) f w=>match s with|(l,k)=>f 1=str j∧f 5=zS g l.length c.length∧f 11=zS a1 d.length c2∧f 12=i64 (d.length:Int)∧f 13=i64 k∧aI G K (aR 9 K g c.length l::L) w) ?_ ?_
 ·exact ⟨rfl,rfl,rfl,rfl,rfl,b0⟩
 ·rintro ⟨l,k⟩ c4 f d8 a c5 ⟨z,p,J,V,o,q⟩
  replace a:wK d l k=some c4:=a
  unfold wK at a
  refine aK (aD (cT o V) (aG (aO ?_)))
  rcases aH a with ⟨r,a⟩|⟨r,a⟩
  ·refine aM r rfl (aY (aA (aO (cI (aK (aN o ?_))))))
   obtain ⟨u,Z,a⟩:=aC a
   refine aD (cU bO rfl y J rfl o Z) ?_
   obtain ⟨d9,c6,c7⟩:=bX.el (sz:=1) rfl y Z
   cases c7
   refine aD (bG (t:=0) bY q c6 rfl rfl) (aF (v:=i64 k) (aF (v:=i64 u) (aG (aP (aN p (aL (v:=i64 k) (aL (v:=i64 u) ?_)))))))
   obtain ⟨a0,c8,a⟩:=aC a
   refine aQ (vs:=[i64 u]) Tryz.call181 rfl (aKG q c8) ?_
   rintro _ e0 ⟨rfl,a2⟩
   obtain ⟨e1,x,a⟩:=aC a
   have c9:=dZ a2 (i:=0) rfl x
   refine aD (eM dM rfl c9 rfl rfl rfl x) ?_
   obtain ⟨a3,a4,a⟩:=aC a
   exact sM (i:=0) (t:=0) (ns:=[str a0]) (e':=(a0:bI)) Tryz.sizeOf9 a2 rfl (zR _) rfl rfl rfl x a4 rfl rfl (fO rfl) rfl (fun cs h=>by cases h;rfl) (fun d0 (d1:aI G K (aR 9 K g c.length a3::L) d0)=>(bM (bA (aA (aP (aD (cK o rfl) (aL (v:=i64 (wr (k+1))) (aG ⟨(a3,wr (k+1)),(zI a).symm,z,(Eq.trans p (congrArg (fun n=>zS g n c.length) (oY a4))),J,V,rfl,d1⟩))))))))
  ·refine aJ r rfl (cA (aV (aV ?_)))
   have d2:=c5 _ (zI a).symm
   subst d2
   have b:(aAb j l)=some R:=b
   exact bN (aA ⟨l,b,z,p,q⟩)
theorem aHl {c:bI} {b:(List Int)} {R:(bI × Bool)} (o:aI G K (L) w) (u:G.lo=0) (p:bX K a1 c2 b) (a:aCc c b=some R):
  Calls Tryz.prog 126 ([str c,zS a1 b.length c2]:List Value).toArray w (gQ fun v w'=>v=zT #[str R.1,zB R.2]∧aI G K (L) w'):=by
 refine aS Tryz.func126 rfl (by kernel_rfl) (by show (2:Nat)≤37;decide) ?_
 unfold aCc at a
 refine aK (aF (v:=str ([]:bI)) (aF (v:=zB false) (aG (aO (cI (aK (aL (v:=str c) (aD (aBd rfl rfl) (aF (v:=zB (c == ([116,97,117]:bI))) (aG ?_))))))))))
 rcases aH a with ⟨h,a⟩|⟨h,a⟩
 ·refine aM h rfl (aK (aL (v:=zS a1 b.length c2) (aD (bT (len:=b.length) bO rfl) (aD (lA rfl rfl) (aF (v:=str ([116,97,117]:bI)) (aF (v:=zB ((b.length:Int) == 0)) (aG ?_)))))))
  obtain rfl:=zI a
  exact bK (bS (aX (sA Tryz.results126 rfl rfl ⟨rfl,o⟩)))
 ·refine aJ h rfl (aO (dO (fun f w=>∃ (i:Bool),tP c b i=some R∧f 0=str c∧f 1=zS a1 b.length c2∧f 12=zB i∧aI G K (L) w) ?_ ?_))
  ·rintro f a9 ⟨i,a,q,r,t,j⟩
   unfold tP at a
   refine aA ?_
   rcases aH a with ⟨k,a⟩|⟨k,a⟩
   ·refine aM k t (aK (aF (v:=str ([]:bI)) (aF (v:=zB false) (aG ?_))))
    obtain rfl:=zI a
    exact bK (bS (aX (sA Tryz.results126 rfl rfl ⟨rfl,j⟩)))
   ·refine aJ k t (aK (aN r (aD (bT (len:=b.length) bO rfl) (aD (lA rfl rfl) (aF (v:=zB ((b.length:Int) == 0)) (aG ?_))))))
    rcases aH a with ⟨l,a⟩|⟨l,a⟩
    ·refine aM l rfl (aK (aN q (aF (v:=str c) (aF (v:=zB true) (aG ?_)))))
     obtain rfl:=zI a
     exact bK (bS (aX (sA Tryz.results126 rfl rfl ⟨rfl,j⟩)))
    ·refine aJ l rfl (aY (bA (aA (aK (aN q ?_)))))
     obtain ⟨b0,J,a⟩:=aC a
     refine aD (R_cat rfl rfl J) (aN r ?_)
     obtain ⟨b1,V,a⟩:=aC a
     refine aQ (vs:=[zS a1 b.length c2,str ([44]:bI)]) Tryz.call166 rfl (aIk j u p V) ?_
     rintro _ b2 ⟨rfl,Z⟩
     obtain ⟨b3,a0,a⟩:=aC a
     refine aD (R_cat rfl rfl a0) ?_
     obtain ⟨a2,a3,a⟩:=aC a
     refine aD (R_cat rfl rfl a3) (aF (v:=str a2) (aF (v:=zB true) (aG ?_)))
     obtain rfl:=zI a
     exact bK (sA Tryz.results126 rfl rfl ⟨rfl,Z⟩)
  refine aP (aL (v:=str c) ?_)
  obtain ⟨a5,a6,a⟩:=aC a
  refine aQ (vs:=[str c]) Tryz.call164 rfl (aGt o a6) ?_
  rintro _ b4 ⟨rfl,m⟩
  refine aD (eR rfl) (aL (v:=zB (!a5)) ?_)
  rcases aH a with ⟨d,a⟩|⟨d,a⟩
  ·exact aT d rfl rfl (aT d rfl rfl (aT d rfl rfl (aD (bF (v:=zB true) d rfl rfl) (aL (v:=zB true) (aT (rfl:true=true) rfl rfl (aT (rfl:true=true) rfl rfl (aT (rfl:true=true) rfl rfl (aD (bF (v:=zB true) (rfl:true=true) rfl rfl) (aF (v:=zB true) (aG ⟨true,a,rfl,rfl,rfl,m⟩))))))))))
  ·refine bD d rfl rfl (aL (v:=zS a1 b.length c2) (bD d rfl rfl (aD (bT (len:=b.length) bO rfl) (bD d rfl rfl (aD (sL rfl rfl) (aD (bH (v:=zB (decide (2 < (b.length:Int)))) d rfl rfl) (aL (v:=zB (decide (2 < (b.length:Int)))) ?_)))))))
   rcases aH a with ⟨e,a⟩|⟨e,a⟩
   ·exact aT e rfl rfl (aT e rfl rfl (aT e rfl rfl (aD (bF (v:=zB true) e rfl rfl) (aF (v:=zB true) (aG ⟨true,a,rfl,rfl,rfl,m⟩)))))
   ·refine bD e rfl rfl (aL (v:=zS a1 b.length c2) (bD e rfl rfl ?_))
    obtain ⟨n,a7,a⟩:=aC a
    refine aQ (vs:=[zS a1 b.length c2]) Tryz.call165 rfl (aFO m p a7) ?_
    rintro _ b5 ⟨rfl,a8⟩
    exact bD e rfl rfl (aD (eR rfl) (aD (bH (v:=zB (!n)) e rfl rfl) (aF (v:=zB (!n)) (aG ⟨!n,a,rfl,rfl,rfl,a8⟩))))
theorem uF {d c:bI} {R:Bool} (i:aI G K (L) w) (b:gW d c=some R):
  Calls Tryz.prog 185 ([str d,str c]:List Value).toArray w (gQ fun v w'=>v=zB R∧aI G K (L) w'):=by
 refine aS Tryz.func185 rfl (by kernel_rfl) (by show (2:Nat)≤21;decide) ?_
 unfold gW at b
 refine aK (aF (v:=zB false) (aG (aO (dO (fun f w=>∃ (e:Bool),fA e=some R∧f 4=zB e∧aI G K (L) w) ?_ ?_))))
 ·rintro f n ⟨e,b,j,k⟩
  unfold fA at b
  refine aA ?_
  obtain rfl:=zI b
  exact bK (bE Tryz.results185 rfl ⟨j,k⟩)
 refine aP (aL (v:=str d) (aD (xA Tryz.runUnderlying9 rfl) (aL (v:=str c) (aD (xA Tryz.runUnderlying9 rfl) (aD (uJ rfl rfl) (aL (v:=zB (decide ((c.length:Int)≤(d.length:Int)))) ?_))))))
 rcases aH b with ⟨a,b⟩|⟨a,b⟩
 ·refine bB a rfl rfl (aL (v:=str d) (bB a rfl rfl (aL (v:=str d) (bB a rfl rfl (aD (xA Tryz.runUnderlying9 rfl) (bB a rfl rfl (aL (v:=str c) (bB a rfl rfl (aD (xA Tryz.runUnderlying9 rfl) (bB a rfl rfl (aD (nI rfl rfl) (bB a rfl rfl ?_))))))))))))
  obtain ⟨h,m,b⟩:=aC b
  exact aD (R_slSL Tryz.runUnderlying9 rfl rfl m) (bB a rfl rfl (aL (v:=str c) (bB a rfl rfl (aD (aBd rfl rfl) (aD (bF (v:=zB (h == c)) a rfl rfl) (aF (v:=zB (h == c)) (aG ⟨h == c,b,rfl,i⟩)))))))
 ·exact aU a rfl rfl (aU a rfl rfl (aU a rfl rfl (aU a rfl rfl (aU a rfl rfl (aU a rfl rfl (aU a rfl rfl (aU a rfl rfl (aU a rfl rfl (aD (bH (v:=zB false) a rfl rfl) (aF (v:=zB false) (aG ⟨false,b,rfl,i⟩)))))))))))
theorem tI {b c R:bI} (g:aI G K (L) w) (a:gT b c=some R):
  Calls Tryz.prog 163 ([str b,str c]:List Value).toArray w (gQ fun v w'=>v=str R∧aI G K (L) w'):=by
 refine aS Tryz.func163 rfl (by kernel_rfl) (by show (2:Nat)≤16;decide) ?_
 unfold gT at a
 refine aK (aF (v:=str ([]:bI)) (aG (aO (aK (aL (v:=str b) (aL (v:=str c) ?_))))))
 obtain ⟨m,h,a⟩:=aC a
 refine aQ (vs:=[str b,str c]) Tryz.call185 rfl (uF g h) ?_
 rintro _ n ⟨rfl,e⟩
 refine aG ?_
 rcases aH a with ⟨d,a⟩|⟨d,a⟩
 ·refine aM d rfl (aK (aL (v:=str b) (aL (v:=str b) (aD (xA Tryz.runUnderlying9 rfl) (aL (v:=str c) (aD (xA Tryz.runUnderlying9 rfl) (aD (nI rfl rfl) ?_)))))))
  obtain ⟨i,j,a⟩:=aC a
  refine aD (R_slSH Tryz.runUnderlying9 rfl rfl j) (aF (v:=str i) (aG ?_))
  obtain rfl:=zI a
  exact bK (aX (bE Tryz.results163 rfl ⟨rfl,e⟩))
 ·refine aJ d rfl (aY (aA (aK (aL (v:=str b) (aF (v:=str b) (aG ?_))))))
  obtain rfl:=zI a
  exact bK (bE Tryz.results163 rfl ⟨rfl,e⟩)
theorem aBy {a b R:bI} (d:aI G K (L) w) (c:lC a b=some R):
  Calls Tryz.prog 125 ([str a,str b]:List Value).toArray w (gQ fun v w'=>v=str R∧aI G K (L) w'):=by
 refine aS Tryz.func125 rfl (by kernel_rfl) (by show (2:Nat)≤8;decide) ?_
 unfold lC at c
 refine aK (aF (v:=str ([]:bI)) (aG (aK (aL (v:=str a) (aL (v:=str b) ?_)))))
 obtain ⟨e,g,c⟩:=aC c
 refine aQ (vs:=[str a,str b]) Tryz.call163 rfl (tI d g) ?_
 rintro _ j ⟨rfl,h⟩
 refine aF (v:=str e) (aG ?_)
 obtain rfl:=zI c
 exact bK (bE Tryz.results125 rfl ⟨rfl,h⟩)
theorem aFP {h:bI} {R:(bI × (List Int) × Bool)} (hs:aI G K (L) w) (x:G.lo=0) (a:aBD h=some R):
  Calls Tryz.prog 92 ([str h]:List Value).toArray w (gQ fun v w'=>∃ (y:Option Addr) (z:Nat),v=zT #[str R.1,zS y R.2.1.length z,zB R.2.2]∧aI G K (aR 2 K y z R.2.1::L) w'):=by
 refine aS Tryz.func92 rfl (by kernel_rfl) (by show (1:Nat)≤43;decide) ?_
 unfold aBD at a
 refine aK (aF (v:=str ([]:bI)) (aF (v:=zS none 0 0) (aF (v:=zB false) (aG (aK (aL (v:=str h) ?_))))))
 obtain ⟨b,q2,a⟩:=aC a
 refine aQ (vs:=[str h,str ([40]:bI)]) Tryz.call122 rfl (lib_Cut hs q2) ?_
 rintro _ w3 ⟨rfl,J⟩
 refine aL (v:=zT #[str b.1,str b.2.1,zB b.2.2]) (aD (cH rfl rfl) (aD (cH rfl rfl) (aD (cH rfl rfl) (aF (v:=str b.1) (aF (v:=str b.2.1) (aF (v:=zB b.2.2) (aG (aK (aF (v:=zS none 0 0) (aG (lV (fun f w=>∃ (c:List Int) (j:Option Addr) (k:Nat),pD h b c=some R∧f 0=str h∧f 5=str b.1∧f 8=zS j c.length k∧aI G K (aR 2 K j k c::L) w) ?_ ?_)))))))))))
 ·rintro f d5 ⟨c,j,k,a,e8,m,n,a5⟩
  unfold pD at a
  refine aO (aK (aN m (aN n ?_)))
  obtain ⟨d6,d7,a7,a8,a9⟩:=aI.lendS (i:=0) a5 (zR _) rfl
  obtain ⟨d,b0,a⟩:=aC a
  refine aQ (vs:=[str b.1,zS j c.length k]) Tryz.call126 rfl (aHl a8 x a7 b0) ?_
  rintro _ d8 ⟨rfl,b1⟩
  have V:=a9 _ _ b1
  refine aL (v:=zT #[str d.1,zB d.2]) (aD (cH rfl rfl) (aD (cH rfl rfl) (aF (v:=str d.1) (aF (v:=zB d.2) (aG (aO (dO (fun f w=>∃ (o:Bool),pC b c o=some R∧f 5=str b.1∧f 8=zS j c.length k∧f 40=zB o∧aI G K (aR 2 K j k c::L) w) ?_ ?_)))))))
  ·rintro f d9 ⟨o,a,b2,b3,Z,a0⟩
   unfold pC at a
   refine aA ?_
   rcases aH a with ⟨p,a⟩|⟨p,a⟩
   ·refine aM p Z (aK (aF (v:=str ([]:bI)) (aF (v:=zS none 0 0) (aF (v:=zB false) (aG ?_)))))
    have b4:=aI.nil (α:=Int) a0 2 K
    obtain rfl:=zI a
    exact bK (aX (retQ_3 Tryz.results92 rfl rfl rfl ⟨none,0,rfl,(aI.arr 2 [0] b4 rfl)⟩))
   ·refine aJ p Z (aY (aA (aK (aN b2 (aN b3 (aF (v:=str b.1) (aF (v:=zS j c.length k) (aF (v:=zB true) (aG ?_)))))))))
    obtain rfl:=zI a
    exact bK (retQ_3 Tryz.results92 rfl rfl rfl ⟨j,k,rfl,a0⟩)
  refine aP (aL (v:=zB d.2) (aD (eR rfl) (aL (v:=zB (!d.2)) ?_)))
  rcases aH a with ⟨e,a⟩|⟨e,a⟩
  ·exact aT e rfl rfl (aT e rfl rfl (aT e rfl rfl (aD (bF (v:=zB true) e rfl rfl) (aG ⟨true,a,m,n,rfl,V⟩))))
  ·exact bD e rfl rfl (aL (v:=str d.1) (bD e rfl rfl (aN e8 (bD e rfl rfl (aD (aJq rfl rfl) (aD (bH (v:=zB (!(d.1 == h))) e rfl rfl) (aG ⟨!(d.1 == h),a,m,n,rfl,V⟩)))))))
 refine aK (aL (v:=zB b.2.2) (aG ?_))
 rcases aH a with ⟨q,a⟩|⟨q,a⟩
 ·refine aM q rfl (aK (aF (v:=zB false) (aG (aK (aL (v:=str b.2.1) ?_)))))
  obtain ⟨b7,b8,a⟩:=aC a
  refine aQ (vs:=[str b.2.1,str ([41]:bI)]) Tryz.call125 rfl (aBy J b8) ?_
  rintro _ e0 ⟨rfl,b9⟩
  obtain ⟨c0,c1,a⟩:=aC a
  refine aQ (vs:=[str b7,str ([44]:bI)]) Tryz.call124 rfl (lib_Split b9 c1) ?_
  rintro _ e1 ⟨c2,c3,rfl,c4⟩
  obtain ⟨e2,e3,c5,c6,c8⟩:=aI.lendS (i:=0) c4 (zR _) rfl
  obtain ⟨l,c9,a⟩:=aC a
  refine aQ (vs:=[zS c2 c0.length c3]) Tryz.call123 rfl (aEv c6 x c5 c9) ?_
  rintro _ e4 ⟨r,t,rfl,d0⟩
  have a1:=c8 _ _ d0
  refine aL (v:=zT #[zS r l.1.length t,zB l.2]) (aD (cH rfl rfl) (aD (cH rfl rfl) (aF (v:=zS r l.1.length t) (aF (v:=zB l.2) (aG (aK (aL (v:=zB l.2) (aD (eR rfl) (aG ?_)))))))))
  rcases aH a with ⟨u,a⟩|⟨u,a⟩
  ·refine aM u rfl (aK (aF (v:=str ([]:bI)) (aF (v:=zS none 0 0) (aF (v:=zB false) (aG ?_)))))
   have d1:=aI.nil (α:=Int) a1 2 K
   obtain rfl:=zI a
   exact bK (aX (retQ_3 Tryz.results92 rfl rfl rfl ⟨none,0,rfl,(aI.arr 3 [0] d1 rfl)⟩))
  ·exact aJ u rfl (aY (aA ⟨l.1,r,t,a,rfl,rfl,rfl,(aI.arr 1 [] a1 rfl)⟩))
 ·refine aJ q rfl ?_
  have d3:=aI.nil (α:=Int) J 2 K
  exact aY (aA ⟨[],none,0,a,rfl,rfl,rfl,d3⟩)
theorem aHm {b:bI} {R:Bool} (g:aI G K (L) w) (h:G.lo=0) (c:aCd b=some R):
  Calls Tryz.prog 60 ([str b]:List Value).toArray w (gQ fun v w'=>v=zB R∧aI G K (L) w'):=by
 refine aS Tryz.func60 rfl (by kernel_rfl) (by show (1:Nat)≤13;decide) ?_
 unfold aCd at c
 refine aK (aF (v:=zB false) (aG (aK (aL (v:=str b) ?_))))
 obtain ⟨a,i,c⟩:=aC c
 refine aQ (vs:=[str b]) Tryz.call92 rfl (aFP g h i) ?_
 rintro _ l ⟨d,e,rfl,j⟩
 refine aL (v:=zT #[str a.1,zS d a.2.1.length e,zB a.2.2]) (aD (cH rfl rfl) (aD (cH rfl rfl) (aD (cH rfl rfl) (aF (v:=str a.1) (aF (v:=zS d a.2.1.length e) (aF (v:=zB a.2.2) (aG (aK (aL (v:=zB a.2.2) (aF (v:=zB a.2.2) (aG ?_)))))))))))
 obtain rfl:=zI c
 exact bK (bE Tryz.results60 rfl ⟨rfl,(aI.arr 1 [] j rfl)⟩)
theorem aIl {d c:(List UInt8)} {R:Bool} (h:aI G K (L) w) (l:bX K a1 c2 d) (m:bX K a4 c5 c) (a:aCX d c=some R):
  Calls Tryz.prog 4 ([zS a1 d.length c2,zS a4 c.length c5]:List Value).toArray w (gQ fun v w'=>v=zB R∧aI G K (L) w'):=by
 refine aS Tryz.func4 rfl (by kernel_rfl) (by show (2:Nat)≤13;decide) ?_
 unfold aCX at a
 refine aK (aF (v:=zB false) (aG (aO (dO (fun f w=>∃ (e:Bool),aAc e=some R∧f 4=zB e∧aI G K (L) w) ?_ ?_))))
 ·rintro f n ⟨e,a,i,j⟩
  unfold aAc at a
  refine aA ?_
  obtain rfl:=zI a
  exact bK (bE Tryz.results4 rfl ⟨i,j⟩)
 refine aP (aL (v:=zS a1 d.length c2) (aD (bT (len:=d.length) aHf rfl) (aD (sL rfl rfl) (aL (v:=zB (decide (1048576 < (d.length:Int)))) ?_))))
 rcases aH a with ⟨b,a⟩|⟨b,a⟩
 ·exact aT b rfl rfl (aT b rfl rfl (aT b rfl rfl (aD (bF (v:=zB true) b rfl rfl) (aF (v:=zB true) (aG ⟨true,a,rfl,h⟩)))))
 ·exact bD b rfl rfl (aL (v:=zS a4 c.length c5) (bD b rfl rfl (aD (bT (len:=c.length) aHf rfl) (bD b rfl rfl (aD (sL rfl rfl) (aD (bH (v:=zB (decide (1048576 < (c.length:Int)))) b rfl rfl) (aF (v:=zB (decide (1048576 < (c.length:Int)))) (aG ⟨decide (1048576 < (c.length:Int)),a,rfl,h⟩))))))))
theorem aDf {a:(List UInt8)} {R:(Int × Int)} (g:aI G K (L) w) (j:bX K a1 c2 a) (b:aAW a=some R):
  Calls Tryz.prog 13 ([zS a1 a.length c2]:List Value).toArray w (gQ fun v w'=>∃ (c:Nat),v=zP (some ⟨c,0,none⟩)∧aI G K (box c 79 [zS a1 a.length c2,i64 R.1,Value.int .u64 R.2]::L) w'):=by
 let d:=[zS a1 a.length c2,i64 0,Value.int .u64 0]
 refine aS Tryz.func13 rfl (by kernel_rfl) (by show (1:Nat)≤6;decide) ?_
 unfold aAW at b
 refine aK (aF (v:=zP none) (aG (aK (aL (v:=zS a1 a.length c2) (aD (nH (vs:=[(0,zS a1 a.length c2)]) (cs:=d) bs_79 rfl (by kernel_rfl)) (eA (v:=zA #[zS a1 a.length c2,i64 0,Value.int .u64 0]) (vs:=d) g rfl rfl (fun e k h=>(aF (v:=zP (some ⟨e,0,none⟩)) (aG ?_)))))))))
 obtain rfl:=zI b
 exact bK (bE Tryz.results13 rfl ⟨e,rfl,h⟩)
theorem aDg {d:(List bI)} {e:bI} {R:Int} (p:aI G K (L) w) (l:bX K a1 c2 d) (b:yL d e=some R):
  Calls Tryz.prog 46 ([zS a1 d.length c2,str e]:List Value).toArray w (gQ fun v w'=>v=i64 R∧aI G K (L) w'):=by
 refine aS Tryz.func46 rfl (by kernel_rfl) (by show (2:Nat)≤19;decide) ?_
 unfold yL at b
 refine aK (aF (v:=i64 0) (aG (aO (aK (aF (v:=i64 0) (aG (aZ (fun f w=>aAH=some R∧aI G K (L) w) ?_ ?_)))))))
 ·rintro f w4 ⟨b,q⟩
  unfold aAH at b
  refine aA (aK (aF (v:=i64 (-1)) (aG ?_)))
  obtain rfl:=zI b
  exact bK (bE Tryz.results46 rfl ⟨rfl,q⟩)
 obtain ⟨a2,u,b⟩:=aC b
 refine cC u (fun (c:Int) f w=>f 0=zS a1 d.length c2∧f 1=str e∧f 5=i64 c∧aI G K (L) w) ?_ ?_
 ·exact ⟨rfl,rfl,rfl,p⟩
 ·rintro c x f a3 a m ⟨i,n,g,h⟩
  replace a:tQ d e c=some x:=a
  unfold tQ at a
  refine aO (aK (aN g (aN i (aD (bT (len:=d.length) dM rfl) (aD (cT rfl rfl) (aG ?_))))))
  rcases aH a with ⟨j,a⟩|⟨j,a⟩
  ·refine aM j rfl (aY (aA (aO (cI (aK (aN i (aN g ?_)))))))
   obtain ⟨a4,o,a⟩:=aC a
   refine aD (cU dM rfl l rfl rfl rfl o) ?_
   obtain ⟨a5,y,z⟩:=bX.el (sz:=1) rfl l o
   cases z
   refine aD (bG (t:=0) yF h y rfl rfl) (aN n (aD (aBd rfl rfl) (aG ?_)))
   rcases aH a with ⟨k,a⟩|⟨k,a⟩
   ·refine aM k rfl (aK (aN g (aF (v:=i64 c) (aG (bK (bS (aX (aX ?_))))))))
    have J:=m _ (zI a).symm
    subst J
    have b:(some c)=some R:=b
    obtain rfl:=zI b
    exact bS (aX (aX (bE Tryz.results46 rfl ⟨rfl,h⟩)))
   ·exact aJ k rfl (aY (bA (aA (aP (aN g (aD (cK rfl rfl) (aF (v:=i64 (wr (c+1))) (aG ⟨wr (c+1),(zI a).symm,i,n,rfl,h⟩))))))))
  ·refine aJ j rfl (cA (aV (aV ?_)))
   have Z:=m _ (zI a).symm
   subst Z
   have b:(aAH)=some R:=b
   exact bN (aA ⟨b,h⟩)
theorem aHn {o R:(List bI)} (hs:aI G K (L) w) (h3:bX K a1 c2 o) (x:yM o=some R):
  Calls Tryz.prog 45 ([zS a1 o.length c2]:List Value).toArray w (gQ fun v w'=>∃ (d7:Option Addr) (d8:Nat),v=zS d7 R.length d8∧aI G K (aR 9 K d7 d8 R::L) w'):=by
 refine aS Tryz.func45 rfl (by kernel_rfl) (by show (1:Nat)≤65;decide) ?_
 unfold yM at x
 refine aK (aF (v:=zS none 0 0) (aG (aK (cJ (Kt:=K) (xs:=([([116,97,117]:bI)]:List bI)) (cs:=[str ([116,97,117]:bI)]) (vs:=[(0,str ([116,97,117]:bI))]) dM aBx rfl rfl hs rfl (by kernel_rfl) rfl rfl rfl ⟨rfl,trivial⟩ (fun a4 w5 (g2:aI G K (aR 9 K a4 1 ([([116,97,117]:bI)]:List bI)::L) w5)=>(aF (v:=zS a4 ([([116,97,117]:bI)]:List bI).length 1) (aG (aO (aK (aF (v:=i64 0) (aG (aZ (fun f w=>∃ (V:List bI) (Z:Option Addr) (c9:Nat),aAI V=some R∧f 3=zS Z V.length c9∧aI G K (aR 9 K Z c9 V::L) w) ?_ ?_))))))))))))
 ·rintro f k7 ⟨V,Z,c9,x,g3,g4⟩
  unfold aAI at x
  refine aA (aK (aN g3 (aF (v:=zS Z V.length c9) (aG ?_))))
  obtain rfl:=zI x
  exact bK (bE Tryz.results45 rfl ⟨Z,c9,rfl,g4⟩)
 obtain ⟨k8,g6,x⟩:=aC x
 refine cC g6 (fun (s:(List bI × Int)) f w=>match s with|(b,j)=>∃ (k:Option Addr) (l:Nat),f 0=zS a1 o.length c2∧f 3=zS k b.length l∧f 4=i64 j∧aI G K (aR 9 K k l b::L) w) ?_ ?_
 ·exact ⟨a4,1,rfl,rfl,rfl,g2⟩
 ·rintro ⟨b,j⟩ z f k9 a g7 ⟨k,l,a7,a9,b0,c1⟩
  replace a:iH o b j=some z:=a
  unfold iH at a
  refine aO (aK (aN b0 (aN a7 (aD (bT (len:=o.length) dM rfl) (aD (cT rfl rfl) (aG ?_))))))
  rcases aH a with ⟨c3,a⟩|⟨c3,a⟩
  ·refine aM c3 rfl (aY (aA (aO (aZ (fun f w=>∃ (a2:List bI) (b1:Option Addr) (b2:Nat),oD j a2=some z∧f 0=zS a1 o.length c2∧f 3=zS b1 a2.length b2∧f 4=i64 j∧aI G K (aR 9 K b1 b2 a2::L) w) ?_ ?_))))
   ·rintro f l0 ⟨a2,b1,b2,a,g8,g9,h0,h1⟩
    unfold oD at a
    exact aA (aP (aN h0 (aD (cK rfl rfl) (aF (v:=i64 (wr (j+1))) (aG ⟨(a2,wr (j+1)),(zI a).symm,b1,b2,g8,g9,rfl,h1⟩)))))
   refine aO (aK (aN a9 (aN a7 (aN b0 ?_))))
   obtain ⟨r,b3,a⟩:=aC a
   refine aD (cU dM rfl h3 rfl rfl rfl b3) ?_
   obtain ⟨l1,c4,h2⟩:=bX.el (sz:=1) rfl h3 b3
   cases h2
   refine aD (bG (t:=0) yF c1 c4 rfl rfl) ?_
   obtain ⟨l2,l3,h4,h5,h6⟩:=aI.lendS (i:=0) c1 (zR _) rfl
   obtain ⟨l4,h7,a⟩:=aC a
   refine aQ (vs:=[zS k b.length l,str r]) Tryz.call46 rfl (aDg h5 h4 h7) ?_
   rintro _ l5 ⟨rfl,h8⟩
   have d9:=h6 _ _ h8
   refine aD (uJ rfl rfl) (aG ?_)
   rcases aH a with ⟨c5,a⟩|⟨c5,a⟩
   ·exact aM c5 rfl (cA (aV (bN (aA ⟨b,k,l,a,a7,a9,b0,d9⟩))))
   ·refine aJ c5 rfl (aY (aA (aK (aF (v:=i64 1) (aG (aO (aZ (fun f w=>∃ (y:Int),tS b j r y=some z∧f 0=zS a1 o.length c2∧f 3=zS k b.length l∧f 4=i64 j∧f 5=i64 y∧aI G K (aR 9 K k l b::L) w) ?_ ?_)))))))
    ·rintro f l6 ⟨y,a,h9,i0,i1,i2,i3⟩
     unfold tS at a
     refine aA (aK (aN i0 (cJ (Kt:=K) (xs:=([([]:bI)]:List bI)) (cs:=[str ([]:bI)]) (vs:=[(0,str ([]:bI))]) dM aBx rfl rfl i3 rfl (by kernel_rfl) rfl rfl rfl ⟨rfl,trivial⟩ (fun i4 i5 (i6:aI G K (aR 9 K i4 1 ([([]:bI)]:List bI)::aR 9 K k l b::L) i5)=>?_))))
     obtain ⟨a3,i7,a⟩:=aC a
     refine eK (i:=0) dM Tryz.underlying24 aBx rfl rfl i6 rfl (zR _) (zR _) i7 rfl rfl rfl rfl (fun _ h=>h) (fun p q i8 (i9:aI G K (aR 9 K p q a3::L) i8)=>(aF (v:=zS p a3.length q) (aG (aO (aK (aL (v:=zS p a3.length q) (aD (bT (len:=a3.length) dM rfl) (aD (nI rfl rfl) (aF (v:=i64 (wr ((a3.length:Int) - 1))) (aG (aZ (fun f w=>∃ (b4:List bI),tR j r y b4=some z∧f 0=zS a1 o.length c2∧f 3=zS p b4.length q∧f 4=i64 j∧f 5=i64 y∧aI G K (aR 9 K p q b4::L) w) ?_ ?_)))))))))))
     ·rintro f l7 ⟨b4,a,e0,e1,e2,j0,c6⟩
      unfold tR at a
      refine aA (aP (aN e1 (aN j0 (aN e0 (aN e2 (aD (cU dM rfl h3 rfl rfl rfl b3) (aD (bG (t:=0) yF c6 c4 rfl rfl) ?_)))))))
      obtain ⟨l8,c7,a⟩:=aC a
      have j1:=dZ c6 (i:=0) rfl c7
      refine aD (eM dM rfl j1 rfl rfl rfl c7) ?_
      obtain ⟨e3,e4,a⟩:=aC a
      exact sM (i:=0) (t:=0) (ns:=[str r]) (e':=(r:bI)) Tryz.sizeOf9 c6 rfl (zR _) rfl rfl rfl c7 e4 rfl rfl (fO rfl) rfl (fun cs h=>by cases h;rfl) (fun j2 (j3:aI G K (aR 9 K p q e3::L) j2)=>(bM (bA (aA ⟨e3,p,q,a,e0,(Eq.trans e1 (congrArg (fun n=>zS p n q) (oY e4))),e2,j3⟩))))
     obtain ⟨l9,j4,a⟩:=aC a
     refine cC j4 (fun (s:(List bI × Int)) f w=>match s with|(J,a5)=>f 0=zS a1 o.length c2∧f 3=zS p J.length q∧f 4=i64 j∧f 5=i64 y∧f 6=i64 a5∧aI G K (aR 9 K p q J::L) w) ?_ ?_
     ·exact ⟨h9,rfl,i1,i2,rfl,i9⟩
     ·rintro ⟨J,a5⟩ j5 f m0 m j6 ⟨e5,b5,e6,c8,b6,b7⟩
      replace m:oE y J a5=some j5:=m
      unfold oE at m
      refine aO (aK (aN b6 (aN c8 (aD (sL rfl rfl) (aG ?_)))))
      rcases aH m with ⟨d0,m⟩|⟨d0,m⟩
      ·refine aM d0 rfl (aY (aA (aO (cI (aP (aN b5 (aN b6 (aN b5 (aN b6 (aD (nI rfl rfl) ?_))))))))))
       obtain ⟨e7,d1,m⟩:=aC m
       have e8:=dZ b7 (i:=0) rfl d1
       refine aD (eM dM rfl e8 rfl rfl rfl d1) (aD (lB (t:=0) yF b7 (i:=0) rfl d1 rfl rfl rfl) ?_)
       obtain ⟨m1,e9,m⟩:=aC m
       refine aD (eM dM rfl e8 rfl rfl rfl e9) ?_
       obtain ⟨f0,f1,m⟩:=aC m
       exact sM (i:=0) (t:=0) (ns:=[str e7]) (e':=(e7:bI)) Tryz.sizeOf9 b7 rfl (zR _) rfl rfl rfl e9 f1 rfl rfl (fO rfl) rfl (fun cs h=>by cases h;rfl) (fun j7 (j8:aI G K (aR 9 K p q f0::L) j7)=>(bM (bA (aA (aP (aN b6 (aD (nI rfl rfl) (aF (v:=i64 (wr (a5 - 1))) (aG ⟨(f0,wr (a5 - 1)),(zI m).symm,e5,(Eq.trans b5 (congrArg (fun n=>zS p n q) (oY f1))),e6,c8,rfl,j8⟩)))))))))
      ·refine aJ d0 rfl (cA (aV (aV ?_)))
       have j9:=j6 _ (zI m).symm
       subst j9
       have a:(tR j r y J)=some z:=a
       exact bN (aA ⟨J,a,e5,b5,e6,c8,b7⟩)
    obtain ⟨m2,k0,a⟩:=aC a
    refine cC k0 (fun (u:Int) f w=>f 0=zS a1 o.length c2∧f 3=zS k b.length l∧f 4=i64 j∧f 5=i64 u∧aI G K (aR 9 K k l b::L) w) ?_ ?_
    ·exact ⟨a7,a9,b0,rfl,d9⟩
    ·rintro u f2 f m3 e k1 ⟨d2,b8,d3,b9,d⟩
     replace e:jX b r u=some f2:=e
     unfold jX at e
     refine aO (aO (dO (fun f w=>∃ (d4:Bool),qI u d4=some f2∧f 0=zS a1 o.length c2∧f 3=zS k b.length l∧f 4=i64 j∧f 5=i64 u∧f 35=zB d4∧aI G K (aR 9 K k l b::L) w) ?_ ?_))
     ·rintro f m4 ⟨d4,e,f3,f4,f5,f6,f7,f8⟩
      unfold qI at e
      refine aA ?_
      rcases aH e with ⟨d5,e⟩|⟨d5,e⟩
      ·exact aM d5 f7 (aY (aA (cI (aP (aN f6 (aD (cK rfl rfl) (aF (v:=i64 (wr (u+1))) (bM (bA (aA ⟨wr (u+1),(zI e).symm,f3,f4,f5,rfl,f8⟩))))))))))
      ·refine aJ d5 f7 (cA (aV (aV ?_)))
       have k2:=k1 _ (zI e).symm
       subst k2
       have a:(tS b j r u)=some z:=a
       exact bN (aA ⟨u,a,f3,f4,f5,f6,f8⟩)
     refine eL (C:=fun w'=>aI G K (aR 9 K k l b::L) w') bP (by kernel_rfl) (aI.mono d (dN.drew _)) (bC (fun _ d=>aW b9) (bC (fun _ d=>aW b8) (bC (fun _ d=>bT (len:=b.length) dM rfl) (bC (fun _ d=>cT rfl rfl) (bC (fun _ d=>aW (v:=zB (decide (u < (b.length:Int)))) rfl) ?_)))))
     rcases aH e with ⟨c,e⟩|⟨c,e⟩
     ·refine dA (g:=25) rfl rfl c (bC (fun _ d=>aW b8) (dA (g:=25) rfl rfl c (bC (fun _ d=>aW b9) (dA (g:=25) rfl rfl c ?_))))
      obtain ⟨f9,d6,e⟩:=aC e
      have k3:=dZ d (i:=0) rfl d6
      exact bC (fun _ d=>eM dM rfl k3 rfl rfl rfl d6) (dA (g:=25) rfl rfl c (bC (fun _ d=>lB (t:=0) yF d (i:=0) rfl d6 rfl rfl rfl) (dA (g:=25) rfl rfl c (bC (fun _ d=>aW d2) (dA (g:=25) rfl rfl c (bC (fun _ d=>aW d3) (dA (g:=25) rfl rfl c (bC (fun _ d=>cU dM rfl h3 rfl rfl rfl b3) (dA (g:=25) rfl rfl c (bC (fun _ d=>bG (t:=0) yF d c4 rfl rfl) (dA (g:=25) rfl rfl c (bC (fun _ d=>R_lssS rfl rfl) (bC (fun _ d=>bF (v:=zB (zW f9 r)) c rfl rfl) (fT (fun m5 k4=>(aA ⟨zW f9 r,e,d2,b8,d3,b9,rfl,k4⟩))))))))))))))))
     ·exact bQ (g:=25) rfl rfl (dC c) (bQ (g:=25) rfl rfl (dC c) (bQ (g:=25) rfl rfl (dC c) (bQ (g:=25) rfl rfl (dC c) (bQ (g:=25) rfl rfl (dC c) (bQ (g:=25) rfl rfl (dC c) (bQ (g:=25) rfl rfl (dC c) (bQ (g:=25) rfl rfl (dC c) (bQ (g:=25) rfl rfl (dC c) (bC (fun _ d=>bH (v:=zB false) c rfl rfl) (fT (fun m6 k5=>(aA ⟨false,e,d2,b8,d3,b9,rfl,k5⟩))))))))))))
  ·refine aJ c3 rfl (cA (aV (aV ?_)))
   have k6:=g7 _ (zI a).symm
   subst k6
   have x:(aAI b)=some R:=x
   exact bN (aA ⟨b,k,l,x,a9,c1⟩)
theorem aHo {a:Edge} {h:Nat} {b:Edge} {i:Nat} {R:Bool} (j:aI G K (L) w) (e:fP K a1 h [i64 a.F,i64 a.B,i64 a.To]) (g:fP K a4 i [i64 b.F,i64 b.B,i64 b.To]) (k:aCe a b=some R):
  Calls Tryz.prog 78 ([cP a1 h,cP a4 i]:List Value).toArray w (gQ fun v w'=>v=zB R∧aI G K (L) w'):=by
 refine aS Tryz.func78 rfl (by kernel_rfl) (by show (2:Nat)≤50;decide) ?_
 unfold aCe at k
 refine aK (aF (v:=zB false) (aG (aO (aO (eL (C:=fun w'=>aI G K (L) w') bP (by kernel_rfl) (aI.mono j (dN.drew _)) (bC (fun _ j=>aW (v:=cP a1 h) rfl) (bC (fun _ j=>cX rfl e) (bC (fun _ j=>cG (k':=h+0) iY rfl e rfl) (bC (fun _ j=>bG (t:=0) bY j e rfl rfl) (bC (fun _ j=>aW (v:=cP a4 i) rfl) (bC (fun _ j=>cX rfl g) (bC (fun _ j=>cG (k':=i+0) iY rfl g rfl) (bC (fun _ j=>bG (t:=0) bY j g rfl rfl) (bC (fun _ j=>uK rfl rfl) (fT (fun x d=>(aA ?_)))))))))))))))))
 rcases aH k with ⟨l,k⟩|⟨l,k⟩
 ·refine aM l rfl (aO (eL (C:=fun w'=>aI G K (L) w') bP (by kernel_rfl) (aI.mono d (dN.drew _)) (bC (fun _ d=>aW (v:=cP a1 h) rfl) (bC (fun _ d=>cX rfl e) (bC (fun _ d=>cG (k':=h+0) iY rfl e rfl) (bC (fun _ d=>bG (t:=0) bY d e rfl rfl) (bC (fun _ d=>aW (v:=cP a4 i) rfl) (bC (fun _ d=>cX rfl g) (bC (fun _ d=>cG (k':=i+0) iY rfl g rfl) (bC (fun _ d=>bG (t:=0) bY d g rfl rfl) (bC (fun _ d=>cT rfl rfl) (bC (fun _ d=>gB (v:=zB (decide (a.F < b.F))) rfl) (fT (fun y n=>(aA ?_)))))))))))))))
  obtain rfl:=zI k
  exact bK (aX (bE Tryz.results78 rfl ⟨rfl,n⟩))
 ·refine aJ l rfl (aY (aA (aO (aO (eL (C:=fun w'=>aI G K (L) w') bP (by kernel_rfl) (aI.mono d (dN.drew _)) (bC (fun _ d=>aW (v:=cP a1 h) rfl) (bC (fun _ d=>cX rfl e) (bC (fun _ d=>cG (k':=h+1) iZ rfl e rfl) (bC (fun _ d=>bG (t:=1) bY d e rfl rfl) (bC (fun _ d=>aW (v:=cP a4 i) rfl) (bC (fun _ d=>cX rfl g) (bC (fun _ d=>cG (k':=i+1) iZ rfl g rfl) (bC (fun _ d=>bG (t:=1) bY d g rfl rfl) (bC (fun _ d=>uK rfl rfl) (fT (fun z c=>(aA ?_)))))))))))))))))
  rcases aH k with ⟨m,k⟩|⟨m,k⟩
  ·refine aM m rfl (aO (eL (C:=fun w'=>aI G K (L) w') bP (by kernel_rfl) (aI.mono c (dN.drew _)) (bC (fun _ c=>aW (v:=cP a1 h) rfl) (bC (fun _ c=>cX rfl e) (bC (fun _ c=>cG (k':=h+1) iZ rfl e rfl) (bC (fun _ c=>bG (t:=1) bY c e rfl rfl) (bC (fun _ c=>aW (v:=cP a4 i) rfl) (bC (fun _ c=>cX rfl g) (bC (fun _ c=>cG (k':=i+1) iZ rfl g rfl) (bC (fun _ c=>bG (t:=1) bY c g rfl rfl) (bC (fun _ c=>cT rfl rfl) (bC (fun _ c=>gB (v:=zB (decide (a.B < b.B))) rfl) (fT (fun J p=>(aA ?_)))))))))))))))
   obtain rfl:=zI k
   exact bK (aX (bE Tryz.results78 rfl ⟨rfl,p⟩))
  ·refine aJ m rfl (aY (aA (aO (eL (C:=fun w'=>aI G K (L) w') bP (by kernel_rfl) (aI.mono c (dN.drew _)) (bC (fun _ c=>aW (v:=cP a1 h) rfl) (bC (fun _ c=>cX rfl e) (bC (fun _ c=>cG (k':=h+2) iC rfl e rfl) (bC (fun _ c=>bG (t:=2) bY c e rfl rfl) (bC (fun _ c=>aW (v:=cP a4 i) rfl) (bC (fun _ c=>cX rfl g) (bC (fun _ c=>cG (k':=i+2) iC rfl g rfl) (bC (fun _ c=>bG (t:=2) bY c g rfl rfl) (bC (fun _ c=>cT rfl rfl) (bC (fun _ c=>gB (v:=zB (decide (a.To < b.To))) rfl) (fT (fun V r=>(aA ?_)))))))))))))))))
   obtain rfl:=zI k
   exact bK (bE Tryz.results78 rfl ⟨rfl,r⟩)
theorem aIm {j:(List Edge)} {e:Edge} {R:(List Edge)} (hs:aI G K (aR 51 K a1 c2 j::L) w) (a:aCY j e=some R):
  Calls Tryz.prog 47 ([zS a1 j.length c2,zA #[i64 e.F,i64 e.B,i64 e.To]]:List Value).toArray w (gQ fun v w'=>∃ (c8:Option Addr) (c9:Nat),v=zS c8 R.length c9∧aI G K (aR 51 K c8 c9 R::L) w'):=by
 let l:=[i64 e.F,i64 e.B,i64 e.To]
 let J:=aR 51 K a1 c2 j
 refine aS Tryz.func47 rfl (by kernel_rfl) (by show (2:Nat)≤57;decide) ?_
 unfold aCY at a
 refine aK (eA (v:=zA #[i64 e.F,i64 e.B,i64 e.To]) (vs:=l) hs rfl rfl (fun c w4 f1=>(aF (v:=zS none 0 0) (aG (aK (aL (v:=zS a1 j.length c2) (aD (bT (len:=j.length) cN rfl) (aF (v:=i64 (j.length:Int)) (aG (aO (aZ (fun f w=>∃ (r:Int),aAe j e r=some R∧f 0=zS a1 j.length c2∧f 3=zP (some ⟨c,0,none⟩)∧f 5=i64 r∧aI G K (box c 51 l::J::L) w) ?_ ?_)))))))))))
 ·rintro f j5 ⟨r,a,e7,e8,e9,k⟩
  unfold aAe at a
  refine aA (aO (aO (dO (fun f w=>∃ (b1:Bool),wM j e r b1=some R∧f 0=zS a1 j.length c2∧f 3=zP (some ⟨c,0,none⟩)∧f 5=i64 r∧f 30=zB b1∧aI G K (box c 51 l::J::L) w) ?_ ?_)))
  ·rintro f j6 ⟨b1,a,d0,f2,f3,d1,d2⟩
   unfold wM at a
   refine aA ?_
   rcases aH a with ⟨b2,a⟩|⟨b2,a⟩
   ·refine aM b2 d1 (aK (aN d0 (aF (v:=zS a1 j.length c2) (aG ?_))))
    obtain rfl:=zI a
    exact bK (aX (bE Tryz.results47 rfl ⟨a1,c2,rfl,(aI.arr 1 [] d2 rfl)⟩))
   ·refine aJ b2 d1 (aY (aA (aK (aN d0 (aD (nH (vs:=[]) (cs:=[i64 0,i64 0,i64 0]) aEd rfl (by kernel_rfl)) (cJ (Kt:=K) (xs:=([⟨0,0,0⟩]:List Edge)) (cs:=[i64 0,i64 0,i64 0]) (vs:=[(0,zA #[i64 0,i64 0,i64 0])]) cN jD rfl rfl d2 rfl (by kernel_rfl) rfl rfl rfl ⟨rfl,trivial⟩ (fun f5 f6 (f7:aI G K (aR 51 K f5 1 ([⟨0,0,0⟩]:List Edge)::box c 51 l::J::L) f6)=>?_)))))))
    obtain ⟨a0,f8,a⟩:=aC a
    refine eK (i:=1) cN Tryz.underlying25 jD rfl rfl f7 rfl (zR _) (zR _) f8 rfl rfl rfl rfl (fun _ h=>h) (fun m o f9 (g0:aI G K (box c 51 l::aR 51 K m o a0::L) f9)=>(aF (v:=zS m a0.length o) (aG (aO (aK (aL (v:=zS m a0.length o) (aD (bT (len:=a0.length) cN rfl) (aD (nI rfl rfl) (aF (v:=i64 (wr ((a0.length:Int) - 1))) (aG (aZ (fun f w=>∃ (a4:List Edge),aAd e r a4=some R∧f 0=zS m a4.length o∧f 3=zP (some ⟨c,0,none⟩)∧f 5=i64 r∧aI G K (box c 51 l::aR 51 K m o a4::L) w) ?_ ?_)))))))))))
    ·rintro f j7 ⟨a4,a,d3,g1,g2,b4⟩
     unfold aAd at a
     refine aA (aK (aN d3 (aN g2 (aD (cS (us:=l) kW b4 (i:=0) rfl g1 rfl rfl) ?_))))
     obtain ⟨j8,b5,a⟩:=aC a
     have g3:=dZ b4 (i:=1) rfl b5
     refine aD (eM cN rfl g3 rfl rfl rfl b5) ?_
     obtain ⟨b6,d4,a⟩:=aC a
     refine sM (i:=1) (t:=0) (ns:=l) (e':=(⟨e.F,e.B,e.To⟩:Edge)) Tryz.sizeOf51 b4 rfl (zR _) rfl rfl rfl b5 d4 rfl rfl (fO rfl) rfl (fun cs h=>by cases h;rfl) (fun g4 (g5:aI G K (box c 51 l::aR 51 K m o b6::L) g4)=>(aG (aK (aN (v:=zS m b6.length o) (Eq.trans d3 (congrArg (fun n=>zS m n o) (oY d4))) (aF (v:=zS m b6.length o) (aG ?_))))))
     obtain rfl:=zI a
     exact bK (bE Tryz.results47 rfl ⟨m,o,rfl,(aI.arr 1 [] g5 rfl)⟩)
    obtain ⟨j9,g7,a⟩:=aC a
    refine cC g7 (fun (s:(List Edge × Int)) f w=>match s with|(V,a2)=>f 0=zS m V.length o∧f 3=zP (some ⟨c,0,none⟩)∧f 5=i64 r∧f 6=i64 a2∧aI G K (box c 51 l::aR 51 K m o V::L) w) ?_ ?_
    ·exact ⟨rfl,f2,f3,rfl,g0⟩
    ·rintro ⟨V,a2⟩ g8 f k0 p g9 ⟨a5,d5,b7,a6,a7⟩
     replace p:wL r V a2=some g8:=p
     unfold wL at p
     refine aO (aK (aN a6 (aN b7 (aD (sL rfl rfl) (aG ?_)))))
     rcases aH p with ⟨b8,p⟩|⟨b8,p⟩
     ·refine aM b8 rfl (aY (aA (aO (cI (aP (aN a5 (aN a6 (aN a5 (aN a6 (aD (nI rfl rfl) ?_))))))))))
      obtain ⟨z,b9,p⟩:=aC p
      have d6:=dZ a7 (i:=1) rfl b9
      refine aD (eM cN rfl d6 rfl rfl rfl b9) (aD (wZ (t:=0) (vs:=[i64 z.F,i64 z.B,i64 z.To]) kW a7 (i:=1) rfl b9 rfl rfl rfl rfl) ?_)
      obtain ⟨k1,d7,p⟩:=aC p
      refine aD (eM cN rfl d6 rfl rfl rfl d7) ?_
      obtain ⟨d8,d9,p⟩:=aC p
      exact sM (i:=1) (t:=0) (ns:=[i64 z.F,i64 z.B,i64 z.To]) (e':=(⟨z.F,z.B,z.To⟩:Edge)) Tryz.sizeOf51 a7 rfl (zR _) rfl rfl rfl d7 d9 rfl rfl (fO rfl) rfl (fun cs h=>by cases h;rfl) (fun h0 (h1:aI G K (box c 51 l::aR 51 K m o d8::L) h0)=>(bM (bA (aA (aP (aN a6 (aD (nI rfl rfl) (aF (v:=i64 (wr (a2 - 1))) (aG ⟨(d8,wr (a2 - 1)),(zI p).symm,(Eq.trans a5 (congrArg (fun n=>zS m n o) (oY d9))),d5,b7,rfl,h1⟩)))))))))
     ·refine aJ b8 rfl (cA (aV (aV ?_)))
      have h2:=g9 _ (zI p).symm
      subst h2
      have a:(aAd e r V)=some R:=a
      exact bN (aA ⟨V,a,a5,d5,b7,a7⟩)
  refine eL (C:=fun w'=>aI G K (box c 51 l::J::L) w') bP (by kernel_rfl) (aI.mono k (dN.drew _)) (bC (fun _ k=>aW e9) (bC (fun _ k=>sL rfl rfl) (bC (fun _ k=>aW (v:=zB (decide (0 < r))) rfl) ?_)))
  rcases aH a with ⟨d,a⟩|⟨d,a⟩
  ·refine dA (g:=22) rfl rfl d (bC (fun _ k=>aW e7) (dA (g:=22) rfl rfl d (bC (fun _ k=>aW e9) (dA (g:=22) rfl rfl d (bC (fun _ k=>nI rfl rfl) (dA (g:=22) rfl rfl d ?_))))))
   obtain ⟨Z,c0,a⟩:=aC a
   have h3:=dZ k (i:=1) rfl c0
   exact bC (fun _ k=>eM cN rfl h3 rfl rfl rfl c0) (dA (g:=22) rfl rfl d (bC (fun _ k=>wZ (t:=0) (vs:=[i64 Z.F,i64 Z.B,i64 Z.To]) kW k (i:=1) rfl c0 rfl rfl rfl rfl) (dA (g:=22) rfl rfl d (bC (fun _ k=>cS (us:=l) kW k (i:=0) rfl e8 rfl rfl) (dA (g:=22) rfl rfl d (bC (fun _ k=>R_eqlG (eq_51 (x:=Z) (y:=e)) rfl rfl) (bC (fun _ k=>bF (v:=zB (decide ((Z:Edge)=e))) d rfl rfl) (fT (fun k2 h4=>(aA ⟨decide ((Z:Edge)=e),a,e7,e8,e9,rfl,h4⟩))))))))))
  ·exact bQ (g:=22) rfl rfl (dC d) (bQ (g:=22) rfl rfl (dC d) (bQ (g:=22) rfl rfl (dC d) (bQ (g:=22) rfl rfl (dC d) (bQ (g:=22) rfl rfl (dC d) (bQ (g:=22) rfl rfl (dC d) (bQ (g:=22) rfl rfl (dC d) (bC (fun _ k=>bH (v:=zB false) d rfl rfl) (fT (fun k3 h5=>(aA ⟨false,a,e7,e8,e9,rfl,h5⟩))))))))))
 obtain ⟨k4,h6,a⟩:=aC a
 refine cC h6 (fun (u:Int) f w=>f 0=zS a1 j.length c2∧f 3=zP (some ⟨c,0,none⟩)∧f 5=i64 u∧aI G K (box c 51 l::J::L) w) ?_ ?_
 ·exact ⟨rfl,rfl,rfl,f1⟩
 ·rintro u e0 f k5 b h7 ⟨c1,c3,a8,c4⟩
  replace b:sP j e u=some e0:=b
  unfold sP at b
  refine aO (aO (dO (fun f w=>∃ (c5:Bool),wN u c5=some e0∧f 0=zS a1 j.length c2∧f 3=zP (some ⟨c,0,none⟩)∧f 5=i64 u∧f 17=zB c5∧aI G K (box c 51 l::J::L) w) ?_ ?_))
  ·rintro f k6 ⟨c5,b,e1,e2,e3,e4,e5⟩
   unfold wN at b
   refine aA ?_
   rcases aH b with ⟨c6,b⟩|⟨c6,b⟩
   ·exact aM c6 e4 (aY (aA (cI (aP (aN e3 (aD (nI rfl rfl) (aF (v:=i64 (wr (u - 1))) (bM (bA (aA ⟨wr (u - 1),(zI b).symm,e1,e2,rfl,e5⟩))))))))))
   ·refine aJ c6 e4 (cA (aV (aV ?_)))
    have h8:=h7 _ (zI b).symm
    subst h8
    have a:(aAe j e u)=some R:=a
    exact bN (aA ⟨u,a,e1,e2,e3,e5⟩)
  refine aP (aN a8 (aD (sL rfl rfl) (aL (v:=zB (decide (0 < u))) ?_)))
  rcases aH b with ⟨q,b⟩|⟨q,b⟩
  ·refine bB q rfl rfl (aN c1 (bB q rfl rfl (aN a8 (bB q rfl rfl (aD (nI rfl rfl) (bB q rfl rfl ?_))))))
   obtain ⟨k7,c7,b⟩:=aC b
   have h9:=dZ c4 (i:=1) rfl c7
   refine aD (eM cN rfl h9 rfl rfl rfl c7) (bB q rfl rfl ?_)
   obtain ⟨k8,i0,i1,i2,i3⟩:=aI.lendB (i:=0) c4 rfl
   obtain ⟨k9,i4,i5,i6,i7⟩:=aI.lendS (i:=0) i2 i0 rfl
   obtain ⟨l0,i8,i9⟩:=bX.el (sz:=3) rfl i5 c7
   cases i9
   obtain ⟨e6,j0,b⟩:=aC b
   refine aQ (vs:=[cP (some ⟨c,0,none⟩) 0,cP a1 ((wr (u - 1)).toNat * 3+0)]) Tryz.call78 (lst2 c3 rfl) (aHo i6 (i1.mono i4) i8 j0) ?_
   rintro _ l1 ⟨rfl,j1⟩
   have j2:=i7 _ _ j1
   have j3:=i3 _ _ j2
   exact aD (bF (v:=zB e6) q rfl rfl) (aG ⟨e6,b,c1,c3,a8,rfl,j3⟩)
  ·exact aU q rfl rfl (aU q rfl rfl (aU q rfl rfl (aU q rfl rfl (aU q rfl rfl (aD (bH (v:=zB false) q rfl rfl) (aG ⟨false,b,c1,c3,a8,rfl,c4⟩))))))
theorem nC {g h:Int} {J:(List bI)} {edges:(List Edge)} {R:cD} (hs:aI G K (L) w) (h3:bX K a1 c2 J) (h6:bX K a4 c5 edges) (l:kS g h J edges=some R):
  Calls Tryz.prog 20 ([i64 g,i64 h,zS a1 J.length c2,zS a4 edges.length c5]:List Value).toArray w (gQ fun v w'=>∃ (b6:Option Addr) (b8:Nat) (b9:Option Addr) (c0:Nat),v=zA (zCa R b6 b8 b9 c0)∧aI G K (aR 9 K b6 b8 R.L::aR 51 K b9 c0 R.E::L) w'):=by
 let u:=zG
 refine aS Tryz.func20 rfl (by kernel_rfl) (by show (4:Nat)≤43;decide) ?_
 unfold kS at l
 refine aK (cQ (vs:=u) Tryz.zeroValue27 hs rfl (fun m w8 d4=>(aG (aK (aL (v:=i64 g) (aL (v:=i64 h) (aL (v:=zS a1 J.length c2) ?_)))))))
 obtain ⟨a,d5,l⟩:=aC l
 refine aQ (vs:=[zS a1 J.length c2]) Tryz.call45 rfl (aHn d4 h3 d5) ?_
 rintro _ h9 ⟨b,c,rfl,d6⟩
 refine cJ (Kt:=K) (xs:=([]:List Edge)) (cs:=[]) (vs:=[]) cN jD rfl rfl d6 rfl (by kernel_rfl) rfl rfl rfl trivial (fun y d7 (d8:aI G K (aR 51 K y 0 ([]:List Edge)::aR 9 K b c a::box m 27 u::L) d7)=>(aD (nH (vs:=[(0,i64 g),(1,i64 h),(2,zS b a.length c),(3,zS y ([]:List Edge).length 0)]) (cs:=[i64 g,i64 h,zS b a.length c,zS y ([]:List Edge).length 0]) bs_27 rfl (by kernel_rfl)) (cQ (vs:=u) Tryz.zeroValue27 d8 rfl (fun x i0 d9=>(cZ (i:=0) (ns:=[i64 g,i64 h,zS b a.length c,zS y ([]:List Edge).length 0]) (us:=[i64 g,i64 h,zS b a.length c,zS y ([]:List Edge).length 0]) Tryz.sizeOf27 d9 rfl rfl rfl rfl rfl (fO rfl) rfl rfl (fun e0 (e1:aI G K (box x 27 [i64 g,i64 h,zS b a.length c,zS y ([]:List Edge).length 0]::aR 51 K y 0 ([]:List Edge)::aR 9 K b c a::box m 27 u::L) e0)=>(aG (aO (aK (aF (v:=i64 0) (aG (aZ (fun f w=>∃ (n:List Edge) (o:Option Addr) (p:Nat),aAJ g h a n=some R∧f 8=zP (some ⟨m,0,none⟩)∧f 9=zP (some ⟨x,0,none⟩)∧aI G K (aR 51 K o p n::box x 27 [i64 g,i64 h,zS b a.length c,zS o n.length p]::aR 9 K b c a::box m 27 u::L) w) ?_ ?_))))))))))))
 ·rintro f i1 ⟨n,o,p,l,c1,e2,c3⟩
  unfold aAJ at l
  refine aA (aK (aD (cS (us:=[i64 g,i64 h,zS b a.length c,zS o n.length p]) dB c3 (i:=1) rfl e2 rfl rfl) (cZ (i:=3) (ns:=[i64 g,i64 h,zS b a.length c,zS o n.length p]) (us:=[i64 g,i64 h,zS b a.length c,zS o n.length p]) Tryz.sizeOf27 c3 rfl c1 rfl rfl rfl (fO rfl) rfl rfl (fun e3 (c4:aI G K (aR 51 K o p n::box x 27 [i64 g,i64 h,zS b a.length c,zS o n.length p]::aR 9 K b c a::box m 27 [i64 g,i64 h,zS b a.length c,zS o n.length p]::L) e3)=>(aG ?_)))))
  obtain rfl:=zI l
  exact bK (vF Tryz.results20 (oB (vs:=[i64 g,i64 h,zS b a.length c,zS o n.length p]) rfl dB c4 (i:=3) rfl c1 rfl) ⟨b,c,o,p,rfl,(aI.arr 4 [2,0] c4 rfl)⟩)
 obtain ⟨i2,e5,l⟩:=aC l
 refine cC e5 (fun (s:(List Edge × Int)) f w=>match s with|(k,Z)=>∃ (q:Option Addr) (r:Nat),f 2=zS a1 J.length c2∧f 3=zS a4 edges.length c5∧f 8=zP (some ⟨m,0,none⟩)∧f 9=zP (some ⟨x,0,none⟩)∧f 10=i64 Z∧aI G K (box x 27 [i64 g,i64 h,zS b a.length c,zS q k.length r]::aR 51 K q r k::aR 9 K b c a::box m 27 u::L) w) ?_ ?_
 ·exact ⟨y,0,rfl,rfl,rfl,rfl,rfl,e1⟩
 ·rintro ⟨k,Z⟩ e6 f i3 j e7 ⟨q,r,c6,a9,c7,a0,b0,b1⟩
  replace j:jY J edges a k Z=some e6:=j
  unfold jY at j
  refine aO (aK (aN b0 (aN a9 (aD (bT (len:=edges.length) cN rfl) (aD (cT rfl rfl) (aG ?_))))))
  rcases aH j with ⟨b2,j⟩|⟨b2,j⟩
  ·refine aM b2 rfl (aY (aA (aO (cI (aK (aN a9 (aN b0 ?_)))))))
   obtain ⟨d,c8,j⟩:=aC j
   refine aD (cU cN rfl h6 rfl rfl rfl c8) ?_
   obtain ⟨i4,e8,e9⟩:=bX.el (sz:=3) rfl h6 c8
   cases e9
   refine aD (iD (t:=0) (vs:=[i64 d.F,i64 d.B,i64 d.To]) kW b1 e8 rfl rfl rfl) (cQ (vs:=[i64 0,i64 0,i64 0]) Tryz.zeroValue51 b1 rfl (fun a6 i5 f0=>(cZ (i:=0) (ns:=[i64 d.F,i64 d.B,i64 d.To]) (us:=[i64 d.F,i64 d.B,i64 d.To]) Tryz.sizeOf51 f0 rfl rfl rfl rfl rfl (fO rfl) rfl rfl (fun f1 (f2:aI G K (box a6 51 [i64 d.F,i64 d.B,i64 d.To]::box x 27 [i64 g,i64 h,zS b a.length c,zS q k.length r]::aR 51 K q r k::aR 9 K b c a::box m 27 u::L) f1)=>(aG (aO ?_))))))
   obtain ⟨i6,b3,f3,f4,f5⟩:=aI.lendB (i:=0) f2 rfl
   obtain ⟨f6,a7,f7,c9,f8⟩:=aI.lendB (i:=0) f4 rfl
   refine dQ (C:=fun w'=>∃ L',aI G f6 L' w') [(0,0),(1,0),(2,0),(3,0),(4,0),(5,0),(6,0),(7,1),(8,0),(9,2)] bP (by kernel_rfl) (fun _ hg=>⟨_,aI.mono c9 hg⟩) (fun i7 f9=>?_)
   have V:=aI.mono c9 f9
   refine bJ rfl (fun _ _=>bL (t':=2) gV a0 rfl) (bJ rfl (fun _ ⟨_,V⟩=>bG (t:=2) oC V f7 rfl rfl) (bJ rfl (fun _ _=>aW c6) (bJ rfl (fun _ _=>bL (t':=1) iZ rfl rfl) (bJ rfl (fun _ ⟨_,V⟩=>bG (t:=1) bY V (f3.mono a7) rfl rfl) ?_))))
   obtain ⟨g0,d0,j⟩:=aC j
   refine bJ rfl (fun _ _=>cU dM rfl (h3.mono (Hp.le_trans b3 a7)) rfl rfl rfl d0) ?_
   obtain ⟨i8,g1,g2⟩:=bX.el (sz:=1) rfl h3 d0
   cases g2
   refine bJ rfl (fun _ ⟨_,V⟩=>bG (t:=0) yF V (g1.mono (Hp.le_trans b3 a7)) rfl rfl) (gZ rfl ?_)
   obtain ⟨i9,j0,g3,g4,g5⟩:=aI.lendS (i:=1) V (Hp.le_trans b3 a7) rfl
   obtain ⟨z,g6,j⟩:=aC j
   refine aQ (vs:=[zS b a.length c,str g0]) Tryz.call46 rfl (aDg g4 g3 g6) ?_
   rintro _ j1 ⟨rfl,g7⟩
   have d1:=g5 _ _ g7
   refine bM (aA ⟨⟨_,d1⟩,?_⟩)
   refine bJ rfl (fun _ _=>bL (t':=1) iZ rfl rfl) ?_
   have g8:=f8 _ _ d1
   have g9:=f5 _ _ g8
   refine aGr rfl (cZ (i:=0) (ns:=[i64 z]) (us:=[i64 d.F,i64 z,i64 d.To]) Tryz.sizeOf2 g9 rfl rfl rfl rfl rfl (fO rfl) rfl rfl (fun d2 (b4:aI G K (box a6 51 [i64 d.F,i64 z,i64 d.To]::box x 27 [i64 g,i64 h,zS b a.length c,zS q k.length r]::aR 9 K b c a::aR 51 K q r k::box m 27 u::L) d2)=>(aG (gR (aA (aP (aD (bL (t':=3) dY a0 rfl) (aD (dG jR b4 (i:=1) rfl rfl rfl) (aD (cS (us:=[i64 d.F,i64 z,i64 d.To]) kW b4 (i:=0) rfl rfl rfl rfl) ?_)))))))))
   have h0:aI G K (aR 51 K q r k::box a6 51 [i64 d.F,i64 z,i64 d.To]::box x 27 [i64 g,i64 h,zS b a.length c,zS q k.length r]::aR 9 K b c a::box m 27 u::L) d2:=(aI.arr 4 [3,0,1,2] b4 rfl)
   obtain ⟨a2,h1,j⟩:=aC j
   refine aQ (vs:=[zS q k.length r,zA #[i64 d.F,i64 z,i64 d.To]]) Tryz.call47 rfl (aIm (e:=⟨d.F,z,d.To⟩) h0 h1) ?_
   rintro _ j2 ⟨a3,a5,rfl,h2⟩
   exact aD (bL (t':=3) dY a0 rfl) (cZ (i:=2) (ns:=[zS a3 a2.length a5]) (us:=[i64 g,i64 h,zS b a.length c,zS a3 a2.length a5]) Tryz.sizeOf25 h2 rfl rfl rfl rfl rfl (fO rfl) rfl rfl (fun h4 (h5:aI G K (aR 51 K a3 a5 a2::box a6 51 [i64 d.F,i64 z,i64 d.To]::box x 27 [i64 g,i64 h,zS b a.length c,zS a3 a2.length a5]::aR 9 K b c a::box m 27 u::L) h4)=>(bM (bA (aA (aP (aN b0 (aD (cK rfl rfl) (aF (v:=i64 (wr (Z+1))) (aG ⟨(a2,wr (Z+1)),(zI j).symm,a3,a5,c6,a9,c7,a0,rfl,(aI.arr 3 [2,0] h5 rfl)⟩))))))))))
  ·refine aJ b2 rfl (cA (aV (aV ?_)))
   have h7:=e7 _ (zI j).symm
   subst h7
   have l:(aAJ g h a k)=some R:=l
   exact bN (aA ⟨k,q,r,l,c7,a0,(aI.arr 2 [1,0] b1 rfl)⟩)
theorem aIn {t:cD} {l:Nat} {k:Int} {R:(List Edge)} (hs:aI G K (L) w) (c:fP K a1 l (zC t a4 c5 a7 c8)) (h6:bX K a4 c5 t.L) (J:bX K a7 c8 t.E) (d:aCZ t k=some R):
  Calls Tryz.prog 40 ([cP a1 l,i64 k]:List Value).toArray w (gQ fun v w'=>∃ (b1:Option Addr) (b2:Nat),v=zS b1 R.length b2∧aI G K (aR 51 K b1 b2 R::L) w'):=by
 refine aS Tryz.func40 rfl (by kernel_rfl) (by show (2:Nat)≤38;decide) ?_
 unfold aCZ at d
 refine aK (aF (v:=zS none 0 0) (aG (aK (cJ (Kt:=K) (xs:=([]:List Edge)) (cs:=[]) (vs:=[]) cN jD rfl rfl hs rfl (by kernel_rfl) rfl rfl rfl trivial (fun V b5 (b6:aI G K (aR 51 K V 0 ([]:List Edge)::L) b5)=>(aF (v:=zS V ([]:List Edge).length 0) (aG (aO (aK (aF (v:=i64 0) (aG (aZ (fun f w=>∃ (o:List Edge) (p:Option Addr) (q:Nat),aAf o=some R∧f 5=zS p o.length q∧aI G K (aR 51 K p q o::L) w) ?_ ?_))))))))))))
 ·rintro f d8 ⟨o,p,q,d,b7,b8⟩
  unfold aAf at d
  refine aA (aK (aN b7 (aF (v:=zS p o.length q) (aG ?_))))
  obtain rfl:=zI d
  exact bK (bE Tryz.results40 rfl ⟨p,q,rfl,b8⟩)
 obtain ⟨d9,c0,d⟩:=aC d
 refine cC c0 (fun (s:(List Edge × Int)) f w=>match s with|(e,g)=>∃ (m:Option Addr) (n:Nat),f 0=cP a1 l∧f 1=i64 k∧f 5=zS m e.length n∧f 6=i64 g∧aI G K (aR 51 K m n e::L) w) ?_ ?_
 ·exact ⟨V,0,rfl,rfl,rfl,rfl,b6⟩
 ·rintro ⟨e,g⟩ b3 f e0 a c1 ⟨m,n,r,Z,a0,u,j⟩
  replace a:wO t k e g=some b3:=a
  unfold wO at a
  refine aO (aK (aN u (aN r (aD (cX rfl c) (aD (cG (k':=l+3) dY rfl c rfl) (aD (bG (t:=3) jR j c rfl rfl) (aD (bT (len:=t.E.length) cN rfl) (aD (cT rfl rfl) (aG ?_)))))))))
  rcases aH a with ⟨a2,a⟩|⟨a2,a⟩
  ·refine aM a2 rfl (aY (aA (aO (aZ (fun f w=>∃ (x:List Edge) (y:Option Addr) (z:Nat),aAg g x=some b3∧f 0=cP a1 l∧f 1=i64 k∧f 5=zS y x.length z∧f 6=i64 g∧aI G K (aR 51 K y z x::L) w) ?_ ?_))))
   ·rintro f e1 ⟨x,y,z,a,c2,c3,c4,c6,c7⟩
    unfold aAg at a
    exact aA (aP (aN c6 (aD (cK rfl rfl) (aF (v:=i64 (wr (g+1))) (aG ⟨(x,wr (g+1)),(zI a).symm,y,z,c2,c3,c4,rfl,c7⟩)))))
   refine aK (aN r (aD (cX rfl c) (aD (cG (k':=l+3) dY rfl c rfl) (aD (bG (t:=3) jR j c rfl rfl) (aN u ?_)))))
   obtain ⟨b,a3,a⟩:=aC a
   refine aD (cU cN rfl J rfl rfl rfl a3) ?_
   obtain ⟨e2,a5,c9⟩:=bX.el (sz:=3) rfl J a3
   cases c9
   refine aD (cG (k':=g.toNat * 3+0) iY rfl a5 rfl) (aD (bG (t:=0) bY j a5 rfl rfl) (aN Z (aD (lA rfl rfl) (aG ?_))))
   rcases aH a with ⟨a6,a⟩|⟨a6,a⟩
   ·refine aM a6 rfl (aP (aN a0 (aN r (aD (cX rfl c) (aD (cG (k':=l+3) dY rfl c rfl) (aD (bG (t:=3) jR j c rfl rfl) (aN u (aD (cU cN rfl J rfl rfl rfl a3) (aD (iD (t:=0) (vs:=[i64 b.F,i64 b.B,i64 b.To]) kW j a5 rfl rfl rfl) (cJ (Kt:=K) (xs:=([b]:List Edge)) (cs:=[i64 b.F,i64 b.B,i64 b.To]) (vs:=[(0,zA #[i64 b.F,i64 b.B,i64 b.To])]) cN jD rfl rfl j rfl (by kernel_rfl) rfl rfl rfl ⟨rfl,trivial⟩ (fun d0 d1 (d2:aI G K (aR 51 K d0 1 ([b]:List Edge)::aR 51 K m n e::L) d1)=>?_)))))))))))
    obtain ⟨a8,d3,a⟩:=aC a
    exact eK (i:=0) cN Tryz.underlying25 jD rfl rfl d2 rfl (zR _) (zR _) d3 rfl rfl rfl rfl (fun _ h=>h) (fun a9 b0 d4 (d5:aI G K (aR 51 K a9 b0 a8::L) d4)=>(aF (v:=zS a9 a8.length b0) (bM (bA (aA ⟨a8,a9,b0,a,r,Z,rfl,u,d5⟩)))))
   ·exact aJ a6 rfl (aY (bA (aA ⟨e,m,n,a,r,Z,a0,u,j⟩)))
  ·refine aJ a2 rfl (cA (aV (aV ?_)))
   have d6:=c1 _ (zI a).symm
   subst d6
   have d:(aAf e)=some R:=d
   exact bN (aA ⟨e,m,n,d,a0,j⟩)
theorem yA {a b:(List Int)} {R:Bool} (m:aI G K (L) w) (n:bX K a1 c2 a) (o:bX K a4 c5 b) (c:wP a b=some R):
  Calls Tryz.prog 68 ([zS a1 a.length c2,zS a4 b.length c5]:List Value).toArray w (gQ fun v w'=>v=zB R∧aI G K (L) w'):=by
 refine aS Tryz.func68 rfl (by kernel_rfl) (by show (2:Nat)≤26;decide) ?_
 unfold wP at c
 refine aK (aF (v:=zB false) (aG (aO (aK (aL (v:=zS a1 a.length c2) (aD (bT (len:=a.length) bO rfl) (aL (v:=zS a4 b.length c5) (aD (bT (len:=b.length) bO rfl) (aD (uK rfl rfl) (aG ?_))))))))))
 rcases aH c with ⟨i,c⟩|⟨i,c⟩
 ·refine aM i rfl (aK (aF (v:=zB false) (aG ?_)))
  obtain rfl:=zI c
  exact bK (aX (bE Tryz.results68 rfl ⟨rfl,m⟩))
 ·refine aJ i rfl (aY (aA (aO (aK (aF (v:=i64 0) (aG (aZ (fun f w=>aAK=some R∧aI G K (L) w) ?_ ?_)))))))
  ·rintro f w9 ⟨c,z⟩
   unfold aAK at c
   refine aA (aK (aF (v:=zB true) (aG ?_)))
   obtain rfl:=zI c
   exact bK (bE Tryz.results68 rfl ⟨rfl,z⟩)
  obtain ⟨b0,V,c⟩:=aC c
  refine cC V (fun (g:Int) f w=>f 0=zS a1 a.length c2∧f 1=zS a4 b.length c5∧f 5=i64 g∧aI G K (L) w) ?_ ?_
  ·exact ⟨rfl,rfl,rfl,m⟩
  ·rintro g Z f b1 d p ⟨j,q,h,e⟩
   replace d:tT a b g=some Z:=d
   unfold tT at d
   refine aO (aK (aN h (aN j (aD (bT (len:=a.length) bO rfl) (aD (cT rfl rfl) (aG ?_))))))
   rcases aH d with ⟨k,d⟩|⟨k,d⟩
   ·refine aM k rfl (aY (aA (aO (cI (aO (eL (C:=fun w'=>aI G K (L) w') bP (by kernel_rfl) (aI.mono e (dN.drew _)) (bC (fun _ e=>aW j) (bC (fun _ e=>aW h) ?_))))))))
    obtain ⟨b2,r,d⟩:=aC d
    refine bC (fun _ e=>cU bO rfl n rfl rfl rfl r) ?_
    obtain ⟨b3,a0,a2⟩:=bX.el (sz:=1) rfl n r
    cases a2
    refine bC (fun _ e=>bG (t:=0) bY e a0 rfl rfl) (bC (fun _ e=>aW q) (bC (fun _ e=>aW h) ?_))
    obtain ⟨b4,u,d⟩:=aC d
    refine bC (fun _ e=>cU bO rfl o rfl rfl rfl u) ?_
    obtain ⟨b5,a3,a5⟩:=bX.el (sz:=1) rfl o u
    cases a5
    refine bC (fun _ e=>bG (t:=0) bY e a3 rfl rfl) (bC (fun _ e=>uK rfl rfl) (fT (fun b6 x=>(aA ?_))))
    rcases aH d with ⟨l,d⟩|⟨l,d⟩
    ·refine aM l rfl (aK (aF (v:=zB false) (aG (bK (bS (aX (aX ?_)))))))
     have a6:=p _ (zI d).symm
     subst a6
     have c:(some false)=some R:=c
     obtain rfl:=zI c
     exact bS (aX (aX (bE Tryz.results68 rfl ⟨rfl,x⟩)))
    ·exact aJ l rfl (aY (bA (aA (aP (aN h (aD (cK rfl rfl) (aF (v:=i64 (wr (g+1))) (aG ⟨wr (g+1),(zI d).symm,j,q,rfl,x⟩))))))))
   ·refine aJ k rfl (cA (aV (aV ?_)))
    have a8:=p _ (zI d).symm
    subst a8
    have c:(aAK)=some R:=c
    exact bN (aA ⟨c,e⟩)
theorem vT {e:Edge} {h:Nat} {p:(List Int)} {R:Bool} (b:aI G K (L) w) (d:fP K a1 h [i64 e.F,i64 e.B,i64 e.To]) (i:bX K a4 c5 p) (c:sQ e p=some R):
  Calls Tryz.prog 74 ([cP a1 h,zS a4 p.length c5]:List Value).toArray w (gQ fun v w'=>v=zB R∧aI G K (L) w'):=by
 refine aS Tryz.func74 rfl (by kernel_rfl) (by show (2:Nat)≤27;decide) ?_
 unfold sQ at c
 refine aK (aF (v:=zB false) (aG (aO (dO (fun f w=>∃ (j:Bool),uT j=some R∧f 4=zB j∧aI G K (L) w) ?_ ?_))))
 ·rintro f Z ⟨j,c,o,q⟩
  unfold uT at c
  refine aA ?_
  obtain rfl:=zI c
  exact bK (bE Tryz.results74 rfl ⟨o,q⟩)
 refine eL (C:=fun w'=>aI G K (L) w') bP (by kernel_rfl) (aI.mono b (dN.drew _)) (bC (fun _ b=>aW (v:=cP a1 h) rfl) (bC (fun _ b=>cX rfl d) (bC (fun _ b=>cG (k':=h+1) iZ rfl d rfl) (bC (fun _ b=>bG (t:=1) bY b d rfl rfl) (bC (fun _ b=>lA rfl rfl) (bC (fun _ b=>aW (v:=zB (e.B == 0)) rfl) ?_))))))
 rcases aH c with ⟨a,c⟩|⟨a,c⟩
 ·refine dA (g:=10) rfl rfl a (bC (fun _ b=>aW (v:=zS a4 p.length c5) rfl) (dA (g:=10) rfl rfl a (bC (fun _ b=>aW (v:=cP a1 h) rfl) (dA (g:=10) rfl rfl a (bC (fun _ b=>cX rfl d) (dA (g:=10) rfl rfl a (bC (fun _ b=>cG (k':=h+0) iY rfl d rfl) (dA (g:=10) rfl rfl a (bC (fun _ b=>bG (t:=0) bY b d rfl rfl) (dA (g:=10) rfl rfl a ?_))))))))))
  obtain ⟨k,m,c⟩:=aC c
  refine bC (fun _ b=>cU bO rfl i rfl rfl rfl m) ?_
  obtain ⟨a0,u,x⟩:=bX.el (sz:=1) rfl i m
  cases x
  refine dA (g:=10) rfl rfl a (bC (fun _ b=>bG (t:=0) bY b u rfl rfl) (dA (g:=10) rfl rfl a (bC (fun _ b=>aW (v:=zS a4 p.length c5) rfl) (dA (g:=10) rfl rfl a (bC (fun _ b=>aW (v:=cP a1 h) rfl) (dA (g:=10) rfl rfl a (bC (fun _ b=>cX rfl d) (dA (g:=10) rfl rfl a (bC (fun _ b=>cG (k':=h+2) iC rfl d rfl) (dA (g:=10) rfl rfl a (bC (fun _ b=>bG (t:=2) bY b d rfl rfl) (dA (g:=10) rfl rfl a ?_))))))))))))
  obtain ⟨l,n,c⟩:=aC c
  refine bC (fun _ b=>cU bO rfl i rfl rfl rfl n) ?_
  obtain ⟨a2,y,z⟩:=bX.el (sz:=1) rfl i n
  cases z
  exact dA (g:=10) rfl rfl a (bC (fun _ b=>bG (t:=0) bY b y rfl rfl) (dA (g:=10) rfl rfl a (bC (fun _ b=>lA rfl rfl) (bC (fun _ b=>bF (v:=zB (k == l)) a rfl rfl) (bC (fun _ b=>gB (v:=zB (k == l)) rfl) (fT (fun a3 J=>(aA ⟨k == l,c,rfl,J⟩))))))))
 ·exact bQ (g:=10) rfl rfl (dC a) (bQ (g:=10) rfl rfl (dC a) (bQ (g:=10) rfl rfl (dC a) (bQ (g:=10) rfl rfl (dC a) (bQ (g:=10) rfl rfl (dC a) (bQ (g:=10) rfl rfl (dC a) (bQ (g:=10) rfl rfl (dC a) (bQ (g:=10) rfl rfl (dC a) (bQ (g:=10) rfl rfl (dC a) (bQ (g:=10) rfl rfl (dC a) (bQ (g:=10) rfl rfl (dC a) (bQ (g:=10) rfl rfl (dC a) (bQ (g:=10) rfl rfl (dC a) (bQ (g:=10) rfl rfl (dC a) (bQ (g:=10) rfl rfl (dC a) (bC (fun _ b=>bH (v:=zB false) a rfl rfl) (bC (fun _ b=>gB (v:=zB false) rfl) (fT (fun a5 V=>(aA ⟨false,c,rfl,V⟩)))))))))))))))))))
end Gv
