/- Walks, printed by program. -/
import Derived.Test.YtkgakibhmcbflaaGreatDoorJLWa
import Derived.Test.YtkgakibhmcbflaaGreatDoorJMd
set_option linter.all false
namespace Gv
open Go.Value renaming slice→zS,bool→zB
open Option.some renaming inj→zI
open Go Go.Proofs
set_option maxRecDepth 20000
set_option maxHeartbeats 40000000
variable {G:Env} {K:Hp} {L:List nG} {w:World} {a1 a4:Option Addr} {c2 c5:Nat}
theorem aDe {a b:bI} {R:Int} (d:aI G K (L) w) (c:vI a b=some R):
  Calls Tryz.prog 81 ([str a,str b]:List Value).toArray w (gQ fun v w'=>v=i64 R∧aI G K (L) w'):=by
 refine aS Tryz.func81 rfl (by kernel_rfl) (by show (2:Nat)≤18;decide) ?_
 unfold vI at c
 refine aK (aF (v:=i64 0) (aG (aO (cI (aK (aL (v:=str a) (aL (v:=str b) (aD (aBd rfl rfl) (aF (v:=zB (a == b)) (aG ?_))))))))))
 rcases aH c with ⟨e,c⟩|⟨e,c⟩
 ·refine aM e rfl (aK (aF (v:=i64 0) (aG ?_)))
  obtain rfl:=zI c
  exact bK (bS (aX (bE Tryz.results81 rfl ⟨rfl,d⟩)))
 ·refine aJ e rfl (aK (aL (v:=str a) (aD (aBd rfl rfl) (aF (v:=zB (a == ([116,97,117]:bI))) (aG ?_)))))
  rcases aH c with ⟨g,c⟩|⟨g,c⟩
  ·refine aM g rfl (aK (aF (v:=i64 (-1)) (aG ?_)))
   obtain rfl:=zI c
   exact bK (bS (aX (bE Tryz.results81 rfl ⟨rfl,d⟩)))
  ·refine aJ g rfl (aK (aL (v:=str b) (aD (aBd rfl rfl) (aF (v:=zB (b == ([116,97,117]:bI))) (aG ?_)))))
   rcases aH c with ⟨h,c⟩|⟨h,c⟩
   ·refine aM h rfl (aK (aF (v:=i64 1) (aG ?_)))
    obtain rfl:=zI c
    exact bK (bS (aX (bE Tryz.results81 rfl ⟨rfl,d⟩)))
   ·refine aJ h rfl (aY (bA (aA (aK (aL (v:=str a) (aL (v:=str b) ?_))))))
    obtain ⟨l,m,c⟩:=aC c
    refine aQ (vs:=[str a,str b]) Tryz.call103 rfl (aKD d m) ?_
    rintro _ p ⟨rfl,n⟩
    refine aF (v:=i64 l) (aG ?_)
    obtain rfl:=zI c
    exact bK (bE Tryz.results81 rfl ⟨rfl,n⟩)
theorem wV {a:Int} {R:Bool} (c:aI G K (L) w) (b:jQ a=some R):
  Calls Tryz.prog 114 ([i64 a]:List Value).toArray w (gQ fun v w'=>v=zB R∧aI G K (L) w'):=by
 refine aS Tryz.func114 rfl (by kernel_rfl) (by show (1:Nat)≤6;decide) ?_
 unfold jQ at b
 refine aK (aF (v:=zB false) (aG (aK (aL (v:=i64 a) (aL (v:=i64 a) (aD (uK rfl rfl) (aF (v:=zB (a != a)) (aG ?_))))))))
 obtain rfl:=zI b
 exact bK (bE Tryz.results114 rfl ⟨rfl,c⟩)
theorem kQ {b y R:Int} (l:aI G K (L) w) (a:dU b y=some R):
  Calls Tryz.prog 85 ([i64 b,i64 y]:List Value).toArray w (gQ fun v w'=>v=i64 R∧aI G K (L) w'):=by
 refine aS Tryz.func85 rfl (by kernel_rfl) (by show (2:Nat)≤20;decide) ?_
 unfold dU at a
 refine aK (aF (v:=i64 0) (aG (aK (aL (v:=i64 b) ?_))))
 obtain ⟨k,m,a⟩:=aC a
 refine aQ (vs:=[i64 b]) Tryz.call114 rfl (wV l m) ?_
 rintro _ z ⟨rfl,n⟩
 refine aF (v:=zB k) (aG (aK (aL (v:=i64 y) ?_)))
 obtain ⟨d,o,a⟩:=aC a
 refine aQ (vs:=[i64 y]) Tryz.call114 rfl (wV n o) ?_
 rintro _ J ⟨rfl,c⟩
 refine aF (v:=zB d) (aG (aO (aK (aL (v:=zB k) (aG ?_)))))
 rcases aH a with ⟨e,a⟩|⟨e,a⟩
 ·refine aM e rfl (aO (aK (aL (v:=zB d) (aG ?_))))
  rcases aH a with ⟨g,a⟩|⟨g,a⟩
  ·refine aM g rfl (aK (aF (v:=i64 0) (aG ?_)))
   obtain rfl:=zI a
   exact bK (aX (aX (bE Tryz.results85 rfl ⟨rfl,c⟩)))
  ·refine aJ g rfl (aY (aA (aK (aF (v:=i64 (-1)) (aG ?_)))))
   obtain rfl:=zI a
   exact bK (aX (bE Tryz.results85 rfl ⟨rfl,c⟩))
 ·refine aJ e rfl (aY (aA (aO (aK (aL (v:=zB d) (aG ?_))))))
  rcases aH a with ⟨h,a⟩|⟨h,a⟩
  ·refine aM h rfl (aK (aF (v:=i64 1) (aG ?_)))
   obtain rfl:=zI a
   exact bK (aX (bE Tryz.results85 rfl ⟨rfl,c⟩))
  ·refine aJ h rfl (aY (aA (aO (aK (aL (v:=i64 b) (aL (v:=i64 y) (aD (cT rfl rfl) (aG ?_))))))))
   rcases aH a with ⟨i,a⟩|⟨i,a⟩
   ·refine aM i rfl (aK (aF (v:=i64 (-1)) (aG ?_)))
    obtain rfl:=zI a
    exact bK (aX (bE Tryz.results85 rfl ⟨rfl,c⟩))
   ·refine aJ i rfl (aY (aA (aO (aK (aL (v:=i64 b) (aL (v:=i64 y) (aD (sL rfl rfl) (aG ?_))))))))
    rcases aH a with ⟨j,a⟩|⟨j,a⟩
    ·refine aM j rfl (aK (aF (v:=i64 1) (aG ?_)))
     obtain rfl:=zI a
     exact bK (aX (bE Tryz.results85 rfl ⟨rfl,c⟩))
    ·refine aJ j rfl (aY (aA (aK (aF (v:=i64 0) (aG ?_)))))
     obtain rfl:=zI a
     exact bK (bE Tryz.results85 rfl ⟨rfl,c⟩)
theorem aEu {c:(List Int)} {R:Int} (q:aI G K (L) w) (l:bX K a1 c2 c) (b:uY c=some R):
  Calls Tryz.prog 93 ([zS a1 c.length c2]:List Value).toArray w (gQ fun v w'=>v=i64 R∧aI G K (L) w'):=by
 refine aS Tryz.func93 rfl (by kernel_rfl) (by show (1:Nat)≤18;decide) ?_
 unfold uY at b
 refine aK (aF (v:=i64 0) (aG (aK (aF (v:=i64 0) (aG (aO (aK (aL (v:=zS a1 c.length c2) (aD (bT (len:=c.length) sl_163 rfl) (aL (v:=i64 0) (aG (aZ (fun f w=>pP=some R∧f 3=i64 0∧aI G K (L) w) ?_ ?_))))))))))))
 ·rintro f w5 ⟨b,r,u⟩
  unfold pP at b
  refine aA (aK (aN r (aF (v:=i64 0) (aG ?_))))
  obtain rfl:=zI b
  exact bK (bE Tryz.results93 rfl ⟨rfl,u⟩)
 obtain ⟨a4,y,b⟩:=aC b
 refine cC y (fun (d:Int) f w=>f 3=i64 0∧f 6=zS a1 c.length c2∧f 7=i64 (c.length:Int)∧f 8=i64 d∧aI G K (L) w) ?_ ?_
 ·exact ⟨rfl,rfl,rfl,rfl,q⟩
 ·rintro d z f a5 a m ⟨h,n,o,i,g⟩
  replace a:gU c d=some z:=a
  unfold gU at a
  refine aK (aD (cT i o) (aG (aO ?_)))
  rcases aH a with ⟨j,a⟩|⟨j,a⟩
  ·refine aM j rfl (aY (aA (aO (cI (aK ?_)))))
   obtain ⟨e,p,a⟩:=aC a
   refine aD (cU sl_163 rfl l n rfl i p) ?_
   obtain ⟨a6,J,V⟩:=bX.el (sz:=1) rfl l p
   cases V
   refine aD (bG (t:=0) sc_3 g J rfl rfl) (aF (v:=i64 e) (aG (aK (aL (v:=i64 e) (aN h (aD (uK rfl rfl) (aG ?_)))))))
   rcases aH a with ⟨k,a⟩|⟨k,a⟩
   ·refine aM k rfl (aK (aL (v:=i64 e) (aF (v:=i64 e) (aG (bK (bS (aX (aX ?_))))))))
    have Z:=m _ (zI a).symm
    subst Z
    have b:(some e)=some R:=b
    obtain rfl:=zI b
    exact bS (aX (aX (bE Tryz.results93 rfl ⟨rfl,g⟩)))
   ·exact aJ k rfl (aY (bA (aA (aP (aD (cK i rfl) (aL (v:=i64 (wr (d+1))) (aG ⟨wr (d+1),(zI a).symm,h,n,o,rfl,g⟩)))))))
  ·refine aJ j rfl (cA (aV (aV ?_)))
   have a2:=m _ (zI a).symm
   subst a2
   have b:(pP)=some R:=b
   exact bN (aA ⟨b,h,g⟩)
theorem aAz {a b:Edge} {R:Int} (y:aI G K (L) w) (d:tF a b=some R):
  Calls Tryz.prog 62 ([Value.agg #[i64 a.F,i64 a.B,i64 a.To],Value.agg #[i64 b.F,i64 b.B,i64 b.To]]:List Value).toArray w (gQ fun v w'=>v=i64 R∧aI G K (L) w'):=by
 refine aS Tryz.func62 rfl (by kernel_rfl) (by show (2:Nat)≤22;decide) ?_
 unfold tF at d
 refine aK (eA (v:=Value.agg #[i64 a.F,i64 a.B,i64 a.To]) (vs:=[i64 a.F,i64 a.B,i64 a.To]) y rfl rfl (fun b1 w2 z=>(eA (v:=Value.agg #[i64 b.F,i64 b.B,i64 b.To]) (vs:=[i64 b.F,i64 b.B,i64 b.To]) z rfl rfl (fun b4 w5 J=>(aF (v:=i64 0) (aG (aO ?_)))))))
 obtain ⟨K7,V,k,Z,a0⟩:=aI.lendB (i:=0) J rfl
 obtain ⟨m,j,l,n,a1⟩:=aI.lendB (i:=0) Z rfl
 refine dQ (C:=fun w'=>∃ L',aI G m L' w') [(0,0),(1,0),(2,0),(3,0),(5,0),(6,0),(7,0),(8,0),(10,0),(11,0),(12,0),(13,0),(4,1),(9,1),(14,1),(15,1),(16,1),(17,0)] bP (by kernel_rfl) (fun _ hg=>⟨_,aI.mono n hg⟩) (fun c3 a2=>?_)
 have c:=aI.mono n a2
 refine bJ rfl (fun _ _=>bL (t':=0) iY rfl rfl) (bJ rfl (fun _ ⟨_,c⟩=>bG (t:=0) bY c l rfl rfl) (bJ rfl (fun _ _=>bL (t':=0) iY rfl rfl) (bJ rfl (fun _ ⟨_,c⟩=>bG (t:=0) bY c (k.mono j) rfl rfl) (bJ rfl (fun _ _=>bL (t':=1) iZ rfl rfl) (bJ rfl (fun _ ⟨_,c⟩=>bG (t:=1) bY c l rfl rfl) (bJ rfl (fun _ _=>bL (t':=1) iZ rfl rfl) (bJ rfl (fun _ ⟨_,c⟩=>bG (t:=1) bY c (k.mono j) rfl rfl) (bJ rfl (fun _ _=>bL (t':=2) iC rfl rfl) (bJ rfl (fun _ ⟨_,c⟩=>bG (t:=2) bY c l rfl rfl) (bJ rfl (fun _ _=>bL (t':=2) iC rfl rfl) (bJ rfl (fun _ ⟨_,c⟩=>bG (t:=2) bY c (k.mono j) rfl rfl) (gZ rfl ?_))))))))))))
 obtain ⟨e,a3,d⟩:=aC d
 refine aQ (vs:=[i64 a.F,i64 b.F]) Tryz.call85 rfl (kQ c a3) ?_
 rintro _ c4 ⟨rfl,o⟩
 refine bM (aA ⟨⟨_,o⟩,?_⟩)
 refine gZ rfl ?_
 obtain ⟨g,a4,d⟩:=aC d
 refine aQ (vs:=[i64 a.B,i64 b.B]) Tryz.call85 rfl (kQ o a4) ?_
 rintro _ c5 ⟨rfl,p⟩
 refine bM (aA ⟨⟨_,p⟩,?_⟩)
 refine gZ rfl ?_
 obtain ⟨h,a5,d⟩:=aC d
 refine aQ (vs:=[i64 a.To,i64 b.To]) Tryz.call85 rfl (kQ p a5) ?_
 rintro _ c6 ⟨rfl,q⟩
 refine bM (aA ⟨⟨_,q⟩,?_⟩)
 refine gZ rfl (cJ (Kt:=K) (xs:=([e,g,h]:List Int)) (cs:=[i64 e,i64 g,i64 h]) (vs:=[(0,i64 e),(1,i64 g),(2,i64 h)]) sl_163 ez_3 rfl rfl q rfl (by kernel_rfl) rfl rfl rfl ⟨rfl,rfl,rfl,trivial⟩ (fun r a6 (u:aI G m (aR 3 K r 3 ([e,g,h]:List Int)::L) a6)=>(bM (aA ⟨⟨_,u⟩,?_⟩))))
 refine gZ rfl ?_
 obtain ⟨c7,c8,a7,a8,a9⟩:=aI.lendS (i:=0) u (Hp.le_trans V j) rfl
 obtain ⟨b0,b2,d⟩:=aC d
 refine aQ (vs:=[zS r ([e,g,h]:List Int).length 3]) Tryz.call93 rfl (aEu a8 a7 b2) ?_
 rintro _ c9 ⟨rfl,b3⟩
 have x:=a9 _ _ b3
 refine bM (aA ⟨⟨_,x⟩,?_⟩)
 refine bJ rfl (fun _ _=>gB (v:=i64 b0) rfl) (gR ?_)
 have b5:=a1 _ _ x
 have b6:=a0 _ _ b5
 refine aA ?_
 obtain rfl:=zI d
 exact bK (bE Tryz.results62 rfl ⟨rfl,(aI.arr 3 [] b6 rfl)⟩)
theorem iU {c d:(List Int)} {R:Int} (hs:aI G K (L) w) (q:bX K a1 c2 c) (r:bX K a4 c5 d) (b:dW c d=some R):
  Calls Tryz.prog 52 ([zS a1 c.length c2,zS a4 d.length c5]:List Value).toArray w (gQ fun v w'=>v=i64 R∧aI G K (L) w'):=by
 refine aS Tryz.func52 rfl (by kernel_rfl) (by show (2:Nat)≤36;decide) ?_
 unfold dW at b
 refine aK (aF (v:=i64 0) (aG (aO (aK (aL (v:=zS a1 c.length c2) (aD (bT (len:=c.length) bO rfl) (aL (v:=i64 0) (aG (aZ (fun f w=>dL c d=some R∧f 0=zS a1 c.length c2∧f 1=zS a4 d.length c5∧aI G K (L) w) ?_ ?_)))))))))
 ·rintro f w9 ⟨b,e7,e8,u⟩
  unfold dL at b
  refine aA (aO (aK (aN e7 (aD (bT (len:=c.length) bO rfl) (aN e8 (aD (bT (len:=d.length) bO rfl) (aD (cT rfl rfl) (aG ?_))))))))
  rcases aH b with ⟨k,b⟩|⟨k,b⟩
  ·refine aM k rfl (aK (aF (v:=i64 (-1)) (aG ?_)))
   obtain rfl:=zI b
   exact bK (aX (bE Tryz.results52 rfl ⟨rfl,u⟩))
  ·refine aJ k rfl (aY (aA (aK (aF (v:=i64 0) (aG ?_)))))
   obtain rfl:=zI b
   exact bK (bE Tryz.results52 rfl ⟨rfl,u⟩)
 obtain ⟨c0,a7,b⟩:=aC b
 refine cC a7 (fun (e:Int) f w=>f 0=zS a1 c.length c2∧f 1=zS a4 d.length c5∧f 9=zS a1 c.length c2∧f 10=i64 (c.length:Int)∧f 11=i64 e∧aI G K (L) w) ?_ ?_
 ·exact ⟨rfl,rfl,rfl,rfl,rfl,hs⟩
 ·rintro e a8 f c1 a l ⟨x,i,y,z,j,g⟩
  replace a:bR c d e=some a8:=a
  unfold bR at a
  refine aK (aD (cT j z) (aG (aO ?_)))
  rcases aH a with ⟨c48,a⟩|⟨c48,a⟩
  ·refine aM c48 rfl (aY (aA (aO (cI (aK (aN j ?_))))))
   obtain ⟨m,J,a⟩:=aC a
   refine aD (cU bO rfl q y rfl j J) ?_
   obtain ⟨c3,a9,b0⟩:=bX.el (sz:=1) rfl q J
   cases b0
   refine aD (bG (t:=0) bY g a9 rfl rfl) (aF (v:=i64 e) (aF (v:=i64 m) (aG (aO (aK (aL (v:=i64 e) (aN i (aD (bT (len:=d.length) bO rfl) (aD (uJ rfl rfl) (aG ?_))))))))))
   rcases aH a with ⟨n,a⟩|⟨n,a⟩
   ·refine aM n rfl (aK (aF (v:=i64 1) (aG (bK (aX (bS (aX (aX ?_))))))))
    have b1:=l _ (zI a).symm
    subst b1
    have b:(some 1)=some R:=b
    obtain rfl:=zI b
    exact bS (aX (aX (bE Tryz.results52 rfl ⟨rfl,g⟩)))
   ·refine aJ n rfl (aY (aA (aK (aN i (aL (v:=i64 e) ?_)))))
    obtain ⟨o,V,a⟩:=aC a
    refine aD (cU bO rfl r rfl rfl rfl V) ?_
    obtain ⟨c4,b3,b4⟩:=bX.el (sz:=1) rfl r V
    cases b4
    refine aD (bG (t:=0) bY g b3 rfl rfl) (aF (v:=i64 o) (aG (aK (aL (v:=i64 m) (aL (v:=i64 o) ?_)))))
    obtain ⟨h,b5,a⟩:=aC a
    refine aQ (vs:=[i64 m,i64 o]) Tryz.call85 rfl (kQ g b5) ?_
    rintro _ c6 ⟨rfl,Z⟩
    refine aF (v:=i64 h) (aG (aK (aL (v:=i64 h) (aD (uK rfl rfl) (aG ?_)))))
    rcases aH a with ⟨p,a⟩|⟨p,a⟩
    ·refine aM p rfl (aK (aL (v:=i64 h) (aF (v:=i64 h) (aG (bK (bS (aX (aX ?_))))))))
     have b6:=l _ (zI a).symm
     subst b6
     have b:(some h)=some R:=b
     obtain rfl:=zI b
     exact bS (aX (aX (bE Tryz.results52 rfl ⟨rfl,Z⟩)))
    ·exact aJ p rfl (aY (bA (aA (aP (aD (cK j rfl) (aL (v:=i64 (wr (e+1))) (aG ⟨wr (e+1),(zI a).symm,x,i,y,z,rfl,Z⟩)))))))
  ·refine aJ c48 rfl (cA (aV (aV ?_)))
   have b8:=l _ (zI a).symm
   subst b8
   have b:(dL c d)=some R:=b
   exact bN (aA ⟨b,x,i,g⟩)
end Gv
