/- Walks, printed by program. -/
import Derived.Test.YtmlgcbjkfcapaaaGreatDoorJLWa
import Derived.Test.YtmlgcbjkfcapaaaGreatDoorJMd
set_option linter.all false
namespace Gv
open Go.Value renaming slice→zS,bool→zB,agg→zA
open Option.some renaming inj→zI
open Go Go.Proofs
set_option maxRecDepth 20000
set_option maxHeartbeats 40000000
variable {G:Env} {K:Hp} {L:List pH} {w:World} {a1 a4:Option Addr} {c2 c5:Nat}
theorem wE {a:Int} {R:Bool} (c:aK G K (L) w) (b:kJ a=some R):
  Calls Tryz.prog 221 ([i64 a]:List Value).toArray w (iK fun v w'=>v=zB R∧aK G K (L) w'):=by
 refine aX Tryz.func221 rfl (by kernel_rfl) (by show (1:Nat)≤6;decide) ?_
 unfold kJ at b
 refine aM (aH (v:=zB false) (aI (aM (aP (v:=i64 a) (aP (v:=i64 a) (aF (oO rfl rfl) (aH (v:=zB (a != a)) (aI ?_))))))))
 obtain rfl:=zI b
 exact bH (bF Tryz.results221 rfl ⟨rfl,c⟩)
theorem kI {b y R:Int} (l:aK G K (L) w) (a:eY b y=some R):
  Calls Tryz.prog 163 ([i64 b,i64 y]:List Value).toArray w (iK fun v w'=>v=i64 R∧aK G K (L) w'):=by
 refine aX Tryz.func163 rfl (by kernel_rfl) (by show (2:Nat)≤20;decide) ?_
 unfold eY at a
 refine aM (aH (v:=i64 0) (aI (aM (aP (v:=i64 b) ?_))))
 obtain ⟨k,m,a⟩:=aD a
 refine aU (vs:=[i64 b]) Tryz.call221 rfl (wE l m) ?_
 rintro _ z ⟨rfl,n⟩
 refine aH (v:=zB k) (aI (aM (aP (v:=i64 y) ?_)))
 obtain ⟨d,o,a⟩:=aD a
 refine aU (vs:=[i64 y]) Tryz.call221 rfl (wE n o) ?_
 rintro _ J ⟨rfl,c⟩
 refine aH (v:=zB d) (aI (aQ (aM (aP (v:=zB k) (aI ?_)))))
 rcases aJ a with ⟨e,a⟩|⟨e,a⟩
 ·refine aO e rfl (aQ (aM (aP (v:=zB d) (aI ?_))))
  rcases aJ a with ⟨g,a⟩|⟨g,a⟩
  ·refine aO g rfl (aM (aH (v:=i64 0) (aI ?_)))
   obtain rfl:=zI a
   exact bH (aR (aR (bF Tryz.results163 rfl ⟨rfl,c⟩)))
  ·refine aL g rfl (aY (aC (aM (aH (v:=i64 (-1)) (aI ?_)))))
   obtain rfl:=zI a
   exact bH (aR (bF Tryz.results163 rfl ⟨rfl,c⟩))
 ·refine aL e rfl (aY (aC (aQ (aM (aP (v:=zB d) (aI ?_))))))
  rcases aJ a with ⟨h,a⟩|⟨h,a⟩
  ·refine aO h rfl (aM (aH (v:=i64 1) (aI ?_)))
   obtain rfl:=zI a
   exact bH (aR (bF Tryz.results163 rfl ⟨rfl,c⟩))
  ·refine aL h rfl (aY (aC (aQ (aM (aP (v:=i64 b) (aP (v:=i64 y) (aF (cG rfl rfl) (aI ?_))))))))
   rcases aJ a with ⟨i,a⟩|⟨i,a⟩
   ·refine aO i rfl (aM (aH (v:=i64 (-1)) (aI ?_)))
    obtain rfl:=zI a
    exact bH (aR (bF Tryz.results163 rfl ⟨rfl,c⟩))
   ·refine aL i rfl (aY (aC (aQ (aM (aP (v:=i64 b) (aP (v:=i64 y) (aF (oM rfl rfl) (aI ?_))))))))
    rcases aJ a with ⟨j,a⟩|⟨j,a⟩
    ·refine aO j rfl (aM (aH (v:=i64 1) (aI ?_)))
     obtain rfl:=zI a
     exact bH (aR (bF Tryz.results163 rfl ⟨rfl,c⟩))
    ·refine aL j rfl (aY (aC (aM (aH (v:=i64 0) (aI ?_)))))
     obtain rfl:=zI a
     exact bH (bF Tryz.results163 rfl ⟨rfl,c⟩)
theorem tN {c d:(List Int)} {R:Int} (hs:aK G K (L) w) (q:dB K a1 c2 c) (r:dB K a4 c5 d) (b:fR c d=some R):
  Calls Tryz.prog 125 ([zS a1 c.length c2,zS a4 d.length c5]:List Value).toArray w (iK fun v w'=>v=i64 R∧aK G K (L) w'):=by
 refine aX Tryz.func125 rfl (by kernel_rfl) (by show (2:Nat)≤36;decide) ?_
 unfold fR at b
 refine aM (aH (v:=i64 0) (aI (aQ (aM (aP (v:=zS a1 c.length c2) (aF (bN (len:=c.length) bY rfl) (aP (v:=i64 0) (aI (bE (fun f w=>eD c d=some R∧f 0=zS a1 c.length c2∧f 1=zS a4 d.length c5∧aK G K (L) w) ?_ ?_)))))))))
 ·rintro f w9 ⟨b,e7,e8,u⟩
  unfold eD at b
  refine aC (aQ (aM (aT e7 (aF (bN (len:=c.length) bY rfl) (aT e8 (aF (bN (len:=d.length) bY rfl) (aF (cG rfl rfl) (aI ?_))))))))
  rcases aJ b with ⟨k,b⟩|⟨k,b⟩
  ·refine aO k rfl (aM (aH (v:=i64 (-1)) (aI ?_)))
   obtain rfl:=zI b
   exact bH (aR (bF Tryz.results125 rfl ⟨rfl,u⟩))
  ·refine aL k rfl (aY (aC (aM (aH (v:=i64 0) (aI ?_)))))
   obtain rfl:=zI b
   exact bH (bF Tryz.results125 rfl ⟨rfl,u⟩)
 obtain ⟨c0,a7,b⟩:=aD b
 refine cD a7 (fun (e:Int) f w=>f 0=zS a1 c.length c2∧f 1=zS a4 d.length c5∧f 9=zS a1 c.length c2∧f 10=i64 (c.length:Int)∧f 11=i64 e∧aK G K (L) w) ?_ ?_
 ·exact ⟨rfl,rfl,rfl,rfl,rfl,hs⟩
 ·rintro e a8 f c1 a l ⟨x,i,y,z,j,g⟩
  replace a:cO c d e=some a8:=a
  unfold cO at a
  refine aM (aF (cG j z) (aI (aQ ?_)))
  rcases aJ a with ⟨c48,a⟩|⟨c48,a⟩
  ·refine aO c48 rfl (aY (aC (aQ (cW (aM (aT j ?_))))))
   obtain ⟨m,J,a⟩:=aD a
   refine aF (dN bY rfl q y rfl j J) ?_
   obtain ⟨c3,a9,b0⟩:=dB.el (sz:=1) rfl q J
   cases b0
   refine aF (bK (t:=0) cV g a9 rfl rfl) (aH (v:=i64 e) (aH (v:=i64 m) (aI (aQ (aM (aP (v:=i64 e) (aT i (aF (bN (len:=d.length) bY rfl) (aF (tU rfl rfl) (aI ?_))))))))))
   rcases aJ a with ⟨n,a⟩|⟨n,a⟩
   ·refine aO n rfl (aM (aH (v:=i64 1) (aI (bH (aR (bQ (aR (aR ?_))))))))
    have b1:=l _ (zI a).symm
    subst b1
    have b:(some 1)=some R:=b
    obtain rfl:=zI b
    exact bQ (aR (aR (bF Tryz.results125 rfl ⟨rfl,g⟩)))
   ·refine aL n rfl (aY (aC (aM (aT i (aP (v:=i64 e) ?_)))))
    obtain ⟨o,V,a⟩:=aD a
    refine aF (dN bY rfl r rfl rfl rfl V) ?_
    obtain ⟨c4,b3,b4⟩:=dB.el (sz:=1) rfl r V
    cases b4
    refine aF (bK (t:=0) cV g b3 rfl rfl) (aH (v:=i64 o) (aI (aM (aP (v:=i64 m) (aP (v:=i64 o) ?_)))))
    obtain ⟨h,b5,a⟩:=aD a
    refine aU (vs:=[i64 m,i64 o]) Tryz.call163 rfl (kI g b5) ?_
    rintro _ c6 ⟨rfl,Z⟩
    refine aH (v:=i64 h) (aI (aM (aP (v:=i64 h) (aF (oO rfl rfl) (aI ?_)))))
    rcases aJ a with ⟨p,a⟩|⟨p,a⟩
    ·refine aO p rfl (aM (aP (v:=i64 h) (aH (v:=i64 h) (aI (bH (bQ (aR (aR ?_))))))))
     have b6:=l _ (zI a).symm
     subst b6
     have b:(some h)=some R:=b
     obtain rfl:=zI b
     exact bQ (aR (aR (bF Tryz.results125 rfl ⟨rfl,Z⟩)))
    ·exact aL p rfl (aY (bG (aC (aS (aF (cQ j rfl) (aP (v:=i64 (wr (e+1))) (aI ⟨wr (e+1),(zI a).symm,x,i,y,z,rfl,Z⟩)))))))
  ·refine aL c48 rfl (cB (aV (aV ?_)))
   have b8:=l _ (zI a).symm
   subst b8
   have b:(eD c d)=some R:=b
   exact bJ (aC ⟨b,x,i,g⟩)
theorem aEb {p q:(Int × Int)} {R:Int} (d:aK G K (L) w) (b:xO p q=some R):
  Calls Tryz.prog 124 ([zA #[i64 p.1,i64 p.2],zA #[i64 q.1,i64 q.2]]:List Value).toArray w (iK fun v w'=>v=i64 R∧aK G K (L) w'):=by
 refine aX Tryz.func124 rfl (by kernel_rfl) (by show (2:Nat)≤8;decide) ?_
 unfold xO at b
 refine aM (gP (v:=zA #[i64 p.1,i64 p.2]) (vs:=[i64 p.1,i64 p.2]) d rfl rfl (fun e w2 g=>(gP (v:=zA #[i64 q.1,i64 q.2]) (vs:=[i64 q.1,i64 q.2]) g rfl rfl (fun h w5 j=>(aH (v:=i64 0) (aI (aQ ?_)))))))
 obtain ⟨K7,a3,k,l,m⟩:=aK.lendB (i:=0) j rfl
 obtain ⟨n,o,r,a,t⟩:=aK.lendB (i:=0) l rfl
 refine dR (C:=fun w'=>aK G n (L) w') bT (by kernel_rfl) (aK.mono a (dQ.drew _)) ?_
 have u:=rdS_arr r
 refine aW (fun _ a=>R_slA aBb rfl) ?_
 have x:=rdS_arr (k.mono o)
 refine aW (fun _ a=>R_slA aBb rfl) ?_
 obtain ⟨c,y,b⟩:=aD b
 refine pK (vs:=[zS (some ⟨e,0,none⟩) ([p.1,p.2]:List Int).length 2,zS (some ⟨h,0,none⟩) ([q.1,q.2]:List Int).length 2]) (v:=i64 c) Tryz.call125 rfl (fun _ a=>(tN a u x y)) (aW (fun _ a=>dH (v:=i64 c) rfl) (eF (fun a4 z=>?_)))
 have J:=t _ _ z
 have V:=m _ _ J
 refine aC ?_
 obtain rfl:=zI b
 exact bH (bF Tryz.results124 rfl ⟨rfl,(aK.arr 2 [] V rfl)⟩)
theorem aDB {a b:bB} {R:Int} (d:aK G K (L) w) (c:vB a b=some R):
  Calls Tryz.prog 188 ([str a,str b]:List Value).toArray w (iK fun v w'=>v=i64 R∧aK G K (L) w'):=by
 refine aX Tryz.func188 rfl (by kernel_rfl) (by show (2:Nat)≤18;decide) ?_
 unfold vB at c
 refine aM (aH (v:=i64 0) (aI (aQ (cW (aM (aP (v:=str a) (aP (v:=str b) (aF (wN rfl rfl) (aH (v:=zB (a == b)) (aI ?_))))))))))
 rcases aJ c with ⟨e,c⟩|⟨e,c⟩
 ·refine aO e rfl (aM (aH (v:=i64 0) (aI ?_)))
  obtain rfl:=zI c
  exact bH (bQ (aR (bF Tryz.results188 rfl ⟨rfl,d⟩)))
 ·refine aL e rfl (aM (aP (v:=str a) (aF (wN rfl rfl) (aH (v:=zB (a == ([116,97,117]:bB))) (aI ?_)))))
  rcases aJ c with ⟨g,c⟩|⟨g,c⟩
  ·refine aO g rfl (aM (aH (v:=i64 (-1)) (aI ?_)))
   obtain rfl:=zI c
   exact bH (bQ (aR (bF Tryz.results188 rfl ⟨rfl,d⟩)))
  ·refine aL g rfl (aM (aP (v:=str b) (aF (wN rfl rfl) (aH (v:=zB (b == ([116,97,117]:bB))) (aI ?_)))))
   rcases aJ c with ⟨h,c⟩|⟨h,c⟩
   ·refine aO h rfl (aM (aH (v:=i64 1) (aI ?_)))
    obtain rfl:=zI c
    exact bH (bQ (aR (bF Tryz.results188 rfl ⟨rfl,d⟩)))
   ·refine aL h rfl (aY (bG (aC (aM (aP (v:=str a) (aP (v:=str b) ?_))))))
    obtain ⟨l,m,c⟩:=aD c
    refine aU (vs:=[str a,str b]) Tryz.call243 rfl (aKL d m) ?_
    rintro _ p ⟨rfl,n⟩
    refine aH (v:=i64 l) (aI ?_)
    obtain rfl:=zI c
    exact bH (bF Tryz.results188 rfl ⟨rfl,n⟩)
theorem aEx {c:(List Int)} {R:Int} (q:aK G K (L) w) (l:dB K a1 c2 c) (b:uN c=some R):
  Calls Tryz.prog 162 ([zS a1 c.length c2]:List Value).toArray w (iK fun v w'=>v=i64 R∧aK G K (L) w'):=by
 refine aX Tryz.func162 rfl (by kernel_rfl) (by show (1:Nat)≤18;decide) ?_
 unfold uN at b
 refine aM (aH (v:=i64 0) (aI (aM (aH (v:=i64 0) (aI (aQ (aM (aP (v:=zS a1 c.length c2) (aF (bN (len:=c.length) sl_245 rfl) (aP (v:=i64 0) (aI (bE (fun f w=>pB=some R∧f 3=i64 0∧aK G K (L) w) ?_ ?_))))))))))))
 ·rintro f w5 ⟨b,r,u⟩
  unfold pB at b
  refine aC (aM (aT r (aH (v:=i64 0) (aI ?_))))
  obtain rfl:=zI b
  exact bH (bF Tryz.results162 rfl ⟨rfl,u⟩)
 obtain ⟨a4,y,b⟩:=aD b
 refine cD y (fun (d:Int) f w=>f 3=i64 0∧f 6=zS a1 c.length c2∧f 7=i64 (c.length:Int)∧f 8=i64 d∧aK G K (L) w) ?_ ?_
 ·exact ⟨rfl,rfl,rfl,rfl,q⟩
 ·rintro d z f a5 a m ⟨h,n,o,i,g⟩
  replace a:gU c d=some z:=a
  unfold gU at a
  refine aM (aF (cG i o) (aI (aQ ?_)))
  rcases aJ a with ⟨j,a⟩|⟨j,a⟩
  ·refine aO j rfl (aY (aC (aQ (cW (aM ?_)))))
   obtain ⟨e,p,a⟩:=aD a
   refine aF (dN sl_245 rfl l n rfl i p) ?_
   obtain ⟨a6,J,V⟩:=dB.el (sz:=1) rfl l p
   cases V
   refine aF (bK (t:=0) sc_3 g J rfl rfl) (aH (v:=i64 e) (aI (aM (aP (v:=i64 e) (aT h (aF (oO rfl rfl) (aI ?_)))))))
   rcases aJ a with ⟨k,a⟩|⟨k,a⟩
   ·refine aO k rfl (aM (aP (v:=i64 e) (aH (v:=i64 e) (aI (bH (bQ (aR (aR ?_))))))))
    have Z:=m _ (zI a).symm
    subst Z
    have b:(some e)=some R:=b
    obtain rfl:=zI b
    exact bQ (aR (aR (bF Tryz.results162 rfl ⟨rfl,g⟩)))
   ·exact aL k rfl (aY (bG (aC (aS (aF (cQ i rfl) (aP (v:=i64 (wr (d+1))) (aI ⟨wr (d+1),(zI a).symm,h,n,o,rfl,g⟩)))))))
  ·refine aL j rfl (cB (aV (aV ?_)))
   have a2:=m _ (zI a).symm
   subst a2
   have b:(pB)=some R:=b
   exact bJ (aC ⟨b,h,g⟩)
theorem aAt {a b:Edge} {R:Int} (y:aK G K (L) w) (d:rY a b=some R):
  Calls Tryz.prog 81 ([zA #[i64 a.F,i64 a.B,i64 a.To],zA #[i64 b.F,i64 b.B,i64 b.To]]:List Value).toArray w (iK fun v w'=>v=i64 R∧aK G K (L) w'):=by
 refine aX Tryz.func81 rfl (by kernel_rfl) (by show (2:Nat)≤22;decide) ?_
 unfold rY at d
 refine aM (gP (v:=zA #[i64 a.F,i64 a.B,i64 a.To]) (vs:=[i64 a.F,i64 a.B,i64 a.To]) y rfl rfl (fun b1 w2 z=>(gP (v:=zA #[i64 b.F,i64 b.B,i64 b.To]) (vs:=[i64 b.F,i64 b.B,i64 b.To]) z rfl rfl (fun b4 w5 J=>(aH (v:=i64 0) (aI (aQ ?_)))))))
 obtain ⟨K7,V,k,Z,a0⟩:=aK.lendB (i:=0) J rfl
 obtain ⟨m,j,l,n,a1⟩:=aK.lendB (i:=0) Z rfl
 refine gA (C:=fun w'=>∃ L',aK G m L' w') [(0,0),(1,0),(2,0),(3,0),(5,0),(6,0),(7,0),(8,0),(10,0),(11,0),(12,0),(13,0),(4,1),(9,1),(14,1),(15,1),(16,1),(17,0)] bT (by kernel_rfl) (fun _ hg=>⟨_,aK.mono n hg⟩) (fun c3 a2=>?_)
 have c:=aK.mono n a2
 refine bZ rfl (fun _ _=>bL (t':=0) kG rfl rfl) (bZ rfl (fun _ ⟨_,c⟩=>bK (t:=0) cV c l rfl rfl) (bZ rfl (fun _ _=>bL (t':=0) kG rfl rfl) (bZ rfl (fun _ ⟨_,c⟩=>bK (t:=0) cV c (k.mono j) rfl rfl) (bZ rfl (fun _ _=>bL (t':=1) iF rfl rfl) (bZ rfl (fun _ ⟨_,c⟩=>bK (t:=1) cV c l rfl rfl) (bZ rfl (fun _ _=>bL (t':=1) iF rfl rfl) (bZ rfl (fun _ ⟨_,c⟩=>bK (t:=1) cV c (k.mono j) rfl rfl) (bZ rfl (fun _ _=>bL (t':=2) gX rfl rfl) (bZ rfl (fun _ ⟨_,c⟩=>bK (t:=2) cV c l rfl rfl) (bZ rfl (fun _ _=>bL (t':=2) gX rfl rfl) (bZ rfl (fun _ ⟨_,c⟩=>bK (t:=2) cV c (k.mono j) rfl rfl) (kD rfl ?_))))))))))))
 obtain ⟨e,a3,d⟩:=aD d
 refine aU (vs:=[i64 a.F,i64 b.F]) Tryz.call163 rfl (kI c a3) ?_
 rintro _ c4 ⟨rfl,o⟩
 refine bA (aC ⟨⟨_,o⟩,?_⟩)
 refine kD rfl ?_
 obtain ⟨g,a4,d⟩:=aD d
 refine aU (vs:=[i64 a.B,i64 b.B]) Tryz.call163 rfl (kI o a4) ?_
 rintro _ c5 ⟨rfl,p⟩
 refine bA (aC ⟨⟨_,p⟩,?_⟩)
 refine kD rfl ?_
 obtain ⟨h,a5,d⟩:=aD d
 refine aU (vs:=[i64 a.To,i64 b.To]) Tryz.call163 rfl (kI p a5) ?_
 rintro _ c6 ⟨rfl,q⟩
 refine bA (aC ⟨⟨_,q⟩,?_⟩)
 refine kD rfl (cT (Kt:=K) (xs:=([e,g,h]:List Int)) (cs:=[i64 e,i64 g,i64 h]) (vs:=[(0,i64 e),(1,i64 g),(2,i64 h)]) sl_245 ez_3 rfl rfl q rfl (by kernel_rfl) rfl rfl rfl ⟨rfl,rfl,rfl,trivial⟩ (fun r a6 (u:aK G m (aN 3 K r 3 ([e,g,h]:List Int)::L) a6)=>(bA (aC ⟨⟨_,u⟩,?_⟩))))
 refine kD rfl ?_
 obtain ⟨c7,c8,a7,a8,a9⟩:=aK.lendS (i:=0) u (Hp.le_trans V j) rfl
 obtain ⟨b0,b2,d⟩:=aD d
 refine aU (vs:=[zS r ([e,g,h]:List Int).length 3]) Tryz.call162 rfl (aEx a8 a7 b2) ?_
 rintro _ c9 ⟨rfl,b3⟩
 have x:=a9 _ _ b3
 refine bA (aC ⟨⟨_,x⟩,?_⟩)
 refine bZ rfl (fun _ _=>dH (v:=i64 b0) rfl) (lY ?_)
 have b5:=a1 _ _ x
 have b6:=a0 _ _ b5
 refine aC ?_
 obtain rfl:=zI d
 exact bH (bF Tryz.results81 rfl ⟨rfl,(aK.arr 3 [] b6 rfl)⟩)
end Gv
