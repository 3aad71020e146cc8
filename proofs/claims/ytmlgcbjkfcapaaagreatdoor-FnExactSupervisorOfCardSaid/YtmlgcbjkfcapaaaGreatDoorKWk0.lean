/- Walks, printed by program. -/
import Derived.Test.YtmlgcbjkfcapaaaGreatDoorKLWa
import Derived.Test.YtmlgcbjkfcapaaaGreatDoorKMd
set_option linter.all false
namespace Gv
open Go.Value renaming slice→zS,bool→zB
open Option.some renaming inj→zI
open Go Go.Proofs
set_option maxRecDepth 20000
set_option maxHeartbeats 40000000
variable {G:Env} {K:Hp} {L:List qD} {w:World} {a1 a4:Option Addr} {c2 c5:Nat}
theorem aEG {a b:aZ} {R:Int} (d:aL G K (L) w) (c:wW a b=some R):
  Calls Tryz.prog 188 ([cL a,cL b]:List Value).toArray w (fV fun v w'=>v=i64 R∧aL G K (L) w'):=by
 refine aT Tryz.func188 rfl (by kernel_rfl) (by show (2:Nat)≤18;decide) ?_
 unfold wW at c
 refine aAZ (pM (v:=i64 0) (aAf (aH (cU (aAZ (aBl (v:=cL a) (aBl (v:=cL b) (aB (aBb rfl rfl) (pM (v:=zB (a == b)) (aAf ?_))))))))))
 rcases aK c with ⟨e,c⟩|⟨e,c⟩
 ·refine aO e rfl (aAZ (pM (v:=i64 0) (aAf ?_)))
  cases zI c
  exact bF (bN (aS (bC Tryz.results188 rfl ⟨rfl,d⟩)))
 ·refine aM e rfl (aAZ (aBl (v:=cL a) (aB (aBb rfl rfl) (pM (v:=zB (a == ([116,97,117]:aZ))) (aAf ?_)))))
  rcases aK c with ⟨g,c⟩|⟨g,c⟩
  ·refine aO g rfl (aAZ (pM (v:=i64 (-1)) (aAf ?_)))
   cases zI c
   exact bF (bN (aS (bC Tryz.results188 rfl ⟨rfl,d⟩)))
  ·refine aM g rfl (aAZ (aBl (v:=cL b) (aB (aBb rfl rfl) (pM (v:=zB (b == ([116,97,117]:aZ))) (aAf ?_)))))
   rcases aK c with ⟨h,c⟩|⟨h,c⟩
   ·refine aO h rfl (aAZ (pM (v:=i64 1) (aAf ?_)))
    cases zI c
    exact bF (bN (aS (bC Tryz.results188 rfl ⟨rfl,d⟩)))
   ·refine aM h rfl (aW (bG (aA (aAZ (aBl (v:=cL a) (aBl (v:=cL b) ?_))))))
    obtain ⟨l,m,c⟩:=aI c
    refine aU (vs:=[cL a,cL b]) Tryz.call243 rfl (aMd d m) ?_
    rintro _ p ⟨rfl,n⟩
    refine pM (v:=i64 l) (aAf ?_)
    cases zI c
    exact bF (bC Tryz.results188 rfl ⟨rfl,n⟩)
theorem xW {a:Int} {R:Bool} (c:aL G K (L) w) (b:lU a=some R):
  Calls Tryz.prog 221 ([i64 a]:List Value).toArray w (fV fun v w'=>v=zB R∧aL G K (L) w'):=by
 refine aT Tryz.func221 rfl (by kernel_rfl) (by show (1:Nat)≤6;decide) ?_
 unfold lU at b
 refine aAZ (pM (v:=zB false) (aAf (aAZ (aBl (v:=i64 a) (aBl (v:=i64 a) (aB (oZ rfl rfl) (pM (v:=zB (a != a)) (aAf ?_))))))))
 cases zI b
 exact bF (bC Tryz.results221 rfl ⟨rfl,c⟩)
theorem lK {b y R:Int} (l:aL G K (L) w) (a:fB b y=some R):
  Calls Tryz.prog 163 ([i64 b,i64 y]:List Value).toArray w (fV fun v w'=>v=i64 R∧aL G K (L) w'):=by
 refine aT Tryz.func163 rfl (by kernel_rfl) (by show (2:Nat)≤20;decide) ?_
 unfold fB at a
 refine aAZ (pM (v:=i64 0) (aAf (aAZ (aBl (v:=i64 b) ?_))))
 obtain ⟨k,m,a⟩:=aI a
 refine aU (vs:=[i64 b]) Tryz.call221 rfl (xW l m) ?_
 rintro _ z ⟨rfl,n⟩
 refine pM (v:=zB k) (aAf (aAZ (aBl (v:=i64 y) ?_)))
 obtain ⟨d,o,a⟩:=aI a
 refine aU (vs:=[i64 y]) Tryz.call221 rfl (xW n o) ?_
 rintro _ J ⟨rfl,c⟩
 refine pM (v:=zB d) (aAf (aH (aAZ (aBl (v:=zB k) (aAf ?_)))))
 rcases aK a with ⟨e,a⟩|⟨e,a⟩
 ·refine aO e rfl (aH (aAZ (aBl (v:=zB d) (aAf ?_))))
  rcases aK a with ⟨g,a⟩|⟨g,a⟩
  ·refine aO g rfl (aAZ (pM (v:=i64 0) (aAf ?_)))
   cases zI a
   exact bF (aS (aS (bC Tryz.results163 rfl ⟨rfl,c⟩)))
  ·refine aM g rfl (aW (aA (aAZ (pM (v:=i64 (-1)) (aAf ?_)))))
   cases zI a
   exact bF (aS (bC Tryz.results163 rfl ⟨rfl,c⟩))
 ·refine aM e rfl (aW (aA (aH (aAZ (aBl (v:=zB d) (aAf ?_))))))
  rcases aK a with ⟨h,a⟩|⟨h,a⟩
  ·refine aO h rfl (aAZ (pM (v:=i64 1) (aAf ?_)))
   cases zI a
   exact bF (aS (bC Tryz.results163 rfl ⟨rfl,c⟩))
  ·refine aM h rfl (aW (aA (aH (aAZ (aBl (v:=i64 b) (aBl (v:=i64 y) (aB (cJ rfl rfl) (aAf ?_))))))))
   rcases aK a with ⟨i,a⟩|⟨i,a⟩
   ·refine aO i rfl (aAZ (pM (v:=i64 (-1)) (aAf ?_)))
    cases zI a
    exact bF (aS (bC Tryz.results163 rfl ⟨rfl,c⟩))
   ·refine aM i rfl (aW (aA (aH (aAZ (aBl (v:=i64 b) (aBl (v:=i64 y) (aB (mL rfl rfl) (aAf ?_))))))))
    rcases aK a with ⟨j,a⟩|⟨j,a⟩
    ·refine aO j rfl (aAZ (pM (v:=i64 1) (aAf ?_)))
     cases zI a
     exact bF (aS (bC Tryz.results163 rfl ⟨rfl,c⟩))
    ·refine aM j rfl (aW (aA (aAZ (pM (v:=i64 0) (aAf ?_)))))
     cases zI a
     exact bF (bC Tryz.results163 rfl ⟨rfl,c⟩)
theorem aFL {c:(List Int)} {R:Int} (q:aL G K (L) w) (l:bT K a1 c2 c) (b:wL c=some R):
  Calls Tryz.prog 162 ([zS a1 c.length c2]:List Value).toArray w (fV fun v w'=>v=i64 R∧aL G K (L) w'):=by
 refine aT Tryz.func162 rfl (by kernel_rfl) (by show (1:Nat)≤18;decide) ?_
 unfold wL at b
 refine aAZ (pM (v:=i64 0) (aAf (aAZ (pM (v:=i64 0) (aAf (aH (aAZ (aBl (v:=zS a1 c.length c2) (aB (bQ (len:=c.length) sl_245 rfl) (aBl (v:=i64 0) (aAf (bD (fun f w=>qX=some R∧f 3=i64 0∧aL G K (L) w) ?_ ?_))))))))))))
 ·rintro f w5 ⟨b,r,u⟩
  unfold qX at b
  refine aA (aAZ (aCv r (pM (v:=i64 0) (aAf ?_))))
  cases zI b
  exact bF (bC Tryz.results162 rfl ⟨rfl,u⟩)
 obtain ⟨a4,y,b⟩:=aI b
 refine cD y (fun (d:Int) f w=>f 3=i64 0∧f 6=zS a1 c.length c2∧f 7=i64 (c.length:Int)∧f 8=i64 d∧aL G K (L) w) ?_ ?_
 ·exact ⟨rfl,rfl,rfl,rfl,q⟩
 ·rintro d z f a5 a m ⟨h,n,o,i,g⟩
  replace a:iK c d=some z:=a
  unfold iK at a
  refine aAZ (aB (cJ i o) (aAf (aH ?_)))
  rcases aK a with ⟨j,a⟩|⟨j,a⟩
  ·refine aO j rfl (aW (aA (aH (cU (aAZ ?_)))))
   obtain ⟨e,p,a⟩:=aI a
   refine aB (cO sl_245 rfl l n rfl i p) ?_
   obtain ⟨a6,J,V⟩:=bT.el (sz:=1) rfl l p
   cases V
   refine aB (bH (t:=0) sc_3 g J rfl rfl) (pM (v:=i64 e) (aAf (aAZ (aBl (v:=i64 e) (aCv h (aB (oZ rfl rfl) (aAf ?_)))))))
   rcases aK a with ⟨k,a⟩|⟨k,a⟩
   ·refine aO k rfl (aAZ (aBl (v:=i64 e) (pM (v:=i64 e) (aAf (bF (bN (aS (aS ?_))))))))
    have Z:=m _ (zI a).symm
    subst Z
    have b:(some e)=some R:=b
    cases zI b
    exact bN (aS (aS (bC Tryz.results162 rfl ⟨rfl,g⟩)))
   ·exact aM k rfl (aW (bG (aA (aC (aB (cX i rfl) (aBl (v:=i64 (wr (d+1))) (aAf ⟨wr (d+1),(zI a).symm,h,n,o,rfl,g⟩)))))))
  ·refine aM j rfl (cB (aY (aY ?_)))
   have a2:=m _ (zI a).symm
   subst a2
   have b:(qX)=some R:=b
   exact bO (aA ⟨b,h,g⟩)
theorem aBj {a b:Edge} {R:Int} (y:aL G K (L) w) (d:uL a b=some R):
  Calls Tryz.prog 81 ([Value.agg #[i64 a.F,i64 a.B,i64 a.To],Value.agg #[i64 b.F,i64 b.B,i64 b.To]]:List Value).toArray w (fV fun v w'=>v=i64 R∧aL G K (L) w'):=by
 refine aT Tryz.func81 rfl (by kernel_rfl) (by show (2:Nat)≤22;decide) ?_
 unfold uL at d
 refine aAZ (dW (v:=Value.agg #[i64 a.F,i64 a.B,i64 a.To]) (vs:=[i64 a.F,i64 a.B,i64 a.To]) y rfl rfl (fun b1 w2 z=>(dW (v:=Value.agg #[i64 b.F,i64 b.B,i64 b.To]) (vs:=[i64 b.F,i64 b.B,i64 b.To]) z rfl rfl (fun b4 w5 J=>(pM (v:=i64 0) (aAf (aH ?_)))))))
 obtain ⟨K7,V,k,Z,a0⟩:=aL.lendB (i:=0) J rfl
 obtain ⟨m,j,l,n,a1⟩:=aL.lendB (i:=0) Z rfl
 refine eQ (C:=fun w'=>∃ L',aL G m L' w') [(0,0),(1,0),(2,0),(3,0),(5,0),(6,0),(7,0),(8,0),(10,0),(11,0),(12,0),(13,0),(4,1),(9,1),(14,1),(15,1),(16,1),(17,0)] bK (by kernel_rfl) (fun _ hg=>⟨_,aL.mono n hg⟩) (fun c3 a2=>?_)
 have c:=aL.mono n a2
 refine bS rfl (fun _ _=>bB (t':=0) fY rfl rfl) (bS rfl (fun _ ⟨_,c⟩=>bH (t:=0) cP c l rfl rfl) (bS rfl (fun _ _=>bB (t':=0) fY rfl rfl) (bS rfl (fun _ ⟨_,c⟩=>bH (t:=0) cP c (k.mono j) rfl rfl) (bS rfl (fun _ _=>bB (t':=1) fP rfl rfl) (bS rfl (fun _ ⟨_,c⟩=>bH (t:=1) cP c l rfl rfl) (bS rfl (fun _ _=>bB (t':=1) fP rfl rfl) (bS rfl (fun _ ⟨_,c⟩=>bH (t:=1) cP c (k.mono j) rfl rfl) (bS rfl (fun _ _=>bB (t':=2) iB rfl rfl) (bS rfl (fun _ ⟨_,c⟩=>bH (t:=2) cP c l rfl rfl) (bS rfl (fun _ _=>bB (t':=2) iB rfl rfl) (bS rfl (fun _ ⟨_,c⟩=>bH (t:=2) cP c (k.mono j) rfl rfl) (lL rfl ?_))))))))))))
 obtain ⟨e,a3,d⟩:=aI d
 refine aU (vs:=[i64 a.F,i64 b.F]) Tryz.call163 rfl (lK c a3) ?_
 rintro _ c4 ⟨rfl,o⟩
 refine aF (aA ⟨⟨_,o⟩,?_⟩)
 refine lL rfl ?_
 obtain ⟨g,a4,d⟩:=aI d
 refine aU (vs:=[i64 a.B,i64 b.B]) Tryz.call163 rfl (lK o a4) ?_
 rintro _ c5 ⟨rfl,p⟩
 refine aF (aA ⟨⟨_,p⟩,?_⟩)
 refine lL rfl ?_
 obtain ⟨h,a5,d⟩:=aI d
 refine aU (vs:=[i64 a.To,i64 b.To]) Tryz.call163 rfl (lK p a5) ?_
 rintro _ c6 ⟨rfl,q⟩
 refine aF (aA ⟨⟨_,q⟩,?_⟩)
 refine lL rfl (dM (Kt:=K) (xs:=([e,g,h]:List Int)) (cs:=[i64 e,i64 g,i64 h]) (vs:=[(0,i64 e),(1,i64 g),(2,i64 h)]) sl_245 ez_3 rfl rfl q rfl (by kernel_rfl) rfl rfl rfl ⟨rfl,rfl,rfl,trivial⟩ (fun r a6 (u:aL G m (aN 3 K r 3 ([e,g,h]:List Int)::L) a6)=>(aF (aA ⟨⟨_,u⟩,?_⟩))))
 refine lL rfl ?_
 obtain ⟨c7,c8,a7,a8,a9⟩:=aL.lendS (i:=0) u (Hp.le_trans V j) rfl
 obtain ⟨b0,b2,d⟩:=aI d
 refine aU (vs:=[zS r ([e,g,h]:List Int).length 3]) Tryz.call162 rfl (aFL a8 a7 b2) ?_
 rintro _ c9 ⟨rfl,b3⟩
 have x:=a9 _ _ b3
 refine aF (aA ⟨⟨_,x⟩,?_⟩)
 refine bS rfl (fun _ _=>aG (v:=i64 b0) rfl) (kB ?_)
 have b5:=a1 _ _ x
 have b6:=a0 _ _ b5
 refine aA ?_
 cases zI d
 exact bF (bC Tryz.results81 rfl ⟨rfl,(aL.arr 3 [] b6 rfl)⟩)
theorem nM {c d:(List Int)} {R:Int} (hs:aL G K (L) w) (q:bT K a1 c2 c) (r:bT K a4 c5 d) (b:jA c d=some R):
  Calls Tryz.prog 125 ([zS a1 c.length c2,zS a4 d.length c5]:List Value).toArray w (fV fun v w'=>v=i64 R∧aL G K (L) w'):=by
 refine aT Tryz.func125 rfl (by kernel_rfl) (by show (2:Nat)≤36;decide) ?_
 unfold jA at b
 refine aAZ (pM (v:=i64 0) (aAf (aH (aAZ (aBl (v:=zS a1 c.length c2) (aB (bQ (len:=c.length) bW rfl) (aBl (v:=i64 0) (aAf (bD (fun f w=>eB c d=some R∧f 0=zS a1 c.length c2∧f 1=zS a4 d.length c5∧aL G K (L) w) ?_ ?_)))))))))
 ·rintro f w9 ⟨b,e7,e8,u⟩
  unfold eB at b
  refine aA (aH (aAZ (aCv e7 (aB (bQ (len:=c.length) bW rfl) (aCv e8 (aB (bQ (len:=d.length) bW rfl) (aB (cJ rfl rfl) (aAf ?_))))))))
  rcases aK b with ⟨k,b⟩|⟨k,b⟩
  ·refine aO k rfl (aAZ (pM (v:=i64 (-1)) (aAf ?_)))
   cases zI b
   exact bF (aS (bC Tryz.results125 rfl ⟨rfl,u⟩))
  ·refine aM k rfl (aW (aA (aAZ (pM (v:=i64 0) (aAf ?_)))))
   cases zI b
   exact bF (bC Tryz.results125 rfl ⟨rfl,u⟩)
 obtain ⟨c0,a7,b⟩:=aI b
 refine cD a7 (fun (e:Int) f w=>f 0=zS a1 c.length c2∧f 1=zS a4 d.length c5∧f 9=zS a1 c.length c2∧f 10=i64 (c.length:Int)∧f 11=i64 e∧aL G K (L) w) ?_ ?_
 ·exact ⟨rfl,rfl,rfl,rfl,rfl,hs⟩
 ·rintro e a8 f c1 a l ⟨x,i,y,z,j,g⟩
  replace a:cV c d e=some a8:=a
  unfold cV at a
  refine aAZ (aB (cJ j z) (aAf (aH ?_)))
  rcases aK a with ⟨c48,a⟩|⟨c48,a⟩
  ·refine aO c48 rfl (aW (aA (aH (cU (aAZ (aCv j ?_))))))
   obtain ⟨m,J,a⟩:=aI a
   refine aB (cO bW rfl q y rfl j J) ?_
   obtain ⟨c3,a9,b0⟩:=bT.el (sz:=1) rfl q J
   cases b0
   refine aB (bH (t:=0) cP g a9 rfl rfl) (pM (v:=i64 e) (pM (v:=i64 m) (aAf (aH (aAZ (aBl (v:=i64 e) (aCv i (aB (bQ (len:=d.length) bW rfl) (aB (tT rfl rfl) (aAf ?_))))))))))
   rcases aK a with ⟨n,a⟩|⟨n,a⟩
   ·refine aO n rfl (aAZ (pM (v:=i64 1) (aAf (bF (aS (bN (aS (aS ?_))))))))
    have b1:=l _ (zI a).symm
    subst b1
    have b:(some 1)=some R:=b
    cases zI b
    exact bN (aS (aS (bC Tryz.results125 rfl ⟨rfl,g⟩)))
   ·refine aM n rfl (aW (aA (aAZ (aCv i (aBl (v:=i64 e) ?_)))))
    obtain ⟨o,V,a⟩:=aI a
    refine aB (cO bW rfl r rfl rfl rfl V) ?_
    obtain ⟨c4,b3,b4⟩:=bT.el (sz:=1) rfl r V
    cases b4
    refine aB (bH (t:=0) cP g b3 rfl rfl) (pM (v:=i64 o) (aAf (aAZ (aBl (v:=i64 m) (aBl (v:=i64 o) ?_)))))
    obtain ⟨h,b5,a⟩:=aI a
    refine aU (vs:=[i64 m,i64 o]) Tryz.call163 rfl (lK g b5) ?_
    rintro _ c6 ⟨rfl,Z⟩
    refine pM (v:=i64 h) (aAf (aAZ (aBl (v:=i64 h) (aB (oZ rfl rfl) (aAf ?_)))))
    rcases aK a with ⟨p,a⟩|⟨p,a⟩
    ·refine aO p rfl (aAZ (aBl (v:=i64 h) (pM (v:=i64 h) (aAf (bF (bN (aS (aS ?_))))))))
     have b6:=l _ (zI a).symm
     subst b6
     have b:(some h)=some R:=b
     cases zI b
     exact bN (aS (aS (bC Tryz.results125 rfl ⟨rfl,Z⟩)))
    ·exact aM p rfl (aW (bG (aA (aC (aB (cX j rfl) (aBl (v:=i64 (wr (e+1))) (aAf ⟨wr (e+1),(zI a).symm,x,i,y,z,rfl,Z⟩)))))))
  ·refine aM c48 rfl (cB (aY (aY ?_)))
   have b8:=l _ (zI a).symm
   subst b8
   have b:(eB c d)=some R:=b
   exact bO (aA ⟨b,x,i,g⟩)
end Gv
