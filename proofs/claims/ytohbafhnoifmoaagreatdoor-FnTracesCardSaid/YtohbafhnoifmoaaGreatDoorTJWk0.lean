/- Walks, printed by program. -/
import Derived.Test.YtohbafhnoifmoaaGreatDoorTJLWa
import Derived.Test.YtohbafhnoifmoaaGreatDoorTJMd
set_option linter.all false
namespace Gv
open Go.Value renaming bool→zB
open Option.some renaming inj→zI
open Go Go.Proofs Go.Proofs.Tryz
set_option maxRecDepth 20000
set_option maxHeartbeats 40000000
variable {G:Env} {K:Hp} {L:List nJ} {w:World} {a1:Option Addr} {c2:Nat}
theorem aEI {a b:aU} {R:Int} (d:aI G K (L) w) (c:wB a b=some R):
  Calls Tryz.prog 113 ([str a,str b]:List Value).toArray w (gK fun v w'=>v=i64 R∧aI G K (L) w'):=by
 refine aW func113 rfl (by kernel_rfl) (by show (2:Nat)≤18;decide) ?_
 unfold wB at c
 refine aL (aF (v:=i64 0) (aG (aQ (cY (aL (aO (v:=str a) (aO (v:=str b) (aD (zX rfl rfl) (aF (v:=zB (a == b)) (aG ?_))))))))))
 rcases aH c with ⟨e,c⟩|⟨e,c⟩
 ·refine aM e rfl (aL (aF (v:=i64 0) (aG ?_)))
  obtain rfl:=zI c
  exact bM (bV (aV (bP results113 rfl ⟨rfl,d⟩)))
 ·refine aJ e rfl (aL (aO (v:=str a) (aD (zX rfl rfl) (aF (v:=zB (a == ([116,97,117]:aU))) (aG ?_)))))
  rcases aH c with ⟨g,c⟩|⟨g,c⟩
  ·refine aM g rfl (aL (aF (v:=i64 (-1)) (aG ?_)))
   obtain rfl:=zI c
   exact bM (bV (aV (bP results113 rfl ⟨rfl,d⟩)))
  ·refine aJ g rfl (aL (aO (v:=str b) (aD (zX rfl rfl) (aF (v:=zB (b == ([116,97,117]:aU))) (aG ?_)))))
   rcases aH c with ⟨h,c⟩|⟨h,c⟩
   ·refine aM h rfl (aL (aF (v:=i64 1) (aG ?_)))
    obtain rfl:=zI c
    exact bM (bV (aV (bP results113 rfl ⟨rfl,d⟩)))
   ·refine aJ h rfl (bA (bC (aA (aL (aO (v:=str a) (aO (v:=str b) ?_))))))
    obtain ⟨l,m,c⟩:=aB c
    refine aS (vs:=[str a,str b]) call146 rfl (aLJ d m) ?_
    rintro _ p ⟨rfl,n⟩
    refine aF (v:=i64 l) (aG ?_)
    obtain rfl:=zI c
    exact bM (bP results113 rfl ⟨rfl,n⟩)
theorem xI {a:Int} {R:Bool} (c:aI G K (L) w) (b:mY a=some R):
  Calls Tryz.prog 135 ([i64 a]:List Value).toArray w (gK fun v w'=>v=zB R∧aI G K (L) w'):=by
 refine aW func135 rfl (by kernel_rfl) (by show (1:Nat)≤6;decide) ?_
 unfold mY at b
 refine aL (aF (v:=zB false) (aG (aL (aO (v:=i64 a) (aO (v:=i64 a) (aD (aBw rfl rfl) (aF (v:=zB (a != a)) (aG ?_))))))))
 obtain rfl:=zI b
 exact bM (bP results135 rfl ⟨rfl,c⟩)
theorem nH {b y R:Int} (l:aI G K (L) w) (a:gU b y=some R):
  Calls Tryz.prog 99 ([i64 b,i64 y]:List Value).toArray w (gK fun v w'=>v=i64 R∧aI G K (L) w'):=by
 refine aW func99 rfl (by kernel_rfl) (by show (2:Nat)≤20;decide) ?_
 unfold gU at a
 refine aL (aF (v:=i64 0) (aG (aL (aO (v:=i64 b) ?_))))
 obtain ⟨k,m,a⟩:=aB a
 refine aS (vs:=[i64 b]) call135 rfl (xI l m) ?_
 rintro _ z ⟨rfl,n⟩
 refine aF (v:=zB k) (aG (aL (aO (v:=i64 y) ?_)))
 obtain ⟨d,o,a⟩:=aB a
 refine aS (vs:=[i64 y]) call135 rfl (xI n o) ?_
 rintro _ J ⟨rfl,c⟩
 refine aF (v:=zB d) (aG (aQ (aL (aO (v:=zB k) (aG ?_)))))
 rcases aH a with ⟨e,a⟩|⟨e,a⟩
 ·refine aM e rfl (aQ (aL (aO (v:=zB d) (aG ?_))))
  rcases aH a with ⟨g,a⟩|⟨g,a⟩
  ·refine aM g rfl (aL (aF (v:=i64 0) (aG ?_)))
   obtain rfl:=zI a
   exact bM (aV (aV (bP results99 rfl ⟨rfl,c⟩)))
  ·refine aJ g rfl (bA (aA (aL (aF (v:=i64 (-1)) (aG ?_)))))
   obtain rfl:=zI a
   exact bM (aV (bP results99 rfl ⟨rfl,c⟩))
 ·refine aJ e rfl (bA (aA (aQ (aL (aO (v:=zB d) (aG ?_))))))
  rcases aH a with ⟨h,a⟩|⟨h,a⟩
  ·refine aM h rfl (aL (aF (v:=i64 1) (aG ?_)))
   obtain rfl:=zI a
   exact bM (aV (bP results99 rfl ⟨rfl,c⟩))
  ·refine aJ h rfl (bA (aA (aQ (aL (aO (v:=i64 b) (aO (v:=i64 y) (aD (cL rfl rfl) (aG ?_))))))))
   rcases aH a with ⟨i,a⟩|⟨i,a⟩
   ·refine aM i rfl (aL (aF (v:=i64 (-1)) (aG ?_)))
    obtain rfl:=zI a
    exact bM (aV (bP results99 rfl ⟨rfl,c⟩))
   ·refine aJ i rfl (bA (aA (aQ (aL (aO (v:=i64 b) (aO (v:=i64 y) (aD (kZ rfl rfl) (aG ?_))))))))
    rcases aH a with ⟨j,a⟩|⟨j,a⟩
    ·refine aM j rfl (aL (aF (v:=i64 1) (aG ?_)))
     obtain rfl:=zI a
     exact bM (aV (bP results99 rfl ⟨rfl,c⟩))
    ·refine aJ j rfl (bA (aA (aL (aF (v:=i64 0) (aG ?_)))))
     obtain rfl:=zI a
     exact bM (bP results99 rfl ⟨rfl,c⟩)
theorem aFJ {c:(List Int)} {R:Int} (q:aI G K (L) w) (l:cX K a1 c2 c) (b:vP c=some R):
  Calls Tryz.prog 98 ([Value.slice a1 c.length c2]:List Value).toArray w (gK fun v w'=>v=i64 R∧aI G K (L) w'):=by
 refine aW func98 rfl (by kernel_rfl) (by show (1:Nat)≤18;decide) ?_
 unfold vP at b
 refine aL (aF (v:=i64 0) (aG (aL (aF (v:=i64 0) (aG (aQ (aL (aO (v:=Value.slice a1 c.length c2) (aD (bU (len:=c.length) aIv rfl) (aO (v:=i64 0) (aG (bB (fun f w=>pH=some R∧f 3=i64 0∧aI G K (L) w) ?_ ?_))))))))))))
 ·rintro f w5 ⟨b,r,u⟩
  unfold pH at b
  refine aA (aL (aN r (aF (v:=i64 0) (aG ?_))))
  obtain rfl:=zI b
  exact bM (bP results98 rfl ⟨rfl,u⟩)
 obtain ⟨a4,y,b⟩:=aB b
 refine cE y (fun (d:Int) f w=>f 3=i64 0∧f 6=Value.slice a1 c.length c2∧f 7=i64 (c.length:Int)∧f 8=i64 d∧aI G K (L) w) ?_ ?_
 ·exact ⟨rfl,rfl,rfl,rfl,q⟩
 ·rintro d z f a5 a m ⟨h,n,o,i,g⟩
  replace a:gI c d=some z:=a
  unfold gI at a
  refine aL (aD (cL i o) (aG (aQ ?_)))
  rcases aH a with ⟨j,a⟩|⟨j,a⟩
  ·refine aM j rfl (bA (aA (aQ (cY (aL ?_)))))
   obtain ⟨e,p,a⟩:=aB a
   refine aD (dI aIv rfl l n rfl i p) ?_
   obtain ⟨a6,J,V⟩:=cX.el (sz:=1) rfl l p
   cases V
   refine aD (bH (t:=0) sc_3 g J rfl rfl) (aF (v:=i64 e) (aG (aL (aO (v:=i64 e) (aN h (aD (aBw rfl rfl) (aG ?_)))))))
   rcases aH a with ⟨k,a⟩|⟨k,a⟩
   ·refine aM k rfl (aL (aO (v:=i64 e) (aF (v:=i64 e) (aG (bM (bV (aV (aV ?_))))))))
    have Z:=m _ (zI a).symm
    subst Z
    have b:(some e)=some R:=b
    obtain rfl:=zI b
    exact bV (aV (aV (bP results98 rfl ⟨rfl,g⟩)))
   ·exact aJ k rfl (bA (bC (aA (aP (aD (cP i rfl) (aO (v:=i64 (wr (d+1))) (aG ⟨wr (d+1),(zI a).symm,h,n,o,rfl,g⟩)))))))
  ·refine aJ j rfl (cA (aT (aT ?_)))
   have a2:=m _ (zI a).symm
   subst a2
   have b:(pH)=some R:=b
   exact bJ (aA ⟨b,h,g⟩)
theorem aBx {a b:Edge} {R:Int} (y:aI G K (L) w) (d:tB a b=some R):
  Calls Tryz.prog 65 ([Value.agg #[i64 a.F,i64 a.B,i64 a.To],Value.agg #[i64 b.F,i64 b.B,i64 b.To]]:List Value).toArray w (gK fun v w'=>v=i64 R∧aI G K (L) w'):=by
 refine aW func65 rfl (by kernel_rfl) (by show (2:Nat)≤22;decide) ?_
 unfold tB at d
 refine aL (iI (v:=Value.agg #[i64 a.F,i64 a.B,i64 a.To]) (vs:=[i64 a.F,i64 a.B,i64 a.To]) y rfl rfl (fun b1 w2 z=>(iI (v:=Value.agg #[i64 b.F,i64 b.B,i64 b.To]) (vs:=[i64 b.F,i64 b.B,i64 b.To]) z rfl rfl (fun b4 w5 J=>(aF (v:=i64 0) (aG (aQ ?_)))))))
 obtain ⟨K7,V,k,Z,a0⟩:=aI.lendB (i:=0) J rfl
 obtain ⟨m,j,l,n,a1⟩:=aI.lendB (i:=0) Z rfl
 refine fK (C:=fun w'=>∃ L',aI G m L' w') [(0,0),(1,0),(2,0),(3,0),(5,0),(6,0),(7,0),(8,0),(10,0),(11,0),(12,0),(13,0),(4,1),(9,1),(14,1),(15,1),(16,1),(17,0)] bZ (by kernel_rfl) (fun _ hg=>⟨_,aI.mono n hg⟩) (fun c3 a2=>?_)
 have c:=aI.mono n a2
 refine bS rfl (fun _ _=>bT (t':=0) hQ rfl rfl) (bS rfl (fun _ ⟨_,c⟩=>bH (t:=0) cK c l rfl rfl) (bS rfl (fun _ _=>bT (t':=0) hQ rfl rfl) (bS rfl (fun _ ⟨_,c⟩=>bH (t:=0) cK c (k.mono j) rfl rfl) (bS rfl (fun _ _=>bT (t':=1) iZ rfl rfl) (bS rfl (fun _ ⟨_,c⟩=>bH (t:=1) cK c l rfl rfl) (bS rfl (fun _ _=>bT (t':=1) iZ rfl rfl) (bS rfl (fun _ ⟨_,c⟩=>bH (t:=1) cK c (k.mono j) rfl rfl) (bS rfl (fun _ _=>bT (t':=2) gR rfl rfl) (bS rfl (fun _ ⟨_,c⟩=>bH (t:=2) cK c l rfl rfl) (bS rfl (fun _ _=>bT (t':=2) gR rfl rfl) (bS rfl (fun _ ⟨_,c⟩=>bH (t:=2) cK c (k.mono j) rfl rfl) (kY rfl ?_))))))))))))
 obtain ⟨e,a3,d⟩:=aB d
 refine aS (vs:=[i64 a.F,i64 b.F]) call99 rfl (nH c a3) ?_
 rintro _ c4 ⟨rfl,o⟩
 refine aZ (aA ⟨⟨_,o⟩,?_⟩)
 refine kY rfl ?_
 obtain ⟨g,a4,d⟩:=aB d
 refine aS (vs:=[i64 a.B,i64 b.B]) call99 rfl (nH o a4) ?_
 rintro _ c5 ⟨rfl,p⟩
 refine aZ (aA ⟨⟨_,p⟩,?_⟩)
 refine kY rfl ?_
 obtain ⟨h,a5,d⟩:=aB d
 refine aS (vs:=[i64 a.To,i64 b.To]) call99 rfl (nH p a5) ?_
 rintro _ c6 ⟨rfl,q⟩
 refine aZ (aA ⟨⟨_,q⟩,?_⟩)
 refine kY rfl (bR (Kt:=K) (xs:=([e,g,h]:List Int)) (cs:=[i64 e,i64 g,i64 h]) (vs:=[(0,i64 e),(1,i64 g),(2,i64 h)]) aIv ez_3 rfl rfl q rfl (by kernel_rfl) rfl rfl rfl ⟨rfl,rfl,rfl,trivial⟩ (fun r a6 (u:aI G m (aK 3 K r 3 ([e,g,h]:List Int)::L) a6)=>(aZ (aA ⟨⟨_,u⟩,?_⟩))))
 refine kY rfl ?_
 obtain ⟨c7,c8,a7,a8,a9⟩:=aI.lendS (i:=0) u (Hp.le_trans V j) rfl
 obtain ⟨b0,b2,d⟩:=aB d
 refine aS (vs:=[Value.slice r ([e,g,h]:List Int).length 3]) call98 rfl (aFJ a8 a7 b2) ?_
 rintro _ c9 ⟨rfl,b3⟩
 have x:=a9 _ _ b3
 refine aZ (aA ⟨⟨_,x⟩,?_⟩)
 refine bS rfl (fun _ _=>dV (v:=i64 b0) rfl) (lF ?_)
 have b5:=a1 _ _ x
 have b6:=a0 _ _ b5
 refine aA ?_
 obtain rfl:=zI d
 exact bM (bP results65 rfl ⟨rfl,(aI.arr 3 [] b6 rfl)⟩)
end Gv
