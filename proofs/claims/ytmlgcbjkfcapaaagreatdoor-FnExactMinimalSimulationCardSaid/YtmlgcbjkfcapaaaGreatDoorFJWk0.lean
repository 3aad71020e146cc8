/- Walks, printed by program. -/
import Derived.Test.YtmlgcbjkfcapaaaGreatDoorFJLWa
import Derived.Test.YtmlgcbjkfcapaaaGreatDoorFJMd
set_option linter.all false
namespace Gv
open Go.Value renaming bool→zB
open Option.some renaming inj→zI
open Go Go.Proofs
set_option maxRecDepth 20000
set_option maxHeartbeats 40000000
variable {G:Env} {K:Hp} {L:List oT} {w:World} {a1:Option Addr} {c2:Nat}
theorem aCj {a b:bH} {R:Int} (d:aK G K (L) w) (c:tE a b=some R):
  Calls Tryz.prog 188 ([str a,str b]:List Value).toArray w (gO fun v w'=>v=i64 R∧aK G K (L) w'):=by
 refine aS Tryz.func188 rfl (by kernel_rfl) (by show (2:Nat)≤18;decide) ?_
 unfold tE at c
 refine aI (aF (v:=i64 0) (aG (aN (cP (aI (aM (v:=str a) (aM (v:=str b) (aC (vR rfl rfl) (aF (v:=zB (a == b)) (aG ?_))))))))))
 rcases aH c with ⟨e,c⟩|⟨e,c⟩
 ·refine aL e rfl (aI (aF (v:=i64 0) (aG ?_)))
  obtain rfl:=zI c
  exact bF (bQ (aR (bB Tryz.results188 rfl ⟨rfl,d⟩)))
 ·refine aJ e rfl (aI (aM (v:=str a) (aC (vR rfl rfl) (aF (v:=zB (a == ([116,97,117]:bH))) (aG ?_)))))
  rcases aH c with ⟨g,c⟩|⟨g,c⟩
  ·refine aL g rfl (aI (aF (v:=i64 (-1)) (aG ?_)))
   obtain rfl:=zI c
   exact bF (bQ (aR (bB Tryz.results188 rfl ⟨rfl,d⟩)))
  ·refine aJ g rfl (aI (aM (v:=str b) (aC (vR rfl rfl) (aF (v:=zB (b == ([116,97,117]:bH))) (aG ?_)))))
   rcases aH c with ⟨h,c⟩|⟨h,c⟩
   ·refine aL h rfl (aI (aF (v:=i64 1) (aG ?_)))
    obtain rfl:=zI c
    exact bF (bQ (aR (bB Tryz.results188 rfl ⟨rfl,d⟩)))
   ·refine aJ h rfl (aY (bE (aA (aI (aM (v:=str a) (aM (v:=str b) ?_))))))
    obtain ⟨l,m,c⟩:=aB c
    refine aU (vs:=[str a,str b]) Tryz.call243 rfl (aJb d m) ?_
    rintro _ p ⟨rfl,n⟩
    refine aF (v:=i64 l) (aG ?_)
    obtain rfl:=zI c
    exact bF (bB Tryz.results188 rfl ⟨rfl,n⟩)
theorem uD {a:Int} {R:Bool} (c:aK G K (L) w) (b:lN a=some R):
  Calls Tryz.prog 221 ([i64 a]:List Value).toArray w (gO fun v w'=>v=zB R∧aK G K (L) w'):=by
 refine aS Tryz.func221 rfl (by kernel_rfl) (by show (1:Nat)≤6;decide) ?_
 unfold lN at b
 refine aI (aF (v:=zB false) (aG (aI (aM (v:=i64 a) (aM (v:=i64 a) (aC (oC rfl rfl) (aF (v:=zB (a != a)) (aG ?_))))))))
 obtain rfl:=zI b
 exact bF (bB Tryz.results221 rfl ⟨rfl,c⟩)
theorem lY {b y R:Int} (l:aK G K (L) w) (a:gZ b y=some R):
  Calls Tryz.prog 163 ([i64 b,i64 y]:List Value).toArray w (gO fun v w'=>v=i64 R∧aK G K (L) w'):=by
 refine aS Tryz.func163 rfl (by kernel_rfl) (by show (2:Nat)≤20;decide) ?_
 unfold gZ at a
 refine aI (aF (v:=i64 0) (aG (aI (aM (v:=i64 b) ?_))))
 obtain ⟨k,m,a⟩:=aB a
 refine aU (vs:=[i64 b]) Tryz.call221 rfl (uD l m) ?_
 rintro _ z ⟨rfl,n⟩
 refine aF (v:=zB k) (aG (aI (aM (v:=i64 y) ?_)))
 obtain ⟨d,o,a⟩:=aB a
 refine aU (vs:=[i64 y]) Tryz.call221 rfl (uD n o) ?_
 rintro _ J ⟨rfl,c⟩
 refine aF (v:=zB d) (aG (aN (aI (aM (v:=zB k) (aG ?_)))))
 rcases aH a with ⟨e,a⟩|⟨e,a⟩
 ·refine aL e rfl (aN (aI (aM (v:=zB d) (aG ?_))))
  rcases aH a with ⟨g,a⟩|⟨g,a⟩
  ·refine aL g rfl (aI (aF (v:=i64 0) (aG ?_)))
   obtain rfl:=zI a
   exact bF (aR (aR (bB Tryz.results163 rfl ⟨rfl,c⟩)))
  ·refine aJ g rfl (aY (aA (aI (aF (v:=i64 (-1)) (aG ?_)))))
   obtain rfl:=zI a
   exact bF (aR (bB Tryz.results163 rfl ⟨rfl,c⟩))
 ·refine aJ e rfl (aY (aA (aN (aI (aM (v:=zB d) (aG ?_))))))
  rcases aH a with ⟨h,a⟩|⟨h,a⟩
  ·refine aL h rfl (aI (aF (v:=i64 1) (aG ?_)))
   obtain rfl:=zI a
   exact bF (aR (bB Tryz.results163 rfl ⟨rfl,c⟩))
  ·refine aJ h rfl (aY (aA (aN (aI (aM (v:=i64 b) (aM (v:=i64 y) (aC (cJ rfl rfl) (aG ?_))))))))
   rcases aH a with ⟨i,a⟩|⟨i,a⟩
   ·refine aL i rfl (aI (aF (v:=i64 (-1)) (aG ?_)))
    obtain rfl:=zI a
    exact bF (aR (bB Tryz.results163 rfl ⟨rfl,c⟩))
   ·refine aJ i rfl (aY (aA (aN (aI (aM (v:=i64 b) (aM (v:=i64 y) (aC (qC rfl rfl) (aG ?_))))))))
    rcases aH a with ⟨j,a⟩|⟨j,a⟩
    ·refine aL j rfl (aI (aF (v:=i64 1) (aG ?_)))
     obtain rfl:=zI a
     exact bF (aR (bB Tryz.results163 rfl ⟨rfl,c⟩))
    ·refine aJ j rfl (aY (aA (aI (aF (v:=i64 0) (aG ?_)))))
     obtain rfl:=zI a
     exact bF (bB Tryz.results163 rfl ⟨rfl,c⟩)
theorem aDb {c:(List Int)} {R:Int} (q:aK G K (L) w) (l:cL K a1 c2 c) (b:sJ c=some R):
  Calls Tryz.prog 162 ([Value.slice a1 c.length c2]:List Value).toArray w (gO fun v w'=>v=i64 R∧aK G K (L) w'):=by
 refine aS Tryz.func162 rfl (by kernel_rfl) (by show (1:Nat)≤18;decide) ?_
 unfold sJ at b
 refine aI (aF (v:=i64 0) (aG (aI (aF (v:=i64 0) (aG (aN (aI (aM (v:=Value.slice a1 c.length c2) (aC (bT (len:=c.length) sl_245 rfl) (aM (v:=i64 0) (aG (bC (fun f w=>nP=some R∧f 3=i64 0∧aK G K (L) w) ?_ ?_))))))))))))
 ·rintro f w5 ⟨b,r,u⟩
  unfold nP at b
  refine aA (aI (aO r (aF (v:=i64 0) (aG ?_))))
  obtain rfl:=zI b
  exact bF (bB Tryz.results162 rfl ⟨rfl,u⟩)
 obtain ⟨a4,y,b⟩:=aB b
 refine cA y (fun (d:Int) f w=>f 3=i64 0∧f 6=Value.slice a1 c.length c2∧f 7=i64 (c.length:Int)∧f 8=i64 d∧aK G K (L) w) ?_ ?_
 ·exact ⟨rfl,rfl,rfl,rfl,q⟩
 ·rintro d z f a5 a m ⟨h,n,o,i,g⟩
  replace a:gP c d=some z:=a
  unfold gP at a
  refine aI (aC (cJ i o) (aG (aN ?_)))
  rcases aH a with ⟨j,a⟩|⟨j,a⟩
  ·refine aL j rfl (aY (aA (aN (cP (aI ?_)))))
   obtain ⟨e,p,a⟩:=aB a
   refine aC (cT sl_245 rfl l n rfl i p) ?_
   obtain ⟨a6,J,V⟩:=cL.el (sz:=1) rfl l p
   cases V
   refine aC (bJ (t:=0) sc_3 g J rfl rfl) (aF (v:=i64 e) (aG (aI (aM (v:=i64 e) (aO h (aC (oC rfl rfl) (aG ?_)))))))
   rcases aH a with ⟨k,a⟩|⟨k,a⟩
   ·refine aL k rfl (aI (aM (v:=i64 e) (aF (v:=i64 e) (aG (bF (bQ (aR (aR ?_))))))))
    have Z:=m _ (zI a).symm
    subst Z
    have b:(some e)=some R:=b
    obtain rfl:=zI b
    exact bQ (aR (aR (bB Tryz.results162 rfl ⟨rfl,g⟩)))
   ·exact aJ k rfl (aY (bE (aA (aP (aC (cM i rfl) (aM (v:=i64 (wr (d+1))) (aG ⟨wr (d+1),(zI a).symm,h,n,o,rfl,g⟩)))))))
  ·refine aJ j rfl (bZ (aW (aW ?_)))
   have a2:=m _ (zI a).symm
   subst a2
   have b:(nP)=some R:=b
   exact bO (aA ⟨b,h,g⟩)
theorem yA {a b:Edge} {R:Int} (y:aK G K (L) w) (d:qO a b=some R):
  Calls Tryz.prog 81 ([Value.agg #[i64 a.F,i64 a.B,i64 a.To],Value.agg #[i64 b.F,i64 b.B,i64 b.To]]:List Value).toArray w (gO fun v w'=>v=i64 R∧aK G K (L) w'):=by
 refine aS Tryz.func81 rfl (by kernel_rfl) (by show (2:Nat)≤22;decide) ?_
 unfold qO at d
 refine aI (eE (v:=Value.agg #[i64 a.F,i64 a.B,i64 a.To]) (vs:=[i64 a.F,i64 a.B,i64 a.To]) y rfl rfl (fun b1 w2 z=>(eE (v:=Value.agg #[i64 b.F,i64 b.B,i64 b.To]) (vs:=[i64 b.F,i64 b.B,i64 b.To]) z rfl rfl (fun b4 w5 J=>(aF (v:=i64 0) (aG (aN ?_)))))))
 obtain ⟨K7,V,k,Z,a0⟩:=aK.lendB (i:=0) J rfl
 obtain ⟨m,j,l,n,a1⟩:=aK.lendB (i:=0) Z rfl
 refine iB (C:=fun w'=>∃ L',aK G m L' w') [(0,0),(1,0),(2,0),(3,0),(5,0),(6,0),(7,0),(8,0),(10,0),(11,0),(12,0),(13,0),(4,1),(9,1),(14,1),(15,1),(16,1),(17,0)] bU (by kernel_rfl) (fun _ hg=>⟨_,aK.mono n hg⟩) (fun c3 a2=>?_)
 have c:=aK.mono n a2
 refine bX rfl (fun _ _=>bG (t':=0) fJ rfl rfl) (bX rfl (fun _ ⟨_,c⟩=>bJ (t:=0) cE c l rfl rfl) (bX rfl (fun _ _=>bG (t':=0) fJ rfl rfl) (bX rfl (fun _ ⟨_,c⟩=>bJ (t:=0) cE c (k.mono j) rfl rfl) (bX rfl (fun _ _=>bG (t':=1) gB rfl rfl) (bX rfl (fun _ ⟨_,c⟩=>bJ (t:=1) cE c l rfl rfl) (bX rfl (fun _ _=>bG (t':=1) gB rfl rfl) (bX rfl (fun _ ⟨_,c⟩=>bJ (t:=1) cE c (k.mono j) rfl rfl) (bX rfl (fun _ _=>bG (t':=2) eM rfl rfl) (bX rfl (fun _ ⟨_,c⟩=>bJ (t:=2) cE c l rfl rfl) (bX rfl (fun _ _=>bG (t':=2) eM rfl rfl) (bX rfl (fun _ ⟨_,c⟩=>bJ (t:=2) cE c (k.mono j) rfl rfl) (nD rfl ?_))))))))))))
 obtain ⟨e,a3,d⟩:=aB d
 refine aU (vs:=[i64 a.F,i64 b.F]) Tryz.call163 rfl (lY c a3) ?_
 rintro _ c4 ⟨rfl,o⟩
 refine bK (aA ⟨⟨_,o⟩,?_⟩)
 refine nD rfl ?_
 obtain ⟨g,a4,d⟩:=aB d
 refine aU (vs:=[i64 a.B,i64 b.B]) Tryz.call163 rfl (lY o a4) ?_
 rintro _ c5 ⟨rfl,p⟩
 refine bK (aA ⟨⟨_,p⟩,?_⟩)
 refine nD rfl ?_
 obtain ⟨h,a5,d⟩:=aB d
 refine aU (vs:=[i64 a.To,i64 b.To]) Tryz.call163 rfl (lY p a5) ?_
 rintro _ c6 ⟨rfl,q⟩
 refine bK (aA ⟨⟨_,q⟩,?_⟩)
 refine nD rfl (dJ (Kt:=K) (xs:=([e,g,h]:List Int)) (cs:=[i64 e,i64 g,i64 h]) (vs:=[(0,i64 e),(1,i64 g),(2,i64 h)]) sl_245 ez_3 rfl rfl q rfl (by kernel_rfl) rfl rfl rfl ⟨rfl,rfl,rfl,trivial⟩ (fun r a6 (u:aK G m (aV 3 K r 3 ([e,g,h]:List Int)::L) a6)=>(bK (aA ⟨⟨_,u⟩,?_⟩))))
 refine nD rfl ?_
 obtain ⟨c7,c8,a7,a8,a9⟩:=aK.lendS (i:=0) u (Hp.le_trans V j) rfl
 obtain ⟨b0,b2,d⟩:=aB d
 refine aU (vs:=[Value.slice r ([e,g,h]:List Int).length 3]) Tryz.call162 rfl (aDb a8 a7 b2) ?_
 rintro _ c9 ⟨rfl,b3⟩
 have x:=a9 _ _ b3
 refine bK (aA ⟨⟨_,x⟩,?_⟩)
 refine bX rfl (fun _ _=>gF (v:=i64 b0) rfl) (mP ?_)
 have b5:=a1 _ _ x
 have b6:=a0 _ _ b5
 refine aA ?_
 obtain rfl:=zI d
 exact bF (bB Tryz.results81 rfl ⟨rfl,(aK.arr 3 [] b6 rfl)⟩)
end Gv
