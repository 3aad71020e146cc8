/- Walks, printed by program. -/
import Derived.Test.YtmlemmpanilhjaaGreatDoorJLWa
import Derived.Test.YtmlemmpanilhjaaGreatDoorJMd
set_option linter.all false
namespace Gv
open Gv.Hp renaming le_refl→zR
open Go.Value renaming slice→zS
open Go Go.Proofs Go.Proofs.Tryz
set_option maxRecDepth 20000
set_option maxHeartbeats 40000000
variable {G:qG} {K:Hp} {L:List iZ} {w:World} {a1 a4:Option Addr} {c2 c5:Nat}
theorem aGC {a b:bL} {R:Int} (hm:wV a b=some R) (c:aO G K (L) w):
  Calls prog 123 ([str a,str b]:List Value).toArray w (eX fun v w'=>v=i64 R/\aO G K (L) w'):=by
 exact cA
theorem yD {x_:Int} {R:Bool} (hm:nB x_=some R) (a:aO G K (L) w):
  Calls prog 215 ([i64 x_]:List Value).toArray w (eX fun v w'=>v=Value.bool R/\aO G K (L) w'):=by
 exact cA
theorem nL {x_ y R:Int} (hm:iO x_ y=some R) (a:aO G K (L) w):
  Calls prog 167 ([i64 x_,i64 y]:List Value).toArray w (eX fun v w'=>v=i64 R/\aO G K (L) w'):=by
 refine aT func167 rfl (by kernel_rfl) (by show (2:Nat)<=20;decide) ?_;unfold iO at hm
 refine aL (aD (v:=i64 0) (aG (aL (aI (v:=i64 x_) ?_))));obtain ⟨c,b,hm⟩:=aC hm
 exact aV (vs:=[i64 x_]) call215 rfl (yD b a) cA
theorem aHZ {a:(List Int)} {R:Int} (hm:vY a=some R) (d:aO G K (L) w) (e:cI K a1 c2 a):
  Calls prog 166 ([zS a1 a.length c2]:List Value).toArray w (eX fun v w'=>v=i64 R/\aO G K (L) w'):=by
 refine aT func166 rfl (by kernel_rfl) (by show (1:Nat)<=18;decide) ?_;unfold vY at hm
 refine aL (aD (v:=i64 0) (aG (aL (aD (v:=i64 0) (aG (aP (aL (aI (v:=zS a1 a.length c2) (aA (bQ (len:=a.length) sl_268 rfl) (aI (v:=i64 0) (aG (bR [3] (fun f w=>pS=some R/\aO G K (L) w) cA ?_))))))))))));obtain ⟨g,b,ho⟩:=aC hm
 exact dS [3,6,7] b (fun c f w=>f 8=i64 c/\aO G K (L) w) cA cA
theorem aCf {a b:Edge} {R:Int} (hm:tB a b=some R) (p:aO G K (L) w):
  Calls prog 127 ([Value.agg #[i64 a.F,i64 a.B,i64 a.To],Value.agg #[i64 b.F,i64 b.B,i64 b.To]]:List Value).toArray w (eX fun v w'=>v=i64 R/\aO G K (L) w'):=by
 refine aT func127 rfl (by kernel_rfl) (by show (2:Nat)<=22;decide) ?_;unfold tB at hm
 refine aL (dR (v:=Value.agg #[i64 a.F,i64 a.B,i64 a.To]) (vs:=[i64 a.F,i64 a.B,i64 a.To]) p rfl rfl (fun b1 w2 q=>(dR (v:=Value.agg #[i64 b.F,i64 b.B,i64 b.To]) (vs:=[i64 b.F,i64 b.B,i64 b.To]) q rfl rfl (fun b4 w5 r=>(aD (v:=i64 0) (aG (aP ?_)))))));obtain ⟨K7,a6,h,u,a7⟩:=aO.lendBp r .head
 obtain ⟨k,i,j,l,a8⟩:=aO.lendBp u .head
 refine jN (C:=fun w'=>∃ L',aO G k L' w') [(0,0),(1,0),(2,0),(3,0),(5,0),(6,0),(7,0),(8,0),(10,0),(11,0),(12,0),(13,0),(4,1),(9,1),(14,1),(15,1),(16,1),(17,0)] cC (by kernel_rfl) (fun _ hg=>⟨_,aO.mono l hg⟩) (fun a9 x=>?_)
 have c:=aO.mono l x
 refine dZ rfl (fun _ _=>bC (t':=0) wL rfl rfl) (dZ rfl (fun _ ⟨_,c⟩=>bZ (t:=0) dC c j rfl rfl) (dZ rfl (fun _ _=>bC (t':=0) wL rfl rfl) (dZ rfl (fun _ ⟨_,c⟩=>bZ (t:=0) dC c (h.mono i) rfl rfl) (dZ rfl (fun _ _=>bC (t':=1) rW rfl rfl) (dZ rfl (fun _ ⟨_,c⟩=>bZ (t:=1) dC c j rfl rfl) (dZ rfl (fun _ _=>bC (t':=1) rW rfl rfl) (dZ rfl (fun _ ⟨_,c⟩=>bZ (t:=1) dC c (h.mono i) rfl rfl) (dZ rfl (fun _ _=>bC (t':=2) aBa rfl rfl) (dZ rfl (fun _ ⟨_,c⟩=>bZ (t:=2) dC c j rfl rfl) (dZ rfl (fun _ _=>bC (t':=2) aBa rfl rfl) (dZ rfl (fun _ ⟨_,c⟩=>bZ (t:=2) dC c (h.mono i) rfl rfl) (qW rfl ?_))))))))))))
 obtain ⟨d,y,hm⟩:=aC hm
 refine aV (vs:=[i64 a.F,i64 b.F]) call167 rfl (nL y c) ?_
 rintro _ b0 ⟨rfl,m⟩
 refine cG (aB ⟨⟨_,m⟩,?_⟩)
 refine qW rfl ?_;obtain ⟨e,z,hm⟩:=aC hm
 refine aV (vs:=[i64 a.B,i64 b.B]) call167 rfl (nL z m) ?_
 rintro _ b2 ⟨rfl,n⟩
 refine cG (aB ⟨⟨_,n⟩,?_⟩)
 refine qW rfl ?_;obtain ⟨g,J,hm⟩:=aC hm
 refine aV (vs:=[i64 a.To,i64 b.To]) call167 rfl (nL J n) ?_
 rintro _ b3 ⟨rfl,o⟩
 refine cG (aB ⟨⟨_,o⟩,?_⟩)
 refine qW rfl (gA (Kt:=K) (xs:=([d,e,g]:List Int)) (cs:=[i64 d,i64 e,i64 g]) (vs:=[(0,i64 d),(1,i64 e),(2,i64 g)]) sl_268 ez_3 rfl rfl o rfl (by kernel_rfl) rfl rfl rfl ⟨rfl,rfl,rfl,trivial⟩ (fun V Z (a0:aO G k (bI 3 K V 3 ([d,e,g]:List Int)::L) Z)=>(cG (aB ⟨⟨_,a0⟩,?_⟩))))
 exact qW rfl cA
theorem wJ {x_:bL} {R:Bool} (hm:mB x_=some R) (a:aO G K (L) w):
  Calls prog 236 ([str x_]:List Value).toArray w (eX fun v w'=>v=Value.bool R/\aO G K (L) w'):=by
 exact cA
theorem aDz {x_ y:bL} {R:Int} (hm:kR x_ y=some R) (a:aO G K (L) w):
  Calls prog 195 ([str x_,str y]:List Value).toArray w (eX fun v w'=>v=i64 R/\aO G K (L) w'):=by
 refine aT func195 rfl (by kernel_rfl) (by show (2:Nat)<=20;decide) ?_;unfold kR at hm
 refine aL (aD (v:=i64 0) (aG (aL (aI (v:=str x_) ?_))));obtain ⟨c,b,hm⟩:=aC hm
 exact aV (vs:=[str x_]) call236 rfl (wJ b a) cA
theorem tL {a b:(List bL)} {R:Int} (hm:iG a b=some R) (e:aO G K (L) w) (g:cI K a1 c2 a) (h:cI K a4 c5 b):
  Calls prog 160 ([zS a1 a.length c2,zS a4 b.length c5]:List Value).toArray w (eX fun v w'=>v=i64 R/\aO G K (L) w'):=by
 refine aT func160 rfl (by kernel_rfl) (by show (2:Nat)<=36;decide) ?_;unfold iG at hm
 refine aL (aD (v:=i64 0) (aG (aP (aL (aI (v:=zS a1 a.length c2) (aA (bQ (len:=a.length) dQ rfl) (aI (v:=i64 0) (aG (bR [0,1] (fun f w=>gU a b=some R/\aO G K (L) w) cA ?_)))))))));obtain ⟨i,c,ho⟩:=aC hm
 exact dS [0,1,9,10] c (fun d f w=>f 11=i64 d/\aO G K (L) w) cA cA
end Gv
