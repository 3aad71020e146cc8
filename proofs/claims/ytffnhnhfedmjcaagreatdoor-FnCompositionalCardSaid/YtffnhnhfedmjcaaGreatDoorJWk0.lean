/- Walks, printed by program. -/
import Derived.Test.YtffnhnhfedmjcaaGreatDoorJLWa
import Derived.Test.YtffnhnhfedmjcaaGreatDoorJMd
set_option linter.all false
namespace Gv
open Gv.Hp renaming le_refl→zR
open Go.Value renaming slice→zS
open Go Go.Proofs Go.Proofs.Tryz
set_option maxRecDepth 20000
set_option maxHeartbeats 40000000
variable {G:yU} {K:Hp} {L:List jN} {w:World} {a1 a4:Option Addr} {c2 c5:Nat}
theorem aBk {a:Int} {R:Bool} (hm:qG a=some R) (b:aD G K (L) w):
  Calls prog 146 ([i64 a]:List Value).toArray w (eQ fun v w'=>v=Value.bool R/\aD G K (L) w'):=by
 exact aP
theorem nH {a y R:Int} (hm:fO a y=some R) (b:aD G K (L) w):
  Calls prog 94 ([i64 a,i64 y]:List Value).toArray w (eQ fun v w'=>v=i64 R/\aD G K (L) w'):=by
 refine aN func94 rfl (by kernel_rfl) (by show (2:Nat)<=20;decide) ?_;unfold fO at hm
 refine aK (aM (v:=i64 0) (aI (aK (aJ (v:=i64 a) ?_))));obtain ⟨d,c,hm⟩:=aB hm
 exact aQ (vs:=[i64 a]) call146 rfl (aBk c b) aP
theorem aAk {a b:(List Int)} {R:Int} (hm:fH a b=some R) (e:aD G K (L) w) (g:bE K a1 c2 a) (h:bE K a4 c5 b):
  Calls prog 49 ([zS a1 a.length c2,zS a4 b.length c5]:List Value).toArray w (eQ fun v w'=>v=i64 R/\aD G K (L) w'):=by
 refine aN func49 rfl (by kernel_rfl) (by show (2:Nat)<=36;decide) ?_;unfold fH at hm
 refine aK (aM (v:=i64 0) (aI (aL (aK (aJ (v:=zS a1 a.length c2) (aF (bF (len:=a.length) bR rfl) (aJ (v:=i64 0) (aI (aU [0,1] (fun f w=>iV a b=some R/\aD G K (L) w) aP ?_)))))))));obtain ⟨i,c,ho⟩:=aB hm
 exact gI [0,1,9,10] c (fun d f w=>f 11=i64 d/\aD G K (L) w) aP aP
theorem yF {a b:Int} {p:(List (List Int))} {c:Nat} {R:Int} (hm:xD a b p=some R) (d:aD G K (L) w) (e:fK K a1 c [zS a4 p.length c5]) (g:bE K a4 c5 p):
  Calls prog 48 ([i64 a,i64 b,cX a1 c]:List Value).toArray w (eQ fun v w'=>v=i64 R/\aD G K (L) w'):=by
 exact aP
theorem aCU {a b:aH} {R:Int} (hm:aDi a b=some R) (c:aD G K (L) w):
  Calls prog 127 ([str a,str b]:List Value).toArray w (eQ fun v w'=>v=i64 R/\aD G K (L) w'):=by
 exact aP
theorem aIu {a:(List Int)} {R:Int} (hm:aAs a=some R) (d:aD G K (L) w) (e:bE K a1 c2 a):
  Calls prog 122 ([zS a1 a.length c2]:List Value).toArray w (eQ fun v w'=>v=i64 R/\aD G K (L) w'):=by
 refine aN func122 rfl (by kernel_rfl) (by show (1:Nat)<=18;decide) ?_;unfold aAs at hm
 refine aK (aM (v:=i64 0) (aI (aK (aM (v:=i64 0) (aI (aL (aK (aJ (v:=zS a1 a.length c2) (aF (bF (len:=a.length) sl_207 rfl) (aJ (v:=i64 0) (aI (aU [3] (fun f w=>aCq=some R/\aD G K (L) w) aP ?_))))))))))));obtain ⟨g,b,ho⟩:=aB hm
 exact gI [3,6,7] b (fun c f w=>f 8=i64 c/\aD G K (L) w) aP aP
theorem aDs {a b:Edge} {R:Int} (hm:yA a b=some R) (p:aD G K (L) w):
  Calls prog 78 ([Value.agg #[i64 a.F,i64 a.B,i64 a.To],Value.agg #[i64 b.F,i64 b.B,i64 b.To]]:List Value).toArray w (eQ fun v w'=>v=i64 R/\aD G K (L) w'):=by
 refine aN func78 rfl (by kernel_rfl) (by show (2:Nat)<=22;decide) ?_;unfold yA at hm
 refine aK (cC (v:=Value.agg #[i64 a.F,i64 a.B,i64 a.To]) (vs:=[i64 a.F,i64 a.B,i64 a.To]) p rfl rfl (fun b1 w2 q=>(cC (v:=Value.agg #[i64 b.F,i64 b.B,i64 b.To]) (vs:=[i64 b.F,i64 b.B,i64 b.To]) q rfl rfl (fun b4 w5 r=>(aM (v:=i64 0) (aI (aL ?_)))))));obtain ⟨K7,a7,h,u,a8⟩:=aD.lendBp r .head
 obtain ⟨k,i,j,l,a9⟩:=aD.lendBp u .head
 refine dG (C:=fun w'=>∃ L',aD G k L' w') [(0,0),(1,0),(2,0),(3,0),(5,0),(6,0),(7,0),(8,0),(10,0),(11,0),(12,0),(13,0),(4,1),(9,1),(14,1),(15,1),(16,1),(17,0)] Tryz_mixed (by kernel_rfl) (fun _ hg=>⟨_,aD.mono l hg⟩) (fun b0 x=>?_)
 have c:=aD.mono l x
 refine bB rfl (fun _ _=>aV (t':=0) aBz rfl rfl) (bB rfl (fun _ ⟨_,c⟩=>bG (t:=0) eG c j rfl rfl) (bB rfl (fun _ _=>aV (t':=0) aBz rfl rfl) (bB rfl (fun _ ⟨_,c⟩=>bG (t:=0) eG c (h.mono i) rfl rfl) (bB rfl (fun _ _=>aV (t':=1) rA rfl rfl) (bB rfl (fun _ ⟨_,c⟩=>bG (t:=1) eG c j rfl rfl) (bB rfl (fun _ _=>aV (t':=1) rA rfl rfl) (bB rfl (fun _ ⟨_,c⟩=>bG (t:=1) eG c (h.mono i) rfl rfl) (bB rfl (fun _ _=>aV (t':=2) tJ rfl rfl) (bB rfl (fun _ ⟨_,c⟩=>bG (t:=2) eG c j rfl rfl) (bB rfl (fun _ _=>aV (t':=2) tJ rfl rfl) (bB rfl (fun _ ⟨_,c⟩=>bG (t:=2) eG c (h.mono i) rfl rfl) (jZ rfl ?_))))))))))))
 obtain ⟨d,y,hm⟩:=aB hm
 refine aQ (vs:=[i64 a.F,i64 b.F]) call94 rfl (nH y c) ?_
 rintro _ b2 ⟨rfl,m⟩
 refine aR (aC ⟨⟨_,m⟩,?_⟩)
 refine jZ rfl ?_;obtain ⟨e,z,hm⟩:=aB hm
 refine aQ (vs:=[i64 a.B,i64 b.B]) call94 rfl (nH z m) ?_
 rintro _ b3 ⟨rfl,n⟩
 refine aR (aC ⟨⟨_,n⟩,?_⟩)
 refine jZ rfl ?_;obtain ⟨g,J,hm⟩:=aB hm
 refine aQ (vs:=[i64 a.To,i64 b.To]) call94 rfl (nH J n) ?_
 rintro _ b5 ⟨rfl,o⟩
 refine aR (aC ⟨⟨_,o⟩,?_⟩)
 refine jZ rfl (cZ (Kt:=K) (xs:=([d,e,g]:List Int)) (cs:=[i64 d,i64 e,i64 g]) (vs:=[(0,i64 d),(1,i64 e),(2,i64 g)]) sl_207 ez_3 rfl rfl o rfl (by kernel_rfl) rfl rfl rfl ⟨rfl,rfl,rfl,trivial⟩ (fun V a0 (a1:aD G k (aG 3 K V 3 ([d,e,g]:List Int)::L) a0)=>(aR (aC ⟨⟨_,a1⟩,?_⟩))))
 exact jZ rfl aP
theorem aAC {a:aH} {R:Bool} (hm:tM a=some R) (b:aD G K (L) w):
  Calls prog 214 ([str a]:List Value).toArray w (eQ fun v w'=>v=Value.bool R/\aD G K (L) w'):=by
 exact aP
theorem aEq {a y:aH} {R:Int} (hm:rB a y=some R) (b:aD G K (L) w):
  Calls prog 168 ([str a,str y]:List Value).toArray w (eQ fun v w'=>v=i64 R/\aD G K (L) w'):=by
 refine aN func168 rfl (by kernel_rfl) (by show (2:Nat)<=20;decide) ?_;unfold rB at hm
 refine aK (aM (v:=i64 0) (aI (aK (aJ (v:=str a) ?_))));obtain ⟨d,c,hm⟩:=aB hm
 exact aQ (vs:=[str a]) call214 rfl (aAC c b) aP
theorem yG {a b:(List aH)} {R:Int} (hm:jF a b=some R) (e:aD G K (L) w) (g:bE K a1 c2 a) (h:bE K a4 c5 b):
  Calls prog 124 ([zS a1 a.length c2,zS a4 b.length c5]:List Value).toArray w (eQ fun v w'=>v=i64 R/\aD G K (L) w'):=by
 refine aN func124 rfl (by kernel_rfl) (by show (2:Nat)<=36;decide) ?_;unfold jF at hm
 refine aK (aM (v:=i64 0) (aI (aL (aK (aJ (v:=zS a1 a.length c2) (aF (bF (len:=a.length) fJ rfl) (aJ (v:=i64 0) (aI (aU [0,1] (fun f w=>pK a b=some R/\aD G K (L) w) aP ?_)))))))));obtain ⟨i,c,ho⟩:=aB hm
 exact gI [0,1,9,10] c (fun d f w=>f 11=i64 d/\aD G K (L) w) aP aP
end Gv
