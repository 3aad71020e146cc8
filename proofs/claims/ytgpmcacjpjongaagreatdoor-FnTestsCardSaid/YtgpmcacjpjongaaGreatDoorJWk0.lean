/- Walks, printed by program. -/
import Derived.Test.YtgpmcacjpjongaaGreatDoorJLWa
import Derived.Test.YtgpmcacjpjongaaGreatDoorJMd
set_option linter.all false
namespace Gv
open Go Go.Proofs Go.Proofs.Tryz
set_option maxRecDepth 20000
set_option maxHeartbeats 40000000
variable {G:wY} {K:Hp} {L:List iN} {w:World} {a1:Option Addr} {c2:Nat}
theorem aBh {a b:aF} {R:Int} (hm:aBt a b=some R) (c:aD G K (L) w):
  Calls prog 95 ([str a,str b]:List Value).toArray w (eR fun v w'=>v=i64 R/\aD G K (L) w'):=by
 exact aP
theorem yC {a:Int} {R:Bool} (hm:qL a=some R) (b:aD G K (L) w):
  Calls prog 146 ([i64 a]:List Value).toArray w (eR fun v w'=>v=Value.bool R/\aD G K (L) w'):=by
 exact aP
theorem kM {a y R:Int} (hm:iI a y=some R) (b:aD G K (L) w):
  Calls prog 116 ([i64 a,i64 y]:List Value).toArray w (eR fun v w'=>v=i64 R/\aD G K (L) w'):=by
 refine aR func116 rfl (by kernel_rfl) (by show (2:Nat)<=20;decide) ?_;unfold iI at hm
 refine aO (aI (v:=i64 0) (aK (aO (aL (v:=i64 a) ?_))));obtain ⟨d,c,hm⟩:=aC hm
 exact aQ (vs:=[i64 a]) call146 rfl (yC c b) aP
theorem aHh {a:(List Int)} {R:Int} (hm:vZ a=some R) (d:aD G K (L) w) (e:bS K a1 c2 a):
  Calls prog 115 ([Value.slice a1 a.length c2]:List Value).toArray w (eR fun v w'=>v=i64 R/\aD G K (L) w'):=by
 refine aR func115 rfl (by kernel_rfl) (by show (1:Nat)<=18;decide) ?_;unfold vZ at hm
 refine aO (aI (v:=i64 0) (aK (aO (aI (v:=i64 0) (aK (aM (aO (aL (v:=Value.slice a1 a.length c2) (aH (bI (len:=a.length) sl_104 rfl) (aL (v:=i64 0) (aK (aV [3] (fun f w=>aAz=some R/\aD G K (L) w) aP ?_))))))))))));obtain ⟨g,b,ho⟩:=aC hm
 exact cY [3,6,7] b (fun c f w=>f 8=i64 c/\aD G K (L) w) aP aP
theorem aBE {a b:Edge} {R:Int} (hm:tV a b=some R) (p:aD G K (L) w):
  Calls prog 66 ([Value.agg #[i64 a.F,i64 a.B,i64 a.To],Value.agg #[i64 b.F,i64 b.B,i64 b.To]]:List Value).toArray w (eR fun v w'=>v=i64 R/\aD G K (L) w'):=by
 refine aR func66 rfl (by kernel_rfl) (by show (2:Nat)<=22;decide) ?_;unfold tV at hm
 refine aO (fL (v:=Value.agg #[i64 a.F,i64 a.B,i64 a.To]) (vs:=[i64 a.F,i64 a.B,i64 a.To]) p rfl rfl (fun b1 w2 q=>(fL (v:=Value.agg #[i64 b.F,i64 b.B,i64 b.To]) (vs:=[i64 b.F,i64 b.B,i64 b.To]) q rfl rfl (fun b4 w5 r=>(aI (v:=i64 0) (aK (aM ?_)))))));obtain ⟨K7,a7,h,u,a8⟩:=aD.lendBp r .head
 obtain ⟨k,i,j,l,a9⟩:=aD.lendBp u .head
 refine dX (C:=fun w'=>∃ L',aD G k L' w') [(0,0),(1,0),(2,0),(3,0),(5,0),(6,0),(7,0),(8,0),(10,0),(11,0),(12,0),(13,0),(4,1),(9,1),(14,1),(15,1),(16,1),(17,0)] Tryz_mixed (by kernel_rfl) (fun _ hg=>⟨_,aD.mono l hg⟩) (fun b0 x=>?_)
 have c:=aD.mono l x
 refine bZ rfl (fun _ _=>bP (t':=0) aJv rfl rfl) (bZ rfl (fun _ ⟨_,c⟩=>bG (t:=0) fK c j rfl rfl) (bZ rfl (fun _ _=>bP (t':=0) aJv rfl rfl) (bZ rfl (fun _ ⟨_,c⟩=>bG (t:=0) fK c (h.mono i) rfl rfl) (bZ rfl (fun _ _=>bP (t':=1) aAG rfl rfl) (bZ rfl (fun _ ⟨_,c⟩=>bG (t:=1) fK c j rfl rfl) (bZ rfl (fun _ _=>bP (t':=1) aAG rfl rfl) (bZ rfl (fun _ ⟨_,c⟩=>bG (t:=1) fK c (h.mono i) rfl rfl) (bZ rfl (fun _ _=>bP (t':=2) aBM rfl rfl) (bZ rfl (fun _ ⟨_,c⟩=>bG (t:=2) fK c j rfl rfl) (bZ rfl (fun _ _=>bP (t':=2) aBM rfl rfl) (bZ rfl (fun _ ⟨_,c⟩=>bG (t:=2) fK c (h.mono i) rfl rfl) (gP rfl ?_))))))))))))
 obtain ⟨d,y,hm⟩:=aC hm
 refine aQ (vs:=[i64 a.F,i64 b.F]) call116 rfl (kM y c) ?_
 rintro _ b2 ⟨rfl,m⟩
 refine aJ (aB ⟨⟨_,m⟩,?_⟩)
 refine gP rfl ?_;obtain ⟨e,z,hm⟩:=aC hm
 refine aQ (vs:=[i64 a.B,i64 b.B]) call116 rfl (kM z m) ?_
 rintro _ b3 ⟨rfl,n⟩
 refine aJ (aB ⟨⟨_,n⟩,?_⟩)
 refine gP rfl ?_;obtain ⟨g,V,hm⟩:=aC hm
 refine aQ (vs:=[i64 a.To,i64 b.To]) call116 rfl (kM V n) ?_
 rintro _ b5 ⟨rfl,o⟩
 refine aJ (aB ⟨⟨_,o⟩,?_⟩)
 refine gP rfl (bL (Kt:=K) (xs:=([d,e,g]:List Int)) (cs:=[i64 d,i64 e,i64 g]) (vs:=[(0,i64 d),(1,i64 e),(2,i64 g)]) sl_104 ez_3 rfl rfl o rfl (by kernel_rfl) rfl rfl rfl ⟨rfl,rfl,rfl,trivial⟩ (fun Z a0 (a1:aD G k (aG 3 K Z 3 ([d,e,g]:List Int)::L) a0)=>(aJ (aB ⟨⟨_,a1⟩,?_⟩))))
 exact gP rfl aP
end Gv
