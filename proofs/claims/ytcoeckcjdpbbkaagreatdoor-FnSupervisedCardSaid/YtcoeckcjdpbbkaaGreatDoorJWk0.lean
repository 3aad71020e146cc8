/- Walks, printed by program. -/
import Derived.Test.YtcoeckcjdpbbkaaGreatDoorJLWa
import Derived.Test.YtcoeckcjdpbbkaaGreatDoorJMd
set_option linter.all false
namespace Gv
open Go.Value renaming slice→zS
open Go Go.Proofs Go.Proofs.Tryz
set_option maxRecDepth 20000
set_option maxHeartbeats 40000000
variable {G:Env} {K:Hp} {L:List gV} {w:World} {a1 a4:Option Addr} {c2 c5:Nat}
theorem aDa {a b:aH} {R:Int} (hm:aDn a b=some R) (c:aD G K (L) w):
  Calls prog 115 ([str a,str b]:List Value).toArray w (dS fun v w'=>v=i64 R/\aD G K (L) w'):=by
 exact aJ
theorem aBa {a:Int} {R:Bool} (hm:pL a=some R) (b:aD G K (L) w):
  Calls prog 153 ([i64 a]:List Value).toArray w (dS fun v w'=>v=Value.bool R/\aD G K (L) w'):=by
 exact aJ
theorem lG {a y R:Int} (hm:dR a y=some R) (b:aD G K (L) w):
  Calls prog 113 ([i64 a,i64 y]:List Value).toArray w (dS fun v w'=>v=i64 R/\aD G K (L) w'):=by
 refine nT func113 rfl (by kernel_rfl) (by show (2:Nat)<=20;decide) ?_;unfold dR at hm
 refine bS (bH (v:=i64 0) (bF (bS (aU (v:=i64 a) ?_))));obtain ⟨d,c,hm⟩:=aB hm
 exact cI (vs:=[i64 a]) call153 rfl (aBa c b) aJ
theorem aJe {a:(List Int)} {R:Int} (hm:aAg a=some R) (d:aD G K (L) w) (e:aN K a1 c2 a):
  Calls prog 120 ([zS a1 a.length c2]:List Value).toArray w (dS fun v w'=>v=i64 R/\aD G K (L) w'):=by
 refine nT func120 rfl (by kernel_rfl) (by show (1:Nat)<=18;decide) ?_;unfold aAg at hm
 refine bS (bH (v:=i64 0) (bF (bS (bH (v:=i64 0) (bF (bI (bS (aU (v:=zS a1 a.length c2) (aL (mV (len:=a.length) aHG rfl) (aU (v:=i64 0) (bF (aK [3] (fun f w=>aCs=some R/\aD G K (L) w) aJ ?_))))))))))));obtain ⟨g,b,ho⟩:=aB hm
 exact bY [3,6,7] b (fun c f w=>f 8=i64 c/\aD G K (L) w) aJ aJ
theorem aDv {a b:Edge} {R:Int} (hm:xP a b=some R) (p:aD G K (L) w):
  Calls prog 69 ([Value.agg #[i64 a.F,i64 a.B,i64 a.To],Value.agg #[i64 b.F,i64 b.B,i64 b.To]]:List Value).toArray w (dS fun v w'=>v=i64 R/\aD G K (L) w'):=by
 refine nT func69 rfl (by kernel_rfl) (by show (2:Nat)<=22;decide) ?_;unfold xP at hm
 refine bS (aEd (v:=Value.agg #[i64 a.F,i64 a.B,i64 a.To]) (vs:=[i64 a.F,i64 a.B,i64 a.To]) p rfl rfl (fun b1 w2 q=>(aEd (v:=Value.agg #[i64 b.F,i64 b.B,i64 b.To]) (vs:=[i64 b.F,i64 b.B,i64 b.To]) q rfl rfl (fun b4 w5 r=>(bH (v:=i64 0) (bF (bI ?_)))))));obtain ⟨K7,a6,h,u,a7⟩:=aD.lendBp r .head
 obtain ⟨k,i,j,l,a8⟩:=aD.lendBp u .head
 refine aCm (C:=fun w'=>∃ L',aD G k L' w') [(0,0),(1,0),(2,0),(3,0),(5,0),(6,0),(7,0),(8,0),(10,0),(11,0),(12,0),(13,0),(4,1),(9,1),(14,1),(15,1),(16,1),(17,0)] Tryz_mixed (by kernel_rfl) (fun _ hg=>⟨_,aD.mono l hg⟩) (fun a9 x=>?_)
 have c:=aD.mono l x
 refine bN rfl (fun _ _=>cE (t':=0) aLL rfl rfl) (bN rfl (fun _ ⟨_,c⟩=>dQ (t:=0) oG c j rfl rfl) (bN rfl (fun _ _=>cE (t':=0) aLL rfl rfl) (bN rfl (fun _ ⟨_,c⟩=>dQ (t:=0) oG c (h.mono i) rfl rfl) (bN rfl (fun _ _=>cE (t':=1) aGE rfl rfl) (bN rfl (fun _ ⟨_,c⟩=>dQ (t:=1) oG c j rfl rfl) (bN rfl (fun _ _=>cE (t':=1) aGE rfl rfl) (bN rfl (fun _ ⟨_,c⟩=>dQ (t:=1) oG c (h.mono i) rfl rfl) (bN rfl (fun _ _=>cE (t':=2) aGF rfl rfl) (bN rfl (fun _ ⟨_,c⟩=>dQ (t:=2) oG c j rfl rfl) (bN rfl (fun _ _=>cE (t':=2) aGF rfl rfl) (bN rfl (fun _ ⟨_,c⟩=>dQ (t:=2) oG c (h.mono i) rfl rfl) (fF rfl ?_))))))))))))
 obtain ⟨d,y,hm⟩:=aB hm
 refine cI (vs:=[i64 a.F,i64 b.F]) call113 rfl (lG y c) ?_
 rintro _ b0 ⟨rfl,m⟩
 refine aM (aG ⟨⟨_,m⟩,?_⟩)
 refine fF rfl ?_;obtain ⟨e,z,hm⟩:=aB hm
 refine cI (vs:=[i64 a.B,i64 b.B]) call113 rfl (lG z m) ?_
 rintro _ b2 ⟨rfl,n⟩
 refine aM (aG ⟨⟨_,n⟩,?_⟩)
 refine fF rfl ?_;obtain ⟨g,J,hm⟩:=aB hm
 refine cI (vs:=[i64 a.To,i64 b.To]) call113 rfl (lG J n) ?_
 rintro _ b3 ⟨rfl,o⟩
 refine aM (aG ⟨⟨_,o⟩,?_⟩)
 refine fF rfl (iG (Kt:=K) (xs:=([d,e,g]:List Int)) (cs:=[i64 d,i64 e,i64 g]) (vs:=[(0,i64 d),(1,i64 e),(2,i64 g)]) aHG ez_3 rfl rfl o rfl (by kernel_rfl) rfl rfl rfl ⟨rfl,rfl,rfl,trivial⟩ (fun V Z (a0:aD G k (aF 3 K V 3 ([d,e,g]:List Int)::L) Z)=>(aM (aG ⟨⟨_,a0⟩,?_⟩))))
 exact fF rfl aJ
theorem iU {a b:(List Int)} {R:Int} (hm:gX a b=some R) (e:aD G K (L) w) (g:aN K a1 c2 a) (h:aN K a4 c5 b):
  Calls prog 63 ([zS a1 a.length c2,zS a4 b.length c5]:List Value).toArray w (dS fun v w'=>v=i64 R/\aD G K (L) w'):=by
 refine nT func63 rfl (by kernel_rfl) (by show (2:Nat)<=36;decide) ?_;unfold gX at hm
 refine bS (bH (v:=i64 0) (bF (bI (bS (aU (v:=zS a1 a.length c2) (aL (mV (len:=a.length) eN rfl) (aU (v:=i64 0) (bF (aK [0,1] (fun f w=>fN a b=some R/\aD G K (L) w) aJ ?_)))))))));obtain ⟨i,c,ho⟩:=aB hm
 exact bY [0,1,9,10] c (fun d f w=>f 11=i64 d/\aD G K (L) w) aJ aJ
end Gv
