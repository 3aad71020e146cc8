/- Walks, printed by program. -/
import Derived.Test.YthbfapccpmppoaaGreatDoorJLWa
import Derived.Test.YthbfapccpmppoaaGreatDoorJMd
set_option linter.all false
namespace Gv
open Gv.Hp renaming le_refl→zR
open Go.Value renaming slice→zS
open Go Go.Proofs Go.Proofs.Tryz
set_option maxRecDepth 20000
set_option maxHeartbeats 40000000
variable {G:kH} {K:Hp} {L:List eW} {w:World} {a1 a4:Option Addr} {c2 c5:Nat}
theorem vC {a:Int} {R:Bool} (hm:nX a=some R) (b:aF G K (L) w):
  Calls prog 171 ([i64 a]:List Value).toArray w (cL fun v w'=>v=Value.bool R/\aF G K (L) w'):=by
 exact aE
theorem iS {a y R:Int} (hm:fT a y=some R) (b:aF G K (L) w):
  Calls prog 130 ([i64 a,i64 y]:List Value).toArray w (cL fun v w'=>v=i64 R/\aF G K (L) w'):=by
 refine aN func130 rfl (by kernel_rfl) (by show (2:Nat)<=20;decide) ?_;unfold fT at hm
 refine aJ (aG (v:=i64 0) (aM (aJ (aO (v:=i64 a) ?_))));obtain ⟨d,c,hm⟩:=aB hm
 exact aT (vs:=[i64 a]) call171 rfl (vC c b) aE
theorem aIu {a:(List Int)} {R:Int} (hm:tG a=some R) (d:aF G K (L) w) (e:aW K a1 c2 a):
  Calls prog 129 ([zS a1 a.length c2]:List Value).toArray w (cL fun v w'=>v=i64 R/\aF G K (L) w'):=by
 refine aN func129 rfl (by kernel_rfl) (by show (1:Nat)<=18;decide) ?_;unfold tG at hm
 refine aJ (aG (v:=i64 0) (aM (aJ (aG (v:=i64 0) (aM (aH (aJ (aO (v:=zS a1 a.length c2) (aC (aX (len:=a.length) sl_226 rfl) (aO (v:=i64 0) (aM (aQ [3] (fun f w=>yP=some R/\aF G K (L) w) aE ?_))))))))))));obtain ⟨g,b,ho⟩:=aB hm
 exact bW [3,6,7] b (fun c f w=>f 8=i64 c/\aF G K (L) w) aE aE
theorem aHt {a b:Edge} {R:Int} (hm:qU a b=some R) (p:aF G K (L) w):
  Calls prog 93 ([Value.agg #[i64 a.F,i64 a.B,i64 a.To],Value.agg #[i64 b.F,i64 b.B,i64 b.To]]:List Value).toArray w (cL fun v w'=>v=i64 R/\aF G K (L) w'):=by
 refine aN func93 rfl (by kernel_rfl) (by show (2:Nat)<=22;decide) ?_;unfold qU at hm
 refine aJ (eT (v:=Value.agg #[i64 a.F,i64 a.B,i64 a.To]) (vs:=[i64 a.F,i64 a.B,i64 a.To]) p rfl rfl (fun b1 w2 q=>(eT (v:=Value.agg #[i64 b.F,i64 b.B,i64 b.To]) (vs:=[i64 b.F,i64 b.B,i64 b.To]) q rfl rfl (fun b4 w5 r=>(aG (v:=i64 0) (aM (aH ?_)))))));obtain ⟨K7,a6,h,u,a7⟩:=aF.lendBp r .head
 obtain ⟨k,i,j,l,a8⟩:=aF.lendBp u .head
 refine mO (C:=fun w'=>∃ L',aF G k L' w') [(0,0),(1,0),(2,0),(3,0),(5,0),(6,0),(7,0),(8,0),(10,0),(11,0),(12,0),(13,0),(4,1),(9,1),(14,1),(15,1),(16,1),(17,0)] Tryz_mixed (by kernel_rfl) (fun _ hg=>⟨_,aF.mono l hg⟩) (fun a9 x=>?_)
 have c:=aF.mono l x
 refine dL rfl (fun _ _=>bH (t':=0) aGa rfl rfl) (dL rfl (fun _ ⟨_,c⟩=>bZ (t:=0) gJ c j rfl rfl) (dL rfl (fun _ _=>bH (t':=0) aGa rfl rfl) (dL rfl (fun _ ⟨_,c⟩=>bZ (t:=0) gJ c (h.mono i) rfl rfl) (dL rfl (fun _ _=>bH (t':=1) aGb rfl rfl) (dL rfl (fun _ ⟨_,c⟩=>bZ (t:=1) gJ c j rfl rfl) (dL rfl (fun _ _=>bH (t':=1) aGb rfl rfl) (dL rfl (fun _ ⟨_,c⟩=>bZ (t:=1) gJ c (h.mono i) rfl rfl) (dL rfl (fun _ _=>bH (t':=2) aJa rfl rfl) (dL rfl (fun _ ⟨_,c⟩=>bZ (t:=2) gJ c j rfl rfl) (dL rfl (fun _ _=>bH (t':=2) aJa rfl rfl) (dL rfl (fun _ ⟨_,c⟩=>bZ (t:=2) gJ c (h.mono i) rfl rfl) (vM rfl ?_))))))))))))
 obtain ⟨d,y,hm⟩:=aB hm
 refine aT (vs:=[i64 a.F,i64 b.F]) call130 rfl (iS y c) ?_
 rintro _ b0 ⟨rfl,m⟩
 refine bP (aD ⟨⟨_,m⟩,?_⟩)
 refine vM rfl ?_;obtain ⟨e,z,hm⟩:=aB hm
 refine aT (vs:=[i64 a.B,i64 b.B]) call130 rfl (iS z m) ?_
 rintro _ b2 ⟨rfl,n⟩
 refine bP (aD ⟨⟨_,n⟩,?_⟩)
 refine vM rfl ?_;obtain ⟨g,J,hm⟩:=aB hm
 refine aT (vs:=[i64 a.To,i64 b.To]) call130 rfl (iS J n) ?_
 rintro _ b3 ⟨rfl,o⟩
 refine bP (aD ⟨⟨_,o⟩,?_⟩)
 refine vM rfl (dK (Kt:=K) (xs:=([d,e,g]:List Int)) (cs:=[i64 d,i64 e,i64 g]) (vs:=[(0,i64 d),(1,i64 e),(2,i64 g)]) sl_226 ez_3 rfl rfl o rfl (by kernel_rfl) rfl rfl rfl ⟨rfl,rfl,rfl,trivial⟩ (fun V Z (a0:aF G k (aV 3 K V 3 ([d,e,g]:List Int)::L) Z)=>(bP (aD ⟨⟨_,a0⟩,?_⟩))))
 exact vM rfl aE
theorem tO {a:aL} {R:Bool} (hm:mK a=some R) (b:aF G K (L) w):
  Calls prog 276 ([str a]:List Value).toArray w (cL fun v w'=>v=Value.bool R/\aF G K (L) w'):=by
 exact aE
theorem aCx {a y:aL} {R:Int} (hm:iZ a y=some R) (b:aF G K (L) w):
  Calls prog 254 ([str a,str y]:List Value).toArray w (cL fun v w'=>v=i64 R/\aF G K (L) w'):=by
 refine aN func254 rfl (by kernel_rfl) (by show (2:Nat)<=20;decide) ?_;unfold iZ at hm
 refine aJ (aG (v:=i64 0) (aM (aJ (aO (v:=str a) ?_))));obtain ⟨d,c,hm⟩:=aB hm
 exact aT (vs:=[str a]) call276 rfl (tO c b) aE
theorem rD {a b:(List aL)} {R:Int} (hm:fO a b=some R) (e:aF G K (L) w) (g:aW K a1 c2 a) (h:aW K a4 c5 b):
  Calls prog 216 ([zS a1 a.length c2,zS a4 b.length c5]:List Value).toArray w (cL fun v w'=>v=i64 R/\aF G K (L) w'):=by
 refine aN func216 rfl (by kernel_rfl) (by show (2:Nat)<=36;decide) ?_;unfold fO at hm
 refine aJ (aG (v:=i64 0) (aM (aH (aJ (aO (v:=zS a1 a.length c2) (aC (aX (len:=a.length) cT rfl) (aO (v:=i64 0) (aM (aQ [0,1] (fun f w=>kE a b=some R/\aF G K (L) w) aE ?_)))))))));obtain ⟨i,c,ho⟩:=aB hm
 exact bW [0,1,9,10] c (fun d f w=>f 11=i64 d/\aF G K (L) w) aE aE
end Gv
