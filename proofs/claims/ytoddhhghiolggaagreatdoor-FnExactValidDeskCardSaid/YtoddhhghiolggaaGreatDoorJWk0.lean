/- Walks, printed by program. -/
import Derived.Test.YtoddhhghiolggaaGreatDoorJLWa
import Derived.Test.YtoddhhghiolggaaGreatDoorJMd
set_option linter.all false
namespace Gv
open Gv.Hp renaming le_refl→zR
open Go.Value renaming slice→zS
open Go Go.Proofs Go.Proofs.Tryz
set_option maxRecDepth 20000
set_option maxHeartbeats 40000000
variable {G:kE} {K:Hp} {L:List eT} {w:World} {a1 a4:Option Addr} {c2 c5:Nat}
theorem uW {a:Int} {R:Bool} (hm:nU a=some R) (b:aG G K (L) w):
  Calls prog 148 ([i64 a]:List Value).toArray w (cK fun v w'=>v=Value.bool R/\aG G K (L) w'):=by
 exact aE
theorem iO {a y R:Int} (hm:fS a y=some R) (b:aG G K (L) w):
  Calls prog 96 ([i64 a,i64 y]:List Value).toArray w (cK fun v w'=>v=i64 R/\aG G K (L) w'):=by
 refine aM func96 rfl (by kernel_rfl) (by show (2:Nat)<=20;decide) ?_;unfold fS at hm
 refine aK (aH (v:=i64 0) (aL (aK (aO (v:=i64 a) ?_))));obtain ⟨d,c,hm⟩:=aB hm
 exact aW (vs:=[i64 a]) call148 rfl (uW c b) aE
theorem aIc {a:(List Int)} {R:Int} (hm:tB a=some R) (d:aG G K (L) w) (e:aY K a1 c2 a):
  Calls prog 95 ([zS a1 a.length c2]:List Value).toArray w (cK fun v w'=>v=i64 R/\aG G K (L) w'):=by
 refine aM func95 rfl (by kernel_rfl) (by show (1:Nat)<=18;decide) ?_;unfold tB at hm
 refine aK (aH (v:=i64 0) (aL (aK (aH (v:=i64 0) (aL (aI (aK (aO (v:=zS a1 a.length c2) (aC (aV (len:=a.length) sl_211 rfl) (aO (v:=i64 0) (aL (aQ [3] (fun f w=>yF=some R/\aG G K (L) w) aE ?_))))))))))));obtain ⟨g,b,ho⟩:=aB hm
 exact bP [3,6,7] b (fun c f w=>f 8=i64 c/\aG G K (L) w) aE aE
theorem aGX {a b:Edge} {R:Int} (hm:qP a b=some R) (p:aG G K (L) w):
  Calls prog 52 ([Value.agg #[i64 a.F,i64 a.B,i64 a.To],Value.agg #[i64 b.F,i64 b.B,i64 b.To]]:List Value).toArray w (cK fun v w'=>v=i64 R/\aG G K (L) w'):=by
 refine aM func52 rfl (by kernel_rfl) (by show (2:Nat)<=22;decide) ?_;unfold qP at hm
 refine aK (eR (v:=Value.agg #[i64 a.F,i64 a.B,i64 a.To]) (vs:=[i64 a.F,i64 a.B,i64 a.To]) p rfl rfl (fun b1 w2 q=>(eR (v:=Value.agg #[i64 b.F,i64 b.B,i64 b.To]) (vs:=[i64 b.F,i64 b.B,i64 b.To]) q rfl rfl (fun b4 w5 r=>(aH (v:=i64 0) (aL (aI ?_)))))));obtain ⟨K7,a6,h,u,a7⟩:=aG.lendBp r .head
 obtain ⟨k,i,j,l,a8⟩:=aG.lendBp u .head
 refine mJ (C:=fun w'=>∃ L',aG G k L' w') [(0,0),(1,0),(2,0),(3,0),(5,0),(6,0),(7,0),(8,0),(10,0),(11,0),(12,0),(13,0),(4,1),(9,1),(14,1),(15,1),(16,1),(17,0)] Tryz_mixed (by kernel_rfl) (fun _ hg=>⟨_,aG.mono l hg⟩) (fun a9 x=>?_)
 have c:=aG.mono l x
 refine dI rfl (fun _ _=>bI (t':=0) aOS rfl rfl) (dI rfl (fun _ ⟨_,c⟩=>cC (t:=0) iK c j rfl rfl) (dI rfl (fun _ _=>bI (t':=0) aOS rfl rfl) (dI rfl (fun _ ⟨_,c⟩=>cC (t:=0) iK c (h.mono i) rfl rfl) (dI rfl (fun _ _=>bI (t':=1) aOT rfl rfl) (dI rfl (fun _ ⟨_,c⟩=>cC (t:=1) iK c j rfl rfl) (dI rfl (fun _ _=>bI (t':=1) aOT rfl rfl) (dI rfl (fun _ ⟨_,c⟩=>cC (t:=1) iK c (h.mono i) rfl rfl) (dI rfl (fun _ _=>bI (t':=2) aOU rfl rfl) (dI rfl (fun _ ⟨_,c⟩=>cC (t:=2) iK c j rfl rfl) (dI rfl (fun _ _=>bI (t':=2) aOU rfl rfl) (dI rfl (fun _ ⟨_,c⟩=>cC (t:=2) iK c (h.mono i) rfl rfl) (vG rfl ?_))))))))))))
 obtain ⟨d,y,hm⟩:=aB hm
 refine aW (vs:=[i64 a.F,i64 b.F]) call96 rfl (iO y c) ?_
 rintro _ b0 ⟨rfl,m⟩
 refine bY (aF ⟨⟨_,m⟩,?_⟩)
 refine vG rfl ?_;obtain ⟨e,z,hm⟩:=aB hm
 refine aW (vs:=[i64 a.B,i64 b.B]) call96 rfl (iO z m) ?_
 rintro _ b2 ⟨rfl,n⟩
 refine bY (aF ⟨⟨_,n⟩,?_⟩)
 refine vG rfl ?_;obtain ⟨g,J,hm⟩:=aB hm
 refine aW (vs:=[i64 a.To,i64 b.To]) call96 rfl (iO J n) ?_
 rintro _ b3 ⟨rfl,o⟩
 refine bY (aF ⟨⟨_,o⟩,?_⟩)
 refine vG rfl (dK (Kt:=K) (xs:=([d,e,g]:List Int)) (cs:=[i64 d,i64 e,i64 g]) (vs:=[(0,i64 d),(1,i64 e),(2,i64 g)]) sl_211 ez_3 rfl rfl o rfl (by kernel_rfl) rfl rfl rfl ⟨rfl,rfl,rfl,trivial⟩ (fun V Z (a0:aG G k (aT 3 K V 3 ([d,e,g]:List Int)::L) Z)=>(bY (aF ⟨⟨_,a0⟩,?_⟩))))
 exact vG rfl aE
theorem tJ {a:aN} {R:Bool} (hm:mG a=some R) (b:aG G K (L) w):
  Calls prog 264 ([str a]:List Value).toArray w (cK fun v w'=>v=Value.bool R/\aG G K (L) w'):=by
 exact aE
theorem aCn {a y:aN} {R:Int} (hm:iW a y=some R) (b:aG G K (L) w):
  Calls prog 232 ([str a,str y]:List Value).toArray w (cK fun v w'=>v=i64 R/\aG G K (L) w'):=by
 refine aM func232 rfl (by kernel_rfl) (by show (2:Nat)<=20;decide) ?_;unfold iW at hm
 refine aK (aH (v:=i64 0) (aL (aK (aO (v:=str a) ?_))));obtain ⟨d,c,hm⟩:=aB hm
 exact aW (vs:=[str a]) call264 rfl (tJ c b) aE
theorem rB {a b:(List aN)} {R:Int} (hm:fM a b=some R) (e:aG G K (L) w) (g:aY K a1 c2 a) (h:aY K a4 c5 b):
  Calls prog 194 ([zS a1 a.length c2,zS a4 b.length c5]:List Value).toArray w (cK fun v w'=>v=i64 R/\aG G K (L) w'):=by
 refine aM func194 rfl (by kernel_rfl) (by show (2:Nat)<=36;decide) ?_;unfold fM at hm
 refine aK (aH (v:=i64 0) (aL (aI (aK (aO (v:=zS a1 a.length c2) (aC (aV (len:=a.length) cX rfl) (aO (v:=i64 0) (aL (aQ [0,1] (fun f w=>kC a b=some R/\aG G K (L) w) aE ?_)))))))));obtain ⟨i,c,ho⟩:=aB hm
 exact bP [0,1,9,10] c (fun d f w=>f 11=i64 d/\aG G K (L) w) aE aE
end Gv
