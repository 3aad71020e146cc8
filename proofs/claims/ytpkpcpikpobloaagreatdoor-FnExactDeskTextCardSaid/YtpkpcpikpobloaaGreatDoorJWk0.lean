/- Walks, printed by program. -/
import Derived.Test.YtpkpcpikpobloaaGreatDoorJLWa
import Derived.Test.YtpkpcpikpobloaaGreatDoorJMd
set_option linter.all false
namespace Gv
open Gv.Hp renaming le_refl→zR
open Go.Value renaming slice→zS
open Go Go.Proofs Go.Proofs.Tryz
set_option maxRecDepth 20000
set_option maxHeartbeats 40000000
variable {G:kE} {K:Hp} {L:List eV} {w:World} {a1 a4:Option Addr} {c2 c5:Nat}
theorem vO {a:Int} {R:Bool} (hm:oH a=some R) (b:aG G K (L) w):
  Calls prog 190 ([i64 a]:List Value).toArray w (cJ fun v w'=>v=Value.bool R/\aG G K (L) w'):=by
 exact aF
theorem iT {a y R:Int} (hm:fY a y=some R) (b:aG G K (L) w):
  Calls prog 149 ([i64 a,i64 y]:List Value).toArray w (cJ fun v w'=>v=i64 R/\aG G K (L) w'):=by
 refine aN func149 rfl (by kernel_rfl) (by show (2:Nat)<=20;decide) ?_;unfold fY at hm
 refine aL (aI (v:=i64 0) (aM (aL (aO (v:=i64 a) ?_))));obtain ⟨d,c,hm⟩:=aB hm
 exact aW (vs:=[i64 a]) call190 rfl (vO c b) aF
theorem aJc {a:(List Int)} {R:Int} (hm:tV a=some R) (d:aG G K (L) w) (e:aX K a1 c2 a):
  Calls prog 148 ([zS a1 a.length c2]:List Value).toArray w (cJ fun v w'=>v=i64 R/\aG G K (L) w'):=by
 refine aN func148 rfl (by kernel_rfl) (by show (1:Nat)<=18;decide) ?_;unfold tV at hm
 refine aL (aI (v:=i64 0) (aM (aL (aI (v:=i64 0) (aM (aH (aL (aO (v:=zS a1 a.length c2) (aC (aU (len:=a.length) sl_249 rfl) (aO (v:=i64 0) (aM (aQ [3] (fun f w=>zM=some R/\aG G K (L) w) aF ?_))))))))))));obtain ⟨g,b,ho⟩:=aB hm
 exact bS [3,6,7] b (fun c f w=>f 8=i64 c/\aG G K (L) w) aF aF
theorem aHV {a b:Edge} {R:Int} (hm:rF a b=some R) (p:aG G K (L) w):
  Calls prog 104 ([Value.agg #[i64 a.F,i64 a.B,i64 a.To],Value.agg #[i64 b.F,i64 b.B,i64 b.To]]:List Value).toArray w (cJ fun v w'=>v=i64 R/\aG G K (L) w'):=by
 refine aN func104 rfl (by kernel_rfl) (by show (2:Nat)<=22;decide) ?_;unfold rF at hm
 refine aL (eO (v:=Value.agg #[i64 a.F,i64 a.B,i64 a.To]) (vs:=[i64 a.F,i64 a.B,i64 a.To]) p rfl rfl (fun b1 w2 q=>(eO (v:=Value.agg #[i64 b.F,i64 b.B,i64 b.To]) (vs:=[i64 b.F,i64 b.B,i64 b.To]) q rfl rfl (fun b4 w5 r=>(aI (v:=i64 0) (aM (aH ?_)))))));obtain ⟨K7,a6,h,u,a7⟩:=aG.lendBp r .head
 obtain ⟨k,i,j,l,a8⟩:=aG.lendBp u .head
 refine lQ (C:=fun w'=>∃ L',aG G k L' w') [(0,0),(1,0),(2,0),(3,0),(5,0),(6,0),(7,0),(8,0),(10,0),(11,0),(12,0),(13,0),(4,1),(9,1),(14,1),(15,1),(16,1),(17,0)] Tryz_mixed (by kernel_rfl) (fun _ hg=>⟨_,aG.mono l hg⟩) (fun a9 x=>?_)
 have c:=aG.mono l x
 refine dN rfl (fun _ _=>bG (t':=0) aGt rfl rfl) (dN rfl (fun _ ⟨_,c⟩=>bY (t:=0) gH c j rfl rfl) (dN rfl (fun _ _=>bG (t':=0) aGt rfl rfl) (dN rfl (fun _ ⟨_,c⟩=>bY (t:=0) gH c (h.mono i) rfl rfl) (dN rfl (fun _ _=>bG (t':=1) aGu rfl rfl) (dN rfl (fun _ ⟨_,c⟩=>bY (t:=1) gH c j rfl rfl) (dN rfl (fun _ _=>bG (t':=1) aGu rfl rfl) (dN rfl (fun _ ⟨_,c⟩=>bY (t:=1) gH c (h.mono i) rfl rfl) (dN rfl (fun _ _=>bG (t':=2) aJJ rfl rfl) (dN rfl (fun _ ⟨_,c⟩=>bY (t:=2) gH c j rfl rfl) (dN rfl (fun _ _=>bG (t':=2) aJJ rfl rfl) (dN rfl (fun _ ⟨_,c⟩=>bY (t:=2) gH c (h.mono i) rfl rfl) (vV rfl ?_))))))))))))
 obtain ⟨d,y,hm⟩:=aB hm
 refine aW (vs:=[i64 a.F,i64 b.F]) call149 rfl (iT y c) ?_
 rintro _ b0 ⟨rfl,m⟩
 refine bR (aE ⟨⟨_,m⟩,?_⟩)
 refine vV rfl ?_;obtain ⟨e,z,hm⟩:=aB hm
 refine aW (vs:=[i64 a.B,i64 b.B]) call149 rfl (iT z m) ?_
 rintro _ b2 ⟨rfl,n⟩
 refine bR (aE ⟨⟨_,n⟩,?_⟩)
 refine vV rfl ?_;obtain ⟨g,J,hm⟩:=aB hm
 refine aW (vs:=[i64 a.To,i64 b.To]) call149 rfl (iT J n) ?_
 rintro _ b3 ⟨rfl,o⟩
 refine bR (aE ⟨⟨_,o⟩,?_⟩)
 refine vV rfl (dH (Kt:=K) (xs:=([d,e,g]:List Int)) (cs:=[i64 d,i64 e,i64 g]) (vs:=[(0,i64 d),(1,i64 e),(2,i64 g)]) sl_249 ez_3 rfl rfl o rfl (by kernel_rfl) rfl rfl rfl ⟨rfl,rfl,rfl,trivial⟩ (fun V Z (a0:aG G k (aV 3 K V 3 ([d,e,g]:List Int)::L) Z)=>(bR (aE ⟨⟨_,a0⟩,?_⟩))))
 exact vV rfl aF
theorem tZ {a:aK} {R:Bool} (hm:mN a=some R) (b:aG G K (L) w):
  Calls prog 287 ([str a]:List Value).toArray w (cJ fun v w'=>v=Value.bool R/\aG G K (L) w'):=by
 exact aF
theorem aCJ {a y:aK} {R:Int} (hm:iX a y=some R) (b:aG G K (L) w):
  Calls prog 272 ([str a,str y]:List Value).toArray w (cJ fun v w'=>v=i64 R/\aG G K (L) w'):=by
 refine aN func272 rfl (by kernel_rfl) (by show (2:Nat)<=20;decide) ?_;unfold iX at hm
 refine aL (aI (v:=i64 0) (aM (aL (aO (v:=str a) ?_))));obtain ⟨d,c,hm⟩:=aB hm
 exact aW (vs:=[str a]) call287 rfl (tZ c b) aF
theorem rL {a b:(List aK)} {R:Int} (hm:fP a b=some R) (e:aG G K (L) w) (g:aX K a1 c2 a) (h:aX K a4 c5 b):
  Calls prog 238 ([zS a1 a.length c2,zS a4 b.length c5]:List Value).toArray w (cJ fun v w'=>v=i64 R/\aG G K (L) w'):=by
 refine aN func238 rfl (by kernel_rfl) (by show (2:Nat)<=36;decide) ?_;unfold fP at hm
 refine aL (aI (v:=i64 0) (aM (aH (aL (aO (v:=zS a1 a.length c2) (aC (aU (len:=a.length) cU rfl) (aO (v:=i64 0) (aM (aQ [0,1] (fun f w=>kJ a b=some R/\aG G K (L) w) aF ?_)))))))));obtain ⟨i,c,ho⟩:=aB hm
 exact bS [0,1,9,10] c (fun d f w=>f 11=i64 d/\aG G K (L) w) aF aF
end Gv
