/- Walks, printed by program. -/
import Derived.Test.YtiipffjapfalhaaGreatDoorJLWa
import Derived.Test.YtiipffjapfalhaaGreatDoorJMd
set_option linter.all false
namespace Gv
open Gv.Hp renaming le_refl→zR
open Go.Value renaming slice→zS,agg→zA
open Go Go.Proofs Go.Proofs.Tryz
set_option maxRecDepth 20000
set_option maxHeartbeats 40000000
variable {G:nX} {K:Hp} {L:List fJ} {w:World} {a1 a4:Option Addr} {c2 c5:Nat}
theorem zO {x_:Int} {R:Bool} (hm:kT x_=some R) (a:aF G K (L) w):
  Calls prog 142 ([i64 x_]:List Value).toArray w (dD fun v w'=>v=Value.bool R/\aF G K (L) w'):=by
 exact aL
theorem gE {x_ y R:Int} (hm:dB x_ y=some R) (a:aF G K (L) w):
  Calls prog 93 ([i64 x_,i64 y]:List Value).toArray w (dD fun v w'=>v=i64 R/\aF G K (L) w'):=by
 refine aN func93 rfl (by kernel_rfl) (by show (2:Nat)<=20;decide) ?_;unfold dB at hm
 refine aK (aG (v:=i64 0) (aH (aK (aI (v:=i64 x_) ?_))));obtain ⟨c,b,hm⟩:=aB hm
 exact aT (vs:=[i64 x_]) call142 rfl (zO b a) aL
theorem mJ {a b:(List Int)} {R:Int} (hm:fN a b=some R) (e:aF G K (L) w) (g:bK K a1 c2 a) (h:bK K a4 c5 b):
  Calls prog 94 ([zS a1 a.length c2,zS a4 b.length c5]:List Value).toArray w (dD fun v w'=>v=i64 R/\aF G K (L) w'):=by
 refine aN func94 rfl (by kernel_rfl) (by show (2:Nat)<=36;decide) ?_;unfold fN at hm
 refine aK (aG (v:=i64 0) (aH (aJ (aK (aI (v:=zS a1 a.length c2) (aC (bD (len:=a.length) fZ rfl) (aI (v:=i64 0) (aH (aQ [0,1] (fun f w=>gJ a b=some R/\aF G K (L) w) aL ?_)))))))));obtain ⟨i,c,ho⟩:=aB hm
 exact cE [0,1,9,10] c (fun d f w=>f 11=i64 d/\aF G K (L) w) aL aL
theorem aLw {a:(List Int)} {R:Int} (hm:mZ a=some R) (d:aF G K (L) w) (e:bK K a1 c2 a):
  Calls prog 92 ([zS a1 a.length c2]:List Value).toArray w (dD fun v w'=>v=i64 R/\aF G K (L) w'):=by
 refine aN func92 rfl (by kernel_rfl) (by show (1:Nat)<=18;decide) ?_;unfold mZ at hm
 refine aK (aG (v:=i64 0) (aH (aK (aG (v:=i64 0) (aH (aJ (aK (aI (v:=zS a1 a.length c2) (aC (bD (len:=a.length) aTa rfl) (aI (v:=i64 0) (aH (aQ [3] (fun f w=>aBy=some R/\aF G K (L) w) aL ?_))))))))))));obtain ⟨g,b,ho⟩:=aB hm
 exact cE [3,6,7] b (fun c f w=>f 8=i64 c/\aF G K (L) w) aL aL
theorem uR {a b:GPoint} {R:Int} (hm:yA a b=some R) (q:aF G K (L) w) (r:bK K a1 c2 a.Values) (u:bK K a4 c5 b.Values):
  Calls prog 58 ([zA #[i64 a.Definition,i64 a.Part,zS a1 a.Values.length c2],zA #[i64 b.Definition,i64 b.Part,zS a4 b.Values.length c5]]:List Value).toArray w (dD fun v w'=>v=i64 R/\aF G K (L) w'):=by
 refine aN func58 rfl (by kernel_rfl) (by show (2:Nat)<=22;decide) ?_;unfold yA at hm
 refine aK (fO (v:=zA #[i64 a.Definition,i64 a.Part,zS a1 a.Values.length c2]) (vs:=[i64 a.Definition,i64 a.Part,zS a1 a.Values.length c2]) q rfl rfl (fun b7 w8 x=>(fO (v:=zA #[i64 b.Definition,i64 b.Part,zS a4 b.Values.length c5]) (vs:=[i64 b.Definition,i64 b.Part,zS a4 b.Values.length c5]) x rfl rfl (fun a9 b0 y=>(aG (v:=i64 0) (aH (aJ ?_)))))));obtain ⟨b1,k,i,z,b2⟩:=aF.lendBp y .head
 obtain ⟨l,d,j,m,b3⟩:=aF.lendBp z .head
 refine iC (C:=fun w'=>∃ L',aF G l L' w') [(0,0),(1,0),(2,0),(3,0),(5,0),(6,0),(7,0),(8,0),(10,0),(11,0),(12,0),(13,0),(4,1),(9,1),(14,1),(15,1),(16,1),(17,0)] Tryz_mixed (by kernel_rfl) (fun _ hg=>⟨_,aF.mono m hg⟩) (fun b4 J=>?_)
 have c:=aF.mono m J
 refine bW rfl (fun _ _=>bG (t':=0) aFp rfl rfl) (bW rfl (fun _ ⟨_,c⟩=>cD (t:=0) kQ c j rfl rfl) (bW rfl (fun _ _=>bG (t':=0) aFp rfl rfl) (bW rfl (fun _ ⟨_,c⟩=>cD (t:=0) kQ c (i.mono d) rfl rfl) (bW rfl (fun _ _=>bG (t':=1) aFq rfl rfl) (bW rfl (fun _ ⟨_,c⟩=>cD (t:=1) kQ c j rfl rfl) (bW rfl (fun _ _=>bG (t':=1) aFq rfl rfl) (bW rfl (fun _ ⟨_,c⟩=>cD (t:=1) kQ c (i.mono d) rfl rfl) (bW rfl (fun _ _=>bG (t':=2) aKb rfl rfl) (bW rfl (fun _ ⟨_,c⟩=>cD (t:=2) aMe c j rfl rfl) (bW rfl (fun _ _=>bG (t':=2) aKb rfl rfl) (bW rfl (fun _ ⟨_,c⟩=>cD (t:=2) aMe c (i.mono d) rfl rfl) (nT rfl ?_))))))))))))
 obtain ⟨e,V,hm⟩:=aB hm
 refine aT (vs:=[i64 a.Definition,i64 b.Definition]) call93 rfl (gE V c) ?_
 rintro _ b5 ⟨rfl,n⟩
 refine bN (aD ⟨⟨_,n⟩,?_⟩)
 refine nT rfl ?_;obtain ⟨g,a0,hm⟩:=aB hm
 refine aT (vs:=[i64 a.Part,i64 b.Part]) call93 rfl (gE a0 n) ?_
 rintro _ b6 ⟨rfl,o⟩
 refine bN (aD ⟨⟨_,o⟩,?_⟩)
 refine nT rfl ?_;obtain ⟨h,a2,hm⟩:=aB hm
 refine aT (vs:=[zS a1 a.Values.length c2,zS a4 b.Values.length c5]) call94 rfl (mJ a2 o (r.mono (Hp.le_trans k d)) (u.mono (Hp.le_trans k d))) ?_
 rintro _ b8 ⟨rfl,p⟩
 refine bN (aD ⟨⟨_,p⟩,?_⟩)
 refine nT rfl (dU (Kt:=K) (xs:=([e,g,h]:List Int)) (cs:=[i64 e,i64 g,i64 h]) (vs:=[(0,i64 e),(1,i64 g),(2,i64 h)]) aTa ez_3 rfl rfl p rfl (by kernel_rfl) rfl rfl rfl ⟨rfl,rfl,rfl,trivial⟩ (fun a3 a5 (a6:aF G l (aP 3 K a3 3 ([e,g,h]:List Int)::L) a5)=>(bN (aD ⟨⟨_,a6⟩,?_⟩))))
 exact nT rfl aL
theorem aCB {a b:aO} {R:Int} (hm:aCR a b=some R) (c:aF G K (L) w):
  Calls prog 168 ([str a,str b]:List Value).toArray w (dD fun v w'=>v=i64 R/\aF G K (L) w'):=by
 exact aL
theorem aDd {a b:Edge} {R:Int} (hm:uL a b=some R) (p:aF G K (L) w):
  Calls prog 172 ([zA #[i64 a.F,i64 a.B,i64 a.To],zA #[i64 b.F,i64 b.B,i64 b.To]]:List Value).toArray w (dD fun v w'=>v=i64 R/\aF G K (L) w'):=by
 refine aN func172 rfl (by kernel_rfl) (by show (2:Nat)<=22;decide) ?_;unfold uL at hm
 refine aK (fO (v:=zA #[i64 a.F,i64 a.B,i64 a.To]) (vs:=[i64 a.F,i64 a.B,i64 a.To]) p rfl rfl (fun b1 w2 q=>(fO (v:=zA #[i64 b.F,i64 b.B,i64 b.To]) (vs:=[i64 b.F,i64 b.B,i64 b.To]) q rfl rfl (fun b4 w5 r=>(aG (v:=i64 0) (aH (aJ ?_)))))));obtain ⟨K7,a7,h,u,a8⟩:=aF.lendBp r .head
 obtain ⟨k,i,j,l,a9⟩:=aF.lendBp u .head
 refine iC (C:=fun w'=>∃ L',aF G k L' w') [(0,0),(1,0),(2,0),(3,0),(5,0),(6,0),(7,0),(8,0),(10,0),(11,0),(12,0),(13,0),(4,1),(9,1),(14,1),(15,1),(16,1),(17,0)] Tryz_mixed (by kernel_rfl) (fun _ hg=>⟨_,aF.mono l hg⟩) (fun b0 x=>?_)
 have c:=aF.mono l x
 refine bW rfl (fun _ _=>bG (t':=0) aSX rfl rfl) (bW rfl (fun _ ⟨_,c⟩=>cD (t:=0) kQ c j rfl rfl) (bW rfl (fun _ _=>bG (t':=0) aSX rfl rfl) (bW rfl (fun _ ⟨_,c⟩=>cD (t:=0) kQ c (h.mono i) rfl rfl) (bW rfl (fun _ _=>bG (t':=1) aMn rfl rfl) (bW rfl (fun _ ⟨_,c⟩=>cD (t:=1) kQ c j rfl rfl) (bW rfl (fun _ _=>bG (t':=1) aMn rfl rfl) (bW rfl (fun _ ⟨_,c⟩=>cD (t:=1) kQ c (h.mono i) rfl rfl) (bW rfl (fun _ _=>bG (t':=2) aSY rfl rfl) (bW rfl (fun _ ⟨_,c⟩=>cD (t:=2) kQ c j rfl rfl) (bW rfl (fun _ _=>bG (t':=2) aSY rfl rfl) (bW rfl (fun _ ⟨_,c⟩=>cD (t:=2) kQ c (h.mono i) rfl rfl) (nT rfl ?_))))))))))))
 obtain ⟨d,y,hm⟩:=aB hm
 refine aT (vs:=[i64 a.F,i64 b.F]) call93 rfl (gE y c) ?_
 rintro _ b2 ⟨rfl,m⟩
 refine bN (aD ⟨⟨_,m⟩,?_⟩)
 refine nT rfl ?_;obtain ⟨e,z,hm⟩:=aB hm
 refine aT (vs:=[i64 a.B,i64 b.B]) call93 rfl (gE z m) ?_
 rintro _ b3 ⟨rfl,n⟩
 refine bN (aD ⟨⟨_,n⟩,?_⟩)
 refine nT rfl ?_;obtain ⟨g,J,hm⟩:=aB hm
 refine aT (vs:=[i64 a.To,i64 b.To]) call93 rfl (gE J n) ?_
 rintro _ b5 ⟨rfl,o⟩
 refine bN (aD ⟨⟨_,o⟩,?_⟩)
 refine nT rfl (dU (Kt:=K) (xs:=([d,e,g]:List Int)) (cs:=[i64 d,i64 e,i64 g]) (vs:=[(0,i64 d),(1,i64 e),(2,i64 g)]) aTa ez_3 rfl rfl o rfl (by kernel_rfl) rfl rfl rfl ⟨rfl,rfl,rfl,trivial⟩ (fun V a0 (a1:aF G k (aP 3 K V 3 ([d,e,g]:List Int)::L) a0)=>(bN (aD ⟨⟨_,a1⟩,?_⟩))))
 exact nT rfl aL
theorem xC {x_:aO} {R:Bool} (hm:pN x_=some R) (a:aF G K (L) w):
  Calls prog 291 ([str x_]:List Value).toArray w (dD fun v w'=>v=Value.bool R/\aF G K (L) w'):=by
 exact aL
theorem aEM {x_ y:aO} {R:Int} (hm:kO x_ y=some R) (a:aF G K (L) w):
  Calls prog 253 ([str x_,str y]:List Value).toArray w (dD fun v w'=>v=i64 R/\aF G K (L) w'):=by
 refine aN func253 rfl (by kernel_rfl) (by show (2:Nat)<=20;decide) ?_;unfold kO at hm
 refine aK (aG (v:=i64 0) (aH (aK (aI (v:=str x_) ?_))));obtain ⟨c,b,hm⟩:=aB hm
 exact aT (vs:=[str x_]) call291 rfl (xC b a) aL
theorem uS {a b:(List aO)} {R:Int} (hm:gQ a b=some R) (e:aF G K (L) w) (g:bK K a1 c2 a) (h:bK K a4 c5 b):
  Calls prog 220 ([zS a1 a.length c2,zS a4 b.length c5]:List Value).toArray w (dD fun v w'=>v=i64 R/\aF G K (L) w'):=by
 refine aN func220 rfl (by kernel_rfl) (by show (2:Nat)<=36;decide) ?_;unfold gQ at hm
 refine aK (aG (v:=i64 0) (aH (aJ (aK (aI (v:=zS a1 a.length c2) (aC (bD (len:=a.length) fM rfl) (aI (v:=i64 0) (aH (aQ [0,1] (fun f w=>mE a b=some R/\aF G K (L) w) aL ?_)))))))));obtain ⟨i,c,ho⟩:=aB hm
 exact cE [0,1,9,10] c (fun d f w=>f 11=i64 d/\aF G K (L) w) aL aL
end Gv
