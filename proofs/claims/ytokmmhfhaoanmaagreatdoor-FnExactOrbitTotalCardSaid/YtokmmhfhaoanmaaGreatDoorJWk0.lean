/- Walks, printed by program. -/
import Derived.Test.YtokmmhfhaoanmaaGreatDoorJLWa
import Derived.Test.YtokmmhfhaoanmaaGreatDoorJMd
set_option linter.all false
namespace Gv
open Gv.Hp renaming le_refl→zR
open Go.Value renaming slice→zS,agg→zA
open Go Go.Proofs Go.Proofs.Tryz
set_option maxRecDepth 20000
set_option maxHeartbeats 40000000
variable {G:mL} {K:Hp} {L:List eU} {w:World} {a1 a4:Option Addr} {c2 c5:Nat}
theorem yK {x_:Int} {R:Bool} (hm:kK x_=some R) (a:aD G K (L) w):
  Calls prog 193 ([i64 x_]:List Value).toArray w (cN fun v w'=>v=Value.bool R/\aD G K (L) w'):=by
 exact aF
theorem fX {x_ y R:Int} (hm:cM x_ y=some R) (a:aD G K (L) w):
  Calls prog 133 ([i64 x_,i64 y]:List Value).toArray w (cN fun v w'=>v=i64 R/\aD G K (L) w'):=by
 refine iS func133 rfl (by kernel_rfl) (by show (2:Nat)<=20;decide) ?_;unfold cM at hm
 refine dR (cW (v:=i64 0) (cX (dR (bD (v:=i64 x_) ?_))));obtain ⟨c,b,hm⟩:=aB hm
 exact cI (vs:=[i64 x_]) call193 rfl (yK b a) aF
theorem lS {a b:(List Int)} {R:Int} (hm:dH a b=some R) (e:aD G K (L) w) (g:aW K a1 c2 a) (h:aW K a4 c5 b):
  Calls prog 134 ([zS a1 a.length c2,zS a4 b.length c5]:List Value).toArray w (cN fun v w'=>v=i64 R/\aD G K (L) w'):=by
 refine iS func134 rfl (by kernel_rfl) (by show (2:Nat)<=36;decide) ?_;unfold dH at hm
 refine dR (cW (v:=i64 0) (cX (gG (dR (bD (v:=zS a1 a.length c2) (aL (vB (len:=a.length) xU rfl) (bD (v:=i64 0) (cX (aI [0,1] (fun f w=>eH a b=some R/\aD G K (L) w) aF ?_)))))))));obtain ⟨i,c,ho⟩:=aB hm
 exact bL [0,1,9,10] c (fun d f w=>f 11=i64 d/\aD G K (L) w) aF aF
theorem aKQ {a:(List Int)} {R:Int} (hm:mE a=some R) (d:aD G K (L) w) (e:aW K a1 c2 a):
  Calls prog 132 ([zS a1 a.length c2]:List Value).toArray w (cN fun v w'=>v=i64 R/\aD G K (L) w'):=by
 refine iS func132 rfl (by kernel_rfl) (by show (1:Nat)<=18;decide) ?_;unfold mE at hm
 refine dR (cW (v:=i64 0) (cX (dR (cW (v:=i64 0) (cX (gG (dR (bD (v:=zS a1 a.length c2) (aL (vB (len:=a.length) aSi rfl) (bD (v:=i64 0) (cX (aI [3] (fun f w=>aBa=some R/\aD G K (L) w) aF ?_))))))))))));obtain ⟨g,b,ho⟩:=aB hm
 exact bL [3,6,7] b (fun c f w=>f 8=i64 c/\aD G K (L) w) aF aF
theorem oL {a b:GPoint} {R:Int} (hm:jY a b=some R) (q:aD G K (L) w) (r:aW K a1 c2 a.Values) (u:aW K a4 c5 b.Values):
  Calls prog 83 ([zA #[i64 a.Definition,i64 a.Part,zS a1 a.Values.length c2],zA #[i64 b.Definition,i64 b.Part,zS a4 b.Values.length c5]]:List Value).toArray w (cN fun v w'=>v=i64 R/\aD G K (L) w'):=by
 refine iS func83 rfl (by kernel_rfl) (by show (2:Nat)<=22;decide) ?_;unfold jY at hm
 refine dR (aOU (v:=zA #[i64 a.Definition,i64 a.Part,zS a1 a.Values.length c2]) (vs:=[i64 a.Definition,i64 a.Part,zS a1 a.Values.length c2]) q rfl rfl (fun b7 w8 x=>(aOU (v:=zA #[i64 b.Definition,i64 b.Part,zS a4 b.Values.length c5]) (vs:=[i64 b.Definition,i64 b.Part,zS a4 b.Values.length c5]) x rfl rfl (fun a9 b0 y=>(cW (v:=i64 0) (cX (gG ?_)))))));obtain ⟨b1,k,i,z,b2⟩:=aD.lendBp y .head
 obtain ⟨l,d,j,m,b3⟩:=aD.lendBp z .head
 refine uD (C:=fun w'=>∃ L',aD G l L' w') [(0,0),(1,0),(2,0),(3,0),(5,0),(6,0),(7,0),(8,0),(10,0),(11,0),(12,0),(13,0),(4,1),(9,1),(14,1),(15,1),(16,1),(17,0)] Tryz_mixed (by kernel_rfl) (fun _ hg=>⟨_,aD.mono m hg⟩) (fun b4 J=>?_)
 have c:=aD.mono m J
 refine fM rfl (fun _ _=>eR (t':=0) aPk rfl rfl) (fM rfl (fun _ ⟨_,c⟩=>lD (t:=0) aFu c j rfl rfl) (fM rfl (fun _ _=>eR (t':=0) aPk rfl rfl) (fM rfl (fun _ ⟨_,c⟩=>lD (t:=0) aFu c (i.mono d) rfl rfl) (fM rfl (fun _ _=>eR (t':=1) aPl rfl rfl) (fM rfl (fun _ ⟨_,c⟩=>lD (t:=1) aFu c j rfl rfl) (fM rfl (fun _ _=>eR (t':=1) aPl rfl rfl) (fM rfl (fun _ ⟨_,c⟩=>lD (t:=1) aFu c (i.mono d) rfl rfl) (fM rfl (fun _ _=>eR (t':=2) aPm rfl rfl) (fM rfl (fun _ ⟨_,c⟩=>lD (t:=2) sc_68 c j rfl rfl) (fM rfl (fun _ _=>eR (t':=2) aPm rfl rfl) (fM rfl (fun _ ⟨_,c⟩=>lD (t:=2) sc_68 c (i.mono d) rfl rfl) (lM rfl ?_))))))))))))
 obtain ⟨e,V,hm⟩:=aB hm
 refine cI (vs:=[i64 a.Definition,i64 b.Definition]) call133 rfl (fX V c) ?_
 rintro _ b5 ⟨rfl,n⟩
 refine bQ (aM ⟨⟨_,n⟩,?_⟩)
 refine lM rfl ?_;obtain ⟨g,a0,hm⟩:=aB hm
 refine cI (vs:=[i64 a.Part,i64 b.Part]) call133 rfl (fX a0 n) ?_
 rintro _ b6 ⟨rfl,o⟩
 refine bQ (aM ⟨⟨_,o⟩,?_⟩)
 refine lM rfl ?_;obtain ⟨h,a2,hm⟩:=aB hm
 refine cI (vs:=[zS a1 a.Values.length c2,zS a4 b.Values.length c5]) call134 rfl (lS a2 o (r.mono (Hp.le_trans k d)) (u.mono (Hp.le_trans k d))) ?_
 rintro _ b8 ⟨rfl,p⟩
 refine bQ (aM ⟨⟨_,p⟩,?_⟩)
 refine lM rfl (fQ (Kt:=K) (xs:=([e,g,h]:List Int)) (cs:=[i64 e,i64 g,i64 h]) (vs:=[(0,i64 e),(1,i64 g),(2,i64 h)]) aSi ez_3 rfl rfl p rfl (by kernel_rfl) rfl rfl rfl ⟨rfl,rfl,rfl,trivial⟩ (fun a3 a5 (a6:aD G l (aJ 3 K a3 3 ([e,g,h]:List Int)::L) a5)=>(bQ (aM ⟨⟨_,a6⟩,?_⟩))))
 exact lM rfl aF
theorem iA {j e:(List GPoint)} {R:Int} (hm:bH j e=some R) (hs:aD G K (L) w) (n:aW K a1 c2 j) (o:aW K a4 c5 e):
  Calls prog 95 ([zS a1 j.length c2,zS a4 e.length c5,Value.func (.func 83) #[] #[]]:List Value).toArray w (cN fun v w'=>v=i64 R/\aD G K (L) w'):=by
 refine iS func95 rfl (by kernel_rfl) (by show (3:Nat)<=39;decide) ?_;unfold bH at hm
 refine dR (cW (v:=i64 0) (cX (gG (dR (bD (v:=zS a1 j.length c2) (aL (vB (len:=j.length) jQ rfl) (bD (v:=i64 0) (cX (aI [0,1] (fun f w=>bN j e=some R/\aD G K (L) w) aF ?_)))))))));obtain ⟨b4,J,ho⟩:=aB hm
 refine bL [0,1,2,11,12] J (fun k f w=>f 13=i64 k/\aD G K (L) w) aF ?_
 ·rintro k b5 f b6 hm hr ⟨l,p⟩
  unfold aK at hm
  refine dR (aL (aFJ l rfl) (cX (gG ?_)))
  rcases aG hm with ⟨q,hm⟩|⟨q,hm⟩
  ·refine dS q rfl (kB (aM (gG (bI (dR (kH l ?_))))));obtain ⟨a,r,hm⟩:=aB hm
   refine aL (xT jQ rfl n rfl rfl l r) ?_;obtain ⟨b7,V,a0⟩:=aW.el (sz:=3) rfl n r
   obtain ⟨c,d,rfl,a2⟩:=a0
   refine aL (pL (t:=0) (vs:=[i64 a.Definition,i64 a.Part,zS c a.Values.length d]) xN p V rfl rfl rfl) (pM (vs:=[i64 0,i64 0,zS none 0 0]) zeroValue123 p rfl (fun u b8 a3=>(cW (v:=i64 k) (tB (i:=0) (ns:=[i64 a.Definition,i64 a.Part,zS c a.Values.length d]) (us:=[i64 a.Definition,i64 a.Part,zS c a.Values.length d]) sizeOf123 a3 rfl rfl rfl rfl rfl (xM rfl) rfl rfl (fun a5 (x:aD G K (box u 123 [i64 a.Definition,i64 a.Part,zS c a.Values.length d]::L) a5)=>(cX (gG (dR (bD (v:=i64 k) (bD (v:=zS a4 e.length c5) (aL (vB (len:=e.length) jQ rfl) (aL (R_geq rfl rfl) (cX ?_)))))))))))))
   rcases aG hm with ⟨y,hm⟩|⟨y,hm⟩
   ·exact aF
   ·refine eK y rfl (kB (aM (dR (bD (v:=zS a4 e.length c5) (bD (v:=i64 k) ?_)))));obtain ⟨b,z,hm⟩:=aB hm
    refine aL (xT jQ rfl o rfl rfl rfl z) ?_;obtain ⟨b9,a6,a7⟩:=aW.el (sz:=3) rfl o z
    obtain ⟨g,h,rfl,a8⟩:=a7
    refine aL (pL (t:=0) (vs:=[i64 b.Definition,i64 b.Part,zS g b.Values.length h]) xN x a6 rfl rfl rfl) (pM (vs:=[i64 0,i64 0,zS none 0 0]) zeroValue123 x rfl (fun a9 c0 b0=>(tB (i:=0) (ns:=[i64 b.Definition,i64 b.Part,zS g b.Values.length h]) (us:=[i64 b.Definition,i64 b.Part,zS g b.Values.length h]) sizeOf123 b0 rfl rfl rfl rfl rfl (xM rfl) rfl rfl (fun b1 (m:aD G K (box a9 123 [i64 b.Definition,i64 b.Part,zS g b.Values.length h]::box u 123 [i64 a.Definition,i64 a.Part,zS c a.Values.length d]::L) b1)=>(cX (dR (bD (v:=Value.func (.func 83) #[] #[]) (aL (aFr (us:=[i64 a.Definition,i64 a.Part,zS c a.Values.length d]) xN m (i:=1) rfl rfl rfl rfl) (aL (aFr (us:=[i64 b.Definition,i64 b.Part,zS g b.Values.length h]) xN m (i:=0) rfl rfl rfl rfl) ?_)))))))))
    obtain ⟨c1,b2,hm⟩:=aB hm
    exact lL (vs:=[zA #[i64 a.Definition,i64 a.Part,zS c a.Values.length d],zA #[i64 b.Definition,i64 b.Part,zS g b.Values.length h]]) (caps:=[]) (us:=[zA #[i64 a.Definition,i64 a.Part,zS c a.Values.length d],zA #[i64 b.Definition,i64 b.Part,zS g b.Values.length h]]) rfl call83 rfl rfl (oL b2 m a2 a8) aF
  ·exact aF
theorem tW {a b:(List GPoint)} {R:Int} (hm:nL a b=some R) (c:aD G K (L) w) (d:aW K a1 c2 a) (e:aW K a4 c5 b):
  Calls prog 53 ([zS a1 a.length c2,zS a4 b.length c5]:List Value).toArray w (cN fun v w'=>v=i64 R/\aD G K (L) w'):=by
 exact aF
theorem aBU {a b:aH} {R:Int} (hm:aCh a b=some R) (c:aD G K (L) w):
  Calls prog 122 ([str a,str b]:List Value).toArray w (cN fun v w'=>v=i64 R/\aD G K (L) w'):=by
 exact aF
theorem aCo {a b:Edge} {R:Int} (hm:tU a b=some R) (p:aD G K (L) w):
  Calls prog 126 ([zA #[i64 a.F,i64 a.B,i64 a.To],zA #[i64 b.F,i64 b.B,i64 b.To]]:List Value).toArray w (cN fun v w'=>v=i64 R/\aD G K (L) w'):=by
 refine iS func126 rfl (by kernel_rfl) (by show (2:Nat)<=22;decide) ?_;unfold tU at hm
 refine dR (aOU (v:=zA #[i64 a.F,i64 a.B,i64 a.To]) (vs:=[i64 a.F,i64 a.B,i64 a.To]) p rfl rfl (fun b1 w2 q=>(aOU (v:=zA #[i64 b.F,i64 b.B,i64 b.To]) (vs:=[i64 b.F,i64 b.B,i64 b.To]) q rfl rfl (fun b4 w5 r=>(cW (v:=i64 0) (cX (gG ?_)))))));obtain ⟨K7,a7,h,u,a8⟩:=aD.lendBp r .head
 obtain ⟨k,i,j,l,a9⟩:=aD.lendBp u .head
 refine uD (C:=fun w'=>∃ L',aD G k L' w') [(0,0),(1,0),(2,0),(3,0),(5,0),(6,0),(7,0),(8,0),(10,0),(11,0),(12,0),(13,0),(4,1),(9,1),(14,1),(15,1),(16,1),(17,0)] Tryz_mixed (by kernel_rfl) (fun _ hg=>⟨_,aD.mono l hg⟩) (fun b0 x=>?_)
 have c:=aD.mono l x
 refine fM rfl (fun _ _=>eR (t':=0) aSf rfl rfl) (fM rfl (fun _ ⟨_,c⟩=>lD (t:=0) aFu c j rfl rfl) (fM rfl (fun _ _=>eR (t':=0) aSf rfl rfl) (fM rfl (fun _ ⟨_,c⟩=>lD (t:=0) aFu c (h.mono i) rfl rfl) (fM rfl (fun _ _=>eR (t':=1) aSg rfl rfl) (fM rfl (fun _ ⟨_,c⟩=>lD (t:=1) aFu c j rfl rfl) (fM rfl (fun _ _=>eR (t':=1) aSg rfl rfl) (fM rfl (fun _ ⟨_,c⟩=>lD (t:=1) aFu c (h.mono i) rfl rfl) (fM rfl (fun _ _=>eR (t':=2) aSh rfl rfl) (fM rfl (fun _ ⟨_,c⟩=>lD (t:=2) aFu c j rfl rfl) (fM rfl (fun _ _=>eR (t':=2) aSh rfl rfl) (fM rfl (fun _ ⟨_,c⟩=>lD (t:=2) aFu c (h.mono i) rfl rfl) (lM rfl ?_))))))))))))
 obtain ⟨d,y,hm⟩:=aB hm
 refine cI (vs:=[i64 a.F,i64 b.F]) call133 rfl (fX y c) ?_
 rintro _ b2 ⟨rfl,m⟩
 refine bQ (aM ⟨⟨_,m⟩,?_⟩)
 refine lM rfl ?_;obtain ⟨e,z,hm⟩:=aB hm
 refine cI (vs:=[i64 a.B,i64 b.B]) call133 rfl (fX z m) ?_
 rintro _ b3 ⟨rfl,n⟩
 refine bQ (aM ⟨⟨_,n⟩,?_⟩)
 refine lM rfl ?_;obtain ⟨g,J,hm⟩:=aB hm
 refine cI (vs:=[i64 a.To,i64 b.To]) call133 rfl (fX J n) ?_
 rintro _ b5 ⟨rfl,o⟩
 refine bQ (aM ⟨⟨_,o⟩,?_⟩)
 refine lM rfl (fQ (Kt:=K) (xs:=([d,e,g]:List Int)) (cs:=[i64 d,i64 e,i64 g]) (vs:=[(0,i64 d),(1,i64 e),(2,i64 g)]) aSi ez_3 rfl rfl o rfl (by kernel_rfl) rfl rfl rfl ⟨rfl,rfl,rfl,trivial⟩ (fun V a0 (a1:aD G k (aJ 3 K V 3 ([d,e,g]:List Int)::L) a0)=>(bQ (aM ⟨⟨_,a1⟩,?_⟩))))
 exact lM rfl aF
theorem wJ {x_:aH} {R:Bool} (hm:pE x_=some R) (a:aD G K (L) w):
  Calls prog 321 ([str x_]:List Value).toArray w (cN fun v w'=>v=Value.bool R/\aD G K (L) w'):=by
 exact aF
theorem aEh {x_ y:aH} {R:Int} (hm:kG x_ y=some R) (a:aD G K (L) w):
  Calls prog 287 ([str x_,str y]:List Value).toArray w (cN fun v w'=>v=i64 R/\aD G K (L) w'):=by
 refine iS func287 rfl (by kernel_rfl) (by show (2:Nat)<=20;decide) ?_;unfold kG at hm
 refine dR (cW (v:=i64 0) (cX (dR (bD (v:=str x_) ?_))));obtain ⟨c,b,hm⟩:=aB hm
 exact cI (vs:=[str x_]) call321 rfl (wJ b a) aF
theorem tX {a b:(List aH)} {R:Int} (hm:gE a b=some R) (e:aD G K (L) w) (g:aW K a1 c2 a) (h:aW K a4 c5 b):
  Calls prog 238 ([zS a1 a.length c2,zS a4 b.length c5]:List Value).toArray w (cN fun v w'=>v=i64 R/\aD G K (L) w'):=by
 refine iS func238 rfl (by kernel_rfl) (by show (2:Nat)<=36;decide) ?_;unfold gE at hm
 refine dR (cW (v:=i64 0) (cX (gG (dR (bD (v:=zS a1 a.length c2) (aL (vB (len:=a.length) sP rfl) (bD (v:=i64 0) (cX (aI [0,1] (fun f w=>lQ a b=some R/\aD G K (L) w) aF ?_)))))))));obtain ⟨i,c,ho⟩:=aB hm
 exact bL [0,1,9,10] c (fun d f w=>f 11=i64 d/\aD G K (L) w) aF aF
end Gv
