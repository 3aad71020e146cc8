/- Walks, printed by program. -/
import Derived.Test.YtokmmhfhaoanmaaGreatDoorJWk9
set_option linter.all false
namespace Gv
open Gv.Hp renaming le_refl→zR
open Go.Value renaming slice→zS,bool→zB,pointer→zP,agg→zA,map→zM
open Option.some renaming inj→zI
open Gv.Hp renaming le_trans→zL
open Go Go.Proofs Go.Proofs.Tryz
set_option maxRecDepth 20000
set_option maxHeartbeats 40000000
variable {G:mL} {K Kf:Hp} {L:List eU} {w:World} {b1 c3 c6 c8 c2 b4 b5 c7 c10 c18 c21 c24 c27 c30 c11 c14 c17 c20 c5:Nat} {a2 a5 a7 a1 a6 a9 a11 a14 a17 a20 a23 a26 a29 a4 a10 a13 a16 a19:Option Addr}
theorem fE {b:(List (List GPoint))} {d:(List (aH × Int))} {r4:Nat} {a:(List lN)} {s_:(List GPoint)} {R:(Int × (List (List GPoint)) × (List (aH × Int)))} (hm:dV b d a s_=some R) (J:aD G K (aJ 52 Kf a2 c3 b::jO r4 d::aJ 138 K a5 c6 a::box b1 135 [zS a2 b.length c3,zM (some r4),zS a5 a.length c6,Value.func (.func 47) #[] #[]]::L) w) (V:G.lo=0) (a0:Hp.le Kf K) (j:aW Kf a7 c8 s_):
  Calls prog 76 ([zP (some ⟨b1,0,none⟩),zS a7 s_.length c8]:List Value).toArray w (cN fun v w'=>∃ l m,v=i64 R.1/\aD G K (aJ 52 Kf l m R.2.1::jO r4 R.2.2::aJ 138 K a5 c6 a::box b1 135 [zS l R.2.1.length m,zM (some r4),zS a5 a.length c6,Value.func (.func 47) #[] #[]]::L) w'):=by
 let e:=[zS a2 b.length c3,zM (some r4),zS a5 a.length c6,Value.func (.func 47) #[] #[]]
 refine cC func76 ?_;unfold dV at hm
 refine aC ?_;obtain ⟨n,a1,hm⟩:=aB hm
 refine lL (vs:=[zS a7 s_.length c8]) (caps:=[]) (us:=[zS a7 s_.length c8]) rfl call47 rfl rfl (aCk a1 J V (j.mono a0)) ?_
 rintro _ b6 ⟨rfl,o⟩
 refine aC ?_;refine aL (R_look (kv:=d) (k:=n) (z:=(0:Int)) runUnderlying132 ko_9 zeroValue2 o (i:=1) rfl rfl rfl) ?_
 iterate 7 refine cV ?_
 refine sH [] (fun f w=>∃ p g q r t,fU p g q=some R/\f 6=i64 p/\aD G K (aJ 52 Kf r t g::jO r4 q::aJ 138 K a5 c6 a::box b1 135 [zS r g.length t,zM (some r4),zS a5 a.length c6,Value.func (.func 47) #[] #[]]::L) w) aF (aC ?_)
 rcases aG hm with ⟨a3,hm⟩|⟨a3,hm⟩
 ·refine aC ?_;obtain ⟨c,a4,hm⟩:=aB hm
  refine aPe (i:=1) (k:=n) (v:=(b.length:Int)) runUnderlying132 ko_9 o rfl rfl rfl rfl a4 (fun a6 (a8:aD G K (aJ 52 Kf a2 c3 b::jO r4 c::aJ 138 K a5 c6 a::box b1 135 e::L) a6)=>(aC ?_));refine fQ (Kt:=Kf) (xs:=([s_]:List (List GPoint))) (cs:=[zS a7 s_.length c8]) (vs:=[(0,zS a7 s_.length c8)]) jD aDI rfl rfl a8 rfl (by kernel_rfl) rfl rfl rfl ⟨⟨a7,c8,rfl,j⟩,trivial⟩ (fun a9 b0 (b2:aD G K (aJ 52 Kf a9 1 ([s_]:List (List GPoint))::aJ 52 Kf a2 c3 b::jO r4 c::aJ 138 K a5 c6 a::box b1 135 e::L) b0)=>?_)
  obtain ⟨u,b3,hm⟩:=aB hm
  refine sO (i:=0) Kf jD underlying48 aDI rfl rfl b2 rfl (zR _) (zR _) b3 rfl rfl rfl rfl (fun _ _ _ h=>El.one h) (fun x y b4 (b7:aD G K (aJ 52 Kf x y u::jO r4 c::aJ 138 K a5 c6 a::box b1 135 e::L) b4)=>(aC ?_));refine nB fun b8 b5=>?_
  refine aC ?_;exact ⟨bO,(b.length:Int),u,c,x,y,hm,rfl,b5⟩
 ·exact aF
theorem oN {a:aH} {d:(List GPoint)} {e:(List (List GPoint))} {q:(List (aH × Int))} {b:Nat} {g:(List lN)} {p:Int} {r:Nat} {R:((List (List GPoint)) × (List (aH × Int)) × (List lN))} (hm:gO a d e q g p=some R) (hs:aD G K (aJ 52 Kf a6 c7 e::jO b q::aJ 138 K a9 c10 g::box b5 135 [zS a6 e.length c7,zM (some b),zS a9 g.length c10,Value.func (.func 47) #[] #[]]::box b4 131 [zP (some ⟨b5,0,none⟩)]::L) w) (t:G.lo=0) (u:Hp.le Kf K) (x:aW Kf a1 c2 d) (c9:eM K a11 r [i64 p]):
  Calls prog 77 ([str a,zS a1 d.length c2,zP (some ⟨b4,0,none⟩),fL a11 r]:List Value).toArray w (cN fun v w'=>∃ y z J V,v=Value.tuple #[]/\aD G K (aJ 52 Kf y z R.1::jO b R.2.1::aJ 138 K J V R.2.2::box b5 135 [zS y R.1.length z,zM (some b),zS J R.2.2.length V,Value.func (.func 47) #[] #[]]::box b4 131 [zP (some ⟨b5,0,none⟩)]::L) w'):=by
 refine cC func77 ?_;unfold gO at hm
 refine bC [] (fun f w=>∃ h a0 k a2 a3 a4 a5,kN h a0 k=some R/\aD G K (aJ 138 K a4 a5 k::aJ 52 Kf a2 a3 h::jO b a0::box b5 135 [zS a2 h.length a3,zM (some b),zS a4 k.length a5,Value.func (.func 47) #[] #[]]::box b4 131 [zP (some ⟨b5,0,none⟩)]::L) w) aF ?_;obtain ⟨b7,a7,d0,b8,l⟩:=aD.lendBp hs zt4
 refine aMX (C:=fun w'=>∃ L',aD G b7 L' w') [] Tryz_mixed (by kernel_rfl) (fun d1 b9=>?_)
 have m:=aD.mono b8 b9
 refine yZ 0 ?_;refine yZ 1 ?_
 refine yZ 2 ?_;refine yZ 3 ?_
 refine yZ 5 ?_;refine yZ 6 ?_
 refine yZ 7 ?_;refine yZ 8 ?_
 refine aOG (i:=4) (j:=9) (by kernel_rfl) rfl rfl ?_ ?_
 ·iterate 1 refine cV ?_
  refine bQ (aM ⟨fun _=>⟨_,m⟩,?_⟩)
  refine kQ (i:=9) (by kernel_rfl) rfl ?_;obtain ⟨n,c0,hm⟩:=aB hm
  refine dQ call76 (fE (Kf:=Kf) c0 m t (zL u a7) x) ?_
  rintro _ d2 ⟨d3,d4,rfl,a8⟩
  refine bQ (aM ⟨fun _=>⟨_,a8⟩,?_⟩)
  refine WA_v (i:=10) rfl (by kernel_rfl) ⟨_,a8⟩ (fun _ _=>gW (vs:=[(0,i64 p),(1,str a),(2,i64 n.1)]) (cs:=[i64 p,str a,i64 n.1]) bs_138 rfl (by kernel_rfl)) (kQ (i:=11) (by kernel_rfl) rfl (vJ ([⟨p,a,n.1⟩]:List lN) fun d5 d6 c1=>?_));refine bQ (aM ⟨fun _=>⟨_,c1⟩,?_⟩)
  refine kQ (i:=12) (by kernel_rfl) rfl ?_;obtain ⟨d7,d8,hm⟩:=aB hm
  refine st_p fun d9 c45 e0 c3=>?_;refine bQ (aM ⟨fun _=>⟨_,c3⟩,?_⟩)
  refine yZ 13 ?_;refine yZ 14 ?_
  refine kQ (i:=15) (by kernel_rfl) rfl (nB fun e1 b0=>?_);refine bQ (aM ⟨fun _=>⟨_,b0⟩,?_⟩)
  refine aGD (by kernel_rfl) ?_
  have e2:=l _ _ b0
  exact aF
 ·obtain ⟨c,c4,hm⟩:=aB hm
  refine dQ call76 (fE (Kf:=Kf) c4 m t (zL u a7) x) ?_
  rintro _ e3 ⟨e4,e5,rfl,o⟩
  refine bQ (aM ⟨fun _=>⟨_,o⟩,?_⟩)
  refine WA_v (i:=10) rfl (by kernel_rfl) ⟨_,o⟩ (fun _ _=>gW (vs:=[(0,i64 p),(1,str a),(2,i64 c.1)]) (cs:=[i64 p,str a,i64 c.1]) bs_138 rfl (by kernel_rfl)) (aOG (i:=4) (j:=11) (by kernel_rfl) rfl rfl ?_ ?_)
  ·iterate 1 refine cV ?_
   refine bQ (aM ⟨fun _=>⟨_,o⟩,?_⟩)
   refine kQ (i:=11) (by kernel_rfl) rfl (vJ ([⟨p,a,c.1⟩]:List lN) fun e6 e7 c5=>?_);refine bQ (aM ⟨fun _=>⟨_,c5⟩,?_⟩)
   refine kQ (i:=12) (by kernel_rfl) rfl ?_;obtain ⟨e8,e9,hm⟩:=aB hm
   refine st_p fun f0 f1 f2 c6=>?_;refine bQ (aM ⟨fun _=>⟨_,c6⟩,?_⟩)
   refine yZ 13 ?_;refine yZ 14 ?_
   refine kQ (i:=15) (by kernel_rfl) rfl (nB fun f3 b1=>?_);refine bQ (aM ⟨fun _=>⟨_,b1⟩,?_⟩)
   refine aGD (by kernel_rfl) ?_
   have f4:=l _ _ b1
   exact aF
  ·refine vJ ([⟨p,a,c.1⟩]:List lN) fun f5 f6 b2=>?_;refine bQ (aM ⟨fun _=>⟨_,b2⟩,?_⟩)
   refine kQ (i:=4) (by kernel_rfl) rfl ?_
   iterate 1 refine cV ?_
   refine bQ (aM ⟨fun _=>⟨_,b2⟩,?_⟩)
   refine kQ (i:=12) (by kernel_rfl) rfl ?_;obtain ⟨f7,f8,hm⟩:=aB hm
   refine st_p fun f9 g0 g1 c8=>?_;refine bQ (aM ⟨fun _=>⟨_,c8⟩,?_⟩)
   refine yZ 13 ?_;refine yZ 14 ?_
   refine kQ (i:=15) (by kernel_rfl) rfl (nB fun g2 b3=>?_);refine bQ (aM ⟨fun _=>⟨_,b3⟩,?_⟩)
   refine aGD (by kernel_rfl) ?_
   have g3:=l _ _ b3
   exact aF
theorem yM {a5:(List GPoint)} {J:(List (List GPoint))} {a7:(List (aH × Int))} {b:Nat} {V:(List lN)} {b9:Int} {a3:Nat} {p:aR} {c0:Nat} {R:(Bool × (List (List GPoint)) × (List (aH × Int)) × (List lN))} (hm:mU a5 J a7 V b9 p=some R) (hs:aD G K (aJ 52 Kf a6 c7 J::jO b a7::aJ 138 K a9 c10 V::box b5 135 [zS a6 J.length c7,zM (some b),zS a9 V.length c10,Value.func (.func 47) #[] #[]]::box b4 131 [zP (some ⟨b5,0,none⟩)]::L) w) (hG:G.lo=0) (e0:Hp.le Kf K) (h3:aW K a1 c2 a5) (e2:eM K a11 a3 [i64 b9]) (h4:eM K a14 c0 [zS a17 p.Definitions.length c18,zS a20 p.Components.length c21,zS a23 p.Meetings.length c24,zS a26 p.Allowed.length c27,zS a29 p.Hidden.length c30]) (e3:aW K a17 c18 p.Definitions) (e4:aW K a20 c21 p.Components) (e5:aW K a23 c24 p.Meetings) (e6:aW K a26 c27 p.Allowed) (e7:aW K a29 c30 p.Hidden):
  Calls prog 48 ([zS a1 a5.length c2,Value.func (.func 77) #[] #[zP (some ⟨b4,0,none⟩),fL a11 a3],fL a14 c0]:List Value).toArray w (cN fun v w'=>∃ K' c3 c4 c5 c6,v=zB R.1/\Hp.le K K'/\aD G K' (aJ 52 K' c3 c4 R.2.1::jO b R.2.2.1::aJ 138 K c5 c6 R.2.2.2::box b5 135 [zS c3 R.2.1.length c4,zM (some b),zS c5 R.2.2.2.length c6,Value.func (.func 47) #[] #[]]::box b4 131 [zP (some ⟨b5,0,none⟩)]::L) w'):=by
 let o:=[zP (some ⟨b5,0,none⟩)]
 refine cC func48 ?_;unfold mU at hm
 refine aC ?_;obtain ⟨c,e8,hm⟩:=aB hm
 refine dQ call49 (aCz e8 hs hG e3 e4 e5 e6 e7 h3) ?_
 rintro _ e9 ⟨r,u,d,rfl,a4,f0⟩
 refine aC ?_;refine aI [7] (fun f w=>∃ b0 b1 c8 b2 c9 d0 d1 c48,Hp.le K b0/\mY c b1 c8 b2=some R/\aD G b0 (aJ 138 K d1 c48 b2::aJ 52 b0 c9 d0 b1::jO b c8::box b5 135 [zS c9 b1.length d0,zM (some b),zS d1 b2.length c48,Value.func (.func 47) #[] #[]]::box b4 131 o::L) w) aF ?_
 have h5:aD G K (aJ 105 K r u (aO d c.1)::rows [123,2] d c.1::aJ 52 K a6 c7 J::jO b a7::aJ 138 K a9 c10 V::box b5 135 [zS a6 J.length c7,zM (some b),zS a9 V.length c10,Value.func (.func 47) #[] #[]]::box b4 131 o::L) e9:=aD.weak (i:=2) f0 rfl (fun _ h=>aJ.mono e0 h)
 obtain ⟨h6,f1,ho⟩:=aB hm
 refine aIc [1,7,16,17] f1 (fun e x g d2 f w=>∃ n j k l m,Hp.le K n/\f 18=i64 d2/\aD G n (aJ 105 K r u (aO d c.1)::rows [123,2] d c.1::aJ 52 n j k e::jO b x::aJ 138 K l m g::box b5 135 [zS j e.length k,zM (some b),zS l g.length m,Value.func (.func 47) #[] #[]]::box b4 131 o::L) w) aF ?_
 ·rintro e x g d2 h7 f h8 hm hr ⟨n,j,k,l,m,d3,f2,d4⟩
  unfold fJ at hm
  refine aC ?_
  rcases aG hm with ⟨f3,hm⟩|⟨f3,hm⟩
  ·refine aC ?_;refine bI (aC ?_)
   obtain ⟨a,a0,hm⟩:=aB hm
   obtain ⟨⟨⟨y,z⟩,h9⟩,b3⟩:=aGA a4 a0
   have f4:=cG d4 (i:=0) rfl (rP a4 a0 b3)
   refine aL (dG aFv rfl f4 rfl rfl f2 a0) (aL (aRL (t:=0) (vs:=[str a.B,i64 a.First,i64 a.Second,zS y a.State.length z]) ag_105 d4 (i:=0) rfl (rP a4 a0 b3) rfl rfl rfl rfl) (pO fun a2 i0 i1=>?_));refine nB fun f5 f6=>?_
   refine aC ?_
   have d5:aD G n (box a2 105 [str a.B,i64 a.First,i64 a.Second,zS y a.State.length z]::aJ 105 K r u (aO d c.1)::rows [123,2] d c.1::aJ 52 n j k e::jO b x::aJ 138 K l m g::box b5 135 [zS j e.length k,zM (some b),zS l g.length m,Value.func (.func 47) #[] #[]]::box b4 131 o::L) f5:=f6
   refine uD (C:=fun w'=>∃ L',aD G n (box a2 105 [str a.B,i64 a.First,i64 a.Second,zS y a.State.length z]::L') w') [(0,0),(1,0),(2,0),(3,0),(4,0),(5,1),(6,1)] Tryz_mixed (by kernel_rfl) (fun _ hg=>⟨_,aD.mono d5 hg⟩) (fun i2 f7=>?_)
   have f8:=aD.mono d5 f7
   refine aC ?_;refine lM rfl ?_
   obtain ⟨i3,i4,i5,f9,g0,g1⟩:=aD.lendD' (i:=1) f8 a4 rfl rfl
   obtain ⟨d6,g2,hm⟩:=aB hm
   refine dQ call45 (aBh g2 g0 (rd_Move_0 (f9 _ _ _ b3 (ix_at a0)))) ?_
   rintro _ b6 ⟨d7,d8,i6,rfl,g3,g4⟩
   have g5:=g1 _ _ g4
   refine bQ (aM ⟨⟨_,nC⟩,?_⟩)
   refine lM rfl ?_;obtain ⟨q,b7,g6,_,b8,_⟩:=aD.lendD' (i:=2) g5 g3 rfl rfl
   replace b8:aD G q (aJ 105 K r u (aO d c.1)::rows [123,2] d c.1::box a2 105 [str a.B,i64 a.First,i64 a.Second,zS y a.State.length z]::aJ 52 n j k e::jO b x::aJ 138 K l m g::box b5 135 [zS j e.length k,zM (some b),zS l g.length m,Value.func (.func 47) #[] #[]]::box b4 131 o::L) b6:=b8
   have i7:aD G q (aJ 105 K r u (aO d c.1)::rows [123,2] d c.1::box a2 105 [str a.B,i64 a.First,i64 a.Second,zS y a.State.length z]::aJ 52 q j k e::jO b x::aJ 138 K l m g::box b5 135 [zS j e.length k,zM (some b),zS l g.length m,Value.func (.func 47) #[] #[]]::box b4 131 o::L) b6:=aD.weak (i:=3) b8 rfl (fun _ h=>aJ.mono b7 h)
   have g7:aD G q (aJ 52 q j k e::jO b x::aJ 138 K l m g::box b5 135 [zS j e.length k,zM (some b),zS l g.length m,Value.func (.func 47) #[] #[]]::box b4 131 o::aJ 105 K r u (aO d c.1)::rows [123,2] d c.1::box a2 105 [str a.B,i64 a.First,i64 a.Second,zS y a.State.length z]::L) b6:=nC
   obtain ⟨i8,g8,hm⟩:=aB hm
   refine lL (vs:=[str a.B,zS d7 d6.length d8]) (caps:=[zP (some ⟨b4,0,none⟩),fL a11 a3]) (us:=[str a.B,zS d7 d6.length d8,zP (some ⟨b4,0,none⟩),fL a11 a3]) rfl call77 rfl rfl (oN (Kf:=q) g8 g7 hG (zR _) g6 (e2.mono (zL d3 b7))) ?_
   rintro _ i9 ⟨g9,h0,h1,h2,rfl,j0⟩
   refine bQ (aM ⟨⟨_,nC⟩,?_⟩)
   refine yX (aC ?_);exact ⟨_,(zI hm).symm,bO,q,g9,h0,h1,h2,(zL d3 b7),rfl,nC⟩
  ·exact aF
theorem qR {c9:(List GPoint)} {c:aR} {k5:Nat} {R:(iQ × (List (List GPoint)) × Bool)} (hm:fC c9 c=some R) (hs:aD G K (L) w) (hG:G.lo=0) (h3:aW K a1 c2 c9) (h6:eM K a4 k5 [zS a7 c.Definitions.length c8,zS a10 c.Components.length c11,zS a13 c.Meetings.length c14,zS a16 c.Allowed.length c17,zS a19 c.Hidden.length c20]) (h9:aW K a7 c8 c.Definitions) (g9:aW K a10 c11 c.Components) (h0:aW K a13 c14 c.Meetings) (h1:aW K a16 c17 c.Allowed) (h2:aW K a19 c20 c.Hidden):
  Calls prog 44 ([zS a1 c9.length c2,Value.func (.func 47) #[] #[],Value.func (.func 48) #[] #[fL a4 k5]]:List Value).toArray w (cN fun v w'=>∃ K' e8 e9 f0 f1 f2 f3,v=Value.tuple #[zA (zCa R.1 e8 e9 f0 f1),zS f2 R.2.1.length f3,zB R.2.2]/\Hp.le K K'/\aD G K' (aJ 9 K e8 e9 R.1.L::aJ 83 K f0 f1 R.1.E::aJ 52 K' f2 f3 R.2.1::L) w'):=by
 let l:=zG
 refine cC func44 ?_;unfold fC at hm
 refine aC ?_;refine pO fun m r1 h4=>?_
 refine aC ?_;refine aPb aH Int h4 ?_
 intro a h5 (r2:aD G K (jO a ([]:(List (aH × Int)))::box m 47 l::L) h5)
 iterate 1 refine cV ?_
 refine aL (gW (vs:=[(1,zM (some a)),(3,Value.func (.func 47) #[] #[])]) (cs:=[zS none 0 0,zM (some a),zS none 0 0,Value.func (.func 47) #[] #[]]) bs_135 rfl (by kernel_rfl)) (sL fun b r3 r4=>?_);refine pO fun d r5 r6=>?_
 refine nB fun h7 h8=>?_;refine aC ?_
 have i0:=aD.nil (α:=(List GPoint)) h8 52 K
 have r7:=aD.nil (α:=lN) i0 138 K
 have i1:aD G K (aJ 52 K none 0 ([]:List (List GPoint))::jO a ([]:(List (aH × Int)))::aJ 138 K none 0 ([]:List lN)::box b 135 [zS none 0 0,zM (some a),zS none 0 0,Value.func (.func 47) #[] #[]]::box d 131 [zP (some ⟨b,0,none⟩)]::box m 47 l::L) h7:=nC
 obtain ⟨r8,i2,hm⟩:=aB hm
 refine dQ call76 (fE (Kf:=K) i2 i1 hG (zR _) h3) ?_
 rintro _ r9 ⟨s0,s1,rfl,s2⟩
 refine aC ?_;refine pO fun s3 s4 s5=>?_
 refine nB fun s6 i3=>?_;refine aC ?_
 refine aI [6,9] (fun f w=>∃ a6 V c6 a8 b3 b4 b5 b6,Hp.le K a6/\dL V c6 a8=some R/\aD G a6 (aJ 138 K b5 b6 a8::aJ 52 a6 b3 b4 V::jO a c6::box b 135 [zS b3 V.length b4,zM (some a),zS b5 a8.length b6,Value.func (.func 47) #[] #[]]::box d 131 [zP (some ⟨b,0,none⟩)]::box m 47 l::L) w) ?_ ?_
 ·rintro f s7 ⟨a6,V,c6,a8,b3,b4,b5,b6,g,hm,i4⟩
  unfold dL at hm
  refine aC ?_;refine bC [6,9] (fun f w=>∃ a9 b0 a0 a2 d2 b7 b8 b9 c0,jA V a9 b0 a0 a2=some R/\f 12=zP (some ⟨d2,0,none⟩)/\aD G a6 (aJ 83 K b9 c0 a2::aJ 9 K b7 b8 a0::box d2 47 [i64 a9,i64 b0,zS b7 a0.length b8,zS b9 a2.length c0]::aJ 138 K b5 b6 a8::aJ 52 a6 b3 b4 V::jO a c6::box b 135 [zS b3 V.length b4,zM (some a),zS b5 a8.length b6,Value.func (.func 47) #[] #[]]::box d 131 [zP (some ⟨b,0,none⟩)]::box m 47 l::L) w) ?_ ?_
  ·rintro f s8 ⟨a9,b0,a0,a2,d2,b7,b8,b9,c0,hm,f4,i5⟩
   unfold jA at hm
   refine aC ?_;obtain ⟨s9,f5,f6,i6,t0⟩:=aD.lendBp i5 zt2
   obtain ⟨t1,c7,i7,i8,t2⟩:=aD.lendBp i6 zt5
   obtain ⟨t3,c1,i9,t4,t5⟩:=aD.lendBp i8 zt5
   refine aKG [(0,0),(1,0),(2,0),(3,0),(4,0),(5,1),(6,1),(7,1),(8,2),(9,2)] fun t6 n=>?_;refine fM rfl (fun _ ⟨_,n⟩=>pL (t:=0) (vs:=[i64 a9,i64 b0,zS b7 a0.length b8,zS b9 a2.length c0]) aPn n (f6.mono (zL c7 c1)) f4 rfl rfl) (fM rfl (fun _ ⟨_,n⟩=>lD (t:=0) sc_131 n i9 rfl rfl) (fM rfl (fun _ _=>aDD rfl) (fM rfl (fun _ _=>eR (t':=0) aTy rfl rfl) (fM rfl (fun _ ⟨_,n⟩=>lD (t:=0) sc_48 n (i7.mono c1) rfl rfl) (lM rfl (aL (pL (t:=0) (vs:=[i64 a9,i64 b0,zS b7 a0.length b8,zS b9 a2.length c0]) aPn n (f6.mono (zL c7 c1)) f4 rfl rfl) (bQ (aM ⟨⟨_,n⟩,?_⟩))))))))
   refine lM rfl ?_;obtain ⟨t7,j0,j1,j2,j3⟩:=aD.lendSp n (zL (zL (zL g f5) c7) c1) zt1
   obtain ⟨t8,j4,j5,j6,j7⟩:=aD.lendSp j2 (zL (zL (zL (zL g f5) c7) c1) j0) .head
   obtain ⟨t9,j8,hm⟩:=aB hm
   refine dQ call80 (aHN (t:=⟨a9,b0,a0,a2⟩) j8 j6 hG (j1.mono j4) j5) ?_
   rintro _ u0 ⟨rfl,j9⟩
   have k0:=j7 _ _ j9
   have u1:=j3 _ _ k0
   exact aF
  obtain ⟨u2,z,d3,k1,d4⟩:=aD.lendBp i4 zt3
  obtain ⟨k2,e,u3,k3,d5⟩:=aD.lendBp k1 zt3
  refine aMX (C:=fun w'=>∃ L',aD G k2 L' w') [16] Tryz_mixed (by kernel_rfl) (fun u4 k4=>?_)
  have k:=aD.mono k3 k4
  refine yZ 0 ?_;refine yZ 1 ?_
  refine yZ 2 ?_;refine WA_v (i:=3) rfl (by kernel_rfl) ⟨_,k⟩ (fun _ ⟨_,k⟩=>lD (t:=0) sc_48 k (d3.mono e) rfl rfl) (yZ 4 ?_)
  refine yZ 5 ?_;refine yZ 6 ?_
  refine yZ 7 ?_;refine WA_v (i:=8) rfl (by kernel_rfl) ⟨_,k⟩ (fun _ ⟨_,k⟩=>lD (t:=2) sc_133 k (d3.mono e) rfl rfl) (yZ 10 ?_)
  refine yZ 11 ?_;refine yZ 12 ?_
  refine WA_v (i:=13) rfl (by kernel_rfl) ⟨_,k⟩ (fun _ ⟨_,k⟩=>lD (t:=2) sc_133 k (d3.mono e) rfl rfl) (aOG (i:=9) (j:=15) (by kernel_rfl) rfl rfl ?_ ?_)
  ·obtain ⟨u5,u6,k6,k7,k8⟩:=aD.lendSp k (zL (zL g z) e) .head
   obtain ⟨u7,k9,hm⟩:=aB hm
   refine dQ call79 (aCj k9 k7 k6) ?_
   rintro _ u8 ⟨u9,v0,rfl,l0⟩
   have f7:=k8 _ _ l0
   refine bQ (aM ⟨fun _=>⟨_,f7⟩,?_⟩)
   refine aOG (i:=14) (j:=15) (by kernel_rfl) rfl rfl ?_ ?_
   ·obtain ⟨v1,l1,l2,l3,l4⟩:=aD.lendSp f7 (zL (zL g z) e) zt1
    obtain ⟨v2,l5,l6,l7,l8⟩:=aD.lendSp l3 (zL (zL (zL g z) e) l1) .head
    obtain ⟨v3,l9,hm⟩:=aB hm
    refine dQ call78 (aHg l9 l7 (l2.mono l5) l6) ?_
    rintro _ v4 ⟨v5,v6,v7,v8,rfl,m0⟩
    have m1:=l8 _ _ m0
    have m2:=l4 _ _ m1
    refine bQ (aM ⟨fun _=>⟨_,m2⟩,?_⟩)
    refine kQ (i:=15) (by kernel_rfl) rfl (pO fun v9 w0 f8=>?_);refine bQ (aM ⟨fun _=>⟨_,f8⟩,?_⟩)
    refine kQ (i:=16) (by kernel_rfl) rfl ?_
    have m3:=d5 _ _ f8
    have w1:=d4 _ _ m3
    refine nB fun w2 w3=>?_;refine bQ (aM ⟨no_c rfl,?_⟩)
    exact aGD (by kernel_rfl) aF
   ·refine pO fun w4 w5 f9=>?_;refine bQ (aM ⟨fun _=>⟨_,f9⟩,?_⟩)
    refine kQ (i:=14) (by kernel_rfl) rfl ?_;obtain ⟨w6,m4,m5,m6,m7⟩:=aD.lendSp f9 (zL (zL g z) e) zt2
    obtain ⟨w7,m8,m9,n0,n1⟩:=aD.lendSp m6 (zL (zL (zL g z) e) m4) zt1
    obtain ⟨w8,n2,hm⟩:=aB hm
    refine dQ call78 (aHg n2 n0 (m5.mono m8) m9) ?_
    rintro _ w9 ⟨x0,x1,x2,x3,rfl,n3⟩
    have n4:=n1 _ _ n3
    have g0:=m7 _ _ n4
    refine bQ (aM ⟨fun _=>⟨_,g0⟩,?_⟩)
    refine kQ (i:=16) (by kernel_rfl) rfl ?_
    have n5:=d5 _ _ g0
    have x4:=d4 _ _ n5
    refine nB fun x5 x6=>?_;refine bQ (aM ⟨no_c rfl,?_⟩)
    exact aGD (by kernel_rfl) aF
  ·refine pO fun x7 x8 g1=>?_;refine bQ (aM ⟨fun _=>⟨_,g1⟩,?_⟩)
   refine kQ (i:=9) (by kernel_rfl) rfl ?_;obtain ⟨x9,y0,n6,n7,n8⟩:=aD.lendSp g1 (zL (zL g z) e) zt1
   obtain ⟨y1,n9,hm⟩:=aB hm
   refine dQ call79 (aCj n9 n7 n6) ?_
   rintro _ y2 ⟨y3,y4,rfl,o0⟩
   have g2:=n8 _ _ o0
   refine bQ (aM ⟨fun _=>⟨_,g2⟩,?_⟩)
   refine kQ (i:=14) (by kernel_rfl) rfl ?_;obtain ⟨y5,o1,o2,o3,o4⟩:=aD.lendSp g2 (zL (zL g z) e) zt1
   obtain ⟨y6,o5,o6,o7,o8⟩:=aD.lendSp o3 (zL (zL (zL g z) e) o1) .head
   obtain ⟨y7,o9,hm⟩:=aB hm
   refine dQ call78 (aHg o9 o7 (o2.mono o5) o6) ?_
   rintro _ y8 ⟨y9,z0,z1,z2,rfl,p0⟩
   have p1:=o8 _ _ p0
   have g3:=o4 _ _ p1
   refine bQ (aM ⟨fun _=>⟨_,g3⟩,?_⟩)
   refine kQ (i:=16) (by kernel_rfl) rfl ?_
   have p2:=d5 _ _ g3
   have z3:=d4 _ _ p2
   refine nB fun z4 z5=>?_;refine bQ (aM ⟨no_c rfl,?_⟩)
   exact aGD (by kernel_rfl) aF
 have z6:=aD.nil (α:=lN) i3 138 K
 obtain ⟨z7,p3,ho⟩:=aB hm
 refine aIc [2,6,9] p3 (fun o c3 p d6 f w=>∃ c4 q r u x b1,Hp.le K c4/\f 10=zP (some ⟨b1,0,none⟩)/\aD G c4 (aJ 138 K u x p::box b1 3 [i64 d6]::aJ 52 c4 q r o::jO a c3::box b 135 [zS q o.length r,zM (some a),zS u p.length x,Value.func (.func 47) #[] #[]]::box d 131 [zP (some ⟨b,0,none⟩)]::box m 47 l::L) w) aF ?_
 ·rintro o c3 p d6 p4 f z8 hm hr ⟨c4,q,r,u,x,b1,a3,p5,z9⟩
  unfold bY at hm
  refine aC ?_;refine aIi ?_
  refine aC ?_;refine sJ (fun p6 p7=>(aC ?_))
  rcases aG hm with ⟨p8,hm⟩|⟨p8,hm⟩
  ·refine aC ?_;refine bI (aC ?_)
   obtain ⟨a5,y,p9,d7,_⟩:=aD.lendBp p7 zt1
   replace d7:aD G a5 (aJ 138 K u x p::aJ 52 c4 q r o::jO a c3::box b 135 [zS q o.length r,zM (some a),zS u p.length x,Value.func (.func 47) #[] #[]]::box d 131 [zP (some ⟨b,0,none⟩)]::box m 47 l::L) p6:=d7
   refine aMX (C:=fun w'=>∃ L',aD G a5 L' w') [] Tryz_mixed (by kernel_rfl) (fun g4 q0=>?_)
   have J:=aD.mono d7 q0
   refine yZ 0 ?_;refine yZ 5 ?_
   refine WA_v (i:=8) rfl (by kernel_rfl) ⟨_,J⟩ (fun _ _=>qV (vs:=[zP (some ⟨d,0,none⟩),fL (some ⟨b1,0,none⟩) 0]) (lst2 rfl (elp_b p5))) (kQ (i:=1) (by kernel_rfl) rfl ?_)
   iterate 1 refine cV ?_
   refine bQ (aM ⟨fun _=>⟨_,J⟩,?_⟩)
   refine yZ 2 ?_;refine yZ 3 ?_
   refine kQ (i:=4) (by kernel_rfl) rfl ?_
   iterate 1 refine cV ?_
   refine bQ (aM ⟨fun _=>⟨_,J⟩,?_⟩)
   obtain ⟨d8,d9,hm⟩:=aB hm
   have q1:=cG J (i:=1) rfl d9
   refine WA_v (i:=6) rfl (by kernel_rfl) ⟨_,J⟩ (fun _ _=>dG jD rfl q1 rfl rfl rfl d9) (kQ (i:=7) (by kernel_rfl) rfl ?_);obtain ⟨a00,q2,q3⟩:=oS (sz:=1) rfl J (i:=1) rfl d9
   obtain ⟨e0,e1,rfl,q4⟩:=q3
   refine aL (aAJ (t:=0) (v:=zS e0 d8.length e1) aFO q2 rfl rfl) (bQ (aM ⟨fun _=>⟨_,J⟩,?_⟩))
   refine kQ (i:=9) (by kernel_rfl) rfl ?_
   have a01:aD G a5 (aJ 138 K u x p::aJ 52 a5 q r o::jO a c3::box b 135 [zS q o.length r,zM (some a),zS u p.length x,Value.func (.func 47) #[] #[]]::box d 131 [zP (some ⟨b,0,none⟩)]::box m 47 l::L) g4:=aD.weak (i:=1) J rfl (fun _ h=>aJ.mono y h)
   have q5:aD G a5 (aJ 52 a5 q r o::jO a c3::aJ 138 K u x p::box b 135 [zS q o.length r,zM (some a),zS u p.length x,Value.func (.func 47) #[] #[]]::box d 131 [zP (some ⟨b,0,none⟩)]::box m 47 l::L) g4:=nC
   obtain ⟨b2,q6,hm⟩:=aB hm
   refine lL (vs:=[zS e0 d8.length e1,Value.func (.func 77) #[] #[zP (some ⟨d,0,none⟩),fL (some ⟨b1,0,none⟩) 0]]) (caps:=[fL a4 k5]) (us:=[zS e0 d8.length e1,Value.func (.func 77) #[] #[zP (some ⟨d,0,none⟩),fL (some ⟨b1,0,none⟩) 0],fL a4 k5]) rfl call48 rfl rfl (yM (Kf:=a5) q6 q5 hG (zR _) (q4.mono y) p9 (h6.mono (zL a3 y)) (h9.mono (zL a3 y)) (g9.mono (zL a3 y)) (h0.mono (zL a3 y)) (h1.mono (zL a3 y)) (h2.mono (zL a3 y))) ?_
   rintro _ a02 ⟨e2,e3,e4,e5,e6,rfl,g5,q7⟩
   refine bQ (aM ⟨fun _=>⟨_,(aD.weakK q7 g5)⟩,?_⟩)
   refine yZ 10 ?_;refine aGD (by kernel_rfl) ?_
   iterate 2 refine cV ?_
   refine bC [2,6,9,10] (fun f w=>∃ e7,gP d6 b2 e7=some p4/\f 48=zB e7/\aD G e2 (aJ 52 e2 e3 e4 b2.2.1::jO a b2.2.2.1::aJ 138 K e5 e6 b2.2.2.2::box b 135 [zS e3 b2.2.1.length e4,zM (some a),zS e5 b2.2.2.2.length e6,Value.func (.func 47) #[] #[]]::box d 131 [zP (some ⟨b,0,none⟩)]::box m 47 l::L) w) ?_ ?_
   ·rintro f a03 ⟨e7,hm,a04,a05⟩
    unfold gP at hm
    refine aC ?_
    rcases aG hm with ⟨q8,hm⟩|⟨q8,hm⟩
    ·exact aF
    ·refine aC ?_;refine pO fun q9 a06 a07=>?_
     refine nB fun a08 a09=>?_;refine aC ?_
     refine nB fun a11 a12=>?_;refine aC ?_
     exact ⟨_,(zI hm).symm,bO,e2,e3,e4,e5,e6,q9,(zL (zL a3 y) g5),rfl,nC⟩
   exact aF
  ·exact aF
theorem aBY {s_:aR} {R:(iQ × (List (List GPoint)) × Int)} (hm:xH s_=some R) (hs:aD G K (L) w) (hG:G.lo=0) (g:aW K a1 c2 s_.Definitions) (h:aW K a4 c5 s_.Components) (j:aW K a7 c8 s_.Meetings) (k:aW K a10 c11 s_.Allowed) (l:aW K a13 c14 s_.Hidden):
  Calls prog 20 ([zA #[zS a1 s_.Definitions.length c2,zS a4 s_.Components.length c5,zS a7 s_.Meetings.length c8,zS a10 s_.Allowed.length c11,zS a13 s_.Hidden.length c14]]:List Value).toArray w (cN fun v w'=>∃ m p q r t u x,v=Value.tuple #[zA (zCa R.1 p q r t),zS u R.2.1.length x,i64 R.2.2]/\Hp.le K m/\aD G m (aJ 9 K p q R.1.L::aJ 83 K r t R.1.E::aJ 52 m u x R.2.1::L) w'):=by
 refine cC func20 ?_;unfold xH at hm
 refine aC ?_;refine sL fun y d9 e0=>?_
 refine pO fun z e1 a9=>?_;refine aC ?_
 obtain ⟨e2,b0,hm⟩:=aB hm
 refine dQ call43 (aEp b0 a9 g h j k l) ?_
 rintro _ e3 ⟨rfl,b1⟩
 refine aC ?_
 rcases aG hm with ⟨b2,hm⟩|⟨b2,hm⟩
 ·exact aF
 ·refine aC ?_;obtain ⟨c,b3,hm⟩:=aB hm
  refine dQ call46 (aCw b3 b1 g h j k l) ?_
  rintro _ e4 ⟨J,V,d,rfl,b4,b5⟩
  obtain ⟨e5,e6,b6,e7,b7,b8⟩:=aD.lendD' (i:=0) b5 b4 rfl rfl
  obtain ⟨e8,b9,hm⟩:=aB hm
  refine dQ call45 (aBh b9 b7 b6) ?_
  rintro _ a0 ⟨e9,f0,f1,rfl,c0,c1⟩
  have c3:=b8 _ _ c1
  refine aL (qV (vs:=[zP (some ⟨y,0,none⟩)]) rfl) ?_;obtain ⟨c4,b,c6,_,n,_⟩:=aD.lendD' (i:=2) c3 c0 rfl rfl
  replace n:aD G c4 (aJ 123 K J V (aO d c)::rows [2] d c::box z 47 zG::box y 35 [zS a1 s_.Definitions.length c2,zS a4 s_.Components.length c5,zS a7 s_.Meetings.length c8,zS a10 s_.Allowed.length c11,zS a13 s_.Hidden.length c14]::L) a0:=n
  obtain ⟨c7,a,c9,o,_⟩:=aD.lendBp n zt3
  replace o:aD G c7 (aJ 123 K J V (aO d c)::rows [2] d c::box z 47 zG::L) a0:=o
  obtain ⟨e,d0,hm⟩:=aB hm
  refine dQ call44 (qR d0 o hG (c6.mono a) c9 (g.mono (zL b a)) (h.mono (zL b a)) (j.mono (zL b a)) (k.mono (zL b a)) (l.mono (zL b a))) ?_
  rintro _ f2 ⟨d1,a2,a3,a5,a6,d2,d3,rfl,d4,f3⟩
  refine aC ?_;refine pO fun f4 f5 f6=>?_
  refine nB fun f7 f8=>?_;refine aC ?_
  rcases aG hm with ⟨d5,hm⟩|⟨d5,hm⟩
  ·exact aF
  ·refine aC ?_;refine nB fun f9 d6=>?_
   refine aC ?_;obtain rfl:=zI hm
   exact aDC (aLw results20 (aIf (vs:=(zC e.1 a2 a3 a5 a6)) rfl aPn d6 (i:=6) rfl rfl rfl) (aGz rfl rfl) (aGz rfl rfl) ⟨d1,a2,a3,a5,a6,d2,d3,rfl,(zL (zL b a) d4),nC⟩)
theorem xQ {s_:(List Int)} {a R:Int} (hm:fW s_ a=some R) (d:aD G K (L) w) (e:aW K a1 c2 s_):
  Calls prog 149 ([zS a1 s_.length c2,i64 a]:List Value).toArray w (cN fun v w'=>v=i64 R/\aD G K (L) w'):=by
 refine cC func149 ?_;unfold fW at hm
 refine aC ?_;refine aI [] (fun f w=>oJ=some R/\aD G K (L) w) aF ?_
 obtain ⟨g,b,ho⟩:=aB hm
 exact bL [0,1,7] b (fun c f w=>f 8=i64 c/\aD G K (L) w) aF aF
theorem lG {s_:(List Int)} {a:Int} {R:Bool} (hm:eZ s_ a=some R) (b:aD G K (L) w) (c:aW K a1 c2 s_):
  Calls prog 91 ([zS a1 s_.length c2,i64 a]:List Value).toArray w (cN fun v w'=>v=zB R/\aD G K (L) w'):=by
 exact aF
theorem aKu {n:Int} {R:(List (List Int))} (hm:aIJ n=some R) (hs:aD G K (L) w):
  Calls prog 50 ([i64 n]:List Value).toArray w (cN fun v w'=>∃ d5 d6 c0,v=zS d5 R.length d6/\List.length c0=List.length R/\aD G K (aJ 68 K d5 d6 (aO c0 R)::rows [2] c0 R::L) w'):=by
 refine iS func50 rfl (by kernel_rfl) (by show (1:Nat)<=39;decide) ?_;unfold aIJ at hm
 refine dR (cW (v:=zS none 0 0) (cX (dR ?_)))
 have f4:=aD.nil (α:=Int) hs 2 K
 have f5:aD G K (rows [2] ([(none,0)]:List (Dp.Hd (List Int))) [([]:List Int)]::L) w:=aD.rowsOne f4
 refine fQ (Kt:=K) (xs:=aO ([(none,0)]:List (Dp.Hd (List Int))) ([([]:List Int)]:List (List Int))) (cs:=[zS none ([]:List Int).length 0]) (vs:=[(0,zS none ([]:List Int).length 0)]) aKJ ez_68 rfl rfl f5 rfl (by kernel_rfl) rfl rfl rfl ⟨rfl,trivial⟩ ?_
 intro a3 w4 (f7:aD G K (aJ 68 K a3 1 (aO ([(none,0)]:List (Dp.Hd (List Int))) ([([]:List Int)]:List (List Int)))::rows [2] ([(none,0)]:List (Dp.Hd (List Int))) ([([]:List Int)]:List (List Int))::L) w4)
 refine cW (v:=zS a3 ([([]:List Int)]:List (List Int)).length 1) (cX (gG (dR (bD (v:=i64 n) (bD (v:=i64 0) (cX (aI [] (fun f w=>∃ y a7 c8 c2,aNS y=some R/\f 3=zS a7 y.length c8/\List.length c2=List.length y/\aD G K (aJ 68 K a7 c8 (aO c2 y)::rows [2] c2 y::L) w) aF ?_)))))));obtain ⟨k3,f8,ho⟩:=aB hm
 refine bJ [0,9] f8 (fun a z f w=>∃ e g b,f 3=zS e a.length g/\f 10=i64 z/\List.length b=List.length a/\aD G K (aJ 68 K e g (aO b a)::rows [2] b a::L) w) ?_ ?_
 ·exact ⟨a3,1,([(none,0)]:List (Dp.Hd (List Int))),rfl,rfl,rfl,f7⟩
 ·rintro a z d9 f f9 hm hr ⟨e,g,b,g0,e0,J,g1⟩
  unfold qO at hm
  refine dR (aL (aFJ e0 rfl) (cX (gG ?_)))
  rcases aG hm with ⟨e1,hm⟩|⟨e1,hm⟩
  ·refine dS e1 rfl (kB (aM (gG (aI [0,9,10] (fun f w=>∃ q b1 b2 V,aEY z q=some d9/\f 3=zS b1 q.length b2/\List.length V=List.length q/\aD G K (aJ 68 K b1 b2 (aO V q)::rows [2] V q::L) w) ?_ ?_))))
   ·rintro f k4 ⟨q,b1,b2,V,hm,g2,g3,g4⟩
    unfold aEY at hm
    exact aM (eN (aL (nM e0 rfl) (bD (v:=i64 (wr (z+1))) (cX ⟨_,(zI hm).symm,bO,b1,b2,V,g2,rfl,g3,g4⟩))))
   refine dR (cW (v:=zS none 0 0) (cX (gG (dR (kH g0 (aL (vB (len:=a.length) aKJ rfl) (bD (v:=i64 0) (cX (aI [0,9,10] (fun f w=>∃ a0 e2 e3 c3,aIH z a0=some d9/\f 4=zS e2 a0.length e3/\List.length c3=List.length a0/\aD G K (aJ 68 K e2 e3 (aO c3 a0)::rows [2] c3 a0::L) w) aF ?_)))))))))
   have g5:aD G K (aJ 68 K none 0 (aO ([]:List (Dp.Hd (List Int))) ([]:List (List Int)))::rows [2] ([]:List (Dp.Hd (List Int))) ([]:List (List Int))::aJ 68 K e g (aO b a)::rows [2] b a::L) f9:=aD.nil (α:=Cells _) (aD.rowsNil (α:=(List Int)) (tys:=[2]) g1) 68 K
   obtain ⟨k5,g6,ho⟩:=aB hm
   refine bJ [0,9,10,12,13] g6 (fun a1 a2 f w=>∃ c4 c5 b3,f 4=zS c4 a1.length c5/\f 14=i64 a2/\List.length b3=List.length a1/\aD G K (aJ 68 K c4 c5 (aO b3 a1)::rows [2] b3 a1::aJ 68 K e g (aO b a)::rows [2] b a::L) w) ?_ ?_
   ·exact ⟨none,0,[],rfl,rfl,rfl,g5⟩
   ·rintro a1 a2 e4 f k6 hm hr ⟨c4,c5,b3,k7,c6,k8,e5⟩
    unfold oK at hm
    refine dR (aL (aFJ c6 rfl) (cX (gG ?_)))
    rcases aG hm with ⟨e6,hm⟩|⟨e6,hm⟩
    ·refine dS e6 rfl (kB (aM (gG (aI [0,9,10,12,13,14] (fun f w=>∃ r b4 b5 a4,aEZ a2 r=some e4/\f 4=zS b4 r.length b5/\List.length a4=List.length r/\aD G K (aJ 68 K b4 b5 (aO a4 r)::rows [2] a4 r::aJ 68 K e g (aO b a)::rows [2] b a::L) w) ?_ ?_))))
     ·rintro f k9 ⟨r,b4,b5,a4,hm,g7,g8,g9⟩
      unfold aEZ at hm
      exact aM (eN (aL (nM c6 rfl) (bD (v:=i64 (wr (a2+1))) (cX ⟨_,(zI hm).symm,bO,b4,b5,a4,g7,rfl,g8,g9⟩))))
     refine dR ?_;obtain ⟨a5,u,hm⟩:=aB hm
     obtain ⟨⟨a6,a8⟩,b6⟩:=aGA J u
     have h0:=cG e5 (i:=2) rfl (rP J u b6)
     refine aL (dG aKJ rfl h0 rfl rfl c6 u) (aL (R_ldO (t:=0) sc_68 e5 (i:=2) rfl (rP J u b6) rfl rfl rfl) (cW (v:=zS a6 a5.length a8) (cX (dR (bD (v:=i64 n) (bD (v:=i64 0) (cX (aI [0,9,10,12,13,14] (fun f w=>∃ a9 e7 e8 c7,aII a2 a9=some e4/\f 4=zS e7 a9.length e8/\List.length c7=List.length a9/\aD G K (aJ 68 K e7 e8 (aO c7 a9)::rows [2] c7 a9::aJ 68 K e g (aO b a)::rows [2] b a::L) w) aF ?_))))))));obtain ⟨l0,h1,ho⟩:=aB hm
     refine bJ [0,6,9,10,12,13,14,18] h1 (fun d j f w=>∃ m o c,f 4=zS m d.length o/\f 19=i64 j/\List.length c=List.length d/\aD G K (aJ 68 K m o (aO c d)::rows [2] c d::aJ 68 K e g (aO b a)::rows [2] b a::L) w) aF ?_
     ·rintro d j h2 f l1 hm hr ⟨m,o,c,e9,c9,d0,h3⟩
      unfold lA at hm
      refine dR (aL (aFJ c9 rfl) (cX (gG ?_)))
      rcases aG hm with ⟨f0,hm⟩|⟨f0,hm⟩
      ·refine dS f0 rfl (kB (aM (gG (aI [0,6,9,10,12,13,14,18,19] (fun f w=>∃ x b7 b8 b0,yI j x=some h2/\f 4=zS b7 x.length b8/\List.length b0=List.length x/\aD G K (aJ 68 K b7 b8 (aO b0 x)::rows [2] b0 x::aJ 68 K e g (aO b a)::rows [2] b a::L) w) ?_ ?_))))
       ·rintro f l2 ⟨x,b7,b8,b0,hm,h4,h5,h6⟩
        unfold yI at hm
        exact aM (eN (aL (nM c9 rfl) (bD (v:=i64 (wr (j+1))) (cX ⟨_,(zI hm).symm,bO,b7,b8,b0,h4,rfl,h5,h6⟩))))
       refine dR (kH c9 (cW (v:=i64 j) (cX (dR (bD (v:=zS a6 a5.length a8) (bD (v:=i64 j) ?_))))));obtain ⟨l3,l4,l5,h7,h8,h9⟩:=aD.lendD' (i:=2) h3 J rfl rfl
       obtain ⟨l6,i0,hm⟩:=aB hm
       refine cI (vs:=[zS a6 a5.length a8,i64 j]) call91 rfl (lG i0 h8 (rd_row (h7 _ _ _ b6 (ix_at u)))) ?_
       rintro _ l7 ⟨rfl,i1⟩
       have f1:=h9 _ _ i1
       refine aL (R_not rfl) (cX ?_)
       rcases aG hm with ⟨d1,hm⟩|⟨d1,hm⟩
       ·refine dS d1 rfl (eN (kH e9 (bD (v:=zS a6 a5.length a8) ?_)));obtain ⟨l8,l9,m0,i2,i3,i4⟩:=aD.lendD' (i:=0) f1 J rfl rfl
        obtain ⟨i5,i6,hm⟩:=aB hm
        refine cI (vs:=[zS a6 a5.length a8]) call84 rfl (eJ i6 i3 (rd_row (i2 _ _ _ b6 (ix_at u)))) ?_
        rintro _ m1 ⟨i7,i8,rfl,i9⟩
        have j0:=i4 _ _ i9
        refine bD (v:=i64 j) (fQ (Kt:=K) (xs:=([j]:List Int)) (cs:=[i64 j]) (vs:=[(0,i64 j)]) xU ez_2 rfl rfl j0 rfl (by kernel_rfl) rfl rfl rfl ⟨rfl,trivial⟩ (fun j1 j2 (j3:aD G K (aJ 2 K j1 1 ([j]:List Int)::aJ 68 K e g (aO b a)::rows [2] b a::aJ 2 K i7 i8 i5::aJ 68 K m o (aO c d)::rows [2] c d::L) j2)=>?_));obtain ⟨p,j4,hm⟩:=aB hm
        refine aLt (i:=2) xU underlying68 ez_2 rfl rfl j3 rfl (zR _) (zR _) j4 rfl rfl rfl rfl (fun _ h=>h) (fun k l d2 (j5:aD G K (aJ 68 K e g (aO b a)::rows [2] b a::aJ 2 K k l p::aJ 68 K m o (aO c d)::rows [2] c d::L) d2)=>?_)
        have j6:aD G K (aJ 2 K k l p::aJ 68 K e g (aO b a)::rows [2] b a::aJ 68 K m o (aO c d)::rows [2] c d::L) d2:=(aD.arr 3 [2,0,1] j5 rfl)
        have j7:aD G K (rows [2] ([(k,l)]:List (Dp.Hd (List Int))) [p]::aJ 68 K e g (aO b a)::rows [2] b a::aJ 68 K m o (aO c d)::rows [2] c d::L) d2:=aD.rowsOne j6
        refine fQ (Kt:=K) (xs:=aO ([(k,l)]:List (Dp.Hd (List Int))) ([p]:List (List Int))) (cs:=[zS k p.length l]) (vs:=[(0,zS k p.length l)]) aKJ ez_68 rfl rfl j7 rfl (by kernel_rfl) rfl rfl rfl ⟨rfl,trivial⟩ ?_
        intro j8 j9 (k0:aD G K (aJ 68 K j8 1 (aO ([(k,l)]:List (Dp.Hd (List Int))) ([p]:List (List Int)))::rows [2] ([(k,l)]:List (Dp.Hd (List Int))) ([p]:List (List Int))::aJ 68 K e g (aO b a)::rows [2] b a::aJ 68 K m o (aO c d)::rows [2] c d::L) j9)
        obtain ⟨b9,f2,hm⟩:=aB hm
        refine aJv (i:=2) (tys:=[2]) (hds:=c) (hds2:=([(k,l)]:List (Dp.Hd (List Int)))) aKJ underlying107 ez_68 rfl rfl k0 d0 rfl rfl rfl f2 rfl rfl rfl rfl ?_
        intro d3 d4 k1 (k2:aD G K (aJ 68 K d3 d4 (aO (c++([(k,l)]:List (Dp.Hd (List Int)))) b9)::rows [2] (c++([(k,l)]:List (Dp.Hd (List Int)))) b9::aJ 68 K e g (aO b a)::rows [2] b a::L) k1)
        exact cW (v:=zS d3 b9.length d4) (bQ (iU (aM ⟨bO,b9,d3,d4,(c++([(k,l)]:List (Dp.Hd (List Int)))),hm,rfl,(aGB d0 rfl f2),k2⟩)))
       ·exact eK d1 rfl (kB (iU (aM ⟨bO,d,m,o,c,hm,e9,d0,(aD.arr 4 [2,3,0,1] f1 rfl)⟩)))
      ·exact aF
    ·exact aF
  ·exact aF
theorem aHQ {k:(List GPoint)} {l:(List Int)} {R:(List GPoint)} (hm:aEb k l=some R) (hs:aD G K (L) w) (h3:aW K a1 c2 k) (h6:aW K a4 c5 l):
  Calls prog 51 ([zS a1 k.length c2,zS a4 l.length c5]:List Value).toArray w (cN fun v w'=>∃ o p m,v=zS o R.length p/\List.length m=List.length R/\aD G K (aJ 123 K o p (aO m R)::rows [2] m R::L) w'):=by
 refine cC func51 ?_;unfold aEb at hm
 refine aC ?_;refine aI [] (fun f w=>∃ g q r n,aFE g=some R/\f 5=zS q g.length r/\List.length n=List.length g/\aD G K (aJ 123 K q r (aO n g)::rows [2] n g::L) w) aF ?_
 have a5:aD G K (aJ 123 K none 0 (aO ([]:List (Dp.Hd GPoint)) ([]:List GPoint))::rows [2] ([]:List (Dp.Hd GPoint)) ([]:List GPoint)::L) w:=aD.nil (α:=Cells _) (aD.rowsNil (α:=GPoint) (tys:=[2]) hs) 123 K
 obtain ⟨c6,a6,ho⟩:=aB hm
 refine bJ [0,8,9] a6 (fun e t f w=>∃ h j a,f 5=zS h e.length j/\f 10=i64 t/\List.length a=List.length e/\aD G K (aJ 123 K h j (aO a e)::rows [2] a e::L) w) ?_ ?_
 ·exact ⟨none,0,[],rfl,rfl,rfl,a5⟩
 ·rintro e t c7 f c8 hm hr ⟨h,j,a,d0,d1,u,a7⟩
  unfold wI at hm
  refine aC ?_
  rcases aG hm with ⟨a9,hm⟩|⟨a9,hm⟩
  ·refine aC ?_;refine bI (aC ?_)
   obtain ⟨d2,b0,hm⟩:=aB hm
   refine aC ?_;obtain ⟨d3,d4,b1⟩:=aW.el (sz:=1) rfl h6 b0
   cases b1
   refine aC ?_;obtain ⟨d5,b2,hm⟩:=aB hm
   refine aC ?_;obtain ⟨d6,d7,b3⟩:=aW.el (sz:=3) rfl h3 b2
   obtain ⟨d8,d9,rfl,b4⟩:=b3
   refine aC ?_;obtain ⟨b,b5,hm⟩:=aB hm
   refine dQ call92 (oM b5 a7 b4) ?_
   rintro _ b6 ⟨c,d,rfl,b7⟩
   have b8:aD G K (rows [2] ([(c,d)]:List (Dp.Hd GPoint)) ([b]:List GPoint)::aJ 123 K h j (aO a e)::rows [2] a e::L) b6:=aD.rowsOneS (tys:=[2]) (hd:=((c,d):Dp.Hd GPoint)) (x:=(b:GPoint)) b7
   refine fQ (Kt:=K) (xs:=aO ([(c,d)]:List (Dp.Hd GPoint)) ([b]:List GPoint)) (cs:=[i64 b.Definition,i64 b.Part,zS c b.Values.length d]) (vs:=[(0,zA #[i64 b.Definition,i64 b.Part,zS c b.Values.length d])]) jQ oT rfl rfl b8 rfl (by kernel_rfl) rfl rfl rfl ⟨rfl,trivial⟩ ?_
   intro b9 c0 (c1:aD G K (aJ 123 K b9 1 (aO ([(c,d)]:List (Dp.Hd GPoint)) ([b]:List GPoint))::rows [2] ([(c,d)]:List (Dp.Hd GPoint)) ([b]:List GPoint)::aJ 123 K h j (aO a e)::rows [2] a e::L) c0)
   obtain ⟨y,z,hm⟩:=aB hm
   refine aJv (i:=0) (tys:=[2]) (hds:=a) (hds2:=([(c,d)]:List (Dp.Hd GPoint))) jQ underlying52 oT rfl rfl c1 u rfl rfl rfl z rfl rfl rfl rfl ?_
   intro J V c3 (c4:aD G K (aJ 123 K J V (aO (a++([(c,d)]:List (Dp.Hd GPoint))) y)::rows [2] (a++([(c,d)]:List (Dp.Hd GPoint))) y::L) c3)
   refine aC ?_;exact ⟨_,(zI hm).symm,bO,J,V,(a++([(c,d)]:List (Dp.Hd GPoint))),rfl,rfl,(aGB u rfl z),c4⟩
  ·exact aF
theorem aCl {a b:(List GPoint)} {R:Bool} (hm:aEc a b=some R) (c:aD G K (L) w) (d:aW K a1 c2 a) (e:aW K a4 c5 b):
  Calls prog 55 ([zS a1 a.length c2,zS a4 b.length c5]:List Value).toArray w (cN fun v w'=>v=zB R/\aD G K (L) w'):=by
 exact aF
theorem gC {s_ R:(List (List GPoint))} (hm:cH s_=some R) (hs:aD G K (aJ 52 Kf a1 c2 s_::L) w) (k:Hp.le Kf K):
  Calls prog 54 ([zS a1 s_.length c2,Value.func (.func 55) #[] #[]]:List Value).toArray w (cN fun v w'=>∃ x y,v=zS x R.length y/\aD G K (aJ 52 Kf x y R::L) w'):=by
 refine cC func54 ?_;unfold cH at hm
 refine aC ?_
 rcases aG hm with ⟨c3,hm⟩|⟨c3,hm⟩
 ·exact aF
 ·refine aC ?_;refine aI [0] (fun f w=>gR s_=some R/\aD G K (aJ 52 Kf a1 c2 s_::L) w) aF ?_
  obtain ⟨h8,d2,ho⟩:=aB hm
  refine bL [0,1] d2 (fun b f w=>f 5=i64 b/\aD G K (aJ 52 Kf a1 c2 s_::L) w) aF ?_
  ·rintro b z f h9 hm hr ⟨i0,d3⟩
   unfold cB at hm
   refine aC ?_
   rcases aG hm with ⟨d4,hm⟩|⟨d4,hm⟩
   ·refine aC ?_;refine aI [0,1] (fun f w=>cT b=some z/\f 5=i64 b/\aD G K (aJ 52 Kf a1 c2 s_::L) w) ?_ ?_
    ·rintro f i1 ⟨hm,i2,d5⟩
     unfold cT at hm
     refine aC ?_;exact ⟨_,(zI hm).symm,bO,rfl,d5⟩
    refine aC ?_;obtain ⟨i3,i4,l,i5,d6⟩:=aD.lendSp d3 k .head
    refine aKG [(0,0),(1,0),(2,0),(3,0),(4,0),(5,0),(6,0),(7,0),(8,0),(9,0),(10,1)] fun i6 d7=>?_;refine aC ?_
    obtain ⟨J,m,hm⟩:=aB hm
    have a:=aLy l m
    refine fM rfl (fun _ _=>dG jD rfl a rfl rfl rfl m) ?_;obtain ⟨i7,i8,d8⟩:=aW.el (sz:=1) rfl l m
    obtain ⟨V,a0,rfl,d9⟩:=d8
    refine aC ?_;obtain ⟨a2,a3,hm⟩:=aB hm
    refine fM rfl (fun _ _=>dG jD rfl a rfl rfl rfl a3) ?_;obtain ⟨i9,j0,e0⟩:=aW.el (sz:=1) rfl l a3
    obtain ⟨a4,a5,rfl,e1⟩:=e0
    refine aC ?_;refine lM rfl ?_
    obtain ⟨j1,e2,hm⟩:=aB hm
    refine lL (vs:=[zS V J.length a0,zS a4 a2.length a5]) (caps:=[]) (us:=[zS V J.length a0,zS a4 a2.length a5]) rfl call55 rfl rfl (aCl e2 d7 d9 e1) ?_
    rintro _ j2 ⟨rfl,a6⟩
    refine bQ (aM ⟨⟨_,a6⟩,?_⟩)
    refine yX ?_
    have e3:=d6 _ _ a6
    refine aC ?_
    rcases aG hm with ⟨e4,hm⟩|⟨e4,hm⟩
    ·refine aC ?_;obtain ⟨j3,c,hm⟩:=aB hm
     have d:=aPg e3 (i:=0) rfl
     obtain ⟨j4,j5,e⟩:=Cut.ex 1 a1 c2 b
     refine aL (aKE jD d e rfl rfl rfl c) (aC ?_);refine aI [] (fun f w=>∃ g h,cU g h=some z/\f 0=zS a1 g.length c2/\f 5=i64 h/\aD G K (aJ 52 Kf a1 c2 g::L) w) ?_ ?_
     ·rintro f j6 ⟨g,h,hm,e5,j7,a7⟩
      unfold cU at hm
      refine aC ?_;obtain ⟨j8,e6,hm⟩:=aB hm
      have e7:=aPg a7 (i:=0) rfl
      obtain ⟨j9,k0,a8⟩:=Cut.ex 1 a1 c2 h
      refine aL (aKE jD e7 a8 rfl rfl rfl e6) ?_;obtain ⟨a9,b0,hm⟩:=aB hm
      refine WO_clearG jD aDI rfl a7 (i:=0) rfl a8 rfl rfl b0 (fun b1 (b2:aD G K (aJ 52 Kf a1 c2 a9::L) b1)=>?_)
      iterate 4 refine cV ?_
      refine kH (v:=zS a1 a9.length c2) (Eq.trans e5 (congrArg (fun n=>zS a1 n c2) (aRG b0))) (aC ?_);obtain ⟨b3,b4,hm⟩:=aB hm
      have e8:=aPg b2 (i:=0) rfl
      obtain ⟨e9,f0,b5⟩:=Cut.ex 1 a1 c2 0
      refine aL (aRT jD e8 b5 rfl rfl rfl b4) (aC ?_);refine aDC (kS (dX (dX (dX ?_))))
      have f1:=hr _ (zI hm).symm
      subst f1
      have hm:(some b3)=some R:=ho
      clear hr ho
      have k1:aD G K (aJ 52 Kf e9 f0 b3::L) b1:=aD.cutPE b2 (i:=0) rfl b4 b5
      exact aF
     obtain ⟨k2,f2,ho⟩:=aB hm
     refine nO [1,6] f2 (fun o p q f w=>f 0=zS a1 o.length c2/\f 5=i64 p/\f 7=i64 q/\aD G K (aJ 52 Kf a1 c2 o::L) w) aF ?_
     ·rintro o p q f3 f k3 hm hr ⟨f4,k4,k5,f5⟩
      unfold cA at hm
      refine aC ?_
      rcases aG hm with ⟨f6,hm⟩|⟨f6,hm⟩
      ·refine aC ?_;refine aI [1,6,7] (fun f w=>∃ j r,bZ q j r=some f3/\f 0=zS a1 j.length c2/\f 5=i64 r/\aD G K (aJ 52 Kf a1 c2 j::L) w) ?_ ?_
       ·rintro f k6 ⟨j,r,hm,f7,f8,f9⟩
        unfold bZ at hm
        refine aC ?_;exact ⟨_,(zI hm).symm,bO,f7,f8,rfl,f9⟩
       refine aC ?_;obtain ⟨k7,k8,b6,k9,g0⟩:=aD.lendSp f5 k .head
       refine aKG [(0,0),(1,0),(2,0),(3,0),(4,0),(5,0),(6,0),(7,0),(8,0),(9,0),(10,1),(11,0)] fun l0 g1=>?_;refine aC ?_
       obtain ⟨l1,b7,hm⟩:=aB hm
       obtain ⟨u,b8,hm⟩:=aB hm
       refine fM rfl (fun _ _=>aLz jD a e c d rfl rfl rfl b7 rfl) ?_;obtain ⟨l2,l3,g2⟩:=aW.el (sz:=1) rfl b6 b8
       obtain ⟨b9,c0,rfl,g3⟩:=g2
       refine aC ?_;obtain ⟨l4,g4,hm⟩:=aB hm
       obtain ⟨c1,g5,hm⟩:=aB hm
       refine fM rfl (fun _ _=>aLz jD a e c d rfl rfl rfl g4 rfl) ?_;obtain ⟨l5,l6,g6⟩:=aW.el (sz:=1) rfl b6 g5
       obtain ⟨c4,c5,rfl,g7⟩:=g6
       refine aC ?_;refine lM rfl ?_
       obtain ⟨l7,g8,hm⟩:=aB hm
       refine lL (vs:=[zS b9 u.length c0,zS c4 c1.length c5]) (caps:=[]) (us:=[zS b9 u.length c0,zS c4 c1.length c5]) rfl call55 rfl rfl (aCl g8 g1 g3 g7) ?_
       rintro _ l8 ⟨rfl,c6⟩
       refine bQ (aM ⟨⟨_,c6⟩,?_⟩)
       refine aC ?_;refine yX ?_
       have c7:=g0 _ _ c6
       refine aC ?_
       rcases aG hm with ⟨g9,hm⟩|⟨g9,hm⟩
       ·refine aC ?_;refine aL (aLz jD a e c d rfl rfl rfl b7 rfl) ?_
        obtain ⟨l9,h0,h1⟩:=oS (sz:=1) rfl c7 (i:=0) rfl b8
        obtain ⟨h2,h3,rfl,h4⟩:=h1
        refine aL (aAJ (t:=0) (v:=zS h2 u.length h3) aFO h0 rfl rfl) ?_;obtain ⟨m0,c8,hm⟩:=aB hm
        refine aL (dG jD rfl a rfl rfl rfl c8) ?_;obtain ⟨c9,d0,hm⟩:=aB hm
        refine WO_stG (i:=0) sizeOf52 c7 rfl k rfl rfl rfl c8 d0 h4 (fun h5 (h6:aD G K (aJ 52 Kf a1 c2 c9::L) h5)=>(aC ?_));exact ⟨bO,c9,wr (p+1),hm,(Eq.trans f4 (congrArg (fun n=>zS a1 n c2) (fB d0))),rfl,h6⟩
       ·exact aF
      ·exact aF
    ·exact aF
   ·exact aF
theorem aMp {p:(List GPoint)} {R:(List (List GPoint))} (hm:aLZ p=some R) (hs:aD G K (L) w) (h3:aW K a1 c2 p):
  Calls prog 21 ([zS a1 p.length c2]:List Value).toArray w (cN fun v w'=>∃ z a4 a5,v=zS a4 R.length a5/\Hp.le K z/\aD G z (aJ 52 z a4 a5 R::L) w'):=by
 refine cC func21 ?_;unfold aLZ at hm
 refine aC ?_;obtain ⟨a,q5,hm⟩:=aB hm
 refine dQ call50 (aKu q5 hs) ?_
 rintro _ e9 ⟨q,r,b,rfl,u,b8⟩
 refine aC ?_;refine aI [] (fun f w=>∃ d x g j,Hp.le K d/\aEd x=some R/\f 3=zS g x.length j/\aD G d (aJ 52 d g j x::L) w) ?_ ?_
 ·rintro f f0 ⟨d,x,g,j,f1,hm,b9,c0⟩
  unfold aEd at hm
  refine aC ?_;obtain ⟨c1,c3,hm⟩:=aB hm
  refine dQ call52 (lib_SortSts (Kf:=d) c0 (zR _) c3) ?_
  rintro _ f2 ⟨rfl,c4,c5⟩
  iterate 4 refine cV ?_
  refine kH (v:=zS g c1.length j) (Eq.trans b9 (congrArg (fun n=>zS g n j) c4)) ?_;obtain ⟨f3,c6,hm⟩:=aB hm
  exact dQ call54 (gC (Kf:=d) c6 c5 (zR _)) aF
 have f4:=aD.nil (α:=(List GPoint)) b8 52 K
 obtain ⟨f5,c8,ho⟩:=aB hm
 refine bJ [0,8,9] c8 (fun k a7 f w=>∃ e l m,Hp.le K e/\f 3=zS l k.length m/\f 10=i64 a7/\aD G e (aJ 52 e l m k::aJ 68 K q r (aO b a)::rows [2] b a::L) w) aF ?_
 ·rintro k a7 f6 f f7 hm hr ⟨e,l,m,a8,c9,d0,J⟩
  unfold aEe at hm
  refine aC ?_
  rcases aG hm with ⟨d1,hm⟩|⟨d1,hm⟩
  ·refine aC ?_;refine bI (aC ?_)
   obtain ⟨a9,o,hm⟩:=aB hm
   obtain ⟨⟨b0,b1⟩,V⟩:=aGA u o
   have d2:=cG J (i:=1) rfl (rP u o V)
   refine aL (dG aKJ rfl d2 rfl rfl d0 o) (aL (R_ldO (t:=0) sc_68 J (i:=1) rfl (rP u o V) rfl rfl rfl) (cW (v:=zS b0 a9.length b1) (cX (eN (kH c9 (bD (v:=zS a1 p.length c2) (bD (v:=zS b0 a9.length b1) ?_)))))));obtain ⟨f8,d3,f9,d4,d5,d6⟩:=aD.lendD' (i:=1) J u rfl rfl
   obtain ⟨y,d7,hm⟩:=aB hm
   refine dQ call51 (aHQ d7 d5 (h3.mono (zL a8 d3)) (rd_row (d4 _ _ _ V (ix_at o)))) ?_
   rintro _ d8 ⟨a0,a2,g0,rfl,d9,e0⟩
   have e1:=d6 _ _ e0
   obtain ⟨c,b2,e2,_,a3,_⟩:=aD.lendD' (i:=2) e1 d9 rfl rfl
   replace a3:aD G c (aJ 68 K q r (aO b a)::rows [2] b a::aJ 52 e l m k::L) d8:=a3
   refine fQ (Kt:=c) (xs:=([y]:List (List GPoint))) (cs:=[zS a0 y.length a2]) (vs:=[(0,zS a0 y.length a2)]) jD aDI rfl rfl a3 rfl (by kernel_rfl) rfl rfl rfl ⟨⟨a0,a2,rfl,e2⟩,trivial⟩ (fun e3 e4 (e5:aD G c (aJ 52 c e3 1 ([y]:List (List GPoint))::aJ 68 K q r (aO b a)::rows [2] b a::aJ 52 e l m k::L) e4)=>?_);obtain ⟨e6,e7,hm⟩:=aB hm
   refine sO (i:=2) c jD underlying48 aDI rfl rfl e5 rfl b2 (zR _) e7 rfl rfl rfl rfl (fun _ _ _ h=>El.one h) (fun b3 b4 e8 (g1:aD G c (aJ 68 K q r (aO b a)::rows [2] b a::aJ 52 c b3 b4 e6::L) e8)=>(aC ?_));exact ⟨_,(zI hm).symm,bO,c,b3,b4,(zL a8 b2),rfl,rfl,nC⟩
  ·exact aF
theorem aFk {s_:aR} {R:(Int × Int)} (hm:aAx s_=some R) (hs:aD G K (L) w) (k:G.lo=0) (l:aW K a1 c2 s_.Definitions) (m:aW K a4 c5 s_.Components) (n:aW K a7 c8 s_.Meetings) (o:aW K a10 c11 s_.Allowed) (p:aW K a13 c14 s_.Hidden):
  Calls prog 7 ([zA #[zS a1 s_.Definitions.length c2,zS a4 s_.Components.length c5,zS a7 s_.Meetings.length c8,zS a10 s_.Allowed.length c11,zS a13 s_.Hidden.length c14]]:List Value).toArray w (cN fun v w'=>v=Value.tuple #[i64 R.1,i64 R.2]/\aD G K (L) w'):=by
 refine cC func7 ?_;unfold aAx at hm
 refine aC ?_;refine sL fun b4 b5 q=>?_
 refine aC ?_;obtain ⟨r,u,hm⟩:=aB hm
 refine dQ call20 (aBY u q k l m n o p) ?_
 rintro _ b6 ⟨a,b7,b8,b9,c0,x,y,rfl,c1,c3⟩
 refine aC ?_;refine pO fun c4 c6 c7=>?_
 refine nB fun c9 d0=>?_;refine aC ?_
 rcases aG hm with ⟨z,hm⟩|⟨z,hm⟩
 ·exact aF
 ·refine aC ?_;refine aI [] (fun f w=>∃ e g,Hp.le a e/\aHB g=some R/\f 7=i64 g/\aD G e (L) w) aF ?_
  obtain ⟨d1,J,ho⟩:=aB hm
  refine bJ [19,20] J (fun h j f w=>∃ b,Hp.le a b/\f 7=i64 h/\f 21=i64 j/\aD G b (aJ 52 a x y r.2.1::L) w) aF ?_
  ·rintro h j d2 f d3 hm hr ⟨b,V,d4,a0,c⟩
   unfold kA at hm
   refine aC ?_
   rcases aG hm with ⟨a2,hm⟩|⟨a2,hm⟩
   ·refine aC ?_;refine bI (aC ?_)
    obtain ⟨a3,d,hm⟩:=aB hm
    have a5:=cG c (i:=0) rfl d
    refine aL (dG jD rfl a5 rfl rfl a0 d) ?_;obtain ⟨d5,a6,a8⟩:=oS (sz:=1) rfl c (i:=0) rfl d
    obtain ⟨a9,b0,rfl,b1⟩:=a8
    refine aL (aAJ (t:=0) (v:=zS a9 a3.length b0) aFO a6 rfl rfl) (aC ?_);obtain ⟨d6,b2,hm⟩:=aB hm
    exact dQ call21 (aMp b2 c (b1.mono V)) aF
   ·exact aF
theorem aQG {a b:aP} {R:Bool} (hm:aMa a b=some R) (c:aD G K (L) w):
  Calls prog 314 ([zA #[i64 a.Kind,i64 a.Value],zA #[i64 b.Kind,i64 b.Value]]:List Value).toArray w (cN fun v w'=>v=zB R/\aD G K (L) w'):=by
 exact aF
theorem aPH {a b:(List aP)} {R:Bool} (hm:aJI a b=some R) (g:aD G K (L) w) (h:aW K a1 c2 a) (i:aW K a4 c5 b):
  Calls prog 274 ([zS a1 a.length c2,zS a4 b.length c5]:List Value).toArray w (cN fun v w'=>v=zB R/\aD G K (L) w'):=by
 refine cC func274 ?_;unfold aJI at hm
 refine aC ?_
 rcases aG hm with ⟨c,hm⟩|⟨c,hm⟩
 ·exact aF
 ·refine aC ?_;refine aI [] (fun f w=>aMb=some R/\aD G K (L) w) aF ?_
  obtain ⟨j,d,ho⟩:=aB hm
  exact bL [0,1] d (fun e f w=>f 5=i64 e/\aD G K (L) w) aF aF
end Gv
namespace Gv
open Gv.Hp renaming le_refl→zR
open Go.Value renaming slice→zS,bool→zB,agg→zA
open Gv.Hp renaming le_trans→zL
open Go Go.Proofs Go.Proofs.Tryz
set_option maxRecDepth 20000
set_option maxHeartbeats 40000000
variable {G:mL} {K:Hp} {L:List eU} {w:World} {a1 a4 a7 a10 a13 a16 a19 a22 a25 a28:Option Addr} {c2 c5 c8 c11 c14 c17 c20 c23 c26 c29:Nat}
theorem aOy {a b:(List (List aP))} {R:Bool} (hm:aHd a b=some R) (g:aD G K (L) w) (h:aW K a1 c2 a) (i:aW K a4 c5 b):
  Calls prog 214 ([zS a1 a.length c2,zS a4 b.length c5]:List Value).toArray w (cN fun v w'=>v=zB R/\aD G K (L) w'):=by
 refine cC func214 ?_;unfold aHd at hm
 refine aC ?_
 rcases aG hm with ⟨c,hm⟩|⟨c,hm⟩
 ·exact aF
 ·refine aC ?_;refine aI [] (fun f w=>aKm=some R/\aD G K (L) w) aF ?_
  obtain ⟨j,d,ho⟩:=aB hm
  exact bL [0,1] d (fun e f w=>f 5=i64 e/\aD G K (L) w) aF aF
theorem aQH {a b:Part} {R:Bool} (hm:aMc a b=some R) (c:aD G K (L) w) (d:aW K a1 c2 a.Arguments) (e:aW K a4 c5 b.Arguments):
  Calls prog 160 ([zA #[i64 a.Kind,i64 a.Number,str a.Name,zS a1 a.Arguments.length c2],zA #[i64 b.Kind,i64 b.Number,str b.Name,zS a4 b.Arguments.length c5]]:List Value).toArray w (cN fun v w'=>v=zB R/\aD G K (L) w'):=by
 exact aF
theorem aPI {a b:(List Part)} {R:Bool} (hm:aJJ a b=some R) (g:aD G K (L) w) (h:aW K a1 c2 a) (i:aW K a4 c5 b):
  Calls prog 96 ([zS a1 a.length c2,zS a4 b.length c5]:List Value).toArray w (cN fun v w'=>v=zB R/\aD G K (L) w'):=by
 refine cC func96 ?_;unfold aJJ at hm
 refine aC ?_
 rcases aG hm with ⟨c,hm⟩|⟨c,hm⟩
 ·exact aF
 ·refine aC ?_;refine aI [] (fun f w=>aMd=some R/\aD G K (L) w) aF ?_
  obtain ⟨j,d,ho⟩:=aB hm
  exact bL [0,1] d (fun e f w=>f 5=i64 e/\aD G K (L) w) aF aF
theorem aJW {a b:Definition} {R:Bool} (hm:aAy a b=some R) (c:aD G K (L) w) (d:aW K a1 c2 a.Body) (e:aW K a4 c5 b.Body):
  Calls prog 56 ([zA #[str a.Name,i64 a.Parameters,zS a1 a.Body.length c2],zA #[str b.Name,i64 b.Parameters,zS a4 b.Body.length c5]]:List Value).toArray w (cN fun v w'=>v=zB R/\aD G K (L) w'):=by
 exact aF
theorem aJe {a b:(List Definition)} {R:Bool} (hm:xI a b=some R) (g:aD G K (L) w) (h:aW K a1 c2 a) (i:aW K a4 c5 b):
  Calls prog 22 ([zS a1 a.length c2,zS a4 b.length c5]:List Value).toArray w (cN fun v w'=>v=zB R/\aD G K (L) w'):=by
 refine cC func22 ?_;unfold xI at hm
 refine aC ?_
 rcases aG hm with ⟨c,hm⟩|⟨c,hm⟩
 ·exact aF
 ·refine aC ?_;refine aI [] (fun f w=>aEf=some R/\aD G K (L) w) aF ?_
  obtain ⟨j,d,ho⟩:=aB hm
  exact bL [0,1] d (fun e f w=>f 5=i64 e/\aD G K (L) w) aF aF
theorem aOz {a b:(List Int)} {R:Bool} (hm:aEg a b=some R) (g:aD G K (L) w) (h:aW K a1 c2 a) (i:aW K a4 c5 b):
  Calls prog 97 ([zS a1 a.length c2,zS a4 b.length c5]:List Value).toArray w (cN fun v w'=>v=zB R/\aD G K (L) w'):=by
 refine cC func97 ?_;unfold aEg at hm
 refine aC ?_
 rcases aG hm with ⟨c,hm⟩|⟨c,hm⟩
 ·exact aF
 ·refine aC ?_;refine aI [] (fun f w=>aKn=some R/\aD G K (L) w) aF ?_
  obtain ⟨j,d,ho⟩:=aB hm
  exact bL [0,1] d (fun e f w=>f 5=i64 e/\aD G K (L) w) aF aF
theorem aKY {a b:aZ} {R:Bool} (hm:aBE a b=some R) (c:aD G K (L) w) (d:aW K a1 c2 a.Values) (e:aW K a4 c5 b.Values):
  Calls prog 57 ([zA #[i64 a.Definition,zS a1 a.Values.length c2],zA #[i64 b.Definition,zS a4 b.Values.length c5]]:List Value).toArray w (cN fun v w'=>v=zB R/\aD G K (L) w'):=by
 exact aF
theorem aJX {a b:(List aZ)} {R:Bool} (hm:aAz a b=some R) (g:aD G K (L) w) (h:aW K a1 c2 a) (i:aW K a4 c5 b):
  Calls prog 23 ([zS a1 a.length c2,zS a4 b.length c5]:List Value).toArray w (cN fun v w'=>v=zB R/\aD G K (L) w'):=by
 refine cC func23 ?_;unfold aAz at hm
 refine aC ?_
 rcases aG hm with ⟨c,hm⟩|⟨c,hm⟩
 ·exact aF
 ·refine aC ?_;refine aI [] (fun f w=>aFa=some R/\aD G K (L) w) aF ?_
  obtain ⟨j,d,ho⟩:=aB hm
  exact bL [0,1] d (fun e f w=>f 5=i64 e/\aD G K (L) w) aF aF
theorem aNp {a b:aT} {R:Bool} (hm:aFb a b=some R) (c:aD G K (L) w):
  Calls prog 58 ([zA #[str a.Left,str a.Right,str a.Result],zA #[str b.Left,str b.Right,str b.Result]]:List Value).toArray w (cN fun v w'=>v=zB R/\aD G K (L) w'):=by
 exact aF
theorem aMq {a b:(List aT)} {R:Bool} (hm:aDi a b=some R) (g:aD G K (L) w) (h:aW K a1 c2 a) (i:aW K a4 c5 b):
  Calls prog 24 ([zS a1 a.length c2,zS a4 b.length c5]:List Value).toArray w (cN fun v w'=>v=zB R/\aD G K (L) w'):=by
 refine cC func24 ?_;unfold aDi at hm
 refine aC ?_
 rcases aG hm with ⟨c,hm⟩|⟨c,hm⟩
 ·exact aF
 ·refine aC ?_;refine aI [] (fun f w=>aHC=some R/\aD G K (L) w) aF ?_
  obtain ⟨j,d,ho⟩:=aB hm
  exact bL [0,1] d (fun e f w=>f 5=i64 e/\aD G K (L) w) aF aF
theorem aNq {a b:(List aH)} {R:Bool} (hm:yJ a b=some R) (g:aD G K (L) w) (h:aW K a1 c2 a) (i:aW K a4 c5 b):
  Calls prog 25 ([zS a1 a.length c2,zS a4 b.length c5]:List Value).toArray w (cN fun v w'=>v=zB R/\aD G K (L) w'):=by
 refine cC func25 ?_;unfold yJ at hm
 refine aC ?_
 rcases aG hm with ⟨c,hm⟩|⟨c,hm⟩
 ·exact aF
 ·refine aC ?_;refine aI [] (fun f w=>aIK=some R/\aD G K (L) w) aF ?_
  obtain ⟨j,d,ho⟩:=aB hm
  exact bL [0,1] d (fun e f w=>f 5=i64 e/\aD G K (L) w) aF aF
theorem aHR {a b:aR} {R:Bool} (hm:aHe a b=some R) (c:aD G K (L) w) (d:aW K a1 c2 a.Definitions) (e:aW K a4 c5 a.Components) (g:aW K a7 c8 a.Meetings) (h:aW K a10 c11 a.Allowed) (i:aW K a13 c14 a.Hidden) (j:aW K a16 c17 b.Definitions) (k:aW K a19 c20 b.Components) (l:aW K a22 c23 b.Meetings) (m:aW K a25 c26 b.Allowed) (n:aW K a28 c29 b.Hidden):
  Calls prog 8 ([zA #[zS a1 a.Definitions.length c2,zS a4 a.Components.length c5,zS a7 a.Meetings.length c8,zS a10 a.Allowed.length c11,zS a13 a.Hidden.length c14],zA #[zS a16 b.Definitions.length c17,zS a19 b.Components.length c20,zS a22 b.Meetings.length c23,zS a25 b.Allowed.length c26,zS a28 b.Hidden.length c29]]:List Value).toArray w (cN fun v w'=>v=zB R/\aD G K (L) w'):=by
 exact aF
theorem wP {b:aR} {R:Bool} (hm:pH b=some R) (hs:aD G K (L) w) (hG:G.lo=0) (r:aW K a1 c2 b.Definitions) (u:aW K a4 c5 b.Components) (x:aW K a7 c8 b.Meetings) (y:aW K a10 c11 b.Allowed) (z:aW K a13 c14 b.Hidden):
  Calls prog 3 ([zA #[zS a1 b.Definitions.length c2,zS a4 b.Components.length c5,zS a7 b.Meetings.length c8,zS a10 b.Allowed.length c11,zS a13 b.Hidden.length c14]]:List Value).toArray w (cN fun v w'=>v=zB R/\aD G K (L) w'):=by
 let c3:=[zS a1 b.Definitions.length c2,zS a4 b.Components.length c5,zS a7 b.Meetings.length c8,zS a10 b.Allowed.length c11,zS a13 b.Hidden.length c14]
 refine cC func3 ?_;unfold pH at hm
 refine aC ?_;refine sL fun d2 n8 d3=>?_
 refine aC ?_;obtain ⟨n9,d4,hm⟩:=aB hm
 refine dQ call4 (aHD d4 d3 r u x y z) ?_
 rintro _ o0 ⟨rfl,d5⟩
 refine aC ?_
 rcases aG hm with ⟨d6,hm⟩|⟨d6,hm⟩
 ·exact aF
 ·refine aC ?_;obtain ⟨o1,d7,hm⟩:=aB hm
  refine dQ call6 (xK d7 d5 r u x y z) ?_
  rintro _ o2 ⟨o3,o4,o5,o6,o7,o8,o9,p0,p1,p2,p3,p4,rfl,d8,d9,e0⟩
  obtain ⟨p5,a9,e1,p6,e2,e3⟩:=aD.lendD' (i:=0) e0 d8 rfl rfl
  obtain ⟨p7,J,e4,p8,e5,e6⟩:=aD.lendD' (i:=0) e2 d9 rfl rfl
  obtain ⟨p9,V,e7,e8,e9⟩:=aD.lendSp e5 (zL a9 J) .head
  obtain ⟨q0,a0,f0,f1,f2⟩:=aD.lendSp e8 (zL (zL a9 J) V) .head
  obtain ⟨q1,a2,f3,f4,f5⟩:=aD.lendSp f1 (zL (zL (zL a9 J) V) a0) .head
  obtain ⟨q2,f6,hm⟩:=aB hm
  refine dQ call5 (aFg f6 f4 (e1.mono (zL (zL (zL J V) a0) a2)) (e4.mono (zL (zL V a0) a2)) (e7.mono (zL a0 a2)) (f0.mono a2) f3) ?_
  rintro _ q3 ⟨rfl,f7⟩
  have f8:=f5 _ _ f7
  have f9:=f2 _ _ f8
  have g0:=e9 _ _ f9
  have g1:=e6 _ _ g0
  have g2:=e3 _ _ g1
  refine aC ?_;obtain ⟨a,g3,hm⟩:=aB hm
  refine dQ call6 (xK g3 g2 r u x y z) ?_
  rintro _ q4 ⟨b0,b1,c4,b2,b3,c6,b4,b5,b6,b7,b8,b9,rfl,c7,c9,q5⟩
  refine pO fun g4 q6 q7=>?_;refine nB fun q8 g5=>?_
  refine aC ?_;obtain ⟨q9,c0,g6,r0,g7,g8⟩:=aD.lendD' (i:=1) g5 c7 rfl rfl
  obtain ⟨r1,a3,g9,r2,h0,h1⟩:=aD.lendD' (i:=1) g7 c9 rfl rfl
  obtain ⟨r3,a5,h2,h4,h5⟩:=aD.lendSp h0 (zL c0 a3) zt1
  obtain ⟨r4,a6,h7,h8,i0⟩:=aD.lendSp h4 (zL (zL c0 a3) a5) zt1
  obtain ⟨r5,a8,i1,i2,i3⟩:=aD.lendSp h8 (zL (zL (zL c0 a3) a5) a6) zt1
  obtain ⟨r6,i4,hm⟩:=aB hm
  refine dQ call7 (aFk i4 i2 hG (g6.mono (zL (zL (zL a3 a5) a6) a8)) (g9.mono (zL (zL a5 a6) a8)) (h2.mono (zL a6 a8)) (h7.mono a8) i1) ?_
  rintro _ r7 ⟨rfl,i5⟩
  have i6:=i3 _ _ i5
  have i7:=i0 _ _ i6
  have i8:=h5 _ _ i7
  have i9:=h1 _ _ i8
  have r8:=g8 _ _ i9
  iterate 9 refine cV ?_
  refine bC [1,6] (fun f w=>∃ c1,jN b a c1=some R/\f 34=zB c1/\aD G K (aJ 90 K b0 b1 (aO c4 a.Definitions)::rows [186,274,337] c4 a.Definitions::aJ 92 K b2 b3 (aO c6 a.Components)::rows [2] c6 a.Components::aJ 94 K b4 b5 a.Meetings::aJ 9 K b6 b7 a.Allowed::aJ 9 K b8 b9 a.Hidden::box g4 35 [zS b0 a.Definitions.length b1,zS b2 a.Components.length b3,zS b4 a.Meetings.length b5,zS b6 a.Allowed.length b7,zS b8 a.Hidden.length b9]::box d2 27 c3::L) w) ?_ ?_
  ·rintro f r9 ⟨c1,hm,s0,j0⟩
   unfold jN at hm
   refine aC ?_
   rcases aG hm with ⟨j1,hm⟩|⟨j1,hm⟩
   ·exact aF
   ·refine aC ?_;obtain ⟨s1,d,j2,j3,s2⟩:=aD.lendBp j0 zt7
    obtain ⟨s3,c,j4,s4,s5⟩:=aD.lendBp j3 zt7
    refine aKG [(0,0),(1,0),(2,1),(3,1),(4,0)] fun s6 q=>?_;refine fM rfl (fun _ ⟨_,q⟩=>pL (t:=0) (vs:=[zS b0 a.Definitions.length b1,zS b2 a.Components.length b3,zS b4 a.Meetings.length b5,zS b6 a.Allowed.length b7,zS b8 a.Hidden.length b9]) ag_35 q (j2.mono c) rfl rfl rfl) (fM rfl (fun _ ⟨_,q⟩=>pL (t:=0) (vs:=c3) ag_27 q j4 rfl rfl rfl) (lM rfl ?_))
    obtain ⟨s7,j5,hm⟩:=aB hm
    refine dQ call6 (xK j5 q (r.mono (zL d c)) (u.mono (zL d c)) (x.mono (zL d c)) (y.mono (zL d c)) (z.mono (zL d c))) ?_
    rintro _ s8 ⟨s9,t0,t1,t2,t3,t4,t5,t6,t7,t8,t9,u0,rfl,j6,j7,d0⟩
    refine bQ (aM ⟨⟨_,d0⟩,?_⟩)
    refine lM rfl ?_;obtain ⟨u1,p,j8,u2,j9,u3⟩:=aD.lendD' (i:=7) d0 c7 rfl rfl
    obtain ⟨u4,l,k0,u5,k1,k2⟩:=aD.lendD' (i:=7) j9 c9 rfl rfl
    obtain ⟨u6,m,k3,k4,k5⟩:=aD.lendSp k1 (zL (zL (zL d c) p) l) zt7
    obtain ⟨u7,n,k6,k7,k8⟩:=aD.lendSp k4 (zL (zL (zL (zL d c) p) l) m) zt7
    obtain ⟨u8,o,k9,l0,l1⟩:=aD.lendSp k7 (zL (zL (zL (zL (zL d c) p) l) m) n) zt7
    obtain ⟨u9,k,l2,v0,l3,l4⟩:=aD.lendD' (i:=0) l0 j6 rfl rfl
    obtain ⟨v1,e,l5,v2,l6,l7⟩:=aD.lendD' (i:=0) l3 j7 rfl rfl
    obtain ⟨v3,g,l8,l9,m0⟩:=aD.lendSp l6 (zL (zL (zL (zL (zL (zL (zL (zL d c) p) l) m) n) o) k) e) .head
    obtain ⟨v4,h,m1,m2,m3⟩:=aD.lendSp l9 (zL (zL (zL (zL (zL (zL (zL (zL (zL d c) p) l) m) n) o) k) e) g) .head
    obtain ⟨v5,j,m4,m5,m6⟩:=aD.lendSp m2 (zL (zL (zL (zL (zL (zL (zL (zL (zL (zL d c) p) l) m) n) o) k) e) g) h) .head
    obtain ⟨v6,m7,hm⟩:=aB hm
    refine dQ call8 (aHR m7 m5 (j8.mono (zL (zL (zL (zL (zL (zL (zL (zL l m) n) o) k) e) g) h) j)) (k0.mono (zL (zL (zL (zL (zL (zL (zL m n) o) k) e) g) h) j)) (k3.mono (zL (zL (zL (zL (zL (zL n o) k) e) g) h) j)) (k6.mono (zL (zL (zL (zL (zL o k) e) g) h) j)) (k9.mono (zL (zL (zL (zL k e) g) h) j)) (l2.mono (zL (zL (zL e g) h) j)) (l5.mono (zL (zL g h) j)) (l8.mono (zL h j)) (m1.mono j) m4) ?_
    rintro _ v7 ⟨rfl,m8⟩
    have m9:=m6 _ _ m8
    have n0:=m3 _ _ m9
    have n1:=m0 _ _ n0
    have n2:=l7 _ _ n1
    have n3:=l4 _ _ n2
    have n4:=l1 _ _ n3
    have n5:=k8 _ _ n4
    have n6:=k5 _ _ n5
    have v8:=k2 _ _ n6
    exact aF
  exact aF
end Gv
