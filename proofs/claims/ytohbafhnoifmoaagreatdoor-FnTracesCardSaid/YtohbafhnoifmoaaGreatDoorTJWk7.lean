/- Walks, printed by program. -/
import Derived.Test.YtohbafhnoifmoaaGreatDoorTJWk6
set_option linter.all false
namespace Gv
open Go.Value renaming slice→zS,bool→zB,pointer→zP,agg→zA,tuple→zT,map→zM
open Option.some renaming inj→zI
open Gv.Hp renaming le_trans→zL,le_refl→zR
open Go Go.Proofs Go.Proofs.Tryz
set_option maxRecDepth 20000
set_option maxHeartbeats 40000000
variable {G:Env} {K Kf:Hp} {L:List nJ} {w:World} {b1 c3 c6 c8 c2 b4 b5 c7 c10 c18 c21 c11 c5:Nat} {a2 a5 a7 a1 a6 a9 a11 a14 a17 a20 a4 a10:Option Addr}
theorem jT {c:(List (List Int))} {g:(List (aU × Int))} {b:Nat} {j:(List oO)} {d:(List Int)} {R:(Int × (List (List Int)) × (List (aU × Int)))} (Z:aI G K (aK 35 Kf a2 c3 c::iR b g::aK 141 K a5 c6 j::box b1 139 [zS a2 c.length c3,zM (some b),zS a5 j.length c6,Value.func (.func 71) #[] #[]]::L) w) (hG:G.lo=0) (a8:Hp.le Kf K) (h9:cX Kf a7 c8 d) (a:eX c g j d=some R):
  Calls Tryz.prog 107 ([zP (some ⟨b1,0,none⟩),zS a7 d.length c8]:List Value).toArray w (gK fun v w'=>∃ (a1:Option Addr) (a3:Nat),v=i64 R.1∧aI G K (aK 35 Kf a1 a3 R.2.1::iR b R.2.2::aK 141 K a5 c6 j::box b1 139 [zS a1 R.2.1.length a3,zM (some b),zS a5 j.length c6,Value.func (.func 71) #[] #[]]::L) w'):=by
 let y:=[zS a2 c.length c3,zM (some b),zS a5 j.length c6,Value.func (.func 71) #[] #[]]
 let p:=aK 141 K a5 c6 j
 refine aW func107 rfl (by kernel_rfl) (by show (2:Nat)≤47;decide) ?_
 unfold eX at a
 refine aL (aF (v:=i64 0) (aG (aL (aO (v:=zP (some ⟨b1,0,none⟩)) (aD (kA rfl) (aD (bT (t':=3) fa_139_3 rfl rfl) (aD (dS sc_102 Z (i:=3) rfl rfl rfl) (aO (v:=zS a7 d.length c8) ?_))))))))
 obtain ⟨e,a9,a⟩:=aB a
 refine aCe (vs:=[zS a7 d.length c8]) (caps:=[]) (us:=[zS a7 d.length c8]) rfl call71 rfl rfl (aCL Z hG (h9.mono a8) a9) ?_
 rintro _ c5 ⟨rfl,l⟩
 refine aF (v:=str e) (aG (aL (aO (v:=zP (some ⟨b1,0,none⟩)) (aD (kA rfl) (aD (bT (t':=1) aLI rfl rfl) (aD (dS sc_137 l (i:=3) rfl rfl rfl) (aO (v:=str e) (aD (R_look (kv:=g) (k:=e) (z:=(0:Int)) runUnderlying137 ko_9 zeroValue2 l (i:=1) rfl rfl rfl) (aO (v:=zT #[i64 ((nO g e).getD 0),zB ((nO g e).isSome)]) (aD (bQ rfl rfl) (aD (bQ rfl rfl) (aF (v:=i64 ((nO g e).getD 0)) (aF (v:=zB ((nO g e).isSome)) (aG (uV (fun f w=>∃ (r:Int) (t:List (List Int)) (J:(List (aU × Int))) (u:Option Addr) (x:Nat),iD r t J=some R∧f 6=i64 r∧aI G K (aK 35 Kf u x t::iR b J::p::box b1 139 [zS u t.length x,zM (some b),zS a5 j.length c6,Value.func (.func 71) #[] #[]]::L) w) ?_ ?_)))))))))))))))
 ·rintro f c7 ⟨r,t,J,u,x,a,b0,b2⟩
  unfold iD at a
  refine aL (aN b0 (aF (v:=i64 r) (aG ?_)))
  obtain rfl:=zI a
  exact bM (bP results107 rfl ⟨u,x,rfl,b2⟩)
 refine aL (aO (v:=zB ((nO g e).isSome)) (aD (eJ rfl) (aG ?_)))
 rcases aH a with ⟨V,a⟩|⟨V,a⟩
 ·refine aM V rfl (aL (aO (v:=zP (some ⟨b1,0,none⟩)) (aD (kA rfl) (aD (bT (t':=0) aAP rfl rfl) (aD (dS aIw l (i:=3) rfl rfl rfl) (aD (bU (len:=c.length) oQ rfl) (aF (v:=i64 (c.length:Int)) (aG (aL (aO (v:=zP (some ⟨b1,0,none⟩)) (aD (kA rfl) (aD (bT (t':=1) aLI rfl rfl) (aD (dS sc_137 l (i:=3) rfl rfl rfl) (aO (v:=str e) (aO (v:=i64 (c.length:Int)) ?_)))))))))))))))
  obtain ⟨q,b4,a⟩:=aB a
  refine aIq (i:=1) (k:=e) (v:=(c.length:Int)) runUnderlying137 ko_9 l rfl rfl rfl rfl b4 (fun b5 (a4:aI G K (aK 35 Kf a2 c3 c::iR b q::p::box b1 139 y::L) b5)=>(aG (aP (aO (v:=zP (some ⟨b1,0,none⟩)) (aO (v:=zP (some ⟨b1,0,none⟩)) (aD (kA rfl) (aD (bT (t':=0) aAP rfl rfl) (aD (dS aIw a4 (i:=3) rfl rfl rfl) (aO (v:=zS a7 d.length c8) (bR (Kt:=Kf) (xs:=([d]:List (List Int))) (cs:=[zS a7 d.length c8]) (vs:=[(0,zS a7 d.length c8)]) oQ aEB rfl rfl a4 rfl (by kernel_rfl) rfl rfl rfl ⟨⟨a7,c8,rfl,h9⟩,trivial⟩ (fun b6 b7 (b8:aI G K (aK 35 Kf b6 1 ([d]:List (List Int))::aK 35 Kf a2 c3 c::iR b q::p::box b1 139 y::L) b7)=>?_)))))))))))
  obtain ⟨m,b9,a⟩:=aB a
  exact vX (i:=0) Kf oQ underlying53 aEB rfl rfl b8 rfl (zR _) (zR _) b9 rfl rfl rfl rfl (fun _ _ _ h=>El.one h) (fun n o c0 (c1:aI G K (aK 35 Kf n o m::iR b q::p::box b1 139 y::L) c0)=>(aD (kA rfl) (aD (bT (t':=0) aAP rfl rfl) (bY (i:=3) (ns:=[zS n m.length o]) (us:=[zS n m.length o,zM (some b),zS a5 j.length c6,Value.func (.func 71) #[] #[]]) sizeOf53 c1 rfl rfl rfl rfl rfl (dE rfl) rfl rfl (fun c2 (c4:aI G K (aK 35 Kf n o m::iR b q::p::box b1 139 [zS n m.length o,zM (some b),zS a5 j.length c6,Value.func (.func 71) #[] #[]]::L) c2)=>(aG ⟨(c.length:Int),m,q,n,o,a,rfl,c4⟩))))))
 ·exact aJ V rfl (bA (aA ⟨((nO g e).getD 0),c,g,a2,c3,a,rfl,l⟩))
theorem aBQ {d:aU} {a3:(List Int)} {b8:(List (List Int))} {c4:(List (aU × Int))} {b:Nat} {m:(List oO)} {p:Int} {c5:Nat} {R:((List (List Int)) × (List (aU × Int)) × (List oO))} (hs:aI G K (aK 35 Kf a6 c7 b8::iR b c4::aK 141 K a9 c10 m::box b5 139 [zS a6 b8.length c7,zM (some b),zS a9 m.length c10,Value.func (.func 71) #[] #[]]::box b4 136 [zP (some ⟨b5,0,none⟩)]::L) w) (hG:G.lo=0) (c8:Hp.le Kf K) (h3:cX Kf a1 c2 a3) (e1:kK K a11 c5 [i64 p]) (g:jQ d a3 b8 c4 m p=some R):
  Calls Tryz.prog 108 ([str d,zS a1 a3.length c2,zP (some ⟨b4,0,none⟩),cU a11 c5]:List Value).toArray w (gK fun v w'=>∃ (d0:Option Addr) (d1:Nat) (d2:Option Addr) (d3:Nat),v=zT #[]∧aI G K (aK 35 Kf d0 d1 R.1::iR b R.2.1::aK 141 K d2 d3 R.2.2::box b5 139 [zS d0 R.1.length d1,zM (some b),zS d2 R.2.2.length d3,Value.func (.func 71) #[] #[]]::box b4 136 [zP (some ⟨b5,0,none⟩)]::L) w'):=by
 let d4:=[zP (some ⟨b5,0,none⟩),zS a1 a3.length c2]
 refine aW func108 rfl (by kernel_rfl) (by show (4:Nat)≤21;decide) ?_
 unfold jQ at g
 refine cN (fun f w=>∃ (a4:List (List Int)) (b9:(List (aU × Int))) (a5:List oO) (a7:Option Addr) (a8:Nat) (b0:Option Addr) (b1:Nat),kB a4 b9 a5=some R∧aI G K (aK 141 K b0 b1 a5::aK 35 Kf a7 a8 a4::iR b b9::box b5 139 [zS a7 a4.length a8,zM (some b),zS b0 a5.length b1,Value.func (.func 71) #[] #[]]::box b4 136 [zP (some ⟨b5,0,none⟩)]::L) w) ?_ ?_
 ·rintro f g6 ⟨a4,b9,a5,a7,a8,b0,b1,g,e2⟩
  unfold kB at g
  obtain rfl:=zI g
  exact aKG results108 ⟨a7,a8,b0,b1,rfl,(aI.arr 3 [1,2,0] e2 rfl)⟩
 obtain ⟨n,o,c0,e4,c1⟩:=aI.lendB (i:=4) hs rfl
 refine zZ (C:=fun w'=>∃ L',aI G n L' w') [] bZ (by kernel_rfl) (fun g7 e5=>?_)
 have c:=aI.mono e4 e5
 refine dZ (i:=0) rfl (by kernel_rfl) ⟨_,c⟩ (fun _ ⟨_,c⟩=>bH (t:=0) aCh c c0 rfl rfl) (dZ (i:=1) rfl (by kernel_rfl) ⟨_,c⟩ (fun _ ⟨_,c⟩=>bH (t:=0) aCh c c0 rfl rfl) (dZ (i:=2) rfl (by kernel_rfl) ⟨_,c⟩ (fun _ _=>kA rfl) (dZ (i:=3) rfl (by kernel_rfl) ⟨_,c⟩ (fun _ _=>bT (t':=2) aDp rfl rfl) (dZ (i:=5) rfl (by kernel_rfl) ⟨_,c⟩ (fun _ ⟨_,c⟩=>bH (t:=0) sc_3 c (e1.mono o) rfl rfl) (dZ (i:=6) rfl (by kernel_rfl) ⟨_,c⟩ (fun _ _=>bE (v:=str d) rfl) (dZ (i:=7) rfl (by kernel_rfl) ⟨_,c⟩ (fun _ ⟨_,c⟩=>bH (t:=0) aCh c c0 rfl rfl) (dZ (i:=8) rfl (by kernel_rfl) ⟨_,c⟩ (fun _ _=>bE (v:=zS a1 a3.length c2) rfl) (nE (i:=4) (j:=9) (by kernel_rfl) rfl rfl ?_ ?_))))))))
 ·refine aD (dS aIx c (i:=3) rfl rfl rfl) (aZ (aA ⟨fun _=>⟨_,c⟩,?_⟩))
  refine cB (i:=9) (by kernel_rfl) rfl ?_
  obtain ⟨e,e6,g⟩:=aB g
  refine aS (vs:=d4) call107 rfl (jT (Kf:=Kf) c hG (zL c8 o) h3 e6) ?_
  rintro _ g8 ⟨q,r,rfl,c3⟩
  refine aZ (aA ⟨fun _=>⟨_,c3⟩,?_⟩)
  refine dZ (i:=10) rfl (by kernel_rfl) ⟨_,c3⟩ (fun _ _=>dL (vs:=[(0,i64 p),(1,str d),(2,i64 e.1)]) (cs:=[i64 p,str d,i64 e.1]) bs_141 rfl (by kernel_rfl)) (cB (i:=11) (by kernel_rfl) rfl (bR (Kt:=K) (xs:=([⟨p,d,e.1⟩]:List oO)) (cs:=[i64 p,str d,i64 e.1]) (vs:=[(0,zA #[i64 p,str d,i64 e.1])]) aBn aEC rfl rfl c3 rfl (by kernel_rfl) rfl rfl rfl ⟨rfl,trivial⟩ (fun e7 e8 (d5:aI G n (aK 141 K e7 1 ([⟨p,d,e.1⟩]:List oO)::aK 35 Kf q r e.2.1::iR b e.2.2::aK 141 K a9 c10 m::box b5 139 [zS q e.2.1.length r,zM (some b),zS a9 m.length c10,Value.func (.func 71) #[] #[]]::L) e8)=>(aZ (aA ⟨fun _=>⟨_,d5⟩,?_⟩)))))
  refine cB (i:=12) (by kernel_rfl) rfl ?_
  obtain ⟨u,e9,g⟩:=aB g
  refine dG (i:=2) aBn underlying106 aEC rfl rfl d5 rfl o o e9 rfl rfl rfl rfl (fun _ h=>h) (fun x c45 f0 (b2:aI G n (aK 35 Kf q r e.2.1::iR b e.2.2::aK 141 K x c45 u::box b5 139 [zS q e.2.1.length r,zM (some b),zS a9 m.length c10,Value.func (.func 71) #[] #[]]::L) f0)=>(aZ (aA ⟨fun _=>⟨_,b2⟩,?_⟩)))
  refine dZ (i:=13) rfl (by kernel_rfl) ⟨_,b2⟩ (fun _ _=>kA rfl) (dZ (i:=14) rfl (by kernel_rfl) ⟨_,b2⟩ (fun _ _=>bT (t':=2) aDp rfl rfl) (cB (i:=15) (by kernel_rfl) rfl (bY (i:=3) (ns:=[zS x u.length c45]) (us:=[zS q e.2.1.length r,zM (some b),zS x u.length c45,Value.func (.func 71) #[] #[]]) sizeOf106 b2 rfl rfl rfl rfl rfl (dE rfl) rfl rfl (fun f1 (d6:aI G n (aK 35 Kf q r e.2.1::iR b e.2.2::aK 141 K x c45 u::box b5 139 [zS q e.2.1.length r,zM (some b),zS x u.length c45,Value.func (.func 71) #[] #[]]::L) f1)=>(aZ (aA ⟨fun _=>⟨_,d6⟩,?_⟩))))))
  refine gL (by kernel_rfl) ?_
  have f2:=c1 _ _ d6
  exact aA ⟨e.2.1,e.2.2,u,q,r,x,c45,g,(aI.arr 5 [3,1,2,4,0] f2 rfl)⟩
 ·obtain ⟨a,f3,g⟩:=aB g
  refine aS (vs:=d4) call107 rfl (jT (Kf:=Kf) c hG (zL c8 o) h3 f3) ?_
  rintro _ g9 ⟨k,l,rfl,y⟩
  refine aZ (aA ⟨fun _=>⟨_,y⟩,?_⟩)
  refine dZ (i:=10) rfl (by kernel_rfl) ⟨_,y⟩ (fun _ _=>dL (vs:=[(0,i64 p),(1,str d),(2,i64 a.1)]) (cs:=[i64 p,str d,i64 a.1]) bs_141 rfl (by kernel_rfl)) (nE (i:=4) (j:=11) (by kernel_rfl) rfl rfl ?_ ?_)
  ·refine aD (dS aIx y (i:=3) rfl rfl rfl) (aZ (aA ⟨fun _=>⟨_,y⟩,?_⟩))
   refine cB (i:=11) (by kernel_rfl) rfl (bR (Kt:=K) (xs:=([⟨p,d,a.1⟩]:List oO)) (cs:=[i64 p,str d,i64 a.1]) (vs:=[(0,zA #[i64 p,str d,i64 a.1])]) aBn aEC rfl rfl y rfl (by kernel_rfl) rfl rfl rfl ⟨rfl,trivial⟩ (fun f4 f5 (d7:aI G n (aK 141 K f4 1 ([⟨p,d,a.1⟩]:List oO)::aK 35 Kf k l a.2.1::iR b a.2.2::aK 141 K a9 c10 m::box b5 139 [zS k a.2.1.length l,zM (some b),zS a9 m.length c10,Value.func (.func 71) #[] #[]]::L) f5)=>(aZ (aA ⟨fun _=>⟨_,d7⟩,?_⟩))))
   refine cB (i:=12) (by kernel_rfl) rfl ?_
   obtain ⟨z,f6,g⟩:=aB g
   refine dG (i:=2) aBn underlying106 aEC rfl rfl d7 rfl o o f6 rfl rfl rfl rfl (fun _ h=>h) (fun J V f7 (b3:aI G n (aK 35 Kf k l a.2.1::iR b a.2.2::aK 141 K J V z::box b5 139 [zS k a.2.1.length l,zM (some b),zS a9 m.length c10,Value.func (.func 71) #[] #[]]::L) f7)=>(aZ (aA ⟨fun _=>⟨_,b3⟩,?_⟩)))
   refine dZ (i:=13) rfl (by kernel_rfl) ⟨_,b3⟩ (fun _ _=>kA rfl) (dZ (i:=14) rfl (by kernel_rfl) ⟨_,b3⟩ (fun _ _=>bT (t':=2) aDp rfl rfl) (cB (i:=15) (by kernel_rfl) rfl (bY (i:=3) (ns:=[zS J z.length V]) (us:=[zS k a.2.1.length l,zM (some b),zS J z.length V,Value.func (.func 71) #[] #[]]) sizeOf106 b3 rfl rfl rfl rfl rfl (dE rfl) rfl rfl (fun f8 (d8:aI G n (aK 35 Kf k l a.2.1::iR b a.2.2::aK 141 K J V z::box b5 139 [zS k a.2.1.length l,zM (some b),zS J z.length V,Value.func (.func 71) #[] #[]]::L) f8)=>(aZ (aA ⟨fun _=>⟨_,d8⟩,?_⟩))))))
   refine gL (by kernel_rfl) ?_
   have f9:=c1 _ _ d8
   exact aA ⟨a.2.1,a.2.2,z,k,l,J,V,g,(aI.arr 5 [3,1,2,4,0] f9 rfl)⟩
  ·refine bR (Kt:=K) (xs:=([⟨p,d,a.1⟩]:List oO)) (cs:=[i64 p,str d,i64 a.1]) (vs:=[(0,zA #[i64 p,str d,i64 a.1])]) aBn aEC rfl rfl y rfl (by kernel_rfl) rfl rfl rfl ⟨rfl,trivial⟩ (fun g0 g1 (b6:aI G n (aK 141 K g0 1 ([⟨p,d,a.1⟩]:List oO)::aK 35 Kf k l a.2.1::iR b a.2.2::aK 141 K a9 c10 m::box b5 139 [zS k a.2.1.length l,zM (some b),zS a9 m.length c10,Value.func (.func 71) #[] #[]]::L) g1)=>(aZ (aA ⟨fun _=>⟨_,b6⟩,?_⟩)))
   refine cB (i:=4) (by kernel_rfl) rfl (aD (dS aIx b6 (i:=4) rfl rfl rfl) (aZ (aA ⟨fun _=>⟨_,b6⟩,?_⟩)))
   refine cB (i:=12) (by kernel_rfl) rfl ?_
   obtain ⟨Z,g2,g⟩:=aB g
   refine dG (i:=2) aBn underlying106 aEC rfl rfl b6 rfl o o g2 rfl rfl rfl rfl (fun _ h=>h) (fun a0 a2 g3 (b7:aI G n (aK 35 Kf k l a.2.1::iR b a.2.2::aK 141 K a0 a2 Z::box b5 139 [zS k a.2.1.length l,zM (some b),zS a9 m.length c10,Value.func (.func 71) #[] #[]]::L) g3)=>(aZ (aA ⟨fun _=>⟨_,b7⟩,?_⟩)))
   refine dZ (i:=13) rfl (by kernel_rfl) ⟨_,b7⟩ (fun _ _=>kA rfl) (dZ (i:=14) rfl (by kernel_rfl) ⟨_,b7⟩ (fun _ _=>bT (t':=2) aDp rfl rfl) (cB (i:=15) (by kernel_rfl) rfl (bY (i:=3) (ns:=[zS a0 Z.length a2]) (us:=[zS k a.2.1.length l,zM (some b),zS a0 Z.length a2,Value.func (.func 71) #[] #[]]) sizeOf106 b7 rfl rfl rfl rfl rfl (dE rfl) rfl rfl (fun g4 (d9:aI G n (aK 35 Kf k l a.2.1::iR b a.2.2::aK 141 K a0 a2 Z::box b5 139 [zS k a.2.1.length l,zM (some b),zS a0 Z.length a2,Value.func (.func 71) #[] #[]]::L) g4)=>(aZ (aA ⟨fun _=>⟨_,d9⟩,?_⟩))))))
   refine gL (by kernel_rfl) ?_
   have g5:=c1 _ _ d9
   exact aA ⟨a.2.1,a.2.2,Z,k,l,a0,a2,g,(aI.arr 5 [3,1,2,4,0] g5 rfl)⟩
theorem aCM {q:(List Int)} {V:(List (List Int))} {c8:(List (aU × Int))} {b:Nat} {Z:(List oO)} {c9:Int} {u:Nat} {p:cG} {a0:Nat} {R:(Bool × (List (List Int)) × (List (aU × Int)) × (List oO))} (hs:aI G K (aK 35 Kf a6 c7 V::iR b c8::aK 141 K a9 c10 Z::box b5 139 [zS a6 V.length c7,zM (some b),zS a9 Z.length c10,Value.func (.func 71) #[] #[]]::box b4 136 [zP (some ⟨b5,0,none⟩)]::L) w) (hG:G.lo=0) (f9:Hp.le Kf K) (h3:cX K a1 c2 q) (g1:kK K a11 u [i64 c9]) (d0:kK K a14 a0 (zC p a17 c18 a20 c21)) (d1:cX K a17 c18 p.L) (g2:cX K a20 c21 p.E) (c:kW q V c8 Z c9 p=some R):
  Calls Tryz.prog 73 ([zS a1 q.length c2,Value.func (.func 108) #[] #[zP (some ⟨b4,0,none⟩),cU a11 u],cU a14 a0]:List Value).toArray w (gK fun v w'=>∃ (K':Hp) (e5:Option Addr) (e6:Nat) (e7:Option Addr) (e8:Nat),v=zB R.1∧Hp.le K K'∧aI G K' (aK 35 K' e5 e6 R.2.1::iR b R.2.2.1::aK 141 K e7 e8 R.2.2.2::box b5 139 [zS e5 R.2.1.length e6,zM (some b),zS e7 R.2.2.2.length e8,Value.func (.func 71) #[] #[]]::box b4 136 [zP (some ⟨b5,0,none⟩)]::L) w'):=by
 let x:=[zP (some ⟨b5,0,none⟩)]
 refine aW func73 rfl (by kernel_rfl) (by show (3:Nat)≤29;decide) ?_
 unfold kW at c
 refine aL (aF (v:=zB false) (aG (aQ (aL (aD (bO (k':=a0+2) fL rfl d0 rfl) (aD (bH (t:=2) iT hs d0 rfl rfl) ?_))))))
 obtain ⟨y,e9,c⟩:=aB c
 obtain ⟨f0,f1,f2⟩:=Cut.ex 1 a17 c18 1
 have f3:=cX.cut' d1 e9 f2
 refine aD (aBm bX d1.room f2 rfl rfl rfl e9) (aD (bU (len:=y.length) bX rfl) (aO (v:=i64 0) (aG (bB (fun f w=>∃ (a2:Hp) (b1:List (List Int)) (d3:(List (aU × Int))) (b2:List oO) (b3:Option Addr) (b6:Nat) (b7:Option Addr) (b8:Nat),Hp.le K a2∧iY b1 d3 b2=some R∧aI G a2 (aK 141 K b7 b8 b2::aK 35 a2 b3 b6 b1::iR b d3::box b5 139 [zS b3 b1.length b6,zM (some b),zS b7 b2.length b8,Value.func (.func 71) #[] #[]]::box b4 136 x::L) w) ?_ ?_))))
 ·rintro f j0 ⟨a2,b1,d3,b2,b3,b6,b7,b8,g3,c,g4⟩
  unfold iY at c
  refine aA (aL (aF (v:=zB true) (aG ?_)))
  obtain rfl:=zI c
  exact bM (bP results73 rfl ⟨a2,b3,b6,b7,b8,rfl,g3,(aI.arr 3 [1,2,0] g4 rfl)⟩)
 have g6:aI G K (aK 35 K a6 c7 V::iR b c8::aK 141 K a9 c10 Z::box b5 139 [zS a6 V.length c7,zM (some b),zS a9 Z.length c10,Value.func (.func 71) #[] #[]]::box b4 136 x::L) w:=aI.weak (i:=0) hs rfl (fun _ h=>aK.mono f9 h)
 obtain ⟨j1,g7,c⟩:=aB c
 refine cE g7 (fun (s:(List (List Int) × (List (aU × Int)) × List oO × Int)) f w=>match s with|(d,n,e,r)=>∃ (o:Hp) (j:Option Addr) (k:Nat) (l:Option Addr) (m:Nat),Hp.le K o∧f 0=zS a1 q.length c2∧f 1=Value.func (.func 108) #[] #[zP (some ⟨b4,0,none⟩),cU a11 u]∧f 2=cU a14 a0∧f 11=zS f0 y.length f1∧f 12=i64 (y.length:Int)∧f 13=i64 r∧aI G o (aK 35 o j k d::iR b n::aK 141 K l m e::box b5 139 [zS j d.length k,zM (some b),zS l e.length m,Value.func (.func 71) #[] #[]]::box b4 136 x::L) w) ?_ ?_
 ·exact ⟨K,a6,c7,a9,c10,(zR _),rfl,rfl,rfl,rfl,rfl,rfl,g6⟩
 ·rintro ⟨d,n,e,r⟩ f4 f j2 a g8 ⟨o,j,k,l,m,g,d4,d5,d6,d7,d8,b9,c0⟩
  replace a:fW q c9 p y d n e r=some f4:=a
  unfold fW at a
  refine aL (aD (cL b9 d8) (aG (aQ ?_)))
  rcases aH a with ⟨d9,a⟩|⟨d9,a⟩
  ·refine aM d9 rfl (bA (aA (aQ (bB (fun f w=>∃ (a3:Hp) (a4:List (List Int)) (c1:(List (aU × Int))) (a5:List oO) (c3:Option Addr) (c4:Nat) (c5:Option Addr) (c6:Nat),Hp.le o a3∧gQ r a4 c1 a5=some f4∧f 0=zS a1 q.length c2∧f 1=Value.func (.func 108) #[] #[zP (some ⟨b4,0,none⟩),cU a11 u]∧f 2=cU a14 a0∧f 11=zS f0 y.length f1∧f 12=i64 (y.length:Int)∧f 13=i64 r∧aI G a3 (aK 141 K c5 c6 a5::aK 35 a3 c3 c4 a4::iR b c1::box b5 139 [zS c3 a4.length c4,zM (some b),zS c5 a5.length c6,Value.func (.func 71) #[] #[]]::box b4 136 x::L) w) ?_ ?_))))
   ·rintro f j3 ⟨a3,a4,c1,a5,c3,c4,c5,c6,g9,a,h0,h1,h2,h4,h5,h6,h7⟩
    unfold gQ at a
    exact aA (aP (aD (cP h6 rfl) (aO (v:=i64 (wr (r+1))) (aG ⟨(a4,c1,a5,wr (r+1)),(zI a).symm,a3,c3,c4,c5,c6,(zL g g9),h0,h1,h2,h4,h5,rfl,(aI.arr 3 [1,2,0] h7 rfl)⟩))))
   refine aL ?_
   obtain ⟨z,f5,a⟩:=aB a
   refine aD (dI bX rfl (f3.mono g) d7 rfl b9 f5) ?_
   obtain ⟨j4,h8,h9⟩:=cX.el (sz:=1) rfl f3 f5
   cases h9
   refine aD (bH (t:=0) qB c0 (h8.mono g) rfl rfl) (aF (v:=str z) (aG (aL (aD (gT (t:=0) (vs:=(zC p a17 c18 a20 c21)) dJ c0 (d0.mono g) d6 rfl rfl) (aN d4 (aO (v:=str z) ?_))))))
   obtain ⟨J,i0,a⟩:=aB a
   refine aS (vs:=[zA (zCa p a17 c18 a20 c21),zS a1 q.length c2,str z]) call69 rfl (aCE c0 (d1.mono g) (g2.mono g) (h3.mono g) i0) ?_
   rintro _ f6 ⟨a7,a8,rfl,f7⟩
   refine aF (v:=zS a7 J.length a8) (aG (aL (aO (v:=zS a7 J.length a8) (aD (bU (len:=J.length) cF rfl) (aD (kZ rfl rfl) (aG ?_))))))
   rcases aH a with ⟨e0,a⟩|⟨e0,a⟩
   ·refine aM e0 rfl (aP (aN d5 (aO (v:=str z) (aO (v:=zS a7 J.length a8) ?_))))
    obtain ⟨b0,e1,i1,e2⟩:=aI.giveS (i:=0) f7 g rfl
    replace e2:aI G b0 (aK 35 o j k d::iR b n::aK 141 K l m e::box b5 139 [zS j d.length k,zM (some b),zS l e.length m,Value.func (.func 71) #[] #[]]::box b4 136 x::L) f6:=e2
    have i2:aI G b0 (aK 35 b0 j k d::iR b n::aK 141 K l m e::box b5 139 [zS j d.length k,zM (some b),zS l e.length m,Value.func (.func 71) #[] #[]]::box b4 136 x::L) f6:=aI.weak (i:=0) e2 rfl (fun _ h=>aK.mono e1 h)
    obtain ⟨e3,i3,a⟩:=aB a
    refine aCe (vs:=[str z,zS a7 J.length a8]) (caps:=[zP (some ⟨b4,0,none⟩),cU a11 u]) (us:=[str z,zS a7 J.length a8,zP (some ⟨b4,0,none⟩),cU a11 u]) rfl call108 rfl rfl (aBQ (Kf:=b0) i2 hG (zR _) i1 (g1.mono (zL g e1)) i3) ?_
    rintro _ j5 ⟨i4,i5,i6,i7,rfl,i8⟩
    exact aZ (bC (aA ⟨b0,e3.1,e3.2.1,e3.2.2,i4,i5,i6,i7,e1,a,d4,d5,d6,d7,d8,b9,(aI.arr 3 [2,0,1] i8 rfl)⟩))
   ·exact aJ e0 rfl (bA (bC (aA ⟨o,d,n,e,j,k,l,m,(zR _),a,d4,d5,d6,d7,d8,b9,(aI.arr 4 [3,1,2] f7 rfl)⟩)))
  ·refine aJ d9 rfl (cA (aT (aT ?_)))
   have i9:=g8 _ (zI a).symm
   subst i9
   have c:(iY d n e)=some R:=c
   exact bJ (aA ⟨o,d,n,e,j,k,l,m,g,c,(aI.arr 3 [2,0,1] c0 rfl)⟩)
theorem aDe {e2:(List Int)} {d0:cG} {k5:Nat} {R:(cG × (List (List Int)) × Bool)} (hs:aI G K (L) w) (hG:G.lo=0) (h3:cX K a1 c2 e2) (h6:kK K a4 k5 (zC d0 a7 c8 a10 c11)) (h9:cX K a7 c8 d0.L) (n4:cX K a10 c11 d0.E) (c:lS e2 d0=some R):
  Calls Tryz.prog 70 ([zS a1 e2.length c2,Value.func (.func 71) #[] #[],Value.func (.func 73) #[] #[cU a4 k5]]:List Value).toArray w (gK fun v w'=>∃ (K':Hp) (j1:Option Addr) (j2:Nat) (j3:Option Addr) (j4:Nat) (j5:Option Addr) (j6:Nat),v=zT #[zA (zCa R.1 j1 j2 j3 j4),zS j5 R.2.1.length j6,zB R.2.2]∧Hp.le K K'∧aI G K' (aK 9 K j1 j2 R.1.L::aK 69 K j3 j4 R.1.E::aK 35 K' j5 j6 R.2.1::L) w'):=by
 let k:=zG
 refine aW func70 rfl (by kernel_rfl) (by show (3:Nat)≤73;decide) ?_
 unfold lS at c
 refine aL (bW (vs:=k) zeroValue27 hs rfl (fun m z9 n5=>(aF (v:=zS none 0 0) (aF (v:=zB false) (aG (aL (aIn aU Int n5 ?_)))))))
 intro a n6 (n7:aI G K (iR a ([]:(List (aU × Int)))::box m 27 k::L) n6)
 refine aO (v:=Value.func (.func 71) #[] #[]) (aD (dL (vs:=[(1,zM (some a)),(3,Value.func (.func 71) #[] #[])]) (cs:=[zS none 0 0,zM (some a),zS none 0 0,Value.func (.func 71) #[] #[]]) bs_139 rfl (by kernel_rfl)) (iI (v:=zA #[zS none 0 0,zM (some a),zS none 0 0,Value.func (.func 71) #[] #[]]) (vs:=[zS none 0 0,zM (some a),zS none 0 0,Value.func (.func 71) #[] #[]]) n7 rfl rfl (fun b w20 n8=>(bW (vs:=[zP none]) zeroValue136 n8 rfl (fun l w23 n9=>(bY (i:=0) (ns:=[zP (some ⟨b,0,none⟩)]) (us:=[zP (some ⟨b,0,none⟩)]) sizeOf136 n9 rfl rfl rfl rfl rfl (dE rfl) rfl rfl ?_))))))
 intro j7 (j8:aI G K (box l 136 [zP (some ⟨b,0,none⟩)]::box b 139 [zS none 0 0,zM (some a),zS none 0 0,Value.func (.func 71) #[] #[]]::iR a ([]:(List (aU × Int)))::box m 27 k::L) j7)
 refine aG (aL (aD (dS aCh j8 (i:=0) rfl rfl rfl) (aO (v:=zS a1 e2.length c2) ?_)))
 have o0:=aI.nil (α:=(List Int)) j8 35 K
 have o1:=aI.nil (α:=oO) o0 141 K
 have o2:aI G K (aK 35 K none 0 ([]:List (List Int))::iR a ([]:(List (aU × Int)))::aK 141 K none 0 ([]:List oO)::box b 139 [zS none 0 0,zM (some a),zS none 0 0,Value.func (.func 71) #[] #[]]::box l 136 [zP (some ⟨b,0,none⟩)]::box m 27 k::L) j7:=(aI.arr 5 [1,4,0,3,2] o1 rfl)
 obtain ⟨g4,o3,c⟩:=aB c
 refine aS (vs:=[zP (some ⟨b,0,none⟩),zS a1 e2.length c2]) call107 rfl (jT (Kf:=K) o2 hG (zR _) h3 o3) ?_
 rintro _ w34 ⟨g5,g6,rfl,o4⟩
 refine aG (aQ (aL (bW (vs:=[i64 0]) zeroValue3 o4 rfl (fun j9 w37 o5=>(bY (i:=0) (ns:=[i64 0]) (us:=[i64 0]) sizeOf3 o5 rfl rfl rfl rfl rfl (dE rfl) rfl rfl (fun o6 (o7:aI G K (box j9 3 [i64 0]::aK 35 K g5 g6 g4.2.1::iR a g4.2.2::aK 141 K none 0 ([]:List oO)::box b 139 [zS g5 g4.2.1.length g6,zM (some a),zS none 0 0,Value.func (.func 71) #[] #[]]::box l 136 [zP (some ⟨b,0,none⟩)]::box m 27 k::L) o6)=>(aG (bB (fun f w=>∃ (Z:Hp) (o:List (List Int)) (d1:(List (aU × Int))) (p:List oO) (a0:Option Addr) (c45:Nat) (x:Option Addr) (y:Nat),Hp.le K Z∧iE o d1 p=some R∧f 6=zP (some ⟨m,0,none⟩)∧f 9=zP (some ⟨l,0,none⟩)∧aI G Z (aK 141 K x y p::aK 35 Z a0 c45 o::iR a d1::box b 139 [zS a0 o.length c45,zM (some a),zS x p.length y,Value.func (.func 71) #[] #[]]::box l 136 [zP (some ⟨b,0,none⟩)]::box m 27 k::L) w) ?_ ?_))))))))
 ·rintro f w52 ⟨Z,o,d1,p,a0,c45,x,y,b6,c,g7,d9,o8⟩
  unfold iE at c
  refine aA (aQ (cN (fun f w=>∃ (b7:Int) (b8:Int) (a3:List aU) (a5:List Edge) (g8:Nat) (a6:Option Addr) (a8:Nat) (a9:Option Addr) (b0:Nat),mA o b7 b8 a3 a5=some R∧f 6=zP (some ⟨m,0,none⟩)∧f 9=zP (some ⟨l,0,none⟩)∧f 12=zP (some ⟨g8,0,none⟩)∧aI G Z (aK 69 K a9 b0 a5::aK 9 K a6 a8 a3::box g8 27 [i64 b7,i64 b8,zS a6 a3.length a8,zS a9 a5.length b0]::aK 141 K x y p::aK 35 Z a0 c45 o::iR a d1::box b 139 [zS a0 o.length c45,zM (some a),zS x p.length y,Value.func (.func 71) #[] #[]]::box l 136 [zP (some ⟨b,0,none⟩)]::box m 27 k::L) w) ?_ ?_))
  ·rintro f w66 ⟨b7,b8,a3,a5,g8,a6,a8,a9,b0,c,k0,o9,k1,p0⟩
   unfold mA at c
   refine aA (aQ ?_)
   obtain ⟨K68,k2,k3,p1,p2⟩:=aI.lendB (i:=2) p0 rfl
   obtain ⟨K73,f8,p3,p4,p5⟩:=aI.lendB (i:=5) p1 rfl
   obtain ⟨k4,e3,p6,k6,p7⟩:=aI.lendB (i:=5) p4 rfl
   refine fK (C:=fun w'=>∃ L',aI G k4 L' w') [(0,0),(1,0),(2,0),(3,0),(4,0),(5,1),(6,1),(7,1),(8,2),(9,2)] bZ (by kernel_rfl) (fun _ hg=>⟨_,aI.mono k6 hg⟩) (fun w83 p8=>?_)
   have c3:=aI.mono k6 p8
   refine bS rfl (fun _ ⟨_,c3⟩=>gT (t:=0) (vs:=[i64 b7,i64 b8,zS a6 a3.length a8,zS a9 a5.length b0]) dJ c3 (k3.mono (zL f8 e3)) k1 rfl rfl) (bS rfl (fun _ ⟨_,c3⟩=>bH (t:=0) aCh c3 p6 o9 rfl) (bS rfl (fun _ _=>kA rfl) (bS rfl (fun _ _=>bT (t':=0) aAP rfl rfl) (bS rfl (fun _ ⟨_,c3⟩=>bH (t:=0) aIw c3 (p3.mono e3) rfl rfl) (kY rfl (aD (gT (t:=0) (vs:=[i64 b7,i64 b8,zS a6 a3.length a8,zS a9 a5.length b0]) dJ c3 (k3.mono (zL f8 e3)) k1 rfl rfl) (aZ (aA ⟨⟨_,c3⟩,?_⟩))))))))
   refine kY rfl ?_
   obtain ⟨K87,p9,q0,q1,q2⟩:=aI.lendS (i:=1) c3 (zL (zL (zL b6 k2) f8) e3) rfl
   obtain ⟨K92,q3,q4,q5,q6⟩:=aI.lendS (i:=0) q1 (zL (zL (zL (zL b6 k2) f8) e3) p9) rfl
   obtain ⟨q7,q8,c⟩:=aB c
   refine aS (vs:=[zA #[i64 b7,i64 b8,zS a6 a3.length a8,zS a9 a5.length b0]]) call34 rfl (lP (t:=⟨b7,b8,a3,a5⟩) q5 hG (q0.mono q3) q4 q8) ?_
   rintro _ w99 ⟨rfl,q9⟩
   have r0:=q6 _ _ q9
   have k7:=q2 _ _ r0
   refine aZ (aA ⟨⟨_,k7⟩,?_⟩)
   refine kY rfl (bY (i:=5) (ns:=[i64 b7,i64 b8,zS a6 a3.length a8,zS a9 a5.length b0]) (us:=[i64 b7,i64 b8,zS a6 a3.length a8,zS a9 a5.length b0]) sizeOf27 k7 rfl k0 rfl rfl rfl (dE rfl) rfl rfl (fun r1 (k8:aI G k4 (aK 9 K a6 a8 a3::aK 69 K a9 b0 a5::aK 141 K x y p::aK 35 Z a0 c45 o::iR a d1::box m 27 [i64 b7,i64 b8,zS a6 a3.length a8,zS a9 a5.length b0]::L) r1)=>(aZ (aA ⟨⟨_,k8⟩,?_⟩))))
   have r2:=p7 _ _ k8
   have r3:=p5 _ _ r2
   have k9:=p2 _ _ r3
   refine aGa rfl (aF (v:=zS a0 o.length c45) (aG (aGa rfl (aF (v:=zB q7) (aG (lF (aA ?_)))))))
   obtain rfl:=zI c
   exact bM (aCS results70 (fV (vs:=[i64 b7,i64 b8,zS a6 a3.length a8,zS a9 a5.length b0]) rfl dJ k9 (i:=8) rfl k0 rfl) (qA rfl rfl) (qA rfl rfl) ⟨Z,a6,a8,a9,b0,a0,c45,rfl,b6,(aI.arr 9 [3,4,6] k9 rfl)⟩)
  obtain ⟨a13,d2,g9,r5,h0⟩:=aI.lendB (i:=3) o8 rfl
  obtain ⟨r6,b9,h1,r7,h2⟩:=aI.lendB (i:=3) r5 rfl
  refine zZ (C:=fun w'=>∃ L',aI G r6 L' w') [16] bZ (by kernel_rfl) (fun a14 r8=>?_)
  have e:=aI.mono r7 r8
  refine dZ (i:=0) rfl (by kernel_rfl) ⟨_,e⟩ (fun _ ⟨_,e⟩=>bH (t:=0) aCh e h1 d9 rfl) (dZ (i:=1) rfl (by kernel_rfl) ⟨_,e⟩ (fun _ _=>kA rfl) (dZ (i:=2) rfl (by kernel_rfl) ⟨_,e⟩ (fun _ _=>bT (t':=0) aAP rfl rfl) (dZ (i:=3) rfl (by kernel_rfl) ⟨_,e⟩ (fun _ ⟨_,e⟩=>bH (t:=0) aIw e (g9.mono b9) rfl rfl) (dZ (i:=4) rfl (by kernel_rfl) ⟨_,e⟩ (fun _ _=>bU (len:=o.length) oQ rfl) (dZ (i:=5) rfl (by kernel_rfl) ⟨_,e⟩ (fun _ ⟨_,e⟩=>bH (t:=0) aCh e h1 d9 rfl) (dZ (i:=6) rfl (by kernel_rfl) ⟨_,e⟩ (fun _ _=>kA rfl) (dZ (i:=7) rfl (by kernel_rfl) ⟨_,e⟩ (fun _ _=>bT (t':=2) aDp rfl rfl) (dZ (i:=8) rfl (by kernel_rfl) ⟨_,e⟩ (fun _ ⟨_,e⟩=>bH (t:=2) aIx e (g9.mono b9) rfl rfl) (dZ (i:=10) rfl (by kernel_rfl) ⟨_,e⟩ (fun _ ⟨_,e⟩=>bH (t:=0) aCh e h1 d9 rfl) (dZ (i:=11) rfl (by kernel_rfl) ⟨_,e⟩ (fun _ _=>kA rfl) (dZ (i:=12) rfl (by kernel_rfl) ⟨_,e⟩ (fun _ _=>bT (t':=2) aDp rfl rfl) (dZ (i:=13) rfl (by kernel_rfl) ⟨_,e⟩ (fun _ ⟨_,e⟩=>bH (t:=2) aIx e (g9.mono b9) rfl rfl) (nE (i:=9) (j:=15) (by kernel_rfl) rfl rfl ?_ ?_)))))))))))))
  ·obtain ⟨a15,a16,r9,s0,s1⟩:=aI.lendS (i:=0) e (zL (zL b6 d2) b9) rfl
   obtain ⟨f9,s2,c⟩:=aB c
   refine aS (vs:=[zS x p.length y]) call109 rfl (aEn s0 r9 s2) ?_
   rintro _ a17 ⟨g0,g1,rfl,s3⟩
   have h4:=s1 _ _ s3
   refine aZ (aA ⟨fun _=>⟨_,h4⟩,?_⟩)
   refine nE (i:=14) (j:=15) (by kernel_rfl) rfl rfl ?_ ?_
   ·obtain ⟨a18,s4,s5,s6,s7⟩:=aI.lendS (i:=1) h4 (zL (zL b6 d2) b9) rfl
    obtain ⟨a19,s8,s9,t0,t1⟩:=aI.lendS (i:=0) s6 (zL (zL (zL b6 d2) b9) s4) rfl
    obtain ⟨q,t2,c⟩:=aB c
    refine aS (vs:=[i64 (o.length:Int),i64 0,zS g0 f9.length g1,zS x p.length y]) call74 rfl (aAj t0 (s5.mono s8) s9 t2) ?_
    rintro _ a20 ⟨e4,e5,e6,e7,rfl,t3⟩
    have t4:=t1 _ _ t3
    have l0:=s7 _ _ t4
    refine aZ (aA ⟨fun _=>⟨_,l0⟩,?_⟩)
    refine cB (i:=15) (by kernel_rfl) rfl (bW (vs:=k) zeroValue27 l0 rfl (fun l1 a21 l2=>(aZ (aA ⟨fun _=>⟨_,l2⟩,?_⟩))))
    refine cB (i:=16) (by kernel_rfl) rfl ?_
    have t5:=h2 _ _ l2
    have t6:=h0 _ _ t5
    refine bY (i:=2) (ns:=(zC q e4 e5 e6 e7)) (us:=(zC q e4 e5 e6 e7)) sizeOf27 t6 rfl rfl rfl rfl rfl (dE rfl) rfl rfl (fun t7 (t8:aI G Z (box b 139 [zS a0 o.length c45,zM (some a),zS x p.length y,Value.func (.func 71) #[] #[]]::box l 136 [zP (some ⟨b,0,none⟩)]::box l1 27 (zC q e4 e5 e6 e7)::aK 9 K g0 g1 f9::aK 141 K x y p::aK 9 K e4 e5 q.L::aK 69 K e6 e7 q.E::aK 35 Z a0 c45 o::iR a d1::box m 27 k::L) t7)=>(aZ (aA ⟨aFG rfl,?_⟩)))
    exact gL (by kernel_rfl) (aA ⟨q.N,q.I,q.L,q.E,l1,e4,e5,e6,e7,c,g7,d9,rfl,(aI.arr 9 [6,5,2,4,7,8,0,1] t8 rfl)⟩)
   ·refine bW (vs:=k) zeroValue27 h4 rfl (fun l3 a22 l4=>(aZ (aA ⟨fun _=>⟨_,l4⟩,?_⟩)))
    refine cB (i:=14) (by kernel_rfl) rfl ?_
    obtain ⟨a23,t9,u0,u1,u2⟩:=aI.lendS (i:=2) l4 (zL (zL b6 d2) b9) rfl
    obtain ⟨a24,u3,u4,u5,u6⟩:=aI.lendS (i:=1) u1 (zL (zL (zL b6 d2) b9) t9) rfl
    obtain ⟨r,u7,c⟩:=aB c
    refine aS (vs:=[i64 (o.length:Int),i64 0,zS g0 f9.length g1,zS x p.length y]) call74 rfl (aAj u5 (u0.mono u3) u4 u7) ?_
    rintro _ a25 ⟨e8,e9,f0,f1,rfl,u8⟩
    have u9:=u6 _ _ u8
    have l5:=u2 _ _ u9
    refine aZ (aA ⟨fun _=>⟨_,l5⟩,?_⟩)
    refine cB (i:=16) (by kernel_rfl) rfl ?_
    have v0:=h2 _ _ l5
    have v1:=h0 _ _ v0
    refine bY (i:=6) (ns:=(zC r e8 e9 f0 f1)) (us:=(zC r e8 e9 f0 f1)) sizeOf27 v1 rfl rfl rfl rfl rfl (dE rfl) rfl rfl (fun v2 (v3:aI G Z (box b 139 [zS a0 o.length c45,zM (some a),zS x p.length y,Value.func (.func 71) #[] #[]]::box l 136 [zP (some ⟨b,0,none⟩)]::aK 9 K g0 g1 f9::aK 141 K x y p::aK 9 K e8 e9 r.L::aK 69 K f0 f1 r.E::box l3 27 (zC r e8 e9 f0 f1)::aK 35 Z a0 c45 o::iR a d1::box m 27 k::L) v2)=>(aZ (aA ⟨aFG rfl,?_⟩)))
    exact gL (by kernel_rfl) (aA ⟨r.N,r.I,r.L,r.E,l3,e8,e9,f0,f1,c,g7,d9,rfl,(aI.arr 9 [5,4,6,3,7,8,0,1] v3 rfl)⟩)
  ·refine bW (vs:=k) zeroValue27 e rfl (fun l6 a26 l7=>(aZ (aA ⟨fun _=>⟨_,l7⟩,?_⟩)))
   refine cB (i:=9) (by kernel_rfl) rfl ?_
   obtain ⟨a27,a28,v4,v5,v6⟩:=aI.lendS (i:=1) l7 (zL (zL b6 d2) b9) rfl
   obtain ⟨l8,v7,c⟩:=aB c
   refine aS (vs:=[zS x p.length y]) call109 rfl (aEn v5 v4 v7) ?_
   rintro _ a29 ⟨l9,m0,rfl,v8⟩
   have m1:=v6 _ _ v8
   refine aZ (aA ⟨fun _=>⟨_,m1⟩,?_⟩)
   refine cB (i:=14) (by kernel_rfl) rfl ?_
   obtain ⟨a30,v9,w0,w1,w2⟩:=aI.lendS (i:=1) m1 (zL (zL b6 d2) b9) rfl
   obtain ⟨a31,w3,w4,w5,w6⟩:=aI.lendS (i:=0) w1 (zL (zL (zL b6 d2) b9) v9) rfl
   obtain ⟨u,w7,c⟩:=aB c
   refine aS (vs:=[i64 (o.length:Int),i64 0,zS l9 l8.length m0,zS x p.length y]) call74 rfl (aAj w5 (w0.mono w3) w4 w7) ?_
   rintro _ a33 ⟨f2,f3,f4,f5,rfl,w8⟩
   have w9:=w6 _ _ w8
   have m2:=w2 _ _ w9
   refine aZ (aA ⟨fun _=>⟨_,m2⟩,?_⟩)
   refine cB (i:=16) (by kernel_rfl) rfl ?_
   have x0:=h2 _ _ m2
   have x1:=h0 _ _ x0
   refine bY (i:=6) (ns:=(zC u f2 f3 f4 f5)) (us:=(zC u f2 f3 f4 f5)) sizeOf27 x1 rfl rfl rfl rfl rfl (dE rfl) rfl rfl (fun x2 (x3:aI G Z (box b 139 [zS a0 o.length c45,zM (some a),zS x p.length y,Value.func (.func 71) #[] #[]]::box l 136 [zP (some ⟨b,0,none⟩)]::aK 9 K l9 m0 l8::aK 141 K x y p::aK 9 K f2 f3 u.L::aK 69 K f4 f5 u.E::box l6 27 (zC u f2 f3 f4 f5)::aK 35 Z a0 c45 o::iR a d1::box m 27 k::L) x2)=>(aZ (aA ⟨aFG rfl,?_⟩)))
   exact gL (by kernel_rfl) (aA ⟨u.N,u.I,u.L,u.E,l6,f2,f3,f4,f5,c,g7,d9,rfl,(aI.arr 9 [5,4,6,3,7,8,0,1] x3 rfl)⟩)
 have x4:=aI.nil (α:=oO) o7 141 K
 obtain ⟨a34,x5,c⟩:=aB c
 refine cE x5 (fun (s:(List (List Int) × (List (aU × Int)) × List oO × Int)) f w=>match s with|(J,c4,a2,b1)=>∃ (d3:Hp) (b2:Option Addr) (b3:Nat) (b4:Option Addr) (b5:Nat) (d4:Nat),Hp.le K d3∧f 2=Value.func (.func 73) #[] #[cU a4 k5]∧f 6=zP (some ⟨m,0,none⟩)∧f 9=zP (some ⟨l,0,none⟩)∧f 10=zP (some ⟨d4,0,none⟩)∧aI G d3 (aK 141 K b4 b5 a2::box d4 3 [i64 b1]::aK 35 d3 b2 b3 J::iR a c4::box b 139 [zS b2 J.length b3,zM (some a),zS b4 a2.length b5,Value.func (.func 71) #[] #[]]::box l 136 [zP (some ⟨b,0,none⟩)]::box m 27 k::L) w) ?_ ?_
 ·exact ⟨K,g5,g6,none,0,j9,(zR _),rfl,rfl,rfl,rfl,(aI.arr 5 [0,1,2,3] x4 rfl)⟩
 ·rintro ⟨J,c4,a2,b1⟩ m3 f a35 n m4 ⟨d3,b2,b3,b4,b5,d4,e0,h5,h7,d5,f6,c0⟩
  replace n:dN d0 J c4 a2 b1=some m3:=n
  unfold dN at n
  refine aQ (aQ (eR (C:=fun w'=>aI G d3 (aK 141 K b4 b5 a2::box d4 3 [i64 b1]::aK 35 d3 b2 b3 J::iR a c4::box b 139 [zS b2 J.length b3,zM (some a),zS b4 a2.length b5,Value.func (.func 71) #[] #[]]::box l 136 [zP (some ⟨b,0,none⟩)]::box m 27 k::L) w') bZ (by kernel_rfl) (aI.mono c0 (eC.drew _)) (bF (fun _ c0=>dS sc_3 c0 (i:=1) rfl f6 rfl) (bF (fun _ c0=>dS aCh c0 (i:=5) rfl d5 rfl) (bF (fun _ c0=>kA rfl) (bF (fun _ c0=>bT (t':=0) aAP rfl rfl) (bF (fun _ c0=>dS aIw c0 (i:=4) rfl rfl rfl) (bF (fun _ c0=>bU (len:=J.length) oQ rfl) (bF (fun _ c0=>cL rfl rfl) (fE (fun x6 m5=>(aA ?_))))))))))))
  rcases aH n with ⟨h8,n⟩|⟨h8,n⟩
  ·refine aM h8 rfl (bA (aA (aQ (cY (aQ ?_)))))
   obtain ⟨d6,d7,i0,i1,_⟩:=aI.lendB (i:=1) m5 rfl
   replace i1:aI G d6 (aK 141 K b4 b5 a2::aK 35 d3 b2 b3 J::iR a c4::box b 139 [zS b2 J.length b3,zM (some a),zS b4 a2.length b5,Value.func (.func 71) #[] #[]]::box l 136 [zP (some ⟨b,0,none⟩)]::box m 27 k::L) x6:=i1
   refine zZ (C:=fun w'=>∃ L',aI G d6 L' w') [] bZ (by kernel_rfl) (fun m6 x7=>?_)
   have z:=aI.mono i1 x7
   refine dZ (i:=0) rfl (by kernel_rfl) ⟨_,z⟩ (fun _ _=>bE h5) (dZ (i:=5) rfl (by kernel_rfl) ⟨_,z⟩ (fun _ ⟨_,z⟩=>bH (t:=0) sc_3 z i0 (iQ f6) rfl) (dZ (i:=8) rfl (by kernel_rfl) ⟨_,z⟩ (fun _ _=>aIh (vs:=[zP (some ⟨l,0,none⟩),cU (some ⟨d4,0,none⟩) 0]) (lst2 d5 (iQ f6))) (cB (i:=1) (by kernel_rfl) rfl (aD (dS aCh z (i:=4) rfl d5 rfl) (aZ (aA ⟨fun _=>⟨_,z⟩,?_⟩))))))
   refine dZ (i:=2) rfl (by kernel_rfl) ⟨_,z⟩ (fun _ _=>kA rfl) (dZ (i:=3) rfl (by kernel_rfl) ⟨_,z⟩ (fun _ _=>bT (t':=0) aAP rfl rfl) (cB (i:=4) (by kernel_rfl) rfl (aD (dS aIw z (i:=3) rfl rfl rfl) (aZ (aA ⟨fun _=>⟨_,z⟩,?_⟩)))))
   obtain ⟨i2,i3,n⟩:=aB n
   have x8:=dA z (i:=1) rfl i3
   refine dZ (i:=6) rfl (by kernel_rfl) ⟨_,z⟩ (fun _ _=>dT oQ rfl x8 rfl rfl rfl i3) (cB (i:=7) (by kernel_rfl) rfl ?_)
   obtain ⟨a36,x9,y0⟩:=aIk (sz:=1) rfl z (i:=1) rfl i3
   obtain ⟨i4,i5,rfl,y1⟩:=y0
   refine aD (R_ldC (t:=0) (v:=zS i4 i2.length i5) aIt x9 rfl rfl) (aZ (aA ⟨fun _=>⟨_,z⟩,?_⟩))
   refine cB (i:=9) (by kernel_rfl) rfl ?_
   have y2:aI G d6 (aK 141 K b4 b5 a2::aK 35 d6 b2 b3 J::iR a c4::box b 139 [zS b2 J.length b3,zM (some a),zS b4 a2.length b5,Value.func (.func 71) #[] #[]]::box l 136 [zP (some ⟨b,0,none⟩)]::box m 27 k::L) m6:=aI.weak (i:=1) z rfl (fun _ h=>aK.mono d7 h)
   have y3:aI G d6 (aK 35 d6 b2 b3 J::iR a c4::aK 141 K b4 b5 a2::box b 139 [zS b2 J.length b3,zM (some a),zS b4 a2.length b5,Value.func (.func 71) #[] #[]]::box l 136 [zP (some ⟨b,0,none⟩)]::box m 27 k::L) m6:=(aI.arr 3 [1,2,0] y2 rfl)
   obtain ⟨d,y4,n⟩:=aB n
   refine aCe (vs:=[zS i4 i2.length i5,Value.func (.func 108) #[] #[zP (some ⟨l,0,none⟩),cU (some ⟨d4,0,none⟩) 0]]) (caps:=[cU a4 k5]) (us:=[zS i4 i2.length i5,Value.func (.func 108) #[] #[zP (some ⟨l,0,none⟩),cU (some ⟨d4,0,none⟩) 0],cU a4 k5]) rfl call73 rfl rfl (aCM (Kf:=d6) y3 hG (zR _) (y1.mono d7) i0 (h6.mono (zL e0 d7)) (h9.mono (zL e0 d7)) (n4.mono (zL e0 d7)) y4) ?_
   rintro _ a37 ⟨c1,c5,c6,c7,c9,rfl,f7,e1⟩
   refine aZ (aA ⟨fun _=>⟨_,(aI.weakK e1 f7)⟩,?_⟩)
   refine dZ (i:=10) rfl (by kernel_rfl) ⟨_,(aI.weakK e1 f7)⟩ (fun _ _=>dV (v:=zB d.1) rfl) (gL (by kernel_rfl) (aA (aQ (cN (fun f w=>∃ (i6:Bool),jR b1 d i6=some m3∧f 2=Value.func (.func 73) #[] #[cU a4 k5]∧f 6=zP (some ⟨m,0,none⟩)∧f 9=zP (some ⟨l,0,none⟩)∧f 10=cU (some ⟨d4,0,none⟩) 0∧f 48=zB i6∧aI G c1 (aK 35 c1 c5 c6 d.2.1::iR a d.2.2.1::aK 141 K c7 c9 d.2.2.2::box b 139 [zS c5 d.2.1.length c6,zM (some a),zS c7 d.2.2.2.length c9,Value.func (.func 71) #[] #[]]::box l 136 [zP (some ⟨b,0,none⟩)]::box m 27 k::L) w) ?_ ?_))))
   ·rintro f a38 ⟨i6,n,y5,i7,y6,y7,m7,i8⟩
    unfold jR at n
    refine aA ?_
    rcases aH n with ⟨i9,n⟩|⟨i9,n⟩
    ·refine aM i9 m7 (aL (aD (dL (vs:=[]) (cs:=k) rW rfl (by kernel_rfl)) (bY (i:=5) (ns:=k) (us:=k) sizeOf27 i8 rfl i7 rfl rfl rfl (dE rfl) rfl rfl (fun y8 (y9:aI G c1 (aK 35 c1 c5 c6 d.2.1::iR a d.2.2.1::aK 141 K c7 c9 d.2.2.2::box b 139 [zS c5 d.2.1.length c6,zM (some a),zS c7 d.2.2.2.length c9,Value.func (.func 71) #[] #[]]::box l 136 [zP (some ⟨b,0,none⟩)]::box m 27 k::L) y8)=>(aF (v:=zS none 0 0) (aF (v:=zB false) (aG (bM (bV (aV (aV ?_)))))))))))
     have z0:=m4 _ (zI n).symm
     subst z0
     have c:(some (⟨0,0,[],[]⟩,[],false))=some R:=c
     have z1:=aI.nil (α:=aU) y9 9 K
     have z2:=aI.nil (α:=Edge) z1 69 K
     have m8:=aI.nil (α:=(List Int)) z2 35 c1
     obtain rfl:=zI c
     exact bV (aV (aV (aCS results70 (fV (vs:=k) rfl dJ m8 (i:=8) rfl i7 rfl) (qA rfl rfl) (qA rfl rfl) ⟨c1,none,0,none,0,none,0,rfl,(zL (zL e0 d7) f7),(aI.arr 9 [2,1,0] m8 rfl)⟩)))
    ·exact aJ i9 m7 (bA (bC (aA (aQ (aL (aD (bH (t:=0) sc_3 i8 (i0.mono f7) y7 rfl) (aG (aP (bW (vs:=[i64 0]) zeroValue3 i8 rfl (fun j0 a39 z4=>(bY (i:=0) (ns:=[i64 b1]) (us:=[i64 b1]) sizeOf3 z4 rfl rfl rfl rfl rfl (dE rfl) rfl rfl (fun z5 (m9:aI G c1 (box j0 3 [i64 b1]::aK 35 c1 c5 c6 d.2.1::iR a d.2.2.1::aK 141 K c7 c9 d.2.2.2::box b 139 [zS c5 d.2.1.length c6,zM (some a),zS c7 d.2.2.2.length c9,Value.func (.func 71) #[] #[]]::box l 136 [zP (some ⟨b,0,none⟩)]::box m 27 k::L) z5)=>(aG (aP (aD (dS sc_3 m9 (i:=0) rfl rfl rfl) (aD (cP rfl rfl) (bY (i:=0) (ns:=[i64 (wr (b1+1))]) (us:=[i64 (wr (b1+1))]) sizeOf3 m9 rfl rfl rfl rfl rfl (dE rfl) rfl rfl (fun z6 (z7:aI G c1 (box j0 3 [i64 (wr (b1+1))]::aK 35 c1 c5 c6 d.2.1::iR a d.2.2.1::aK 141 K c7 c9 d.2.2.2::box b 139 [zS c5 d.2.1.length c6,zM (some a),zS c7 d.2.2.2.length c9,Value.func (.func 71) #[] #[]]::box l 136 [zP (some ⟨b,0,none⟩)]::box m 27 k::L) z6)=>(aG ⟨(d.2.1,d.2.2.1,d.2.2.2,wr (b1+1)),(zI n).symm,c1,c5,c6,c7,c9,j0,(zL (zL e0 d7) f7),y5,i7,y6,rfl,(aI.arr 4 [3,0,1,2] z7 rfl)⟩)))))))))))))))))))
   refine aP (aO (v:=zB d.1) (aD (eJ rfl) (aO (v:=zB (!d.1)) ?_)))
   rcases aH n with ⟨V,n⟩|⟨V,n⟩
   ·exact aX V rfl rfl (aX V rfl rfl (aX V rfl rfl (aX V rfl rfl (aX V rfl rfl (aX V rfl rfl (aD (bL (v:=zB true) V rfl rfl) (aG ⟨true,n,h5,h7,d5,(iQ f6),rfl,e1⟩)))))))
   ·exact bG V rfl rfl (aD (dS aCh e1 (i:=4) rfl d5 rfl) (bG V rfl rfl (aD (kA rfl) (bG V rfl rfl (aD (bT (t':=0) aAP rfl rfl) (bG V rfl rfl (aD (dS aIw e1 (i:=3) rfl rfl rfl) (bG V rfl rfl (aD (bU (len:=d.2.1.length) oQ rfl) (bG V rfl rfl (aD (kZ rfl rfl) (aD (bK (v:=zB (decide (40 < (d.2.1.length:Int)))) V rfl rfl) (aG ⟨decide (40 < (d.2.1.length:Int)),n,h5,h7,d5,(iQ f6),rfl,e1⟩)))))))))))))
  ·refine aJ h8 rfl (cA (aT (aT ?_)))
   have z8:=m4 _ (zI n).symm
   subst z8
   have c:(iE J c4 a2)=some R:=c
   exact bJ (aA ⟨d3,J,c4,a2,b2,b3,b4,b5,e0,c,h7,d5,(aI.arr 2 [0] m5 rfl)⟩)
theorem jU {t:cG} {R:(cG × (List (List Int)) × Bool)} (hs:aI G K (L) w) (hG:G.lo=0) (h3:cX K a1 c2 t.L) (h6:cX K a4 c5 t.E) (c:gO t=some R):
  Calls Tryz.prog 37 ([zA (zCa t a1 c2 a4 c5)]:List Value).toArray w (gK fun v w'=>∃ (K':Hp) (b0:Option Addr) (b1:Nat) (b2:Option Addr) (b3:Nat) (b4:Option Addr) (b5:Nat),v=zT #[zA (zCa R.1 b0 b1 b2 b3),zS b4 R.2.1.length b5,zB R.2.2]∧Hp.le K K'∧aI G K' (aK 9 K b0 b1 R.1.L::aK 69 K b2 b3 R.1.E::aK 35 K' b4 b5 R.2.1::L) w'):=by
 let d:=zG
 let V:=(zC t a1 c2 a4 c5)
 refine aW func37 rfl (by kernel_rfl) (by show (1:Nat)≤30;decide) ?_
 unfold gO at c
 refine aL (iI (v:=zA (zCa t a1 c2 a4 c5)) (vs:=V) hs rfl rfl (fun Z w8 d6=>(bW (vs:=d) zeroValue27 d6 rfl (fun r i4 a3=>(aF (v:=zS none 0 0) (aF (v:=zB false) (aG (aL (aD (eI (us:=V) dJ a3 (i:=1) rfl rfl rfl rfl) (aD (bT (t':=1) oP rfl rfl) (aD (dS cK a3 (i:=1) rfl rfl rfl) (bR (Kt:=K) (xs:=([t.I]:List Int)) (cs:=[i64 t.I]) (vs:=[(0,i64 t.I)]) cF jC rfl rfl a3 rfl (by kernel_rfl) rfl rfl rfl ⟨rfl,trivial⟩ (fun p d7 (d8:aI G K (aK 2 K p 1 ([t.I]:List Int)::box r 27 d::box Z 27 V::L) d7)=>?_)))))))))))))
 obtain ⟨i5,b6,d9,e0,e1⟩:=aI.lendS (i:=0) d8 (zR _) rfl
 obtain ⟨e2,e3,c⟩:=aB c
 refine aS (vs:=[zA (zCa t a1 c2 a4 c5),zS p ([t.I]:List Int).length 1]) call68 rfl (uX e0 (h3.mono b6) (h6.mono b6) d9 e3) ?_
 rintro _ b8 ⟨e4,e5,rfl,e6⟩
 have e7:=e1 _ _ e6
 refine aD (aIh (vs:=[zP (some ⟨Z,0,none⟩)]) rfl) ?_
 obtain ⟨e8,l,e9,a5⟩:=aI.giveS (i:=1) e7 (zR _) rfl
 replace a5:aI G e8 (aK 2 K p 1 ([t.I]:List Int)::box r 27 d::box Z 27 V::L) b8:=a5
 obtain ⟨f0,k,a6,a7,_⟩:=aI.lendB (i:=2) a5 rfl
 replace a7:aI G f0 (aK 2 K p 1 ([t.I]:List Int)::box r 27 d::L) b8:=a7
 obtain ⟨a,f1,c⟩:=aB c
 refine aS (vs:=[zS e4 e2.length e5,Value.func (.func 71) #[] #[],Value.func (.func 73) #[] #[cU (some ⟨Z,0,none⟩) 0]]) call70 rfl (aDe a7 hG (e9.mono k) a6 (h3.mono (zL l k)) (h6.mono (zL l k)) f1) ?_
 rintro _ i6 ⟨m,e,g,h,j,n,c45,rfl,o,f2⟩
 refine aO (v:=zT #[zA (zCa a.1 e g h j),zS n a.2.1.length c45,zB a.2.2]) (aD (bQ rfl rfl) (aD (bQ rfl rfl) (aD (bQ rfl rfl) (bW (vs:=d) zeroValue27 f2 rfl (fun b9 i7 f3=>(bY (i:=0) (ns:=(zC a.1 e g h j)) (us:=(zC a.1 e g h j)) sizeOf27 f3 rfl rfl rfl rfl rfl (dE rfl) rfl rfl (fun f4 (c0:aI G m (box b9 27 (zC a.1 e g h j)::aK 9 K e g a.1.L::aK 69 K h j a.1.E::aK 35 m n c45 a.2.1::aK 2 K p 1 ([t.I]:List Int)::box r 27 d::L) f4)=>(aF (v:=zS n a.2.1.length c45) (aF (v:=zB a.2.2) (aG (aQ (aL (aO (v:=zB a.2.2) (aD (eJ rfl) (aG ?_)))))))))))))))
 rcases aH c with ⟨a8,c⟩|⟨a8,c⟩
 ·refine aM a8 rfl (aL (aD (dL (vs:=[]) (cs:=d) rW rfl (by kernel_rfl)) (bY (i:=5) (ns:=d) (us:=d) sizeOf27 c0 rfl rfl rfl rfl rfl (dE rfl) rfl rfl (fun f5 (f6:aI G m (box b9 27 (zC a.1 e g h j)::aK 9 K e g a.1.L::aK 69 K h j a.1.E::aK 35 m n c45 a.2.1::aK 2 K p 1 ([t.I]:List Int)::box r 27 d::L) f5)=>(aF (v:=zS none 0 0) (aF (v:=zB false) (aG ?_)))))))
  have f7:=aI.nil (α:=aU) f6 9 K
  have f8:=aI.nil (α:=Edge) f7 69 K
  have c1:=aI.nil (α:=(List Int)) f8 35 m
  obtain rfl:=zI c
  exact bM (aV (aCS results37 (fV (vs:=d) rfl dJ c1 (i:=8) rfl rfl rfl) (qA rfl rfl) (qA rfl rfl) ⟨m,none,0,none,0,none,0,rfl,(zL (zL l k) o),(aI.arr 9 [2,1,0] c1 rfl)⟩))
 ·refine aJ a8 rfl (bA (aA (aQ ?_)))
  obtain ⟨c3,u,c4,c6,g0⟩:=aI.lendB (i:=0) c0 rfl
  refine fK (C:=fun w'=>∃ L',aI G c3 L' w') [(0,0),(1,0),(2,0),(3,0),(4,0),(7,0),(5,1),(6,1),(8,1),(9,2),(10,2)] bZ (by kernel_rfl) (fun _ hg=>⟨_,aI.mono c6 hg⟩) (fun i8 g1=>?_)
  have q:=aI.mono c6 g1
  refine bS rfl (fun _ _=>bT (t':=0) gS rfl rfl) (bS rfl (fun _ ⟨_,q⟩=>bH (t:=0) cK q c4 rfl rfl) (bS rfl (fun _ _=>bO (k':=0+2) fL (iQ rfl) (a6.mono (zL o u)) rfl) (bS rfl (fun _ ⟨_,q⟩=>bH (t:=2) iT q (a6.mono (zL o u)) rfl rfl) (bS rfl (fun _ ⟨_,q⟩=>gT (t:=0) (vs:=(zC a.1 e g h j)) dJ q c4 rfl rfl rfl) (bS rfl (fun _ _=>bE (v:=zS n a.2.1.length c45) rfl) (kY rfl ?_))))))
  obtain ⟨i9,g2,g3,g4,g5⟩:=aI.lendS (i:=0) q (zL (zL (zL l k) o) u) rfl
  obtain ⟨j0,g6,g7,g8,g9⟩:=aI.lendS (i:=0) g4 (zL (zL (zL (zL l k) o) u) g2) rfl
  obtain ⟨c7,h0,c⟩:=aB c
  refine aS (vs:=[zA (zCa a.1 e g h j)]) call75 rfl (aHL g8 (g3.mono g6) g7 h0) ?_
  rintro _ j1 ⟨c8,c9,rfl,h1⟩
  have h2:=g9 _ _ h1
  have d0:=g5 _ _ h2
  refine aZ (aA ⟨⟨_,d0⟩,?_⟩)
  refine kY rfl ?_
  obtain ⟨j2,h4,h5,h7,h8⟩:=aI.lendS (i:=2) d0 (zL (zL (zL l k) o) u) rfl
  obtain ⟨b,h9,c⟩:=aB c
  refine aS (vs:=[i64 a.1.N,i64 0,zS a1 t.L.length c2,zS c8 c7.length c9]) call74 rfl (aAj h7 (h3.mono (zL (zL (zL (zL l k) o) u) h4)) h5 h9) ?_
  rintro _ j3 ⟨x,y,z,J,rfl,i0⟩
  have d1:=h8 _ _ i0
  refine aZ (aA ⟨⟨_,d1⟩,?_⟩)
  refine kY rfl (bY (i:=7) (ns:=(zC b x y z J)) (us:=(zC b x y z J)) sizeOf27 d1 rfl rfl rfl rfl rfl (dE rfl) rfl rfl (fun i1 (d2:aI G c3 (aK 141 K c8 c9 c7::aK 9 K x y b.L::aK 69 K z J b.E::aK 9 K e g a.1.L::aK 69 K h j a.1.E::aK 35 m n c45 a.2.1::aK 2 K p 1 ([t.I]:List Int)::box r 27 (zC b x y z J)::L) i1)=>(aZ (aA ⟨⟨_,d2⟩,?_⟩))))
  have d3:=g0 _ _ d2
  refine aGa rfl (aF (v:=zS n a.2.1.length c45) (aG (aGa rfl (aF (v:=zB true) (aG (lF (aA ?_)))))))
  obtain rfl:=zI c
  exact bM (aCS results37 (fV (vs:=(zC b x y z J)) rfl dJ d3 (i:=8) rfl rfl rfl) (qA rfl rfl) (qA rfl rfl) ⟨m,x,y,z,J,n,c45,rfl,(zL (zL l k) o),(aI.arr 9 [2,3,6] d3 rfl)⟩)
theorem gY {t:cG} {k:Int} {b:aU} {R:Int} (q:aI G K (L) w) (r:cX K a1 c2 t.L) (u:cX K a4 c5 t.E) (a:tC t k b=some R):
  Calls Tryz.prog 95 ([zA (zCa t a1 c2 a4 c5),i64 k,str b]:List Value).toArray w (gK fun v w'=>v=i64 R∧aI G K (L) w'):=by
 let e:=(zC t a1 c2 a4 c5)
 refine aW func95 rfl (by kernel_rfl) (by show (3:Nat)≤21;decide) ?_
 unfold tC at a
 refine aL (iI (v:=zA (zCa t a1 c2 a4 c5)) (vs:=e) q rfl rfl (fun x w8 g=>(aF (v:=i64 0) (aG (aQ (aL (aO (v:=i64 k) (aD (cL rfl rfl) (aG ?_)))))))))
 rcases aH a with ⟨h,a⟩|⟨h,a⟩
 ·refine aM h rfl (aL (aF (v:=i64 (-1)) (aG ?_)))
  obtain rfl:=zI a
  exact bM (aV (bP results95 rfl ⟨rfl,(aI.arr 1 [] g rfl)⟩))
 ·refine aJ h rfl (bA (aA (aQ (aL (aD (eI (us:=e) dJ g (i:=0) rfl rfl rfl rfl) (aO (v:=i64 k) (bR (Kt:=K) (xs:=([k]:List Int)) (cs:=[i64 k]) (vs:=[(0,i64 k)]) cF jC rfl rfl g rfl (by kernel_rfl) rfl rfl rfl ⟨rfl,trivial⟩ (fun o z (J:aI G K (aK 2 K o 1 ([k]:List Int)::box x 27 e::L) z)=>(aO (v:=str b) ?_)))))))))
  obtain ⟨b0,p,V,Z,a0⟩:=aI.lendS (i:=0) J (zR _) rfl
  obtain ⟨c,a2,a⟩:=aB a
  refine aS (vs:=[zA (zCa t a1 c2 a4 c5),zS o ([k]:List Int).length 1,str b]) call104 rfl (zJ Z (r.mono p) (u.mono p) V a2) ?_
  rintro _ b1 ⟨j,l,rfl,a3⟩
  have d:=a0 _ _ a3
  refine aF (v:=zS j c.length l) (aG (aL (aO (v:=zS j c.length l) (aD (bU (len:=c.length) cF rfl) (aD (kZ rfl rfl) (aG ?_))))))
  rcases aH a with ⟨m,a⟩|⟨m,a⟩
  ·refine aM m rfl (aL (aO (v:=zS j c.length l) ?_))
   obtain ⟨a5,n,a⟩:=aB a
   have a6:=dA d (i:=1) rfl n
   refine aD (dT cF rfl a6 rfl rfl rfl n) (aD (gP (t:=0) cK d (i:=1) rfl n rfl rfl rfl) (aF (v:=i64 a5) (aG ?_)))
   obtain rfl:=zI a
   exact bM (aV (bP results95 rfl ⟨rfl,(aI.arr 3 [] d rfl)⟩))
  ·refine aJ m rfl (bA (aA (aL (aF (v:=i64 (-1)) (aG ?_)))))
   obtain rfl:=zI a
   exact bM (bP results95 rfl ⟨rfl,(aI.arr 3 [] d rfl)⟩)
theorem aDf {p q:Int} {R:Bool} (b:aI G K (L) w) (a:lT p q=some R):
  Calls Tryz.prog 26 ([i64 p,i64 q]:List Value).toArray w (gK fun v w'=>v=zB R∧aI G K (L) w'):=by
 refine aW func26 rfl (by kernel_rfl) (by show (2:Nat)≤7;decide) ?_
 unfold lT at a
 refine aL (aF (v:=zB false) (aG (aL (aO (v:=i64 p) (aD (cL rfl rfl) (aF (v:=zB (decide (p < 0))) (aG ?_)))))))
 obtain rfl:=zI a
 exact bM (bP results26 rfl ⟨rfl,b⟩)
theorem lD {a:(List (List aU))} {R:(List aU)} (hs:aI G K (L) w) (o:cX K a1 c2 a) (b:dB a=some R):
  Calls Tryz.prog 94 ([zS a1 a.length c2]:List Value).toArray w (gK fun v w'=>∃ (a5:Option Addr) (a6:Nat),v=zS a5 R.length a6∧aI G K (aK 9 K a5 a6 R::L) w'):=by
 refine aW func94 rfl (by kernel_rfl) (by show (1:Nat)≤36;decide) ?_
 unfold dB at b
 refine aL (aF (v:=zS none 0 0) (aG (aL (aF (v:=i64 0) (aG (aQ (aL (aO (v:=zS a1 a.length c2) (aD (bU (len:=a.length) aED rfl) (aO (v:=i64 0) (aG (bB (fun f w=>∃ (p:Int),eZ a p=some R∧f 0=zS a1 a.length c2∧f 3=i64 p∧aI G K (L) w) ?_ ?_))))))))))))
 ·rintro f w7 ⟨p,b,e5,e6,c8⟩
  unfold eZ at b
  refine aA (aL (aN e6 ?_))
  obtain ⟨r9,d0,b⟩:=aB b
  refine aS (vs:=[zS none 0 0,i64 p]) call128 rfl (lib_GrowStr c8 (tW (α:=aU) _) d0) ?_
  rintro _ f9 ⟨a7,a8,rfl,d1⟩
  refine aF (v:=zS a7 r9.length a8) (aG (aQ (aL (aN e5 (aD (bU (len:=a.length) aED rfl) (aO (v:=i64 0) (aG (bB (fun f w=>∃ (k:List aU) (l:Option Addr) (m:Nat),fX k=some R∧f 6=zS l k.length m∧aI G K (aK 9 K l m k::L) w) ?_ ?_))))))))
  ·rintro f g0 ⟨k,l,m,b,d2,d3⟩
   unfold fX at b
   refine aA (aL (aN d2 (aF (v:=zS l k.length m) (aG ?_))))
   obtain rfl:=zI b
   exact bM (bP results94 rfl ⟨l,m,rfl,d3⟩)
  obtain ⟨g1,d5,b⟩:=aB b
  refine cE d5 (fun (s:(List aU × Int)) f w=>match s with|(h,n)=>∃ (q:Option Addr) (r:Nat),f 6=zS q h.length r∧f 25=zS a1 a.length c2∧f 26=i64 (a.length:Int)∧f 27=i64 n∧aI G K (aK 9 K q r h::L) w) ?_ ?_
  ·exact ⟨a7,a8,rfl,rfl,rfl,rfl,d1⟩
  ·rintro ⟨h,n⟩ d6 f g2 d d7 ⟨q,r,a9,b0,b1,x,y⟩
   replace d:cH a h n=some d6:=d
   unfold cH at d
   refine aL (aD (cL x b1) (aG (aQ ?_)))
   rcases aH d with ⟨z,d⟩|⟨z,d⟩
   ·refine aM z rfl (bA (aA (aQ (cY (aL ?_)))))
    obtain ⟨b2,b3,d⟩:=aB d
    refine aD (dI aED rfl o b0 rfl x b3) ?_
    obtain ⟨g3,d8,d9⟩:=cX.el (sz:=1) rfl o b3
    obtain ⟨b4,b5,rfl,e0⟩:=d9
    refine aD (bH (t:=0) iT y d8 rfl rfl) (aF (v:=zS b4 b2.length b5) (aG (aP (aN a9 (aO (v:=zS b4 b2.length b5) ?_)))))
    obtain ⟨J,e1,d⟩:=aB d
    exact lW (i:=0) bX underlying24 gJ rfl rfl y rfl (zR _) e0 e1 rfl rfl rfl rfl (fun V Z e2 (e3:aI G K (aK 9 K V Z J::L) e2)=>(aF (v:=zS V J.length Z) (aZ (bC (aA (aP (aD (cP x rfl) (aO (v:=i64 (wr (n+1))) (aG ⟨(J,wr (n+1)),(zI d).symm,V,Z,rfl,b0,b1,rfl,e3⟩)))))))))
   ·refine aJ z rfl (cA (aT (aT ?_)))
    have e4:=d7 _ (zI d).symm
    subst e4
    have b:(fX h)=some R:=b
    exact bJ (aA ⟨h,q,r,b,a9,y⟩)
 obtain ⟨g4,e7,b⟩:=aB b
 refine cE e7 (fun (s:(Int × Int)) f w=>match s with|(e,g)=>f 0=zS a1 a.length c2∧f 3=i64 e∧f 9=zS a1 a.length c2∧f 10=i64 (a.length:Int)∧f 11=i64 g∧aI G K (L) w) ?_ ?_
 ·exact ⟨rfl,rfl,rfl,rfl,rfl,hs⟩
 ·rintro ⟨e,g⟩ b6 f g5 c e8 ⟨b7,b8,b9,c0,a0,a2⟩
  replace c:cD a e g=some b6:=c
  unfold cD at c
  refine aL (aD (cL a0 c0) (aG (aQ ?_)))
  rcases aH c with ⟨a3,c⟩|⟨a3,c⟩
  ·refine aM a3 rfl (bA (aA (aQ (bB (fun f w=>∃ (u:Int),fA g u=some b6∧f 0=zS a1 a.length c2∧f 3=i64 u∧f 9=zS a1 a.length c2∧f 10=i64 (a.length:Int)∧f 11=i64 g∧aI G K (L) w) ?_ ?_))))
   ·rintro f g6 ⟨u,c,e9,f0,f1,f2,f3,f4⟩
    unfold fA at c
    exact aA (aP (aD (cP f3 rfl) (aO (v:=i64 (wr (g+1))) (aG ⟨(u,wr (g+1)),(zI c).symm,e9,f0,f1,f2,rfl,f4⟩))))
   refine aL ?_
   obtain ⟨j,c1,c⟩:=aB c
   refine aD (dI aED rfl o b9 rfl a0 c1) ?_
   obtain ⟨g7,f5,f6⟩:=cX.el (sz:=1) rfl o c1
   obtain ⟨c3,c4,rfl,g8⟩:=f6
   refine aD (bH (t:=0) iT a2 f5 rfl rfl) (aF (v:=zS c3 j.length c4) (aG (aL (aN b8 (aO (v:=zS c3 j.length c4) (aD (bU (len:=j.length) bX rfl) (aD (cP rfl rfl) (aF (v:=i64 (wr (e+(j.length:Int)))) (aG (aL (aO (v:=i64 (wr (e+(j.length:Int)))) (aD (cL rfl rfl) (aG ?_)))))))))))))
   rcases aH c with ⟨a4,c⟩|⟨a4,c⟩
   ·refine aM a4 rfl (aP ?_)
    cases c
   ·exact aJ a4 rfl (bA (bC (aA ⟨wr (e+(j.length:Int)),c,b7,rfl,b9,c0,a0,a2⟩)))
  ·refine aJ a3 rfl (cA (aT (aT ?_)))
   have f7:=e8 _ (zI c).symm
   subst f7
   have b:(eZ a e)=some R:=b
   exact bJ (aA ⟨e,b,b7,b8,a2⟩)
theorem cO {b R:(List aU)} (e:aI G K (L) w) (g:cX K a1 c2 b) (a:eB b=some R):
  Calls Tryz.prog 33 ([zS a1 b.length c2]:List Value).toArray w (gK fun v w'=>∃ (h:Option Addr) (j:Nat),v=zS h R.length j∧aI G K (aK 9 K h j R::L) w'):=by
 refine aW func33 rfl (by kernel_rfl) (by show (1:Nat)≤8;decide) ?_
 unfold eB at a
 refine aL (aF (v:=zS none 0 0) (aG (aQ (aL (aO (v:=zS a1 b.length c2) (aD (R_isNil bX rfl rfl) (aG ?_)))))))
 rcases aKd g with ⟨l,m,n⟩|o
 ·subst l;subst m;subst n
  refine aLq rfl ?_
  replace a:(some [])=some R:=a
  refine aL (aF (v:=zS none 0 0) (aG ?_))
  have p:=aI.nil (α:=aU) e 9 K
  obtain rfl:=zI a
  exact bM (aV (bP results33 rfl ⟨none,0,rfl,p⟩))
 ·refine aLr (Eq.trans rfl (congrArg zB o)) (bA (aA (aL (bR (Kt:=K) (xs:=([]:List aU)) (cs:=[]) (vs:=[]) bX gJ rfl rfl e rfl (by kernel_rfl) rfl rfl rfl trivial (fun r t (u:aI G K (aK 9 K r 0 ([]:List aU)::L) t)=>(aO (v:=zS a1 b.length c2) ?_))))))
  obtain ⟨k,x,a⟩:=aB a
  refine lW (i:=0) bX underlying24 gJ rfl rfl u rfl (zR _) g x rfl rfl rfl rfl (fun c d y (z:aI G K (aK 9 K c d k::L) y)=>(aF (v:=zS c k.length d) (aG ?_)))
  obtain rfl:=zI a
  exact bM (bP results33 rfl ⟨c,d,rfl,z⟩)
theorem aGk {a b:cG} {R:((List aU) × Bool)} (hs:aI G K (L) w) (h3:cX K a1 c2 a.L) (h6:cX K a4 c5 a.E) (h9:cX K a7 c8 b.L) (j9:cX K a10 c11 b.E) (hm:qJ a b=some R):
  Calls Tryz.prog 55 ([zA (zCa a a1 c2 a4 c5),zA (zCa b a7 c8 a10 c11),Value.func (.func 26) #[] #[]]:List Value).toArray w (gK fun v w'=>∃ (K':Hp) (p1:Option Addr) (p2:Nat),v=zT #[zS p1 R.1.length p2,zB R.2]∧Hp.le K K'∧cX K' p1 p2 R.1∧aI G K' (L) w'):=by
 let p3:=(zC b a7 c8 a10 c11)
 let p4:=(zC a a1 c2 a4 c5)
 let p5:=[i64 a.I,i64 b.I,zS none 0 0]
 refine aW func55 rfl (by kernel_rfl) (by show (3:Nat)≤96;decide) ?_
 unfold qJ at hm
 refine aL (iI (v:=zA (zCa a a1 c2 a4 c5)) (vs:=p4) hs rfl rfl (fun d6 t3 t4=>?_))
 obtain ⟨t5,V,f5,k1,_⟩:=aI.lendB (i:=0) t4 rfl
 replace k1:aI G t5 (L) t3:=k1
 refine iI (v:=zA (zCa b a7 c8 a10 c11)) (vs:=p3) k1 rfl rfl (fun d7 t6 t7=>?_)
 obtain ⟨b1,u,f6,f7,_⟩:=aI.lendB (i:=0) t7 rfl
 replace f7:aI G b1 (L) t6:=f7
 refine aF (v:=zS none 0 0) (aF (v:=zB false) (aG (aL (aD (bO (k':=0+2) fL (iQ rfl) (f5.mono u) rfl) (aD (bH (t:=2) iT f7 (f5.mono u) rfl rfl) (aD (bO (k':=0+2) fL (iQ rfl) f6 rfl) (aD (bH (t:=2) iT f7 f6 rfl rfl) (bR (Kt:=b1) (xs:=([a.L,b.L]:List (List aU))) (cs:=[zS a1 a.L.length c2,zS a7 b.L.length c8]) (vs:=[(0,zS a1 a.L.length c2),(1,zS a7 b.L.length c8)]) aED ez_24 rfl rfl f7 rfl (by kernel_rfl) rfl rfl rfl ⟨⟨a1,c2,rfl,(h3.mono (zL V u))⟩,⟨a7,c8,rfl,(h9.mono (zL V u))⟩,trivial⟩ (fun f8 t8 (t9:aI G b1 (aK 24 b1 f8 2 ([a.L,b.L]:List (List aU))::L) t8)=>?_)))))))))
 obtain ⟨K30,a74,u0,u1,u2⟩:=aI.lendS (i:=0) t9 (zR _) rfl
 obtain ⟨i1,u3,hm⟩:=aB hm
 refine aS (vs:=[zS f8 ([a.L,b.L]:List (List aU)).length 2]) call94 rfl (lD u1 u0 u3) ?_
 rintro _ w39 ⟨i2,i3,rfl,u4⟩
 have u5:=u2 _ _ u4
 obtain ⟨K42,a77,u6,u7,u8⟩:=aI.lendS (i:=1) u5 (zL V u) rfl
 obtain ⟨i4,u9,hm⟩:=aB hm
 have hcl:=aAj u7 u6 (tW (α:=oO) _) u9
 refine aS (vs:=[i64 1,i64 0,zS i2 i1.length i3,zS none 0 0]) call74 rfl hcl ?_
 rintro _ v0 ⟨p6,p7,k2,k3,rfl,v1⟩
 have p8:=u8 _ _ v1
 refine aD (R_field (v:=zS p6 i4.L.length p7) fv_27_2 rfl rfl) ?_
 obtain ⟨d,p9,hm⟩:=aB hm
 have v2:=rV p8 (i:=1) rfl
 obtain ⟨l,m,q0⟩:=Cut.ex 1 p6 p7 1
 refine aD (aBm bX v2 q0 rfl rfl rfl p9) ?_
 have v3:aI G b1 (aK 9 K i2 i3 i1::aK 9 K l m d::aK 69 K k2 k3 i4.E::aK 24 b1 f8 2 ([a.L,b.L]:List (List aU))::L) v0:=aI.cutP p8 (i:=1) rfl p9 q0
 refine aF (v:=zS l d.length m) (aG (aL (aIn (Int × Int) Bool v3 ?_)))
 intro o v4 (k4:aI G b1 (iR o ([]:(List ((Int × Int) × Bool)))::aK 9 K i2 i3 i1::aK 9 K l m d::aK 69 K k2 k3 i4.E::aK 24 b1 f8 2 ([a.L,b.L]:List (List aU))::L) v4)
 refine aF (v:=zM (some o)) (aG (aL (aD (bO (k':=0+1) oP (iQ rfl) (f5.mono u) rfl) (aD (bH (t:=1) cK k4 (f5.mono u) rfl rfl) (aD (bO (k':=0+1) oP (iQ rfl) f6 rfl) (aD (bH (t:=1) cK k4 f6 rfl rfl) (aD (dL (vs:=[(0,i64 a.I),(1,i64 b.I),(2,zS none 0 0)]) (cs:=p5) aDq rfl (by kernel_rfl)) (bR (Kt:=b1) (xs:=([⟨a.I,b.I,[]⟩]:List aY)) (cs:=p5) (vs:=[(0,zA #[i64 a.I,i64 b.I,zS none 0 0])]) kP sE rfl rfl k4 rfl (by kernel_rfl) rfl rfl rfl ⟨⟨none,0,rfl,tW _⟩,trivial⟩ ?_))))))))
 intro k5 v5 (v6:aI G b1 (aK 65 b1 k5 1 ([⟨a.I,b.I,[]⟩]:List aY)::iR o ([]:(List ((Int × Int) × Bool)))::aK 9 K i2 i3 i1::aK 9 K l m d::aK 69 K k2 k3 i4.E::aK 24 b1 f8 2 ([a.L,b.L]:List (List aU))::L) v5)
 refine aF (v:=zS k5 ([⟨a.I,b.I,[]⟩]:List aY).length 1) (aG (aQ (bB (fun f w=>∃ (i5:Hp),Hp.le b1 i5∧wC=some R∧aI G i5 (L) w) ?_ ?_)))
 ·rintro f w71 ⟨i5,v7,hm,v8⟩
  unfold wC at hm
  refine aA (aL (aF (v:=zS none 0 0) (aF (v:=zB false) (aG ?_))))
  obtain rfl:=zI hm
  exact bM (kF results55 rfl rfl ⟨i5,none,0,rfl,(zL (zL V u) v7),tW _,v8⟩)
 obtain ⟨a79,w0,hm⟩:=aB hm
 refine cE w0 (fun (s:((List ((Int × Int) × Bool)) × List aY)) f w=>match s with|(b0,c9)=>∃ (b3:Hp) (d8:Option Addr) (d9:Nat),Hp.le b1 b3∧f 2=Value.func (.func 26) #[] #[]∧f 3=cU (some ⟨d6,0,none⟩) 0∧f 4=cU (some ⟨d7,0,none⟩) 0∧f 8=zS l d.length m∧f 9=zM (some o)∧f 10=zS d8 c9.length d9∧aI G b3 (aK 65 b3 d8 d9 c9::iR o b0::aK 9 K l m d::L) w) ?_ ?_
 ·exact ⟨b1,k5,1,(zR _),rfl,(iQ rfl),(iQ rfl),rfl,rfl,rfl,(aI.arr 6 [0,1,3] v6 rfl)⟩
 ·rintro ⟨b0,c9⟩ f9 f a80 n q1 ⟨b3,d8,d9,Z,k6,k7,k8,k9,g0,l0,i6⟩
  replace n:fU a b d b0 c9=some f9:=n
  unfold fU at n
  refine aQ (aL (aN l0 (aD (bU (len:=c9.length) kP rfl) (aD (kZ rfl rfl) (aG ?_)))))
  rcases aH n with ⟨l1,n⟩|⟨l1,n⟩
  ·refine aM l1 rfl (bA (aA (bB (fun f w=>∃ (g1:Hp) (i7:(List ((Int × Int) × Bool))) (g2:List aY) (i8:Option Addr) (i9:Nat),Hp.le b3 g1∧wD i7 g2=some f9∧f 2=Value.func (.func 26) #[] #[]∧f 3=cU (some ⟨d6,0,none⟩) 0∧f 4=cU (some ⟨d7,0,none⟩) 0∧f 8=zS l d.length m∧f 9=zM (some o)∧f 10=zS i8 g2.length i9∧aI G g1 (aK 65 g1 i8 i9 g2::iR o i7::aK 9 K l m d::L) w) ?_ ?_)))
   ·rintro f a81 ⟨g1,i7,g2,i8,i9,w1,n,w2,w3,w4,w5,w6,w7,w8⟩
    unfold wD at n
    exact aA ⟨(i7,g2),(zI n).symm,g1,i8,i9,(zL Z w1),w2,w3,w4,w5,w6,w7,w8⟩
   refine aL (aN l0 ?_)
   obtain ⟨c,l2,n⟩:=aB n
   have w9:=dA i6 (i:=0) rfl l2
   refine aD (dT kP rfl w9 rfl rfl rfl l2) ?_
   obtain ⟨a82,x0,x1⟩:=aIk (sz:=3) rfl i6 (i:=0) rfl l2
   obtain ⟨b6,b7,rfl,g3⟩:=x1
   refine aD (aKM (t:=0) (vs:=[i64 c.a,i64 c.b,zS b6 c.trace.length b7]) ag_65 x0 rfl rfl rfl) (bW (vs:=[i64 0,i64 0,zS none 0 0]) zeroValue65 i6 rfl (fun j0 a83 x2=>(bY (i:=0) (ns:=[i64 c.a,i64 c.b,zS b6 c.trace.length b7]) (us:=[i64 c.a,i64 c.b,zS b6 c.trace.length b7]) sizeOf65 x2 rfl rfl rfl rfl rfl (dE rfl) rfl rfl (fun l3 (x3:aI G b3 (box j0 65 [i64 c.a,i64 c.b,zS b6 c.trace.length b7]::aK 65 b3 d8 d9 c9::iR o b0::aK 9 K l m d::L) l3)=>?_))))
   obtain ⟨b2,r,y,j1,_⟩:=aI.lendB (i:=0) x3 rfl
   replace j1:aI G b2 (aK 65 b3 d8 d9 c9::iR o b0::aK 9 K l m d::L) l3:=j1
   refine aG (aL (aN l0 ?_))
   obtain ⟨b8,q2,n⟩:=aB n
   have x4:=aLG j1 (i:=0) rfl
   obtain ⟨b9,c0,q3⟩:=Cut.ex 3 d8 d9 1
   refine aD (aBm kP x4 q3 rfl rfl rfl q2) ?_
   have b5:aI G b2 (aK 65 b3 b9 c0 b8::iR o b0::aK 9 K l m d::L) l3:=aI.cutPE j1 (i:=0) rfl q2 q3
   refine aF (v:=zS b9 b8.length c0) (aG (aQ (aQ (cN (fun f w=>∃ (l4:Bool),jZ a b d b0 c b8 l4=some f9∧f 2=Value.func (.func 26) #[] #[]∧f 3=cU (some ⟨d6,0,none⟩) 0∧f 4=cU (some ⟨d7,0,none⟩) 0∧f 8=zS l d.length m∧f 9=zM (some o)∧f 10=zS b9 b8.length c0∧f 11=cU (some ⟨j0,0,none⟩) 0∧f 54=zB l4∧aI G b2 (aK 65 b3 b9 c0 b8::iR o b0::aK 9 K l m d::L) w) ?_ ?_))))
   ·rintro f x5 ⟨l4,n,l5,q4,q5,l6,l7,q6,e0,q7,j2⟩
    unfold jZ at n
    refine aA ?_
    rcases aH n with ⟨l8,n⟩|⟨l8,n⟩
    ·refine aM l8 q7 ?_
     have x6:aI G b2 (aK 65 b2 b9 c0 b8::iR o b0::aK 9 K l m d::L) x5:=aI.weak (i:=0) j2 rfl (fun _ h=>aK.mono r h)
     exact cA (aT (bJ (aA ⟨b2,b0,b8,b9,c0,r,n,l5,q4,q5,l6,l7,q6,x6⟩)))
    ·refine aJ l8 q7 (bA (aA (aL (aN l7 (aD (bO (k':=0+0) tX e0 y rfl) (aD (bH (t:=0) cK j2 y rfl rfl) (aD (bO (k':=0+1) vZ e0 y rfl) (aD (bH (t:=1) cK j2 y rfl rfl) (aD (aDn (vs:=[(0,i64 c.a),(1,i64 c.b)]) (cs:=[i64 c.a,i64 c.b]) aGH aGI rfl (by kernel_rfl)) ?_)))))))))
     obtain ⟨x,x7,n⟩:=aB n
     refine aIq (i:=1) (k:=⟨c.a,c.b⟩) (v:=true) runUnderlying126 aGJ j2 rfl rfl rfl rfl x7 (fun x8 (l9:aI G b2 (aK 65 b3 b9 c0 b8::iR o x::aK 9 K l m d::L) x8)=>(aG (aQ (aL (aN l5 (aD (bO (k':=0+0) tX e0 y rfl) (aD (bH (t:=0) cK l9 y rfl rfl) (aD (bO (k':=0+1) vZ e0 y rfl) (aD (bH (t:=1) cK l9 y rfl rfl) ?_)))))))))
     obtain ⟨a84,x9,n⟩:=aB n
     refine aCe (vs:=[i64 c.a,i64 c.b]) (caps:=[]) (us:=[i64 c.a,i64 c.b]) rfl call26 rfl rfl (aDf l9 x9) ?_
     rintro _ y0 ⟨rfl,m0⟩
     refine aG ?_
     rcases aH n with ⟨m1,n⟩|⟨m1,n⟩
     ·refine aM m1 rfl (aL (aD (bO (k':=0+2) aDX e0 y rfl) (aD (bH (t:=2) iT m0 y rfl rfl) (aF (v:=zS b6 c.trace.length b7) (aF (v:=zB true) (aG (bM (aV (bV (aV (aV ?_)))))))))))
      have y1:=q1 _ (zI n).symm
      subst y1
      have hm:(some (c.trace,true))=some R:=hm
      obtain rfl:=zI hm
      exact bV (aV (aV (kF results55 rfl rfl ⟨b2,b6,b7,rfl,(zL (zL (zL V u) Z) r),(g3.mono r),(aI.arr 3 [] m0 rfl)⟩)))
     ·refine aJ m1 rfl (bA (aA (aL (aN l6 (aD (bU (len:=d.length) bX rfl) (aO (v:=i64 0) (aG (bB (fun f w=>∃ (g4:Hp) (g5:List aY) (j3:Option Addr) (j4:Nat),Hp.le b2 g4∧wE x g5=some f9∧f 2=Value.func (.func 26) #[] #[]∧f 3=cU (some ⟨d6,0,none⟩) 0∧f 4=cU (some ⟨d7,0,none⟩) 0∧f 8=zS l d.length m∧f 9=zM (some o)∧f 10=zS j3 g5.length j4∧aI G g4 (aK 65 g4 j3 j4 g5::iR o x::aK 9 K l m d::L) w) ?_ ?_))))))))
      ·rintro f a85 ⟨g4,g5,j3,j4,y3,n,y4,y5,y6,y7,y8,y9,z0⟩
       unfold wE at n
       exact bC (aA ⟨g4,x,g5,j3,j4,(zL r y3),n,y4,y5,y6,y7,y8,y9,z0⟩)
      have z1:aI G b2 (aK 65 b2 b9 c0 b8::iR o x::aK 9 K l m d::L) y0:=aI.weak (i:=0) m0 rfl (fun _ h=>aK.mono r h)
      obtain ⟨a86,z2,n⟩:=aB n
      refine cE z2 (fun (s:(List aY × Int)) f w=>match s with|(a0,d0)=>∃ (p:Hp) (a3:Option Addr) (a5:Nat),Hp.le b2 p∧f 2=Value.func (.func 26) #[] #[]∧f 3=cU (some ⟨d6,0,none⟩) 0∧f 4=cU (some ⟨d7,0,none⟩) 0∧f 8=zS l d.length m∧f 9=zM (some o)∧f 10=zS a3 a0.length a5∧f 11=cU (some ⟨j0,0,none⟩) 0∧f 69=zS l d.length m∧f 70=i64 (d.length:Int)∧f 71=i64 d0∧aI G p (aK 65 p a3 a5 a0::iR o x::aK 9 K l m d::L) w) ?_ ?_
      ·exact ⟨b2,b9,c0,(zR _),l5,q4,q5,l6,l7,q6,e0,rfl,rfl,rfl,z1⟩
      ·rintro ⟨a0,d0⟩ q8 f a87 e z3 ⟨p,a3,a5,q,g6,e1,e2,g7,g8,q9,d1,g9,h0,e3,j5⟩
       replace e:gX a b d c a0 d0=some q8:=e
       unfold gX at e
       refine aL (aD (cL e3 h0) (aG (aQ ?_)))
       rcases aH e with ⟨m2,e⟩|⟨m2,e⟩
       ·refine aM m2 rfl (bA (aA (aQ (cY (aL ?_)))))
        obtain ⟨J,m3,e⟩:=aB e
        have z4:=dA j5 (i:=2) rfl m3
        refine aD (dT bX rfl z4 g9 rfl e3 m3) (aD (gP (t:=0) qB j5 (i:=2) rfl m3 rfl rfl rfl) (aF (v:=str J) (aG (cN (fun f w=>∃ (h1:Hp) (h2:List aY) (j6:Option Addr) (j7:Nat),Hp.le p h1∧wF d0 h2=some q8∧f 2=Value.func (.func 26) #[] #[]∧f 3=cU (some ⟨d6,0,none⟩) 0∧f 4=cU (some ⟨d7,0,none⟩) 0∧f 8=zS l d.length m∧f 9=zM (some o)∧f 10=zS j6 h2.length j7∧f 11=cU (some ⟨j0,0,none⟩) 0∧f 69=zS l d.length m∧f 70=i64 (d.length:Int)∧f 71=i64 d0∧aI G h1 (aK 65 h1 j6 j7 h2::iR o x::aK 9 K l m d::L) w) ?_ ?_))))
        ·rintro f a88 ⟨h1,h2,j6,j7,z5,e,z6,z7,z8,z9,a00,a01,a02,a03,a04,a05,a06⟩
         unfold wF at e
         exact bC (aA (aP (aD (cP a05 rfl) (aO (v:=i64 (wr (d0+1))) (aG ⟨(h2,wr (d0+1)),(zI e).symm,h1,j6,j7,(zL q z5),z6,z7,z8,z9,a00,a01,a02,a03,a04,rfl,a06⟩)))))
        refine zZ (C:=fun w'=>∃ L',aI G p L' w') [] bZ (by kernel_rfl) (fun a89 a07=>?_)
        have a2:=aI.mono j5 a07
        refine dZ (i:=0) rfl (by kernel_rfl) ⟨_,a2⟩ (fun _ _=>bE q9) (dZ (i:=1) rfl (by kernel_rfl) ⟨_,a2⟩ (fun _ ⟨_,a2⟩=>gT (t:=0) (vs:=p4) dJ a2 (f5.mono (zL (zL (zL u Z) r) q)) e1 rfl rfl) (dZ (i:=2) rfl (by kernel_rfl) ⟨_,a2⟩ (fun _ _=>bO (k':=0+0) tX d1 (y.mono q) rfl) (dZ (i:=3) rfl (by kernel_rfl) ⟨_,a2⟩ (fun _ ⟨_,a2⟩=>bH (t:=0) cK a2 (y.mono q) rfl rfl) (dZ (i:=4) rfl (by kernel_rfl) ⟨_,a2⟩ (fun _ _=>bE (v:=str J) rfl) (dZ (i:=6) rfl (by kernel_rfl) ⟨_,a2⟩ (fun _ ⟨_,a2⟩=>gT (t:=0) (vs:=p3) dJ a2 (f6.mono (zL (zL Z r) q)) e2 rfl rfl) (dZ (i:=7) rfl (by kernel_rfl) ⟨_,a2⟩ (fun _ _=>bO (k':=0+1) vZ d1 (y.mono q) rfl) (dZ (i:=8) rfl (by kernel_rfl) ⟨_,a2⟩ (fun _ ⟨_,a2⟩=>bH (t:=1) cK a2 (y.mono q) rfl rfl) (dZ (i:=9) rfl (by kernel_rfl) ⟨_,a2⟩ (fun _ _=>bE (v:=str J) rfl) (dZ (i:=11) rfl (by kernel_rfl) ⟨_,a2⟩ (fun _ _=>bO (k':=0+2) aDX d1 (y.mono q) rfl) (dZ (i:=12) rfl (by kernel_rfl) ⟨_,a2⟩ (fun _ ⟨_,a2⟩=>bH (t:=2) iT a2 (y.mono q) rfl rfl) (dZ (i:=14) rfl (by kernel_rfl) ⟨_,a2⟩ (fun _ _=>bE (v:=str J) rfl) (nE (i:=5) (j:=15) (by kernel_rfl) rfl rfl ?_ ?_))))))))))))
        ·obtain ⟨a8,a08,e⟩:=aB e
         refine aS (vs:=[zA (zCa a a1 c2 a4 c5),i64 c.a,str J]) call95 rfl (gY a2 (h3.mono (zL (zL (zL (zL V u) Z) r) q)) (h6.mono (zL (zL (zL (zL V u) Z) r) q)) a08) ?_
         rintro _ a90 ⟨rfl,m4⟩
         refine aZ (aA ⟨fun _=>⟨_,m4⟩,?_⟩)
         refine nE (i:=10) (j:=15) (by kernel_rfl) rfl rfl ?_ ?_
         ·obtain ⟨b4,a09,e⟩:=aB e
          refine aS (vs:=[zA (zCa b a7 c8 a10 c11),i64 c.b,str J]) call95 rfl (gY m4 (h9.mono (zL (zL (zL (zL V u) Z) r) q)) (j9.mono (zL (zL (zL (zL V u) Z) r) q)) a09) ?_
          rintro _ a91 ⟨rfl,m5⟩
          refine aZ (aA ⟨fun _=>⟨_,m5⟩,?_⟩)
          refine nE (i:=13) (j:=15) (by kernel_rfl) rfl rfl ?_ ?_
          ·obtain ⟨a11,a12,e⟩:=aB e
           refine aS (vs:=[zS b6 c.trace.length b7]) call33 rfl (cO m5 (g3.mono (zL r q)) a12) ?_
           rintro _ a92 ⟨a13,a14,rfl,r0⟩
           refine aZ (aA ⟨fun _=>⟨_,r0⟩,?_⟩)
           refine cB (i:=15) (by kernel_rfl) rfl (bR (Kt:=K) (xs:=([J]:List aU)) (cs:=[str J]) (vs:=[(0,str J)]) bX gJ rfl rfl r0 rfl (by kernel_rfl) rfl rfl rfl ⟨rfl,trivial⟩ (fun a15 a16 (r1:aI G p (aK 9 K a15 1 ([J]:List aU)::aK 9 K a13 a14 a11::aK 65 p a3 a5 a0::iR o x::aK 9 K l m d::L) a16)=>(aZ (aA ⟨fun _=>⟨_,r1⟩,?_⟩))))
           refine cB (i:=16) (by kernel_rfl) rfl ?_
           obtain ⟨d2,a17,e⟩:=aB e
           refine dG (i:=0) bX underlying24 gJ rfl rfl r1 rfl (zL (zL (zL (zL V u) Z) r) q) (zL (zL (zL (zL V u) Z) r) q) a17 rfl rfl rfl rfl (fun _ h=>h) (fun e4 e5 r2 (m6:aI G p (aK 9 K e4 e5 d2::aK 65 p a3 a5 a0::iR o x::aK 9 K l m d::L) r2)=>(aZ (aA ⟨fun _=>⟨_,m6⟩,?_⟩)))
           refine dZ (i:=17) rfl (by kernel_rfl) ⟨_,m6⟩ (fun _ _=>dL (vs:=[(0,i64 a8),(1,i64 b4),(2,zS e4 d2.length e5)]) (cs:=[i64 a8,i64 b4,zS e4 d2.length e5]) aDq rfl (by kernel_rfl)) (cB (i:=18) (by kernel_rfl) rfl ?_)
           obtain ⟨c3,h4,a18,m7⟩:=aI.giveS (i:=0) m6 (zL (zL (zL (zL V u) Z) r) q) rfl
           replace m7:aI G c3 (aK 65 p a3 a5 a0::iR o x::aK 9 K l m d::L) r2:=m7
           refine bR (Kt:=c3) (xs:=([⟨a8,b4,d2⟩]:List aY)) (cs:=[i64 a8,i64 b4,zS e4 d2.length e5]) (vs:=[(0,zA #[i64 a8,i64 b4,zS e4 d2.length e5])]) kP sE rfl rfl m7 rfl (by kernel_rfl) rfl rfl rfl ⟨⟨e4,e5,rfl,a18⟩,trivial⟩ (fun a19 a20 (r3:aI G c3 (aK 65 c3 a19 1 ([⟨a8,b4,d2⟩]:List aY)::aK 65 p a3 a5 a0::iR o x::aK 9 K l m d::L) a20)=>(aZ (aA ⟨fun _=>⟨_,(aI.weakK r3 h4)⟩,?_⟩)))
           refine cB (i:=19) (by kernel_rfl) rfl ?_
           obtain ⟨m8,a21,e⟩:=aB e
           refine vX (i:=0) c3 kP underlying66 sE rfl rfl r3 rfl h4 (zR _) a21 rfl rfl rfl rfl (fun _ _ _ h=>El.one h) (fun m9 n0 a22 (n1:aI G c3 (aK 65 c3 m9 n0 m8::iR o x::aK 9 K l m d::L) a22)=>(aZ (aA ⟨fun _=>⟨_,(aI.weakK n1 h4)⟩,?_⟩)))
           exact dZ (i:=20) rfl (by kernel_rfl) ⟨_,(aI.weakK n1 h4)⟩ (fun _ _=>dV (v:=zS m9 m8.length n0) rfl) (gL (by kernel_rfl) (aA ⟨c3,m8,m9,n0,h4,e,g6,e1,e2,g7,g8,rfl,d1,g9,h0,e3,n1⟩))
          ·refine bR (Kt:=K) (xs:=([J]:List aU)) (cs:=[str J]) (vs:=[(0,str J)]) bX gJ rfl rfl m5 rfl (by kernel_rfl) rfl rfl rfl ⟨rfl,trivial⟩ (fun r4 a23 (r5:aI G p (aK 9 K r4 1 ([J]:List aU)::aK 65 p a3 a5 a0::iR o x::aK 9 K l m d::L) a23)=>(aZ (aA ⟨fun _=>⟨_,r5⟩,?_⟩)))
           refine cB (i:=13) (by kernel_rfl) rfl ?_
           obtain ⟨a24,a25,e⟩:=aB e
           refine aS (vs:=[zS b6 c.trace.length b7]) call33 rfl (cO r5 (g3.mono (zL r q)) a25) ?_
           rintro _ a26 ⟨a28,a29,rfl,r6⟩
           refine aZ (aA ⟨fun _=>⟨_,r6⟩,?_⟩)
           refine cB (i:=16) (by kernel_rfl) rfl ?_
           obtain ⟨d3,a30,e⟩:=aB e
           have a31:aI G p (aK 9 K r4 1 ([J]:List aU)::aK 9 K a28 a29 a24::aK 65 p a3 a5 a0::iR o x::aK 9 K l m d::L) a26:=(aI.arr 2 [1,0] r6 rfl)
           refine dG (i:=0) bX underlying24 gJ rfl rfl a31 rfl (zL (zL (zL (zL V u) Z) r) q) (zL (zL (zL (zL V u) Z) r) q) a30 rfl rfl rfl rfl (fun _ h=>h) (fun e6 e7 r7 (n2:aI G p (aK 9 K e6 e7 d3::aK 65 p a3 a5 a0::iR o x::aK 9 K l m d::L) r7)=>(aZ (aA ⟨fun _=>⟨_,n2⟩,?_⟩)))
           refine dZ (i:=17) rfl (by kernel_rfl) ⟨_,n2⟩ (fun _ _=>dL (vs:=[(0,i64 a8),(1,i64 b4),(2,zS e6 d3.length e7)]) (cs:=[i64 a8,i64 b4,zS e6 d3.length e7]) aDq rfl (by kernel_rfl)) (cB (i:=18) (by kernel_rfl) rfl ?_)
           obtain ⟨c4,h5,a32,n3⟩:=aI.giveS (i:=0) n2 (zL (zL (zL (zL V u) Z) r) q) rfl
           replace n3:aI G c4 (aK 65 p a3 a5 a0::iR o x::aK 9 K l m d::L) r7:=n3
           refine bR (Kt:=c4) (xs:=([⟨a8,b4,d3⟩]:List aY)) (cs:=[i64 a8,i64 b4,zS e6 d3.length e7]) (vs:=[(0,zA #[i64 a8,i64 b4,zS e6 d3.length e7])]) kP sE rfl rfl n3 rfl (by kernel_rfl) rfl rfl rfl ⟨⟨e6,e7,rfl,a32⟩,trivial⟩ (fun a33 a34 (r8:aI G c4 (aK 65 c4 a33 1 ([⟨a8,b4,d3⟩]:List aY)::aK 65 p a3 a5 a0::iR o x::aK 9 K l m d::L) a34)=>(aZ (aA ⟨fun _=>⟨_,(aI.weakK r8 h5)⟩,?_⟩)))
           refine cB (i:=19) (by kernel_rfl) rfl ?_
           obtain ⟨n4,a35,e⟩:=aB e
           refine vX (i:=0) c4 kP underlying66 sE rfl rfl r8 rfl h5 (zR _) a35 rfl rfl rfl rfl (fun _ _ _ h=>El.one h) (fun n5 n6 a36 (n7:aI G c4 (aK 65 c4 n5 n6 n4::iR o x::aK 9 K l m d::L) a36)=>(aZ (aA ⟨fun _=>⟨_,(aI.weakK n7 h5)⟩,?_⟩)))
           exact dZ (i:=20) rfl (by kernel_rfl) ⟨_,(aI.weakK n7 h5)⟩ (fun _ _=>dV (v:=zS n5 n4.length n6) rfl) (gL (by kernel_rfl) (aA ⟨c4,n4,n5,n6,h5,e,g6,e1,e2,g7,g8,rfl,d1,g9,h0,e3,n7⟩))
         ·refine bR (Kt:=K) (xs:=([J]:List aU)) (cs:=[str J]) (vs:=[(0,str J)]) bX gJ rfl rfl m4 rfl (by kernel_rfl) rfl rfl rfl ⟨rfl,trivial⟩ (fun r9 a38 (s0:aI G p (aK 9 K r9 1 ([J]:List aU)::aK 65 p a3 a5 a0::iR o x::aK 9 K l m d::L) a38)=>(aZ (aA ⟨fun _=>⟨_,s0⟩,?_⟩)))
          refine cB (i:=10) (by kernel_rfl) rfl ?_
          obtain ⟨e8,a39,e⟩:=aB e
          refine aS (vs:=[zA (zCa b a7 c8 a10 c11),i64 c.b,str J]) call95 rfl (gY s0 (h9.mono (zL (zL (zL (zL V u) Z) r) q)) (j9.mono (zL (zL (zL (zL V u) Z) r) q)) a39) ?_
          rintro _ a93 ⟨rfl,s1⟩
          refine aZ (aA ⟨fun _=>⟨_,s1⟩,?_⟩)
          refine cB (i:=13) (by kernel_rfl) rfl ?_
          obtain ⟨a40,a41,e⟩:=aB e
          refine aS (vs:=[zS b6 c.trace.length b7]) call33 rfl (cO s1 (g3.mono (zL r q)) a41) ?_
          rintro _ a42 ⟨a43,a44,rfl,s2⟩
          refine aZ (aA ⟨fun _=>⟨_,s2⟩,?_⟩)
          refine cB (i:=16) (by kernel_rfl) rfl ?_
          obtain ⟨d4,a45,e⟩:=aB e
          have a46:aI G p (aK 9 K r9 1 ([J]:List aU)::aK 9 K a43 a44 a40::aK 65 p a3 a5 a0::iR o x::aK 9 K l m d::L) a42:=(aI.arr 2 [1,0] s2 rfl)
          refine dG (i:=0) bX underlying24 gJ rfl rfl a46 rfl (zL (zL (zL (zL V u) Z) r) q) (zL (zL (zL (zL V u) Z) r) q) a45 rfl rfl rfl rfl (fun _ h=>h) (fun e9 f0 s3 (n8:aI G p (aK 9 K e9 f0 d4::aK 65 p a3 a5 a0::iR o x::aK 9 K l m d::L) s3)=>(aZ (aA ⟨fun _=>⟨_,n8⟩,?_⟩)))
          refine dZ (i:=17) rfl (by kernel_rfl) ⟨_,n8⟩ (fun _ _=>dL (vs:=[(0,i64 a8),(1,i64 e8),(2,zS e9 d4.length f0)]) (cs:=[i64 a8,i64 e8,zS e9 d4.length f0]) aDq rfl (by kernel_rfl)) (cB (i:=18) (by kernel_rfl) rfl ?_)
          obtain ⟨c6,h7,a47,n9⟩:=aI.giveS (i:=0) n8 (zL (zL (zL (zL V u) Z) r) q) rfl
          replace n9:aI G c6 (aK 65 p a3 a5 a0::iR o x::aK 9 K l m d::L) s3:=n9
          refine bR (Kt:=c6) (xs:=([⟨a8,e8,d4⟩]:List aY)) (cs:=[i64 a8,i64 e8,zS e9 d4.length f0]) (vs:=[(0,zA #[i64 a8,i64 e8,zS e9 d4.length f0])]) kP sE rfl rfl n9 rfl (by kernel_rfl) rfl rfl rfl ⟨⟨e9,f0,rfl,a47⟩,trivial⟩ (fun a48 a50 (s4:aI G c6 (aK 65 c6 a48 1 ([⟨a8,e8,d4⟩]:List aY)::aK 65 p a3 a5 a0::iR o x::aK 9 K l m d::L) a50)=>(aZ (aA ⟨fun _=>⟨_,(aI.weakK s4 h7)⟩,?_⟩)))
          refine cB (i:=19) (by kernel_rfl) rfl ?_
          obtain ⟨o0,a52,e⟩:=aB e
          refine vX (i:=0) c6 kP underlying66 sE rfl rfl s4 rfl h7 (zR _) a52 rfl rfl rfl rfl (fun _ _ _ h=>El.one h) (fun o1 o2 a53 (o3:aI G c6 (aK 65 c6 o1 o2 o0::iR o x::aK 9 K l m d::L) a53)=>(aZ (aA ⟨fun _=>⟨_,(aI.weakK o3 h7)⟩,?_⟩)))
          exact dZ (i:=20) rfl (by kernel_rfl) ⟨_,(aI.weakK o3 h7)⟩ (fun _ _=>dV (v:=zS o1 o0.length o2) rfl) (gL (by kernel_rfl) (aA ⟨c6,o0,o1,o2,h7,e,g6,e1,e2,g7,g8,rfl,d1,g9,h0,e3,o3⟩))
        ·refine bR (Kt:=K) (xs:=([J]:List aU)) (cs:=[str J]) (vs:=[(0,str J)]) bX gJ rfl rfl a2 rfl (by kernel_rfl) rfl rfl rfl ⟨rfl,trivial⟩ (fun s5 a54 (s6:aI G p (aK 9 K s5 1 ([J]:List aU)::aK 65 p a3 a5 a0::iR o x::aK 9 K l m d::L) a54)=>(aZ (aA ⟨fun _=>⟨_,s6⟩,?_⟩)))
         refine cB (i:=5) (by kernel_rfl) rfl ?_
         obtain ⟨f1,a55,e⟩:=aB e
         refine aS (vs:=[zA (zCa a a1 c2 a4 c5),i64 c.a,str J]) call95 rfl (gY s6 (h3.mono (zL (zL (zL (zL V u) Z) r) q)) (h6.mono (zL (zL (zL (zL V u) Z) r) q)) a55) ?_
         rintro _ a94 ⟨rfl,s7⟩
         refine aZ (aA ⟨fun _=>⟨_,s7⟩,?_⟩)
         refine cB (i:=10) (by kernel_rfl) rfl ?_
         obtain ⟨f2,a56,e⟩:=aB e
         refine aS (vs:=[zA (zCa b a7 c8 a10 c11),i64 c.b,str J]) call95 rfl (gY s7 (h9.mono (zL (zL (zL (zL V u) Z) r) q)) (j9.mono (zL (zL (zL (zL V u) Z) r) q)) a56) ?_
         rintro _ a95 ⟨rfl,s8⟩
         refine aZ (aA ⟨fun _=>⟨_,s8⟩,?_⟩)
         refine cB (i:=13) (by kernel_rfl) rfl ?_
         obtain ⟨a57,a59,e⟩:=aB e
         refine aS (vs:=[zS b6 c.trace.length b7]) call33 rfl (cO s8 (g3.mono (zL r q)) a59) ?_
         rintro _ a60 ⟨a61,a62,rfl,s9⟩
         refine aZ (aA ⟨fun _=>⟨_,s9⟩,?_⟩)
         refine cB (i:=16) (by kernel_rfl) rfl ?_
         obtain ⟨d5,a63,e⟩:=aB e
         have a64:aI G p (aK 9 K s5 1 ([J]:List aU)::aK 9 K a61 a62 a57::aK 65 p a3 a5 a0::iR o x::aK 9 K l m d::L) a60:=(aI.arr 2 [1,0] s9 rfl)
         refine dG (i:=0) bX underlying24 gJ rfl rfl a64 rfl (zL (zL (zL (zL V u) Z) r) q) (zL (zL (zL (zL V u) Z) r) q) a63 rfl rfl rfl rfl (fun _ h=>h) (fun f3 f4 t0 (o4:aI G p (aK 9 K f3 f4 d5::aK 65 p a3 a5 a0::iR o x::aK 9 K l m d::L) t0)=>(aZ (aA ⟨fun _=>⟨_,o4⟩,?_⟩)))
         refine dZ (i:=17) rfl (by kernel_rfl) ⟨_,o4⟩ (fun _ _=>dL (vs:=[(0,i64 f1),(1,i64 f2),(2,zS f3 d5.length f4)]) (cs:=[i64 f1,i64 f2,zS f3 d5.length f4]) aDq rfl (by kernel_rfl)) (cB (i:=18) (by kernel_rfl) rfl ?_)
         obtain ⟨c7,h8,a65,o5⟩:=aI.giveS (i:=0) o4 (zL (zL (zL (zL V u) Z) r) q) rfl
         replace o5:aI G c7 (aK 65 p a3 a5 a0::iR o x::aK 9 K l m d::L) t0:=o5
         refine bR (Kt:=c7) (xs:=([⟨f1,f2,d5⟩]:List aY)) (cs:=[i64 f1,i64 f2,zS f3 d5.length f4]) (vs:=[(0,zA #[i64 f1,i64 f2,zS f3 d5.length f4])]) kP sE rfl rfl o5 rfl (by kernel_rfl) rfl rfl rfl ⟨⟨f3,f4,rfl,a65⟩,trivial⟩ (fun a67 a68 (t1:aI G c7 (aK 65 c7 a67 1 ([⟨f1,f2,d5⟩]:List aY)::aK 65 p a3 a5 a0::iR o x::aK 9 K l m d::L) a68)=>(aZ (aA ⟨fun _=>⟨_,(aI.weakK t1 h8)⟩,?_⟩)))
         refine cB (i:=19) (by kernel_rfl) rfl ?_
         obtain ⟨o6,a69,e⟩:=aB e
         refine vX (i:=0) c7 kP underlying66 sE rfl rfl t1 rfl h8 (zR _) a69 rfl rfl rfl rfl (fun _ _ _ h=>El.one h) (fun o7 o8 a70 (o9:aI G c7 (aK 65 c7 o7 o8 o6::iR o x::aK 9 K l m d::L) a70)=>(aZ (aA ⟨fun _=>⟨_,(aI.weakK o9 h8)⟩,?_⟩)))
         exact dZ (i:=20) rfl (by kernel_rfl) ⟨_,(aI.weakK o9 h8)⟩ (fun _ _=>dV (v:=zS o7 o6.length o8) rfl) (gL (by kernel_rfl) (aA ⟨c7,o6,o7,o8,h8,e,g6,e1,e2,g7,g8,rfl,d1,g9,h0,e3,o9⟩))
       ·refine aJ m2 rfl (cA (aT (aT ?_)))
        have a71:=z3 _ (zI e).symm
        subst a71
        have n:(wE x a0)=some f9:=n
        exact bJ (aA ⟨p,a0,a3,a5,q,n,g6,e1,e2,g7,g8,q9,j5⟩)
   refine aP (aD (bO (k':=0+0) tX (iQ rfl) y rfl) (aD (bH (t:=0) cK b5 y rfl rfl) (aD (cL rfl rfl) (aO (v:=zB (decide (c.a < 0))) ?_))))
   rcases aH n with ⟨c1,n⟩|⟨c1,n⟩
   ·refine bD c1 rfl rfl (aD (bO (k':=0+1) vZ (iQ rfl) y rfl) (bD c1 rfl rfl (aD (bH (t:=1) cK b5 y rfl rfl) (bD c1 rfl rfl (aD (cL rfl rfl) (aD (bL (v:=zB (decide (c.b < 0))) c1 rfl rfl) (aO (v:=zB (decide (c.b < 0))) ?_)))))))
    rcases aH n with ⟨a9,n⟩|⟨a9,n⟩
    ·exact aX a9 rfl rfl (aX a9 rfl rfl (aX a9 rfl rfl (aX a9 rfl rfl (aX a9 rfl rfl (aX a9 rfl rfl (aX a9 rfl rfl (aD (bL (v:=zB true) a9 rfl rfl) (aG ⟨true,n,k6,k7,k8,k9,g0,rfl,(iQ rfl),rfl,b5⟩))))))))
    ·exact bG a9 rfl rfl (aN g0 (bG a9 rfl rfl (aD (bO (k':=0+0) tX (iQ rfl) y rfl) (bG a9 rfl rfl (aD (bH (t:=0) cK b5 y rfl rfl) (bG a9 rfl rfl (aD (bO (k':=0+1) vZ (iQ rfl) y rfl) (bG a9 rfl rfl (aD (bH (t:=1) cK b5 y rfl rfl) (bG a9 rfl rfl (aD (aDn (vs:=[(0,i64 c.a),(1,i64 c.b)]) (cs:=[i64 c.a,i64 c.b]) aGH aGI rfl (by kernel_rfl)) (bG a9 rfl rfl (aD (aHT (kv:=b0) (k:=⟨c.a,c.b⟩) (z:=(false:Bool)) runUnderlying126 aGJ zeroValue4 b5 (i:=1) rfl rfl rfl) (aD (bK (v:=zB ((nO b0 ⟨c.a,c.b⟩).getD false)) a9 rfl rfl) (aG ⟨((nO b0 ⟨c.a,c.b⟩).getD false),n,k6,k7,k8,k9,g0,rfl,(iQ rfl),rfl,b5⟩)))))))))))))))
   ·exact aR c1 rfl rfl (aR c1 rfl rfl (aR c1 rfl rfl (aD (bK (v:=zB false) c1 rfl rfl) (aO (v:=zB false) (bG (by decide:¬ false=true) rfl rfl (aN g0 (bG (by decide:¬ false=true) rfl rfl (aD (bO (k':=0+0) tX (iQ rfl) y rfl) (bG (by decide:¬ false=true) rfl rfl (aD (bH (t:=0) cK b5 y rfl rfl) (bG (by decide:¬ false=true) rfl rfl (aD (bO (k':=0+1) vZ (iQ rfl) y rfl) (bG (by decide:¬ false=true) rfl rfl (aD (bH (t:=1) cK b5 y rfl rfl) (bG (by decide:¬ false=true) rfl rfl (aD (aDn (vs:=[(0,i64 c.a),(1,i64 c.b)]) (cs:=[i64 c.a,i64 c.b]) aGH aGI rfl (by kernel_rfl)) (bG (by decide:¬ false=true) rfl rfl (aD (aHT (kv:=b0) (k:=⟨c.a,c.b⟩) (z:=(false:Bool)) runUnderlying126 aGJ zeroValue4 b5 (i:=1) rfl rfl rfl) (aD (bK (v:=zB ((nO b0 ⟨c.a,c.b⟩).getD false)) (by decide:¬ false=true) rfl rfl) (aG ⟨((nO b0 ⟨c.a,c.b⟩).getD false),n,k6,k7,k8,k9,g0,rfl,(iQ rfl),rfl,b5⟩))))))))))))))))))))
  ·refine aJ l1 rfl (cA (aT (aT ?_)))
   have a72:=q1 _ (zI n).symm
   subst a72
   have hm:(wC)=some R:=hm
   exact bJ (aA ⟨b3,Z,hm,(aI.arr 3 [] i6 rfl)⟩)
end Gv
