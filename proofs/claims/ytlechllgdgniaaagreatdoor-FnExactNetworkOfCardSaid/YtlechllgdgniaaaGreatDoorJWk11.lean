/- Walks, printed by program. -/
import Derived.Test.YtlechllgdgniaaaGreatDoorJWk9
set_option linter.all false
namespace Gv
open Gv.Hp renaming le_refl→zR
open Go.Value renaming slice→zS,bool→zB,agg→zA
open Option.some renaming inj→zI
open Gv.Hp renaming le_trans→zL
open Go Go.Proofs Go.Proofs.Tryz
set_option maxRecDepth 20000
set_option maxHeartbeats 40000000
variable {G:pJ} {K:Hp} {L:List hQ} {w:World} {a1 a5 a9 a11 a13 a7 a4 a10:Option Addr} {c2 c6 c10 c12 c14 c8 c5 c11:Nat}
theorem nT {a:(List bK)} {k:Int} {R:(Int × (List bK))} (hm:lO a k=some R) (hs:aN G K (bB 9 K a1 c2 a::L) w):
  Calls prog 34 ([zS a1 a.length c2,i64 k]:List Value).toArray w (eR fun v w'=>v=i64 R.1/\a.length=R.2.length/\aN G K (bB 9 K a1 c2 R.2::L) w'):=by
 refine aQ func34 rfl (by kernel_rfl) (by show (2:Nat)<=20;decide) ?_;unfold lO at hm
 refine aL (aD (v:=i64 0) (aG (aO (aL (aD (v:=i64 0) (aG (bR [] (fun f w=>∃ o d,qR o d=some R/\f 1=i64 o/\a.length=d.length/\aN G K (bB 9 K a1 c2 d::L) w) cA ?_)))))));obtain ⟨a5,x,ho⟩:=aC hm
 refine mL [] x (fun b c e f w=>f 0=zS a1 b.length c2/\f 1=i64 c/\f 5=i64 e/\a.length=b.length/\aN G K (bB 9 K a1 c2 b::L) w) cA ?_
 ·rintro b c e a6 f a7 hm hr ⟨g,p,j,y,z⟩
  unfold vM at hm
  refine aO (aL (bG j (bG g (aA (bQ (len:=b.length) dL rfl) (aA (cM rfl rfl) (aG ?_))))))
  rcases aH hm with ⟨q,hm⟩|⟨q,hm⟩
  ·refine aM q rfl (aW (aB (aO (bZ (aL (bG g (bG j (bG p ?_))))))));obtain ⟨r,J,hm⟩:=aC hm
   refine aT (vs:=[i64 c]) call60 rfl (iV J z) ?_
   rintro _ a8 ⟨rfl,u⟩
   obtain ⟨a9,l,hm⟩:=aC hm
   have V:=fC u (i:=0) rfl l
   refine aA (gE dL rfl V rfl rfl rfl l) ?_;obtain ⟨Z,m,hm⟩:=aC hm
   exact mU (i:=0) (t:=0) (ns:=[str r]) (e':=(r:bK)) sizeOf9 u rfl (Hp.le_refl _) rfl rfl rfl l m rfl rfl (dU rfl) rfl (fun cs h=>by cases h;rfl) (fun a0 (a2:aN G K (bB 9 K a1 c2 Z::L) a0)=>(aG (aV (bG p (aA (cD rfl rfl) (aD (v:=i64 (wr (c+1))) (cC (bM (aB (aV (bG j (aA (cD rfl rfl) (aD (v:=i64 (wr (e+1))) (aG ⟨_,(zI hm).symm,aU,(Eq.trans g (congrArg (fun n=>zS a1 n c2) (cH m))),rfl,rfl,(y.trans (cH m)),a2⟩))))))))))))))
  ·exact cA
theorem aKe {l:(List Definition)} {b:List (Dp.Hd Definition)} {d:(List bL)} {c:List (Dp.Hd bL)} {j:(List bV)} {g h:(List bK)} {k:Int} {R:(Int × (List Definition) × (List bL) × (List bV) × (List bK) × (List bK))} (hm:aBc l d j g h k=some R) (hs:aN G K (bB 89 K a1 c2 (bT b l)::rows [162,203,242] b l::bB 91 K a5 c6 (bT c d)::rows [2] c d::bB 93 K a9 c10 j::bB 9 K a11 c12 g::bB 9 K a13 c14 h::L) w) (a2:List.length b=List.length l) (a3:List.length c=List.length d):
  Calls prog 10 ([zA #[zS a1 l.length c2,zS a5 d.length c6,zS a9 j.length c10,zS a11 g.length c12,zS a13 h.length c14],i64 k]:List Value).toArray w (eR fun v w'=>v=i64 R.1/\l.length=R.2.1.length/\d.length=R.2.2.1.length/\j.length=R.2.2.2.1.length/\g.length=R.2.2.2.2.1.length/\h.length=R.2.2.2.2.2.length/\aN G K (bB 89 K a1 c2 (bT b R.2.1)::rows [162,203,242] b R.2.1::bB 91 K a5 c6 (bT c R.2.2.1)::rows [2] c R.2.2.1::bB 93 K a9 c10 R.2.2.2.1::bB 9 K a11 c12 R.2.2.2.2.1::bB 9 K a13 c14 R.2.2.2.2.2::L) w'):=by
 let t:=[zS a1 l.length c2,zS a5 d.length c6,zS a9 j.length c10,zS a11 g.length c12,zS a13 h.length c14]
 let m:=bB 9 K a11 c12 g
 let n:=bB 9 K a13 c14 h
 let q:=bB 93 K a9 c10 j
 let r:=bB 91 K a5 c6 (bT c d)
 refine aQ func10 rfl (by kernel_rfl) (by show (2:Nat)<=26;decide) ?_;unfold aBc at hm
 refine aL (dQ (v:=zA #[zS a1 l.length c2,zS a5 d.length c6,zS a9 j.length c10,zS a11 g.length c12,zS a13 h.length c14]) (vs:=t) hs rfl rfl (fun o a4 u=>(aD (v:=i64 0) (aG (aL (aA (bA (t':=0) pL rfl rfl) (aA (bO aDY u (i:=0) rfl rfl rfl) (aI (v:=i64 k) ?_))))))))
 have a6:aN G K (bB 89 K a1 c2 (bT b l)::rows [162,203,242] b l::box o 38 t::r::rows [2] c d::q::m::n::L) a4:=(aN.arr 3 [1,2,0] u rfl)
 obtain ⟨a,a7,hm⟩:=aC hm
 refine aT (vs:=[zS a1 l.length c2,i64 k]) call31 rfl (aGG a7 a6 a2) ?_
 rintro _ x ⟨rfl,a8,b0⟩
 have y:aN G K (bB 89 K a1 c2 (bT b a.2)::rows [162,203,242] b a.2::box o 38 [zS a1 a.2.length c2,zS a5 d.length c6,zS a9 j.length c10,zS a11 g.length c12,zS a13 h.length c14]::r::rows [2] c d::q::m::n::L) x:=by rw [←a8];exact b0
 refine aD (v:=i64 a.1) (aG (aL (aA (bA (t':=1) mD rfl rfl) (aA (bO aBn y (i:=2) rfl rfl rfl) (aI (v:=i64 a.1) ?_)))))
 have b1:aN G K (r::rows [2] c d::bB 89 K a1 c2 (bT b a.2)::rows [162,203,242] b a.2::box o 38 [zS a1 a.2.length c2,zS a5 d.length c6,zS a9 j.length c10,zS a11 g.length c12,zS a13 h.length c14]::q::m::n::L) x:=(aN.arr 5 [3,4,0,1,2] y rfl)
 obtain ⟨e,b2,hm⟩:=aC hm
 refine aT (vs:=[zS a5 d.length c6,i64 a.1]) call32 rfl (aHb b2 b1 a3) ?_
 rintro _ z ⟨rfl,b3,b4⟩
 have J:aN G K (bB 91 K a5 c6 (bT c e.2)::rows [2] c e.2::bB 89 K a1 c2 (bT b a.2)::rows [162,203,242] b a.2::box o 38 [zS a1 a.2.length c2,zS a5 e.2.length c6,zS a9 j.length c10,zS a11 g.length c12,zS a13 h.length c14]::q::m::n::L) z:=by rw [←b3];exact b4
 refine aD (v:=i64 e.1) (aG (aL (aA (bA (t':=2) aBN rfl rfl) (aA (bO aFy J (i:=4) rfl rfl rfl) (aI (v:=i64 e.1) ?_)))))
 have b5:aN G K (q::bB 91 K a5 c6 (bT c e.2)::rows [2] c e.2::bB 89 K a1 c2 (bT b a.2)::rows [162,203,242] b a.2::box o 38 [zS a1 a.2.length c2,zS a5 e.2.length c6,zS a9 j.length c10,zS a11 g.length c12,zS a13 h.length c14]::m::n::L) z:=(aN.arr 6 [5,0,1,2,3,4] J rfl)
 obtain ⟨p,b6,hm⟩:=aC hm
 refine aT (vs:=[zS a9 j.length c10,i64 e.1]) call33 rfl (aDd b6 b5) ?_
 rintro _ V ⟨rfl,b7,b8⟩
 have Z:aN G K (bB 93 K a9 c10 p.2::bB 91 K a5 c6 (bT c e.2)::rows [2] c e.2::bB 89 K a1 c2 (bT b a.2)::rows [162,203,242] b a.2::box o 38 [zS a1 a.2.length c2,zS a5 e.2.length c6,zS a9 p.2.length c10,zS a11 g.length c12,zS a13 h.length c14]::m::n::L) V:=by rw [←b7];exact b8
 refine aD (v:=i64 p.1) (aG (aL (aA (bA (t':=3) aBO rfl rfl) (aA (bO jG Z (i:=5) rfl rfl rfl) (aI (v:=i64 p.1) ?_)))))
 have b9:aN G K (m::bB 93 K a9 c10 p.2::bB 91 K a5 c6 (bT c e.2)::rows [2] c e.2::bB 89 K a1 c2 (bT b a.2)::rows [162,203,242] b a.2::box o 38 [zS a1 a.2.length c2,zS a5 e.2.length c6,zS a9 p.2.length c10,zS a11 g.length c12,zS a13 h.length c14]::n::L) V:=(aN.arr 7 [6,0,1,2,3,4,5] Z rfl)
 obtain ⟨c1,c0,hm⟩:=aC hm
 exact aT (vs:=[zS a11 g.length c12,i64 p.1]) call34 rfl (nT c0 b9) cA
theorem aKT {a:(List Edge)} {k:Int} {R:(Int × (List Edge))} (hm:aCN a k=some R) (hs:aN G K (bB 130 K a1 c2 a::L) w):
  Calls prog 63 ([zS a1 a.length c2,i64 k]:List Value).toArray w (eR fun v w'=>v=i64 R.1/\a.length=R.2.length/\aN G K (bB 130 K a1 c2 R.2::L) w'):=by
 refine aQ func63 rfl (by kernel_rfl) (by show (2:Nat)<=34;decide) ?_;unfold aCN at hm
 refine aL (aD (v:=i64 0) (aG (aO (aL (aD (v:=i64 0) (aG (bR [] (fun f w=>∃ r o,uF r o=some R/\f 1=i64 r/\a.length=o.length/\aN G K (bB 130 K a1 c2 o::L) w) cA ?_)))))));obtain ⟨b5,a5,ho⟩:=aC hm
 refine mL [] a5 (fun e b c f w=>f 0=zS a1 e.length c2/\f 1=i64 b/\f 5=i64 c/\a.length=e.length/\aN G K (bB 130 K a1 c2 e::L) w) cA ?_
 ·rintro e b c b6 f b7 hm hr ⟨g,u,j,a6,x⟩
  unfold aBd at hm
  refine aO (aL (bG j (bG g (aA (bQ (len:=e.length) iI rfl) (aA (cM rfl rfl) (aG ?_))))))
  rcases aH hm with ⟨y,hm⟩|⟨y,hm⟩
  ·refine aM y rfl (aW (aB (aO (bZ (aL (bG g (bG j (bG u ?_))))))));obtain ⟨z,p,hm⟩:=aC hm
   have d:=fC x (i:=0) rfl p
   refine aA (gE iI rfl d rfl rfl rfl p) (aA (kD (k':=c.toNat * 3+0) rR d rfl rfl) ?_);obtain ⟨J,l,hm⟩:=aC hm
   refine mU (i:=0) (t:=0) (ns:=[i64 b]) (e':=(⟨b,z.B,z.To⟩:Edge)) sizeOf2 x rfl (Hp.le_refl _) rfl rfl rfl p l rfl rfl (dU rfl) rfl (fun cs h=>by cases h;rfl) (fun a7 (a8:aN G K (bB 130 K a1 c2 J::L) a7)=>(aG (aL (bG u (aA (cD rfl rfl) (aD (v:=i64 (wr (b+1))) (aG (aL (bG (v:=zS a1 J.length c2) (Eq.trans g (congrArg (fun n=>zS a1 n c2) (cH l))) (bG j (aI (v:=i64 (wr (b+1))) ?_)))))))))));obtain ⟨V,Z,hm⟩:=aC hm
   refine aA (gE iI rfl d rfl rfl rfl Z) (aA (kD (k':=c.toNat * 3+1) oL d rfl rfl) ?_);obtain ⟨a0,m,hm⟩:=aC hm
   refine mU (i:=0) (t:=1) (ns:=[i64 (wr (b+1))]) (e':=(⟨V.F,wr (b+1),V.To⟩:Edge)) sizeOf2 a8 rfl (Hp.le_refl _) rfl rfl rfl Z m rfl rfl (dU rfl) rfl (fun cs h=>by cases h;rfl) (fun a9 (b0:aN G K (bB 130 K a1 c2 a0::L) a9)=>(aG (aL (aI (v:=i64 (wr (b+1))) (aA (cD rfl rfl) (aD (v:=i64 (wr ((wr (b+1))+1))) (aG (aL (bG (v:=zS a1 a0.length c2) (Eq.trans (Eq.trans g (congrArg (fun n=>zS a1 n c2) (cH l))) (congrArg (fun n=>zS a1 n c2) (cH m))) (bG j (aI (v:=i64 (wr ((wr (b+1))+1))) ?_)))))))))))
   obtain ⟨a2,a3,hm⟩:=aC hm
   refine aA (gE iI rfl d rfl rfl rfl a3) (aA (kD (k':=c.toNat * 3+2) vZ d rfl rfl) ?_);obtain ⟨b1,q,hm⟩:=aC hm
   exact mU (i:=0) (t:=2) (ns:=[i64 (wr ((wr (b+1))+1))]) (e':=(⟨a2.F,a2.B,wr ((wr (b+1))+1)⟩:Edge)) sizeOf2 b0 rfl (Hp.le_refl _) rfl rfl rfl a3 q rfl rfl (dU rfl) rfl (fun cs h=>by cases h;rfl) (fun b2 (b3:aN G K (bB 130 K a1 c2 b1::L) b2)=>(aG (aV (aI (v:=i64 (wr ((wr (b+1))+1))) (aA (cD rfl rfl) (aD (v:=i64 (wr ((wr ((wr (b+1))+1))+1))) (cC (bM (aB (aV (bG j (aA (cD rfl rfl) (aD (v:=i64 (wr (c+1))) (aG ⟨_,(zI hm).symm,aU,(Eq.trans (Eq.trans (Eq.trans g (congrArg (fun n=>zS a1 n c2) (cH l))) (congrArg (fun n=>zS a1 n c2) (cH m))) (congrArg (fun n=>zS a1 n c2) (cH q))),rfl,rfl,(((a6.trans (cH l)).trans (cH m)).trans (cH q)),b3⟩))))))))))))))
  ·exact cA
theorem aLX {a:(List eP)} {b:List (Dp.Hd eP)} {k:Int} {R:(Int × (List eP))} (hm:aEu a k=some R) (hs:aN G K (bB 60 K a1 c2 (bT b a)::rows [9,130] b a::L) w) (d9:List.length b=List.length a):
  Calls prog 35 ([zS a1 a.length c2,i64 k]:List Value).toArray w (eR fun v w'=>v=i64 R.1/\a.length=R.2.length/\aN G K (bB 60 K a1 c2 (bT b R.2)::rows [9,130] b R.2::L) w'):=by
 refine aQ func35 rfl (by kernel_rfl) (by show (2:Nat)<=41;decide) ?_;unfold aEu at hm
 refine aL (aD (v:=i64 0) (aG (aO (aL (aD (v:=i64 0) (aG (bR [] (fun f w=>∃ k5 z,aCk k5 z=some R/\f 1=i64 k5/\List.length b=List.length z/\a.length=z.length/\aN G K (bB 60 K a1 c2 (bT b z)::rows [9,130] b z::L) w) cA ?_)))))));obtain ⟨e0,c1,ho⟩:=aC hm
 refine mL [] c1 (fun p d c f w=>f 0=zS a1 p.length c2/\f 1=i64 d/\f 5=i64 c/\List.length b=List.length p/\a.length=p.length/\aN G K (bB 60 K a1 c2 (bT b p)::rows [9,130] b p::L) w) cA ?_
 ·rintro p d c e1 f e2 hm hr ⟨x,b4,y,h,c3,b5⟩
  unfold xF at hm
  refine aO (aL (bG y (bG x (aA (bQ (len:=p.length) yR rfl) (aA (cM rfl rfl) (aG ?_))))))
  rcases aH hm with ⟨c48,hm⟩|⟨c48,hm⟩
  ·refine aM c48 rfl (aW (aB (aO (bZ (aL (bG x (bG y (bG b4 ?_))))))));obtain ⟨a8,a2,hm⟩:=aC hm
   obtain ⟨⟨⟨J,V⟩,⟨Z,a0⟩⟩,j⟩:=aGk h a2
   have l:=fC b5 (i:=0) rfl (lT h a2 j)
   refine aA (gE yR rfl l rfl rfl rfl a2) (aA (kD (k':=c.toNat * 4+0) aBQ l rfl rfl) ?_);obtain ⟨a9,e,hm⟩:=aC hm
   refine aHn (i:=0) (t:=0) (ns:=[i64 d]) (e':=(⟨d,a8.I,a8.L,a8.E⟩:eP)) sizeOf2 b5 h rfl rfl rfl rfl rfl a2 j e rfl rfl (dU rfl) rfl rfl rfl (fun c4 (c5:aN G K (bB 60 K a1 c2 (bT b a9)::rows [9,130] b a9::L) c4)=>(aG (aL (bG b4 (aA (cD rfl rfl) (aD (v:=i64 (wr (d+1))) (aG (aL (bG (v:=zS a1 a9.length c2) (Eq.trans x (congrArg (fun n=>zS a1 n c2) (cH e))) (bG y (aI (v:=i64 (wr (d+1))) ?_)))))))))));obtain ⟨b0,b6,hm⟩:=aC hm
   refine aA (gE yR rfl l rfl rfl rfl b6) (aA (kD (k':=c.toNat * 4+1) aIe l rfl rfl) ?_);obtain ⟨q,g,hm⟩:=aC hm
   refine aHn (i:=0) (t:=1) (ns:=[i64 (wr (d+1))]) (e':=(⟨b0.N,wr (d+1),b0.L,b0.E⟩:eP)) sizeOf2 c5 (h.trans (cH e)) rfl rfl rfl rfl rfl b6 j g rfl rfl (dU rfl) rfl rfl rfl (fun b1 (b7:aN G K (bB 60 K a1 c2 (bT b q)::rows [9,130] b q::L) b1)=>(aG (aL (aI (v:=i64 (wr (d+1))) (aA (cD rfl rfl) (aD (v:=i64 (wr ((wr (d+1))+1))) (aG (aL (bG (v:=zS a1 q.length c2) (Eq.trans (Eq.trans x (congrArg (fun n=>zS a1 n c2) (cH e))) (congrArg (fun n=>zS a1 n c2) (cH g))) (bG y ?_))))))))))
   obtain ⟨m,a3,hm⟩:=aC hm
   refine aA (gE yR rfl l rfl rfl rfl a3) (aA (kD (k':=c.toNat * 4+2) rD l rfl rfl) (aA (aDa (t:=2) jG b7 (i:=0) rfl (lT ((h.trans (cH e)).trans (cH g)) a3 j) rfl rfl rfl) (aI (v:=i64 (wr ((wr (d+1))+1))) ?_)))
   have c6:aN G K (bB 60 K a1 c2 (bT b q)::rows [9,130] ((b).eraseIdx c.toNat) ((q).eraseIdx c.toNat)::bB 9 K J V m.L::bB 130 K Z a0 m.E::L) b1:=aN.arr 4 [3,2,0,1] (aN.rowOut (i:=1) b7 rfl j (aMC a3)) rfl
   have c7:aN G K (bB 9 K J V m.L::bB 60 K a1 c2 (bT b q)::rows [9,130] ((b).eraseIdx c.toNat) ((q).eraseIdx c.toNat)::bB 130 K Z a0 m.E::L) b1:=(aN.arr 3 [2,0,1] c6 rfl)
   obtain ⟨a4,c8,hm⟩:=aC hm
   refine aT (vs:=[zS J m.L.length V,i64 (wr ((wr (d+1))+1))]) call34 rfl (nT c8 c7) ?_
   rintro _ b2 ⟨rfl,c9,d0⟩
   obtain ⟨r,u,hm⟩:=aC hm
   have b8:aN G K (bB 60 K a1 c2 (bT b r)::rows [9,130] b r::L) b2:=aN.unfocusS (tys:=[9,130]) (x':=(⟨m.N,m.I,a4.2,m.E⟩:eP)) (aN.arr 4 [0,3,2,1] d0 rfl) ((h.trans (cH e)).trans (cH g)) j a3 (enc_Lts_0 c9) u
   refine aD (v:=i64 a4.1) (aG (aV (bG (v:=zS a1 r.length c2) (Eq.trans (Eq.trans (Eq.trans x (congrArg (fun n=>zS a1 n c2) (cH e))) (congrArg (fun n=>zS a1 n c2) (cH g))) (congrArg (fun n=>zS a1 n c2) (cH u))) (bG y ?_))));obtain ⟨o,a5,hm⟩:=aC hm
   refine aA (gE yR rfl l rfl rfl rfl a5) (aA (kD (k':=c.toNat * 4+3) nX l rfl rfl) (aA (aDa (t:=3) aEa b8 (i:=0) rfl (lT (((h.trans (cH e)).trans (cH g)).trans (cH u)) a5 j) rfl rfl rfl) (aI (v:=i64 a4.1) ?_)))
   have d1:aN G K (bB 60 K a1 c2 (bT b r)::rows [9,130] ((b).eraseIdx c.toNat) ((r).eraseIdx c.toNat)::bB 9 K J V o.L::bB 130 K Z a0 o.E::L) b2:=aN.arr 4 [3,2,0,1] (aN.rowOut (i:=1) b8 rfl j (aMC a5)) rfl
   have d2:aN G K (bB 130 K Z a0 o.E::bB 60 K a1 c2 (bT b r)::rows [9,130] ((b).eraseIdx c.toNat) ((r).eraseIdx c.toNat)::bB 9 K J V o.L::L) b2:=(aN.arr 4 [3,0,1,2] d1 rfl)
   obtain ⟨b9,d3,hm⟩:=aC hm
   refine aT (vs:=[zS Z o.E.length a0,i64 a4.1]) call63 rfl (aKT d3 d2) ?_
   rintro _ d4 ⟨rfl,d5,d6⟩
   obtain ⟨c0,a7,hm⟩:=aC hm
   have d7:aN G K (bB 60 K a1 c2 (bT b c0)::rows [9,130] b c0::L) d4:=aN.unfocusS (tys:=[9,130]) (x':=(⟨o.N,o.I,o.L,b9.2⟩:eP)) (aN.arr 4 [3,0,2,1] d6 rfl) (((h.trans (cH e)).trans (cH g)).trans (cH u)) j a5 (enc_Lts_1 d5) a7
   exact aD (v:=i64 b9.1) (cC (bM (aB (aV (bG y (aA (cD rfl rfl) (aD (v:=i64 (wr (c+1))) (aG ⟨_,(zI hm).symm,aU,(Eq.trans (Eq.trans (Eq.trans (Eq.trans x (congrArg (fun n=>zS a1 n c2) (cH e))) (congrArg (fun n=>zS a1 n c2) (cH g))) (congrArg (fun n=>zS a1 n c2) (cH u))) (congrArg (fun n=>zS a1 n c2) (cH a7))),rfl,rfl,((((h.trans (cH e)).trans (cH g)).trans (cH u)).trans (cH a7)),((((c3.trans (cH e)).trans (cH g)).trans (cH u)).trans (cH a7)),d7⟩))))))))
  ·exact cA
theorem aJr {e:(List eP)} {a:List (Dp.Hd eP)} {c:(List bV)} {d g:(List bK)} {k:Int} {R:(Int × (List eP) × (List bV) × (List bK) × (List bK))} (hm:xG e c d g k=some R) (u:aN G K (bB 60 K a1 c2 (bT a e)::rows [9,130] a e::bB 93 K a5 c6 c::bB 9 K a7 c8 d::bB 9 K a9 c10 g::L) w) (x:List.length a=List.length e):
  Calls prog 11 ([zA #[zS a1 e.length c2,zS a5 c.length c6,zS a7 d.length c8,zS a9 g.length c10],i64 k]:List Value).toArray w (eR fun v w'=>v=i64 R.1/\e.length=R.2.1.length/\c.length=R.2.2.1.length/\d.length=R.2.2.2.1.length/\g.length=R.2.2.2.2.length/\aN G K (bB 60 K a1 c2 (bT a R.2.1)::rows [9,130] a R.2.1::bB 93 K a5 c6 R.2.2.1::bB 9 K a7 c8 R.2.2.2.1::bB 9 K a9 c10 R.2.2.2.2::L) w'):=by
 let n:=[zS a1 e.length c2,zS a5 c.length c6,zS a7 d.length c8,zS a9 g.length c10]
 let j:=bB 9 K a7 c8 d
 let l:=bB 9 K a9 c10 g
 refine aQ func11 rfl (by kernel_rfl) (by show (2:Nat)<=22;decide) ?_;unfold xG at hm
 refine aL (dQ (v:=zA #[zS a1 e.length c2,zS a5 c.length c6,zS a7 d.length c8,zS a9 g.length c10]) (vs:=n) u rfl rfl (fun m y o=>(aD (v:=i64 0) (aG (aL (aA (bA (t':=0) aIf rfl rfl) (aA (bO sc_29 o (i:=0) rfl rfl rfl) (aI (v:=i64 k) ?_))))))))
 have z:aN G K (bB 60 K a1 c2 (bT a e)::rows [9,130] a e::box m 32 n::bB 93 K a5 c6 c::j::l::L) y:=(aN.arr 3 [1,2,0] o rfl)
 obtain ⟨b,J,hm⟩:=aC hm
 refine aT (vs:=[zS a1 e.length c2,i64 k]) call35 rfl (aLX J z x) ?_
 rintro _ p ⟨rfl,V,Z⟩
 have q:aN G K (bB 60 K a1 c2 (bT a b.2)::rows [9,130] a b.2::box m 32 [zS a1 b.2.length c2,zS a5 c.length c6,zS a7 d.length c8,zS a9 g.length c10]::bB 93 K a5 c6 c::j::l::L) p:=by rw [←V];exact Z
 refine aD (v:=i64 b.1) (aG (aL (aA (bA (t':=1) aJJ rfl rfl) (aA (bO aFy q (i:=2) rfl rfl rfl) (aI (v:=i64 b.1) ?_)))))
 have a0:aN G K (bB 93 K a5 c6 c::bB 60 K a1 c2 (bT a b.2)::rows [9,130] a b.2::box m 32 [zS a1 b.2.length c2,zS a5 c.length c6,zS a7 d.length c8,zS a9 g.length c10]::j::l::L) p:=(aN.arr 4 [3,0,1,2] q rfl)
 obtain ⟨h,a2,hm⟩:=aC hm
 refine aT (vs:=[zS a5 c.length c6,i64 b.1]) call33 rfl (aDd a2 a0) ?_
 rintro _ r ⟨rfl,a3,a4⟩
 have t:aN G K (bB 93 K a5 c6 h.2::bB 60 K a1 c2 (bT a b.2)::rows [9,130] a b.2::box m 32 [zS a1 b.2.length c2,zS a5 h.2.length c6,zS a7 d.length c8,zS a9 g.length c10]::j::l::L) r:=by rw [←a3];exact a4
 refine aD (v:=i64 h.1) (aG (aL (aA (bA (t':=2) aJK rfl rfl) (aA (bO jG t (i:=3) rfl rfl rfl) (aI (v:=i64 h.1) ?_)))))
 have a6:aN G K (j::bB 93 K a5 c6 h.2::bB 60 K a1 c2 (bT a b.2)::rows [9,130] a b.2::box m 32 [zS a1 b.2.length c2,zS a5 h.2.length c6,zS a7 d.length c8,zS a9 g.length c10]::l::L) r:=(aN.arr 5 [4,0,1,2,3] t rfl)
 obtain ⟨b0,a8,hm⟩:=aC hm
 exact aT (vs:=[zS a7 d.length c8,i64 h.1]) call34 rfl (nT a8 a6) cA
theorem yM {a:(List bK)} {k R:Int} (hm:pI a k=some R) (g:aN G K (L) w) (h:cE K a1 c2 a):
  Calls prog 38 ([zS a1 a.length c2,i64 k]:List Value).toArray w (eR fun v w'=>v=i64 R/\aN G K (L) w'):=by
 refine aQ func38 rfl (by kernel_rfl) (by show (2:Nat)<=22;decide) ?_;unfold pI at hm
 refine aL (aD (v:=i64 0) (aG (aO (aL (aD (v:=i64 0) (aG (bR [] (fun f w=>∃ b,vN b=some R/\f 1=i64 b/\aN G K (L) w) cA ?_)))))));obtain ⟨i,c,ho⟩:=aC hm
 exact dN [0] c (fun d e f w=>f 1=i64 d/\f 5=i64 e/\aN G K (L) w) cA cA
theorem aKU {a:(List Edge)} {k R:Int} (hm:aCO a k=some R) (g:aN G K (L) w) (h:cE K a1 c2 a):
  Calls prog 64 ([zS a1 a.length c2,i64 k]:List Value).toArray w (eR fun v w'=>v=i64 R/\aN G K (L) w'):=by
 refine aQ func64 rfl (by kernel_rfl) (by show (2:Nat)<=40;decide) ?_;unfold aCO at hm
 refine aL (aD (v:=i64 0) (aG (aO (aL (aD (v:=i64 0) (aG (bR [] (fun f w=>∃ b,aBe b=some R/\f 1=i64 b/\aN G K (L) w) cA ?_)))))));obtain ⟨i,c,ho⟩:=aC hm
 exact dN [0] c (fun d e f w=>f 1=i64 d/\f 5=i64 e/\aN G K (L) w) cA cA
theorem aLY {a:(List eP)} {k R:Int} (hm:aEv a k=some R) (g:aN G K (L) w) (h:cE K a1 c2 a):
  Calls prog 36 ([zS a1 a.length c2,i64 k]:List Value).toArray w (eR fun v w'=>v=i64 R/\aN G K (L) w'):=by
 refine aQ func36 rfl (by kernel_rfl) (by show (2:Nat)<=49;decide) ?_;unfold aEv at hm
 refine aL (aD (v:=i64 0) (aG (aO (aL (aD (v:=i64 0) (aG (bR [] (fun f w=>∃ b,aCl b=some R/\f 1=i64 b/\aN G K (L) w) cA ?_)))))));obtain ⟨i,c,ho⟩:=aC hm
 exact dN [0] c (fun d e f w=>f 1=i64 d/\f 5=i64 e/\aN G K (L) w) cA cA
theorem aIM {a:(List bV)} {k R:Int} (hm:uH a k=some R) (g:aN G K (L) w) (h:cE K a1 c2 a):
  Calls prog 37 ([zS a1 a.length c2,i64 k]:List Value).toArray w (eR fun v w'=>v=i64 R/\aN G K (L) w'):=by
 refine aQ func37 rfl (by kernel_rfl) (by show (2:Nat)<=43;decide) ?_;unfold uH at hm
 refine aL (aD (v:=i64 0) (aG (aO (aL (aD (v:=i64 0) (aG (bR [] (fun f w=>∃ b,tB b=some R/\f 1=i64 b/\aN G K (L) w) cA ?_)))))));obtain ⟨i,c,ho⟩:=aC hm
 exact dN [0] c (fun d e f w=>f 1=i64 d/\f 5=i64 e/\aN G K (L) w) cA cA
theorem aEA {a:iY} {k R:Int} (hm:sM a k=some R) (b:aN G K (L) w) (c:cE K a1 c2 a.Parts) (d:cE K a4 c5 a.Meetings) (e:cE K a7 c8 a.Allowed) (g:cE K a10 c11 a.Hidden):
  Calls prog 12 ([zA #[zS a1 a.Parts.length c2,zS a4 a.Meetings.length c5,zS a7 a.Allowed.length c8,zS a10 a.Hidden.length c11],i64 k]:List Value).toArray w (eR fun v w'=>v=i64 R/\aN G K (L) w'):=by
 exact cA
theorem aFV {p:cP} {R:Bool} (hm:rP p=some R) (hs:aN G K (L) w) (hG:G.lo=0) (h3:cE K a1 c2 p.Definitions) (h6:cE K a4 c5 p.Components) (h9:cE K a7 c8 p.Meetings) (j0:cE K a10 c11 p.Allowed) (j1:cE K a13 c14 p.Hidden):
  Calls prog 3 ([zA #[zS a1 p.Definitions.length c2,zS a4 p.Components.length c5,zS a7 p.Meetings.length c8,zS a10 p.Allowed.length c11,zS a13 p.Hidden.length c14]]:List Value).toArray w (eR fun v w'=>v=zB R/\aN G K (L) w'):=by
 let b0:=[zS a1 p.Definitions.length c2,zS a4 p.Components.length c5,zS a7 p.Meetings.length c8,zS a10 p.Allowed.length c11,zS a13 p.Hidden.length c14]
 let j7:=[zA #[zS a1 p.Definitions.length c2,zS a4 p.Components.length c5,zS a7 p.Meetings.length c8,zS a10 p.Allowed.length c11,zS a13 p.Hidden.length c14]]
 let l3:=[zS none 0 0,zS none 0 0,zS none 0 0,zS none 0 0]
 refine aQ func3 rfl (by kernel_rfl) (by show (1:Nat)<=96;decide) ?_;unfold rP at hm
 refine aL (dQ (v:=zA #[zS a1 p.Definitions.length c2,zS a4 p.Components.length c5,zS a7 p.Meetings.length c8,zS a10 p.Allowed.length c11,zS a13 p.Hidden.length c14]) (vs:=b0) hs rfl rfl (fun c7 w17 q3=>(aD (v:=zB false) (aG (aL (aD (v:=i64 1048576) (aG (aL (aA (eH (us:=b0) aRZ q3 (i:=0) rfl rfl rfl rfl) (aI (v:=i64 1048576) ?_))))))))));obtain ⟨q4,t8,hm⟩:=aC hm
 refine aT (vs:=[zA #[zS a1 p.Definitions.length c2,zS a4 p.Components.length c5,zS a7 p.Meetings.length c8,zS a10 p.Allowed.length c11,zS a13 p.Hidden.length c14],i64 1048576]) call4 rfl (aLH t8 q3 h3 h6 h9 j0 j1) ?_
 rintro _ w21 ⟨rfl,q5⟩
 refine aD (v:=i64 q4) (aG (aO (aL (aI (v:=i64 q4) (aA (cM rfl rfl) (aG ?_))))))
 rcases aH hm with ⟨q6,hm⟩|⟨q6,hm⟩
 ·exact cA
 ·refine aJ q6 rfl (aW (aB (aL (aA (eH (us:=b0) aRZ q5 (i:=0) rfl rfl rfl rfl) ?_))));obtain ⟨b1,t9,hm⟩:=aC hm
  refine aT (vs:=j7) call6 rfl (yE t9 q5 h3 h6 h9 j0 j1) ?_
  rintro _ j2 ⟨u0,u1,c60,q7,q8,q9,l4,l5,j8,j9,j3,j4,rfl,u2,u3,u4⟩
  obtain ⟨u5,l,u6,_,l6,_⟩:=aN.lendD' (i:=0) u4 u2 rfl rfl
  replace l6:aN G u5 (bB 91 K q7 q8 (bT q9 b1.Components)::rows [2] q9 b1.Components::bB 93 K l4 l5 b1.Meetings::bB 9 K j8 j9 b1.Allowed::bB 9 K j3 j4 b1.Hidden::box c7 27 b0::L) j2:=l6
  obtain ⟨u7,e,u8,_,l7,_⟩:=aN.lendD' (i:=0) l6 u3 rfl rfl
  replace l7:aN G u7 (bB 93 K l4 l5 b1.Meetings::bB 9 K j8 j9 b1.Allowed::bB 9 K j3 j4 b1.Hidden::box c7 27 b0::L) j2:=l7
  obtain ⟨u9,h,v0,l8⟩:=aN.giveSp l7 (zL l e) .head
  replace l8:aN G u9 (bB 9 K j8 j9 b1.Allowed::bB 9 K j3 j4 b1.Hidden::box c7 27 b0::L) j2:=l8
  obtain ⟨v1,j,v2,l9⟩:=aN.giveSp l8 (zL (zL l e) h) .head
  replace l9:aN G v1 (bB 9 K j3 j4 b1.Hidden::box c7 27 b0::L) j2:=l9
  obtain ⟨v3,k,v4,m0⟩:=aN.giveSp l9 (zL (zL (zL l e) h) j) .head
  replace m0:aN G v3 (box c7 27 b0::L) j2:=m0
  obtain ⟨b,v5,hm⟩:=aC hm
  refine aT (vs:=[zA #[zS u0 b1.Definitions.length u1,zS q7 b1.Components.length q8,zS l4 b1.Meetings.length l5,zS j8 b1.Allowed.length j9,zS j3 b1.Hidden.length j4]]) call5 rfl (aKL (s_:=⟨b1.Definitions,b1.Components,b1.Meetings,b1.Allowed,b1.Hidden⟩) v5 m0 (u6.mono (zL (zL (zL e h) j) k)) (u8.mono (zL (zL h j) k)) (v0.mono (zL j k)) (v2.mono k) v4) ?_
  rintro _ w75 ⟨b2,Z,a0,a2,a3,a5,a6,a8,a9,rfl,m,v6⟩
  refine aI (v:=Value.tuple #[zA #[zS Z b.1.Parts.length a0,zS a2 b.1.Meetings.length a3,zS a5 b.1.Allowed.length a6,zS a8 b.1.Hidden.length a9],i64 b.2]) (aA (dF rfl rfl) (aA (dF rfl rfl) (cR (vs:=l3) zeroValue32 v6 rfl (fun d4 w78 v7=>(cO (i:=0) (ns:=[zS Z b.1.Parts.length a0,zS a2 b.1.Meetings.length a3,zS a5 b.1.Allowed.length a6,zS a8 b.1.Hidden.length a9]) (us:=[zS Z b.1.Parts.length a0,zS a2 b.1.Meetings.length a3,zS a5 b.1.Allowed.length a6,zS a8 b.1.Hidden.length a9]) sizeOf32 v7 rfl rfl rfl rfl rfl (dU rfl) rfl rfl (fun v8 (r0:aN G b2 (box d4 32 [zS Z b.1.Parts.length a0,zS a2 b.1.Meetings.length a3,zS a5 b.1.Allowed.length a6,zS a8 b.1.Hidden.length a9]::bB 60 b2 Z a0 b.1.Parts::bB 93 K a2 a3 b.1.Meetings::bB 9 K a5 a6 b.1.Allowed::bB 9 K a8 a9 b.1.Hidden::box c7 27 b0::L) v8)=>(aD (v:=i64 b.2) (aG (aL (aA (eH (us:=b0) aRZ r0 (i:=5) rfl rfl rfl rfl) ?_))))))))))
  obtain ⟨d,v9,hm⟩:=aC hm
  refine aT (vs:=j7) call6 rfl (yE v9 r0 (h3.mono (zL (zL (zL (zL (zL l e) h) j) k) m)) (h6.mono (zL (zL (zL (zL (zL l e) h) j) k) m)) (h9.mono (zL (zL (zL (zL (zL l e) h) j) k) m)) (j0.mono (zL (zL (zL (zL (zL l e) h) j) k) m)) (j1.mono (zL (zL (zL (zL (zL l e) h) j) k) m))) ?_
  rintro _ w98 ⟨b5,b6,d5,b7,b8,d6,b9,c0,c1,c3,c4,c6,rfl,m1,m2,w0⟩
  refine cR (vs:=[zS none 0 0,zS none 0 0,zS none 0 0,zS none 0 0,zS none 0 0]) zeroValue38 w0 rfl (fun j5 c64 w1=>(cO (i:=0) (ns:=[zS b5 d.Definitions.length b6,zS b7 d.Components.length b8,zS b9 d.Meetings.length c0,zS c1 d.Allowed.length c3,zS c4 d.Hidden.length c6]) (us:=[zS b5 d.Definitions.length b6,zS b7 d.Components.length b8,zS b9 d.Meetings.length c0,zS c1 d.Allowed.length c3,zS c4 d.Hidden.length c6]) sizeOf38 w1 rfl rfl rfl rfl rfl (dU rfl) rfl rfl (fun w2 (r1:aN G b2 (box j5 38 [zS b5 d.Definitions.length b6,zS b7 d.Components.length b8,zS b9 d.Meetings.length c0,zS c1 d.Allowed.length c3,zS c4 d.Hidden.length c6]::bB 89 K b5 b6 (bT d5 d.Definitions)::rows [162,203,242] d5 d.Definitions::bB 91 K b7 b8 (bT d6 d.Components)::rows [2] d6 d.Components::bB 93 K b9 c0 d.Meetings::bB 9 K c1 c3 d.Allowed::bB 9 K c4 c6 d.Hidden::box d4 32 [zS Z b.1.Parts.length a0,zS a2 b.1.Meetings.length a3,zS a5 b.1.Allowed.length a6,zS a8 b.1.Hidden.length a9]::bB 60 b2 Z a0 b.1.Parts::bB 93 K a2 a3 b.1.Meetings::bB 9 K a5 a6 b.1.Allowed::bB 9 K a8 a9 b.1.Hidden::box c7 27 b0::L) w2)=>(aG (aL (aA (eH (us:=[zS b5 d.Definitions.length b6,zS b7 d.Components.length b8,zS b9 d.Meetings.length c0,zS c1 d.Allowed.length c3,zS c4 d.Hidden.length c6]) aHp r1 (i:=0) rfl rfl rfl rfl) ?_))))))
  obtain ⟨c65,m3,w3,c66,w4,w5⟩:=aN.lendD' (i:=1) r1 m1 rfl rfl
  obtain ⟨c67,k0,w6,c69,w7,w8⟩:=aN.lendD' (i:=1) w4 m2 rfl rfl
  obtain ⟨c71,k1,w9,x0,x1⟩:=aN.lendSp w7 (zL (zL (zL (zL (zL (zL (zL l e) h) j) k) m) m3) k0) zt1
  obtain ⟨c73,k2,x2,x3,x4⟩:=aN.lendSp x0 (zL (zL (zL (zL (zL (zL (zL (zL l e) h) j) k) m) m3) k0) k1) zt1
  obtain ⟨c75,k3,x5,x6,x7⟩:=aN.lendSp x3 (zL (zL (zL (zL (zL (zL (zL (zL (zL l e) h) j) k) m) m3) k0) k1) k2) zt1
  obtain ⟨c,x8,hm⟩:=aC hm
  refine aT (vs:=[zA #[zS b5 d.Definitions.length b6,zS b7 d.Components.length b8,zS b9 d.Meetings.length c0,zS c1 d.Allowed.length c3,zS c4 d.Hidden.length c6]]) call7 rfl (aFU x8 x6 hG (w3.mono (zL (zL (zL k0 k1) k2) k3)) (w6.mono (zL (zL k1 k2) k3)) (w9.mono (zL k2 k3)) (x2.mono k3) x5) ?_
  rintro _ c76 ⟨q,r,b3,u,x,y,z,J,V,rfl,i5,x9⟩
  have y0:=x7 _ _ x9
  have y1:=x4 _ _ y0
  have y2:=x1 _ _ y1
  have y3:=w8 _ _ y2
  have y4:=w5 _ _ y3
  refine aI (v:=Value.tuple #[zA #[zS q c.1.Parts.length r,zS u c.1.Meetings.length x,zS y c.1.Allowed.length z,zS J c.1.Hidden.length V],i64 c.2]) (aA (dF rfl rfl) (aA (dF rfl rfl) (cR (vs:=l3) zeroValue32 y4 rfl (fun d7 c77 y5=>(cO (i:=0) (ns:=[zS q c.1.Parts.length r,zS u c.1.Meetings.length x,zS y c.1.Allowed.length z,zS J c.1.Hidden.length V]) (us:=[zS q c.1.Parts.length r,zS u c.1.Meetings.length x,zS y c.1.Allowed.length z,zS J c.1.Hidden.length V]) sizeOf32 y5 rfl rfl rfl rfl rfl (dU rfl) rfl rfl (fun y6 (m4:aN G b2 (box d7 32 [zS q c.1.Parts.length r,zS u c.1.Meetings.length x,zS y c.1.Allowed.length z,zS J c.1.Hidden.length V]::bB 89 K b5 b6 (bT d5 d.Definitions)::rows [162,203,242] d5 d.Definitions::bB 91 K b7 b8 (bT d6 d.Components)::rows [2] d6 d.Components::bB 93 K b9 c0 d.Meetings::bB 9 K c1 c3 d.Allowed::bB 9 K c4 c6 d.Hidden::bB 60 K q r (bT b3 c.1.Parts)::rows [9,130] b3 c.1.Parts::bB 93 K u x c.1.Meetings::bB 9 K y z c.1.Allowed::bB 9 K J V c.1.Hidden::box j5 38 [zS b5 d.Definitions.length b6,zS b7 d.Components.length b8,zS b9 d.Meetings.length c0,zS c1 d.Allowed.length c3,zS c4 d.Hidden.length c6]::box d4 32 [zS Z b.1.Parts.length a0,zS a2 b.1.Meetings.length a3,zS a5 b.1.Allowed.length a6,zS a8 b.1.Hidden.length a9]::bB 60 b2 Z a0 b.1.Parts::bB 93 K a2 a3 b.1.Meetings::bB 9 K a5 a6 b.1.Allowed::bB 9 K a8 a9 b.1.Hidden::box c7 27 b0::L) y6)=>(aD (v:=i64 c.2) (aG (aO (aO (cW [1,4,5,6,7,8] (fun f w=>∃ m5,lC p b d c m5=some R/\f 40=zB m5/\aN G b2 (box d7 32 [zS q c.1.Parts.length r,zS u c.1.Meetings.length x,zS y c.1.Allowed.length z,zS J c.1.Hidden.length V]::bB 89 K b5 b6 (bT d5 d.Definitions)::rows [162,203,242] d5 d.Definitions::bB 91 K b7 b8 (bT d6 d.Components)::rows [2] d6 d.Components::bB 93 K b9 c0 d.Meetings::bB 9 K c1 c3 d.Allowed::bB 9 K c4 c6 d.Hidden::bB 60 K q r (bT b3 c.1.Parts)::rows [9,130] b3 c.1.Parts::bB 93 K u x c.1.Meetings::bB 9 K y z c.1.Allowed::bB 9 K J V c.1.Hidden::box j5 38 [zS b5 d.Definitions.length b6,zS b7 d.Components.length b8,zS b9 d.Meetings.length c0,zS c1 d.Allowed.length c3,zS c4 d.Hidden.length c6]::box d4 32 [zS Z b.1.Parts.length a0,zS a2 b.1.Meetings.length a3,zS a5 b.1.Allowed.length a6,zS a8 b.1.Hidden.length a9]::bB 60 b2 Z a0 b.1.Parts::bB 93 K a2 a3 b.1.Meetings::bB 9 K a5 a6 b.1.Allowed::bB 9 K a8 a9 b.1.Hidden::box c7 27 b0::L) w) ?_ ?_)))))))))))
  ·rintro f c78 ⟨m5,hm,r2,r3⟩
   unfold lC at hm
   refine aB ?_
   rcases aH hm with ⟨m6,hm⟩|⟨m6,hm⟩
   ·refine aM m6 r2 (aL (aD (v:=zB false) (aG ?_)));obtain rfl:=zI hm
    exact aX (aK (aP results3 rfl ⟨rfl,(aN.weakK (aN.arr 20 [] r3 rfl) (zL (zL (zL (zL (zL l e) h) j) k) m))⟩))
   ·refine aJ m6 r2 (aW (aB (aO (aO ?_))));obtain ⟨c79,d2,y8,y9,z0⟩:=aN.lendBp r3 (.tail zt12)
    obtain ⟨z1,d0,z2,r4,z3⟩:=aN.lendBp y9 (.tail (.tail (.tail (.tail (.tail (.tail zt12))))))
    refine jJ (C:=fun w'=>∃ L',aN G z1 L' w') [(0,0),(1,0),(2,1),(3,1),(4,0)] cB (by kernel_rfl) (fun _ hg=>⟨_,aN.mono r4 hg⟩) (fun c80 z4=>?_)
    have j6:=aN.mono r4 z4
    refine dV rfl (fun _ ⟨_,j6⟩=>eK (t:=0) (vs:=[zS b5 d.Definitions.length b6,zS b7 d.Components.length b8,zS b9 d.Meetings.length c0,zS c1 d.Allowed.length c3,zS c4 d.Hidden.length c6]) aHp j6 (y8.mono d0) rfl rfl rfl) (dV rfl (fun _ ⟨_,j6⟩=>eK (t:=0) (vs:=b0) aRZ j6 z2 rfl rfl rfl) (pP rfl ?_));obtain ⟨b4,z5,hm⟩:=aC hm
    refine aT (vs:=j7) call6 rfl (yE z5 j6 (h3.mono (zL (zL (zL (zL (zL (zL (zL l e) h) j) k) m) d2) d0)) (h6.mono (zL (zL (zL (zL (zL (zL (zL l e) h) j) k) m) d2) d0)) (h9.mono (zL (zL (zL (zL (zL (zL (zL l e) h) j) k) m) d2) d0)) (j0.mono (zL (zL (zL (zL (zL (zL (zL l e) h) j) k) m) d2) d0)) (j1.mono (zL (zL (zL (zL (zL (zL (zL l e) h) j) k) m) d2) d0))) ?_
    rintro _ c81 ⟨m7,m8,k4,m9,n0,k5,n1,n2,n3,n4,n5,n6,rfl,z6,z7,r5⟩
    refine cC (aB ⟨⟨_,r5⟩,?_⟩)
    refine pP rfl ?_;obtain ⟨c82,i6,z8,c83,z9,a00⟩:=aN.lendD' (i:=8) r5 m1 rfl rfl
    obtain ⟨c84,e6,a01,c86,a02,a03⟩:=aN.lendD' (i:=8) z9 m2 rfl rfl
    obtain ⟨c87,e7,a04,a05,a06⟩:=aN.lendSp a02 (zL (zL (zL (zL (zL (zL (zL (zL (zL l e) h) j) k) m) d2) d0) i6) e6) zt8
    obtain ⟨c88,e8,a07,a08,a09⟩:=aN.lendSp a05 (zL (zL (zL (zL (zL (zL (zL (zL (zL (zL l e) h) j) k) m) d2) d0) i6) e6) e7) zt8
    obtain ⟨c90,e9,a11,a12,a14⟩:=aN.lendSp a08 (zL (zL (zL (zL (zL (zL (zL (zL (zL (zL (zL l e) h) j) k) m) d2) d0) i6) e6) e7) e8) zt8
    obtain ⟨c91,e5,a15,c92,a16,a17⟩:=aN.lendD' (i:=0) a12 z6 rfl rfl
    obtain ⟨c94,d8,a18,c96,a19,a20⟩:=aN.lendD' (i:=0) a16 z7 rfl rfl
    obtain ⟨c98,d9,a21,a22,a23⟩:=aN.lendSp a19 (zL (zL (zL (zL (zL (zL (zL (zL (zL (zL (zL (zL (zL (zL l e) h) j) k) m) d2) d0) i6) e6) e7) e8) e9) e5) d8) .head
    obtain ⟨c99,e0,a24,a25,a26⟩:=aN.lendSp a22 (zL (zL (zL (zL (zL (zL (zL (zL (zL (zL (zL (zL (zL (zL (zL l e) h) j) k) m) d2) d0) i6) e6) e7) e8) e9) e5) d8) d9) .head
    obtain ⟨d00,e1,a28,a29,a30⟩:=aN.lendSp a25 (zL (zL (zL (zL (zL (zL (zL (zL (zL (zL (zL (zL (zL (zL (zL (zL l e) h) j) k) m) d2) d0) i6) e6) e7) e8) e9) e5) d8) d9) e0) .head
    obtain ⟨d01,a32,hm⟩:=aC hm
    refine aT (vs:=[zA #[zS b5 d.Definitions.length b6,zS b7 d.Components.length b8,zS b9 d.Meetings.length c0,zS c1 d.Allowed.length c3,zS c4 d.Hidden.length c6],zA #[zS m7 b4.Definitions.length m8,zS m9 b4.Components.length n0,zS n1 b4.Meetings.length n2,zS n3 b4.Allowed.length n4,zS n5 b4.Hidden.length n6]]) call9 rfl (aLW a32 a29 (z8.mono (zL (zL (zL (zL (zL (zL (zL (zL e6 e7) e8) e9) e5) d8) d9) e0) e1)) (a01.mono (zL (zL (zL (zL (zL (zL (zL e7 e8) e9) e5) d8) d9) e0) e1)) (a04.mono (zL (zL (zL (zL (zL (zL e8 e9) e5) d8) d9) e0) e1)) (a07.mono (zL (zL (zL (zL (zL e9 e5) d8) d9) e0) e1)) (a11.mono (zL (zL (zL (zL e5 d8) d9) e0) e1)) (a15.mono (zL (zL (zL d8 d9) e0) e1)) (a18.mono (zL (zL d9 e0) e1)) (a21.mono (zL e0 e1)) (a24.mono e1) a28) ?_
    rintro _ a33 ⟨rfl,a34⟩
    have a36:=a30 _ _ a34
    have a38:=a26 _ _ a36
    have a40:=a23 _ _ a38
    have a41:=a20 _ _ a40
    have a42:=a17 _ _ a41
    have a43:=a14 _ _ a42
    have a44:=a09 _ _ a43
    have a45:=a06 _ _ a44
    have a46:=a03 _ _ a45
    have r6:=a00 _ _ a46
    refine cC (aB ⟨⟨_,r6⟩,?_⟩)
    refine dV rfl (fun _ _=>dA rfl) (sQ ?_)
    have a47:=z3 _ _ r6
    have n7:=z0 _ _ a47
    refine aB ?_
    rcases aH hm with ⟨n8,hm⟩|⟨n8,hm⟩
    ·refine aM n8 rfl (aL (aD (v:=zB false) (aG ?_)));obtain rfl:=zI hm
     exact aX (aK (aP results3 rfl ⟨rfl,(aN.weakK (aN.arr 27 [] n7 rfl) (zL (zL (zL (zL (zL l e) h) j) k) m))⟩))
    ·refine aJ n8 rfl (aW (aB (aL (aD (v:=i64 1) (aG (aL (aA (eH (us:=[zS b5 d.Definitions.length b6,zS b7 d.Components.length b8,zS b9 d.Meetings.length c0,zS c1 d.Allowed.length c3,zS c4 d.Hidden.length c6]) aHp n7 (i:=0) rfl rfl rfl rfl) (aI (v:=i64 1) ?_))))))))
     have a49:aN G b2 (bB 89 K b5 b6 (bT d5 d.Definitions)::rows [162,203,242] d5 d.Definitions::bB 91 K b7 b8 (bT d6 d.Components)::rows [2] d6 d.Components::bB 93 K b9 c0 d.Meetings::bB 9 K c1 c3 d.Allowed::bB 9 K c4 c6 d.Hidden::box j5 38 [zS b5 d.Definitions.length b6,zS b7 d.Components.length b8,zS b9 d.Meetings.length c0,zS c1 d.Allowed.length c3,zS c4 d.Hidden.length c6]::box c7 27 b0::bB 89 K m7 m8 (bT k4 b4.Definitions)::rows [162,203,242] k4 b4.Definitions::bB 91 K m9 n0 (bT k5 b4.Components)::rows [2] k5 b4.Components::bB 93 K n1 n2 b4.Meetings::bB 9 K n3 n4 b4.Allowed::bB 9 K n5 n6 b4.Hidden::box d7 32 [zS q c.1.Parts.length r,zS u c.1.Meetings.length x,zS y c.1.Allowed.length z,zS J c.1.Hidden.length V]::bB 60 K q r (bT b3 c.1.Parts)::rows [9,130] b3 c.1.Parts::bB 93 K u x c.1.Meetings::bB 9 K y z c.1.Allowed::bB 9 K J V c.1.Hidden::box d4 32 [zS Z b.1.Parts.length a0,zS a2 b.1.Meetings.length a3,zS a5 b.1.Allowed.length a6,zS a8 b.1.Hidden.length a9]::bB 60 b2 Z a0 b.1.Parts::bB 93 K a2 a3 b.1.Meetings::bB 9 K a5 a6 b.1.Allowed::bB 9 K a8 a9 b.1.Hidden::L) a33:=(aN.arr 9 [2,3,4,5,6,7,8,0,1] n7 rfl)
     obtain ⟨c9,a50,hm⟩:=aC hm
     refine aT (vs:=[zA #[zS b5 d.Definitions.length b6,zS b7 d.Components.length b8,zS b9 d.Meetings.length c0,zS c1 d.Allowed.length c3,zS c4 d.Hidden.length c6],i64 1]) call10 rfl (aKe a50 a49 m1 m2) ?_
     rintro _ a51 ⟨rfl,a52,a53,a54,a55,a56,a57⟩
     have k6:aN G b2 (bB 89 K b5 b6 (bT d5 c9.2.1)::rows [162,203,242] d5 c9.2.1::bB 91 K b7 b8 (bT d6 c9.2.2.1)::rows [2] d6 c9.2.2.1::bB 93 K b9 c0 c9.2.2.2.1::bB 9 K c1 c3 c9.2.2.2.2.1::bB 9 K c4 c6 c9.2.2.2.2.2::box j5 38 [zS b5 c9.2.1.length b6,zS b7 c9.2.2.1.length b8,zS b9 c9.2.2.2.1.length c0,zS c1 c9.2.2.2.2.1.length c3,zS c4 c9.2.2.2.2.2.length c6]::box c7 27 b0::bB 89 K m7 m8 (bT k4 b4.Definitions)::rows [162,203,242] k4 b4.Definitions::bB 91 K m9 n0 (bT k5 b4.Components)::rows [2] k5 b4.Components::bB 93 K n1 n2 b4.Meetings::bB 9 K n3 n4 b4.Allowed::bB 9 K n5 n6 b4.Hidden::box d7 32 [zS q c.1.Parts.length r,zS u c.1.Meetings.length x,zS y c.1.Allowed.length z,zS J c.1.Hidden.length V]::bB 60 K q r (bT b3 c.1.Parts)::rows [9,130] b3 c.1.Parts::bB 93 K u x c.1.Meetings::bB 9 K y z c.1.Allowed::bB 9 K J V c.1.Hidden::box d4 32 [zS Z b.1.Parts.length a0,zS a2 b.1.Meetings.length a3,zS a5 b.1.Allowed.length a6,zS a8 b.1.Hidden.length a9]::bB 60 b2 Z a0 b.1.Parts::bB 93 K a2 a3 b.1.Meetings::bB 9 K a5 a6 b.1.Allowed::bB 9 K a8 a9 b.1.Hidden::L) a51:=by rw [←a52,←a53,←a54,←a55,←a56];exact a57
     refine aD (v:=i64 c9.1) (aG (aO (aO (cW [1,4,5,7] (fun f w=>∃ n9,jL p b c n9=some R/\f 61=zB n9/\aN G b2 (box c7 27 b0::box d7 32 [zS q c.1.Parts.length r,zS u c.1.Meetings.length x,zS y c.1.Allowed.length z,zS J c.1.Hidden.length V]::bB 60 K q r (bT b3 c.1.Parts)::rows [9,130] b3 c.1.Parts::bB 93 K u x c.1.Meetings::bB 9 K y z c.1.Allowed::bB 9 K J V c.1.Hidden::box d4 32 [zS Z b.1.Parts.length a0,zS a2 b.1.Meetings.length a3,zS a5 b.1.Allowed.length a6,zS a8 b.1.Hidden.length a9]::bB 60 b2 Z a0 b.1.Parts::bB 93 K a2 a3 b.1.Meetings::bB 9 K a5 a6 b.1.Allowed::bB 9 K a8 a9 b.1.Hidden::L) w) ?_ ?_))))
     ·rintro f a58 ⟨n9,hm,r7,o0⟩
      unfold jL at hm
      refine aB ?_
      rcases aH hm with ⟨o1,hm⟩|⟨o1,hm⟩
      ·refine aM o1 r7 (aL (aD (v:=zB false) (aG ?_)));obtain rfl:=zI hm
       exact aX (aK (aP results3 rfl ⟨rfl,(aN.weakK (aN.arr 12 [] o0 rfl) (zL (zL (zL (zL (zL l e) h) j) k) m))⟩))
      ·refine aJ o1 r7 (aW (aB (aL (aD (v:=i64 1) (aG (aL (aA (eH (us:=[zS q c.1.Parts.length r,zS u c.1.Meetings.length x,zS y c.1.Allowed.length z,zS J c.1.Hidden.length V]) wB o0 (i:=1) rfl rfl rfl rfl) (aI (v:=i64 1) ?_))))))))
       have a60:aN G b2 (bB 60 K q r (bT b3 c.1.Parts)::rows [9,130] b3 c.1.Parts::bB 93 K u x c.1.Meetings::bB 9 K y z c.1.Allowed::bB 9 K J V c.1.Hidden::box c7 27 b0::box d7 32 [zS q c.1.Parts.length r,zS u c.1.Meetings.length x,zS y c.1.Allowed.length z,zS J c.1.Hidden.length V]::box d4 32 [zS Z b.1.Parts.length a0,zS a2 b.1.Meetings.length a3,zS a5 b.1.Allowed.length a6,zS a8 b.1.Hidden.length a9]::bB 60 b2 Z a0 b.1.Parts::bB 93 K a2 a3 b.1.Meetings::bB 9 K a5 a6 b.1.Allowed::bB 9 K a8 a9 b.1.Hidden::L) a58:=(aN.arr 7 [2,3,4,5,6,0,1] o0 rfl)
       obtain ⟨n,a61,hm⟩:=aC hm
       refine aT (vs:=[zA #[zS q c.1.Parts.length r,zS u c.1.Meetings.length x,zS y c.1.Allowed.length z,zS J c.1.Hidden.length V],i64 1]) call11 rfl (aJr a61 a60 i5) ?_
       rintro _ a62 ⟨rfl,k7,a63,a64,a65,a66⟩
       have r8:aN G b2 (bB 60 K q r (bT b3 n.2.1)::rows [9,130] b3 n.2.1::bB 93 K u x n.2.2.1::bB 9 K y z n.2.2.2.1::bB 9 K J V n.2.2.2.2::box c7 27 b0::box d7 32 [zS q n.2.1.length r,zS u n.2.2.1.length x,zS y n.2.2.2.1.length z,zS J n.2.2.2.2.length V]::box d4 32 [zS Z b.1.Parts.length a0,zS a2 b.1.Meetings.length a3,zS a5 b.1.Allowed.length a6,zS a8 b.1.Hidden.length a9]::bB 60 b2 Z a0 b.1.Parts::bB 93 K a2 a3 b.1.Meetings::bB 9 K a5 a6 b.1.Allowed::bB 9 K a8 a9 b.1.Hidden::L) a62:=by rw [←k7,←a63,←a64,←a65];exact a66
       refine aD (v:=i64 n.1) (aG (aL (aD (v:=i64 1) (aG (aL (aA (eH (us:=[zS q n.2.1.length r,zS u n.2.2.1.length x,zS y n.2.2.2.1.length z,zS J n.2.2.2.2.length V]) wB r8 (i:=6) rfl rfl rfl rfl) (aI (v:=i64 1) ?_)))))));obtain ⟨d02,o2,a68,d03,a70,a72⟩:=aN.lendD' (i:=0) r8 (i5.trans k7) rfl rfl
       obtain ⟨d04,o3,a74,a75,a76⟩:=aN.lendSp a70 (zL (zL (zL (zL (zL (zL l e) h) j) k) m) o2) .head
       obtain ⟨d05,o4,a77,a78,a79⟩:=aN.lendSp a75 (zL (zL (zL (zL (zL (zL (zL l e) h) j) k) m) o2) o3) .head
       obtain ⟨d06,o5,a80,a81,a82⟩:=aN.lendSp a78 (zL (zL (zL (zL (zL (zL (zL (zL l e) h) j) k) m) o2) o3) o4) .head
       obtain ⟨o6,a83,hm⟩:=aC hm
       refine aT (vs:=[zA #[zS q n.2.1.length r,zS u n.2.2.1.length x,zS y n.2.2.2.1.length z,zS J n.2.2.2.2.length V],i64 1]) call12 rfl (aEA (a:=⟨n.2.1,n.2.2.1,n.2.2.2.1,n.2.2.2.2⟩) a83 a81 (a68.mono (zL (zL o3 o4) o5)) (a74.mono (zL o4 o5)) (a77.mono o5) a80) ?_
       rintro _ d07 ⟨rfl,a85⟩
       have a86:=a82 _ _ a85
       have a87:=a79 _ _ a86
       have a89:=a76 _ _ a87
       have k8:=a72 _ _ a89
       refine aD (v:=i64 o6) (aG (aO (aL (aI (v:=i64 o6) (aA (cM rfl rfl) (aG ?_))))))
       rcases aH hm with ⟨o7,hm⟩|⟨o7,hm⟩
       ·refine aM o7 rfl (aL (aD (v:=zB false) (aG ?_)));obtain rfl:=zI hm
        exact aX (aK (aP results3 rfl ⟨rfl,(aN.weakK (aN.arr 12 [] k8 rfl) (zL (zL (zL (zL (zL l e) h) j) k) m))⟩))
       ·refine aJ o7 rfl (aW (aB (aO (aL (aI (v:=i64 o6) (aI (v:=i64 n.1) (aA (gL rfl rfl) (aG ?_))))))))
        rcases aH hm with ⟨o8,hm⟩|⟨o8,hm⟩
        ·refine aM o8 rfl (aL (aD (v:=zB false) (aG ?_)));obtain rfl:=zI hm
         exact aX (aK (aP results3 rfl ⟨rfl,(aN.weakK (aN.arr 12 [] k8 rfl) (zL (zL (zL (zL (zL l e) h) j) k) m))⟩))
        ·refine aJ o8 rfl (aW (aB (aL (aA (eH (us:=b0) aRZ k8 (i:=5) rfl rfl rfl rfl) ?_))));obtain ⟨d1,a93,hm⟩:=aC hm
         refine aT (vs:=j7) call6 rfl (yE a93 k8 (h3.mono (zL (zL (zL (zL (zL l e) h) j) k) m)) (h6.mono (zL (zL (zL (zL (zL l e) h) j) k) m)) (h9.mono (zL (zL (zL (zL (zL l e) h) j) k) m)) (j0.mono (zL (zL (zL (zL (zL l e) h) j) k) m)) (j1.mono (zL (zL (zL (zL (zL l e) h) j) k) m))) ?_
         rintro _ d08 ⟨r9,s0,s1,s2,s3,s4,s5,s6,s7,s8,s9,t0,rfl,a95,a97,a98⟩
         obtain ⟨d09,o9,a99,d10,b00,b01⟩:=aN.lendD' (i:=0) a98 a95 rfl rfl
         obtain ⟨d11,k9,b02,d12,b03,b04⟩:=aN.lendD' (i:=0) b00 a97 rfl rfl
         obtain ⟨d13,l0,b05,b06,b07⟩:=aN.lendSp b03 (zL (zL (zL (zL (zL (zL (zL l e) h) j) k) m) o9) k9) .head
         obtain ⟨d14,l1,b08,b09,b10⟩:=aN.lendSp b06 (zL (zL (zL (zL (zL (zL (zL (zL l e) h) j) k) m) o9) k9) l0) .head
         obtain ⟨d15,l2,b11,b12,b13⟩:=aN.lendSp b09 (zL (zL (zL (zL (zL (zL (zL (zL (zL l e) h) j) k) m) o9) k9) l0) l1) .head
         obtain ⟨o,b14,hm⟩:=aC hm
         refine aT (vs:=[zA #[zS r9 d1.Definitions.length s0,zS s2 d1.Components.length s3,zS s5 d1.Meetings.length s6,zS s7 d1.Allowed.length s8,zS s9 d1.Hidden.length t0]]) call7 rfl (aFU b14 b12 hG (a99.mono (zL (zL (zL k9 l0) l1) l2)) (b02.mono (zL (zL l0 l1) l2)) (b05.mono (zL l1 l2)) (b08.mono l2) b11) ?_
         rintro _ d16 ⟨f0,f1,t1,f2,f3,f4,f5,f6,f7,rfl,b15,b17⟩
         have b18:=b13 _ _ b17
         have b19:=b10 _ _ b18
         have b20:=b07 _ _ b19
         have b21:=b04 _ _ b20
         have b22:=b01 _ _ b21
         refine aI (v:=Value.tuple #[zA #[zS f0 o.1.Parts.length f1,zS f2 o.1.Meetings.length f3,zS f4 o.1.Allowed.length f5,zS f6 o.1.Hidden.length f7],i64 o.2]) (aA (dF rfl rfl) (aA (dF rfl rfl) (cR (vs:=l3) zeroValue32 b22 rfl (fun b23 d17 b24=>(cO (i:=0) (ns:=[zS f0 o.1.Parts.length f1,zS f2 o.1.Meetings.length f3,zS f4 o.1.Allowed.length f5,zS f6 o.1.Hidden.length f7]) (us:=[zS f0 o.1.Parts.length f1,zS f2 o.1.Meetings.length f3,zS f4 o.1.Allowed.length f5,zS f6 o.1.Hidden.length f7]) sizeOf32 b24 rfl rfl rfl rfl rfl (dU rfl) rfl rfl (fun b25 (p0:aN G b2 (box b23 32 [zS f0 o.1.Parts.length f1,zS f2 o.1.Meetings.length f3,zS f4 o.1.Allowed.length f5,zS f6 o.1.Hidden.length f7]::bB 89 K r9 s0 (bT s1 d1.Definitions)::rows [162,203,242] s1 d1.Definitions::bB 91 K s2 s3 (bT s4 d1.Components)::rows [2] s4 d1.Components::bB 93 K s5 s6 d1.Meetings::bB 9 K s7 s8 d1.Allowed::bB 9 K s9 t0 d1.Hidden::bB 60 K f0 f1 (bT t1 o.1.Parts)::rows [9,130] t1 o.1.Parts::bB 93 K f2 f3 o.1.Meetings::bB 9 K f4 f5 o.1.Allowed::bB 9 K f6 f7 o.1.Hidden::bB 60 K q r (bT b3 n.2.1)::rows [9,130] b3 n.2.1::bB 93 K u x n.2.2.1::bB 9 K y z n.2.2.2.1::bB 9 K J V n.2.2.2.2::box c7 27 b0::box d7 32 [zS q n.2.1.length r,zS u n.2.2.1.length x,zS y n.2.2.2.1.length z,zS J n.2.2.2.2.length V]::box d4 32 [zS Z b.1.Parts.length a0,zS a2 b.1.Meetings.length a3,zS a5 b.1.Allowed.length a6,zS a8 b.1.Hidden.length a9]::bB 60 b2 Z a0 b.1.Parts::bB 93 K a2 a3 b.1.Meetings::bB 9 K a5 a6 b.1.Allowed::bB 9 K a8 a9 b.1.Hidden::L) b25)=>(aD (v:=i64 o.2) (aG (aO (aO (cW [7,10] (fun f w=>∃ p1,lB n p1=some R/\f 87=zB p1/\List.length b3=List.length n.2.1/\aN G b2 (bB 60 K q r (bT b3 n.2.1)::rows [9,130] b3 n.2.1::bB 93 K u x n.2.2.1::bB 9 K y z n.2.2.2.1::bB 9 K J V n.2.2.2.2::box d7 32 [zS q n.2.1.length r,zS u n.2.2.1.length x,zS y n.2.2.2.1.length z,zS J n.2.2.2.2.length V]::L) w) ?_ ?_)))))))))))
         ·rintro f d18 ⟨p1,hm,t2,b26,p2⟩
          unfold lB at hm
          refine aB ?_
          rcases aH hm with ⟨p3,hm⟩|⟨p3,hm⟩
          ·refine aM p3 t2 (aL (aD (v:=zB false) (aG ?_)));obtain rfl:=zI hm
           exact aX (aK (aP results3 rfl ⟨rfl,(aN.weakK (aN.arr 6 [] p2 rfl) (zL (zL (zL (zL (zL l e) h) j) k) m))⟩))
          ·refine aJ p3 t2 (aW (aB (aL (aD (v:=i64 1) (aG (aL (aA (eH (us:=[zS q n.2.1.length r,zS u n.2.2.1.length x,zS y n.2.2.2.1.length z,zS J n.2.2.2.2.length V]) wB p2 (i:=5) rfl rfl rfl rfl) (aI (v:=i64 1) ?_))))))));obtain ⟨d19,p4,b28,d20,b29,b30⟩:=aN.lendD' (i:=0) p2 b26 rfl rfl
           obtain ⟨d21,p5,b31,b32,b33⟩:=aN.lendSp b29 (zL (zL (zL (zL (zL (zL l e) h) j) k) m) p4) .head
           obtain ⟨d22,p6,b34,b35,b36⟩:=aN.lendSp b32 (zL (zL (zL (zL (zL (zL (zL l e) h) j) k) m) p4) p5) .head
           obtain ⟨d23,p7,b37,b38,b39⟩:=aN.lendSp b35 (zL (zL (zL (zL (zL (zL (zL (zL l e) h) j) k) m) p4) p5) p6) .head
           obtain ⟨p8,b40,hm⟩:=aC hm
           refine aT (vs:=[zA #[zS q n.2.1.length r,zS u n.2.2.1.length x,zS y n.2.2.2.1.length z,zS J n.2.2.2.2.length V],i64 1]) call12 rfl (aEA (a:=⟨n.2.1,n.2.2.1,n.2.2.2.1,n.2.2.2.2⟩) b40 b38 (b28.mono (zL (zL p5 p6) p7)) (b31.mono (zL p6 p7)) (b34.mono p7) b37) ?_
           rintro _ d24 ⟨rfl,b41⟩
           have b42:=b39 _ _ b41
           have b43:=b36 _ _ b42
           have b44:=b33 _ _ b43
           have p9:=b30 _ _ b44
           refine aD (v:=i64 p8) (aG (aO (aL (aI (v:=i64 p8) (aA (cM rfl rfl) (aG ?_))))))
           rcases aH hm with ⟨q0,hm⟩|⟨q0,hm⟩
           ·refine aM q0 rfl (aL (aD (v:=zB false) (aG ?_)));obtain rfl:=zI hm
            exact aX (aK (aP results3 rfl ⟨rfl,(aN.weakK (aN.arr 6 [] p9 rfl) (zL (zL (zL (zL (zL l e) h) j) k) m))⟩))
           ·refine aJ q0 rfl (aW (aB (aO (aL (aI (v:=i64 p8) (aI (v:=i64 n.1) (aA (gL rfl rfl) (aG ?_))))))))
            rcases aH hm with ⟨q1,hm⟩|⟨q1,hm⟩
            ·refine aM q1 rfl (aL (aD (v:=zB false) (aG ?_)));obtain rfl:=zI hm
             exact aX (aK (aP results3 rfl ⟨rfl,(aN.weakK (aN.arr 6 [] p9 rfl) (zL (zL (zL (zL (zL l e) h) j) k) m))⟩))
            ·refine aJ q1 rfl (aW (aB (aL (aD (v:=zB true) (aG ?_)))));obtain rfl:=zI hm
             exact aX (aP results3 rfl ⟨rfl,(aN.weakK (aN.arr 6 [] p9 rfl) (zL (zL (zL (zL (zL l e) h) j) k) m))⟩)
         refine aV (aA (eH (us:=[zS f0 o.1.Parts.length f1,zS f2 o.1.Meetings.length f3,zS f4 o.1.Allowed.length f5,zS f6 o.1.Hidden.length f7]) wB p0 (i:=0) rfl rfl rfl rfl) (aA (eH (us:=[zS Z b.1.Parts.length a0,zS a2 b.1.Meetings.length a3,zS a5 b.1.Allowed.length a6,zS a8 b.1.Hidden.length a9]) wB p0 (i:=20) rfl rfl rfl rfl) ?_));obtain ⟨d25,f8,b48,d26,b49,b50⟩:=aN.lendD' (i:=8) p0 b15 rfl rfl
         obtain ⟨d27,f9,b51,b52,b53⟩:=aN.lendSp b49 (zL (zL (zL (zL (zL (zL l e) h) j) k) m) f8) zt8
         obtain ⟨d28,g0,b54,b55,b56⟩:=aN.lendSp b52 (zL (zL (zL (zL (zL (zL (zL l e) h) j) k) m) f8) f9) zt8
         obtain ⟨d29,g1,b57,b58,b59⟩:=aN.lendSp b55 (zL (zL (zL (zL (zL (zL (zL (zL l e) h) j) k) m) f8) f9) g0) zt8
         obtain ⟨d30,g2,b60,b61,b62⟩:=aN.lendSp b58 (zL (zL (zL f8 f9) g0) g1) (.tail (.tail (.tail (.tail zt12))))
         obtain ⟨d31,g3,b63,b64,b65⟩:=aN.lendSp b61 (zL (zL (zL (zL (zL (zL (zL (zL (zL (zL l e) h) j) k) m) f8) f9) g0) g1) g2) (.tail (.tail (.tail (.tail zt12))))
         obtain ⟨d32,g4,b66,b67,b68⟩:=aN.lendSp b64 (zL (zL (zL (zL (zL (zL (zL (zL (zL (zL (zL l e) h) j) k) m) f8) f9) g0) g1) g2) g3) (.tail (.tail (.tail (.tail zt12))))
         obtain ⟨d33,g5,b69,b70,b71⟩:=aN.lendSp b67 (zL (zL (zL (zL (zL (zL (zL (zL (zL (zL (zL (zL l e) h) j) k) m) f8) f9) g0) g1) g2) g3) g4) (.tail (.tail (.tail (.tail zt12))))
         obtain ⟨b72,b73,hm⟩:=aC hm
         refine aT (vs:=[zA #[zS f0 o.1.Parts.length f1,zS f2 o.1.Meetings.length f3,zS f4 o.1.Allowed.length f5,zS f6 o.1.Hidden.length f7],zA #[zS Z b.1.Parts.length a0,zS a2 b.1.Meetings.length a3,zS a5 b.1.Allowed.length a6,zS a8 b.1.Hidden.length a9]]) call8 rfl (aBA b73 b70 (b48.mono (zL (zL (zL (zL (zL (zL f9 g0) g1) g2) g3) g4) g5)) (b51.mono (zL (zL (zL (zL (zL g0 g1) g2) g3) g4) g5)) (b54.mono (zL (zL (zL (zL g1 g2) g3) g4) g5)) (b57.mono (zL (zL (zL g2 g3) g4) g5)) (b60.mono (zL (zL g3 g4) g5)) (b63.mono (zL g4 g5)) (b66.mono g5) b69) ?_
         rintro _ d34 ⟨rfl,b74⟩
         have b75:=b71 _ _ b74
         have b76:=b68 _ _ b75
         have b78:=b65 _ _ b76
         have b79:=b62 _ _ b78
         have b80:=b59 _ _ b79
         have b81:=b56 _ _ b80
         have b82:=b53 _ _ b81
         have t3:=b50 _ _ b82
         refine aA (dA rfl) (aI (v:=zB (!b72)) ?_)
         rcases aH hm with ⟨e2,hm⟩|⟨e2,hm⟩
         ·exact aR e2 rfl rfl (aR e2 rfl rfl (aR e2 rfl rfl (aA (bI (v:=zB true) e2 rfl rfl) (aG ⟨aU,true,hm,rfl,(i5.trans k7),(aN.arr 25 [17,18,19,20,21,23] t3 rfl)⟩))))
         ·exact bD e2 rfl rfl (aI (v:=i64 o.2) (bD e2 rfl rfl (aI (v:=i64 b.2) (bD e2 rfl rfl (aA (gL rfl rfl) (aA (bN (v:=zB (o.2 != b.2)) e2 rfl rfl) (aG ⟨aU,o.2 != b.2,hm,rfl,(i5.trans k7),(aN.arr 25 [17,18,19,20,21,23] t3 rfl)⟩)))))))
     refine aV (aI (v:=i64 c9.1) (aA (cM rfl rfl) (aI (v:=zB (decide (c9.1 < 0))) ?_)))
     rcases aH hm with ⟨d3,hm⟩|⟨d3,hm⟩
     ·exact aR d3 rfl rfl (aR d3 rfl rfl (aR d3 rfl rfl (aR d3 rfl rfl (aA (bI (v:=zB true) d3 rfl rfl) (aI (v:=zB true) (aR (rfl:true=true) rfl rfl (aR (rfl:true=true) rfl rfl (aR (rfl:true=true) rfl rfl (aA (bI (v:=zB true) (rfl:true=true) rfl rfl) (aG ⟨aU,true,hm,rfl,(aN.arr 16 [8] k6 rfl)⟩))))))))))
     ·refine bD d3 rfl rfl (aA (eH (us:=[zS q c.1.Parts.length r,zS u c.1.Meetings.length x,zS y c.1.Allowed.length z,zS J c.1.Hidden.length V]) wB k6 (i:=16) rfl rfl rfl rfl) (bD d3 rfl rfl (aA (eH (us:=[zS Z b.1.Parts.length a0,zS a2 b.1.Meetings.length a3,zS a5 b.1.Allowed.length a6,zS a8 b.1.Hidden.length a9]) wB k6 (i:=22) rfl rfl rfl rfl) (bD d3 rfl rfl ?_))));obtain ⟨d35,g6,b83,d36,b84,b85⟩:=aN.lendD' (i:=17) k6 i5 rfl rfl
      obtain ⟨d37,g7,b86,b87,b88⟩:=aN.lendSp b84 (zL (zL (zL (zL (zL (zL l e) h) j) k) m) g6) (.tail (.tail (.tail (.tail (.tail zt12)))))
      obtain ⟨d38,g8,b89,b90,b91⟩:=aN.lendSp b87 (zL (zL (zL (zL (zL (zL (zL l e) h) j) k) m) g6) g7) (.tail (.tail (.tail (.tail (.tail zt12)))))
      obtain ⟨d39,g9,b92,b93,b94⟩:=aN.lendSp b90 (zL (zL (zL (zL (zL (zL (zL (zL l e) h) j) k) m) g6) g7) g8) (.tail (.tail (.tail (.tail (.tail zt12)))))
      obtain ⟨d40,h0,b95,b96,b97⟩:=aN.lendSp b93 (zL (zL (zL g6 g7) g8) g9) (.tail (.tail (.tail (.tail (.tail (.tail zt12))))))
      obtain ⟨d41,h1,b98,b99,c00⟩:=aN.lendSp b96 (zL (zL (zL (zL (zL (zL (zL (zL (zL (zL l e) h) j) k) m) g6) g7) g8) g9) h0) (.tail (.tail (.tail (.tail (.tail (.tail zt12))))))
      obtain ⟨d42,h2,c01,c02,c03⟩:=aN.lendSp b99 (zL (zL (zL (zL (zL (zL (zL (zL (zL (zL (zL l e) h) j) k) m) g6) g7) g8) g9) h0) h1) (.tail (.tail (.tail (.tail (.tail (.tail zt12))))))
      obtain ⟨d43,h4,c04,c05,c06⟩:=aN.lendSp c02 (zL (zL (zL (zL (zL (zL (zL (zL (zL (zL (zL (zL l e) h) j) k) m) g6) g7) g8) g9) h0) h1) h2) (.tail (.tail (.tail (.tail (.tail (.tail zt12))))))
      obtain ⟨t4,c07,hm⟩:=aC hm
      refine aT (vs:=[zA #[zS q c.1.Parts.length r,zS u c.1.Meetings.length x,zS y c.1.Allowed.length z,zS J c.1.Hidden.length V],zA #[zS Z b.1.Parts.length a0,zS a2 b.1.Meetings.length a3,zS a5 b.1.Allowed.length a6,zS a8 b.1.Hidden.length a9]]) call8 rfl (aBA c07 c05 (b83.mono (zL (zL (zL (zL (zL (zL g7 g8) g9) h0) h1) h2) h4)) (b86.mono (zL (zL (zL (zL (zL g8 g9) h0) h1) h2) h4)) (b89.mono (zL (zL (zL (zL g9 h0) h1) h2) h4)) (b92.mono (zL (zL (zL h0 h1) h2) h4)) (b95.mono (zL (zL h1 h2) h4)) (b98.mono (zL h2 h4)) (c01.mono h4) c04) ?_
      rintro _ d44 ⟨rfl,c08⟩
      have c09:=c06 _ _ c08
      have c10:=c03 _ _ c09
      have c12:=c00 _ _ c10
      have c13:=b97 _ _ c12
      have c15:=b94 _ _ c13
      have c16:=b91 _ _ c15
      have c17:=b88 _ _ c16
      have t5:=b85 _ _ c17
      refine bD d3 rfl rfl (aA (dA rfl) (aA (bN (v:=zB (!t4)) d3 rfl rfl) (aI (v:=zB (!t4)) ?_)))
      rcases aH hm with ⟨e3,hm⟩|⟨e3,hm⟩
      ·exact aR e3 rfl rfl (aR e3 rfl rfl (aR e3 rfl rfl (aA (bI (v:=zB true) e3 rfl rfl) (aG ⟨aU,true,hm,rfl,(aN.arr 27 [17,25,0,1,2,3,4,26,5,6,7,8] t5 rfl)⟩))))
      ·exact bD e3 rfl rfl (aI (v:=i64 c.2) (bD e3 rfl rfl (aI (v:=i64 b.2) (bD e3 rfl rfl (aA (gL rfl rfl) (aA (bN (v:=zB (c.2 != b.2)) e3 rfl rfl) (aG ⟨aU,c.2 != b.2,hm,rfl,(aN.arr 27 [17,25,0,1,2,3,4,26,5,6,7,8] t5 rfl)⟩)))))))
  refine aV (aA (eH (us:=[zS q c.1.Parts.length r,zS u c.1.Meetings.length x,zS y c.1.Allowed.length z,zS J c.1.Hidden.length V]) wB m4 (i:=0) rfl rfl rfl rfl) (aA (eH (us:=[zS Z b.1.Parts.length a0,zS a2 b.1.Meetings.length a3,zS a5 b.1.Allowed.length a6,zS a8 b.1.Hidden.length a9]) wB m4 (i:=14) rfl rfl rfl rfl) ?_));obtain ⟨d45,h5,c18,d46,c19,c20⟩:=aN.lendD' (i:=8) m4 i5 rfl rfl
  obtain ⟨d47,h7,c21,c22,c24⟩:=aN.lendSp c19 (zL (zL (zL (zL (zL (zL l e) h) j) k) m) h5) zt8
  obtain ⟨d48,h8,c25,c26,c27⟩:=aN.lendSp c22 (zL (zL (zL (zL (zL (zL (zL l e) h) j) k) m) h5) h7) zt8
  obtain ⟨d49,i0,c29,c30,c31⟩:=aN.lendSp c26 (zL (zL (zL (zL (zL (zL (zL (zL l e) h) j) k) m) h5) h7) h8) zt8
  obtain ⟨d50,i1,c33,c34,c35⟩:=aN.lendSp c30 (zL (zL (zL h5 h7) h8) i0) zt10
  obtain ⟨d51,i2,c37,c39,c41⟩:=aN.lendSp c34 (zL (zL (zL (zL (zL (zL (zL (zL (zL (zL l e) h) j) k) m) h5) h7) h8) i0) i1) zt10
  obtain ⟨d52,i3,c42,c43,c44⟩:=aN.lendSp c39 (zL (zL (zL (zL (zL (zL (zL (zL (zL (zL (zL l e) h) j) k) m) h5) h7) h8) i0) i1) i2) zt10
  obtain ⟨d53,i4,c45,c46,c47⟩:=aN.lendSp c43 (zL (zL (zL (zL (zL (zL (zL (zL (zL (zL (zL (zL l e) h) j) k) m) h5) h7) h8) i0) i1) i2) i3) zt10
  obtain ⟨c48,c49,hm⟩:=aC hm
  refine aT (vs:=[zA #[zS q c.1.Parts.length r,zS u c.1.Meetings.length x,zS y c.1.Allowed.length z,zS J c.1.Hidden.length V],zA #[zS Z b.1.Parts.length a0,zS a2 b.1.Meetings.length a3,zS a5 b.1.Allowed.length a6,zS a8 b.1.Hidden.length a9]]) call8 rfl (aBA c49 c46 (c18.mono (zL (zL (zL (zL (zL (zL h7 h8) i0) i1) i2) i3) i4)) (c21.mono (zL (zL (zL (zL (zL h8 i0) i1) i2) i3) i4)) (c25.mono (zL (zL (zL (zL i0 i1) i2) i3) i4)) (c29.mono (zL (zL (zL i1 i2) i3) i4)) (c33.mono (zL (zL i2 i3) i4)) (c37.mono (zL i3 i4)) (c42.mono i4) c45) ?_
  rintro _ d54 ⟨rfl,c50⟩
  have c51:=c47 _ _ c50
  have c52:=c44 _ _ c51
  have c53:=c41 _ _ c52
  have c54:=c35 _ _ c53
  have c55:=c31 _ _ c54
  have c56:=c27 _ _ c55
  have c57:=c24 _ _ c56
  have t6:=c20 _ _ c57
  refine aA (dA rfl) (aI (v:=zB (!c48)) ?_)
  rcases aH hm with ⟨e4,hm⟩|⟨e4,hm⟩
  ·exact aR e4 rfl rfl (aR e4 rfl rfl (aR e4 rfl rfl (aA (bI (v:=zB true) e4 rfl rfl) (aG ⟨aU,true,hm,rfl,(aN.arr 19 [9,10,11,12,13,14,15,16,0,1,2,3,4,17,18,5,6,7,8] t6 rfl)⟩))))
  ·exact bD e4 rfl rfl (aI (v:=i64 c.2) (bD e4 rfl rfl (aI (v:=i64 b.2) (bD e4 rfl rfl (aA (gL rfl rfl) (aA (bN (v:=zB (c.2 != b.2)) e4 rfl rfl) (aG ⟨aU,c.2 != b.2,hm,rfl,(aN.arr 19 [9,10,11,12,13,14,15,16,0,1,2,3,4,17,18,5,6,7,8] t6 rfl)⟩)))))))
end Gv
