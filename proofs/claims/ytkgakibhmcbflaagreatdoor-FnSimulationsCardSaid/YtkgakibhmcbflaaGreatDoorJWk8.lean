/- Walks, printed by program. -/
import Derived.Test.YtkgakibhmcbflaaGreatDoorJWk1
import Derived.Test.YtkgakibhmcbflaaGreatDoorJWk3
import Derived.Test.YtkgakibhmcbflaaGreatDoorJWk4
import Derived.Test.YtkgakibhmcbflaaGreatDoorJWk5
set_option linter.all false
namespace Gv
open Go.Value renaming slice→zS,bool→zB,pointer→zP,agg→zA,tuple→zT,map→zM
open Option.some renaming inj→zI
open Gv.Hp renaming le_trans→zL,le_refl→zR
open Go Go.Proofs
set_option maxRecDepth 20000
set_option maxHeartbeats 40000000
variable {G:Env} {K:Hp} {L:List nG} {w:World} {a1 a4 a7 a10 a13 a16 a21 a19 a24:Option Addr} {c2 c5 c8 c11 c14 c17 c20:Nat}
theorem aHr {a b:cD} {n:(List (List Int))} {R:((List ((Int × Int) × Bool)) × Bool)} (hs:aI G K (L) w) (h3:bX K a1 c2 a.L) (h6:bX K a4 c5 a.E) (h9:bX K a7 c8 b.L) (e2:bX K a10 c11 b.E) (b1:bX K a13 c14 n) (o:aAZ a b n=some R):
  Calls Tryz.prog 29 ([zA (zCa a a1 c2 a4 c5),zA (zCa b a7 c8 a10 c11),zS a13 n.length c14]:List Value).toArray w (gQ fun v w'=>∃ (c3:Nat),v=zT #[zM (if R.2=true then some c3 else none),zB R.2]∧aI G K (mpc R.2 c3 R.1::L) w'):=by
 let x:=(zC b a7 c8 a10 c11)
 let y:=(zC a a1 c2 a4 c5)
 refine aS Tryz.func29 rfl (by kernel_rfl) (by show (3:Nat)≤62;decide) ?_
 unfold aAZ at o
 refine aK (eA (v:=zA (zCa a a1 c2 a4 c5)) (vs:=y) hs rfl rfl (fun z j7 e3=>(eA (v:=zA (zCa b a7 c8 a10 c11)) (vs:=x) e3 rfl rfl (fun J j8 e4=>(aF (v:=zM none) (aF (v:=zB false) (aG (aK (aES (Int × Int) Bool e4 ?_)))))))))
 intro l e5 (e6:aI G K (sC l ([]:(List ((Int × Int) × Bool)))::box J 27 x::box z 27 y::L) e5)
 refine aF (v:=zM (some l)) (aG (aO (aK (aL (v:=zS a13 n.length c14) (aD (bT (len:=n.length) fD rfl) (aL (v:=i64 0) (aG (aZ (fun f w=>∃ (b2:(List ((Int × Int) × Bool))),aAP b2=some R∧f 8=zM (some l)∧aI G K (sC l b2::L) w) ?_ ?_))))))))
 ·rintro f e7 ⟨b2,o,e8,e9⟩
  unfold aAP at o
  refine aA (aK (aN e8 (aF (v:=zM (some l)) (aF (v:=zB true) (aG ?_)))))
  have f0:aI G K (mpc true l b2::L) e7:=aI.mpcT (i:=0) e9 rfl
  obtain rfl:=zI o
  exact bK (sA Tryz.results29 rfl rfl ⟨l,rfl,f0⟩)
 obtain ⟨j9,f2,o⟩:=aC o
 refine cC f2 (fun (s:((List ((Int × Int) × Bool)) × Int)) f w=>match s with|(r,p)=>f 2=zS a13 n.length c14∧f 3=zP (some ⟨z,0,none⟩)∧f 4=zP (some ⟨J,0,none⟩)∧f 8=zM (some l)∧f 12=zS a13 n.length c14∧f 13=i64 (n.length:Int)∧f 14=i64 p∧aI G K (sC l r::box J 27 x::box z 27 y::L) w) ?_ ?_
 ·exact ⟨rfl,rfl,rfl,rfl,rfl,rfl,rfl,e6⟩
 ·rintro ⟨r,p⟩ c4 f k0 d c6 ⟨a2,a3,a5,a6,a8,a9,V,c⟩
  replace d:qM a b n r p=some c4:=d
  unfold qM at d
  refine aK (aD (cT V a9) (aG (aO ?_)))
  rcases aH d with ⟨b4,d⟩|⟨b4,d⟩
  ·refine aM b4 rfl (aY (aA (aO (cI (aK (aN V ?_))))))
   obtain ⟨q,c7,d⟩:=aC d
   refine aD (cU fD rfl b1 a8 rfl V c7) ?_
   obtain ⟨k1,f3,f4⟩:=bX.el (sz:=1) rfl b1 c7
   obtain ⟨Z,a0,rfl,u⟩:=f4
   refine aD (bG (t:=0) sD c f3 rfl rfl) (aF (v:=i64 p) (aF (v:=zS Z q.length a0) (aG (aO (aO (dO (fun f w=>∃ (b5:Bool),kF r p q b5=some c4∧f 2=zS a13 n.length c14∧f 3=zP (some ⟨z,0,none⟩)∧f 4=zP (some ⟨J,0,none⟩)∧f 8=zM (some l)∧f 10=zS Z q.length a0∧f 12=zS a13 n.length c14∧f 13=i64 (n.length:Int)∧f 14=i64 p∧f 51=zB b5∧aI G K (sC l r::box J 27 x::box z 27 y::L) w) ?_ ?_))))))
   ·rintro f f5 ⟨b5,d,f6,f7,f8,c9,d0,f9,g0,g1,d1,b6⟩
    unfold kF at d
    refine aA ?_
    rcases aH d with ⟨b7,d⟩|⟨b7,d⟩
    ·refine aM b7 d1 (aK (aF (v:=zM none) (aF (v:=zB false) (aG (bK (aX (bS (aX (aX ?_)))))))))
     have g2:=c6 _ (zI d).symm
     subst g2
     have o:(some ([],false))=some R:=o
     have g3:aI G K (mpc false 0 ([]:(List ((Int × Int) × Bool)))::sC l r::box J 27 x::box z 27 y::L) f5:=aI.mpcN b6
     obtain rfl:=zI o
     exact bS (aX (aX (sA Tryz.results29 rfl rfl ⟨0,rfl,(aI.arr 4 [0] g3 rfl)⟩)))
    ·refine aJ b7 d1 (aY (aA (dQ (C:=fun w'=>∃ L',aI G K L' w') [(0,0),(1,0),(2,0),(3,0),(4,0),(5,0),(6,0),(7,0),(8,2)] bP (by kernel_rfl) (fun _ hg=>⟨_,aI.mono b6 hg⟩) (fun k2 g5=>?_))))
     have b0:=aI.mono b6 g5
     refine bJ rfl (fun _ _=>aW c9) (bJ rfl (fun _ _=>aW d0) ?_)
     obtain ⟨b8,d2,d⟩:=aC d
     refine bJ rfl (fun _ _=>cU bO rfl u rfl rfl rfl d2) ?_
     obtain ⟨k3,g6,g7⟩:=bX.el (sz:=1) rfl u d2
     cases g7
     refine bJ rfl (fun _ ⟨_,b0⟩=>bG (t:=0) bY b0 g6 rfl rfl) (bJ rfl (fun _ _=>aW d0) ?_)
     obtain ⟨b9,d3,d⟩:=aC d
     refine bJ rfl (fun _ _=>cU bO rfl u rfl rfl rfl d3) ?_
     obtain ⟨k4,g8,g9⟩:=bX.el (sz:=1) rfl u d3
     cases g9
     refine bJ rfl (fun _ ⟨_,b0⟩=>bG (t:=0) bY b0 g8 rfl rfl) (bJ rfl (fun _ _=>aBZ (vs:=[(0,i64 b8),(1,i64 b9)]) (cs:=[i64 b8,i64 b9]) aCD aIK rfl (by kernel_rfl)) (aGr rfl ?_))
     obtain ⟨d4,h0,d⟩:=aC d
     exact aET (i:=0) (k:=⟨b8,b9⟩) (v:=true) Tryz.runUnderlying56 aHg b0 rfl rfl rfl rfl h0 (fun h1 (h2:aI G K (sC l d4::box J 27 x::box z 27 y::L) h1)=>(aG (gR (bA (aA (aP (aD (cK g1 rfl) (aL (v:=i64 (wr (p+1))) (aG ⟨(d4,wr (p+1)),(zI d).symm,f6,f7,f8,c9,f9,g0,rfl,h2⟩)))))))))
   refine eL (C:=fun w'=>aI G K (sC l r::box J 27 x::box z 27 y::L) w') bP (by kernel_rfl) (aI.mono c (dN.drew _)) (bC (fun _ c=>aW (v:=zS Z q.length a0) rfl) (bC (fun _ c=>bT (len:=q.length) bO rfl) (bC (fun _ c=>uK rfl rfl) (bC (fun _ c=>aW (v:=zB ((q.length:Int) != 2)) rfl) ?_))))
   rcases aH d with ⟨h,d⟩|⟨h,d⟩
   ·refine bQ (g:=22) rfl rfl (eZ h) (bQ (g:=22) rfl rfl (eZ h) (bQ (g:=22) rfl rfl (eZ h) (bQ (g:=22) rfl rfl (eZ h) (bQ (g:=22) rfl rfl (eZ h) (bQ (g:=22) rfl rfl (eZ h) (bC (fun _ c=>bF (v:=zB true) h rfl rfl) (bC (fun _ c=>aW (v:=zB true) rfl) (bQ (g:=30) rfl rfl (eZ (rfl:true=true)) (bQ (g:=30) rfl rfl (eZ (rfl:true=true)) (bQ (g:=30) rfl rfl (eZ (rfl:true=true)) (bQ (g:=30) rfl rfl (eZ (rfl:true=true)) (bQ (g:=30) rfl rfl (eZ (rfl:true=true)) (bQ (g:=30) rfl rfl (eZ (rfl:true=true)) (bC (fun _ c=>bF (v:=zB true) (rfl:true=true) rfl rfl) (bC (fun _ c=>aW (v:=zB true) rfl) (bQ (g:=38) rfl rfl (eZ (rfl:true=true)) (bQ (g:=38) rfl rfl (eZ (rfl:true=true)) (bQ (g:=38) rfl rfl (eZ (rfl:true=true)) (cY (g:=41) rfl rfl (cY (g:=41) rfl rfl (cY (g:=41) rfl rfl (cY (g:=41) rfl rfl (cY (g:=41) rfl rfl ?_)))))))))))))))))))))))
    exact cY (g:=41) rfl rfl (cY (g:=41) rfl rfl (cY (g:=41) rfl rfl (bQ (g:=38) rfl rfl (eZ (rfl:true=true)) (bC (fun _ c=>bF (v:=zB true) (rfl:true=true) rfl rfl) (fT (fun k5 h4=>(aA ⟨true,d,a2,a3,a5,a6,rfl,a8,a9,V,rfl,h4⟩)))))))
   ·refine dA (g:=22) rfl rfl (gF h) (bC (fun _ c=>cS (us:=y) dB c (i:=2) rfl a3 rfl rfl) (dA (g:=22) rfl rfl (gF h) (bC (fun _ c=>aW (v:=zS Z q.length a0) rfl) (dA (g:=22) rfl rfl (gF h) ?_))))
    obtain ⟨h5,d5,d⟩:=aC d
    refine bC (fun _ c=>cU bO rfl u rfl rfl rfl d5) ?_
    obtain ⟨k6,h7,h8⟩:=bX.el (sz:=1) rfl u d5
    cases h8
    refine dA (g:=22) rfl rfl (gF h) (bC (fun _ c=>bG (t:=0) bY c h7 rfl rfl) (dA (g:=22) rfl rfl (gF h) ?_))
    obtain ⟨c0,i0,d⟩:=aC d
    refine yW (vs:=[zA (zCa a a1 c2 a4 c5),i64 h5]) (v:=zB c0) Tryz.call59 rfl (fun _ c=>(nD c h3 h6 i0)) (dA (g:=22) rfl rfl (gF h) (bC (fun _ c=>eR rfl) (bC (fun _ c=>bH (v:=zB (!c0)) h rfl rfl) (bC (fun _ c=>aW (v:=zB (!c0)) rfl) ?_))))
    rcases aH d with ⟨j,d⟩|⟨j,d⟩
    ·refine bQ (g:=30) rfl rfl (eZ j) (bQ (g:=30) rfl rfl (eZ j) (bQ (g:=30) rfl rfl (eZ j) (bQ (g:=30) rfl rfl (eZ j) (bQ (g:=30) rfl rfl (eZ j) (bQ (g:=30) rfl rfl (eZ j) (bC (fun _ c=>bF (v:=zB true) j rfl rfl) (bC (fun _ c=>aW (v:=zB true) rfl) (bQ (g:=38) rfl rfl (eZ (rfl:true=true)) (bQ (g:=38) rfl rfl (eZ (rfl:true=true)) (bQ (g:=38) rfl rfl (eZ (rfl:true=true)) (cY (g:=41) rfl rfl (cY (g:=41) rfl rfl (cY (g:=41) rfl rfl (cY (g:=41) rfl rfl (cY (g:=41) rfl rfl (cY (g:=41) rfl rfl (cY (g:=41) rfl rfl (cY (g:=41) rfl rfl (bQ (g:=38) rfl rfl (eZ (rfl:true=true)) (bC (fun _ c=>bF (v:=zB true) (rfl:true=true) rfl rfl) (fT (fun k7 i1=>(aA ?_)))))))))))))))))))))))
     exact ⟨true,d,a2,a3,a5,a6,rfl,a8,a9,V,rfl,i1⟩
    ·refine dA (g:=30) rfl rfl (gF j) (bC (fun _ c=>cS (us:=x) dB c (i:=1) rfl a5 rfl rfl) (dA (g:=30) rfl rfl (gF j) (bC (fun _ c=>aW (v:=zS Z q.length a0) rfl) (dA (g:=30) rfl rfl (gF j) ?_))))
     obtain ⟨i2,d6,d⟩:=aC d
     refine bC (fun _ c=>cU bO rfl u rfl rfl rfl d6) ?_
     obtain ⟨k8,i3,i4⟩:=bX.el (sz:=1) rfl u d6
     cases i4
     refine dA (g:=30) rfl rfl (gF j) (bC (fun _ c=>bG (t:=0) bY c i3 rfl rfl) (dA (g:=30) rfl rfl (gF j) ?_))
     obtain ⟨c1,i5,d⟩:=aC d
     refine yW (vs:=[zA (zCa b a7 c8 a10 c11),i64 i2]) (v:=zB c1) Tryz.call59 rfl (fun _ c=>(nD c h9 e2 i5)) (dA (g:=30) rfl rfl (gF j) (bC (fun _ c=>eR rfl) (bC (fun _ c=>bH (v:=zB (!c1)) j rfl rfl) (bC (fun _ c=>aW (v:=zB (!c1)) rfl) ?_))))
     rcases aH d with ⟨m,d⟩|⟨m,d⟩
     ·exact bQ (g:=38) rfl rfl (eZ m) (bQ (g:=38) rfl rfl (eZ m) (bQ (g:=38) rfl rfl (eZ m) (cY (g:=41) rfl rfl (cY (g:=41) rfl rfl (cY (g:=41) rfl rfl (cY (g:=41) rfl rfl (cY (g:=41) rfl rfl (cY (g:=41) rfl rfl (cY (g:=41) rfl rfl (cY (g:=41) rfl rfl (bQ (g:=38) rfl rfl (eZ m) (bC (fun _ c=>bF (v:=zB true) m rfl rfl) (fT (fun k9 i6=>(aA ⟨true,d,a2,a3,a5,a6,rfl,a8,a9,V,rfl,i6⟩)))))))))))))))
     ·refine dA (g:=38) rfl rfl (gF m) (bC (fun _ c=>aW (v:=i64 p) rfl) (dA (g:=38) rfl rfl (gF m) (bC (fun _ c=>sL rfl rfl) (dA (g:=38) rfl rfl (gF m) (bC (fun _ c=>aW (v:=zB (decide (0 < p))) rfl) ?_)))))
      rcases aH d with ⟨e,d⟩|⟨e,d⟩
      ·refine dA (g:=41) rfl rfl e (bC (fun _ c=>aW a2) (dA (g:=41) rfl rfl e (bC (fun _ c=>aW (v:=i64 p) rfl) (dA (g:=41) rfl rfl e (bC (fun _ c=>nI rfl rfl) (dA (g:=41) rfl rfl e ?_))))))
       obtain ⟨i7,d7,d⟩:=aC d
       refine bC (fun _ c=>cU fD rfl b1 rfl rfl rfl d7) ?_
       obtain ⟨l0,i8,i9⟩:=bX.el (sz:=1) rfl b1 d7
       obtain ⟨j0,j1,rfl,j2⟩:=i9
       refine dA (g:=41) rfl rfl e (bC (fun _ c=>bG (t:=0) sD c i8 rfl rfl) (dA (g:=41) rfl rfl e (bC (fun _ c=>aW (v:=zS Z q.length a0) rfl) (dA (g:=41) rfl rfl e ?_))))
       obtain ⟨b3,j3,d⟩:=aC d
       exact yW (vs:=[zS j0 i7.length j1,zS Z q.length a0]) (v:=i64 b3) Tryz.call52 rfl (fun _ c=>(iU c j2 u j3)) (dA (g:=41) rfl rfl e (bC (fun _ c=>uJ rfl rfl) (dA (g:=38) rfl rfl (gF m) (bC (fun _ c=>bF (v:=zB (decide (0≤b3))) e rfl rfl) (bC (fun _ c=>bH (v:=zB (decide (0≤b3))) m rfl rfl) (fT (fun l1 j4=>(aA ⟨decide (0≤b3),d,a2,a3,a5,a6,rfl,a8,a9,V,rfl,j4⟩))))))))
      ·exact bQ (g:=41) rfl rfl (dC e) (bQ (g:=41) rfl rfl (dC e) (bQ (g:=41) rfl rfl (dC e) (bQ (g:=41) rfl rfl (dC e) (bQ (g:=41) rfl rfl (dC e) (bQ (g:=41) rfl rfl (dC e) (bQ (g:=41) rfl rfl (dC e) (bQ (g:=41) rfl rfl (dC e) (dA (g:=38) rfl rfl (gF m) (bC (fun _ c=>bH (v:=zB false) e rfl rfl) (bC (fun _ c=>bH (v:=zB false) m rfl rfl) (fT (fun l2 j5=>(aA ⟨false,d,a2,a3,a5,a6,rfl,a8,a9,V,rfl,j5⟩)))))))))))))
  ·refine aJ b4 rfl (cA (aV (aV ?_)))
   have j6:=c6 _ (zI d).symm
   subst j6
   have o:(aAP r)=some R:=o
   exact bN (aA ⟨r,o,a6,(aI.arr 3 [0] c rfl)⟩)
theorem vD {a y:Int} {d:Nat} {b:(List ((Int × Int) × Bool))} {e:Nat} {R:Bool} (c:aI G K (L) w) (h:fP K a1 d [zM (some e)]) (i:rdM K e b) (g:oW a y b=some R):
  Calls Tryz.prog 30 ([i64 a,i64 y,cP a1 d]:List Value).toArray w (gQ fun v w'=>v=zB R∧aI G K (L) w'):=by
 refine aS Tryz.func30 rfl (by kernel_rfl) (by show (3:Nat)≤11;decide) ?_
 unfold oW at g
 refine aK (aF (v:=zB false) (aG (aK (aD (bG (t:=0) aFa c h rfl rfl) (aL (v:=i64 a) (aL (v:=i64 y) (aD (aBZ (vs:=[(0,i64 a),(1,i64 y)]) (cs:=[i64 a,i64 y]) aCD aIK rfl (by kernel_rfl)) (aD (aKs (kv:=b) (k:=⟨a,y⟩) (z:=(false:Bool)) Tryz.runUnderlying56 aHg Tryz.zeroValue4 c i rfl rfl) (aF (v:=zB ((kZ b ⟨a,y⟩).getD false)) (aG ?_))))))))))
 obtain rfl:=zI g
 exact bK (bE Tryz.results30 rfl ⟨rfl,c⟩)
theorem aDm {a:Int} {d:Nat} {k l:Int} {e:(List bI)} {g:(List Edge)} {m n:Int} {h:(List bI)} {i:(List Edge)} {b:Nat} {o:(List ((Int × Int) × Bool))} {r19:Nat} {p:Int} {q:Nat} {R:Bool} (j:aI G K (L) w) (r:fP K a1 d [i64 k,i64 l,zS a4 e.length c5,zS a7 g.length c8,i64 m,i64 n,zS a10 h.length c11,zS a13 i.length c14,Value.func (.func 30) #[] #[cP a16 b]]) (h6:bX K a4 c5 e) (h9:bX K a7 c8 g) (a3:bX K a10 c11 h) (a5:bX K a13 c14 i) (u:fP K a16 b [zM (some r19)]) (x:rdM K r19 o) (y:fP K a21 q [i64 p]) (c:aAt a k l e g m n h i o p=some R):
  Calls Tryz.prog 96 ([i64 a,cP a1 d,cP a21 q]:List Value).toArray w (gQ fun v w'=>v=zB R∧aI G K (L) w'):=by
 refine aS Tryz.func96 rfl (by kernel_rfl) (by show (3:Nat)≤10;decide) ?_
 unfold aAt at c
 refine aK (aF (v:=zB false) (aG (aK (aD (cG (k':=d+8) aGJ rfl r rfl) (aD (bG (t:=8) sc_67 j r rfl rfl) (aD (bG (t:=0) bY j y rfl rfl) (aL (v:=i64 a) ?_)))))))
 obtain ⟨z,J,c⟩:=aC c
 refine mS (vs:=[i64 p,i64 a]) (caps:=[cP a16 b]) (us:=[i64 p,i64 a,cP a16 b]) rfl Tryz.call30 rfl rfl (vD j u x J) ?_
 rintro _ a6 ⟨rfl,V⟩
 refine aF (v:=zB z) (aG ?_)
 obtain rfl:=zI c
 exact bK (bE Tryz.results96 rfl ⟨rfl,V⟩)
theorem rK {d:(List Int)} {e:Nat} {l m:Int} {h:(List bI)} {i:(List Edge)} {n o:Int} {j:(List bI)} {k:(List Edge)} {z:Nat} {p:(List ((Int × Int) × Bool))} {J:Nat} {q:Int} {g:Nat} {R:Int} (hs:aI G K (L) w) (V:bX K a1 c2 d) (h6:fP K a4 e [i64 l,i64 m,zS a7 h.length c8,zS a10 i.length c11,i64 n,i64 o,zS a13 j.length c14,zS a16 k.length c17,Value.func (.func 30) #[] #[cP a19 z]]) (h9:bX K a7 c8 h) (b2:bX K a10 c11 i) (b3:bX K a13 c14 j) (b4:bX K a16 c17 k) (b5:fP K a19 z [zM (some J)]) (b6:rdM K J p) (b7:fP K a24 g [i64 q]) (b:iS d l m h i n o j k p q=some R):
  Calls Tryz.prog 127 ([zS a1 d.length c2,Value.func (.func 96) #[] #[cP a4 e,cP a24 g]]:List Value).toArray w (gQ fun v w'=>v=i64 R∧aI G K (L) w'):=by
 refine aS Tryz.func127 rfl (by kernel_rfl) (by show (2:Nat)≤19;decide) ?_
 unfold iS at b
 refine aK (aF (v:=i64 0) (aG (aO (aK (aL (v:=zS a1 d.length c2) (aD (bT (len:=d.length) bO rfl) (aL (v:=i64 0) (aG (aZ (fun f w=>fM=some R∧aI G K (L) w) ?_ ?_)))))))))
 ·rintro f d0 ⟨b,b8⟩
  unfold fM at b
  refine aA (aK (aF (v:=i64 (-1)) (aG ?_)))
  obtain rfl:=zI b
  exact bK (bE Tryz.results127 rfl ⟨rfl,b8⟩)
 obtain ⟨d1,c0,b⟩:=aC b
 refine cC c0 (fun (c:Int) f w=>f 0=zS a1 d.length c2∧f 1=Value.func (.func 96) #[] #[cP a4 e,cP a24 g]∧f 7=i64 (d.length:Int)∧f 8=i64 c∧aI G K (L) w) ?_ ?_
 ·exact ⟨rfl,rfl,rfl,rfl,hs⟩
 ·rintro c c1 f d2 a Z ⟨a0,a2,a3,r,u⟩
  replace a:hJ d l m h i n o j k p q c=some c1:=a
  unfold hJ at a
  refine aK (aD (cT r a3) (aG (aO ?_)))
  rcases aH a with ⟨x,a⟩|⟨x,a⟩
  ·refine aM x rfl (aY (aA (aO (cI (aK (aN r (aF (v:=i64 c) (aG (aK (aN a2 (aN a0 (aL (v:=i64 c) ?_))))))))))))
   obtain ⟨a5,a6,a⟩:=aC a
   refine aD (cU bO rfl V rfl rfl rfl a6) ?_
   obtain ⟨d3,c3,c4⟩:=bX.el (sz:=1) rfl V a6
   cases c4
   refine aD (bG (t:=0) bY u c3 rfl rfl) ?_
   obtain ⟨d4,c5,a⟩:=aC a
   refine mS (vs:=[i64 a5]) (caps:=[cP a4 e,cP a24 g]) (us:=[i64 a5,cP a4 e,cP a24 g]) rfl Tryz.call96 rfl rfl (aDm u h6 h9 b2 b3 b4 b5 b6 b7 c5) ?_
   rintro _ d5 ⟨rfl,a8⟩
   refine aG ?_
   rcases aH a with ⟨y,a⟩|⟨y,a⟩
   ·refine aM y rfl (aK (aL (v:=i64 c) (aF (v:=i64 c) (aG (bK (bS (aX (aX ?_))))))))
    have c6:=Z _ (zI a).symm
    subst c6
    have b:(some c)=some R:=b
    obtain rfl:=zI b
    exact bS (aX (aX (bE Tryz.results127 rfl ⟨rfl,a8⟩)))
   ·exact aJ y rfl (aY (bA (aA (aP (aD (cK r rfl) (aL (v:=i64 (wr (c+1))) (aG ⟨wr (c+1),(zI a).symm,a0,a2,a3,rfl,a8⟩)))))))
  ·refine aJ x rfl (cA (aV (aV ?_)))
   have c9:=Z _ (zI a).symm
   subst c9
   have b:(fM)=some R:=b
   exact bN (aA ⟨b,u⟩)
theorem qA {a:(List Int)} {b:Nat} {j k:Int} {e:(List bI)} {g:(List Edge)} {l m:Int} {h:(List bI)} {i:(List Edge)} {n:Nat} {o:(List ((Int × Int) × Bool))} {p:Nat} {q:Int} {c:Nat} {R:Bool} (r:aI G K (L) w) (t:bX K a1 c2 a) (u:fP K a4 b [i64 j,i64 k,zS a7 e.length c8,zS a10 g.length c11,i64 l,i64 m,zS a13 h.length c14,zS a16 i.length c17,Value.func (.func 30) #[] #[cP a19 n]]) (x:bX K a7 c8 e) (y:bX K a10 c11 g) (z:bX K a13 c14 h) (J:bX K a16 c17 i) (V:fP K a19 n [zM (some p)]) (Z:rdM K p o) (a0:fP K a24 c [i64 q]) (d:hQ a j k e g l m h i o q=some R):
  Calls Tryz.prog 94 ([zS a1 a.length c2,Value.func (.func 96) #[] #[cP a4 b,cP a24 c]]:List Value).toArray w (gQ fun v w'=>v=zB R∧aI G K (L) w'):=by
 refine aS Tryz.func94 rfl (by kernel_rfl) (by show (2:Nat)≤9;decide) ?_
 unfold hQ at d
 refine aK (aF (v:=zB false) (aG (aK (aL (v:=zS a1 a.length c2) (aL (v:=Value.func (.func 96) #[] #[cP a4 b,cP a24 c]) ?_)))))
 obtain ⟨a2,a3,d⟩:=aC d
 refine aQ (vs:=[zS a1 a.length c2,Value.func (.func 96) #[] #[cP a4 b,cP a24 c]]) Tryz.call127 rfl (rK r t u x y z J V Z a0 a3) ?_
 rintro _ a8 ⟨rfl,a5⟩
 refine aD (uJ rfl rfl) (aF (v:=zB (decide (0≤a2))) (aG ?_))
 obtain rfl:=zI d
 exact bK (bE Tryz.results94 rfl ⟨rfl,a5⟩)
theorem aFm {r_a r_b:cD} {e:Nat} {j:(List ((Int × Int) × Bool))} {r16:Nat} {k y:Int} {g:bI} {h:Int} {R:Bool} (q:aI G K (L) w) (r:bX K a1 c2 r_a.L) (t:bX K a4 c5 r_a.E) (l:bX K a7 c8 r_b.L) (m:bX K a10 c11 r_b.E) (u:fP K a13 e [zM (some r16)]) (x:rdM K r16 j) (c:aCw r_a r_b j k y g h=some R):
  Calls Tryz.prog 64 ([zA #[i64 r_a.N,i64 r_a.I,zS a1 r_a.L.length c2,zS a4 r_a.E.length c5,i64 r_b.N,i64 r_b.I,zS a7 r_b.L.length c8,zS a10 r_b.E.length c11,Value.func (.func 30) #[] #[cP a13 e]],i64 k,i64 y,str g,i64 h]:List Value).toArray w (gQ fun v w'=>v=zB R∧aI G K (L) w'):=by
 refine aS Tryz.func64 rfl (by kernel_rfl) (by show (5:Nat)≤18;decide) ?_
 unfold aCw at c
 refine aK (eA (v:=zA #[i64 r_a.N,i64 r_a.I,zS a1 r_a.L.length c2,zS a4 r_a.E.length c5,i64 r_b.N,i64 r_b.I,zS a7 r_b.L.length c8,zS a10 r_b.E.length c11,Value.func (.func 30) #[] #[cP a13 e]]) (vs:=[i64 r_a.N,i64 r_a.I,zS a1 r_a.L.length c2,zS a4 r_a.E.length c5,i64 r_b.N,i64 r_b.I,zS a7 r_b.L.length c8,zS a10 r_b.E.length c11,Value.func (.func 30) #[] #[cP a13 e]]) q rfl rfl (fun n c1 z=>(eA (v:=i64 h) (vs:=[i64 h]) z rfl rfl (fun o c3 p=>(aF (v:=zB false) (aG (aK (aD (bL (t':=4) aDC rfl rfl) (aD (cS (us:=(zC r_b a7 c8 a10 c11)) dB p (i:=1) rfl rfl rfl rfl) (aL (v:=i64 y) (aL (v:=str g) ?_)))))))))))
 obtain ⟨J,V,c⟩:=aC c
 refine aQ (vs:=[zA (zCa r_b a7 c8 a10 c11),i64 y,str g]) Tryz.call95 rfl (aBI p l m V) ?_
 rintro _ c4 ⟨Z,a0,rfl,a2⟩
 refine aD (vW (vs:=[zP (some ⟨n,0,none⟩),zP (some ⟨o,0,none⟩)]) rfl) ?_
 obtain ⟨c6,d,a3,a5,a6⟩:=aI.lendS (i:=0) a2 (zR _) rfl
 obtain ⟨c7,b,a8,a9,b0⟩:=aI.lendB (i:=1) a5 rfl
 obtain ⟨c9,a,b1,b2,b3⟩:=aI.lendB (i:=0) a9 rfl
 obtain ⟨b4,b5,c⟩:=aC c
 refine aQ (vs:=[zS Z J.length a0,Value.func (.func 96) #[] #[cP (some ⟨n,0,none⟩) 0,cP (some ⟨o,0,none⟩) 0]]) Tryz.call94 rfl (qA b2 (a3.mono (zL b a)) (a8.mono a) (r.mono (zL (zL d b) a)) (t.mono (zL (zL d b) a)) (l.mono (zL (zL d b) a)) (m.mono (zL (zL d b) a)) (u.mono (zL (zL d b) a)) (x.mono (zL (zL d b) a)) b1 b5) ?_
 rintro _ d0 ⟨rfl,b6⟩
 have b7:=b3 _ _ b6
 have b8:=b0 _ _ b7
 have b9:=a6 _ _ b8
 refine aF (v:=zB b4) (aG ?_)
 obtain rfl:=zI c
 exact bK (bE Tryz.results64 rfl ⟨rfl,(aI.arr 3 [] b9 rfl)⟩)
theorem aAR {r_a r_b:cD} {j:Nat} {p:(List ((Int × Int) × Bool))} {r16:Nat} {g y:Int} {R:Bool} (hs:aI G K (L) w) (m:bX K a1 c2 r_a.L) (h6:bX K a4 c5 r_a.E) (h9:bX K a7 c8 r_b.L) (c0:bX K a10 c11 r_b.E) (c1:fP K a13 j [zM (some r16)]) (c3:rdM K r16 p) (b:qN r_a r_b p g y=some R):
  Calls Tryz.prog 63 ([zA #[i64 r_a.N,i64 r_a.I,zS a1 r_a.L.length c2,zS a4 r_a.E.length c5,i64 r_b.N,i64 r_b.I,zS a7 r_b.L.length c8,zS a10 r_b.E.length c11,Value.func (.func 30) #[] #[cP a13 j]],i64 g,i64 y,Value.func (.func 64) #[] #[]]:List Value).toArray w (gQ fun v w'=>v=zB R∧aI G K (L) w'):=by
 let n:=[i64 r_a.N,i64 r_a.I,zS a1 r_a.L.length c2,zS a4 r_a.E.length c5,i64 r_b.N,i64 r_b.I,zS a7 r_b.L.length c8,zS a10 r_b.E.length c11,Value.func (.func 30) #[] #[cP a13 j]]
 refine aS Tryz.func63 rfl (by kernel_rfl) (by show (4:Nat)≤36;decide) ?_
 unfold qN at b
 refine aK (eA (v:=zA #[i64 r_a.N,i64 r_a.I,zS a1 r_a.L.length c2,zS a4 r_a.E.length c5,i64 r_b.N,i64 r_b.I,zS a7 r_b.L.length c8,zS a10 r_b.E.length c11,Value.func (.func 30) #[] #[cP a13 j]]) (vs:=n) hs rfl rfl (fun q e9 a2=>(aF (v:=zB false) (aG (aO (aK (aD (bL (t':=0) yY rfl rfl) (aD (cS (us:=(zC r_a a1 c2 a4 c5)) dB a2 (i:=0) rfl rfl rfl rfl) (aL (v:=i64 g) ?_)))))))))
 obtain ⟨k,c4,b⟩:=aC b
 refine aQ (vs:=[zA (zCa r_a a1 c2 a4 c5),i64 g]) Tryz.call79 rfl (tJ a2 m h6 c4) ?_
 rintro _ f0 ⟨r,u,rfl,c6⟩
 refine aD (bT (len:=k.length) cN rfl) (aL (v:=i64 0) (aG (aZ (fun f w=>kO=some R∧aI G K (L) w) ?_ ?_)))
 ·rintro f f1 ⟨b,c7⟩
  unfold kO at b
  refine aA (aK (aF (v:=zB true) (aG ?_)))
  obtain rfl:=zI b
  exact bK (bE Tryz.results63 rfl ⟨rfl,c7⟩)
 obtain ⟨f2,d0,b⟩:=aC b
 refine cC d0 (fun (l:Int) f w=>f 1=i64 g∧f 2=i64 y∧f 3=Value.func (.func 64) #[] #[]∧f 4=zP (some ⟨q,0,none⟩)∧f 14=zS r k.length u∧f 15=i64 (k.length:Int)∧f 16=i64 l∧aI G K (aR 51 K r u k::box q 69 n::L) w) ?_ ?_
 ·exact ⟨rfl,rfl,rfl,rfl,rfl,rfl,rfl,c6⟩
 ·rintro l d1 f f3 a a3 ⟨a5,a6,a8,x,a9,b0,z,o⟩
  replace a:nK r_a r_b p g y k l=some d1:=a
  unfold nK at a
  refine aK (aD (cT z b0) (aG (aO ?_)))
  rcases aH a with ⟨J,a⟩|⟨J,a⟩
  ·refine aM J rfl (aY (aA (aO (cI (aK ?_)))))
   obtain ⟨c,V,a⟩:=aC a
   have d2:=dZ o (i:=0) rfl V
   refine aD (eM cN rfl d2 a9 rfl z V) (aD (wZ (t:=0) (vs:=[i64 c.F,i64 c.B,i64 c.To]) kW o (i:=0) rfl V rfl rfl rfl rfl) (cQ (vs:=[i64 0,i64 0,i64 0]) Tryz.zeroValue51 o rfl (fun d3 f4 d4=>(cZ (i:=0) (ns:=[i64 c.F,i64 c.B,i64 c.To]) (us:=[i64 c.F,i64 c.B,i64 c.To]) Tryz.sizeOf51 d4 rfl rfl rfl rfl rfl (fO rfl) rfl rfl (fun d5 (d6:aI G K (box d3 51 [i64 c.F,i64 c.B,i64 c.To]::aR 51 K r u k::box q 69 n::L) d5)=>(aG (aO ?_)))))))
   obtain ⟨f5,h,b1,d7,d8⟩:=aI.lendB (i:=0) d6 rfl
   obtain ⟨d9,e,b2,b3,e0⟩:=aI.lendB (i:=1) d7 rfl
   refine dQ (C:=fun w'=>∃ L',aI G d9 L' w') [(0,0),(1,0),(2,0),(3,0),(4,0),(5,0),(6,0),(7,0),(8,0),(9,0),(10,0),(11,0),(12,0),(13,1),(14,0)] bP (by kernel_rfl) (fun _ hg=>⟨_,aI.mono b3 hg⟩) (fun f6 e1=>?_)
   have d:=aI.mono b3 e1
   refine bJ rfl (fun _ _=>aW a8) (bJ rfl (fun _ ⟨_,d⟩=>iD (t:=0) (vs:=n) aEe d b2 x rfl rfl) (bJ rfl (fun _ _=>aW a5) (bJ rfl (fun _ _=>aW a6) (bJ rfl (fun _ _=>bL (t':=0) yY x rfl) (bJ rfl (fun _ _=>bL (t':=2) gV rfl rfl) (bJ rfl (fun _ ⟨_,d⟩=>bG (t:=2) oC d b2 rfl rfl) (bJ rfl (fun _ _=>bL (t':=1) iZ rfl rfl) (bJ rfl (fun _ ⟨_,d⟩=>bG (t:=1) bY d (b1.mono e) rfl rfl) ?_))))))))
   obtain ⟨b4,b5,a⟩:=aC a
   refine bJ rfl (fun _ _=>cU dM rfl (m.mono (zL h e)) rfl rfl rfl b5) ?_
   obtain ⟨f7,e2,e3⟩:=bX.el (sz:=1) rfl m b5
   cases e3
   refine bJ rfl (fun _ ⟨_,d⟩=>bG (t:=0) yF d (e2.mono (zL h e)) rfl rfl) (bJ rfl (fun _ _=>bL (t':=2) iC rfl rfl) (bJ rfl (fun _ ⟨_,d⟩=>bG (t:=2) bY d (b1.mono e) rfl rfl) (gZ rfl ?_)))
   obtain ⟨f8,e4,a⟩:=aC a
   refine mS (vs:=[zA #[i64 r_a.N,i64 r_a.I,zS a1 r_a.L.length c2,zS a4 r_a.E.length c5,i64 r_b.N,i64 r_b.I,zS a7 r_b.L.length c8,zS a10 r_b.E.length c11,Value.func (.func 30) #[] #[cP a13 j]],i64 g,i64 y,str b4,i64 c.To]) (caps:=[]) (us:=[zA #[i64 r_a.N,i64 r_a.I,zS a1 r_a.L.length c2,zS a4 r_a.E.length c5,i64 r_b.N,i64 r_b.I,zS a7 r_b.L.length c8,zS a10 r_b.E.length c11,Value.func (.func 30) #[] #[cP a13 j]],i64 g,i64 y,str b4,i64 c.To]) rfl Tryz.call64 rfl rfl (aFm (r_a:=⟨r_a.N,r_a.I,r_a.L,r_a.E⟩) (r_b:=⟨r_b.N,r_b.I,r_b.L,r_b.E⟩) d (m.mono (zL h e)) (h6.mono (zL h e)) (h9.mono (zL h e)) (c0.mono (zL h e)) (c1.mono (zL h e)) (c3.mono (zL h e)) e4) ?_
   rintro _ f9 ⟨rfl,b6⟩
   refine bM (aA ⟨⟨_,b6⟩,?_⟩)
   refine bJ rfl (fun _ _=>eR rfl) (gR ?_)
   have e5:=e0 _ _ b6
   have b7:=d8 _ _ e5
   refine aA ?_
   rcases aH a with ⟨Z,a⟩|⟨Z,a⟩
   ·refine aM Z rfl (aK (aF (v:=zB false) (aG (bK (bS (aX (aX ?_)))))))
    have e6:=a3 _ (zI a).symm
    subst e6
    have b:(some false)=some R:=b
    obtain rfl:=zI b
    exact bS (aX (aX (bE Tryz.results63 rfl ⟨rfl,(aI.arr 3 [] b7 rfl)⟩)))
   ·exact aJ Z rfl (aY (bA (aA (aP (aD (cK z rfl) (aL (v:=i64 (wr (l+1))) (aG ⟨wr (l+1),(zI a).symm,a5,a6,a8,x,a9,b0,rfl,(aI.arr 3 [2,1] b7 rfl)⟩)))))))
  ·refine aJ J rfl (cA (aV (aV ?_)))
   have e8:=a3 _ (zI a).symm
   subst e8
   have b:(kO)=some R:=b
   exact bN (aA ⟨b,(aI.arr 2 [] o rfl)⟩)
theorem aCJ {a:Int} {d:Nat} {k l:Int} {e:(List bI)} {g:(List Edge)} {m n:Int} {h:(List bI)} {i:(List Edge)} {b:Nat} {o:(List ((Int × Int) × Bool))} {r19:Nat} {p:Int} {q:Nat} {R:Bool} (j:aI G K (L) w) (r:fP K a1 d [i64 k,i64 l,zS a4 e.length c5,zS a7 g.length c8,i64 m,i64 n,zS a10 h.length c11,zS a13 i.length c14,Value.func (.func 30) #[] #[cP a16 b]]) (h6:bX K a4 c5 e) (h9:bX K a7 c8 g) (a3:bX K a10 c11 h) (a5:bX K a13 c14 i) (u:fP K a16 b [zM (some r19)]) (x:rdM K r19 o) (y:fP K a21 q [i64 p]) (c:yP a k l e g m n h i o p=some R):
  Calls Tryz.prog 98 ([i64 a,cP a1 d,cP a21 q]:List Value).toArray w (gQ fun v w'=>v=zB R∧aI G K (L) w'):=by
 refine aS Tryz.func98 rfl (by kernel_rfl) (by show (3:Nat)≤10;decide) ?_
 unfold yP at c
 refine aK (aF (v:=zB false) (aG (aK (aD (cG (k':=d+8) aGJ rfl r rfl) (aD (bG (t:=8) sc_67 j r rfl rfl) (aD (bG (t:=0) bY j y rfl rfl) (aL (v:=i64 a) ?_)))))))
 obtain ⟨z,J,c⟩:=aC c
 refine mS (vs:=[i64 p,i64 a]) (caps:=[cP a16 b]) (us:=[i64 p,i64 a,cP a16 b]) rfl Tryz.call30 rfl rfl (vD j u x J) ?_
 rintro _ a6 ⟨rfl,V⟩
 refine aF (v:=zB z) (aG ?_)
 obtain rfl:=zI c
 exact bK (bE Tryz.results98 rfl ⟨rfl,V⟩)
theorem rM {d:(List Int)} {e:Nat} {l m:Int} {h:(List bI)} {i:(List Edge)} {n o:Int} {j:(List bI)} {k:(List Edge)} {z:Nat} {p:(List ((Int × Int) × Bool))} {J:Nat} {q:Int} {g:Nat} {R:Int} (hs:aI G K (L) w) (V:bX K a1 c2 d) (h6:fP K a4 e [i64 l,i64 m,zS a7 h.length c8,zS a10 i.length c11,i64 n,i64 o,zS a13 j.length c14,zS a16 k.length c17,Value.func (.func 30) #[] #[cP a19 z]]) (h9:bX K a7 c8 h) (b2:bX K a10 c11 i) (b3:bX K a13 c14 j) (b4:bX K a16 c17 k) (b5:fP K a19 z [zM (some J)]) (b6:rdM K J p) (b7:fP K a24 g [i64 q]) (b:iT d l m h i n o j k p q=some R):
  Calls Tryz.prog 127 ([zS a1 d.length c2,Value.func (.func 98) #[] #[cP a4 e,cP a24 g]]:List Value).toArray w (gQ fun v w'=>v=i64 R∧aI G K (L) w'):=by
 refine aS Tryz.func127 rfl (by kernel_rfl) (by show (2:Nat)≤19;decide) ?_
 unfold iT at b
 refine aK (aF (v:=i64 0) (aG (aO (aK (aL (v:=zS a1 d.length c2) (aD (bT (len:=d.length) bO rfl) (aL (v:=i64 0) (aG (aZ (fun f w=>fN=some R∧aI G K (L) w) ?_ ?_)))))))))
 ·rintro f d0 ⟨b,b8⟩
  unfold fN at b
  refine aA (aK (aF (v:=i64 (-1)) (aG ?_)))
  obtain rfl:=zI b
  exact bK (bE Tryz.results127 rfl ⟨rfl,b8⟩)
 obtain ⟨d1,c0,b⟩:=aC b
 refine cC c0 (fun (c:Int) f w=>f 0=zS a1 d.length c2∧f 1=Value.func (.func 98) #[] #[cP a4 e,cP a24 g]∧f 7=i64 (d.length:Int)∧f 8=i64 c∧aI G K (L) w) ?_ ?_
 ·exact ⟨rfl,rfl,rfl,rfl,hs⟩
 ·rintro c c1 f d2 a Z ⟨a0,a2,a3,r,u⟩
  replace a:hX d l m h i n o j k p q c=some c1:=a
  unfold hX at a
  refine aK (aD (cT r a3) (aG (aO ?_)))
  rcases aH a with ⟨x,a⟩|⟨x,a⟩
  ·refine aM x rfl (aY (aA (aO (cI (aK (aN r (aF (v:=i64 c) (aG (aK (aN a2 (aN a0 (aL (v:=i64 c) ?_))))))))))))
   obtain ⟨a5,a6,a⟩:=aC a
   refine aD (cU bO rfl V rfl rfl rfl a6) ?_
   obtain ⟨d3,c3,c4⟩:=bX.el (sz:=1) rfl V a6
   cases c4
   refine aD (bG (t:=0) bY u c3 rfl rfl) ?_
   obtain ⟨d4,c5,a⟩:=aC a
   refine mS (vs:=[i64 a5]) (caps:=[cP a4 e,cP a24 g]) (us:=[i64 a5,cP a4 e,cP a24 g]) rfl Tryz.call98 rfl rfl (aCJ u h6 h9 b2 b3 b4 b5 b6 b7 c5) ?_
   rintro _ d5 ⟨rfl,a8⟩
   refine aG ?_
   rcases aH a with ⟨y,a⟩|⟨y,a⟩
   ·refine aM y rfl (aK (aL (v:=i64 c) (aF (v:=i64 c) (aG (bK (bS (aX (aX ?_))))))))
    have c6:=Z _ (zI a).symm
    subst c6
    have b:(some c)=some R:=b
    obtain rfl:=zI b
    exact bS (aX (aX (bE Tryz.results127 rfl ⟨rfl,a8⟩)))
   ·exact aJ y rfl (aY (bA (aA (aP (aD (cK r rfl) (aL (v:=i64 (wr (c+1))) (aG ⟨wr (c+1),(zI a).symm,a0,a2,a3,rfl,a8⟩)))))))
  ·refine aJ x rfl (cA (aV (aV ?_)))
   have c9:=Z _ (zI a).symm
   subst c9
   have b:(fN)=some R:=b
   exact bN (aA ⟨b,u⟩)
theorem qB {a:(List Int)} {b:Nat} {j k:Int} {e:(List bI)} {g:(List Edge)} {l m:Int} {h:(List bI)} {i:(List Edge)} {n:Nat} {o:(List ((Int × Int) × Bool))} {p:Nat} {q:Int} {c:Nat} {R:Bool} (r:aI G K (L) w) (t:bX K a1 c2 a) (u:fP K a4 b [i64 j,i64 k,zS a7 e.length c8,zS a10 g.length c11,i64 l,i64 m,zS a13 h.length c14,zS a16 i.length c17,Value.func (.func 30) #[] #[cP a19 n]]) (x:bX K a7 c8 e) (y:bX K a10 c11 g) (z:bX K a13 c14 h) (J:bX K a16 c17 i) (V:fP K a19 n [zM (some p)]) (Z:rdM K p o) (a0:fP K a24 c [i64 q]) (d:hY a j k e g l m h i o q=some R):
  Calls Tryz.prog 94 ([zS a1 a.length c2,Value.func (.func 98) #[] #[cP a4 b,cP a24 c]]:List Value).toArray w (gQ fun v w'=>v=zB R∧aI G K (L) w'):=by
 refine aS Tryz.func94 rfl (by kernel_rfl) (by show (2:Nat)≤9;decide) ?_
 unfold hY at d
 refine aK (aF (v:=zB false) (aG (aK (aL (v:=zS a1 a.length c2) (aL (v:=Value.func (.func 98) #[] #[cP a4 b,cP a24 c]) ?_)))))
 obtain ⟨a2,a3,d⟩:=aC d
 refine aQ (vs:=[zS a1 a.length c2,Value.func (.func 98) #[] #[cP a4 b,cP a24 c]]) Tryz.call127 rfl (rM r t u x y z J V Z a0 a3) ?_
 rintro _ a8 ⟨rfl,a5⟩
 refine aD (uJ rfl rfl) (aF (v:=zB (decide (0≤a2))) (aG ?_))
 obtain rfl:=zI d
 exact bK (bE Tryz.results94 rfl ⟨rfl,a5⟩)
theorem aEC {r_a r_b:cD} {g:Nat} {l:(List ((Int × Int) × Bool))} {r16:Nat} {m y:Int} {h:bI} {e:Int} {R:Bool} (u:aI G K (L) w) (x:bX K a1 c2 r_a.L) (z:bX K a4 c5 r_a.E) (n:bX K a7 c8 r_b.L) (o:bX K a10 c11 r_b.E) (J:fP K a13 g [zM (some r16)]) (V:rdM K r16 l) (c:aBR r_a r_b l m y h e=some R):
  Calls Tryz.prog 65 ([zA #[i64 r_a.N,i64 r_a.I,zS a1 r_a.L.length c2,zS a4 r_a.E.length c5,i64 r_b.N,i64 r_b.I,zS a7 r_b.L.length c8,zS a10 r_b.E.length c11,Value.func (.func 30) #[] #[cP a13 g]],i64 m,i64 y,str h,i64 e]:List Value).toArray w (gQ fun v w'=>v=zB R∧aI G K (L) w'):=by
 let p:=[i64 r_a.N,i64 r_a.I,zS a1 r_a.L.length c2,zS a4 r_a.E.length c5,i64 r_b.N,i64 r_b.I,zS a7 r_b.L.length c8,zS a10 r_b.E.length c11,Value.func (.func 30) #[] #[cP a13 g]]
 refine aS Tryz.func65 rfl (by kernel_rfl) (by show (5:Nat)≤19;decide) ?_
 unfold aBR at c
 refine aK (eA (v:=zA #[i64 r_a.N,i64 r_a.I,zS a1 r_a.L.length c2,zS a4 r_a.E.length c5,i64 r_b.N,i64 r_b.I,zS a7 r_b.L.length c8,zS a10 r_b.E.length c11,Value.func (.func 30) #[] #[cP a13 g]]) (vs:=p) u rfl rfl (fun j d3 Z=>(eA (v:=i64 e) (vs:=[i64 e]) Z rfl rfl (fun k d4 q=>(aF (v:=zB false) (aG (aK (aD (bL (t':=4) aDC rfl rfl) (aD (cS (us:=(zC r_b a7 c8 a10 c11)) dB q (i:=1) rfl rfl rfl rfl) (aL (v:=i64 y) (cJ (Kt:=K) (xs:=([y]:List Int)) (cs:=[i64 y]) (vs:=[(0,i64 y)]) bO jU rfl rfl q rfl (by kernel_rfl) rfl rfl rfl ⟨rfl,trivial⟩ (fun r a0 (a2:aI G K (aR 2 K r 1 ([y]:List Int)::box k 2 [i64 e]::box j 69 p::L) a0)=>(aL (v:=str h) ?_)))))))))))))
 obtain ⟨d5,t,a3,a5,a6⟩:=aI.lendS (i:=0) a2 (zR _) rfl
 obtain ⟨a8,a9,c⟩:=aC c
 refine aQ (vs:=[zA (zCa r_b a7 c8 a10 c11),zS r ([y]:List Int).length 1,str h]) Tryz.call97 rfl (sG a5 (n.mono t) (o.mono t) a3 a9) ?_
 rintro _ d6 ⟨b0,b1,rfl,b2⟩
 have b3:=a6 _ _ b2
 refine aD (vW (vs:=[zP (some ⟨j,0,none⟩),zP (some ⟨k,0,none⟩)]) rfl) ?_
 obtain ⟨d7,d,b4,b5,b6⟩:=aI.lendS (i:=1) b3 (zR _) rfl
 obtain ⟨d8,b,b7,b8,b9⟩:=aI.lendB (i:=2) b5 rfl
 obtain ⟨d9,a,c0,c1,c3⟩:=aI.lendB (i:=1) b8 rfl
 obtain ⟨c4,c6,c⟩:=aC c
 refine aQ (vs:=[zS b0 a8.length b1,Value.func (.func 98) #[] #[cP (some ⟨j,0,none⟩) 0,cP (some ⟨k,0,none⟩) 0]]) Tryz.call94 rfl (qB c1 (b4.mono (zL b a)) (b7.mono a) (x.mono (zL (zL d b) a)) (z.mono (zL (zL d b) a)) (n.mono (zL (zL d b) a)) (o.mono (zL (zL d b) a)) (J.mono (zL (zL d b) a)) (V.mono (zL (zL d b) a)) c0 c6) ?_
 rintro _ e0 ⟨rfl,c7⟩
 have c9:=c3 _ _ c7
 have d0:=b9 _ _ c9
 have d1:=b6 _ _ d0
 refine aF (v:=zB c4) (aG ?_)
 obtain rfl:=zI c
 exact bK (bE Tryz.results65 rfl ⟨rfl,(aI.arr 4 [] d1 rfl)⟩)
theorem aAS {r_a r_b:cD} {j:Nat} {p:(List ((Int × Int) × Bool))} {r16:Nat} {g y:Int} {R:Bool} (hs:aI G K (L) w) (m:bX K a1 c2 r_a.L) (h6:bX K a4 c5 r_a.E) (h9:bX K a7 c8 r_b.L) (c0:bX K a10 c11 r_b.E) (c1:fP K a13 j [zM (some r16)]) (c3:rdM K r16 p) (b:qO r_a r_b p g y=some R):
  Calls Tryz.prog 63 ([zA #[i64 r_a.N,i64 r_a.I,zS a1 r_a.L.length c2,zS a4 r_a.E.length c5,i64 r_b.N,i64 r_b.I,zS a7 r_b.L.length c8,zS a10 r_b.E.length c11,Value.func (.func 30) #[] #[cP a13 j]],i64 g,i64 y,Value.func (.func 65) #[] #[]]:List Value).toArray w (gQ fun v w'=>v=zB R∧aI G K (L) w'):=by
 let n:=[i64 r_a.N,i64 r_a.I,zS a1 r_a.L.length c2,zS a4 r_a.E.length c5,i64 r_b.N,i64 r_b.I,zS a7 r_b.L.length c8,zS a10 r_b.E.length c11,Value.func (.func 30) #[] #[cP a13 j]]
 refine aS Tryz.func63 rfl (by kernel_rfl) (by show (4:Nat)≤36;decide) ?_
 unfold qO at b
 refine aK (eA (v:=zA #[i64 r_a.N,i64 r_a.I,zS a1 r_a.L.length c2,zS a4 r_a.E.length c5,i64 r_b.N,i64 r_b.I,zS a7 r_b.L.length c8,zS a10 r_b.E.length c11,Value.func (.func 30) #[] #[cP a13 j]]) (vs:=n) hs rfl rfl (fun q e9 a2=>(aF (v:=zB false) (aG (aO (aK (aD (bL (t':=0) yY rfl rfl) (aD (cS (us:=(zC r_a a1 c2 a4 c5)) dB a2 (i:=0) rfl rfl rfl rfl) (aL (v:=i64 g) ?_)))))))))
 obtain ⟨k,c4,b⟩:=aC b
 refine aQ (vs:=[zA (zCa r_a a1 c2 a4 c5),i64 g]) Tryz.call79 rfl (tJ a2 m h6 c4) ?_
 rintro _ f0 ⟨r,u,rfl,c6⟩
 refine aD (bT (len:=k.length) cN rfl) (aL (v:=i64 0) (aG (aZ (fun f w=>kP=some R∧aI G K (L) w) ?_ ?_)))
 ·rintro f f1 ⟨b,c7⟩
  unfold kP at b
  refine aA (aK (aF (v:=zB true) (aG ?_)))
  obtain rfl:=zI b
  exact bK (bE Tryz.results63 rfl ⟨rfl,c7⟩)
 obtain ⟨f2,d0,b⟩:=aC b
 refine cC d0 (fun (l:Int) f w=>f 1=i64 g∧f 2=i64 y∧f 3=Value.func (.func 65) #[] #[]∧f 4=zP (some ⟨q,0,none⟩)∧f 14=zS r k.length u∧f 15=i64 (k.length:Int)∧f 16=i64 l∧aI G K (aR 51 K r u k::box q 69 n::L) w) ?_ ?_
 ·exact ⟨rfl,rfl,rfl,rfl,rfl,rfl,rfl,c6⟩
 ·rintro l d1 f f3 a a3 ⟨a5,a6,a8,x,a9,b0,z,o⟩
  replace a:nL r_a r_b p g y k l=some d1:=a
  unfold nL at a
  refine aK (aD (cT z b0) (aG (aO ?_)))
  rcases aH a with ⟨J,a⟩|⟨J,a⟩
  ·refine aM J rfl (aY (aA (aO (cI (aK ?_)))))
   obtain ⟨c,V,a⟩:=aC a
   have d2:=dZ o (i:=0) rfl V
   refine aD (eM cN rfl d2 a9 rfl z V) (aD (wZ (t:=0) (vs:=[i64 c.F,i64 c.B,i64 c.To]) kW o (i:=0) rfl V rfl rfl rfl rfl) (cQ (vs:=[i64 0,i64 0,i64 0]) Tryz.zeroValue51 o rfl (fun d3 f4 d4=>(cZ (i:=0) (ns:=[i64 c.F,i64 c.B,i64 c.To]) (us:=[i64 c.F,i64 c.B,i64 c.To]) Tryz.sizeOf51 d4 rfl rfl rfl rfl rfl (fO rfl) rfl rfl (fun d5 (d6:aI G K (box d3 51 [i64 c.F,i64 c.B,i64 c.To]::aR 51 K r u k::box q 69 n::L) d5)=>(aG (aO ?_)))))))
   obtain ⟨f5,h,b1,d7,d8⟩:=aI.lendB (i:=0) d6 rfl
   obtain ⟨d9,e,b2,b3,e0⟩:=aI.lendB (i:=1) d7 rfl
   refine dQ (C:=fun w'=>∃ L',aI G d9 L' w') [(0,0),(1,0),(2,0),(3,0),(4,0),(5,0),(6,0),(7,0),(8,0),(9,0),(10,0),(11,0),(12,0),(13,1),(14,0)] bP (by kernel_rfl) (fun _ hg=>⟨_,aI.mono b3 hg⟩) (fun f6 e1=>?_)
   have d:=aI.mono b3 e1
   refine bJ rfl (fun _ _=>aW a8) (bJ rfl (fun _ ⟨_,d⟩=>iD (t:=0) (vs:=n) aEe d b2 x rfl rfl) (bJ rfl (fun _ _=>aW a5) (bJ rfl (fun _ _=>aW a6) (bJ rfl (fun _ _=>bL (t':=0) yY x rfl) (bJ rfl (fun _ _=>bL (t':=2) gV rfl rfl) (bJ rfl (fun _ ⟨_,d⟩=>bG (t:=2) oC d b2 rfl rfl) (bJ rfl (fun _ _=>bL (t':=1) iZ rfl rfl) (bJ rfl (fun _ ⟨_,d⟩=>bG (t:=1) bY d (b1.mono e) rfl rfl) ?_))))))))
   obtain ⟨b4,b5,a⟩:=aC a
   refine bJ rfl (fun _ _=>cU dM rfl (m.mono (zL h e)) rfl rfl rfl b5) ?_
   obtain ⟨f7,e2,e3⟩:=bX.el (sz:=1) rfl m b5
   cases e3
   refine bJ rfl (fun _ ⟨_,d⟩=>bG (t:=0) yF d (e2.mono (zL h e)) rfl rfl) (bJ rfl (fun _ _=>bL (t':=2) iC rfl rfl) (bJ rfl (fun _ ⟨_,d⟩=>bG (t:=2) bY d (b1.mono e) rfl rfl) (gZ rfl ?_)))
   obtain ⟨f8,e4,a⟩:=aC a
   refine mS (vs:=[zA #[i64 r_a.N,i64 r_a.I,zS a1 r_a.L.length c2,zS a4 r_a.E.length c5,i64 r_b.N,i64 r_b.I,zS a7 r_b.L.length c8,zS a10 r_b.E.length c11,Value.func (.func 30) #[] #[cP a13 j]],i64 g,i64 y,str b4,i64 c.To]) (caps:=[]) (us:=[zA #[i64 r_a.N,i64 r_a.I,zS a1 r_a.L.length c2,zS a4 r_a.E.length c5,i64 r_b.N,i64 r_b.I,zS a7 r_b.L.length c8,zS a10 r_b.E.length c11,Value.func (.func 30) #[] #[cP a13 j]],i64 g,i64 y,str b4,i64 c.To]) rfl Tryz.call65 rfl rfl (aEC (r_a:=⟨r_a.N,r_a.I,r_a.L,r_a.E⟩) (r_b:=⟨r_b.N,r_b.I,r_b.L,r_b.E⟩) d (m.mono (zL h e)) (h6.mono (zL h e)) (h9.mono (zL h e)) (c0.mono (zL h e)) (c1.mono (zL h e)) (c3.mono (zL h e)) e4) ?_
   rintro _ f9 ⟨rfl,b6⟩
   refine bM (aA ⟨⟨_,b6⟩,?_⟩)
   refine bJ rfl (fun _ _=>eR rfl) (gR ?_)
   have e5:=e0 _ _ b6
   have b7:=d8 _ _ e5
   refine aA ?_
   rcases aH a with ⟨Z,a⟩|⟨Z,a⟩
   ·refine aM Z rfl (aK (aF (v:=zB false) (aG (bK (bS (aX (aX ?_)))))))
    have e6:=a3 _ (zI a).symm
    subst e6
    have b:(some false)=some R:=b
    obtain rfl:=zI b
    exact bS (aX (aX (bE Tryz.results63 rfl ⟨rfl,(aI.arr 3 [] b7 rfl)⟩)))
   ·exact aJ Z rfl (aY (bA (aA (aP (aD (cK z rfl) (aL (v:=i64 (wr (l+1))) (aG ⟨wr (l+1),(zI a).symm,a5,a6,a8,x,a9,b0,rfl,(aI.arr 3 [2,1] b7 rfl)⟩)))))))
  ·refine aJ J rfl (cA (aV (aV ?_)))
   have e8:=a3 _ (zI a).symm
   subst e8
   have b:(kP)=some R:=b
   exact bN (aA ⟨b,(aI.arr 2 [] o rfl)⟩)
theorem aAw {r_a r_b:cD} {e:Nat} {l:(List ((Int × Int) × Bool))} {r16:Nat} {kind d y:Int} {R:Bool} (hs:aI G K (L) w) (m:bX K a1 c2 r_a.L) (n:bX K a4 c5 r_a.E) (o:bX K a7 c8 r_b.L) (p:bX K a10 c11 r_b.E) (x:fP K a13 e [zM (some r16)]) (z:rdM K r16 l) (a:lL r_a r_b l kind d y=some R):
  Calls Tryz.prog 31 ([zA #[i64 r_a.N,i64 r_a.I,zS a1 r_a.L.length c2,zS a4 r_a.E.length c5,i64 r_b.N,i64 r_b.I,zS a7 r_b.L.length c8,zS a10 r_b.E.length c11,Value.func (.func 30) #[] #[cP a13 e]],i64 kind,i64 d,i64 y]:List Value).toArray w (gQ fun v w'=>v=zB R∧aI G K (L) w'):=by
 let k:=[i64 r_a.N,i64 r_a.I,zS a1 r_a.L.length c2,zS a4 r_a.E.length c5,i64 r_b.N,i64 r_b.I,zS a7 r_b.L.length c8,zS a10 r_b.E.length c11,Value.func (.func 30) #[] #[cP a13 e]]
 refine aS Tryz.func31 rfl (by kernel_rfl) (by show (4:Nat)≤33;decide) ?_
 unfold lL at a
 refine aK (eA (v:=zA #[i64 r_a.N,i64 r_a.I,zS a1 r_a.L.length c2,zS a4 r_a.E.length c5,i64 r_b.N,i64 r_b.I,zS a7 r_b.L.length c8,zS a10 r_b.E.length c11,Value.func (.func 30) #[] #[cP a13 e]]) (vs:=k) hs rfl rfl (fun J f0 b3=>(aF (v:=zB false) (aG (aO (aO (dO (fun f w=>∃ (q:Bool),kG r_a r_b l kind d y q=some R∧f 1=i64 kind∧f 2=i64 d∧f 3=i64 y∧f 4=zP (some ⟨J,0,none⟩)∧f 22=zB q∧aI G K (box J 69 k::L) w) ?_ ?_)))))))
 ·rintro f f1 ⟨q,a,b4,V,Z,a0,a2,j⟩
  unfold kG at a
  refine aA ?_
  rcases aH a with ⟨r,a⟩|⟨r,a⟩
  ·refine aM r a2 (aK (aF (v:=zB false) (aG ?_)))
   obtain rfl:=zI a
   exact bK (aX (bE Tryz.results31 rfl ⟨rfl,(aI.arr 1 [] j rfl)⟩))
  ·refine aJ r a2 (aY (aA (aO (aK (aN b4 (aD (lA rfl rfl) (aG ?_)))))))
   rcases aH a with ⟨u,a⟩|⟨u,a⟩
   ·refine aM u rfl (aK (aD (cS (us:=k) aEe j (i:=0) rfl a0 rfl rfl) (aN V (aN Z ?_))))
    obtain ⟨b6,b7,a⟩:=aC a
    refine aQ (vs:=[zA #[i64 r_a.N,i64 r_a.I,zS a1 r_a.L.length c2,zS a4 r_a.E.length c5,i64 r_b.N,i64 r_b.I,zS a7 r_b.L.length c8,zS a10 r_b.E.length c11,Value.func (.func 30) #[] #[cP a13 e]],i64 d,i64 y,Value.func (.func 64) #[] #[]]) Tryz.call63 rfl (aAR (r_a:=⟨r_a.N,r_a.I,r_a.L,r_a.E⟩) (r_b:=⟨r_b.N,r_b.I,r_b.L,r_b.E⟩) j m n o p x z b7) ?_
    rintro _ f2 ⟨rfl,b8⟩
    refine aF (v:=zB b6) (aG ?_)
    obtain rfl:=zI a
    exact bK (aX (bE Tryz.results31 rfl ⟨rfl,(aI.arr 1 [] b8 rfl)⟩))
   ·refine aJ u rfl (aY (aA (aK (aD (cS (us:=k) aEe j (i:=0) rfl a0 rfl rfl) (aN V (aN Z ?_))))))
    obtain ⟨c0,c1,a⟩:=aC a
    refine aQ (vs:=[zA #[i64 r_a.N,i64 r_a.I,zS a1 r_a.L.length c2,zS a4 r_a.E.length c5,i64 r_b.N,i64 r_b.I,zS a7 r_b.L.length c8,zS a10 r_b.E.length c11,Value.func (.func 30) #[] #[cP a13 e]],i64 d,i64 y,Value.func (.func 65) #[] #[]]) Tryz.call63 rfl (aAS (r_a:=⟨r_a.N,r_a.I,r_a.L,r_a.E⟩) (r_b:=⟨r_b.N,r_b.I,r_b.L,r_b.E⟩) j m n o p x z c1) ?_
    rintro _ f3 ⟨rfl,c3⟩
    refine aF (v:=zB c0) (aG ?_)
    obtain rfl:=zI a
    exact bK (bE Tryz.results31 rfl ⟨rfl,(aI.arr 1 [] c3 rfl)⟩)
 obtain ⟨c6,h,a3,a5,a6⟩:=aI.lendB (i:=0) b3 rfl
 refine dQ (C:=fun w'=>∃ L',aI G c6 L' w') [(0,0),(1,0),(2,0),(3,0),(4,0),(5,0),(7,0),(8,0),(9,0),(6,1),(10,1),(11,1),(12,0),(13,0)] bP (by kernel_rfl) (fun _ hg=>⟨_,aI.mono a5 hg⟩) (fun f4 c7=>?_)
 have c:=aI.mono a5 c7
 refine bJ rfl (fun _ _=>aW (v:=i64 kind) rfl) (bJ rfl (fun _ _=>lA rfl rfl) (bJ rfl (fun _ _=>aW (v:=zB (kind == 1)) rfl) ?_))
 rcases aH a with ⟨b,a⟩|⟨b,a⟩
 ·refine mA rfl rfl rfl b (fun _ _=>bL (t':=0) yY rfl rfl) (mA rfl rfl rfl b (fun _ ⟨_,c⟩=>iD (t:=0) (vs:=(zC r_a a1 c2 a4 c5)) dB c a3 rfl rfl rfl) (mA rfl rfl rfl b (fun _ _=>aW (v:=i64 d) rfl) (mA rfl rfl rfl b (fun _ _=>bL (t':=4) aDC rfl rfl) (mA rfl rfl rfl b (fun _ ⟨_,c⟩=>iD (t:=4) (vs:=(zC r_b a7 c8 a10 c11)) dB c a3 rfl rfl rfl) (mA rfl rfl rfl b (fun _ _=>aW (v:=i64 y) rfl) (gZ rfl (bB b rfl rfl ?_)))))))
  obtain ⟨c9,d0,a⟩:=aC a
  refine aQ (vs:=[zA (zCa r_a a1 c2 a4 c5),i64 d]) Tryz.call49 rfl (iP c (m.mono h) (n.mono h) d0) ?_
  rintro _ f5 ⟨d1,d2,rfl,a8⟩
  refine bM (aA ⟨⟨_,a8⟩,?_⟩)
  refine gZ rfl (bB b rfl rfl ?_)
  obtain ⟨d3,d4,a⟩:=aC a
  refine aQ (vs:=[zA (zCa r_b a7 c8 a10 c11),i64 y]) Tryz.call49 rfl (iP a8 (o.mono h) (p.mono h) d4) ?_
  rintro _ f6 ⟨d5,d6,rfl,a9⟩
  refine bM (aA ⟨⟨_,a9⟩,?_⟩)
  refine gZ rfl (bB b rfl rfl ?_)
  obtain ⟨f7,d7,d8,d9,e0⟩:=aI.lendS (i:=1) a9 h rfl
  obtain ⟨f8,e1,e2,e3,e4⟩:=aI.lendS (i:=0) d9 (zL h d7) rfl
  obtain ⟨b0,e5,a⟩:=aC a
  refine aQ (vs:=[zS d1 c9.length d2,zS d5 d3.length d6]) Tryz.call48 rfl (iW e3 (d8.mono e1) e2 e5) ?_
  rintro _ f9 ⟨rfl,e6⟩
  have e7:=e4 _ _ e6
  have b1:=e0 _ _ e7
  refine bM (aA ⟨⟨_,b1⟩,?_⟩)
  refine mA rfl rfl rfl b (fun _ _=>eR rfl) (bJ rfl (fun _ _=>bF (v:=zB (!b0)) b rfl rfl) (gR ?_))
  have e8:=a6 _ _ b1
  exact aA ⟨!b0,a,rfl,rfl,rfl,rfl,rfl,(aI.arr 3 [0] e8 rfl)⟩
 ·refine iR rfl rfl rfl (dC b) (iR rfl rfl rfl (dC b) (iR rfl rfl rfl (dC b) (iR rfl rfl rfl (dC b) (iR rfl rfl rfl (dC b) (iR rfl rfl rfl (dC b) (gZ rfl (aU (g:=11) b (by exact rfl) rfl (bM (aA ⟨⟨_,c⟩,?_⟩)))))))))
  refine gZ rfl (aU (g:=11) b (by exact rfl) rfl (bM (aA ⟨⟨_,c⟩,?_⟩)))
  refine gZ rfl (aU (g:=11) b (by exact rfl) rfl (bM (aA ⟨⟨_,c⟩,?_⟩)))
  refine iR rfl rfl rfl (dC b) (bJ rfl (fun _ _=>bH (v:=zB false) b rfl rfl) (gR ?_))
  have e9:=a6 _ _ c
  exact aA ⟨false,a,rfl,rfl,rfl,rfl,rfl,e9⟩
theorem yH {a b:cD} {kind:Int} {J:(List (List Int))} {R:Bool} (hs:aI G K (L) w) (hG:G.lo=0) (h3:bX K a1 c2 a.L) (h6:bX K a4 c5 a.E) (h9:bX K a7 c8 b.L) (b6:bX K a10 c11 b.E) (e9:bX K a13 c14 J) (c:kV a b kind J=some R):
  Calls Tryz.prog 10 ([zA (zCa a a1 c2 a4 c5),zA (zCa b a7 c8 a10 c11),i64 kind,zS a13 J.length c14]:List Value).toArray w (gQ fun v w'=>v=zB R∧aI G K (L) w'):=by
 let h:=(zC b a7 c8 a10 c11)
 let l:=(zC a a1 c2 a4 c5)
 refine aS Tryz.func10 rfl (by kernel_rfl) (by show (4:Nat)≤63;decide) ?_
 unfold kV at c
 refine aK (eA (v:=zA (zCa a a1 c2 a4 c5)) (vs:=l) hs rfl rfl (fun p j8 f0=>(eA (v:=zA (zCa b a7 c8 a10 c11)) (vs:=h) f0 rfl rfl (fun q j9 d3=>(aF (v:=zB false) (aG (aO (aO (dO (fun f w=>∃ (b7:Bool),kJ a b kind J b7=some R∧f 2=i64 kind∧f 3=zS a13 J.length c14∧f 4=zP (some ⟨p,0,none⟩)∧f 5=zP (some ⟨q,0,none⟩)∧f 25=zB b7∧aI G K (box q 27 h::box p 27 l::L) w) ?_ ?_)))))))))
 ·rintro f k0 ⟨b7,c,f1,f2,b8,b9,d4,a6⟩
  unfold kJ at c
  refine aA ?_
  rcases aH c with ⟨c0,c⟩|⟨c0,c⟩
  ·refine aM c0 d4 (aK (aF (v:=zB false) (aG ?_)))
   obtain rfl:=zI c
   exact bK (aX (bE Tryz.results10 rfl ⟨rfl,(aI.arr 2 [] a6 rfl)⟩))
  ·refine aJ c0 d4 (aY (aA (aK (aD (cS (us:=l) dB a6 (i:=1) rfl b8 rfl rfl) (aD (cS (us:=h) dB a6 (i:=0) rfl b9 rfl rfl) (aN f2 ?_))))))
   obtain ⟨m,f4,c⟩:=aC c
   refine aQ (vs:=[zA (zCa a a1 c2 a4 c5),zA (zCa b a7 c8 a10 c11),zS a13 J.length c14]) Tryz.call29 rfl (aHr a6 h3 h6 h9 b6 e9 f4) ?_
   rintro _ d5 ⟨d,rfl,d6⟩
   rcases aH c with ⟨a8,c⟩|⟨a8,c⟩
   ·have f5:aI G K (sC d m.1::box q 27 h::box p 27 l::L) d5:=aI.mpcE (i:=0) d6 rfl a8
    refine aN (v:=zT #[zM (some d),zB true]) (congrArg (fun b:Bool=>zT #[zM (if b=true then some d else none),zB b]) a8) (aD (cH rfl rfl) (aD (cH rfl rfl) (cQ (vs:=[zM none]) Tryz.zeroValue56 f5 rfl (fun e k1 f6=>(cZ (i:=0) (ns:=[zM (some d)]) (us:=[zM (some d)]) Tryz.sizeOf56 f6 rfl rfl rfl rfl rfl (fO rfl) rfl rfl (fun f7 (u:aI G K (box e 56 [zM (some d)]::sC d m.1::box q 27 h::box p 27 l::L) f7)=>(aF (v:=zB true) (aG (aO (aK (aL (v:=zB true) (aD (eR rfl) (aL (v:=zB (!true)) (bD (g:=35) (by decide:¬ (!true)=true) (by kernel_rfl) rfl (aD (dG aFa u (i:=0) rfl rfl rfl) (bD (g:=35) (by decide:¬ (!true)=true) (by kernel_rfl) rfl (aD (bL (t':=1) oV b8 rfl) (bD (g:=35) (by decide:¬ (!true)=true) (by kernel_rfl) rfl (aD (dG bY u (i:=3) rfl rfl rfl) (bD (g:=35) (by decide:¬ (!true)=true) (by kernel_rfl) rfl (aD (bL (t':=1) oV b9 rfl) (bD (g:=35) (by decide:¬ (!true)=true) (by kernel_rfl) rfl (aD (dG bY u (i:=2) rfl rfl rfl) ?_)))))))))))))))))))))))
    refine bD (g:=35) (by decide:¬ (!true)=true) (by kernel_rfl) rfl (aD (aBZ (vs:=[(0,i64 a.I),(1,i64 b.I)]) (cs:=[i64 a.I,i64 b.I]) aCD aIK rfl (by kernel_rfl)) (bD (g:=35) (by decide:¬ (!true)=true) (by kernel_rfl) rfl (aD (R_look1 (kv:=m.1) (k:=⟨a.I,b.I⟩) (z:=(false:Bool)) Tryz.runUnderlying56 aHg Tryz.zeroValue4 u (i:=1) rfl rfl rfl) (bD (g:=35) (by decide:¬ (!true)=true) (by kernel_rfl) rfl (aD (eR rfl) (aD (bH (v:=zB (!((kZ m.1 ⟨a.I,b.I⟩).getD false))) (by decide:¬ (!true)=true) rfl rfl) (aG ?_)))))))
    rcases aH c with ⟨c45,c⟩|⟨c45,c⟩
    ·refine aM c45 rfl (aK (aF (v:=zB false) (aG ?_)))
     obtain rfl:=zI c
     exact bK (aX (bE Tryz.results10 rfl ⟨rfl,(aI.arr 4 [] u rfl)⟩))
    ·refine aJ c45 rfl (aY (aA (aK (aD (cS (us:=l) dB u (i:=3) rfl b8 rfl rfl) (aD (cS (us:=h) dB u (i:=2) rfl b9 rfl rfl) (aD (vW (vs:=[zP (some ⟨e,0,none⟩)]) rfl) (aD (nH (vs:=[(0,zA (zCa a a1 c2 a4 c5)),(1,zA (zCa b a7 c8 a10 c11)),(2,Value.func (.func 30) #[] #[zP (some ⟨e,0,none⟩)])]) (cs:=[i64 a.N,i64 a.I,zS a1 a.L.length c2,zS a4 a.E.length c5,i64 b.N,i64 b.I,zS a7 b.L.length c8,zS a10 b.E.length c11,Value.func (.func 30) #[] #[zP (some ⟨e,0,none⟩)]]) bs_69 rfl (by kernel_rfl)) (cQ (vs:=[i64 0,i64 0,zS none 0 0,zS none 0 0,i64 0,i64 0,zS none 0 0,zS none 0 0,Value.nilFunc]) Tryz.zeroValue69 u rfl (fun x k2 f9=>(cZ (i:=0) (ns:=[i64 a.N,i64 a.I,zS a1 a.L.length c2,zS a4 a.E.length c5,i64 b.N,i64 b.I,zS a7 b.L.length c8,zS a10 b.E.length c11,Value.func (.func 30) #[] #[zP (some ⟨e,0,none⟩)]]) (us:=[i64 a.N,i64 a.I,zS a1 a.L.length c2,zS a4 a.E.length c5,i64 b.N,i64 b.I,zS a7 b.L.length c8,zS a10 b.E.length c11,Value.func (.func 30) #[] #[zP (some ⟨e,0,none⟩)]]) Tryz.sizeOf69 f9 rfl rfl rfl rfl rfl (fO rfl) rfl rfl (fun g0 (d7:aI G K (box x 69 [i64 a.N,i64 a.I,zS a1 a.L.length c2,zS a4 a.E.length c5,i64 b.N,i64 b.I,zS a7 b.L.length c8,zS a10 b.E.length c11,Value.func (.func 30) #[] #[zP (some ⟨e,0,none⟩)]]::box e 56 [zM (some d)]::sC d m.1::box q 27 h::box p 27 l::L) g0)=>(aG (aO (aK (aD (dG aFa d7 (i:=1) rfl rfl rfl) (aHc (i:=2) Tryz.runUnderlying56 d7 rfl rfl (fun Z g1 (g2:aI G K (box x 69 [i64 a.N,i64 a.I,zS a1 a.L.length c2,zS a4 a.E.length c5,i64 b.N,i64 b.I,zS a7 b.L.length c8,zS a10 b.E.length c11,Value.func (.func 30) #[] #[zP (some ⟨e,0,none⟩)]]::box e 56 [zM (some d)]::mpi Z d m.1 (List.map Prod.fst m.1) none::box q 27 h::box p 27 l::L) g1)=>(aG (aZ (fun f w=>oX=some R∧aI G K (L) w) ?_ ?_)))))))))))))))))))
     ·rintro f k3 ⟨c,g3⟩
      unfold oX at c
      refine aA (aK (aF (v:=zB true) (aG ?_)))
      obtain rfl:=zI c
      exact bK (bE Tryz.results10 rfl ⟨rfl,g3⟩)
     obtain ⟨k4,c1,c⟩:=aC c
     refine aJx (fun (n:Nat) f w=>∃ (a0:List (Int × Int)) (V:List (Int × Int)) (c3:Option ((Int × Int) × Bool)),List.Perm (a0++V) (List.map Prod.fst m.1)∧V.length=n∧(∀ j∈a0,(lU a b kind m) j=some true)∧f 2=i64 kind∧f 11=zP (some ⟨x,0,none⟩)∧f 50=zP (some ⟨Z,0,none⟩)∧aI G K (box x 69 [i64 a.N,i64 a.I,zS a1 a.L.length c2,zS a4 a.E.length c5,i64 b.N,i64 b.I,zS a7 b.L.length c8,zS a10 b.E.length c11,Value.func (.func 30) #[] #[zP (some ⟨e,0,none⟩)]]::box e 56 [zM (some d)]::mpi Z d m.1 V c3::box q 27 h::box p 27 l::L) w) (List.length (List.map Prod.fst m.1)) ⟨[],_,_,List.Perm.refl _,rfl,by simp,f1,rfl,rfl,g2⟩ ?_ ?_
     ·rintro f g5 ⟨a0,V,c3,a2,a9,c4,c6,c7,a3,d8⟩
      obtain rfl:=List.length_eq_zero_iff.1 a9
      replace c:(oX)=some R:=mall_t c1 a2 c4 c
      refine aK (aD (aJv d8 (i:=2) rfl a3) (aD (cH rfl rfl) (aG (aO (aJ (by decide:¬ false=true) rfl (cA (aV (aV ?_))))))))
      have g6:aI G K (box x 69 [i64 a.N,i64 a.I,zS a1 a.L.length c2,zS a4 a.E.length c5,i64 b.N,i64 b.I,zS a7 b.L.length c8,zS a10 b.E.length c11,Value.func (.func 30) #[] #[zP (some ⟨e,0,none⟩)]]::box e 56 [zM (some d)]::sC d m.1::box q 27 h::box p 27 l::L) g5:=aI.endI (i:=2) d8 rfl
      exact bN (aA ⟨c,(aI.arr 5 [] g6 rfl)⟩)
     ·rintro j f d9 ⟨a0,V,c3,a2,a9,c4,c6,c7,a3,g7⟩
      have g8:V≠[]:=by rintro rfl;cases a9
      refine aK (aHd g7 (i:=2) rfl g8 a3 (fun o e0 e1 g9 b0 k5 (e2:aI G K (box x 69 [i64 a.N,i64 a.I,zS a1 a.L.length c2,zS a4 a.E.length c5,i64 b.N,i64 b.I,zS a7 b.L.length c8,zS a10 b.E.length c11,Value.func (.func 30) #[] #[zP (some ⟨e,0,none⟩)]]::box e 56 [zM (some d)]::mpi Z d m.1 e1 (some (o,e0))::box q 27 h::box p 27 l::L) g9)=>?_))
      obtain ⟨h0,c9⟩:=mfil_at c1 a2 b0
      have y:(lU a b kind m) o=some h0:=c9
      unfold lU at y
      refine aD (cH rfl rfl) (aG (aO (aM (rfl:true=true) rfl (aY (aA (cI (aK (aD (aJw e2 (i:=2) rfl a3) (aD (cH rfl rfl) (cQ (vs:=[i64 0,i64 0]) Tryz.zeroValue66 e2 rfl (fun e3 k6 h1=>(cZ (i:=0) (ns:=[i64 o.1,i64 o.2]) (us:=[i64 o.1,i64 o.2]) Tryz.sizeOf66 h1 rfl rfl rfl rfl rfl (fO rfl) rfl rfl (fun h2 (b1:aI G K (box e3 66 [i64 o.1,i64 o.2]::box x 69 [i64 a.N,i64 a.I,zS a1 a.L.length c2,zS a4 a.E.length c5,i64 b.N,i64 b.I,zS a7 b.L.length c8,zS a10 b.E.length c11,Value.func (.func 30) #[] #[zP (some ⟨e,0,none⟩)]]::box e 56 [zM (some d)]::mpi Z d m.1 e1 (some (o,e0))::box q 27 h::box p 27 l::L) h2)=>(aG (aK (aD (cS (us:=[i64 a.N,i64 a.I,zS a1 a.L.length c2,zS a4 a.E.length c5,i64 b.N,i64 b.I,zS a7 b.L.length c8,zS a10 b.E.length c11,Value.func (.func 30) #[] #[zP (some ⟨e,0,none⟩)]]) aEe b1 (i:=1) rfl c7 rfl rfl) (aN c6 (aD (aIG (t':=0) (j:=0) aCD rfl rfl (by decide) (by decide) rfl) (aD (dG bY b1 (i:=0) rfl rfl rfl) (aD (aIG (t':=1) (j:=1) aCD rfl rfl (by decide) (by decide) rfl) (aD (dG bY b1 (i:=0) rfl rfl rfl) ?_)))))))))))))))))))))
      obtain ⟨k7,b2,h4,h5,h7⟩:=aI.lendI (i:=3) b1 rfl
      obtain ⟨k8,a5,h8,i0,i1⟩:=aI.lendB (i:=2) h5 rfl
      obtain ⟨k9,i2,y⟩:=aC y
      refine aQ (vs:=[zA #[i64 a.N,i64 a.I,zS a1 a.L.length c2,zS a4 a.E.length c5,i64 b.N,i64 b.I,zS a7 b.L.length c8,zS a10 b.E.length c11,Value.func (.func 30) #[] #[cP (some ⟨e,0,none⟩) 0]],i64 kind,i64 o.1,i64 o.2]) Tryz.call31 rfl (aAw (r_a:=⟨a.N,a.I,a.L,a.E⟩) (r_b:=⟨b.N,b.I,b.L,b.E⟩) i0 (h3.mono (zL b2 a5)) (h6.mono (zL b2 a5)) (h9.mono (zL b2 a5)) (b6.mono (zL b2 a5)) h8 (h4.mono a5) i2) ?_
      rintro _ d9 ⟨rfl,i3⟩
      have i4:=i1 _ _ i3
      have e4:=h7 _ _ i4
      refine aD (eR rfl) (aG ?_)
      rcases aH y with ⟨d0,y⟩|⟨d0,y⟩
      ·refine aM d0 rfl (aK (aF (v:=zB false) (aG (bK (bS (aX ?_))))))
       have i5:aI G K (sC d m.1::box e 56 [zM (some d)]::box e3 66 [i64 o.1,i64 o.2]::box x 69 [i64 a.N,i64 a.I,zS a1 a.L.length c2,zS a4 a.E.length c5,i64 b.N,i64 b.I,zS a7 b.L.length c8,zS a10 b.E.length c11,Value.func (.func 30) #[] #[zP (some ⟨e,0,none⟩)]]::box q 27 h::box p 27 l::L) d9:=aI.endI (i:=0) e4 rfl
       obtain rfl:=zI y
       replace c:(some false)=some R:=mall_f c1 a2 b0 c9 c
       obtain rfl:=zI c
       exact bS (aX (aX (bE Tryz.results10 rfl ⟨rfl,(aI.arr 6 [] i5 rfl)⟩)))
      ·refine aJ d0 rfl (aY (bA (aA ?_)))
       obtain rfl:=zI y
       exact ⟨a0++[o],_,_,aDz a2 b0,aEX b0 a9,all_next c4 c9,c6,c7,a3,(aI.arr 4 [3,1,0] e4 rfl)⟩
   ·have i7:aI G K (box q 27 h::box p 27 l::L) d5:=(aI.arr 1 [] d6 rfl)
    refine aN (v:=zT #[zM none,zB false]) (congrArg (fun b:Bool=>zT #[zM (if b=true then some d else none),zB b]) (gF a8)) (aD (cH rfl rfl) (aD (cH rfl rfl) (cQ (vs:=[zM none]) Tryz.zeroValue56 i7 rfl (fun i8 l0 i9=>(cZ (i:=0) (ns:=[zM none]) (us:=[zM none]) Tryz.sizeOf56 i9 rfl rfl rfl rfl rfl (fO rfl) rfl rfl (fun j0 (j1:aI G K (box i8 56 [zM none]::box q 27 h::box p 27 l::L) j0)=>(aF (v:=zB false) (aG (aO (aK (aL (v:=zB false) (aD (eR rfl) (aL (v:=zB (!false)) (aT (g:=35) (rfl:(!false)=true) (by kernel_rfl) rfl (aT (g:=35) (rfl:(!false)=true) (by kernel_rfl) rfl (aT (g:=35) (rfl:(!false)=true) (by kernel_rfl) rfl (aT (g:=35) (rfl:(!false)=true) (by kernel_rfl) rfl (aT (g:=35) (rfl:(!false)=true) (by kernel_rfl) rfl (aT (g:=35) (rfl:(!false)=true) (by kernel_rfl) rfl (aT (g:=35) (rfl:(!false)=true) (by kernel_rfl) rfl (aT (g:=35) (rfl:(!false)=true) (by kernel_rfl) rfl (aD (bF (v:=zB true) (rfl:(!false)=true) rfl rfl) (aG ?_)))))))))))))))))))))))
    refine aM (rfl:true=true) rfl (aK (aF (v:=zB false) (aG ?_)))
    obtain rfl:=zI c
    exact bK (aX (bE Tryz.results10 rfl ⟨rfl,(aI.arr 3 [] j1 rfl)⟩))
 refine aP (aD (cS (us:=l) dB d3 (i:=1) rfl rfl rfl rfl) ?_)
 obtain ⟨j3,j4,c⟩:=aC c
 refine aQ (vs:=[zA (zCa a a1 c2 a4 c5)]) Tryz.call27 rfl (oA d3 hG h3 h6 j4) ?_
 rintro _ l1 ⟨rfl,d1⟩
 refine aD (eR rfl) (aL (v:=zB (!j3)) ?_)
 rcases aH c with ⟨r,c⟩|⟨r,c⟩
 ·exact aT r rfl rfl (aT r rfl rfl (aT r rfl rfl (aD (bF (v:=zB true) r rfl rfl) (aL (v:=zB true) (aT (rfl:true=true) rfl rfl (aT (rfl:true=true) rfl rfl (aT (rfl:true=true) rfl rfl (aD (bF (v:=zB true) (rfl:true=true) rfl rfl) (aG ⟨true,c,rfl,rfl,rfl,rfl,rfl,d1⟩)))))))))
 ·refine bD r rfl rfl (aD (cS (us:=h) dB d1 (i:=0) rfl rfl rfl rfl) (bD r rfl rfl ?_))
  obtain ⟨e5,j5,c⟩:=aC c
  refine aQ (vs:=[zA (zCa b a7 c8 a10 c11)]) Tryz.call27 rfl (oA d1 hG h9 b6 j5) ?_
  rintro _ l2 ⟨rfl,e6⟩
  refine bD r rfl rfl (aD (eR rfl) (aD (bH (v:=zB (!e5)) r rfl rfl) (aL (v:=zB (!e5)) ?_)))
  rcases aH c with ⟨t,c⟩|⟨t,c⟩
  ·exact aT t rfl rfl (aT t rfl rfl (aT t rfl rfl (aD (bF (v:=zB true) t rfl rfl) (aG ⟨true,c,rfl,rfl,rfl,rfl,rfl,e6⟩))))
  ·refine bD t rfl rfl (aL (v:=i64 kind) (bD t rfl rfl ?_))
   obtain ⟨e7,j6,c⟩:=aC c
   refine aQ (vs:=[i64 kind]) Tryz.call28 rfl (aEg e6 j6) ?_
   rintro _ l3 ⟨rfl,j7⟩
   exact bD t rfl rfl (aD (eR rfl) (aD (bH (v:=zB (!e7)) t rfl rfl) (aG ⟨!e7,c,rfl,rfl,rfl,rfl,rfl,j7⟩)))
theorem aGy {a:cD} {o:Nat} {b:cD} {u:Nat} {R:cD} (hs:aI G K (L) w) (d:fP K a1 o (zC a a4 c5 a7 c8)) (h6:bX K a4 c5 a.L) (h9:bX K a7 c8 a.E) (p:fP K a10 u (zC b a13 c14 a16 c17)) (f4:bX K a13 c14 b.L) (c9:bX K a16 c17 b.E) (j:aBq a b=some R):
  Calls Tryz.prog 32 ([cP a1 o,cP a10 u]:List Value).toArray w (gQ fun v w'=>∃ (d0:Option Addr) (d1:Nat) (d2:Option Addr) (d3:Nat),v=zA (zCa R d0 d1 d2 d3)∧aI G K (aR 9 K d0 d1 R.L::aR 51 K d2 d3 R.E::L) w'):=by
 let n:=zG
 refine aS Tryz.func32 rfl (by kernel_rfl) (by show (2:Nat)≤88;decide) ?_
 unfold aBq at j
 refine aK (cQ (vs:=n) Tryz.zeroValue27 hs rfl (fun k m4 f5=>(aG (aK (cJ (Kt:=K) (xs:=([]:List bI)) (cs:=[]) (vs:=[]) dM aBx rfl rfl f5 rfl (by kernel_rfl) rfl rfl rfl trivial (fun f6 f7 (d4:aI G K (aR 9 K f6 0 ([]:List bI)::box k 27 n::L) f7)=>(aL (v:=cP a1 o) (aD (cX rfl d) (aD (cG (k':=o+2) gV rfl d rfl) (aD (bG (t:=2) oC d4 d rfl rfl) ?_))))))))))
 obtain ⟨b4,f8,j⟩:=aC j
 refine aAr (i:=0) dM Tryz.underlying24 aBx rfl rfl d4 rfl (zR _) h6 f8 rfl rfl rfl rfl (fun b5 b6 f9 (d5:aI G K (aR 9 K b5 b6 b4::box k 27 n::L) f9)=>(aF (v:=zS b5 b4.length b6) (aG (aK (aL (v:=zS b5 b4.length b6) (aL (v:=cP a10 u) (aD (cX rfl p) (aD (cG (k':=u+2) gV rfl p rfl) (aD (bG (t:=2) oC d5 p rfl rfl) ?_)))))))))
 obtain ⟨e,g0,j⟩:=aC j
 refine aAr (i:=0) dM Tryz.underlying24 aBx rfl rfl d5 rfl (zR _) f4 g0 rfl rfl rfl rfl (fun l m g1 (g2:aI G K (aR 9 K l m e::box k 27 n::L) g1)=>(aF (v:=zS l e.length m) (aG (aK (cJ (Kt:=K) (xs:=([]:List Edge)) (cs:=[]) (vs:=[]) cN jD rfl rfl g2 rfl (by kernel_rfl) rfl rfl rfl trivial (fun g3 g4 (d6:aI G K (aR 51 K g3 0 ([]:List Edge)::aR 9 K l m e::box k 27 n::L) g4)=>(aL (v:=cP a1 o) (aD (cX rfl d) (aD (cG (k':=o+3) dY rfl d rfl) (aD (bG (t:=3) jR d6 d rfl rfl) ?_))))))))))
 obtain ⟨d7,g5,j⟩:=aC j
 refine aAr (i:=0) cN Tryz.underlying25 jD rfl rfl d6 rfl (zR _) h9 g5 rfl rfl rfl rfl (fun b7 b8 g6 (g7:aI G K (aR 51 K b7 b8 d7::aR 9 K l m e::box k 27 n::L) g6)=>(aF (v:=zS b7 d7.length b8) (aG (aO (aK (aF (v:=i64 0) (aG (aZ (fun f w=>∃ (J:List Edge) (a5:Option Addr) (c48:Nat),vC a b e J=some R∧f 0=cP a1 o∧f 1=cP a10 u∧f 4=zP (some ⟨k,0,none⟩)∧f 5=zS l e.length m∧f 6=zS a5 J.length c48∧aI G K (aR 51 K a5 c48 J::aR 9 K l m e::box k 27 n::L) w) ?_ ?_))))))))
 ·rintro f m5 ⟨J,a5,c48,j,d8,g8,d9,g9,h0,e0⟩
  unfold vC at j
  refine aA (aO (dQ (C:=fun w'=>∃ L',aI G K L' w') [(0,0),(1,0),(2,0),(3,0),(4,0),(5,0),(6,0),(7,0),(8,0),(9,0),(10,0),(11,0),(12,0),(13,0),(14,0),(15,1),(16,2)] bP (by kernel_rfl) (fun _ hg=>⟨_,aI.mono e0 hg⟩) (fun m6 h1=>?_)))
  have z:=aI.mono e0 h1
  refine bJ rfl (fun _ _=>aW d8) (bJ rfl (fun _ _=>cX rfl d) (bJ rfl (fun _ _=>cG (k':=o+0) dP rfl d rfl) (bJ rfl (fun _ ⟨_,z⟩=>bG (t:=0) bY z d rfl rfl) (bJ rfl (fun _ _=>aW g8) (bJ rfl (fun _ _=>cX rfl p) (bJ rfl (fun _ _=>cG (k':=u+0) dP rfl p rfl) (bJ rfl (fun _ ⟨_,z⟩=>bG (t:=0) bY z p rfl rfl) (bJ rfl (fun _ _=>cK rfl rfl) (bJ rfl (fun _ _=>aW d8) (bJ rfl (fun _ _=>cX rfl d) (bJ rfl (fun _ _=>cG (k':=o+1) oV rfl d rfl) (bJ rfl (fun _ ⟨_,z⟩=>bG (t:=1) bY z d rfl rfl) (bJ rfl (fun _ _=>aW g9) (bJ rfl (fun _ _=>aW h0) (gZ rfl ?_)))))))))))))))
  obtain ⟨m7,h2,h4,h5,h7⟩:=aI.lendS (i:=1) z (zR _) rfl
  obtain ⟨m8,h8,i0,i1,i2⟩:=aI.lendS (i:=0) h5 h2 rfl
  obtain ⟨g,i3,j⟩:=aC j
  refine aQ (vs:=[i64 (wr (a.N+b.N)),i64 a.I,zS l e.length m,zS a5 J.length c48]) Tryz.call20 rfl (nC i1 (h4.mono h8) i0 i3) ?_
  rintro _ m9 ⟨V,Z,a0,a2,rfl,i4⟩
  have i5:=i2 _ _ i4
  have e1:=h7 _ _ i5
  refine bM (aA ⟨⟨_,e1⟩,?_⟩)
  refine aGr rfl (cZ (i:=4) (ns:=(zC g V Z a0 a2)) (us:=(zC g V Z a0 a2)) Tryz.sizeOf27 e1 rfl d9 rfl rfl rfl (fO rfl) rfl rfl (fun i6 (e2:aI G K (aR 9 K l m e::aR 51 K a5 c48 J::aR 9 K V Z g.L::aR 51 K a0 a2 g.E::box k 27 (zC g V Z a0 a2)::L) i6)=>(aG (gR (aA ?_)))))
  obtain rfl:=zI j
  exact bK (vF Tryz.results32 (oB (vs:=(zC g V Z a0 a2)) rfl dB e2 (i:=4) rfl d9 rfl) ⟨V,Z,a0,a2,rfl,(aI.arr 5 [2,3] e2 rfl)⟩)
 obtain ⟨n0,i8,j⟩:=aC j
 refine cC i8 (fun (s:(List Edge × Int)) f w=>match s with|(r,a6)=>∃ (x:Option Addr) (y:Nat),f 0=cP a1 o∧f 1=cP a10 u∧f 4=zP (some ⟨k,0,none⟩)∧f 5=zS l e.length m∧f 6=zS x r.length y∧f 7=i64 a6∧aI G K (aR 51 K x y r::aR 9 K l m e::box k 27 n::L) w) ?_ ?_
 ·exact ⟨b7,b8,rfl,rfl,rfl,rfl,rfl,rfl,g7⟩
 ·rintro ⟨r,a6⟩ i9 f n1 q j0 ⟨x,y,a8,b3,e3,e4,e5,b9,a9⟩
  replace q:oT a b r a6=some i9:=q
  unfold oT at q
  refine aO (aK (aN b9 (aN b3 (aD (cX rfl p) (aD (cG (k':=u+3) dY rfl p rfl) (aD (bG (t:=3) jR a9 p rfl rfl) (aD (bT (len:=b.E.length) cN rfl) (aD (cT rfl rfl) (aG ?_)))))))))
  rcases aH q with ⟨c0,q⟩|⟨c0,q⟩
  ·refine aM c0 rfl (aY (aA (aO (cI (aK (aN b3 (aD (cX rfl p) (aD (cG (k':=u+3) dY rfl p rfl) (aD (bG (t:=3) jR a9 p rfl rfl) (aN b9 ?_))))))))))
   obtain ⟨c,e6,q⟩:=aC q
   refine aD (cU cN rfl c9 rfl rfl rfl e6) ?_
   obtain ⟨n2,j1,j2⟩:=bX.el (sz:=3) rfl c9 e6
   cases j2
   refine aD (iD (t:=0) (vs:=[i64 c.F,i64 c.B,i64 c.To]) kW a9 j1 rfl rfl rfl) (cQ (vs:=[i64 0,i64 0,i64 0]) Tryz.zeroValue51 a9 rfl (fun a3 n3 j3=>(cZ (i:=0) (ns:=[i64 c.F,i64 c.B,i64 c.To]) (us:=[i64 c.F,i64 c.B,i64 c.To]) Tryz.sizeOf51 j3 rfl rfl rfl rfl rfl (fO rfl) rfl rfl (fun j4 (j5:aI G K (box a3 51 [i64 c.F,i64 c.B,i64 c.To]::aR 51 K x y r::aR 9 K l m e::box k 27 n::L) j4)=>(aG (aO ?_))))))
   obtain ⟨j6,c1,j7,e7,j8⟩:=aI.lendB (i:=0) j5 rfl
   refine dQ (C:=fun w'=>∃ L',aI G j6 L' w') [(0,0),(1,0),(2,0),(3,0),(4,0),(5,0),(6,0),(7,0),(8,2)] bP (by kernel_rfl) (fun _ hg=>⟨_,aI.mono e7 hg⟩) (fun n4 j9=>?_)
   have b0:=aI.mono e7 j9
   refine bJ rfl (fun _ _=>bL (t':=0) iY rfl rfl) (bJ rfl (fun _ ⟨_,b0⟩=>bG (t:=0) bY b0 j7 rfl rfl) (bJ rfl (fun _ _=>aW a8) (bJ rfl (fun _ _=>cX rfl (d.mono c1)) (bJ rfl (fun _ _=>cG (k':=o+0) dP rfl (d.mono c1) rfl) (bJ rfl (fun _ ⟨_,b0⟩=>bG (t:=0) bY b0 (d.mono c1) rfl rfl) (bJ rfl (fun _ _=>cK rfl rfl) (bJ rfl (fun _ _=>bL (t':=0) iY rfl rfl) ?_)))))))
   have k0:=j8 _ _ b0
   refine aGr rfl (cZ (i:=0) (ns:=[i64 (wr (c.F+a.N))]) (us:=[i64 (wr (c.F+a.N)),i64 c.B,i64 c.To]) Tryz.sizeOf2 k0 rfl rfl rfl rfl rfl (fO rfl) rfl rfl (fun k1 (k3:aI G K (box a3 51 [i64 (wr (c.F+a.N)),i64 c.B,i64 c.To]::aR 51 K x y r::aR 9 K l m e::box k 27 n::L) k1)=>(aG (gR (aA (aO ?_))))))
   obtain ⟨k4,c2,k5,e8,k6⟩:=aI.lendB (i:=0) k3 rfl
   refine dQ (C:=fun w'=>∃ L',aI G k4 L' w') [(0,0),(1,0),(2,0),(3,0),(4,0),(5,0),(6,0),(7,0),(8,2)] bP (by kernel_rfl) (fun _ hg=>⟨_,aI.mono e8 hg⟩) (fun n5 k7=>?_)
   have b1:=aI.mono e8 k7
   refine bJ rfl (fun _ _=>bL (t':=2) iC rfl rfl) (bJ rfl (fun _ ⟨_,b1⟩=>bG (t:=2) bY b1 k5 rfl rfl) (bJ rfl (fun _ _=>aW a8) (bJ rfl (fun _ _=>cX rfl (d.mono c2)) (bJ rfl (fun _ _=>cG (k':=o+0) dP rfl (d.mono c2) rfl) (bJ rfl (fun _ ⟨_,b1⟩=>bG (t:=0) bY b1 (d.mono c2) rfl rfl) (bJ rfl (fun _ _=>cK rfl rfl) (bJ rfl (fun _ _=>bL (t':=2) iC rfl rfl) ?_)))))))
   have k8:=k6 _ _ b1
   refine aGr rfl (cZ (i:=0) (ns:=[i64 (wr (c.To+a.N))]) (us:=[i64 (wr (c.F+a.N)),i64 c.B,i64 (wr (c.To+a.N))]) Tryz.sizeOf2 k8 rfl rfl rfl rfl rfl (fO rfl) rfl rfl (fun k9 (l0:aI G K (box a3 51 [i64 (wr (c.F+a.N)),i64 c.B,i64 (wr (c.To+a.N))]::aR 51 K x y r::aR 9 K l m e::box k 27 n::L) k9)=>(aG (gR (aA (aO ?_))))))
   obtain ⟨l1,c3,l2,e9,l3⟩:=aI.lendB (i:=0) l0 rfl
   refine dQ (C:=fun w'=>∃ L',aI G l1 L' w') [(0,0),(1,0),(2,0),(3,0),(4,0),(5,0),(6,0),(7,0),(8,0),(9,2)] bP (by kernel_rfl) (fun _ hg=>⟨_,aI.mono e9 hg⟩) (fun n6 l4=>?_)
   have b2:=aI.mono e9 l4
   refine bJ rfl (fun _ _=>bL (t':=1) iZ rfl rfl) (bJ rfl (fun _ ⟨_,b2⟩=>bG (t:=1) bY b2 l2 rfl rfl) (bJ rfl (fun _ _=>aW a8) (bJ rfl (fun _ _=>cX rfl (d.mono c3)) (bJ rfl (fun _ _=>cG (k':=o+2) gV rfl (d.mono c3) rfl) (bJ rfl (fun _ ⟨_,b2⟩=>bG (t:=2) oC b2 (d.mono c3) rfl rfl) (bJ rfl (fun _ _=>bT (len:=a.L.length) dM rfl) (bJ rfl (fun _ _=>cK rfl rfl) (bJ rfl (fun _ _=>bL (t':=1) iZ rfl rfl) ?_))))))))
   have l5:=l3 _ _ b2
   refine aGr rfl (cZ (i:=0) (ns:=[i64 (wr (c.B+(a.L.length:Int)))]) (us:=[i64 (wr (c.F+a.N)),i64 (wr (c.B+(a.L.length:Int))),i64 (wr (c.To+a.N))]) Tryz.sizeOf2 l5 rfl rfl rfl rfl rfl (fO rfl) rfl rfl ?_)
   intro l6 (f0:aI G K (box a3 51 [i64 (wr (c.F+a.N)),i64 (wr (c.B+(a.L.length:Int))),i64 (wr (c.To+a.N))]::aR 51 K x y r::aR 9 K l m e::box k 27 n::L) l6)
   refine aG (gR (aA (aP (aN e5 (aD (cS (us:=[i64 (wr (c.F+a.N)),i64 (wr (c.B+(a.L.length:Int))),i64 (wr (c.To+a.N))]) kW f0 (i:=0) rfl rfl rfl rfl) (cJ (Kt:=K) (xs:=([⟨wr (c.F+a.N),wr (c.B+(a.L.length:Int)),wr (c.To+a.N)⟩]:List Edge)) (cs:=[i64 (wr (c.F+a.N)),i64 (wr (c.B+(a.L.length:Int))),i64 (wr (c.To+a.N))]) (vs:=[(0,zA #[i64 (wr (c.F+a.N)),i64 (wr (c.B+(a.L.length:Int))),i64 (wr (c.To+a.N))])]) cN jD rfl rfl f0 rfl (by kernel_rfl) rfl rfl rfl ⟨rfl,trivial⟩ ?_))))))
   intro l7 l8 (l9:aI G K (aR 51 K l7 1 ([⟨wr (c.F+a.N),wr (c.B+(a.L.length:Int)),wr (c.To+a.N)⟩]:List Edge)::box a3 51 [i64 (wr (c.F+a.N)),i64 (wr (c.B+(a.L.length:Int))),i64 (wr (c.To+a.N))]::aR 51 K x y r::aR 9 K l m e::box k 27 n::L) l8)
   obtain ⟨c4,m0,q⟩:=aC q
   refine eK (i:=1) cN Tryz.underlying25 jD rfl rfl l9 rfl (zR _) (zR _) m0 rfl rfl rfl rfl (fun _ h=>h) ?_
   intro c6 c7 m1 (m2:aI G K (box a3 51 [i64 (wr (c.F+a.N)),i64 (wr (c.B+(a.L.length:Int))),i64 (wr (c.To+a.N))]::aR 51 K c6 c7 c4::aR 9 K l m e::box k 27 n::L) m1)
   exact aF (v:=zS c6 c4.length c7) (bM (bA (aA (aP (aN b9 (aD (cK rfl rfl) (aF (v:=i64 (wr (a6+1))) (aG ⟨(c4,wr (a6+1)),(zI q).symm,c6,c7,a8,b3,e3,e4,rfl,rfl,(aI.arr 1 [] m2 rfl)⟩))))))))
  ·refine aJ c0 rfl (cA (aV (aV ?_)))
   have m3:=j0 _ (zI q).symm
   subst m3
   have j:(vC a b e r)=some R:=j
   exact bN (aA ⟨r,x,y,j,a8,b3,e3,e4,e5,a9⟩)
theorem aGz {t:cD} {d:Nat} {n:Int} {R:(List Int)} (x:aI G K (L) w) (p:fP K a1 d (zC t a4 c5 a7 c8)) (h6:bX K a4 c5 t.L) (h9:bX K a7 c8 t.E) (a:aBr t n=some R):
  Calls Tryz.prog 35 ([cP a1 d,i64 n]:List Value).toArray w (gQ fun v w'=>∃ (y:Option Addr) (z:Nat),v=zS y R.length z∧aI G K (aR 2 K y z R::L) w'):=by
 refine aS Tryz.func35 rfl (by kernel_rfl) (by show (2:Nat)≤19;decide) ?_
 unfold aBr at a
 refine aK (aF (v:=zS none 0 0) (aG (aK (aL (v:=cP a1 d) (aD (cX rfl p) (aD (cG (k':=d+0) dP rfl p rfl) (aD (bG (t:=0) bY x p rfl rfl) ?_)))))))
 obtain ⟨g,a9,a⟩:=aC a
 refine aDY (e:=(0:Int)) bO jU rfl rfl x rfl rfl rfl a9 rfl (fun q b0 (b1:aI G K (aR 2 K q g.length g::L) b0)=>(aF (v:=zS q g.length g.length) (aG (aO (aZ (fun f w=>∃ (h:List Int) (j:Option Addr) (k:Nat),zU h=some R∧f 5=zS j h.length k∧aI G K (aR 2 K j k h::L) w) ?_ ?_)))))
 ·rintro f c6 ⟨h,j,k,a,b2,b3⟩
  unfold zU at a
  refine aA (aK (aN b2 (aF (v:=zS j h.length k) (aG ?_))))
  obtain rfl:=zI a
  exact bK (bE Tryz.results35 rfl ⟨j,k,rfl,b3⟩)
 obtain ⟨c7,b5,a⟩:=aC a
 refine cC b5 (fun (s:(Int × List Int)) f w=>match s with|(l,c)=>∃ (m:Option Addr) (o:Nat),f 0=cP a1 d∧f 1=i64 l∧f 5=zS m c.length o∧aI G K (aR 2 K m o c::L) w) ?_ ?_
 ·exact ⟨q,g.length,rfl,rfl,rfl,b1⟩
 ·rintro ⟨l,c⟩ b6 f c9 b b7 ⟨m,o,J,V,Z,a0⟩
  replace b:kY t l c=some b6:=b
  unfold kY at b
  refine aO (aK (aN V (aD (sL rfl rfl) (aG ?_))))
  rcases aH b with ⟨r,b⟩|⟨r,b⟩
  ·refine aM r rfl (aY (aA (aO (cI (aP (aN J (aN Z ?_)))))))
   obtain ⟨d0,u,b8,b9,c0⟩:=aI.lendS (i:=0) a0 (zR _) rfl
   obtain ⟨a2,c1,b⟩:=aC b
   refine aQ (vs:=[cP a1 d,zS m c.length o]) Tryz.call69 rfl (aCm b9 (p.mono u) (h6.mono u) (h9.mono u) b8 c1) ?_
   rintro _ d1 ⟨a3,a5,rfl,c2⟩
   have c3:=c0 _ _ c2
   exact aF (v:=zS a3 a2.length a5) (bM (bA (aA (aP (aN V (aD (nI rfl rfl) (aF (v:=i64 (wr (l - 1))) (aG ⟨(wr (l - 1),a2),(zI b).symm,a3,a5,J,rfl,rfl,(aI.arr 1 [] c3 rfl)⟩))))))))
  ·refine aJ r rfl (cA (aV (aV ?_)))
   have c4:=b7 _ (zI b).symm
   subst c4
   have a:(zU c)=some R:=a
   exact bN (aA ⟨c,m,o,a,Z,a0⟩)
theorem aFn {a:cD} {q:Nat} {b:cD} {x:Nat} {p:(List Int)} {R:(List (List Int))} (hs:aI G K (L) w) (z:fP K a1 q (zC a a4 c5 a7 c8)) (h6:bX K a4 c5 a.L) (h9:bX K a7 c8 a.E) (c9:fP K a10 x (zC b a13 c14 a16 c17)) (k8:bX K a13 c14 b.L) (k9:bX K a16 c17 b.E) (b6:bX K a19 c20 p) (r:xV a b p=some R):
  Calls Tryz.prog 36 ([cP a1 q,cP a10 x,zS a19 p.length c20]:List Value).toArray w (gQ fun v w'=>∃ (K':Hp) (e1:Option Addr) (e2:Nat),v=zS e1 R.length e2∧Hp.le K K'∧aI G K' (aR 40 K' e1 e2 R::L) w'):=by
 refine aS Tryz.func36 rfl (by kernel_rfl) (by show (3:Nat)≤48;decide) ?_
 unfold xV at r
 refine aK (aF (v:=zS none 0 0) (aG (aK (cJ (Kt:=K) (xs:=([]:List (List Int))) (cs:=[]) (vs:=[]) fD qD rfl rfl hs rfl (by kernel_rfl) rfl rfl rfl trivial (fun d1 f4 (f5:aI G K (aR 40 K d1 0 ([]:List (List Int))::L) f4)=>(aF (v:=zS d1 ([]:List (List Int)).length 0) (aG (aO (aK (aF (v:=i64 0) (aG (aZ (fun f w=>∃ (V:Hp) (Z:List (List Int)) (a0:Option Addr) (a2:Nat),Hp.le K V∧vQ Z=some R∧f 7=zS a0 Z.length a2∧aI G V (aR 40 V a0 a2 Z::L) w) ?_ ?_))))))))))))
 ·rintro f l0 ⟨V,Z,a0,a2,f6,r,f7,f8⟩
  unfold vQ at r
  refine aA (aK (aN f7 (aF (v:=zS a0 Z.length a2) (aG ?_))))
  obtain rfl:=zI r
  exact bK (bE Tryz.results36 rfl ⟨V,a0,a2,rfl,f6,f8⟩)
 obtain ⟨l1,g0,r⟩:=aC r
 refine cC g0 (fun (s:(List (List Int) × Int)) f w=>match s with|(J,c)=>∃ (u:Hp) (a3:Option Addr) (a5:Nat),Hp.le K u∧f 0=cP a1 q∧f 1=cP a10 x∧f 2=zS a19 p.length c20∧f 7=zS a3 J.length a5∧f 8=i64 c∧aI G u (aR 40 u a3 a5 J::L) w) ?_ ?_
 ·exact ⟨K,d1,0,(zR _),rfl,rfl,rfl,rfl,rfl,f5⟩
 ·rintro ⟨J,c⟩ b7 f l2 g g1 ⟨u,a3,a5,k,e3,g2,g3,e4,e5,d2⟩
  replace g:jO a b p J c=some b7:=g
  unfold jO at g
  refine aO (aK (aN e5 (aN e3 (aD (cX rfl (z.mono k)) (aD (cG (k':=q+0) dP rfl (z.mono k) rfl) (aD (bG (t:=0) bY d2 (z.mono k) rfl rfl) (aD (cT rfl rfl) (aG ?_))))))))
  rcases aH g with ⟨d3,g⟩|⟨d3,g⟩
  ·refine aM d3 rfl (aY (aA (aO (aZ (fun f w=>∃ (a6:Hp) (a8:List (List Int)) (b8:Option Addr) (b9:Nat),Hp.le u a6∧vR c a8=some b7∧f 0=cP a1 q∧f 1=cP a10 x∧f 2=zS a19 p.length c20∧f 7=zS b8 a8.length b9∧f 8=i64 c∧aI G a6 (aR 40 a6 b8 b9 a8::L) w) ?_ ?_))))
   ·rintro f l3 ⟨a6,a8,b8,b9,g4,g,g5,g6,g7,g8,g9,h0⟩
    unfold vR at g
    exact aA (aP (aN g9 (aD (cK rfl rfl) (aF (v:=i64 (wr (c+1))) (aG ⟨(a8,wr (c+1)),(zI g).symm,a6,b8,b9,(zL k g4),g5,g6,g7,g8,rfl,h0⟩)))))
   refine aK (aF (v:=i64 0) (aG (aZ (fun f w=>∃ (a9:Hp) (b0:List (List Int)) (c0:Option Addr) (c1:Nat),Hp.le u a9∧rD c b0=some b7∧f 0=cP a1 q∧f 1=cP a10 x∧f 2=zS a19 p.length c20∧f 7=zS c0 b0.length c1∧f 8=i64 c∧aI G a9 (aR 40 a9 c0 c1 b0::L) w) ?_ ?_)))
   ·rintro f l4 ⟨a9,b0,c0,c1,h1,g,h2,h4,h5,h7,h8,i0⟩
    unfold rD at g
    exact bA (aA ⟨a9,b0,c0,c1,h1,g,h2,h4,h5,h7,h8,i0⟩)
   obtain ⟨l5,i1,g⟩:=aC g
   refine cC i1 (fun (s:(List (List Int) × Int)) f w=>match s with|(l,h)=>∃ (j:Hp) (n:Option Addr) (o:Nat),Hp.le u j∧f 0=cP a1 q∧f 1=cP a10 x∧f 2=zS a19 p.length c20∧f 7=zS n l.length o∧f 8=i64 c∧f 9=i64 h∧aI G j (aR 40 j n o l::L) w) ?_ ?_
   ·exact ⟨u,a3,a5,(zR _),e3,g2,g3,e4,e5,rfl,d2⟩
   ·rintro ⟨l,h⟩ e6 f l6 d i2 ⟨j,n,o,m,c2,c3,b1,d4,b2,b3,e⟩
    replace d:jN a b p c l h=some e6:=d
    unfold jN at d
    refine aO (aK (aN b3 (aN c3 (aD (cX rfl (c9.mono (zL k m))) (aD (cG (k':=x+0) dP rfl (c9.mono (zL k m)) rfl) (aD (bG (t:=0) bY e (c9.mono (zL k m)) rfl rfl) (aD (cT rfl rfl) (aG ?_))))))))
    rcases aH d with ⟨d5,d⟩|⟨d5,d⟩
    ·refine aM d5 rfl (aY (aA (aO (aZ (fun f w=>∃ (b4:Hp) (b5:List (List Int)) (c4:Option Addr) (c6:Nat),Hp.le j b4∧nX h b5=some e6∧f 0=cP a1 q∧f 1=cP a10 x∧f 2=zS a19 p.length c20∧f 7=zS c4 b5.length c6∧f 8=i64 c∧f 9=i64 h∧aI G b4 (aR 40 b4 c4 c6 b5::L) w) ?_ ?_))))
     ·rintro f l7 ⟨b4,b5,c4,c6,i3,d,i4,i5,i6,i7,i8,i9,j0⟩
      unfold nX at d
      exact aA (aP (aN i9 (aD (cK rfl rfl) (aF (v:=i64 (wr (h+1))) (aG ⟨(b5,wr (h+1)),(zI d).symm,b4,c4,c6,(zL m i3),i4,i5,i6,i7,i8,rfl,j0⟩)))))
     refine aO (eL (C:=fun w'=>aI G j (aR 40 j n o l::L) w') bP (by kernel_rfl) (aI.mono e (dN.drew _)) (bC (fun _ e=>aW b1) (bC (fun _ e=>aW b2) ?_)))
     obtain ⟨l8,e7,d⟩:=aC d
     refine bC (fun _ e=>cU bO rfl (b6.mono (zL k m)) rfl rfl rfl e7) ?_
     obtain ⟨l9,j1,j2⟩:=bX.el (sz:=1) rfl b6 e7
     cases j2
     refine bC (fun _ e=>bG (t:=0) bY e (j1.mono (zL k m)) rfl rfl) (bC (fun _ e=>aW b1) (bC (fun _ e=>aW c2) (bC (fun _ e=>cX rfl (z.mono (zL k m))) (bC (fun _ e=>cG (k':=q+0) dP rfl (z.mono (zL k m)) rfl) (bC (fun _ e=>bG (t:=0) bY e (z.mono (zL k m)) rfl rfl) (bC (fun _ e=>aW b3) (bC (fun _ e=>cK rfl rfl) ?_)))))))
     obtain ⟨m0,e8,d⟩:=aC d
     refine bC (fun _ e=>cU bO rfl (b6.mono (zL k m)) rfl rfl rfl e8) ?_
     obtain ⟨m1,j3,j4⟩:=bX.el (sz:=1) rfl b6 e8
     cases j4
     refine bC (fun _ e=>bG (t:=0) bY e (j3.mono (zL k m)) rfl rfl) (bC (fun _ e=>lA rfl rfl) (fT (fun m2 e9=>(aA ?_))))
     rcases aH d with ⟨d6,d⟩|⟨d6,d⟩
     ·refine aM d6 rfl (aP (aN d4 (aN b2 (aN b3 (cJ (Kt:=K) (xs:=([c,h]:List Int)) (cs:=[i64 c,i64 h]) (vs:=[(0,i64 c),(1,i64 h)]) bO jU rfl rfl e9 rfl (by kernel_rfl) rfl rfl rfl ⟨rfl,rfl,trivial⟩ (fun y f0 (j5:aI G j (aR 2 K y 2 ([c,h]:List Int)::aR 40 j n o l::L) f0)=>?_))))))
      have j6:aI G j (rows [2] ([(y,2)]:List (Dp.Hd (List Int))) [([c,h]:List Int)]::aR 40 j n o l::L) f0:=aI.rowsOne j5
      refine cJ (Kt:=K) (xs:=bU ([(y,2)]:List (Dp.Hd (List Int))) ([([c,h]:List Int)]:List (List Int))) (cs:=[zS y ([c,h]:List Int).length 2]) (vs:=[(0,zS y ([c,h]:List Int).length 2)]) fD qD rfl rfl j6 rfl (by kernel_rfl) rfl rfl rfl ⟨rfl,trivial⟩ ?_
      intro j7 f1 (j8:aI G j (aR 40 K j7 1 (bU ([(y,2)]:List (Dp.Hd (List Int))) ([([c,h]:List Int)]:List (List Int)))::rows [2] ([(y,2)]:List (Dp.Hd (List Int))) ([([c,h]:List Int)]:List (List Int))::aR 40 j n o l::L) f1)
      obtain ⟨c7,f2,j9,_,d7,_⟩:=aI.lendD' (i:=0) j8 rfl rfl rfl
      replace d7:aI G c7 (aR 40 j n o l::L) f1:=d7
      obtain ⟨d8,k0,d⟩:=aC d
      exact aAr (i:=0) fD Tryz.underlying33 qD rfl rfl d7 rfl f2 j9 k0 rfl rfl rfl rfl (fun d9 e0 k1 (k3:aI G c7 (aR 40 c7 d9 e0 d8::L) k1)=>(aF (v:=zS d9 d8.length e0) (bM (bA (aA ⟨c7,d8,d9,e0,f2,d,c2,c3,b1,rfl,b2,b3,k3⟩)))))
     ·exact aJ d6 rfl (aY (bA (aA ⟨j,l,n,o,(zR _),d,c2,c3,b1,d4,b2,b3,e9⟩)))
    ·refine aJ d5 rfl (cA (aV (aV ?_)))
     have k4:=i2 _ (zI d).symm
     subst k4
     have g:(rD c l)=some b7:=g
     exact bN (aA ⟨j,l,n,o,m,g,c2,c3,b1,d4,b2,e⟩)
  ·refine aJ d3 rfl (cA (aV (aV ?_)))
   have k5:=g1 _ (zI g).symm
   subst k5
   have r:(vQ J)=some R:=r
   exact bN (aA ⟨u,J,a3,a5,k,r,e4,d2⟩)
end Gv
