/- Walks, printed by program. -/
import Derived.Test.YtmlemmpanilhjaaGreatDoorJWk5
set_option linter.all false
namespace Gv
open Gv.Hp renaming le_refl→zR
open Go.Value renaming slice→zS,bool→zB,agg→zA
open Option.some renaming inj→zI
open Go Go.Proofs Go.Proofs.Tryz
set_option maxRecDepth 20000
set_option maxHeartbeats 40000000
variable {G:qG} {K:Hp} {L:List iZ} {w:World} {a1 a4 a7 a10 a13 a16 a19:Option Addr} {c2 c8 c11 c14 c17 c20 c5:Nat}
theorem aIT {b:(List cB)} {R:Bool} (hm:qT b=some R) (hs:aO G K (L) w) (e:cI K a1 c2 b):
  Calls prog 85 ([zS a1 b.length c2]:List Value).toArray w (eX fun v w'=>v=zB R/\aO G K (L) w'):=by
 refine aT func85 rfl (by kernel_rfl) (by show (1:Nat)<=56;decide) ?_;unfold qT at hm
 refine aL (aD (v:=zB false) (aG (aP (aL (aI (v:=zS a1 b.length c2) (aA (bQ (len:=b.length) qE rfl) (aI (v:=i64 0) (aG (bR [0] (fun f w=>wU b=some R/\aO G K (L) w) cA ?_)))))))));obtain ⟨a2,n,ho⟩:=aC hm
 refine dS [0,5,6] n (fun c f w=>f 7=i64 c/\aO G K (L) w) cA ?_
 ·rintro c o f a3 hm hr ⟨g,j⟩
  unfold kJ at hm
  refine aL (aA (cL g rfl) (aG (aP ?_)))
  rcases aH hm with ⟨k,hm⟩|⟨k,hm⟩
  ·refine aN k rfl (aX (aB (aP (bY (aL (bJ g ?_))))));obtain ⟨a,l,hm⟩:=aC hm
   refine aA (cQ qE rfl e rfl rfl g l) ?_;obtain ⟨a4,p,q⟩:=cI.el (sz:=3) rfl e l
   cases q
   refine aA (eP (t:=0) (vs:=[str a.Left,str a.Right,str a.Result]) aFm j p rfl rfl rfl) (dA (vs:=[str ([]:bL),str ([]:bL),str ([]:bL)]) zeroValue104 j rfl (fun d a5 r=>(aD (v:=i64 c) (cT (i:=0) (ns:=[str a.Left,str a.Right,str a.Result]) (us:=[str a.Left,str a.Right,str a.Result]) sizeOf104 r rfl rfl rfl rfl rfl (eM rfl) rfl rfl (fun u (a6:aO G K (box d 104 [str a.Left,str a.Right,str a.Result]::L) u)=>(aG (aP (aP (cO [0,4,5,6,7] (fun f w=>∃ h,iP b c a h=some o/\f 48=zB h/\aO G K (box d 104 [str a.Left,str a.Right,str a.Result]::L) w) ?_ ?_)))))))))
   ·rintro f a7 ⟨h,hm,x,y⟩
    unfold iP at hm
    refine aB ?_
    rcases aH hm with ⟨m,hm⟩|⟨m,hm⟩
    ·exact cA
    ·refine aJ m x (aX (aB (aL (aI (v:=zS a1 b.length c2) (aA (xF (vs:=[Value.pointer (some ⟨d,0,none⟩)]) rfl) ?_)))));obtain ⟨a8,z,J,V,a9⟩:=aO.lendBp y .head
     obtain ⟨b0,Z,hm⟩:=aC hm
     exact aV (vs:=[zS a1 b.length c2,Value.func (.func 121) #[] #[eN (some ⟨d,0,none⟩) 0]]) call120 rfl (lP Z V (e.mono z) J) cA
   exact cA
  ·exact cA
theorem aGO {a:(List bL)} {R:Bool} (hm:aCP a=some R) (o:aO G K (L) w) (d:cI K a1 c2 a):
  Calls prog 86 ([zS a1 a.length c2]:List Value).toArray w (eX fun v w'=>v=zB R/\aO G K (L) w'):=by
 refine aT func86 rfl (by kernel_rfl) (by show (1:Nat)<=32;decide) ?_;unfold aCP at hm
 refine aL (aD (v:=zB false) (aG (aP (aL (aI (v:=zS a1 a.length c2) (aA (bQ (len:=a.length) dQ rfl) (aI (v:=i64 0) (aG (bR [0] (fun f w=>aAl a=some R/\aO G K (L) w) cA ?_)))))))));obtain ⟨p,i,ho⟩:=aC hm
 refine dS [0,5,6] i (fun b f w=>f 7=i64 b/\aO G K (L) w) cA ?_
 ·rintro b j f q hm hr ⟨c,k⟩
  unfold aAm at hm
  refine aL (aA (cL c rfl) (aG (aP ?_)))
  rcases aH hm with ⟨e,hm⟩|⟨e,hm⟩
  ·refine aN e rfl (aX (aB (aP (bY (aL (bJ c ?_))))));obtain ⟨l,g,hm⟩:=aC hm
   refine aA (cQ dQ rfl d rfl rfl c g) ?_;obtain ⟨r,m,n⟩:=cI.el (sz:=1) rfl d g
   cases n
   exact aA (bZ (t:=0) fJ k m rfl rfl) (aD (v:=i64 b) (aD (v:=str l) (aG (aP (cO [0,5,6,7] (fun f w=>∃ h,uM b h=some j/\f 27=zB h/\aO G K (L) w) cA cA)))))
  ·exact cA
theorem aGa {c:bU} {p:cW} {a:Nat} {R:Bool} (hm:uN c p=some R) (b:aO G K (L) w) (d:cI K a1 c2 c.Values) (e:iQ K a4 a [zS a7 p.Definitions.length c8,zS a10 p.Components.length c11,zS a13 p.Meetings.length c14,zS a16 p.Allowed.length c17,zS a19 p.Hidden.length c20]) (g:cI K a7 c8 p.Definitions) (h:cI K a10 c11 p.Components) (i:cI K a13 c14 p.Meetings) (j:cI K a16 c17 p.Allowed) (k:cI K a19 c20 p.Hidden):
  Calls prog 83 ([zA #[i64 c.Definition,zS a1 c.Values.length c2],eN a4 a]:List Value).toArray w (eX fun v w'=>v=zB R/\aO G K (L) w'):=by
 exact cA
theorem lO {b:(List bU)} {a:cW} {d:Nat} {R:Int} (hm:eO b a=some R) (V:aO G K (L) w) (h:cI K a1 c2 b) (m:iQ K a4 d [zS a7 a.Definitions.length c8,zS a10 a.Components.length c11,zS a13 a.Meetings.length c14,zS a16 a.Allowed.length c17,zS a19 a.Hidden.length c20]) (n:cI K a7 c8 a.Definitions) (o:cI K a10 c11 a.Components) (p:cI K a13 c14 a.Meetings) (q:cI K a16 c17 a.Allowed) (r:cI K a19 c20 a.Hidden):
  Calls prog 116 ([zS a1 b.length c2,Value.func (.func 83) #[] #[eN a4 d]]:List Value).toArray w (eX fun v w'=>v=i64 R/\aO G K (L) w'):=by
 refine aT func116 rfl (by kernel_rfl) (by show (2:Nat)<=19;decide) ?_;unfold eO at hm
 refine aL (aD (v:=i64 0) (aG (aP (aL (aI (v:=zS a1 b.length c2) (aA (bQ (len:=b.length) sL rfl) (aI (v:=i64 0) (aG (bR [] (fun f w=>eH=some R/\aO G K (L) w) cA ?_)))))))));obtain ⟨Z,u,ho⟩:=aC hm
 refine dS [0,1,7] u (fun e f w=>f 8=i64 e/\aO G K (L) w) cA ?_
 ·rintro e a0 f a2 hm hr ⟨i,j⟩
  unfold dM at hm
  refine aL (aA (cL i rfl) (aG (aP ?_)))
  rcases aH hm with ⟨k,hm⟩|⟨k,hm⟩
  ·refine aN k rfl (aX (aB (aP (bY (aL (bJ i (aD (v:=i64 e) (aG (aL (aI (v:=Value.func (.func 83) #[] #[eN a4 d]) (aI (v:=zS a1 b.length c2) (aI (v:=i64 e) ?_))))))))))));obtain ⟨c,l,hm⟩:=aC hm
   refine aA (cQ sL rfl h rfl rfl rfl l) ?_;obtain ⟨a3,x,y⟩:=cI.el (sz:=2) rfl h l
   obtain ⟨g,c48,rfl,z⟩:=y
   refine aA (eP (t:=0) (vs:=[i64 c.Definition,zS g c.Values.length c48]) aFl j x rfl rfl rfl) ?_;obtain ⟨a5,J,hm⟩:=aC hm
   exact qV (vs:=[zA #[i64 c.Definition,zS g c.Values.length c48]]) (caps:=[eN a4 d]) (us:=[zA #[i64 c.Definition,zS g c.Values.length c48],eN a4 d]) rfl call83 rfl rfl (aGa J j z m n o p q r) cA
  ·exact cA
theorem kS {b:(List bU)} {a:cW} {c:Nat} {R:Bool} (hm:dN b a=some R) (d:aO G K (L) w) (e:cI K a1 c2 b) (g:iQ K a4 c [zS a7 a.Definitions.length c8,zS a10 a.Components.length c11,zS a13 a.Meetings.length c14,zS a16 a.Allowed.length c17,zS a19 a.Hidden.length c20]) (h:cI K a7 c8 a.Definitions) (i:cI K a10 c11 a.Components) (j:cI K a13 c14 a.Meetings) (k:cI K a16 c17 a.Allowed) (l:cI K a19 c20 a.Hidden):
  Calls prog 82 ([zS a1 b.length c2,Value.func (.func 83) #[] #[eN a4 c]]:List Value).toArray w (eX fun v w'=>v=zB R/\aO G K (L) w'):=by
 exact cA
theorem aIh {a:cW} {R:Int} (hm:vX a=some R) (p:aO G K (L) w) (e:cI K a1 c2 a.Definitions) (h:cI K a4 c5 a.Components) (q:cI K a7 c8 a.Meetings) (r:cI K a10 c11 a.Allowed) (t:cI K a13 c14 a.Hidden):
  Calls prog 51 ([zA #[zS a1 a.Definitions.length c2,zS a4 a.Components.length c5,zS a7 a.Meetings.length c8,zS a10 a.Allowed.length c11,zS a13 a.Hidden.length c14]]:List Value).toArray w (eX fun v w'=>v=i64 R/\aO G K (L) w'):=by
 let j:=[zS a1 a.Definitions.length c2,zS a4 a.Components.length c5,zS a7 a.Meetings.length c8,zS a10 a.Allowed.length c11,zS a13 a.Hidden.length c14]
 refine aT func51 rfl (by kernel_rfl) (by show (1:Nat)<=35;decide) ?_;unfold vX at hm
 refine aL (dR (v:=zA #[zS a1 a.Definitions.length c2,zS a4 a.Components.length c5,zS a7 a.Meetings.length c8,zS a10 a.Allowed.length c11,zS a13 a.Hidden.length c14]) (vs:=j) p rfl rfl (fun d a3 k=>(aD (v:=i64 0) (aG (aP (bY (aL (aA (bC (t':=0) yN rfl rfl) (aA (bP aGo k (i:=0) rfl rfl rfl) ?_)))))))));obtain ⟨u,x,hm⟩:=aC hm
 refine aV (vs:=[zS a1 a.Definitions.length c2]) call81 rfl (aEU x k e) ?_
 rintro _ a5 ⟨rfl,l⟩
 refine aA (dB rfl) (aD (v:=zB (!u)) (aG ?_))
 rcases aH hm with ⟨m,hm⟩|⟨m,hm⟩
 ·exact cA
 ·refine aJ m rfl (aP (cO [1] (fun f w=>∃ n,pR a n=some R/\f 8=zB n/\aO G K (box d 38 j::L) w) cA (aW (aA (bC (t':=1) qJ rfl rfl) (aA (bP aDV l (i:=0) rfl rfl rfl) (aA (bQ (len:=a.Components.length) sL rfl) ?_))))));obtain ⟨y,z,hm⟩:=aC hm
  refine aV (vs:=[i64 (a.Components.length:Int),i64 1,i64 3]) call52 rfl (fY z l) ?_
  rintro _ a6 ⟨rfl,o⟩
  refine aA (dB rfl) (aI (v:=zB (!y)) ?_)
  rcases aH hm with ⟨c,hm⟩|⟨c,hm⟩
  ·exact cA
  ·refine bD c rfl rfl (aA (bC (t':=1) qJ rfl rfl) (bD c rfl rfl (aA (bP aDV o (i:=0) rfl rfl rfl) (bD c rfl rfl (aA (xF (vs:=[Value.pointer (some ⟨d,0,none⟩)]) rfl) (bD c rfl rfl ?_))))));obtain ⟨a8,b,J,V,Z⟩:=aO.lendBp o .head
   obtain ⟨a9,a0,hm⟩:=aC hm
   refine aV (vs:=[zS a4 a.Components.length c5,Value.func (.func 83) #[] #[eN (some ⟨d,0,none⟩) 0]]) call82 rfl (kS a0 V (h.mono b) J (e.mono b) (h.mono b) (q.mono b) (r.mono b) (t.mono b)) ?_
   rintro _ b0 ⟨rfl,a2⟩
   have b1:=Z _ _ a2
   exact cA
theorem aIi {a:cW} {R:Bool} (hm:rR a=some R) (b:aO G K (L) w) (c:cI K a1 c2 a.Definitions) (d:cI K a4 c5 a.Components) (e:cI K a7 c8 a.Meetings) (g:cI K a10 c11 a.Allowed) (h:cI K a13 c14 a.Hidden):
  Calls prog 24 ([zA #[zS a1 a.Definitions.length c2,zS a4 a.Components.length c5,zS a7 a.Meetings.length c8,zS a10 a.Allowed.length c11,zS a13 a.Hidden.length c14]]:List Value).toArray w (eX fun v w'=>v=zB R/\aO G K (L) w'):=by
 exact cA
theorem pZ {a R:(List Edge)} (hm:fE a=some R) (hs:aO G K (bI 94 K a1 c2 a::L) w):
  Calls prog 128 ([zS a1 a.length c2]:List Value).toArray w (eX fun v w'=>∃ a8 a9,v=zS a8 R.length a9/\aO G K (bI 94 K a8 a9 R::L) w'):=by
 refine aT func128 rfl (by kernel_rfl) (by show (1:Nat)<=61;decide) ?_;unfold fE at hm
 refine aL (aD (v:=zS none 0 0) (aG (aP (aL (aI (v:=zS a1 a.length c2) (aA (bQ (len:=a.length) iD rfl) (aA (cL rfl rfl) (aG ?_))))))))
 rcases aH hm with ⟨c3,hm⟩|⟨c3,hm⟩
 ·exact cA
 ·refine aJ c3 rfl (aX (aB (aP (aL (aD (v:=i64 1) (aG (bR [0] (fun f w=>fV a=some R/\aO G K (bI 94 K a1 c2 a::L) w) cA ?_)))))));obtain ⟨f7,d9,ho⟩:=aC hm
  refine dS [0] d9 (fun e f w=>f 3=i64 e/\aO G K (bI 94 K a1 c2 a::L) w) cA ?_
  ·rintro e b1 f f8 hm hr ⟨o,b⟩
   unfold eW at hm
   refine aP (aL (bJ o (aI (v:=zS a1 a.length c2) (aA (bQ (len:=a.length) iD rfl) (aA (cL rfl rfl) (aG ?_))))))
   rcases aH hm with ⟨b2,hm⟩|⟨b2,hm⟩
   ·refine aN b2 rfl (aX (aB (aP (bR [0] (fun f w=>fW e=some b1/\f 3=i64 e/\aO G K (bI 94 K a1 c2 a::L) w) ?_ ?_))))
    ·rintro f f9 ⟨hm,e0,e1⟩
     unfold fW at hm
     exact aB (aW (bJ e0 (aA (cH rfl rfl) (aD (v:=i64 (wr (e+1))) (aG ⟨_,(zI hm).symm,aU,rfl,e1⟩)))))
    refine aP (dF (C:=fun w'=>aO G K (bI 94 K a1 c2 a::L) w') cC (by kernel_rfl) (aO.mono b (dY.drew _)) (aZ (fun _ b=>bM (v:=zS a1 a.length c2) rfl) (aZ (fun _ b=>bM o) ?_)));obtain ⟨p,a5,hm⟩:=aC hm
    have g:=fD b (i:=0) rfl a5
    refine aZ (fun _ b=>gQ iD rfl g rfl rfl rfl a5) (aZ (fun _ b=>aGh (t:=0) (vs:=[i64 p.F,i64 p.B,i64 p.To]) aBw b (i:=0) rfl a5 rfl rfl rfl rfl) (aZ (fun _ b=>bM (v:=zS a1 a.length c2) rfl) (aZ (fun _ b=>bM o) (aZ (fun _ b=>fU rfl rfl) ?_))));obtain ⟨q,b3,hm⟩:=aC hm
    refine aZ (fun _ b=>gQ iD rfl g rfl rfl rfl b3) (aZ (fun _ b=>aGh (t:=0) (vs:=[i64 q.F,i64 q.B,i64 q.To]) aBw b (i:=0) rfl b3 rfl rfl rfl rfl) (aZ (fun _ b=>R_eqlG (eq_94 (x:=p) (y:=q)) rfl rfl) (dL (fun g0 e2=>(aB ?_)))))
    rcases aH hm with ⟨b4,hm⟩|⟨b4,hm⟩
    ·refine aN b4 rfl (aL (aI (v:=zS a1 a.length c2) (bJ o ?_)));obtain ⟨j,r,hm⟩:=aC hm
     have u:=aFj e2 (i:=0) rfl
     obtain ⟨k,l,z⟩:=Cut.ex 3 a1 c2 e
     refine aA (aLx iD u z rfl rfl rfl r) (aD (v:=zS k j.length l) (aG (aP (aL (aD (v:=i64 1) (aG (bR [] (fun f w=>∃ J V,eT J V=some b1/\f 0=zS a1 J.length c2/\f 3=i64 V/\aO G K (bI 94 K a1 c2 J::L) w) ?_ ?_)))))))
     ·rintro f g1 ⟨J,V,hm,b5,b6,b7⟩
      unfold eT at hm
      refine aB (aL (bJ b5 (bJ b6 ?_)));obtain ⟨g2,e3,hm⟩:=aC hm
      have e4:=aFj b7 (i:=0) rfl
      obtain ⟨g3,g4,b8⟩:=Cut.ex 3 a1 c2 V
      refine aA (aLx iD e4 b8 rfl rfl rfl e3) ?_;obtain ⟨b9,c0,hm⟩:=aC hm
      refine aNy iD aIF rfl b7 (i:=0) rfl b8 rfl rfl c0 (fun c1 (c4:aO G K (bI 94 K a1 c2 b9::L) c1)=>(aG (aL (bJ (v:=zS a1 b9.length c2) (Eq.trans b5 (congrArg (fun n=>zS a1 n c2) (ovw_len c0))) (bJ b6 ?_)))));obtain ⟨a6,c5,hm⟩:=aC hm
      have e5:=aFj c4 (i:=0) rfl
      obtain ⟨c6,c7,c8⟩:=Cut.ex 3 a1 c2 0
      refine aA (R_slVH iD e5 c8 rfl rfl rfl c5) (aD (v:=zS c6 a6.length c7) (aG (aY (bA (aM (aM (aM ?_)))))))
      have e6:=hr _ (zI hm).symm
      subst e6
      have hm:(some a6)=some R:=ho
      clear hr ho
      have g5:aO G K (bI 94 K c6 c7 a6::L) c1:=aO.cutP c4 (i:=0) rfl c5 c8
      exact cA
     obtain ⟨g6,e7,ho⟩:=aC hm
     refine mT [4] e7 (fun Z a0 a2 f w=>f 0=zS a1 Z.length c2/\f 3=i64 a0/\f 5=i64 a2/\aO G K (bI 94 K a1 c2 Z::L) w) cA ?_
     ·rintro Z a0 a2 e8 f g7 hm hr ⟨c9,d0,m,c⟩
      unfold eV at hm
      refine aP (aL (bJ m (aI (v:=zS k j.length l) (aA (bQ (len:=j.length) iD rfl) (aA (cL rfl rfl) (aG ?_))))))
      rcases aH hm with ⟨d1,hm⟩|⟨d1,hm⟩
      ·refine aN d1 rfl (aX (aB (aP (bR [4,5] (fun f w=>∃ a3 a7,eU a2 a3 a7=some e8/\f 0=zS a1 a3.length c2/\f 3=i64 a7/\aO G K (bI 94 K a1 c2 a3::L) w) ?_ ?_))))
       ·rintro f g8 ⟨a3,a7,hm,e9,f0,f1⟩
        unfold eU at hm
        exact aB (aW (bJ m (aA (cH rfl rfl) (aD (v:=i64 (wr (a2+1))) (aG ⟨_,(zI hm).symm,aU,e9,f0,rfl,f1⟩)))))
       refine aP (dF (C:=fun w'=>aO G K (bI 94 K a1 c2 Z::L) w') cC (by kernel_rfl) (aO.mono c (dY.drew _)) (aZ (fun _ c=>bM (v:=zS k j.length l) rfl) (aZ (fun _ c=>bM m) ?_)));obtain ⟨g9,d2,hm⟩:=aC hm
       obtain ⟨d,d3,hm⟩:=aC hm
       refine aZ (fun _ c=>aNx iD g z r u rfl rfl rfl d2 rfl) (aZ (fun _ c=>aGh (t:=0) (vs:=[i64 d.F,i64 d.B,i64 d.To]) aBw c (i:=0) rfl d3 rfl rfl rfl rfl) (aZ (fun _ c=>bM (v:=zS k j.length l) rfl) (aZ (fun _ c=>bM m) (aZ (fun _ c=>fU rfl rfl) ?_))));obtain ⟨h0,f2,hm⟩:=aC hm
       obtain ⟨a4,f3,hm⟩:=aC hm
       refine aZ (fun _ c=>aNx iD g z r u rfl rfl rfl f2 rfl) (aZ (fun _ c=>aGh (t:=0) (vs:=[i64 a4.F,i64 a4.B,i64 a4.To]) aBw c (i:=0) rfl f3 rfl rfl rfl rfl) (aZ (fun _ c=>R_neqG (eq_94 (x:=d) (y:=a4)) rfl rfl) (dL (fun h1 d4=>(aB ?_)))))
       rcases aH hm with ⟨d5,hm⟩|⟨d5,hm⟩
       ·refine aN d5 rfl (aL (bJ c9 (bJ d0 (aI (v:=zS k j.length l) (bJ m (aA (aNx iD g z r u rfl rfl rfl d2 rfl) (aA (aGh (t:=0) (vs:=[i64 d.F,i64 d.B,i64 d.To]) aBw d4 (i:=0) rfl d3 rfl rfl rfl rfl) ?_)))))));obtain ⟨h2,d6,hm⟩:=aC hm
        refine aA (gQ iD rfl g rfl rfl rfl d6) ?_;obtain ⟨d7,d8,hm⟩:=aC hm
        exact mF (i:=0) (t:=0) (ns:=[i64 d.F,i64 d.B,i64 d.To]) (e':=(⟨d.F,d.B,d.To⟩:Edge)) sizeOf94 d4 rfl (Hp.le_refl _) rfl rfl rfl d6 d8 rfl rfl (eM rfl) rfl (fun cs h=>by cases h;rfl) (fun f4 (f5:aO G K (bI 94 K a1 c2 d7::L) f4)=>(aG (aW (bJ d0 (aA (cH rfl rfl) (aD (v:=i64 (wr (a0+1))) (cG (bN (aB ⟨aU,d7,wr (a0+1),hm,(Eq.trans c9 (congrArg (fun n=>zS a1 n c2) (cR d8))),rfl,f5⟩)))))))))
       ·exact cA
      ·exact cA
    ·exact cA
   ·exact cA
theorem tO {a R:(List bL)} (hm:gE a=some R) (hs:aO G K (bI 9 K a1 c2 a::L) w):
  Calls prog 124 ([zS a1 a.length c2]:List Value).toArray w (eX fun v w'=>∃ a2 a3,v=zS a2 R.length a3/\aO G K (bI 9 K a2 a3 R::L) w'):=by
 refine aT func124 rfl (by kernel_rfl) (by show (1:Nat)<=61;decide) ?_;unfold gE at hm
 refine aL (aD (v:=zS none 0 0) (aG (aP (aL (aI (v:=zS a1 a.length c2) (aA (bQ (len:=a.length) dQ rfl) (aA (cL rfl rfl) (aG ?_))))))))
 rcases aH hm with ⟨c3,hm⟩|⟨c3,hm⟩
 ·exact cA
 ·refine aJ c3 rfl (aX (aB (aP (aL (aD (v:=i64 1) (aG (bR [0] (fun f w=>gV a=some R/\aO G K (bI 9 K a1 c2 a::L) w) cA ?_)))))));obtain ⟨f2,d4,ho⟩:=aC hm
  refine dS [0] d4 (fun d f w=>f 3=i64 d/\aO G K (bI 9 K a1 c2 a::L) w) cA ?_
  ·rintro d a5 f f3 hm hr ⟨m,b⟩
   unfold fT at hm
   refine aP (aL (bJ m (aI (v:=zS a1 a.length c2) (aA (bQ (len:=a.length) dQ rfl) (aA (cL rfl rfl) (aG ?_))))))
   rcases aH hm with ⟨a6,hm⟩|⟨a6,hm⟩
   ·refine aN a6 rfl (aX (aB (aP (bR [0] (fun f w=>gW d=some a5/\f 3=i64 d/\aO G K (bI 9 K a1 c2 a::L) w) ?_ ?_))))
    ·rintro f f4 ⟨hm,d5,d6⟩
     unfold gW at hm
     exact aB (aW (bJ d5 (aA (cH rfl rfl) (aD (v:=i64 (wr (d+1))) (aG ⟨_,(zI hm).symm,aU,rfl,d6⟩)))))
    refine aP (dF (C:=fun w'=>aO G K (bI 9 K a1 c2 a::L) w') cC (by kernel_rfl) (aO.mono b (dY.drew _)) (aZ (fun _ b=>bM (v:=zS a1 a.length c2) rfl) (aZ (fun _ b=>bM m) ?_)));obtain ⟨f5,V,hm⟩:=aC hm
    have e:=fD b (i:=0) rfl V
    refine aZ (fun _ b=>gQ dQ rfl e rfl rfl rfl V) (aZ (fun _ b=>aDS (t:=0) fJ b (i:=0) rfl V rfl rfl rfl) (aZ (fun _ b=>bM (v:=zS a1 a.length c2) rfl) (aZ (fun _ b=>bM m) (aZ (fun _ b=>fU rfl rfl) ?_))));obtain ⟨f6,a7,hm⟩:=aC hm
    refine aZ (fun _ b=>gQ dQ rfl e rfl rfl rfl a7) (aZ (fun _ b=>aDS (t:=0) fJ b (i:=0) rfl a7 rfl rfl rfl) (aZ (fun _ b=>lF rfl rfl) (dL (fun f7 d7=>(aB ?_)))))
    rcases aH hm with ⟨a8,hm⟩|⟨a8,hm⟩
    ·refine aN a8 rfl (aL (aI (v:=zS a1 a.length c2) (bJ m ?_)));obtain ⟨g,o,hm⟩:=aC hm
     have p:=aFj d7 (i:=0) rfl
     obtain ⟨j,k,q⟩:=Cut.ex 1 a1 c2 d
     refine aA (aLx dQ p q rfl rfl rfl o) (aD (v:=zS j g.length k) (aG (aP (aL (aD (v:=i64 1) (aG (bR [] (fun f w=>∃ r u,fP r u=some a5/\f 0=zS a1 r.length c2/\f 3=i64 u/\aO G K (bI 9 K a1 c2 r::L) w) ?_ ?_)))))))
     ·rintro f f8 ⟨r,u,hm,a9,b0,b1⟩
      unfold fP at hm
      refine aB (aL (bJ a9 (bJ b0 ?_)));obtain ⟨f9,d8,hm⟩:=aC hm
      have d9:=aFj b1 (i:=0) rfl
      obtain ⟨g0,g1,b2⟩:=Cut.ex 1 a1 c2 u
      refine aA (aLx dQ d9 b2 rfl rfl rfl d8) ?_;obtain ⟨b3,b4,hm⟩:=aC hm
      refine aNy dQ aEz rfl b1 (i:=0) rfl b2 rfl rfl b4 (fun b5 (b6:aO G K (bI 9 K a1 c2 b3::L) b5)=>(aG (aL (bJ (v:=zS a1 b3.length c2) (Eq.trans a9 (congrArg (fun n=>zS a1 n c2) (ovw_len b4))) (bJ b0 ?_)))));obtain ⟨Z,b7,hm⟩:=aC hm
      have e0:=aFj b6 (i:=0) rfl
      obtain ⟨b8,b9,c0⟩:=Cut.ex 1 a1 c2 0
      refine aA (R_slVH dQ e0 c0 rfl rfl rfl b7) (aD (v:=zS b8 Z.length b9) (aG (aY (bA (aM (aM (aM ?_)))))))
      have e1:=hr _ (zI hm).symm
      subst e1
      have hm:(some Z)=some R:=ho
      clear hr ho
      have g2:aO G K (bI 9 K b8 b9 Z::L) b5:=aO.cutP b6 (i:=0) rfl b7 c0
      exact cA
     obtain ⟨g3,e2,ho⟩:=aC hm
     refine mT [4] e2 (fun x y z f w=>f 0=zS a1 x.length c2/\f 3=i64 y/\f 5=i64 z/\aO G K (bI 9 K a1 c2 x::L) w) cA ?_
     ·rintro x y z e3 f g4 hm hr ⟨c1,c4,l,c⟩
      unfold fR at hm
      refine aP (aL (bJ l (aI (v:=zS j g.length k) (aA (bQ (len:=g.length) dQ rfl) (aA (cL rfl rfl) (aG ?_))))))
      rcases aH hm with ⟨c5,hm⟩|⟨c5,hm⟩
      ·refine aN c5 rfl (aX (aB (aP (bR [4,5] (fun f w=>∃ J a0,fQ z J a0=some e3/\f 0=zS a1 J.length c2/\f 3=i64 a0/\aO G K (bI 9 K a1 c2 J::L) w) ?_ ?_))))
       ·rintro f g5 ⟨J,a0,hm,e4,e5,e6⟩
        unfold fQ at hm
        exact aB (aW (bJ l (aA (cH rfl rfl) (aD (v:=i64 (wr (z+1))) (aG ⟨_,(zI hm).symm,aU,e4,e5,rfl,e6⟩)))))
       refine aP (dF (C:=fun w'=>aO G K (bI 9 K a1 c2 x::L) w') cC (by kernel_rfl) (aO.mono c (dY.drew _)) (aZ (fun _ c=>bM (v:=zS j g.length k) rfl) (aZ (fun _ c=>bM l) ?_)));obtain ⟨g6,c6,hm⟩:=aC hm
       obtain ⟨c7,c8,hm⟩:=aC hm
       refine aZ (fun _ c=>aNx dQ e q o p rfl rfl rfl c6 rfl) (aZ (fun _ c=>aDS (t:=0) fJ c (i:=0) rfl c8 rfl rfl rfl) (aZ (fun _ c=>bM (v:=zS j g.length k) rfl) (aZ (fun _ c=>bM l) (aZ (fun _ c=>fU rfl rfl) ?_))));obtain ⟨g7,e7,hm⟩:=aC hm
       obtain ⟨g8,e8,hm⟩:=aC hm
       refine aZ (fun _ c=>aNx dQ e q o p rfl rfl rfl e7 rfl) (aZ (fun _ c=>aDS (t:=0) fJ c (i:=0) rfl e8 rfl rfl rfl) (aZ (fun _ c=>xE rfl rfl) (dL (fun g9 c9=>(aB ?_)))))
       rcases aH hm with ⟨d0,hm⟩|⟨d0,hm⟩
       ·refine aN d0 rfl (aL (bJ c1 (bJ c4 (aI (v:=zS j g.length k) (bJ l (aA (aNx dQ e q o p rfl rfl rfl c6 rfl) (aA (aDS (t:=0) fJ c9 (i:=0) rfl c8 rfl rfl rfl) ?_)))))));obtain ⟨h0,d1,hm⟩:=aC hm
        refine aA (gQ dQ rfl e rfl rfl rfl d1) ?_;obtain ⟨d2,d3,hm⟩:=aC hm
        exact mF (i:=0) (t:=0) (ns:=[str c7]) (e':=(c7:bL)) sizeOf9 c9 rfl (Hp.le_refl _) rfl rfl rfl d1 d3 rfl rfl (eM rfl) rfl (fun cs h=>by cases h;rfl) (fun e9 (f0:aO G K (bI 9 K a1 c2 d2::L) e9)=>(aG (aW (bJ c4 (aA (cH rfl rfl) (aD (v:=i64 (wr (y+1))) (cG (bN (aB ⟨aU,d2,wr (y+1),hm,(Eq.trans c1 (congrArg (fun n=>zS a1 n c2) (cR d3))),rfl,f0⟩)))))))))
       ·exact cA
      ·exact cA
    ·exact cA
   ·exact cA
theorem uW {a:(List bL)} {b:bL} {R:Int} (hm:gR a b=some R) (e:aO G K (L) w) (g:cI K a1 c2 a):
  Calls prog 125 ([zS a1 a.length c2,str b]:List Value).toArray w (eX fun v w'=>v=i64 R/\aO G K (L) w'):=by
 refine aT func125 rfl (by kernel_rfl) (by show (2:Nat)<=19;decide) ?_;unfold gR at hm
 refine aL (aD (v:=i64 0) (aG (aP (aL (aI (v:=zS a1 a.length c2) (aA (bQ (len:=a.length) dQ rfl) (aI (v:=i64 0) (aG (bR [] (fun f w=>iC=some R/\aO G K (L) w) cA ?_)))))))));obtain ⟨h,c,ho⟩:=aC hm
 exact dS [0,1,7] c (fun d f w=>f 8=i64 d/\aO G K (L) w) cA cA
theorem aIj {b c:Int} {a0:(List bL)} {V:(List uT)} {R:iW} (hm:i_lts b c a0 V=some R) (hs:aO G K (L) w) (h3:cI K a1 c2 a0) (h6:cI K a4 c5 V):
  Calls prog 89 ([i64 b,i64 c,zS a1 a0.length c2,zS a4 V.length c5]:List Value).toArray w (eX fun v w'=>∃ a8 a9 b0 b1,v=zA (zCa R a8 a9 b0 b1)/\aO G K (bI 9 K a8 a9 R.L::bI 94 K b0 b1 R.E::L) w'):=by
 let j:=zG
 refine aT func89 rfl (by kernel_rfl) (by show (4:Nat)<=55;decide) ?_;unfold i_lts at hm
 refine aL (dA (vs:=j) zeroValue31 hs rfl (fun m w8 d2=>(aG (aL (aI (v:=i64 b) (aI (v:=i64 c) (gA (Kt:=K) (xs:=([([116,97,117]:bL)]:List bL)) (cs:=[str ([116,97,117]:bL)]) (vs:=[(0,str ([116,97,117]:bL))]) dQ aEz rfl rfl d2 rfl (by kernel_rfl) rfl rfl rfl ⟨rfl,trivial⟩ (fun d3 d4 (d5:aO G K (bI 9 K d3 1 ([([116,97,117]:bL)]:List bL)::box m 31 j::L) d4)=>(aI (v:=zS a1 a0.length c2) ?_)))))))));obtain ⟨o,d6,hm⟩:=aC hm
 refine aOd (i:=0) dQ underlying25 aEz rfl rfl d5 rfl (Hp.le_refl _) h3 d6 rfl rfl rfl rfl (fun k l d7 (d8:aO G K (bI 9 K k l o::box m 31 j::L) d7)=>(aA (iJ (vs:=[(0,i64 b),(1,i64 c),(2,zS k o.length l)]) (cs:=[i64 b,i64 c,zS k o.length l,zS none 0 0]) aGp rfl (by kernel_rfl)) (dA (vs:=j) zeroValue31 d8 rfl (fun p h8 d9=>(cT (i:=0) (ns:=[i64 b,i64 c,zS k o.length l,zS none 0 0]) (us:=[i64 b,i64 c,zS k o.length l,zS none 0 0]) sizeOf31 d9 rfl rfl rfl rfl rfl (eM rfl) rfl rfl (fun b2 (b3:aO G K (box p 31 [i64 b,i64 c,zS k o.length l,zS none 0 0]::bI 9 K k l o::box m 31 j::L) b2)=>(aG (aL (aA (bC (t':=2) qK rfl rfl) (aA (bP oR b3 (i:=0) rfl rfl rfl) ?_))))))))))
 have e0:aO G K (bI 9 K k l o::box p 31 [i64 b,i64 c,zS k o.length l,zS none 0 0]::box m 31 j::L) b2:=(aO.arr 2 [1,0] b3 rfl)
 obtain ⟨a2,e1,hm⟩:=aC hm
 refine aV (vs:=[zS k o.length l,Value.func (.func 123) #[] #[]]) call122 rfl (lib_SortStr e0 e1) ?_
 rintro _ e2 ⟨rfl,e3,e4⟩
 have b4:aO G K (bI 9 K k l a2::box p 31 [i64 b,i64 c,zS k a2.length l,zS none 0 0]::box m 31 j::L) e2:=by rw [←e3];exact e4
 refine aG (aL (aA (bC (t':=2) qK rfl rfl) (aA (bP oR b4 (i:=1) rfl rfl rfl) ?_)));obtain ⟨d,e5,hm⟩:=aC hm
 refine aV (vs:=[zS k a2.length l]) call124 rfl (tO e5 b4) ?_
 rintro _ h9 ⟨e,g,rfl,e6⟩
 refine aA (bC (t':=2) qK rfl rfl) (cT (i:=1) (ns:=[zS e d.length g]) (us:=[i64 b,i64 c,zS e d.length g,zS none 0 0]) sizeOf25 e6 rfl rfl rfl rfl rfl (eM rfl) rfl rfl (fun e7 (e8:aO G K (bI 9 K e g d::box p 31 [i64 b,i64 c,zS e d.length g,zS none 0 0]::box m 31 j::L) e7)=>(aG (aP (aL (aI (v:=zS a4 V.length c5) (aA (bQ (len:=V.length) aEp rfl) (aI (v:=i64 0) (aG (bR [8,9] (fun f w=>∃ Z q r,aGv b c d Z=some R/\aO G K (bI 94 K q r Z::bI 9 K e g d::box p 31 [i64 b,i64 c,zS e d.length g,zS q Z.length r]::box m 31 j::L) w) ?_ ?_))))))))))
 ·rintro f i0 ⟨Z,q,r,hm,b5⟩
  unfold aGv at hm
  refine aB (aL (aA (bC (t':=3) nH rfl rfl) (aA (bP aDf b5 (i:=2) rfl rfl rfl) ?_)));obtain ⟨b6,e9,hm⟩:=aC hm
  refine aV (vs:=[zS q Z.length r,Value.func (.func 127) #[] #[]]) call126 rfl (lib_SortEdge b5 e9) ?_
  rintro _ f0 ⟨rfl,f1,f2⟩
  have i1:aO G K (bI 94 K q r b6::bI 9 K e g d::box p 31 [i64 b,i64 c,zS e d.length g,zS q b6.length r]::box m 31 j::L) f0:=by rw [←f1];exact f2
  exact cA
 have i2:=aO.nil (α:=Edge) e8 94 K
 obtain ⟨i3,f3,ho⟩:=aC hm
 refine eG [8,9,25,26] f3 (fun u b8 f w=>∃ x y,f 27=i64 b8/\aO G K (bI 94 K x y u::bI 9 K e g d::box p 31 [i64 b,i64 c,zS e d.length g,zS x u.length y]::box m 31 j::L) w) cA ?_
 ·rintro u b8 i4 f i5 hm hr ⟨x,y,b9,c0⟩
  unfold aGw at hm
  refine aL (aA (cL b9 rfl) (aG (aP ?_)))
  rcases aH hm with ⟨c1,hm⟩|⟨c1,hm⟩
  ·refine aN c1 rfl (aX (aB (aP (bY (aL ?_)))));obtain ⟨a,c3,hm⟩:=aC hm
   refine aA (cQ aEp rfl h6 rfl rfl b9 c3) ?_;obtain ⟨i6,f4,f5⟩:=cI.el (sz:=3) rfl h6 c3
   cases f5
   refine aA (eP (t:=0) (vs:=[i64 a.from_,str a.label,i64 a.to_]) ag_143 c0 f4 rfl rfl rfl) (dA (vs:=[i64 0,str ([]:bL),i64 0]) zeroValue143 c0 rfl (fun f6 i7 f7=>(cT (i:=0) (ns:=[i64 a.from_,str a.label,i64 a.to_]) (us:=[i64 a.from_,str a.label,i64 a.to_]) sizeOf143 f7 rfl rfl rfl rfl rfl (eM rfl) rfl rfl (fun f8 (f9:aO G K (box f6 143 [i64 a.from_,str a.label,i64 a.to_]::bI 94 K x y u::bI 9 K e g d::box p 31 [i64 b,i64 c,zS e d.length g,zS x u.length y]::box m 31 j::L) f8)=>(aG ?_)))))
   obtain ⟨i8,a3,a5,g0,i9⟩:=aO.lendBp f9 .head
   obtain ⟨a6,z,c4,c6,g1⟩:=aO.lendBp g0 zt2
   refine jN (C:=fun w'=>∃ L',aO G a6 L' w') [(0,0),(1,0),(2,0),(3,0),(4,0),(5,0),(6,0),(7,0),(9,0),(10,0),(8,1),(11,0),(12,1),(13,1),(14,0),(15,2)] cC (by kernel_rfl) (fun _ hg=>⟨_,aO.mono c6 hg⟩) (fun j0 g2=>?_)
   have n:=aO.mono c6 g2
   refine dZ rfl (fun _ _=>bC (t':=3) nH rfl rfl) (dZ rfl (fun _ ⟨_,n⟩=>bZ (t:=3) aDf n c4 rfl rfl) (dZ rfl (fun _ _=>bC (t':=0) aRw rfl rfl) (dZ rfl (fun _ ⟨_,n⟩=>bZ (t:=0) dC n (a5.mono z) rfl rfl) (dZ rfl (fun _ _=>bC (t':=2) qK rfl rfl) (dZ rfl (fun _ ⟨_,n⟩=>bZ (t:=2) oR n c4 rfl rfl) (dZ rfl (fun _ _=>bC (t':=1) aPn rfl rfl) (dZ rfl (fun _ ⟨_,n⟩=>bZ (t:=1) fJ n (a5.mono z) rfl rfl) (dZ rfl (fun _ _=>bC (t':=2) aRx rfl rfl) (dZ rfl (fun _ ⟨_,n⟩=>bZ (t:=2) dC n (a5.mono z) rfl rfl) (qW rfl ?_))))))))))
   obtain ⟨j1,j2,g3,g4,g5⟩:=aO.lendSp n (Hp.le_trans a3 z) zt1
   obtain ⟨J,g6,hm⟩:=aC hm
   refine aV (vs:=[zS e d.length g,str a.label]) call125 rfl (uW g6 g4 g3) ?_
   rintro _ j3 ⟨rfl,g7⟩
   have c7:=g5 _ _ g7
   refine cG (aB ⟨⟨_,c7⟩,?_⟩)
   refine dZ rfl (fun _ _=>iJ (vs:=[(0,i64 a.from_),(1,i64 J),(2,i64 a.to_)]) (cs:=[i64 a.from_,i64 J,i64 a.to_]) bs_94 rfl (by kernel_rfl)) (qW rfl (gA (Kt:=K) (xs:=([⟨a.from_,J,a.to_⟩]:List Edge)) (cs:=[i64 a.from_,i64 J,i64 a.to_]) (vs:=[(0,zA #[i64 a.from_,i64 J,i64 a.to_])]) iD aIF rfl rfl c7 rfl (by kernel_rfl) rfl rfl rfl ⟨rfl,trivial⟩ (fun g8 g9 (c8:aO G a6 (bI 94 K g8 1 ([⟨a.from_,J,a.to_⟩]:List Edge)::bI 9 K e g d::bI 94 K x y u::box m 31 j::L) g9)=>(cG (aB ⟨⟨_,c8⟩,?_⟩)))))
   refine qW rfl ?_;obtain ⟨h0,h1,hm⟩:=aC hm
   refine lB (i:=1) iD underlying29 aIF rfl rfl c8 rfl (Hp.le_trans a3 z) (Hp.le_trans a3 z) h1 rfl rfl rfl rfl (fun _ h=>h) (fun h2 h4 h5 (c9:aO G a6 (bI 9 K e g d::bI 94 K h2 h4 h0::box m 31 j::L) h5)=>(cG (aB ⟨⟨_,c9⟩,?_⟩)))
   refine dZ rfl (fun _ _=>bC (t':=3) nH rfl rfl) ?_
   have j4:=g1 _ _ c9
   exact cA
  ·exact cA
theorem aFV {a:(List uT)} {R:(List bL)} (hm:aAP a=some R) (k:aO G K (L) w) (n:cI K a1 c2 a):
  Calls prog 90 ([zS a1 a.length c2]:List Value).toArray w (eX fun v w'=>∃ c d,v=zS c R.length d/\aO G K (bI 9 K c d R::L) w'):=by
 refine aT func90 rfl (by kernel_rfl) (by show (1:Nat)<=19;decide) ?_;unfold aAP at hm
 refine aL (aD (v:=zS none 0 0) (aG (aL (aD (v:=zS none 0 0) (aG (aP (aL (aI (v:=zS a1 a.length c2) (aA (bQ (len:=a.length) aEp rfl) (aI (v:=i64 0) (aG (bR [] (fun f w=>∃ b e g,aBn b=some R/\f 3=zS e b.length g/\aO G K (bI 9 K e g b::L) w) cA ?_))))))))))))
 have o:=aO.nil (α:=bL) k 9 K
 obtain ⟨p,l,ho⟩:=aC hm
 exact eG [6,7] l (fun h m f w=>∃ i j,f 3=zS i h.length j/\f 8=i64 m/\aO G K (bI 9 K i j h::L) w) cA cA
theorem xJ {t:iW} {k:Int} {R:Bool} (hm:oN t k=some R) (a:aO G K (L) w) (b:cI K a1 c2 t.L) (c:cI K a4 c5 t.E):
  Calls prog 129 ([zA (zCa t a1 c2 a4 c5),i64 k]:List Value).toArray w (eX fun v w'=>v=zB R/\aO G K (L) w'):=by
 exact cA
theorem aKN {t:iW} {R:Bool} (hm:aDv t=some R) (y:aO G K (L) w) (hG:G.lo=0) (k:cI K a1 c2 t.L) (l:cI K a4 c5 t.E):
  Calls prog 91 ([zA (zCa t a1 c2 a4 c5)]:List Value).toArray w (eX fun v w'=>v=zB R/\aO G K (L) w'):=by
 let b:=(zC t a1 c2 a4 c5)
 refine aT func91 rfl (by kernel_rfl) (by show (1:Nat)<=109;decide) ?_;unfold aDv at hm
 refine aL (dR (v:=zA (zCa t a1 c2 a4 c5)) (vs:=b) y rfl rfl (fun c w8 b6=>(aD (v:=zB false) (aG (aP (aP (cO [1] (fun f w=>∃ g,oP t g=some R/\f 30=zB g/\aO G K (box c 31 b::L) w) ?_ ?_)))))))
 ·rintro f b8 ⟨g,hm,z,J⟩
  unfold oP at hm
  refine aB ?_
  rcases aH hm with ⟨m,hm⟩|⟨m,hm⟩
  ·exact cA
  ·refine aJ m z (aX (aB (aP (aL (aA (bC (t':=2) qK rfl rfl) (aA (bP oR J (i:=0) rfl rfl rfl) (aA (bQ (len:=t.L.length) dQ rfl) (aI (v:=i64 0) (aG (bR [1] (fun f w=>wB t=some R/\aO G K (box c 31 b::L) w) ?_ ?_))))))))))
   ·rintro f b9 ⟨hm,V⟩
    unfold wB at hm
    refine aB (aP (aL (aA (bC (t':=3) nH rfl rfl) (aA (bP aDf V (i:=0) rfl rfl rfl) (aA (bQ (len:=t.E.length) iD rfl) (aI (v:=i64 0) (aG (bR [] (fun f w=>aBo=some R/\aO G K (L) w) cA ?_))))))));obtain ⟨c0,Z,ho⟩:=aC hm
    refine dS [1,65,66] Z (fun d f w=>f 67=i64 d/\aO G K (box c 31 b::L) w) cA ?_
    ·rintro d a0 f c1 hm hr ⟨h,n⟩
     unfold wA at hm
     refine aL (aA (cL h rfl) (aG (aP ?_)))
     rcases aH hm with ⟨o,hm⟩|⟨o,hm⟩
     ·refine aN o rfl (aX (aB (aP (bY (aL (bJ h ?_))))));obtain ⟨a,p,hm⟩:=aC hm
      refine aA (cQ iD rfl l rfl rfl h p) ?_;obtain ⟨c3,a2,a3⟩:=cI.el (sz:=3) rfl l p
      cases a3
      exact aA (eP (t:=0) (vs:=[i64 a.F,i64 a.B,i64 a.To]) aBw n a2 rfl rfl rfl) (dA (vs:=[i64 0,i64 0,i64 0]) zeroValue94 n rfl (fun a5 c4 a6=>(aD (v:=i64 d) (cT (i:=0) (ns:=[i64 a.F,i64 a.B,i64 a.To]) (us:=[i64 a.F,i64 a.B,i64 a.To]) sizeOf94 a6 rfl rfl rfl rfl rfl (eM rfl) rfl rfl (fun a7 (c6:aO G K (box a5 94 [i64 a.F,i64 a.B,i64 a.To]::box c 31 b::L) a7)=>(aG (aP (cO [1,65,66,67] (fun f w=>∃ q,mM d q=some a0/\f 107=zB q/\aO G K (box c 31 b::L) w) cA cA))))))))
     ·exact cA
   obtain ⟨c7,a8,ho⟩:=aC hm
   refine dS [1,32,33] a8 (fun e f w=>f 34=i64 e/\aO G K (box c 31 b::L) w) cA ?_
   ·rintro e a9 f c8 hm hr ⟨j,b0⟩
    unfold wC at hm
    refine aL (aA (cL j rfl) (aG (aP ?_)))
    rcases aH hm with ⟨r,hm⟩|⟨r,hm⟩
    ·refine aN r rfl (aX (aB (aP (bY (aL (bJ j ?_))))));obtain ⟨b1,u,hm⟩:=aC hm
     refine aA (cQ dQ rfl k rfl rfl j u) ?_;obtain ⟨c9,b2,b3⟩:=cI.el (sz:=1) rfl k u
     cases b3
     exact aA (bZ (t:=0) fJ b0 b2 rfl rfl) (aD (v:=i64 e) (aD (v:=str b1) (aG (aP (cO [1,32,33,34] (fun f w=>∃ x,oO e x=some a9/\f 62=zB x/\aO G K (box c 31 b::L) w) cA cA)))))
    ·exact cA
 exact cA
theorem jM {a R:(List Int)} (hm:eF a=some R) (j:aO G K (L) w) (d:cI K a1 c2 a):
  Calls prog 92 ([zS a1 a.length c2]:List Value).toArray w (eX fun v w'=>∃ e g,v=zS e R.length g/\aO G K (bI 2 K e g R::L) w'):=by
 refine aT func92 rfl (by kernel_rfl) (by show (1:Nat)<=8;decide) ?_;unfold eF at hm
 refine aL (aD (v:=zS none 0 0) (aG (aP (aL (aI (v:=zS a1 a.length c2) (aA (R_isNil gD rfl rfl) (aG ?_)))))))
 rcases nil_cases d with ⟨k,l,m⟩|n
 ·subst k;subst l;subst m
  refine W_cond_t rfl ?_
  replace hm:(some [])=some R:=hm
  exact cA
 ·refine W_cond_f (Eq.trans rfl (congrArg zB n)) (aX (aB (aL (gA (Kt:=K) (xs:=([]:List Int)) (cs:=[]) (vs:=[]) gD aEA rfl rfl j rfl (by kernel_rfl) rfl rfl rfl trivial (fun o p (q:aO G K (bI 2 K o 0 ([]:List Int)::L) p)=>(aI (v:=zS a1 a.length c2) ?_))))));obtain ⟨h,r,hm⟩:=aC hm
  refine aOd (i:=0) gD underlying75 aEA rfl rfl q rfl (Hp.le_refl _) d r rfl rfl rfl rfl (fun b c t (u:aO G K (bI 2 K b c h::L) t)=>(aD (v:=zS b h.length c) (aG ?_)));obtain rfl:=zI hm
  exact aY (aR results92 rfl ⟨b,c,rfl,u⟩)
theorem aHB {a:cW} {R:(List bO)} (hm:tC a=some R) (hs:aO G K (L) w) (h3:cI K a1 c2 a.Definitions) (Z:cI K a4 c5 a.Components) (h9:cI K a7 c8 a.Meetings) (e7:cI K a10 c11 a.Allowed) (e8:cI K a13 c14 a.Hidden):
  Calls prog 54 ([zA #[zS a1 a.Definitions.length c2,zS a4 a.Components.length c5,zS a7 a.Meetings.length c8,zS a10 a.Allowed.length c11,zS a13 a.Hidden.length c14]]:List Value).toArray w (eX fun v w'=>∃ a0 a2 q,v=zS a0 R.length a2/\List.length q=List.length R/\aO G K (bI 83 K a0 a2 (bX q R)::rows [2] q R::L) w'):=by
 let a3:=[zS a1 a.Definitions.length c2,zS a4 a.Components.length c5,zS a7 a.Meetings.length c8,zS a10 a.Allowed.length c11,zS a13 a.Hidden.length c14]
 refine aT func54 rfl (by kernel_rfl) (by show (1:Nat)<=24;decide) ?_;unfold tC at hm
 refine aL (dR (v:=zA #[zS a1 a.Definitions.length c2,zS a4 a.Components.length c5,zS a7 a.Meetings.length c8,zS a10 a.Allowed.length c11,zS a13 a.Hidden.length c14]) (vs:=a3) hs rfl rfl (fun c0 c1 a5=>(aD (v:=zS none 0 0) (aG (aL (aD (v:=zS none 0 0) (aG (aP (aL (aA (bC (t':=1) qJ rfl rfl) (aA (bP aDV a5 (i:=0) rfl rfl rfl) (aA (bQ (len:=a.Components.length) sL rfl) (aI (v:=i64 0) (aG (bR [] (fun f w=>∃ l a6 a8 r,sC l=some R/\f 3=zS a6 l.length a8/\List.length r=List.length l/\aO G K (bI 83 K a6 a8 (bX r l)::rows [2] r l::L) w) cA ?_)))))))))))))))
 have c3:aO G K (bI 83 K none 0 (bX ([]:List (Dp.Hd bO)) ([]:List bO))::rows [2] ([]:List (Dp.Hd bO)) ([]:List bO)::box c0 38 a3::L) c1:=aO.nil (α:=yK _) (aO.rowsNil (α:=bO) (tys:=[2]) a5) 83 K
 obtain ⟨e9,c4,ho⟩:=aC hm
 refine eG [7,8] c4 (fun g u f w=>∃ j k c,f 3=zS j g.length k/\f 9=i64 u/\List.length c=List.length g/\aO G K (bI 83 K j k (bX c g)::rows [2] c g::L) w) ?_ ?_
 ·exact ⟨none,0,[],rfl,rfl,rfl,(aO.arr 3 [0,1] c3 rfl)⟩
 ·rintro g u f0 f f1 hm hr ⟨j,k,c,c6,y,a9,b0⟩
  unfold oD at hm
  refine aL (aA (cL y rfl) (aG (aP ?_)))
  rcases aH hm with ⟨b1,hm⟩|⟨b1,hm⟩
  ·refine aN b1 rfl (aX (aB (aP (bY (aL ?_)))));obtain ⟨b,b2,hm⟩:=aC hm
   refine aA (cQ sL rfl Z rfl rfl y b2) ?_;obtain ⟨f2,c7,c9⟩:=cI.el (sz:=2) rfl Z b2
   obtain ⟨m,n,rfl,d0⟩:=c9
   refine aA (eP (t:=0) (vs:=[i64 b.Definition,zS m b.Values.length n]) aFl b0 c7 rfl rfl rfl) (dA (vs:=[i64 0,zS none 0 0]) zeroValue102 b0 rfl (fun d1 f3 d2=>(cT (i:=0) (ns:=[i64 b.Definition,zS m b.Values.length n]) (us:=[i64 b.Definition,zS m b.Values.length n]) sizeOf102 d2 rfl rfl rfl rfl rfl (eM rfl) rfl rfl (fun d3 (d4:aO G K (box d1 102 [i64 b.Definition,zS m b.Values.length n]::bI 83 K j k (bX c g)::rows [2] c g::L) d3)=>(aG ?_)))))
   obtain ⟨p,d5,b3,b4,d6⟩:=aO.lendBp d4 .head
   refine jN (C:=fun w'=>∃ L',aO G p L' w') [(0,0),(1,0),(2,0),(3,0),(4,0),(5,1),(6,0),(7,1),(8,1),(9,0)] cC (by kernel_rfl) (fun _ hg=>⟨_,aO.mono b4 hg⟩) (fun f4 d7=>?_)
   have o:=aO.mono b4 d7
   refine dZ rfl (fun _ _=>bM c6) (dZ rfl (fun _ _=>bC (t':=0) vD rfl rfl) (dZ rfl (fun _ ⟨_,o⟩=>bZ (t:=0) dC o b3 rfl rfl) (dZ rfl (fun _ _=>bC (t':=1) vE rfl rfl) (dZ rfl (fun _ ⟨_,o⟩=>bZ (t:=1) aCe o b3 rfl rfl) (qW rfl ?_)))));obtain ⟨h,d8,hm⟩:=aC hm
   refine aV (vs:=[zS m b.Values.length n]) call92 rfl (jM d8 o (d0.mono d5)) ?_
   rintro _ d9 ⟨d,e,rfl,b5⟩
   refine cG (aB ⟨⟨_,b5⟩,?_⟩)
   refine dZ rfl (fun _ _=>iJ (vs:=[(0,i64 b.Definition),(1,i64 0),(2,zS d h.length e)]) (cs:=[i64 b.Definition,i64 0,zS d h.length e]) aNF rfl (by kernel_rfl)) (qW rfl ?_)
   have e0:aO G p (rows [2] ([(d,e)]:List (Dp.Hd bO)) ([⟨b.Definition,0,h⟩]:List bO)::bI 83 K j k (bX c g)::rows [2] c g::L) d9:=aO.rowsOneS (tys:=[2]) (hd:=((d,e):Dp.Hd bO)) (x:=(⟨b.Definition,0,h⟩:bO)) b5
   refine gA (Kt:=K) (xs:=bX ([(d,e)]:List (Dp.Hd bO)) ([⟨b.Definition,0,h⟩]:List bO)) (cs:=[i64 b.Definition,i64 0,zS d h.length e]) (vs:=[(0,zA #[i64 b.Definition,i64 0,zS d h.length e])]) rV aHK rfl rfl e0 rfl (by kernel_rfl) rfl rfl rfl ⟨rfl,trivial⟩ ?_
   intro e1 e2 (b6:aO G p (bI 83 K e1 1 (bX ([(d,e)]:List (Dp.Hd bO)) ([⟨b.Definition,0,h⟩]:List bO))::rows [2] ([(d,e)]:List (Dp.Hd bO)) ([⟨b.Definition,0,h⟩]:List bO)::bI 83 K j k (bX c g)::rows [2] c g::L) e2)
   refine cG (aB ⟨⟨_,b6⟩,?_⟩)
   refine qW rfl ?_;obtain ⟨z,b7,hm⟩:=aC hm
   refine WO_appD (i:=0) (tys:=[2]) (hds:=c) (hds2:=([(d,e)]:List (Dp.Hd bO))) rV underlying84 aHK rfl rfl b6 a9 rfl rfl rfl b7 rfl rfl rfl rfl ?_
   intro J V e3 (b8:aO G p (bI 83 K J V (bX (c++([(d,e)]:List (Dp.Hd bO))) z)::rows [2] (c++([(d,e)]:List (Dp.Hd bO))) z::L) e3)
   refine cG (aB ⟨⟨_,b8⟩,?_⟩)
   refine dZ rfl (fun _ _=>gI (v:=zS J z.length V) rfl) (sK ?_)
   have e4:=d6 _ _ b8
   exact bN (aB (aW (aA (cH y rfl) (aI (v:=i64 (wr (u+1))) (aG ⟨_,(zI hm).symm,aU,J,V,(c++([(d,e)]:List (Dp.Hd bO))),rfl,rfl,(app_len a9 rfl b7),(aO.arr 1 [] e4 rfl)⟩)))))
  ·exact cA
theorem aJJ {n:Int} {R:Bool} (hm:aEh n=some R) (a:aO G K (L) w):
  Calls prog 224 ([i64 n]:List Value).toArray w (eX fun v w'=>v=zB R/\aO G K (L) w'):=by
 exact cA
end Gv
namespace Gv
open Gv.Hp renaming le_refl→zR
open Go.Value renaming slice→zS,bool→zB,pointer→zP,agg→zA,tuple→zT,map→zM
open Option.some renaming inj→zI
open Gv.Hp renaming le_trans→zL
open Go Go.Proofs Go.Proofs.Tryz
set_option maxRecDepth 20000
set_option maxHeartbeats 40000000
variable {G:qG} {K Kf:Hp} {L:List iZ} {w:World} {a1 a3 a4 a2 a5 a8 a7 a6 a9 a11 a14 a17 a20 a23 a26 a29:Option Addr} {c2 c4 c5 b1 c3 c6 c9 c8 b4 b5 c7 c10 c18 c21 c24 c27 c30:Nat}
theorem rL {a:(List Int)} {R:Int} (hm:gX a=some R) (n:aO G K (L) w) (c:cI K a1 c2 a):
  Calls prog 194 ([zS a1 a.length c2,Value.func (.func 224) #[] #[]]:List Value).toArray w (eX fun v w'=>v=i64 R/\aO G K (L) w'):=by
 refine aT func194 rfl (by kernel_rfl) (by show (2:Nat)<=19;decide) ?_;unfold gX at hm
 refine aL (aD (v:=i64 0) (aG (aP (aL (aI (v:=zS a1 a.length c2) (aA (bQ (len:=a.length) gD rfl) (aI (v:=i64 0) (aG (bR [] (fun f w=>gG=some R/\aO G K (L) w) cA ?_)))))))));obtain ⟨o,j,ho⟩:=aC hm
 refine dS [0,1,7] j (fun b f w=>f 8=i64 b/\aO G K (L) w) cA ?_
 ·rintro b p f q hm hr ⟨d,e⟩
  unfold fF at hm
  refine aL (aA (cL d rfl) (aG (aP ?_)))
  rcases aH hm with ⟨g,hm⟩|⟨g,hm⟩
  ·refine aN g rfl (aX (aB (aP (bY (aL (bJ d (aD (v:=i64 b) (aG (aL (aI (v:=Value.func (.func 224) #[] #[]) (aI (v:=zS a1 a.length c2) (aI (v:=i64 b) ?_))))))))))));obtain ⟨h,i,hm⟩:=aC hm
   refine aA (cQ gD rfl c rfl rfl rfl i) ?_;obtain ⟨r,k,l⟩:=cI.el (sz:=1) rfl c i
   cases l
   refine aA (bZ (t:=0) dC e k rfl rfl) ?_;obtain ⟨u,m,hm⟩:=aC hm
   exact qV (vs:=[i64 h]) (caps:=[]) (us:=[i64 h]) rfl call224 rfl rfl (aJJ m e) cA
  ·exact cA
theorem qA {a:(List Int)} {R:Bool} (hm:fG a=some R) (b:aO G K (L) w) (c:cI K a1 c2 a):
  Calls prog 157 ([zS a1 a.length c2,Value.func (.func 224) #[] #[]]:List Value).toArray w (eX fun v w'=>v=zB R/\aO G K (L) w'):=by
 exact cA
theorem aMP {a:(List Int)} {R:Bool} (hm:aGx a=some R) (c:aO G K (L) w) (d:cI K a1 c2 a):
  Calls prog 170 ([zS a1 a.length c2]:List Value).toArray w (eX fun v w'=>v=zB R/\aO G K (L) w'):=by
 refine aT func170 rfl (by kernel_rfl) (by show (1:Nat)<=11;decide) ?_;unfold aGx at hm
 exact aL (aD (v:=zB false) (aG (aP (cO [] (fun f w=>∃ b,aEi b=some R/\f 2=zB b/\aO G K (L) w) cA cA))))
theorem aKO {a:(List Int)} {R:bL} (hm:aDw a=some R) (b:aO G K (L) w) (c:G.lo=0) (d:cI K a1 c2 a):
  Calls prog 132 ([zS a1 a.length c2]:List Value).toArray w (eX fun v w'=>v=str R/\aO G K (L) w'):=by
 exact cA
theorem aJK {p:bO} {R:bL} (hm:aEj p=some R) (a:aO G K (L) w) (b:G.lo=0) (c:cI K a1 c2 p.Values):
  Calls prog 94 ([zA #[i64 p.Definition,i64 p.Part,zS a1 p.Values.length c2]]:List Value).toArray w (eX fun v w'=>v=str R/\aO G K (L) w'):=by
 exact cA
theorem aFW {p:bO} {R:bL} (hm:aAQ p=some R) (a:aO G K (L) w) (b:G.lo=0) (c:cI K a1 c2 p.Values):
  Calls prog 55 ([zA #[i64 p.Definition,i64 p.Part,zS a1 p.Values.length c2]]:List Value).toArray w (eX fun v w'=>v=str R/\aO G K (L) w'):=by
 exact cA
theorem aIU {rec_:(List bS)->Option ((Tr bS) × (List bS))} (ih:∀ {G:qG} {K:Hp} {L:List iZ} {w:World} {e:(List bS)} {a1:Option Addr} {c2:Nat} {R:((Tr bS) × (List bS))} (hm:rec_ e=some R) (hs:aO G K (L) w) (g:cI K a1 c2 e),
  Calls prog 226 ([zS a1 e.length c2]:List Value).toArray w (eX fun v w'=>∃ c r u x,v=zT #[eN r 0,zS u R.2.length x]/\Hp.le K c/\trd c R.1 r/\cI c u x R.2/\aO G c (L) w'))
  {G:qG} {K:Hp} {L:List iZ} {w:World} {e:(List bS)} {a1:Option Addr} {c2:Nat} {R:((Tr bS) × (List bS))} (hm:mG rec_ e=some R) (hs:aO G K (L) w) (g:cI K a1 c2 e):
  Calls prog 226 ([zS a1 e.length c2]:List Value).toArray w (eX fun v w'=>∃ c r u x,v=zT #[eN r 0,zS u R.2.length x]/\Hp.le K c/\trd c R.1 r/\cI c u x R.2/\aO G c (L) w'):=by
 refine aT func226 rfl (by kernel_rfl) (by show (1:Nat)<=38;decide) ?_;unfold mG at hm
 refine aL (aD (v:=zP none) (aD (v:=zS none 0 0) (aG (aL (aI (v:=zS a1 e.length c2) ?_)))));obtain ⟨a,q5,hm⟩:=aC hm
 refine aA (cQ lW rfl g rfl rfl rfl q5) ?_;obtain ⟨g1,b6,c9⟩:=cI.el (sz:=2) rfl g q5
 cases c9
 refine aA (eP (t:=0) (vs:=[i64 a.Kind,i64 a.Value]) aFn hs b6 rfl rfl rfl) (aA (iJ (vs:=[(0,zA #[i64 a.Kind,i64 a.Value])]) (cs:=[i64 a.Kind,i64 a.Value,zS none 0 0]) bs_283 rfl (by kernel_rfl)) (dR (v:=zA #[i64 a.Kind,i64 a.Value,zS none 0 0]) (vs:=[i64 a.Kind,i64 a.Value,zS none 0 0]) hs rfl rfl (fun b g2 b7=>(aD (v:=zP (some ⟨b,0,none⟩)) (aG (aL (aI (v:=zS a1 e.length c2) ?_)))))));obtain ⟨d0,b8,hm⟩:=aC hm
 obtain ⟨d1,d2,c0⟩:=Cut.ex 2 a1 c2 1
 have g3:=cI.cut' g b8 c0
 refine aA (aLx lW g.room c0 rfl rfl rfl b8) (aD (v:=zS d1 d0.length d2) (aG (aP (aL (aI (v:=zS a1 e.length c2) (aA (cQ lW rfl g rfl rfl rfl q5) (aA (eP (t:=0) (vs:=[i64 a.Kind,i64 a.Value]) aFn b7 b6 rfl rfl rfl) ?_)))))));obtain ⟨g4,d3,hm⟩:=aC hm
 refine aV (vs:=[zA #[i64 a.Kind,i64 a.Value]]) call235 rfl (aBT d3 b7) ?_
 rintro _ g5 ⟨rfl,d4⟩
 refine aI (v:=i64 0) (aG (bR [4] (fun f w=>∃ y j z a0 a2 J V,Hp.le K y/\aBp a j z=some R/\f 5=zS J z.length V/\cI y J V z/\aO G y (bI 228 y a0 a2 j::box b 283 [i64 a.Kind,i64 a.Value,zS a0 j.length a2]::L) w) ?_ ?_))
 ·rintro f c1 ⟨y,j,z,a0,a2,J,V,d5,hm,d6,d7,d8⟩
  unfold aBp at hm
  refine aB (aL (aI (v:=zP (some ⟨b,0,none⟩)) (bJ d6 (aD (v:=zP (some ⟨b,0,none⟩)) (aD (v:=zS J z.length V) (aG ?_))))));obtain ⟨d9,c3,e0,a9⟩:=aO.giveSp d8 (zR _) .head
  replace a9:aO G d9 (box b 283 [i64 a.Kind,i64 a.Value,zS a0 j.length a2]::L) c1:=a9
  obtain ⟨b0,b1,e1,b2,_⟩:=aO.lendBp a9 .head
  replace b2:aO G b0 (L) c1:=b2
  have e2:trd b0 (Tr.mk a j) (some ⟨b,0,none⟩):=trd_mk e1 (e0.mono b1)
  obtain rfl:=zI hm
  exact aY (nK results226 rfl rfl ⟨b0,(some ⟨b,0,none⟩),J,V,(tp2 (elp_b rfl) rfl),(zL (zL d5 c3) b1),e2,(d7.mono (zL c3 b1)),b2⟩)
 have g6:=aO.nil (α:=(Tr bS)) d4 228 K
 obtain ⟨g7,e5,ho⟩:=aC hm
 refine mT [4,17] e5 (fun k a3 b3 f w=>∃ l m n a4 a5,Hp.le K l/\f 5=zS a4 a3.length a5/\f 18=i64 b3/\cI l a4 a5 a3/\aO G l (bI 228 l m n k::box b 283 [i64 a.Kind,i64 a.Value,zS m k.length n]::L) w) cA ?_
 ·rintro k a3 b3 g8 f g9 hm hr ⟨l,m,n,a4,a5,e6,e7,c4,e8,e9⟩
  unfold wD at hm
  refine aL (aA (cL c4 rfl) (aG (aP ?_)))
  rcases aH hm with ⟨c5,hm⟩|⟨c5,hm⟩
  ·refine aN c5 rfl (aX (aB (aP (bY (aL (aD (v:=zP none) (aG (aL (bJ e7 ?_)))))))));obtain ⟨a6,f0,hm⟩:=aC hm
   refine aV (vs:=[zS a4 a3.length a5]) call226 rfl (ih f0 e9 e8) ?_
   rintro _ h0 ⟨d,o,b4,b5,rfl,c6,f1,f2,c7⟩
   refine aI (v:=zT #[eN o 0,zS b4 a6.2.length b5]) (aA (dJ rfl rfl) (aA (dJ rfl rfl) (aD (v:=eN o 0) (aD (v:=zS b4 a6.2.length b5) (aG (aW (aI (v:=zP (some ⟨b,0,none⟩)) (aI (v:=zP (some ⟨b,0,none⟩)) (aA (lG rfl) (aA (bC (t':=2) aGr rfl rfl) (aA (bP aOs c7 (i:=1) rfl rfl rfl) (aI (v:=eN o 0) (gA (Kt:=d) (xs:=([a6.1]:List (Tr bS))) (cs:=[eN o 0]) (vs:=[(0,eN o 0)]) aLy ez_228 rfl rfl c7 rfl (by kernel_rfl) rfl rfl rfl ⟨⟨o,rfl,f1⟩,trivial⟩ (fun f3 f4 (f5:aO G d (bI 228 d f3 1 ([a6.1]:List (Tr bS))::bI 228 l m n k::box b 283 [i64 a.Kind,i64 a.Value,zS m k.length n]::L) f4)=>?_))))))))))))))
   obtain ⟨Z,f6,hm⟩:=aC hm
   exact aGX (i:=0) d aLy underlying281 ez_228 rfl rfl f5 rfl c6 (zR _) f6 rfl rfl rfl rfl (fun _ _ _ h=>El.one h) (fun p q f7 (f8:aO G d (bI 228 d p q Z::box b 283 [i64 a.Kind,i64 a.Value,zS m k.length n]::L) f7)=>(aA (lG rfl) (aA (bC (t':=2) aGr rfl rfl) (cT (i:=1) (ns:=[zS p Z.length q]) (us:=[i64 a.Kind,i64 a.Value,zS p Z.length q]) sizeOf281 f8 rfl rfl rfl rfl rfl (eM rfl) rfl rfl (fun f9 (g0:aO G d (bI 228 d p q Z::box b 283 [i64 a.Kind,i64 a.Value,zS p Z.length q]::L) f9)=>(cG (bN (aB (aW (aA (cH c4 rfl) (aI (v:=i64 (wr (b3+1))) (aG ⟨_,(zI hm).symm,aU,d,p,q,b4,b5,(zL e6 c6),rfl,rfl,f2,g0⟩))))))))))))
  ·exact cA
theorem aIV (n:Nat):∀ {G:qG} {K:Hp} {L:List iZ} {w:World} {e:(List bS)} {a1:Option Addr} {c2:Nat} {R:((Tr bS) × (List bS))} (hm:mH n e=some R) (a:aO G K (L) w) (b:cI K a1 c2 e),
  Calls prog 226 ([zS a1 e.length c2]:List Value).toArray w (eX fun v w'=>∃ c d g h,v=zT #[eN d 0,zS g R.2.length h]/\Hp.le K c/\trd c R.1 d/\cI c g h R.2/\aO G c (L) w'):=by
 induction n with
 |zero=>
  intro G K L w e a1 c2 R hm a b
  unfold mH at hm
  cases hm
 |succ n ih=>
  intro G K L w e a1 c2 R hm a b
  exact aIU (rec_:=mH n) (fun hm a b=>ih hm a b) hm a b
theorem aKP {e:(List bS)} {R:((Tr bS) × (List bS))} (hm:aHY e=some R) (hs:aO G K (L) w) (h3:cI K a1 c2 e):
  Calls prog 226 ([zS a1 e.length c2]:List Value).toArray w (eX fun v w'=>∃ K' ra1 ra2 rc2,v=zT #[eN ra1 0,zS ra2 R.2.length rc2]/\Hp.le K K'/\trd K' R.1 ra1/\cI K' ra2 rc2 R.2/\aO G K' (L) w'):=aIV 100000 hm hs h3
theorem aPv {e:(List bS)} {R:(Tr bS)} (hm:aOu e=some R) (c:aO G K (L) w) (d:cI K a1 c2 e):
  Calls prog 173 ([zS a1 e.length c2]:List Value).toArray w (eX fun v w'=>∃ a b,v=eN b 0/\Hp.le K a/\trd a R b/\aO G a (L) w'):=by
 exact cA
theorem mK {is:Bool} {R:Int} (hm:wW is=some R) (a:aO G K (L) w):
  Calls prog 227 ([zB is]:List Value).toArray w (eX fun v w'=>v=i64 R/\aO G K (L) w'):=by
 exact cA
theorem aLU {c a b R:Int} (hm:aHh c a b=some R) (o:aO G K (L) w):
  Calls prog 228 ([i64 c,i64 a,i64 b]:List Value).toArray w (eX fun v w'=>v=i64 R/\aO G K (L) w'):=by
 refine aT func228 rfl (by kernel_rfl) (by show (3:Nat)<=67;decide) ?_;unfold aHh at hm
 refine aL (aD (v:=i64 0) (aG (aP (aL (aI (v:=i64 c) (aG (bY (aL (aA (cP rfl rfl) (aD (v:=zB (c == 0)) (aG ?_)))))))))))
 rcases aH hm with ⟨e,hm⟩|⟨e,hm⟩
 ·exact cA
 ·refine aJ e rfl (aL (aA (cP rfl rfl) (aD (v:=zB (c == 1)) (aG ?_))))
  rcases aH hm with ⟨g,hm⟩|⟨g,hm⟩
  ·exact cA
  ·refine aJ g rfl (aL (aA (cP rfl rfl) (aD (v:=zB (c == 2)) (aG ?_))))
   rcases aH hm with ⟨h,hm⟩|⟨h,hm⟩
   ·exact cA
   ·refine aJ h rfl (aL (aA (cP rfl rfl) (aD (v:=zB (c == 3)) (aG ?_))))
    rcases aH hm with ⟨i,hm⟩|⟨i,hm⟩
    ·exact cA
    ·refine aJ i rfl (aL (aA (cP rfl rfl) (aD (v:=zB (c == 4)) (aG ?_))))
     rcases aH hm with ⟨j,hm⟩|⟨j,hm⟩
     ·exact cA
     ·refine aJ j rfl (aL (aA (cP rfl rfl) (aD (v:=zB (c == 5)) (aG ?_))))
      rcases aH hm with ⟨k,hm⟩|⟨k,hm⟩
      ·exact cA
      ·refine aJ k rfl (aL (aA (cP rfl rfl) (aD (v:=zB (c == 6)) (aG ?_))))
       rcases aH hm with ⟨l,hm⟩|⟨l,hm⟩
       ·exact cA
       ·refine aJ l rfl (aL (aA (cP rfl rfl) (aD (v:=zB (c == 7)) (aG ?_))))
        rcases aH hm with ⟨d,hm⟩|⟨d,hm⟩
        ·exact aN d rfl (aP (cO [] (fun f w=>∃ m,aCB m=some R/\f 6=i64 m/\aO G K (L) w) cA cA))
        ·exact aJ d rfl (aX (bN (aB (aP (cO [] (fun f w=>∃ n,aCC n=some R/\f 6=i64 n/\aO G K (L) w) cA cA)))))
theorem aHC {rec_:(Tr bS)->(List Int)->Option Int} (g:∀ {G:qG} {K:Hp} {L:List iZ} {w:World} {x_:(Tr bS)} {a1:Option Addr} {c:(List Int)} {a3:Option Addr} {c4:Nat} {R:Int} (hm:rec_ x_ c=some R) (a:aO G K (L) w) (i:trd K x_ a1) (e:cI K a3 c4 c),
  Calls prog 174 ([eN a1 0,zS a3 c.length c4]:List Value).toArray w (eX fun v w'=>v=i64 R/\aO G K (L) w'))
  {G:qG} {K:Hp} {L:List iZ} {w:World} {x_:(Tr bS)} {a1:Option Addr} {c:(List Int)} {a3:Option Addr} {c4:Nat} {R:Int} (hm:kD rec_ x_ c=some R) (a:aO G K (L) w) (i:trd K x_ a1) (e:cI K a3 c4 c):
  Calls prog 174 ([eN a1 0,zS a3 c.length c4]:List Value).toArray w (eX fun v w'=>v=i64 R/\aO G K (L) w'):=by
 refine aT func174 rfl (by kernel_rfl) (by show (2:Nat)<=61;decide) ?_;unfold kD at hm
 refine aL (aD (v:=i64 0) (aG (aP (aL (aI (v:=eN a1 0) ?_)))));obtain ⟨o,p,b,d⟩:=trd.el i
 replace b:iQ K a1 0 [i64 x_.val.Kind,i64 x_.val.Value,zS o x_.kids.length p]:=b
 refine aA (dT rfl b) (aA (cM (k':=0+0) aIH rfl b rfl) (aA (cM (k':=0+0) vB rfl b rfl) (aA (bZ (t:=0) dC a b rfl rfl) (aG (bY (aL (aA (cP rfl rfl) (aD (v:=zB (x_.val.Kind == 0)) (aG ?_)))))))))
 rcases aH hm with ⟨j,hm⟩|⟨j,hm⟩
 ·exact cA
 ·refine aJ j rfl (aL (aA (cP rfl rfl) (aD (v:=zB (x_.val.Kind == 1)) (aG ?_))))
  rcases aH hm with ⟨k,hm⟩|⟨k,hm⟩
  ·exact cA
  ·refine aJ k rfl (aL (aA (cP rfl rfl) (aD (v:=zB (x_.val.Kind == 3)) (aG ?_))))
   rcases aH hm with ⟨h,hm⟩|⟨h,hm⟩
   ·refine aN h rfl (aL (aI (v:=eN a1 0) (aA (dT rfl b) (aA (cM (k':=0+2) aGr rfl b rfl) (aA (bZ (t:=2) aOs a b rfl rfl) ?_)))));obtain ⟨b1,l,hm⟩:=aC hm
    refine aA (cQ aLy rfl d rfl rfl rfl l) ?_;obtain ⟨b2,q,r⟩:=cI.el (sz:=1) rfl d l
    obtain ⟨u,rfl,x⟩:=r
    refine aA (bZ (t:=0) aRf a q rfl rfl) (aI (v:=zS a3 c.length c4) ?_);obtain ⟨b3,y,hm⟩:=aC hm
    exact aV (vs:=[eN u 0,zS a3 c.length c4]) call174 rfl (g y a x e) cA
   ·refine aJ h rfl (aX (bN (aB (aP (dF (C:=fun w'=>aO G K (L) w') cC (by kernel_rfl) (aO.mono a (dY.drew _)) (aZ (fun _ a=>bM (v:=eN a1 0) rfl) (aZ (fun _ a=>dT rfl b) (aZ (fun _ a=>cM (k':=0+0) aIH rfl b rfl) (aZ (fun _ a=>cM (k':=0+1) kN rfl b rfl) (aZ (fun _ a=>bZ (t:=1) dC a b rfl rfl) (aZ (fun _ a=>bM (v:=eN a1 0) rfl) (aZ (fun _ a=>dT rfl b) (aZ (fun _ a=>cM (k':=0+2) aGr rfl b rfl) (aZ (fun _ a=>bZ (t:=2) aOs a b rfl rfl) ?_))))))))))))))
    obtain ⟨b4,m,hm⟩:=aC hm
    refine aZ (fun _ a=>cQ aLy rfl d rfl rfl rfl m) ?_;obtain ⟨b5,z,J⟩:=cI.el (sz:=1) rfl d m
    obtain ⟨V,rfl,Z⟩:=J
    refine aZ (fun _ a=>bZ (t:=0) aRf a z rfl rfl) (aZ (fun _ a=>bM (v:=zS a3 c.length c4) rfl) ?_);obtain ⟨a0,a2,hm⟩:=aC hm
    refine fH (vs:=[eN V 0,zS a3 c.length c4]) (v:=i64 a0) call174 rfl (fun _ a=>(g a2 a Z e)) (aZ (fun _ a=>bM (v:=eN a1 0) rfl) (aZ (fun _ a=>dT rfl b) (aZ (fun _ a=>cM (k':=0+2) aGr rfl b rfl) (aZ (fun _ a=>bZ (t:=2) aOs a b rfl rfl) ?_))));obtain ⟨b6,n,hm⟩:=aC hm
    refine aZ (fun _ a=>cQ aLy rfl d rfl rfl rfl n) ?_;obtain ⟨b7,a4,a5⟩:=cI.el (sz:=1) rfl d n
    obtain ⟨a7,rfl,a8⟩:=a5
    refine aZ (fun _ a=>bZ (t:=0) aRf a a4 rfl rfl) (aZ (fun _ a=>bM (v:=zS a3 c.length c4) rfl) ?_);obtain ⟨a9,b0,hm⟩:=aC hm
    exact fH (vs:=[eN a7 0,zS a3 c.length c4]) (v:=i64 a9) call174 rfl (fun _ a=>(g b0 a a8 e)) cA
theorem aHD (n:Nat):∀ {G:qG} {K:Hp} {L:List iZ} {w:World} {x_:(Tr bS)} {a1:Option Addr} {a:(List Int)} {a3:Option Addr} {c4:Nat} {R:Int} (hm:kE n x_ a=some R) (b:aO G K (L) w) (c:trd K x_ a1) (d:cI K a3 c4 a),
  Calls prog 174 ([eN a1 0,zS a3 a.length c4]:List Value).toArray w (eX fun v w'=>v=i64 R/\aO G K (L) w'):=by
 induction n with
 |zero=>
  intro G K L w x_ a1 a a3 c4 R hm b c d
  unfold kE at hm
  cases hm
 |succ n ih=>
  intro G K L w x_ a1 a a3 c4 R hm b c d
  exact aHC (rec_:=kE n) (fun hm b c d=>ih hm b c d) hm b c d
theorem aIW {x_:(Tr bS)} {values:(List Int)} {R:Int} (hm:aFx x_ values=some R) (hs:aO G K (L) w) (h2:trd K x_ a1) (h5:cI K a3 c4 values):
  Calls prog 174 ([eN a1 0,zS a3 values.length c4]:List Value).toArray w (eX fun v w'=>v=i64 R/\aO G K (L) w'):=aHD 100000 hm hs h2 h5
theorem aFX {e:(List bS)} {a:(List Int)} {R:Int} (hm:xI e a=some R) (b:aO G K (L) w) (c:cI K a1 c2 e) (d:cI K a4 c5 a):
  Calls prog 137 ([zS a1 e.length c2,zS a4 a.length c5]:List Value).toArray w (eX fun v w'=>v=i64 R/\aO G K (L) w'):=by
 exact cA
theorem aDB {a:(List (List bS))} {b R:(List Int)} (hm:rS a b=some R) (l:aO G K (L) w) (o:cI K a1 c2 a) (p:cI K a4 c5 b):
  Calls prog 134 ([zS a1 a.length c2,zS a4 b.length c5]:List Value).toArray w (eX fun v w'=>∃ d e,v=zS d R.length e/\aO G K (bI 2 K d e R::L) w'):=by
 refine aT func134 rfl (by kernel_rfl) (by show (2:Nat)<=22;decide) ?_;unfold rS at hm
 refine aL (aD (v:=zS none 0 0) (aG (aL (aD (v:=zS none 0 0) (aG (aP (aL (aI (v:=zS a1 a.length c2) (aA (bQ (len:=a.length) lJ rfl) (aI (v:=i64 0) (aG (bR [] (fun f w=>∃ c g h,uO c=some R/\f 5=zS g c.length h/\aO G K (bI 2 K g h c::L) w) cA ?_))))))))))))
 have q:=aO.nil (α:=Int) l 2 K
 obtain ⟨r,m,ho⟩:=aC hm
 exact eG [1,8,9] m (fun i n f w=>∃ j k,f 5=zS j i.length k/\f 10=i64 n/\aO G K (bI 2 K j k i::L) w) cA cA
theorem aFE {e:(List Definition)} {d:(List dK)} {m:(List (bL × Bool))} {c:Nat} {a:dK} {R:((List dK) × (List (bL × Bool)))} (hm:jA e d m a=some R) (hs:aO G K (bI 92 Kf a5 c6 d::nG c m::box b1 151 [zS a2 e.length c3,zS a5 d.length c6,zM (some c)]::L) w) (hG:G.lo=0) (a4:Hp.le Kf K) (h4:cI K a2 c3 e) (q:cI Kf a8 c9 a.Next.Values):
  Calls prog 135 ([zP (some ⟨b1,0,none⟩),zA #[str a.B,i64 a.Next.Definition,i64 a.Next.Part,zS a8 a.Next.Values.length c9]]:List Value).toArray w (eX fun v w'=>∃ r u,v=zT #[]/\aO G K (bI 92 Kf r u R.1::nG c R.2::box b1 151 [zS a2 e.length c3,zS r R.1.length u,zM (some c)]::L) w'):=by
 let g:=[str a.B,i64 a.Next.Definition,i64 a.Next.Part,zS a8 a.Next.Values.length c9]
 let x:=[zS a2 e.length c3,zS a5 d.length c6,zM (some c)]
 refine aT func135 rfl (by kernel_rfl) (by show (2:Nat)<=34;decide) ?_;unfold jA at hm
 refine aL (dR (v:=zA #[str a.B,i64 a.Next.Definition,i64 a.Next.Part,zS a8 a.Next.Values.length c9]) (vs:=g) hs rfl rfl (fun y d2 b=>(aG (aP (dF (C:=fun w'=>aO G K (box y 92 g::bI 92 Kf a5 c6 d::nG c m::box b1 151 x::L) w') cC (by kernel_rfl) (aO.mono b (dY.drew _)) (aZ (fun _ b=>bC (t':=0) aIE rfl rfl) (aZ (fun _ b=>bP fJ b (i:=0) rfl rfl rfl) ?_)))))));obtain ⟨d3,a6,hm⟩:=aC hm
 refine aZ (fun _ b=>aCd rfl rfl a6) (aZ (fun _ b=>bC (t':=1) aHb rfl rfl) (aZ (fun _ b=>eQ (us:=[i64 a.Next.Definition,i64 a.Next.Part,zS a8 a.Next.Values.length c9]) aDW b (i:=0) rfl rfl rfl rfl) ?_));obtain ⟨a7,a9,hm⟩:=aC hm
 refine fH (vs:=[zA #[i64 a.Next.Definition,i64 a.Next.Part,zS a8 a.Next.Values.length c9]]) (v:=str a7) call55 rfl (fun _ b=>(aFW a9 b hG (q.mono a4))) ?_;obtain ⟨j,b0,hm⟩:=aC hm
 refine aZ (fun _ b=>aCd rfl rfl b0) (aZ (fun _ b=>gI (v:=str j) rfl) (dL (fun d4 n=>(aB (aL (aI (v:=zP (some ⟨b1,0,none⟩)) (aA (lG rfl) (aA (bC (t':=2) aPo rfl rfl) (aA (bP sc_149 n (i:=3) rfl rfl rfl) (aI (v:=str j) (aA (R_look1 (kv:=m) (k:=j) (z:=(false:Bool)) runUnderlying149 ko_9 zeroValue4 n (i:=2) rfl rfl rfl) (aA (dB rfl) (aG ?_)))))))))))))
 rcases aH hm with ⟨J,hm⟩|⟨J,hm⟩
 ·refine aN J rfl (aL (aI (v:=zP (some ⟨b1,0,none⟩)) (aA (lG rfl) (aA (bC (t':=2) aPo rfl rfl) (aA (bP sc_149 n (i:=3) rfl rfl rfl) (aI (v:=str j) ?_))))));obtain ⟨o,b2,hm⟩:=aC hm
  refine aPf (i:=2) (k:=j) (v:=true) runUnderlying149 ko_9 n rfl rfl rfl rfl b2 (fun b3 (b4:aO G K (box y 92 g::bI 92 Kf a5 c6 d::nG c o::box b1 151 x::L) b3)=>(aG ?_));obtain ⟨d5,d6,b5,b6,d7⟩:=aO.lendBp b4 .head
  obtain ⟨p,b7,b8,V,b9⟩:=aO.lendBp b6 zt2
  refine jN (C:=fun w'=>∃ L',aO G p L' w') [(0,0),(1,0),(2,0),(3,0),(4,0),(5,1),(6,1),(7,1),(8,2),(9,2),(10,2)] cC (by kernel_rfl) (fun _ hg=>⟨_,aO.mono V hg⟩) (fun d8 c0=>?_)
  have l:=aO.mono V c0
  refine dZ rfl (fun _ _=>bM (v:=zP (some ⟨b1,0,none⟩)) rfl) (dZ rfl (fun _ _=>bM (v:=zP (some ⟨b1,0,none⟩)) rfl) (dZ rfl (fun _ _=>lG rfl) (dZ rfl (fun _ _=>bC (t':=1) aII rfl rfl) (dZ rfl (fun _ ⟨_,l⟩=>bZ (t:=1) sc_86 l b8 rfl rfl) (qW rfl (aA (eP (t:=0) (vs:=g) ag_92 l (b5.mono b7) rfl rfl rfl) (cG (aB ⟨⟨_,l⟩,?_⟩))))))))
  refine qW rfl (gA (Kt:=Kf) (xs:=([a]:List dK)) (cs:=g) (vs:=[(0,zA #[str a.B,i64 a.Next.Definition,i64 a.Next.Part,zS a8 a.Next.Values.length c9])]) aBv aPq rfl rfl l rfl (by kernel_rfl) rfl rfl rfl ⟨⟨a8,c9,rfl,q⟩,trivial⟩ (fun c1 c2 (Z:aO G p (bI 92 Kf c1 1 ([a]:List dK)::bI 92 Kf a5 c6 d::nG c o::L) c2)=>(cG (aB ⟨⟨_,Z⟩,?_⟩))))
  refine qW rfl ?_;obtain ⟨c4,c5,hm⟩:=aC hm
  refine aGX (i:=0) Kf aBv underlying86 aPq rfl rfl Z rfl (zR _) (zR _) c5 rfl rfl rfl rfl (fun _ _ _ h=>El.one h) (fun c7 c8 d0 (a0:aO G p (bI 92 Kf c7 c8 c4::nG c o::L) d0)=>(cG (aB ⟨⟨_,a0⟩,?_⟩)))
  have d9:=b9 _ _ a0
  exact cA
 ·exact cA
theorem aEs {rec_:(List Definition)->(List dK)->(List (bL × Bool))->Int->Int->(List Int)->Option ((List dK) × (List (bL × Bool)))} (ih:∀ {G:qG} {K:Hp} {L:List iZ} {w:World} {Kf:Hp} {b1:Nat} {g:(List Definition)} {a2:Option Addr} {c3:Nat} {n:(List dK)} {a5:Option Addr} {c6:Nat} {d:(List (bL × Bool))} {c:Nat} {k:Int} {part:Int} {e:(List Int)} {a8:Option Addr} {c9:Nat} {R:((List dK) × (List (bL × Bool)))} (hm:rec_ g n d k part e=some R) (hs:aO G K (bI 92 Kf a5 c6 n::nG c d::box b1 151 [zS a2 g.length c3,zS a5 n.length c6,zM (some c)]::L) w) (hG:G.lo=0) (b5:Hp.le Kf K) (h4:cI K a2 c3 g) (a1:cI K a8 c9 e),
  Calls prog 95 ([zP (some ⟨b1,0,none⟩),i64 k,i64 part,zS a8 e.length c9]:List Value).toArray w (eX fun v w'=>∃ K' c2 c4,v=zT #[]/\Hp.le K K'/\aO G K' (bI 92 K' c2 c4 R.1::nG c R.2::box b1 151 [zS a2 g.length c3,zS c2 R.1.length c4,zM (some c)]::L) w'))
  {G:qG} {K:Hp} {L:List iZ} {w:World} {Kf:Hp} {b1:Nat} {g:(List Definition)} {a2:Option Addr} {c3:Nat} {n:(List dK)} {a5:Option Addr} {c6:Nat} {d:(List (bL × Bool))} {c:Nat} {k:Int} {part:Int} {e:(List Int)} {a8:Option Addr} {c9:Nat} {R:((List dK) × (List (bL × Bool)))} (hm:dO rec_ g n d k part e=some R) (hs:aO G K (bI 92 Kf a5 c6 n::nG c d::box b1 151 [zS a2 g.length c3,zS a5 n.length c6,zM (some c)]::L) w) (hG:G.lo=0) (b5:Hp.le Kf K) (h4:cI K a2 c3 g) (a1:cI K a8 c9 e):
  Calls prog 95 ([zP (some ⟨b1,0,none⟩),i64 k,i64 part,zS a8 e.length c9]:List Value).toArray w (eX fun v w'=>∃ K' c2 c4,v=zT #[]/\Hp.le K K'/\aO G K' (bI 92 K' c2 c4 R.1::nG c R.2::box b1 151 [zS a2 g.length c3,zS c2 R.1.length c4,zM (some c)]::L) w'):=by
 let o:=[zS a2 g.length c3,zS a5 n.length c6,zM (some c)]
 let g4:=[zP (some ⟨b1,0,none⟩),i64 k,i64 (wr (part+1)),zS a8 e.length c9]
 let b8:=bI 92 K a5 c6 n
 let c1:=bI 92 Kf a5 c6 n
 refine aT func95 rfl (by kernel_rfl) (by show (4:Nat)<=118;decide) ?_;unfold dO at hm
 refine aL (aI (v:=zP (some ⟨b1,0,none⟩)) (aA (lG rfl) (aA (bC (t':=0) aRy rfl rfl) (aA (bP aGo hs (i:=2) rfl rfl rfl) (aI (v:=i64 k) ?_)))));obtain ⟨b,g5,hm⟩:=aC hm
 refine aA (cQ jV rfl h4 rfl rfl rfl g5) ?_;obtain ⟨r2,j0,j1⟩:=cI.el (sz:=3) rfl h4 g5
 obtain ⟨j,l,rfl,c5⟩:=j1
 refine aA (eP (t:=0) (vs:=[str b.Name,i64 b.Parameters,zS j b.Body.length l]) aCc hs j0 rfl rfl rfl) (dA (vs:=[str ([]:bL),i64 0,zS none 0 0]) zeroValue100 hs rfl (fun y r3 j2=>(cT (i:=0) (ns:=[str b.Name,i64 b.Parameters,zS j b.Body.length l]) (us:=[str b.Name,i64 b.Parameters,zS j b.Body.length l]) sizeOf100 j2 rfl rfl rfl rfl rfl (eM rfl) rfl rfl (fun j3 (e2:aO G K (box y 100 [str b.Name,i64 b.Parameters,zS j b.Body.length l]::c1::nG c d::box b1 151 o::L) j3)=>(aG (aL (aA (bC (t':=2) jQ rfl rfl) (aA (bP yM e2 (i:=0) rfl rfl rfl) (aI (v:=i64 part) ?_)))))))))
 obtain ⟨a,g6,hm⟩:=aC hm
 refine aA (cQ lH rfl c5 rfl rfl rfl g6) ?_;obtain ⟨r4,j4,j5⟩:=cI.el (sz:=4) rfl c5 g6
 obtain ⟨p,q,rfl,e3⟩:=j5
 refine aA (eP (t:=0) (vs:=[i64 a.Kind,i64 a.Number,str a.Name,zS p a.Arguments.length q]) xG e2 j4 rfl rfl rfl) (dA (vs:=[i64 0,i64 0,str ([]:bL),zS none 0 0]) zeroValue157 e2 rfl (fun z r5 j6=>(cT (i:=0) (ns:=[i64 a.Kind,i64 a.Number,str a.Name,zS p a.Arguments.length q]) (us:=[i64 a.Kind,i64 a.Number,str a.Name,zS p a.Arguments.length q]) sizeOf157 j6 rfl rfl rfl rfl rfl (eM rfl) rfl rfl (fun c7 (V:aO G K (box z 157 [i64 a.Kind,i64 a.Number,str a.Name,zS p a.Arguments.length q]::box y 100 [str b.Name,i64 b.Parameters,zS j b.Body.length l]::c1::nG c d::box b1 151 o::L) c7)=>(aG (aL (aA (bC (t':=0) fA rfl rfl) (aA (bP dC V (i:=0) rfl rfl rfl) (aG (bR [] (fun f w=>∃ e4 e5 g7 g8 g9,Hp.le K e4/\hQ e5 g7=some R/\aO G e4 (bI 92 e4 g8 g9 e5::nG c g7::box b1 151 [zS a2 g.length c3,zS g8 e5.length g9,zM (some c)]::L) w) cA (aL (aA (cP rfl rfl) (aD (v:=zB (a.Kind == 1)) (aG ?_))))))))))))))
 rcases aH hm with ⟨e6,hm⟩|⟨e6,hm⟩
 ·refine aN e6 rfl (aP ?_);obtain ⟨j7,e7,h0,h1,j8⟩:=aO.lendBp V .head
  refine jN (C:=fun w'=>∃ L',aO G j7 L' w') [(0,0),(1,0),(2,0),(3,0),(4,0),(5,1),(6,1),(7,0),(8,0),(9,0),(10,0),(11,0)] cC (by kernel_rfl) (fun _ hg=>⟨_,aO.mono h1 hg⟩) (fun r6 j9=>?_)
  have c8:=aO.mono h1 j9
  refine dZ rfl (fun _ _=>bC (t':=2) lI rfl rfl) (dZ rfl (fun _ ⟨_,c8⟩=>bZ (t:=2) fJ c8 h0 rfl rfl) (dZ rfl (fun _ _=>bC (t':=3) jP rfl rfl) (dZ rfl (fun _ ⟨_,c8⟩=>bZ (t:=3) qI c8 h0 rfl rfl) (dZ rfl (fun _ _=>bM (v:=zS a8 e.length c9) rfl) (qW rfl ?_)))));obtain ⟨e8,k0,hm⟩:=aC hm
  refine aV (vs:=[zS p a.Arguments.length q,zS a8 e.length c9]) call134 rfl (aDB k0 c8 (e3.mono e7) (a1.mono e7)) ?_
  rintro _ r8 ⟨e9,f0,rfl,h2⟩
  refine cG (aB ⟨⟨_,h2⟩,?_⟩)
  refine qW rfl ?_;obtain ⟨r9,s0,k1,k2,k3⟩:=aO.lendSp h2 e7 .head
  obtain ⟨a3,k4,hm⟩:=aC hm
  refine aV (vs:=[str a.Name,zS e9 e8.length f0]) call133 rfl (aGE k4 k2 hG k1) ?_
  rintro _ s1 ⟨rfl,k5⟩
  have h3:=k3 _ _ k5
  refine cG (aB ⟨⟨_,h3⟩,?_⟩)
  refine dZ rfl (fun _ _=>bM (v:=zT #[str a3.1,zB a3.2]) rfl) (dZ rfl (fun _ _=>dJ rfl rfl) (dZ rfl (fun _ _=>dJ rfl rfl) (dZ rfl (fun _ _=>gI (v:=str a3.1) rfl) (dZ rfl (fun _ _=>gI (v:=zB a3.2) rfl) (sK ?_)))))
  have k6:=j8 _ _ h3
  refine aB (aL (aI (v:=i64 k) (aI (v:=i64 part) (aA (cH rfl rfl) (aI (v:=zS a8 e.length c9) ?_)))));obtain ⟨a4,k7,hm⟩:=aC hm
  refine aV (vs:=[zS a8 e.length c9]) call92 rfl (jM k7 k6 a1) ?_
  rintro _ s2 ⟨a6,a7,rfl,k8⟩
  refine aA (iJ (vs:=[(0,i64 k),(1,i64 (wr (part+1))),(2,zS a6 a4.length a7)]) (cs:=[i64 k,i64 (wr (part+1)),zS a6 a4.length a7]) aNF rfl (by kernel_rfl)) (dA (vs:=[i64 0,i64 0,zS none 0 0]) zeroValue83 k8 rfl (fun d0 s3 k9=>(cT (i:=0) (ns:=[i64 k,i64 (wr (part+1)),zS a6 a4.length a7]) (us:=[i64 k,i64 (wr (part+1)),zS a6 a4.length a7]) sizeOf83 k9 rfl rfl rfl rfl rfl (eM rfl) rfl rfl (fun l0 (f1:aO G K (box d0 83 [i64 k,i64 (wr (part+1)),zS a6 a4.length a7]::bI 2 K a6 a7 a4::box z 157 [i64 a.Kind,i64 a.Number,str a.Name,zS p a.Arguments.length q]::bI 2 K e9 f0 e8::box y 100 [str b.Name,i64 b.Parameters,zS j b.Body.length l]::c1::nG c d::box b1 151 o::L) l0)=>(aG (yI [0,10,12] (fun f w=>∃ a9 b0 Z b2 b3,oE g n d a3 a9 b0 Z=some R/\aO G K (bI 2 K b2 b3 Z::box d0 83 [i64 a9,i64 b0,zS b2 Z.length b3]::c1::nG c d::box b1 151 o::L) w) ?_ ?_))))))
  ·rintro f h5 ⟨a9,b0,Z,b2,b3,hm,h6⟩
   unfold oE at hm
   refine aW (aI (v:=zP (some ⟨b1,0,none⟩)) (aI (v:=str a3.1) (aA (eQ (us:=[i64 a9,i64 b0,zS b2 Z.length b3]) aDW h6 (i:=1) rfl rfl rfl rfl) (aA (iJ (vs:=[(0,str a3.1),(1,zA #[i64 a9,i64 b0,zS b2 Z.length b3])]) (cs:=[str a3.1,i64 a9,i64 b0,zS b2 Z.length b3]) bs_92 rfl (by kernel_rfl)) ?_))));obtain ⟨f2,l1,s4,f3⟩:=aO.giveSp h6 (zR _) .head
   replace f3:aO G f2 (box d0 83 [i64 a9,i64 b0,zS b2 Z.length b3]::c1::nG c d::box b1 151 o::L) h5:=f3
   have s5:aO G f2 (box d0 83 [i64 a9,i64 b0,zS b2 Z.length b3]::bI 92 f2 a5 c6 n::nG c d::box b1 151 o::L) h5:=aO.weak (i:=1) f3 rfl (fun _ h=>bI.mono (zL b5 l1) h)
   exact cA
  refine aL (aA (bC (t':=2) jQ rfl rfl) (aA (bP yM f1 (i:=4) rfl rfl rfl) (aI (v:=i64 part) (aA (cH rfl rfl) ?_))));obtain ⟨m,h7,hm⟩:=aC hm
  refine aA (cQ lH rfl c5 rfl rfl rfl h7) ?_;obtain ⟨s6,l2,l3⟩:=cI.el (sz:=4) rfl c5 h7
  obtain ⟨d5,d6,rfl,s7⟩:=l3
  refine aA (eP (t:=0) (vs:=[i64 m.Kind,i64 m.Number,str m.Name,zS d5 m.Arguments.length d6]) xG f1 l2 rfl rfl rfl) (dA (vs:=[i64 0,i64 0,str ([]:bL),zS none 0 0]) zeroValue157 f1 rfl (fun l4 s8 l5=>(cT (i:=0) (ns:=[i64 m.Kind,i64 m.Number,str m.Name,zS d5 m.Arguments.length d6]) (us:=[i64 m.Kind,i64 m.Number,str m.Name,zS d5 m.Arguments.length d6]) sizeOf157 l5 rfl rfl rfl rfl rfl (eM rfl) rfl rfl (fun l6 (h8:aO G K (box l4 157 [i64 m.Kind,i64 m.Number,str m.Name,zS d5 m.Arguments.length d6]::box d0 83 [i64 k,i64 (wr (part+1)),zS a6 a4.length a7]::bI 2 K a6 a7 a4::box z 157 [i64 a.Kind,i64 a.Number,str a.Name,zS p a.Arguments.length q]::bI 2 K e9 f0 e8::box y 100 [str b.Name,i64 b.Parameters,zS j b.Body.length l]::c1::nG c d::box b1 151 o::L) l6)=>(aG (aL (aA (bC (t':=0) fA rfl rfl) (aA (bP dC h8 (i:=0) rfl rfl rfl) (aA (cP rfl rfl) (aG ?_))))))))))
  rcases aH hm with ⟨h9,hm⟩|⟨h9,hm⟩
  ·refine aN h9 rfl ?_;obtain ⟨l7,s9,t0,i0,t1⟩:=aO.lendBp h8 .head
   refine jN (C:=fun w'=>∃ L',aO G l7 L' w') [(0,0),(1,0),(2,0),(3,0),(4,0),(5,1),(6,0),(7,2)] cC (by kernel_rfl) (fun _ hg=>⟨_,aO.mono i0 hg⟩) (fun t2 l8=>?_)
   have t3:=aO.mono i0 l8
   exact cA
  ·exact cA
 ·refine aJ e6 rfl (aL (aA (cP rfl rfl) (aD (v:=zB (a.Kind == 2)) (aG ?_))))
  rcases aH hm with ⟨f4,hm⟩|⟨f4,hm⟩
  ·refine aN f4 rfl (aL (aI (v:=zP (some ⟨b1,0,none⟩)) (aI (v:=i64 k) (aI (v:=i64 part) (aA (cH rfl rfl) (aI (v:=zS a8 e.length c9) ?_))))))
   have l9:aO G K (box z 157 [i64 a.Kind,i64 a.Number,str a.Name,zS p a.Arguments.length q]::box y 100 [str b.Name,i64 b.Parameters,zS j b.Body.length l]::b8::nG c d::box b1 151 o::L) c7:=aO.weak (i:=2) V rfl (fun _ h=>bI.mono b5 h)
   have m0:aO G K (b8::nG c d::box b1 151 o::box z 157 [i64 a.Kind,i64 a.Number,str a.Name,zS p a.Arguments.length q]::box y 100 [str b.Name,i64 b.Parameters,zS j b.Body.length l]::L) c7:=(aO.arr 5 [2,3,4,0,1] l9 rfl)
   obtain ⟨t4,m1,hm⟩:=aC hm
   refine aV (vs:=g4) call95 rfl (ih (Kf:=K) m1 m0 hG (zR _) h4 a1) ?_
   rintro _ t5 ⟨m2,t6,t7,rfl,d7,i1⟩
   refine aG (aW (aI (v:=zP (some ⟨b1,0,none⟩)) (aI (v:=i64 k) (aA (eQ (us:=[str b.Name,i64 b.Parameters,zS j b.Body.length l]) aCc i1 (i:=4) rfl rfl rfl rfl) (aI (v:=i64 part) (aA (cH rfl rfl) ?_))))));obtain ⟨m3,m4,hm⟩:=aC hm
   refine aV (vs:=[zA #[str b.Name,i64 b.Parameters,zS j b.Body.length l],i64 (wr (part+1))]) call136 rfl (aAH m4 i1 (c5.mono d7)) ?_
   rintro _ t8 ⟨rfl,m5⟩
   refine aI (v:=zS a8 e.length c9) ?_;obtain ⟨i2,m6,hm⟩:=aC hm
   refine aV (vs:=[zP (some ⟨b1,0,none⟩),i64 k,i64 m3,zS a8 e.length c9]) call95 rfl (ih (Kf:=m2) m6 m5 hG (zR _) (h4.mono d7) (a1.mono d7)) ?_
   rintro _ t9 ⟨m7,m8,m9,rfl,n0,n1⟩
   exact cG (bN (aB ⟨aU,m7,i2.1,i2.2,m8,m9,(zL d7 n0),hm,(aO.arr 5 [0,1,2] n1 rfl)⟩))
  ·refine aJ f4 rfl (aL (aA (cP rfl rfl) (aD (v:=zB (a.Kind == 3)) (aG ?_))))
   rcases aH hm with ⟨f5,hm⟩|⟨f5,hm⟩
   ·refine aN f5 rfl (aL (aA (bC (t':=3) jP rfl rfl) (aA (bP qI V (i:=0) rfl rfl rfl) ?_)));obtain ⟨n2,i3,hm⟩:=aC hm
    refine aA (cQ lJ rfl e3 rfl rfl rfl i3) ?_;obtain ⟨u0,n3,n4⟩:=cI.el (sz:=1) rfl e3 i3
    obtain ⟨n5,n6,rfl,n7⟩:=n4
    refine aA (bZ (t:=0) aFk V n3 rfl rfl) (aI (v:=zS a8 e.length c9) ?_);obtain ⟨u1,n8,hm⟩:=aC hm
    refine aV (vs:=[zS n5 n2.length n6,zS a8 e.length c9]) call137 rfl (aFX n8 V n7 a1) ?_
    rintro _ f6 ⟨rfl,i4⟩
    refine aA (gO rfl rfl) (aG ?_)
    rcases aH hm with ⟨f7,hm⟩|⟨f7,hm⟩
    ·refine aN f7 rfl (aW (aI (v:=zP (some ⟨b1,0,none⟩)) (aI (v:=i64 k) (aI (v:=i64 part) (aA (cH rfl rfl) (aI (v:=zS a8 e.length c9) ?_))))))
     have n9:aO G K (box z 157 [i64 a.Kind,i64 a.Number,str a.Name,zS p a.Arguments.length q]::box y 100 [str b.Name,i64 b.Parameters,zS j b.Body.length l]::b8::nG c d::box b1 151 o::L) f6:=aO.weak (i:=2) i4 rfl (fun _ h=>bI.mono b5 h)
     have o0:aO G K (b8::nG c d::box b1 151 o::box z 157 [i64 a.Kind,i64 a.Number,str a.Name,zS p a.Arguments.length q]::box y 100 [str b.Name,i64 b.Parameters,zS j b.Body.length l]::L) f6:=(aO.arr 5 [2,3,4,0,1] n9 rfl)
     obtain ⟨i5,o1,hm⟩:=aC hm
     refine aV (vs:=g4) call95 rfl (ih (Kf:=K) o1 o0 hG (zR _) h4 a1) ?_
     rintro _ u2 ⟨o2,o3,o4,rfl,o5,o6⟩
     exact cG (bN (aB ⟨aU,o2,i5.1,i5.2,o3,o4,o5,hm,(aO.arr 5 [0,1,2] o6 rfl)⟩))
    ·refine aJ f7 rfl ?_
     have o7:aO G K (box z 157 [i64 a.Kind,i64 a.Number,str a.Name,zS p a.Arguments.length q]::box y 100 [str b.Name,i64 b.Parameters,zS j b.Body.length l]::b8::nG c d::box b1 151 o::L) f6:=aO.weak (i:=2) i4 rfl (fun _ h=>bI.mono b5 h)
     exact aX (bN (aB ⟨aU,K,n,d,a5,c6,(zR _),hm,(aO.arr 2 [] o7 rfl)⟩))
   ·refine aJ f5 rfl (aL (aA (cP rfl rfl) (aD (v:=zB (a.Kind == 4)) (aG ?_))))
    rcases aH hm with ⟨f8,hm⟩|⟨f8,hm⟩
    ·refine aN f8 rfl (aL (aA (bC (t':=1) jO rfl rfl) (aA (bP dC V (i:=0) rfl rfl rfl) (aA (cH rfl rfl) (aI (v:=i64 0) (aG (bR [] (fun f w=>∃ d1 d2 d8 d9 e0,Hp.le K d1/\oF d2 d8=some R/\aO G d1 (bI 92 d1 d9 e0 d2::nG c d8::box b1 151 [zS a2 g.length c3,zS d9 d2.length e0,zM (some c)]::L) w) ?_ ?_)))))))
     ·rintro f u3 ⟨d1,d2,d8,d9,e0,o8,hm,o9⟩
      unfold oF at hm
      exact bN (aB ⟨aU,d1,d2,d8,d9,e0,o8,hm,o9⟩)
     have p0:aO G K (box z 157 [i64 a.Kind,i64 a.Number,str a.Name,zS p a.Arguments.length q]::box y 100 [str b.Name,i64 b.Parameters,zS j b.Body.length l]::b8::nG c d::box b1 151 o::L) c7:=aO.weak (i:=2) V rfl (fun _ h=>bI.mono b5 h)
     obtain ⟨u4,p1,ho⟩:=aC hm
     refine mT [0,1,2,3,103] p1 (fun r b4 a0 f w=>∃ J u x,Hp.le K J/\f 104=i64 a0/\aO G J (bI 92 J u x r::nG c b4::box b1 151 [zS a2 g.length c3,zS u r.length x,zM (some c)]::L) w) ?_ ?_
     ·exact ⟨K,a5,c6,(zR _),rfl,(aO.arr 2 [] p0 rfl)⟩
     ·rintro r b4 a0 u5 f u6 hm hr ⟨J,u,x,b9,f9,i6⟩
      unfold gJ at hm
      refine aL (aA (cL f9 rfl) (aG (aP ?_)))
      rcases aH hm with ⟨g0,hm⟩|⟨g0,hm⟩
      ·refine aN g0 rfl (aX (aB (aP (bY (aL (bJ f9 (aD (v:=i64 a0) (aG (aW (aI (v:=zP (some ⟨b1,0,none⟩)) (aI (v:=i64 k) (aI (v:=i64 part) (aA (cH rfl rfl) (aI (v:=zS a8 e.length c9) ?_))))))))))))));obtain ⟨p2,p3,hm⟩:=aC hm
       refine aV (vs:=[zS a8 e.length c9]) call92 rfl (jM p3 i6 (a1.mono b9)) ?_
       rintro _ u7 ⟨p4,p5,rfl,p6⟩
       refine aI (v:=i64 a0) (gA (Kt:=K) (xs:=([a0]:List Int)) (cs:=[i64 a0]) (vs:=[(0,i64 a0)]) gD aEA rfl rfl p6 rfl (by kernel_rfl) rfl rfl rfl ⟨rfl,trivial⟩ (fun p7 p8 (p9:aO G J (bI 2 K p7 1 ([a0]:List Int)::bI 2 K p4 p5 p2::bI 92 J u x r::nG c b4::box b1 151 [zS a2 g.length c3,zS u r.length x,zM (some c)]::L) p8)=>?_));obtain ⟨i7,q0,hm⟩:=aC hm
       refine lB (i:=0) gD underlying75 aEA rfl rfl p9 rfl b9 b9 q0 rfl rfl rfl rfl (fun _ h=>h) (fun i8 i9 g1 (q1:aO G J (bI 2 K i8 i9 i7::bI 92 J u x r::nG c b4::box b1 151 [zS a2 g.length c3,zS u r.length x,zM (some c)]::L) g1)=>?_);obtain ⟨e1,g2,q2,g3⟩:=aO.giveSp q1 b9 .head
       replace g3:aO G e1 (bI 92 J u x r::nG c b4::box b1 151 [zS a2 g.length c3,zS u r.length x,zM (some c)]::L) g1:=g3
       have q3:aO G e1 (bI 92 e1 u x r::nG c b4::box b1 151 [zS a2 g.length c3,zS u r.length x,zM (some c)]::L) g1:=aO.weak (i:=0) g3 rfl (fun _ h=>bI.mono g2 h)
       obtain ⟨u8,q4,hm⟩:=aC hm
       refine aV (vs:=[zP (some ⟨b1,0,none⟩),i64 k,i64 (wr (part+1)),zS i8 i7.length i9]) call95 rfl (ih (Kf:=e1) q4 q3 hG (zR _) (h4.mono (zL b9 g2)) q2) ?_
       rintro _ u9 ⟨q5,q6,q7,rfl,q8,q9⟩
       exact cG (bN (aB (aW (aA (cH f9 rfl) (aI (v:=i64 (wr (a0+1))) (aG ⟨_,(zI hm).symm,aU,q5,q6,q7,(zL (zL b9 g2) q8),rfl,q9⟩))))))
      ·refine aJ g0 rfl (cK (bF (bF ?_)))
       have r0:=hr _ (zI hm).symm
       subst r0
       have hm:(oF r b4)=some R:=ho
       clear hr ho
       exact bV (aB ⟨aU,J,r,b4,u,x,b9,hm,i6⟩)
    ·refine aJ f8 rfl ?_
     have r1:aO G K (box z 157 [i64 a.Kind,i64 a.Number,str a.Name,zS p a.Arguments.length q]::box y 100 [str b.Name,i64 b.Parameters,zS j b.Body.length l]::b8::nG c d::box b1 151 o::L) c7:=aO.weak (i:=2) V rfl (fun _ h=>bI.mono b5 h)
     exact aX (bN (aB ⟨aU,K,n,d,a5,c6,(zR _),hm,(aO.arr 2 [] r1 rfl)⟩))
theorem aEt (n:Nat):∀ {G:qG} {K:Hp} {L:List iZ} {w:World} {Kf:Hp} {b1:Nat} {a:(List Definition)} {a2:Option Addr} {c3:Nat} {c:(List dK)} {a5:Option Addr} {c6:Nat} {l:(List (bL × Bool))} {b:Nat} {k:Int} {part:Int} {d:(List Int)} {a8:Option Addr} {c9:Nat} {R:((List dK) × (List (bL × Bool)))} (hm:cE n a c l k part d=some R) (e:aO G K (bI 92 Kf a5 c6 c::nG b l::box b1 151 [zS a2 a.length c3,zS a5 c.length c6,zM (some b)]::L) w) (g:G.lo=0) (h:Hp.le Kf K) (i:cI K a2 c3 a) (j:cI K a8 c9 d),
  Calls prog 95 ([zP (some ⟨b1,0,none⟩),i64 k,i64 part,zS a8 d.length c9]:List Value).toArray w (eX fun v w'=>∃ m o p,v=zT #[]/\Hp.le K m/\aO G m (bI 92 m o p R.1::nG b R.2::box b1 151 [zS a2 a.length c3,zS o R.1.length p,zM (some b)]::L) w'):=by
 induction n with
 |zero=>
  intro G K L w Kf b1 a a2 c3 c a5 c6 l b k part d a8 c9 R hm e g h i j
  unfold cE at hm
  cases hm
 |succ n ih=>
  intro G K L w Kf b1 a a2 c3 c a5 c6 l b k part d a8 c9 R hm e g h i j
  exact aEs (rec_:=cE n) (fun hm e g h i j=>ih hm e g h i j) hm e g h i j
theorem aFF {x0_:(List Definition)} {x1_:(List dK)} {x2_M:(List (bL × Bool))} {r7:Nat} {k part:Int} {values:(List Int)} {R:((List dK) × (List (bL × Bool)))} (hm:aAn x0_ x1_ x2_M k part values=some R) (hs:aO G K (bI 92 Kf a5 c6 x1_::nG r7 x2_M::box b1 151 [zS a2 x0_.length c3,zS a5 x1_.length c6,zM (some r7)]::L) w) (hG:G.lo=0) (hKf:Hp.le Kf K) (h4:cI K a2 c3 x0_) (h10:cI K a8 c9 values):
  Calls prog 95 ([zP (some ⟨b1,0,none⟩),i64 k,i64 part,zS a8 values.length c9]:List Value).toArray w (eX fun v w'=>∃ K' ra1 rc1,v=zT #[]/\Hp.le K K'/\aO G K' (bI 92 K' ra1 rc1 R.1::nG r7 R.2::box b1 151 [zS a2 x0_.length c3,zS ra1 R.1.length rc1,zM (some r7)]::L) w'):=aEt 100000 hm hs hG hKf h4 h10
theorem aOA {a:(List Definition)} {p:bO} {R:((List dK) × Bool)} (hm:aFy a p=some R) (k:aO G K (L) w) (q:G.lo=0) (r:cI K a1 c2 a) (t:cI K a4 c5 p.Values):
  Calls prog 57 ([zS a1 a.length c2,zA #[i64 p.Definition,i64 p.Part,zS a4 p.Values.length c5]]:List Value).toArray w (eX fun v w'=>∃ d e g,v=zT #[zS e R.1.length g,zB R.2]/\Hp.le K d/\aO G d (bI 92 d e g R.1::L) w'):=by
 let h:=[i64 p.Definition,i64 p.Part,zS a4 p.Values.length c5]
 refine aT func57 rfl (by kernel_rfl) (by show (2:Nat)<=29;decide) ?_;unfold aFy at hm
 refine aL (dR (v:=zA #[i64 p.Definition,i64 p.Part,zS a4 p.Values.length c5]) (vs:=h) k rfl rfl (fun l u m=>(aD (v:=zS none 0 0) (aD (v:=zB false) (aG (aL (aI (v:=zS a1 a.length c2) (aPe bL Bool m ?_))))))))
 intro b n (o:aO G K (nG b ([]:(List (bL × Bool)))::box l 83 h::L) n)
 refine aA (iJ (vs:=[(0,zS a1 a.length c2),(2,zM (some b))]) (cs:=[zS a1 a.length c2,zS none 0 0,zM (some b)]) bs_151 rfl (by kernel_rfl)) (dR (v:=zA #[zS a1 a.length c2,zS none 0 0,zM (some b)]) (vs:=[zS a1 a.length c2,zS none 0 0,zM (some b)]) o rfl rfl (fun j x c=>(aD (v:=zP (some ⟨j,0,none⟩)) (aG (aL (aI (v:=zP (some ⟨j,0,none⟩)) (aA (bC (t':=0) aIB rfl rfl) (aA (bP dC c (i:=2) rfl rfl rfl) (aA (bC (t':=1) aIC rfl rfl) (aA (bP dC c (i:=2) rfl rfl rfl) (aA (bC (t':=2) aID rfl rfl) (aA (bP aCe c (i:=2) rfl rfl rfl) ?_))))))))))))
 have y:=aO.nil (α:=dK) c 92 K
 exact cA
theorem jG {c:(List bO)} {g:(List (bL × Int))} {d:Nat} {b:(List uT)} {a:bO} {R:(Int × (List bO) × (List (bL × Int)))} (hm:fZ c g b a=some R) (hs:aO G K (bI 83 Kf a2 c3 c::nG d g::bI 143 K a5 c6 b::box b1 140 [zS a2 c.length c3,zM (some d),zS a5 b.length c6,Value.func (.func 55) #[] #[]]::L) w) (hG:G.lo=0) (b4:Hp.le Kf K) (r:cI Kf a7 c8 a.Values):
  Calls prog 87 ([zP (some ⟨b1,0,none⟩),zA #[i64 a.Definition,i64 a.Part,zS a7 a.Values.length c8]]:List Value).toArray w (eX fun v w'=>∃ u x,v=i64 R.1/\aO G K (bI 83 Kf u x R.2.1::nG d R.2.2::bI 143 K a5 c6 b::box b1 140 [zS u R.2.1.length x,zM (some d),zS a5 b.length c6,Value.func (.func 55) #[] #[]]::L) w'):=by
 let j:=[i64 a.Definition,i64 a.Part,zS a7 a.Values.length c8]
 let y:=[zA #[i64 a.Definition,i64 a.Part,zS a7 a.Values.length c8]]
 refine aT func87 rfl (by kernel_rfl) (by show (2:Nat)<=47;decide) ?_;unfold fZ at hm
 refine aL (dR (v:=zA #[i64 a.Definition,i64 a.Part,zS a7 a.Values.length c8]) (vs:=j) hs rfl rfl (fun b5 e6 b6=>(aD (v:=i64 0) (aG (aP ?_)))));obtain ⟨e7,b7,b8,b9,c0⟩:=aO.lendBp b6 .head
 obtain ⟨c1,J,c2,V,c4⟩:=aO.lendBp b9 zt3
 refine jN (C:=fun w'=>∃ L',aO G c1 L' w') [(0,0),(1,0),(2,0),(3,0),(4,0),(5,1),(6,0)] cC (by kernel_rfl) (fun _ hg=>⟨_,aO.mono V hg⟩) (fun e8 c5=>?_)
 have l:=aO.mono V c5
 refine dZ rfl (fun _ _=>bM (v:=zP (some ⟨b1,0,none⟩)) rfl) (dZ rfl (fun _ _=>lG rfl) (dZ rfl (fun _ _=>bC (t':=3) aRz rfl rfl) (dZ rfl (fun _ ⟨_,l⟩=>bZ (t:=3) sc_110 l c2 rfl rfl) (dZ rfl (fun _ ⟨_,l⟩=>eP (t:=0) (vs:=j) aDW l (b8.mono J) rfl rfl rfl) (qW rfl ?_)))));obtain ⟨e,c7,hm⟩:=aC hm
 refine qV (vs:=y) (caps:=[]) (us:=y) rfl call55 rfl rfl (aFW c7 l hG (r.mono (zL (zL b4 b7) J))) ?_
 rintro _ e9 ⟨rfl,Z⟩
 refine cG (aB ⟨⟨_,Z⟩,?_⟩)
 refine dZ rfl (fun _ _=>gI (v:=str e) rfl) (sK ?_)
 have c9:=c4 _ _ Z
 have m:=c0 _ _ c9
 refine aB (aL (aI (v:=zP (some ⟨b1,0,none⟩)) (aA (lG rfl) (aA (bC (t':=1) aPp rfl rfl) (aA (bP sc_137 m (i:=1) rfl rfl rfl) (aI (v:=str e) (aA (R_look (kv:=g) (k:=e) (z:=(0:Int)) runUnderlying137 ko_9 zeroValue2 m (i:=3) rfl rfl rfl) (aI (v:=zT #[i64 ((nR g e).getD 0),zB ((nR g e).isSome)]) (aA (dJ rfl rfl) (aA (dJ rfl rfl) (aD (v:=i64 ((nR g e).getD 0)) (aD (v:=zB ((nR g e).isSome)) (aG (yI [] (fun f w=>∃ a0 o a1 a3 a4,gF a0 o a1=some R/\f 6=i64 a0/\aO G K (bI 83 Kf a3 a4 o::box b1 140 [zS a3 o.length a4,zM (some d),zS a5 b.length c6,Value.func (.func 55) #[] #[]]::nG d a1::bI 143 K a5 c6 b::L) w) cA (aL (aI (v:=zB ((nR g e).isSome)) (aA (dB rfl) (aG ?_))))))))))))))))))
 rcases aH hm with ⟨a6,hm⟩|⟨a6,hm⟩
 ·refine aN a6 rfl (aL (aI (v:=zP (some ⟨b1,0,none⟩)) (aA (lG rfl) (aA (bC (t':=0) aBx rfl rfl) (aA (bP aLz m (i:=1) rfl rfl rfl) (aA (bQ (len:=c.length) rV rfl) (aD (v:=i64 (c.length:Int)) (aG (aL (aI (v:=zP (some ⟨b1,0,none⟩)) (aA (lG rfl) (aA (bC (t':=1) aPp rfl rfl) (aA (bP sc_137 m (i:=1) rfl rfl rfl) (aI (v:=str e) (aI (v:=i64 (c.length:Int)) ?_)))))))))))))));obtain ⟨p,d0,hm⟩:=aC hm
  refine aPf (i:=3) (k:=e) (v:=(c.length:Int)) runUnderlying137 ko_9 m rfl rfl rfl rfl d0 (fun d1 (d2:aO G K (box b5 83 j::box b1 140 [zS a2 c.length c3,zM (some d),zS a5 b.length c6,Value.func (.func 55) #[] #[]]::bI 83 Kf a2 c3 c::nG d p::bI 143 K a5 c6 b::L) d1)=>(aG ?_));obtain ⟨f0,f1,d3,d4,f2⟩:=aO.lendBp d2 .head
  obtain ⟨q,d5,d6,a8,d7⟩:=aO.lendBp d4 .head
  refine jN (C:=fun w'=>∃ L',aO G q L' w') [(0,0),(1,0),(2,0),(3,0),(4,0),(5,1),(6,1),(7,1),(8,2),(9,2),(10,2)] cC (by kernel_rfl) (fun _ hg=>⟨_,aO.mono a8 hg⟩) (fun f3 d8=>?_)
  have n:=aO.mono a8 d8
  refine dZ rfl (fun _ _=>bM (v:=zP (some ⟨b1,0,none⟩)) rfl) (dZ rfl (fun _ _=>bM (v:=zP (some ⟨b1,0,none⟩)) rfl) (dZ rfl (fun _ _=>lG rfl) (dZ rfl (fun _ _=>bC (t':=0) aBx rfl rfl) (dZ rfl (fun _ ⟨_,n⟩=>bZ (t:=0) aLz n d6 rfl rfl) (qW rfl (aA (eP (t:=0) (vs:=j) aDW n (d3.mono d5) rfl rfl rfl) (cG (aB ⟨⟨_,n⟩,?_⟩))))))))
  refine qW rfl (gA (Kt:=Kf) (xs:=([a]:List bO)) (cs:=j) (vs:=[(0,zA #[i64 a.Definition,i64 a.Part,zS a7 a.Values.length c8])]) rV aHK rfl rfl n rfl (by kernel_rfl) rfl rfl rfl ⟨⟨a7,c8,rfl,r⟩,trivial⟩ (fun d9 e0 (a9:aO G q (bI 83 Kf d9 1 ([a]:List bO)::bI 83 Kf a2 c3 c::nG d p::bI 143 K a5 c6 b::L) e0)=>(cG (aB ⟨⟨_,a9⟩,?_⟩))))
  refine qW rfl ?_;obtain ⟨e1,e2,hm⟩:=aC hm
  refine aGX (i:=0) Kf rV underlying84 aHK rfl rfl a9 rfl (zR _) (zR _) e2 rfl rfl rfl rfl (fun _ _ _ h=>El.one h) (fun e3 e4 e5 (b0:aO G q (bI 83 Kf e3 e4 e1::nG d p::bI 143 K a5 c6 b::L) e5)=>(cG (aB ⟨⟨_,b0⟩,?_⟩)))
  have f4:=d7 _ _ b0
  exact cA
 ·exact cA
theorem aAR {d:bL} {g:bO} {b1:(List bO)} {b9:(List (bL × Int))} {b:Nat} {m:(List uT)} {p:Int} {c0:Nat} {R:((List bO) × (List (bL × Int)) × (List uT))} (hm:iX d g b1 b9 m p=some R) (hs:aO G K (bI 83 Kf a6 c7 b1::nG b b9::bI 143 K a9 c10 m::box b5 140 [zS a6 b1.length c7,zM (some b),zS a9 m.length c10,Value.func (.func 55) #[] #[]]::box b4 136 [zP (some ⟨b5,0,none⟩)]::L) w) (hG:G.lo=0) (c3:Hp.le Kf K) (h3:cI Kf a1 c2 g.Values) (e3:iQ K a11 c0 [i64 p]):
  Calls prog 88 ([str d,zA #[i64 g.Definition,i64 g.Part,zS a1 g.Values.length c2],zP (some ⟨b4,0,none⟩),eN a11 c0]:List Value).toArray w (eX fun v w'=>∃ c5 c6 c8 c9,v=zT #[]/\aO G K (bI 83 Kf c5 c6 R.1::nG b R.2.1::bI 143 K c8 c9 R.2.2::box b5 140 [zS c5 R.1.length c6,zM (some b),zS c8 R.2.2.length c9,Value.func (.func 55) #[] #[]]::box b4 136 [zP (some ⟨b5,0,none⟩)]::L) w'):=by
 let d0:=[zP (some ⟨b5,0,none⟩),zA #[i64 g.Definition,i64 g.Part,zS a1 g.Values.length c2]]
 let d1:=[i64 g.Definition,i64 g.Part,zS a1 g.Values.length c2]
 refine aT func88 rfl (by kernel_rfl) (by show (4:Nat)<=21;decide) ?_;unfold iX at hm
 refine aL (dR (v:=zA #[i64 g.Definition,i64 g.Part,zS a1 g.Values.length c2]) (vs:=d1) hs rfl rfl (fun g6 g7 e4=>(aG (cO [] (fun f w=>∃ b2 d2 b3 d3 d4 d5 d6,jI b2 d2 b3=some R/\aO G K (bI 143 K d5 d6 b3::bI 83 Kf d3 d4 b2::nG b d2::box b5 140 [zS d3 b2.length d4,zM (some b),zS d5 b3.length d6,Value.func (.func 55) #[] #[]]::box b4 136 [zP (some ⟨b5,0,none⟩)]::L) w) cA ?_))));obtain ⟨g8,q,e5,e6,g9⟩:=aO.lendBp e4 .head
 obtain ⟨n,o,b6,e7,b7⟩:=aO.lendBp e6 zt4
 refine aJu (C:=fun w'=>∃ L',aO G n L' w') [] cC (by kernel_rfl) (fun h0 e8=>?_)
 have c:=aO.mono e7 e8
 refine sG (i:=0) rfl (by kernel_rfl) ⟨_,c⟩ (fun _ ⟨_,c⟩=>bZ (t:=0) aDg c b6 rfl rfl) (sG (i:=1) rfl (by kernel_rfl) ⟨_,c⟩ (fun _ ⟨_,c⟩=>bZ (t:=0) aDg c b6 rfl rfl) (sG (i:=2) rfl (by kernel_rfl) ⟨_,c⟩ (fun _ _=>lG rfl) (sG (i:=3) rfl (by kernel_rfl) ⟨_,c⟩ (fun _ _=>bC (t':=2) aEB rfl rfl) (sG (i:=5) rfl (by kernel_rfl) ⟨_,c⟩ (fun _ ⟨_,c⟩=>bZ (t:=0) sc_3 c (e3.mono (zL q o)) rfl rfl) (sG (i:=6) rfl (by kernel_rfl) ⟨_,c⟩ (fun _ _=>bM (v:=str d) rfl) (sG (i:=7) rfl (by kernel_rfl) ⟨_,c⟩ (fun _ ⟨_,c⟩=>bZ (t:=0) aDg c b6 rfl rfl) (sG (i:=8) rfl (by kernel_rfl) ⟨_,c⟩ (fun _ ⟨_,c⟩=>eP (t:=0) (vs:=d1) aDW c (e5.mono o) rfl rfl rfl) (aLd (i:=4) (j:=9) (by kernel_rfl) rfl rfl ?_ ?_))))))))
 ·refine aA (bP aLA c (i:=3) rfl rfl rfl) (cG (aB ⟨fun _=>⟨_,c⟩,?_⟩))
  refine lC (i:=9) (by kernel_rfl) rfl ?_;obtain ⟨e,e9,hm⟩:=aC hm
  refine aV (vs:=d0) call87 rfl (jG (Kf:=Kf) e9 c hG (zL (zL c3 q) o) h3) ?_
  rintro _ h1 ⟨r,u,rfl,b8⟩
  refine cG (aB ⟨fun _=>⟨_,b8⟩,?_⟩)
  refine sG (i:=10) rfl (by kernel_rfl) ⟨_,b8⟩ (fun _ _=>iJ (vs:=[(0,i64 p),(1,str d),(2,i64 e.1)]) (cs:=[i64 p,str d,i64 e.1]) bs_143 rfl (by kernel_rfl)) (lC (i:=11) (by kernel_rfl) rfl (gA (Kt:=K) (xs:=([⟨p,d,e.1⟩]:List uT)) (cs:=[i64 p,str d,i64 e.1]) (vs:=[(0,zA #[i64 p,str d,i64 e.1])]) aEp aJA rfl rfl b8 rfl (by kernel_rfl) rfl rfl rfl ⟨rfl,trivial⟩ (fun f0 f1 (d7:aO G n (bI 143 K f0 1 ([⟨p,d,e.1⟩]:List uT)::bI 83 Kf r u e.2.1::nG b e.2.2::bI 143 K a9 c10 m::box b5 140 [zS r e.2.1.length u,zM (some b),zS a9 m.length c10,Value.func (.func 55) #[] #[]]::L) f1)=>(cG (aB ⟨fun _=>⟨_,d7⟩,?_⟩)))))
  refine lC (i:=12) (by kernel_rfl) rfl ?_;obtain ⟨y,f2,hm⟩:=aC hm
  refine lB (i:=2) aEp underlying138 aJA rfl rfl d7 rfl (zL q o) (zL q o) f2 rfl rfl rfl rfl (fun _ h=>h) (fun z J f3 (a5:aO G n (bI 83 Kf r u e.2.1::nG b e.2.2::bI 143 K z J y::box b5 140 [zS r e.2.1.length u,zM (some b),zS a9 m.length c10,Value.func (.func 55) #[] #[]]::L) f3)=>(cG (aB ⟨fun _=>⟨_,a5⟩,?_⟩)))
  refine sG (i:=13) rfl (by kernel_rfl) ⟨_,a5⟩ (fun _ _=>lG rfl) (sG (i:=14) rfl (by kernel_rfl) ⟨_,a5⟩ (fun _ _=>bC (t':=2) aEB rfl rfl) (lC (i:=15) (by kernel_rfl) rfl (cT (i:=3) (ns:=[zS z y.length J]) (us:=[zS r e.2.1.length u,zM (some b),zS z y.length J,Value.func (.func 55) #[] #[]]) sizeOf138 a5 rfl rfl rfl rfl rfl (eM rfl) rfl rfl (fun f4 (d8:aO G n (bI 83 Kf r u e.2.1::nG b e.2.2::bI 143 K z J y::box b5 140 [zS r e.2.1.length u,zM (some b),zS z y.length J,Value.func (.func 55) #[] #[]]::L) f4)=>(cG (aB ⟨fun _=>⟨_,d8⟩,?_⟩))))))
  refine aFi (by kernel_rfl) ?_
  have h2:=b7 _ _ d8
  exact cA
 ·obtain ⟨a,f5,hm⟩:=aC hm
  refine aV (vs:=d0) call87 rfl (jG (Kf:=Kf) f5 c hG (zL (zL c3 q) o) h3) ?_
  rintro _ h4 ⟨k,l,rfl,x⟩
  refine cG (aB ⟨fun _=>⟨_,x⟩,?_⟩)
  refine sG (i:=10) rfl (by kernel_rfl) ⟨_,x⟩ (fun _ _=>iJ (vs:=[(0,i64 p),(1,str d),(2,i64 a.1)]) (cs:=[i64 p,str d,i64 a.1]) bs_143 rfl (by kernel_rfl)) (aLd (i:=4) (j:=11) (by kernel_rfl) rfl rfl ?_ ?_)
  ·refine aA (bP aLA x (i:=3) rfl rfl rfl) (cG (aB ⟨fun _=>⟨_,x⟩,?_⟩))
   refine lC (i:=11) (by kernel_rfl) rfl (gA (Kt:=K) (xs:=([⟨p,d,a.1⟩]:List uT)) (cs:=[i64 p,str d,i64 a.1]) (vs:=[(0,zA #[i64 p,str d,i64 a.1])]) aEp aJA rfl rfl x rfl (by kernel_rfl) rfl rfl rfl ⟨rfl,trivial⟩ (fun f6 f7 (d9:aO G n (bI 143 K f6 1 ([⟨p,d,a.1⟩]:List uT)::bI 83 Kf k l a.2.1::nG b a.2.2::bI 143 K a9 c10 m::box b5 140 [zS k a.2.1.length l,zM (some b),zS a9 m.length c10,Value.func (.func 55) #[] #[]]::L) f7)=>(cG (aB ⟨fun _=>⟨_,d9⟩,?_⟩))))
   refine lC (i:=12) (by kernel_rfl) rfl ?_;obtain ⟨V,f8,hm⟩:=aC hm
   refine lB (i:=2) aEp underlying138 aJA rfl rfl d9 rfl (zL q o) (zL q o) f8 rfl rfl rfl rfl (fun _ h=>h) (fun Z a0 f9 (a7:aO G n (bI 83 Kf k l a.2.1::nG b a.2.2::bI 143 K Z a0 V::box b5 140 [zS k a.2.1.length l,zM (some b),zS a9 m.length c10,Value.func (.func 55) #[] #[]]::L) f9)=>(cG (aB ⟨fun _=>⟨_,a7⟩,?_⟩)))
   refine sG (i:=13) rfl (by kernel_rfl) ⟨_,a7⟩ (fun _ _=>lG rfl) (sG (i:=14) rfl (by kernel_rfl) ⟨_,a7⟩ (fun _ _=>bC (t':=2) aEB rfl rfl) (lC (i:=15) (by kernel_rfl) rfl (cT (i:=3) (ns:=[zS Z V.length a0]) (us:=[zS k a.2.1.length l,zM (some b),zS Z V.length a0,Value.func (.func 55) #[] #[]]) sizeOf138 a7 rfl rfl rfl rfl rfl (eM rfl) rfl rfl (fun g0 (e0:aO G n (bI 83 Kf k l a.2.1::nG b a.2.2::bI 143 K Z a0 V::box b5 140 [zS k a.2.1.length l,zM (some b),zS Z V.length a0,Value.func (.func 55) #[] #[]]::L) g0)=>(cG (aB ⟨fun _=>⟨_,e0⟩,?_⟩))))))
   refine aFi (by kernel_rfl) ?_
   have h5:=b7 _ _ e0
   exact cA
  ·refine gA (Kt:=K) (xs:=([⟨p,d,a.1⟩]:List uT)) (cs:=[i64 p,str d,i64 a.1]) (vs:=[(0,zA #[i64 p,str d,i64 a.1])]) aEp aJA rfl rfl x rfl (by kernel_rfl) rfl rfl rfl ⟨rfl,trivial⟩ (fun g1 g2 (a8:aO G n (bI 143 K g1 1 ([⟨p,d,a.1⟩]:List uT)::bI 83 Kf k l a.2.1::nG b a.2.2::bI 143 K a9 c10 m::box b5 140 [zS k a.2.1.length l,zM (some b),zS a9 m.length c10,Value.func (.func 55) #[] #[]]::L) g2)=>(cG (aB ⟨fun _=>⟨_,a8⟩,?_⟩)))
   refine lC (i:=4) (by kernel_rfl) rfl (aA (bP aLA a8 (i:=4) rfl rfl rfl) (cG (aB ⟨fun _=>⟨_,a8⟩,?_⟩)))
   refine lC (i:=12) (by kernel_rfl) rfl ?_;obtain ⟨a2,g3,hm⟩:=aC hm
   refine lB (i:=2) aEp underlying138 aJA rfl rfl a8 rfl (zL q o) (zL q o) g3 rfl rfl rfl rfl (fun _ h=>h) (fun a3 a4 g4 (b0:aO G n (bI 83 Kf k l a.2.1::nG b a.2.2::bI 143 K a3 a4 a2::box b5 140 [zS k a.2.1.length l,zM (some b),zS a9 m.length c10,Value.func (.func 55) #[] #[]]::L) g4)=>(cG (aB ⟨fun _=>⟨_,b0⟩,?_⟩)))
   refine sG (i:=13) rfl (by kernel_rfl) ⟨_,b0⟩ (fun _ _=>lG rfl) (sG (i:=14) rfl (by kernel_rfl) ⟨_,b0⟩ (fun _ _=>bC (t':=2) aEB rfl rfl) (lC (i:=15) (by kernel_rfl) rfl (cT (i:=3) (ns:=[zS a3 a2.length a4]) (us:=[zS k a.2.1.length l,zM (some b),zS a3 a2.length a4,Value.func (.func 55) #[] #[]]) sizeOf138 b0 rfl rfl rfl rfl rfl (eM rfl) rfl rfl (fun g5 (e1:aO G n (bI 83 Kf k l a.2.1::nG b a.2.2::bI 143 K a3 a4 a2::box b5 140 [zS k a.2.1.length l,zM (some b),zS a3 a2.length a4,Value.func (.func 55) #[] #[]]::L) g5)=>(cG (aB ⟨fun _=>⟨_,e1⟩,?_⟩))))))
   refine aFi (by kernel_rfl) ?_
   have h6:=b7 _ _ e1
   exact cA
theorem aBU {p:bO} {x:(List bO)} {Z:(List (bL × Int))} {c:Nat} {y:(List uT)} {b2:Int} {z:Nat} {d:cW} {a0:Nat} {R:(Bool × (List bO) × (List (bL × Int)) × (List uT))} (hm:gL p x Z y b2 d=some R) (hs:aO G K (bI 83 Kf a6 c7 x::nG c Z::bI 143 K a9 c10 y::box b5 140 [zS a6 x.length c7,zM (some c),zS a9 y.length c10,Value.func (.func 55) #[] #[]]::box b4 136 [zP (some ⟨b5,0,none⟩)]::L) w) (hG:G.lo=0) (d4:Hp.le Kf K) (h3:cI K a1 c2 p.Values) (d6:iQ K a11 z [i64 b2]) (b6:iQ K a14 a0 [zS a17 d.Definitions.length c18,zS a20 d.Components.length c21,zS a23 d.Meetings.length c24,zS a26 d.Allowed.length c27,zS a29 d.Hidden.length c30]) (d7:cI K a17 c18 d.Definitions) (f0:cI K a20 c21 d.Components) (f1:cI K a23 c24 d.Meetings) (f2:cI K a26 c27 d.Allowed) (f3:cI K a29 c30 d.Hidden):
  Calls prog 56 ([zA #[i64 p.Definition,i64 p.Part,zS a1 p.Values.length c2],Value.func (.func 88) #[] #[zP (some ⟨b4,0,none⟩),eN a11 z],eN a14 a0]:List Value).toArray w (eX fun v w'=>∃ K' b7 b8 b9 c0,v=zB R.1/\Hp.le K K'/\aO G K' (bI 83 K' b7 b8 R.2.1::nG c R.2.2.1::bI 143 K b9 c0 R.2.2.2::box b5 140 [zS b7 R.2.1.length b8,zM (some c),zS b9 R.2.2.2.length c0,Value.func (.func 55) #[] #[]]::box b4 136 [zP (some ⟨b5,0,none⟩)]::L) w'):=by
 let a3:=[i64 p.Definition,i64 p.Part,zS a1 p.Values.length c2]
 let J:=[zP (some ⟨b5,0,none⟩)]
 refine aT func56 rfl (by kernel_rfl) (by show (3:Nat)<=31;decide) ?_;unfold gL at hm
 refine aL (dR (v:=zA #[i64 p.Definition,i64 p.Part,zS a1 p.Values.length c2]) (vs:=a3) hs rfl rfl (fun d8 f4 a4=>(aD (v:=zB false) (aG (aL (aA (cM (k':=a0+0) yN rfl b6 rfl) (aA (bZ (t:=0) aGo a4 b6 rfl rfl) (aA (eQ (us:=a3) aDW a4 (i:=0) rfl rfl rfl rfl) ?_))))))));obtain ⟨e,d9,hm⟩:=aC hm
 refine aV (vs:=[zS a17 d.Definitions.length c18,zA #[i64 p.Definition,i64 p.Part,zS a1 p.Values.length c2]]) call57 rfl (aOA d9 a4 hG d7 h3) ?_
 rintro _ e0 ⟨b,k,l,rfl,c1,e1⟩
 refine aI (v:=zT #[zS k e.1.length l,zB e.2]) (aA (dJ rfl rfl) (aA (dJ rfl rfl) (aD (v:=zS k e.1.length l) (aD (v:=zB e.2) (aG (aP (aL (aI (v:=zS k e.1.length l) (aA (bQ (len:=e.1.length) aBv rfl) (aI (v:=i64 0) (aG (bR [7] (fun f w=>∃ a5 c3 a7 c4 c45 c5 c6,gM e a5 c3 a7=some R/\aO G b (bI 143 K c5 c6 a7::bI 83 b c4 c45 a5::nG c c3::box b5 140 [zS c4 a5.length c45,zM (some c),zS c5 a7.length c6,Value.func (.func 55) #[] #[]]::box b4 136 J::L) w) cA ?_))))))))))))
 have f5:aO G b (bI 92 b k l e.1::box d8 83 a3::bI 83 b a6 c7 x::nG c Z::bI 143 K a9 c10 y::box b5 140 [zS a6 x.length c7,zM (some c),zS a9 y.length c10,Value.func (.func 55) #[] #[]]::box b4 136 J::L) e0:=aO.weak (i:=2) e1 rfl (fun _ h=>bI.mono (zL d4 c1) h)
 obtain ⟨f6,e2,ho⟩:=aC hm
 refine aIv [1,7,17,18] e2 (fun m V n c8 f w=>∃ o q r u,f 19=i64 c8/\aO G b (bI 92 b k l e.1::bI 83 b o q m::nG c V::bI 143 K r u n::box b5 140 [zS o m.length q,zM (some c),zS r n.length u,Value.func (.func 55) #[] #[]]::box b4 136 J::L) w) cA ?_
 ·rintro m V n c8 f7 f f8 hm hr ⟨o,q,r,u,c9,a8⟩
  unfold gN at hm
  refine aL (aA (cL c9 rfl) (aG (aP ?_)))
  rcases aH hm with ⟨d0,hm⟩|⟨d0,hm⟩
  ·refine aN d0 rfl (aX (aB (aP (bY (aL ?_)))));obtain ⟨a,b0,hm⟩:=aC hm
   have e3:=fD a8 (i:=0) rfl b0
   refine aA (gQ aBv rfl e3 rfl rfl c9 b0) ?_;obtain ⟨f9,e4,e5⟩:=aOl (sz:=4) rfl a8 (i:=0) rfl b0
   obtain ⟨g,j,rfl,e6⟩:=e5
   refine aA (R_ldCG (t:=0) (vs:=[str a.B,i64 a.Next.Definition,i64 a.Next.Part,zS g a.Next.Values.length j]) ag_92 e4 rfl rfl rfl) (dA (vs:=[str ([]:bL),i64 0,i64 0,zS none 0 0]) zeroValue92 a8 rfl (fun d1 g0 e7=>(cT (i:=0) (ns:=[str a.B,i64 a.Next.Definition,i64 a.Next.Part,zS g a.Next.Values.length j]) (us:=[str a.B,i64 a.Next.Definition,i64 a.Next.Part,zS g a.Next.Values.length j]) sizeOf92 e7 rfl rfl rfl rfl rfl (eM rfl) rfl rfl (fun d2 (b1:aO G b (box d1 92 [str a.B,i64 a.Next.Definition,i64 a.Next.Part,zS g a.Next.Values.length j]::bI 92 b k l e.1::bI 83 b o q m::nG c V::bI 143 K r u n::box b5 140 [zS o m.length q,zM (some c),zS r n.length u,Value.func (.func 55) #[] #[]]::box b4 136 J::L) d2)=>(aG (aW (aI (v:=Value.func (.func 88) #[] #[zP (some ⟨b4,0,none⟩),eN a11 z]) (aA (bC (t':=0) aIE rfl rfl) (aA (bP fJ b1 (i:=0) rfl rfl rfl) (aA (bC (t':=1) aHb rfl rfl) (aA (eQ (us:=[i64 a.Next.Definition,i64 a.Next.Part,zS g a.Next.Values.length j]) aDW b1 (i:=0) rfl rfl rfl rfl) ?_)))))))))))
   have e8:aO G b (bI 83 b o q m::nG c V::bI 143 K r u n::box b5 140 [zS o m.length q,zM (some c),zS r n.length u,Value.func (.func 55) #[] #[]]::box b4 136 J::box d1 92 [str a.B,i64 a.Next.Definition,i64 a.Next.Part,zS g a.Next.Values.length j]::bI 92 b k l e.1::L) d2:=(aO.arr 7 [2,3,4,5,6,0,1] b1 rfl)
   obtain ⟨g1,e9,hm⟩:=aC hm
   exact qV (vs:=[str a.B,zA #[i64 a.Next.Definition,i64 a.Next.Part,zS g a.Next.Values.length j]]) (caps:=[zP (some ⟨b4,0,none⟩),eN a11 z]) (us:=[str a.B,zA #[i64 a.Next.Definition,i64 a.Next.Part,zS g a.Next.Values.length j],zP (some ⟨b4,0,none⟩),eN a11 z]) rfl call88 rfl rfl (aAR (Kf:=b) e9 e8 hG (zR _) e6 (d6.mono c1)) cA
  ·exact cA
end Gv
