/- Walks, printed by program. -/
import Derived.Test.YtpkpcpikpobloaaGreatDoorJWk9
set_option linter.all false
namespace Gv
open Gv.Hp renaming le_refl→zR
open Go.Value renaming slice→zS,bool→zB,agg→zA
open Go Go.Proofs Go.Proofs.Tryz
set_option maxRecDepth 20000
set_option maxHeartbeats 40000000
variable {G:kE} {K:Hp} {L:List eV} {w:World} {a1 a4 a7 a10 a13 a16 a19 a22 a25 a28:Option Addr} {c2 c5 c8 c11 c14 c17 c20 c23 c26 c29:Nat}
theorem lP {b c:(List bD)} {R:Bool} (hm:dC b c=some R) (J:aG G K (L) w) (h:aX K a1 c2 b) (i:aX K a4 c5 c):
  Calls prog 99 ([zS a1 b.length c2,zS a4 c.length c5]:List Value).toArray w (cJ fun v w'=>v=zB R/\aG G K (L) w'):=by
 refine aN func99 rfl (by kernel_rfl) (by show (2:Nat)<=26;decide) ?_;unfold dC at hm
 refine aL (aI (v:=zB false) (aM (aH (aL (aO (v:=zS a1 b.length c2) (aC (aU (len:=b.length) vX rfl) (aO (v:=zS a4 c.length c5) (aC (aU (len:=c.length) vX rfl) (aC (sK rfl rfl) (aM ?_))))))))))
 rcases aJ hm with ⟨j,hm⟩|⟨j,hm⟩
 ·exact aF
 ·refine aP j rfl (aT (aE (aH (aL (aO (v:=zS a1 b.length c2) (aC (aU (len:=b.length) vX rfl) (aO (v:=i64 0) (aM (aQ [] (fun f w=>gP=some R/\aG G K (L) w) aF ?_)))))))));obtain ⟨V,o,ho⟩:=aB hm
  refine bS [0,1,12] o (fun d f w=>f 13=i64 d/\aG G K (L) w) aF ?_
  ·rintro d Z f a0 hm hr ⟨k,a⟩
   unfold gQ at hm
   refine aL (aC (dJ k rfl) (aM (aH ?_)))
   rcases aJ hm with ⟨l,hm⟩|⟨l,hm⟩
   ·refine aR l rfl (aT (aE (aH (bJ (aL (bO k (aI (v:=i64 d) (aM (aH (fH (C:=fun w'=>aG G K (L) w') Tryz_mixed (by kernel_rfl) (aG.mono a (eF.drew _)) (aY (fun _ a=>aZ (v:=zS a1 b.length c2) rfl) (aY (fun _ a=>aZ (v:=i64 d) rfl) ?_))))))))))));obtain ⟨e,m,hm⟩:=aB hm
    refine aY (fun _ a=>cK vX rfl h rfl rfl rfl m) ?_;obtain ⟨a2,p,q⟩:=aX.el (sz:=3) rfl h m
    cases q
    refine aY (fun _ a=>dQ (t:=0) (vs:=[str e.Left,str e.Right,str e.Result]) aLe a p rfl rfl rfl) (aY (fun _ a=>aZ (v:=zS a4 c.length c5) rfl) (aY (fun _ a=>aZ (v:=i64 d) rfl) ?_));obtain ⟨g,n,hm⟩:=aB hm
    refine aY (fun _ a=>cK vX rfl i rfl rfl rfl n) ?_;obtain ⟨a3,r,u⟩:=aX.el (sz:=3) rfl i n
    cases u
    refine aY (fun _ a=>dQ (t:=0) (vs:=[str g.Left,str g.Right,str g.Result]) aLe a r rfl rfl rfl) (aY (fun _ a=>R_neqG (eq_159 (x:=e) (y:=g)) rfl rfl) (uT (fun a5 a6=>(aE ?_))))
    rcases aJ hm with ⟨z,hm⟩|⟨z,hm⟩
    ·exact aF
    ·exact aF
   ·exact aF
theorem eZ {e h:(List Definition)} {R:Bool} (hm:bC e h=some R) (hs:aG G K (L) w) (m:aX K a1 c2 e) (n:aX K a4 c5 h):
  Calls prog 95 ([zS a1 e.length c2,zS a4 h.length c5,Value.func (.func 96) #[] #[]]:List Value).toArray w (cJ fun v w'=>v=zB R/\aG G K (L) w'):=by
 refine aN func95 rfl (by kernel_rfl) (by show (3:Nat)<=32;decide) ?_;unfold bC at hm
 refine aL (aI (v:=zB false) (aM (aH (aL (aO (v:=zS a1 e.length c2) (aC (aU (len:=e.length) qN rfl) (aO (v:=zS a4 h.length c5) (aC (aU (len:=h.length) qN rfl) (aC (sK rfl rfl) (aM ?_))))))))))
 rcases aJ hm with ⟨o,hm⟩|⟨o,hm⟩
 ·exact aF
 ·refine aP o rfl (aT (aE (aH (aL (aO (v:=zS a1 e.length c2) (aC (aU (len:=e.length) qN rfl) (aO (v:=i64 0) (aM (aQ [] (fun f w=>cQ=some R/\aG G K (L) w) aF ?_)))))))));obtain ⟨b2,z,ho⟩:=aB hm
  refine bS [1,2,15,16] z (fun j f w=>f 17=i64 j/\aG G K (L) w) aF ?_
  ·rintro j b3 f b4 hm hr ⟨k,p⟩
   unfold cR at hm
   refine aL (aC (dJ k rfl) (aM (aH ?_)))
   rcases aJ hm with ⟨q,hm⟩|⟨q,hm⟩
   ·refine aR q rfl (aT (aE (aH (bJ (aL (bO k ?_))))));obtain ⟨a,r,hm⟩:=aB hm
    refine aC (cK qN rfl m rfl rfl k r) ?_;obtain ⟨b5,J,V⟩:=aX.el (sz:=3) rfl m r
    obtain ⟨c,d,rfl,Z⟩:=V
    refine aC (dQ (t:=0) (vs:=[str a.Name,i64 a.Parameters,zS c a.Body.length d]) aEX p J rfl rfl rfl) (dV (vs:=[str ([]:aK),i64 0,zS none 0 0]) zeroValue151 p rfl (fun u b6 a0=>(aI (v:=i64 j) (eW (i:=0) (ns:=[str a.Name,i64 a.Parameters,zS c a.Body.length d]) (us:=[str a.Name,i64 a.Parameters,zS c a.Body.length d]) sizeOf151 a0 rfl rfl rfl rfl rfl (jY rfl) rfl rfl (fun a2 (x:aG G K (box u 151 [str a.Name,i64 a.Parameters,zS c a.Body.length d]::L) a2)=>(aM (aL (aO (v:=zS a4 h.length c5) (aO (v:=i64 j) ?_)))))))))
    obtain ⟨b,y,hm⟩:=aB hm
    refine aC (cK qN rfl n rfl rfl rfl y) ?_;obtain ⟨b7,a3,a5⟩:=aX.el (sz:=3) rfl n y
    obtain ⟨g,c48,rfl,a6⟩:=a5
    refine aC (dQ (t:=0) (vs:=[str b.Name,i64 b.Parameters,zS g b.Body.length c48]) aEX x a3 rfl rfl rfl) (dV (vs:=[str ([]:aK),i64 0,zS none 0 0]) zeroValue151 x rfl (fun a7 b8 a8=>(eW (i:=0) (ns:=[str b.Name,i64 b.Parameters,zS g b.Body.length c48]) (us:=[str b.Name,i64 b.Parameters,zS g b.Body.length c48]) sizeOf151 a8 rfl rfl rfl rfl rfl (jY rfl) rfl rfl (fun a9 (l:aG G K (box a7 151 [str b.Name,i64 b.Parameters,zS g b.Body.length c48]::box u 151 [str a.Name,i64 a.Parameters,zS c a.Body.length d]::L) a9)=>(aM (aL (aO (v:=Value.func (.func 96) #[] #[]) (aC (jN (us:=[str a.Name,i64 a.Parameters,zS c a.Body.length d]) aEX l (i:=1) rfl rfl rfl rfl) (aC (jN (us:=[str b.Name,i64 b.Parameters,zS g b.Body.length c48]) aEX l (i:=0) rfl rfl rfl rfl) ?_)))))))))
    obtain ⟨b9,b0,hm⟩:=aB hm
    exact eP (vs:=[zA #[str a.Name,i64 a.Parameters,zS c a.Body.length d],zA #[str b.Name,i64 b.Parameters,zS g b.Body.length c48]]) (caps:=[]) (us:=[zA #[str a.Name,i64 a.Parameters,zS c a.Body.length d],zA #[str b.Name,i64 b.Parameters,zS g b.Body.length c48]]) rfl call96 rfl rfl (yF b0 l Z a6) aF
   ·exact aF
theorem fD {e h:(List bA)} {R:Bool} (hm:bF e h=some R) (hs:aG G K (L) w) (m:aX K a1 c2 e) (n:aX K a4 c5 h):
  Calls prog 97 ([zS a1 e.length c2,zS a4 h.length c5,Value.func (.func 98) #[] #[]]:List Value).toArray w (cJ fun v w'=>v=zB R/\aG G K (L) w'):=by
 refine aN func97 rfl (by kernel_rfl) (by show (3:Nat)<=32;decide) ?_;unfold bF at hm
 refine aL (aI (v:=zB false) (aM (aH (aL (aO (v:=zS a1 e.length c2) (aC (aU (len:=e.length) xZ rfl) (aO (v:=zS a4 h.length c5) (aC (aU (len:=h.length) xZ rfl) (aC (sK rfl rfl) (aM ?_))))))))))
 rcases aJ hm with ⟨o,hm⟩|⟨o,hm⟩
 ·exact aF
 ·refine aP o rfl (aT (aE (aH (aL (aO (v:=zS a1 e.length c2) (aC (aU (len:=e.length) xZ rfl) (aO (v:=i64 0) (aM (aQ [] (fun f w=>cY=some R/\aG G K (L) w) aF ?_)))))))));obtain ⟨b2,z,ho⟩:=aB hm
  refine bS [1,2,15,16] z (fun j f w=>f 17=i64 j/\aG G K (L) w) aF ?_
  ·rintro j b3 f b4 hm hr ⟨k,p⟩
   unfold cZ at hm
   refine aL (aC (dJ k rfl) (aM (aH ?_)))
   rcases aJ hm with ⟨q,hm⟩|⟨q,hm⟩
   ·refine aR q rfl (aT (aE (aH (bJ (aL (bO k ?_))))));obtain ⟨a,r,hm⟩:=aB hm
    refine aC (cK xZ rfl m rfl rfl k r) ?_;obtain ⟨b5,J,V⟩:=aX.el (sz:=2) rfl m r
    obtain ⟨c,d,rfl,Z⟩:=V
    refine aC (dQ (t:=0) (vs:=[i64 a.Definition,zS c a.Values.length d]) aGx p J rfl rfl rfl) (dV (vs:=[i64 0,zS none 0 0]) zeroValue155 p rfl (fun u b6 a0=>(aI (v:=i64 j) (eW (i:=0) (ns:=[i64 a.Definition,zS c a.Values.length d]) (us:=[i64 a.Definition,zS c a.Values.length d]) sizeOf155 a0 rfl rfl rfl rfl rfl (jY rfl) rfl rfl (fun a2 (x:aG G K (box u 155 [i64 a.Definition,zS c a.Values.length d]::L) a2)=>(aM (aL (aO (v:=zS a4 h.length c5) (aO (v:=i64 j) ?_)))))))))
    obtain ⟨b,y,hm⟩:=aB hm
    refine aC (cK xZ rfl n rfl rfl rfl y) ?_;obtain ⟨b7,a3,a5⟩:=aX.el (sz:=2) rfl n y
    obtain ⟨g,c48,rfl,a6⟩:=a5
    refine aC (dQ (t:=0) (vs:=[i64 b.Definition,zS g b.Values.length c48]) aGx x a3 rfl rfl rfl) (dV (vs:=[i64 0,zS none 0 0]) zeroValue155 x rfl (fun a7 b8 a8=>(eW (i:=0) (ns:=[i64 b.Definition,zS g b.Values.length c48]) (us:=[i64 b.Definition,zS g b.Values.length c48]) sizeOf155 a8 rfl rfl rfl rfl rfl (jY rfl) rfl rfl (fun a9 (l:aG G K (box a7 155 [i64 b.Definition,zS g b.Values.length c48]::box u 155 [i64 a.Definition,zS c a.Values.length d]::L) a9)=>(aM (aL (aO (v:=Value.func (.func 98) #[] #[]) (aC (jN (us:=[i64 a.Definition,zS c a.Values.length d]) aGx l (i:=1) rfl rfl rfl rfl) (aC (jN (us:=[i64 b.Definition,zS g b.Values.length c48]) aGx l (i:=0) rfl rfl rfl rfl) ?_)))))))))
    obtain ⟨b9,b0,hm⟩:=aB hm
    exact eP (vs:=[zA #[i64 a.Definition,zS c a.Values.length d],zA #[i64 b.Definition,zS g b.Values.length c48]]) (caps:=[]) (us:=[zA #[i64 a.Definition,zS c a.Values.length d],zA #[i64 b.Definition,zS g b.Values.length c48]]) rfl call98 rfl rfl (aAR b0 l Z a6) aF
   ·exact aF
theorem aDE {a b:bM} {R:Bool} (hm:xL a b=some R) (d:aG G K (L) w) (g:aX K a1 c2 a.Definitions) (h:aX K a4 c5 a.Components) (i:aX K a7 c8 a.Meetings) (j:aX K a10 c11 a.Allowed) (k:aX K a13 c14 a.Hidden) (l:aX K a16 c17 b.Definitions) (m:aX K a19 c20 b.Components) (n:aX K a22 c23 b.Meetings) (o:aX K a25 c26 b.Allowed) (p:aX K a28 c29 b.Hidden):
  Calls prog 48 ([zA #[zS a1 a.Definitions.length c2,zS a4 a.Components.length c5,zS a7 a.Meetings.length c8,zS a10 a.Allowed.length c11,zS a13 a.Hidden.length c14],zA #[zS a16 b.Definitions.length c17,zS a19 b.Components.length c20,zS a22 b.Meetings.length c23,zS a25 b.Allowed.length c26,zS a28 b.Hidden.length c29]]:List Value).toArray w (cJ fun v w'=>v=zB R/\aG G K (L) w'):=by
 refine aN func48 rfl (by kernel_rfl) (by show (2:Nat)<=38;decide) ?_;unfold xL at hm
 exact aL (eO (v:=zA #[zS a1 a.Definitions.length c2,zS a4 a.Components.length c5,zS a7 a.Meetings.length c8,zS a10 a.Allowed.length c11,zS a13 a.Hidden.length c14]) (vs:=[zS a1 a.Definitions.length c2,zS a4 a.Components.length c5,zS a7 a.Meetings.length c8,zS a10 a.Allowed.length c11,zS a13 a.Hidden.length c14]) d rfl rfl (fun q r e=>(eO (v:=zA #[zS a16 b.Definitions.length c17,zS a19 b.Components.length c20,zS a22 b.Meetings.length c23,zS a25 b.Allowed.length c26,zS a28 b.Hidden.length c29]) (vs:=[zS a16 b.Definitions.length c17,zS a19 b.Components.length c20,zS a22 b.Meetings.length c23,zS a25 b.Allowed.length c26,zS a28 b.Hidden.length c29]) e rfl rfl (fun t u x=>(aI (v:=zB false) (aM (aH (bB [] (fun f w=>∃ c,kB c=some R/\f 4=zB c/\aG G K (L) w) aF aF))))))))
theorem aJm {t:gM} {k:Int} {R:Bool} (hm:pN t k=some R) (a:aG G K (L) w) (b:aX K a1 c2 t.L) (c:aX K a4 c5 t.E):
  Calls prog 101 ([zA (zCa t a1 c2 a4 c5),i64 k]:List Value).toArray w (cJ fun v w'=>v=zB R/\aG G K (L) w'):=by
 exact aF
theorem aGf {t:gM} {R:Bool} (hm:zN t=some R) (y:aG G K (L) w) (hG:G.lo=0) (k:aX K a1 c2 t.L) (l:aX K a4 c5 t.E):
  Calls prog 49 ([zA (zCa t a1 c2 a4 c5)]:List Value).toArray w (cJ fun v w'=>v=zB R/\aG G K (L) w'):=by
 let b:=(zC t a1 c2 a4 c5)
 refine aN func49 rfl (by kernel_rfl) (by show (1:Nat)<=109;decide) ?_;unfold zN at hm
 refine aL (eO (v:=zA (zCa t a1 c2 a4 c5)) (vs:=b) y rfl rfl (fun c w8 b6=>(aI (v:=zB false) (aM (aH (aH (bB [1] (fun f w=>∃ g,mJ t g=some R/\f 30=zB g/\aG G K (box c 42 b::L) w) ?_ ?_)))))))
 ·rintro f b8 ⟨g,hm,z,J⟩
  unfold mJ at hm
  refine aE ?_
  rcases aJ hm with ⟨m,hm⟩|⟨m,hm⟩
  ·exact aF
  ·refine aP m z (aT (aE (aH (aL (aC (bG (t':=2) aMH rfl rfl) (aC (cX aMW J (i:=0) rfl rfl rfl) (aC (aU (len:=t.L.length) cU rfl) (aO (v:=i64 0) (aM (aQ [1] (fun f w=>aAl t=some R/\aG G K (box c 42 b::L) w) ?_ ?_))))))))))
   ·rintro f b9 ⟨hm,V⟩
    unfold aAl at hm
    refine aE (aH (aL (aC (bG (t':=3) aBl rfl rfl) (aC (cX aJK V (i:=0) rfl rfl rfl) (aC (aU (len:=t.E.length) vG rfl) (aO (v:=i64 0) (aM (aQ [] (fun f w=>aIt=some R/\aG G K (L) w) aF ?_))))))));obtain ⟨c0,Z,ho⟩:=aB hm
    refine bS [1,65,66] Z (fun d f w=>f 67=i64 d/\aG G K (box c 42 b::L) w) aF ?_
    ·rintro d a0 f c1 hm hr ⟨h,n⟩
     unfold tW at hm
     refine aL (aC (dJ h rfl) (aM (aH ?_)))
     rcases aJ hm with ⟨o,hm⟩|⟨o,hm⟩
     ·refine aR o rfl (aT (aE (aH (bJ (aL (bO h ?_))))));obtain ⟨a,p,hm⟩:=aB hm
      refine aC (cK vG rfl l rfl rfl h p) ?_;obtain ⟨c3,a2,a3⟩:=aX.el (sz:=3) rfl l p
      cases a3
      exact aC (dQ (t:=0) (vs:=[i64 a.F,i64 a.B,i64 a.To]) aLd n a2 rfl rfl rfl) (dV (vs:=[i64 0,i64 0,i64 0]) zeroValue106 n rfl (fun a5 c4 a6=>(aI (v:=i64 d) (eW (i:=0) (ns:=[i64 a.F,i64 a.B,i64 a.To]) (us:=[i64 a.F,i64 a.B,i64 a.To]) sizeOf106 a6 rfl rfl rfl rfl rfl (jY rfl) rfl rfl (fun a7 (c6:aG G K (box a5 106 [i64 a.F,i64 a.B,i64 a.To]::box c 42 b::L) a7)=>(aM (aH (bB [1,65,66,67] (fun f w=>∃ q,mI d q=some a0/\f 107=zB q/\aG G K (box c 42 b::L) w) aF aF))))))))
     ·exact aF
   obtain ⟨c7,a8,ho⟩:=aB hm
   refine bS [1,32,33] a8 (fun e f w=>f 34=i64 e/\aG G K (box c 42 b::L) w) aF ?_
   ·rintro e a9 f c8 hm hr ⟨j,b0⟩
    unfold tX at hm
    refine aL (aC (dJ j rfl) (aM (aH ?_)))
    rcases aJ hm with ⟨r,hm⟩|⟨r,hm⟩
    ·refine aR r rfl (aT (aE (aH (bJ (aL (bO j ?_))))));obtain ⟨b1,u,hm⟩:=aB hm
     refine aC (cK cU rfl k rfl rfl j u) ?_;obtain ⟨c9,b2,b3⟩:=aX.el (sz:=1) rfl k u
     cases b3
     exact aC (bY (t:=0) nV b0 b2 rfl rfl) (aI (v:=i64 e) (aI (v:=str b1) (aM (aH (bB [1,32,33,34] (fun f w=>∃ x,pO e x=some a9/\f 62=zB x/\aG G K (box c 42 b::L) w) aF aF)))))
    ·exact aF
 exact aF
theorem aEE {k:Kept} {R:Bool} (hm:jQ k=some R) (q:aG G K (L) w) (hG:G.lo=0) (r:aX K a1 c2 k.S.L) (t:aX K a4 c5 k.S.E) (h9:aX K a7 c8 k.Formula) (u:aX K a10 c11 k.Source.Definitions) (x:aX K a13 c14 k.Source.Components) (y:aX K a16 c17 k.Source.Meetings) (z:aX K a19 c20 k.Source.Allowed) (J:aX K a22 c23 k.Source.Hidden):
  Calls prog 22 ([zA #[str k.Name,i64 k.Kind,i64 k.S.N,i64 k.S.I,zS a1 k.S.L.length c2,zS a4 k.S.E.length c5,zS a7 k.Formula.length c8,zS a10 k.Source.Definitions.length c11,zS a13 k.Source.Components.length c14,zS a16 k.Source.Meetings.length c17,zS a19 k.Source.Allowed.length c20,zS a22 k.Source.Hidden.length c23]]:List Value).toArray w (cJ fun v w'=>v=zB R/\aG G K (L) w'):=by
 let e:=[str k.Name,i64 k.Kind,i64 k.S.N,i64 k.S.I,zS a1 k.S.L.length c2,zS a4 k.S.E.length c5,zS a7 k.Formula.length c8,zS a10 k.Source.Definitions.length c11,zS a13 k.Source.Components.length c14,zS a16 k.Source.Meetings.length c17,zS a19 k.Source.Allowed.length c20,zS a22 k.Source.Hidden.length c23]
 refine aN func22 rfl (by kernel_rfl) (by show (1:Nat)<=71;decide) ?_;unfold jQ at hm
 refine aL (eO (v:=zA #[str k.Name,i64 k.Kind,i64 k.S.N,i64 k.S.I,zS a1 k.S.L.length c2,zS a4 k.S.E.length c5,zS a7 k.Formula.length c8,zS a10 k.Source.Definitions.length c11,zS a13 k.Source.Components.length c14,zS a16 k.Source.Meetings.length c17,zS a19 k.Source.Allowed.length c20,zS a22 k.Source.Hidden.length c23]) (vs:=e) q rfl rfl (fun V a8 g=>(aI (v:=zB false) (aM (aH (aL (aC (bG (t':=0) aJO rfl rfl) (aC (cX nV g (i:=0) rfl rfl rfl) ?_))))))))
 obtain ⟨a9,Z,hm⟩:=aB hm
 refine aW (vs:=[str k.Name]) call46 rfl (aDX Z g) ?_
 rintro _ b0 ⟨rfl,a⟩
 refine aC (sL rfl) (aM ?_)
 rcases aJ hm with ⟨h,hm⟩|⟨h,hm⟩
 ·exact aF
 ·refine aP h rfl (aT (aE (aH (fH (C:=fun w'=>aG G K (box V 50 e::L) w') Tryz_mixed (by kernel_rfl) (aG.mono a (eF.drew _)) (aY (fun _ a=>bG (t':=2) aEV rfl rfl) (aY (fun _ a=>jN (us:=(zC k.S a1 c2 a4 c5)) ag_42 a (i:=0) rfl rfl rfl rfl) (aY (fun _ a=>aDe (vs:=[]) (cs:=zG) bs_42 rfl (by kernel_rfl)) ?_)))))));obtain ⟨j,a0,hm⟩:=aB hm
  refine fS (vs:=[zA (zCa k.S a1 c2 a4 c5),zA zGa]) (v:=zB j) call47 rfl (fun _ a=>(aHf (b:=⟨0,0,[],[]⟩) a0 a r t (kM (α:=aK) _) (kM (α:=Edge) _))) (aY (fun _ a=>bG (t':=6) aEW rfl rfl) (aY (fun _ a=>cX aPt a (i:=0) rfl rfl rfl) (aY (fun _ a=>aU (len:=k.Formula.length) sM rfl) (aY (fun _ a=>dP rfl rfl) (aY (fun _ a=>bG (t':=7) aDh rfl rfl) (aY (fun _ a=>jN (us:=[zS a10 k.Source.Definitions.length c11,zS a13 k.Source.Components.length c14,zS a16 k.Source.Meetings.length c17,zS a19 k.Source.Allowed.length c20,zS a22 k.Source.Hidden.length c23]) ag_48 a (i:=0) rfl rfl rfl rfl) (aY (fun _ a=>aDe (vs:=[]) (cs:=[zS none 0 0,zS none 0 0,zS none 0 0,zS none 0 0,zS none 0 0]) bs_48 rfl (by kernel_rfl)) ?_)))))))
  obtain ⟨l,a2,hm⟩:=aB hm
  refine fS (vs:=[zA #[zS a10 k.Source.Definitions.length c11,zS a13 k.Source.Components.length c14,zS a16 k.Source.Meetings.length c17,zS a19 k.Source.Allowed.length c20,zS a22 k.Source.Hidden.length c23],zA #[zS none 0 0,zS none 0 0,zS none 0 0,zS none 0 0,zS none 0 0]]) (v:=zB l) call48 rfl (fun _ a=>(aDE (b:=⟨[],[],[],[],[]⟩) a2 a u x y z J (kM (α:=Definition) _) (kM (α:=bA) _) (kM (α:=bD) _) (kM (α:=aK) _) (kM (α:=aK) _))) (aY (fun _ a=>dM (v:=zB j) rfl) (aY (fun _ a=>dM (v:=zB ((k.Formula.length:Int) == 0)) rfl) (aY (fun _ a=>dM (v:=zB l) rfl) (uT (fun b1 a3=>(aE (aH (aL (aC (bG (t':=1) aHp rfl rfl) (aC (cX gH a3 (i:=0) rfl rfl rfl) (aM (bJ (aL (aC (dP rfl rfl) (aI (v:=zB (k.Kind == 1)) (aM ?_))))))))))))))))
  rcases aJ hm with ⟨c,hm⟩|⟨c,hm⟩
  ·exact aR c rfl (aH (bB [] (fun f w=>∃ m,rG m=some R/\f 2=zB m/\aG G K (L) w) aF aF))
  ·refine aP c rfl (aL (aC (dP rfl rfl) (aI (v:=zB (k.Kind == 2)) (aM ?_))))
   rcases aJ hm with ⟨d,hm⟩|⟨d,hm⟩
   ·exact aR d rfl (aH (bB [] (fun f w=>∃ n,nJ n=some R/\f 2=zB n/\aG G K (L) w) aF aF))
   ·refine aP d rfl (aL (aC (dP rfl rfl) (aI (v:=zB (k.Kind == 3)) (aM ?_))))
    rcases aJ hm with ⟨o,hm⟩|⟨o,hm⟩
    ·exact aR o rfl (aH (bB [] (fun f w=>∃ p,nK p=some R/\f 2=zB p/\aG G K (L) w) aF aF))
    ·exact aF
theorem aEF {d:pR} {R:Bool} (hm:rJ d=some R) (hs:aG G K (L) w) (hG:G.lo=0) (Z:aX K a1 c2 d.Kept):
  Calls prog 13 ([zA #[zS a1 d.Kept.length c2]]:List Value).toArray w (cJ fun v w'=>v=zB R/\aG G K (L) w'):=by
 let J:=[zS a1 d.Kept.length c2]
 refine aN func13 rfl (by kernel_rfl) (by show (1:Nat)<=37;decide) ?_;unfold rJ at hm
 refine aL (eO (v:=zA #[zS a1 d.Kept.length c2]) (vs:=J) hs rfl rfl (fun V w5 b2=>(aI (v:=zB false) (aM (aH (aL (aC (bG (t':=0) zY rfl rfl) (aC (cX aIj b2 (i:=0) rfl rfl rfl) (aC (aU (len:=d.Kept.length) vY rfl) (aO (v:=i64 0) (aM (aQ [1] (fun f w=>aCG d=some R/\aG G K (box V 29 J::L) w) aF ?_))))))))))));obtain ⟨d2,b3,ho⟩:=aB hm
 refine bS [1,6,7] b3 (fun e f w=>f 8=i64 e/\aG G K (box V 29 J::L) w) aF ?_
 ·rintro e b5 f d3 hm hr ⟨a2,a3⟩
  unfold rI at hm
  refine aL (aC (dJ a2 rfl) (aM (aH ?_)))
  rcases aJ hm with ⟨a4,hm⟩|⟨a4,hm⟩
  ·refine aR a4 rfl (aT (aE (aH (bJ (aL (bO a2 ?_))))));obtain ⟨a,a5,hm⟩:=aB hm
   refine aC (cK vY rfl Z rfl rfl a2 a5) ?_;obtain ⟨d4,b6,b7⟩:=aX.el (sz:=12) rfl Z a5
   obtain ⟨h,j,k,l,m,n,o,p,q,c45,r,c48,u,x,y,z,rfl,b8,b9,c0,c1,c3,c4,c5,c6⟩:=b7
   refine aC (dQ (t:=0) (vs:=[str a.Name,i64 a.Kind,i64 a.S.N,i64 a.S.I,zS h a.S.L.length j,zS k a.S.E.length l,zS m a.Formula.length n,zS o a.Source.Definitions.length p,zS q a.Source.Components.length c45,zS r a.Source.Meetings.length c48,zS u a.Source.Allowed.length x,zS y a.Source.Hidden.length z]) aNh a3 b6 rfl rfl rfl) (dV (vs:=[str ([]:aK),i64 0,i64 0,i64 0,zS none 0 0,zS none 0 0,zS none 0 0,zS none 0 0,zS none 0 0,zS none 0 0,zS none 0 0,zS none 0 0]) zeroValue50 a3 rfl (fun a6 d5 c7=>(aI (v:=i64 e) (eW (i:=0) (ns:=[str a.Name,i64 a.Kind,i64 a.S.N,i64 a.S.I,zS h a.S.L.length j,zS k a.S.E.length l,zS m a.Formula.length n,zS o a.Source.Definitions.length p,zS q a.Source.Components.length c45,zS r a.Source.Meetings.length c48,zS u a.Source.Allowed.length x,zS y a.Source.Hidden.length z]) (us:=[str a.Name,i64 a.Kind,i64 a.S.N,i64 a.S.I,zS h a.S.L.length j,zS k a.S.E.length l,zS m a.Formula.length n,zS o a.Source.Definitions.length p,zS q a.Source.Components.length c45,zS r a.Source.Meetings.length c48,zS u a.Source.Allowed.length x,zS y a.Source.Hidden.length z]) sizeOf50 c7 rfl rfl rfl rfl rfl (jY rfl) rfl rfl (fun c8 (b:aG G K (box a6 50 [str a.Name,i64 a.Kind,i64 a.S.N,i64 a.S.I,zS h a.S.L.length j,zS k a.S.E.length l,zS m a.Formula.length n,zS o a.Source.Definitions.length p,zS q a.Source.Components.length c45,zS r a.Source.Meetings.length c48,zS u a.Source.Allowed.length x,zS y a.Source.Hidden.length z]::box V 29 J::L) c8)=>(aM (aH (bB [1,6,7,8] (fun f w=>∃ a7,rH e a7=some b5/\f 31=zB a7/\aG G K (box V 29 J::L) w) aF (fH (C:=fun w'=>aG G K (box a6 50 [str a.Name,i64 a.Kind,i64 a.S.N,i64 a.S.I,zS h a.S.L.length j,zS k a.S.E.length l,zS m a.Formula.length n,zS o a.Source.Definitions.length p,zS q a.Source.Components.length c45,zS r a.Source.Meetings.length c48,zS u a.Source.Allowed.length x,zS y a.Source.Hidden.length z]::box V 29 J::L) w') Tryz_mixed (by kernel_rfl) (aG.mono b (eF.drew _)) (aY (fun _ b=>jN (us:=[str a.Name,i64 a.Kind,i64 a.S.N,i64 a.S.I,zS h a.S.L.length j,zS k a.S.E.length l,zS m a.Formula.length n,zS o a.Source.Definitions.length p,zS q a.Source.Components.length c45,zS r a.Source.Meetings.length c48,zS u a.Source.Allowed.length x,zS y a.Source.Hidden.length z]) aNh b (i:=0) rfl rfl rfl rfl) ?_))))))))))
   obtain ⟨a8,c9,hm⟩:=aB hm
   refine fS (vs:=[zA #[str a.Name,i64 a.Kind,i64 a.S.N,i64 a.S.I,zS h a.S.L.length j,zS k a.S.E.length l,zS m a.Formula.length n,zS o a.Source.Definitions.length p,zS q a.Source.Components.length c45,zS r a.Source.Meetings.length c48,zS u a.Source.Allowed.length x,zS y a.Source.Hidden.length z]]) (v:=zB a8) call22 rfl (fun _ b=>(aEE c9 b hG b8 b9 c0 c1 c3 c4 c5 c6)) (aY (fun _ b=>sL rfl) (aY (fun _ b=>aZ (v:=zB (!a8)) rfl) ?_))
   rcases aJ hm with ⟨a0,hm⟩|⟨a0,hm⟩
   ·exact aF
   ·refine iO (g:=16) rfl rfl (lN a0) (aY (fun _ b=>aZ (v:=i64 e) rfl) (iO (g:=16) rfl rfl (lN a0) (aY (fun _ b=>aLK rfl rfl) (iO (g:=16) rfl rfl (lN a0) (aY (fun _ b=>aZ (v:=zB (decide (0 < e))) rfl) ?_)))))
    rcases aJ hm with ⟨c,hm⟩|⟨c,hm⟩
    ·refine iO (g:=19) rfl rfl c (aY (fun _ b=>bG (t':=0) aJO rfl rfl) (iO (g:=19) rfl rfl c (aY (fun _ b=>cX nV b (i:=0) rfl rfl rfl) (iO (g:=19) rfl rfl c (aY (fun _ b=>bG (t':=0) zY rfl rfl) (iO (g:=19) rfl rfl c (aY (fun _ b=>cX aIj b (i:=1) rfl rfl rfl) (iO (g:=19) rfl rfl c (aY (fun _ b=>aZ (v:=i64 e) rfl) (iO (g:=19) rfl rfl c (aY (fun _ b=>jM rfl rfl) (iO (g:=19) rfl rfl c ?_))))))))))));obtain ⟨d6,a9,hm⟩:=aB hm
     refine aY (fun _ b=>cK vY rfl Z rfl rfl rfl a9) ?_;obtain ⟨d7,d8,d0⟩:=aX.el (sz:=12) rfl Z a9
     obtain ⟨d9,e0,e1,e2,e3,e4,e5,e6,e7,e8,e9,f0,f1,f2,f3,f4,rfl,f5,f6,f7,f8,f9,g0,g1,g2⟩:=d0
     exact aF
    ·exact aF
  ·exact aF
theorem aMw {a:Int} {R:aK} (hm:aFs a=some R) (b:aG G K (L) w):
  Calls prog 14 ([i64 a]:List Value).toArray w (cJ fun v w'=>v=str R/\aG G K (L) w'):=by
 refine aN func14 rfl (by kernel_rfl) (by show (1:Nat)<=6;decide) ?_;unfold aFs at hm
 refine aL (aI (v:=str ([]:aK)) (aM (aL (aC (R_buildA (vs:=[(0,str ([]:aK)),(1,str ([115,121,115,116,101,109]:aK)),(2,str ([102,111,114,109,117,108,97]:aK)),(3,str ([115,111,117,114,99,101]:aK))]) (cs:=[str ([]:aK),str ([115,121,115,116,101,109]:aK),str ([102,111,114,109,117,108,97]:aK),str ([115,111,117,114,99,101]:aK)]) ar_72 bz_72 rfl (by kernel_rfl)) (aO (v:=i64 a) ?_)))));obtain ⟨c,d,hm⟩:=aB hm
 refine aC (R_ixG (l:=([([]:aK),([115,121,115,116,101,109]:aK),([102,111,114,109,117,108,97]:aK),([115,111,117,114,99,101]:aK)]:List aK)) (F:=fun s=>str s) ar_72 rfl rfl rfl d) (aI (v:=str c) (aM ?_));obtain rfl:=Option.some.inj hm
 exact aGk (aGm results14 rfl ⟨rfl,b⟩)
theorem aKL {a:(List aK)} {R:aK} (hm:aFt a=some R) (b:aG G K (L) w) (c:G.lo=0) (d:aX K a1 c2 a):
  Calls prog 54 ([zS a1 a.length c2]:List Value).toArray w (cJ fun v w'=>v=str R/\aG G K (L) w'):=by
 exact aF
theorem aNO {t:gM} {R:aK} (hm:aEz t=some R) (hs:aG G K (L) w) (p:G.lo=0) (l:aX K a1 c2 t.L) (m:aX K a4 c5 t.E):
  Calls prog 23 ([zA (zCa t a1 c2 a4 c5)]:List Value).toArray w (cJ fun v w'=>v=str R/\aG G K (L) w'):=by
 let c:=(zC t a1 c2 a4 c5)
 refine aN func23 rfl (by kernel_rfl) (by show (1:Nat)<=46;decide) ?_;unfold aEz at hm
 refine aL (eO (v:=zA (zCa t a1 c2 a4 c5)) (vs:=c) hs rfl rfl (fun d w8 q=>(aI (v:=str ([]:aK)) (aM (aH (aL (aC (jN (us:=c) ag_42 q (i:=0) rfl rfl rfl rfl) ?_)))))));obtain ⟨d5,a5,hm⟩:=aB hm
 refine aW (vs:=[zA (zCa t a1 c2 a4 c5)]) call49 rfl (aGf a5 q p l m) ?_
 rintro _ d6 ⟨rfl,r⟩
 refine aC (sL rfl) (aM ?_)
 rcases aJ hm with ⟨u,hm⟩|⟨u,hm⟩
 ·exact aF
 ·refine aP u rfl (aT (aE (aL (aI (v:=zS none 0 0) (aM (aH (aL (aC (bG (t':=3) aBl rfl rfl) (aC (cX aJK r (i:=0) rfl rfl rfl) (aC (aU (len:=t.E.length) vG rfl) (aO (v:=i64 0) (aM (aQ [1] (fun f w=>∃ j n o,aBG t j=some R/\f 3=zS n j.length o/\aG G K (aV 9 K n o j::box d 42 c::L) w) ?_ ?_)))))))))))))
  ·rintro f d7 ⟨j,n,o,hm,d8,a6⟩
   unfold aBG at hm
   refine aE (aH ?_);obtain ⟨a7,a8,d9,b,e0⟩:=aG.lendSp a6 (Hp.le_refl _) .head
   refine fH (C:=fun w'=>aG G a7 (box d 42 c::L) w') Tryz_mixed (by kernel_rfl) (aG.mono b (eF.drew _)) (aY (fun _ b=>bG (t':=0) aQc rfl rfl) (aY (fun _ b=>cX gH b (i:=0) rfl rfl rfl) ?_));obtain ⟨a9,b0,hm⟩:=aB hm
   refine fS (vs:=[i64 t.N]) (v:=str a9) call53 rfl (fun _ b=>(nP b b0)) ?_;obtain ⟨e1,b1,hm⟩:=aB hm
   refine aY (fun _ b=>eA rfl rfl b1) (aY (fun _ b=>bG (t':=1) aQd rfl rfl) (aY (fun _ b=>cX gH b (i:=0) rfl rfl rfl) ?_));obtain ⟨b2,b3,hm⟩:=aB hm
   refine fS (vs:=[i64 t.I]) (v:=str b2) call53 rfl (fun _ b=>(nP b b3)) ?_;obtain ⟨e2,b4,hm⟩:=aB hm
   refine aY (fun _ b=>eA rfl rfl b4) ?_;obtain ⟨e3,b5,hm⟩:=aB hm
   refine aY (fun _ b=>eA rfl rfl b5) (aY (fun _ b=>bG (t':=2) aMH rfl rfl) (aY (fun _ b=>cX aMW b (i:=0) rfl rfl rfl) ?_));obtain ⟨b6,x,hm⟩:=aB hm
   obtain ⟨b8,b9,y⟩:=Cut.ex 1 a1 c2 1
   have c0:=aX.cut' l x y
   refine aY (fun _ b=>aMU cU l.room y rfl rfl rfl x) ?_;obtain ⟨c1,c3,hm⟩:=aB hm
   exact fS (vs:=[zS b8 b6.length b9]) (v:=str c1) call54 rfl (fun _ b=>(aKL c3 b p (c0.mono a8))) aF
  have e4:=aG.nil (α:=aK) r 9 K
  obtain ⟨e5,c4,ho⟩:=aB hm
  refine cA [1,10,11] c4 (fun e z f w=>∃ g h,f 3=zS g e.length h/\f 12=i64 z/\aG G K (aV 9 K g h e::box d 42 c::L) w) aF ?_
  ·rintro e z e6 f e7 hm hr ⟨g,h,c6,J,V⟩
   unfold xM at hm
   refine aL (aC (dJ J rfl) (aM (aH ?_)))
   rcases aJ hm with ⟨Z,hm⟩|⟨Z,hm⟩
   ·refine aR Z rfl (aT (aE (aH (bJ (aL ?_)))));obtain ⟨a,a0,hm⟩:=aB hm
    refine aC (cK vG rfl m rfl rfl J a0) ?_;obtain ⟨e8,c7,c8⟩:=aX.el (sz:=3) rfl m a0
    cases c8
    refine aC (dQ (t:=0) (vs:=[i64 a.F,i64 a.B,i64 a.To]) aLd V c7 rfl rfl rfl) (dV (vs:=[i64 0,i64 0,i64 0]) zeroValue106 V rfl (fun a2 e9 c9=>(eW (i:=0) (ns:=[i64 a.F,i64 a.B,i64 a.To]) (us:=[i64 a.F,i64 a.B,i64 a.To]) sizeOf106 c9 rfl rfl rfl rfl rfl (jY rfl) rfl rfl (fun d0 (k:aG G K (box a2 106 [i64 a.F,i64 a.B,i64 a.To]::aV 9 K g h e::box d 42 c::L) d0)=>(aM (bL (bO c6 (aC (bG (t':=0) aGt rfl rfl) (aC (cX gH k (i:=0) rfl rfl rfl) (aC (bG (t':=1) aGu rfl rfl) (aC (cX gH k (i:=0) rfl rfl rfl) (aC (bG (t':=2) aJJ rfl rfl) (aC (cX gH k (i:=0) rfl rfl rfl) (dH (Kt:=K) (xs:=([a.F,a.B,a.To]:List Int)) (cs:=[i64 a.F,i64 a.B,i64 a.To]) (vs:=[(0,i64 a.F),(1,i64 a.B),(2,i64 a.To)]) dW yK rfl rfl k rfl (by kernel_rfl) rfl rfl rfl ⟨rfl,rfl,rfl,trivial⟩ (fun d1 d2 (d3:aG G K (aV 2 K d1 3 ([a.F,a.B,a.To]:List Int)::box a2 106 [i64 a.F,i64 a.B,i64 a.To]::aV 9 K g h e::box d 42 c::L) d2)=>?_)))))))))))))))
    obtain ⟨f0,f1,f2,f3,f4⟩:=aG.lendSp d3 (Hp.le_refl _) .head
    exact aF
   ·exact aF
theorem aMx {k:Kept} {R:aK} (hm:aFu k=some R) (a:aG G K (L) w) (b:G.lo=0) (c:aX K a1 c2 k.S.L) (d:aX K a4 c5 k.S.E) (e:aX K a7 c8 k.Formula) (g:aX K a10 c11 k.Source.Definitions) (h:aX K a13 c14 k.Source.Components) (i:aX K a16 c17 k.Source.Meetings) (j:aX K a19 c20 k.Source.Allowed) (l:aX K a22 c23 k.Source.Hidden):
  Calls prog 15 ([zA #[str k.Name,i64 k.Kind,i64 k.S.N,i64 k.S.I,zS a1 k.S.L.length c2,zS a4 k.S.E.length c5,zS a7 k.Formula.length c8,zS a10 k.Source.Definitions.length c11,zS a13 k.Source.Components.length c14,zS a16 k.Source.Meetings.length c17,zS a19 k.Source.Allowed.length c20,zS a22 k.Source.Hidden.length c23]]:List Value).toArray w (cJ fun v w'=>v=str R/\aG G K (L) w'):=by
 exact aF
theorem aGg {d:pR} {R:aK} (hm:vB d=some R) (hs:aG G K (L) w) (hG:G.lo=0) (V:aX K a1 c2 d.Kept):
  Calls prog 7 ([zA #[zS a1 d.Kept.length c2]]:List Value).toArray w (cJ fun v w'=>v=str R/\aG G K (L) w'):=by
 let a0:=[zS a1 d.Kept.length c2]
 refine aN func7 rfl (by kernel_rfl) (by show (1:Nat)<=33;decide) ?_;unfold vB at hm
 refine aL (eO (v:=zA #[zS a1 d.Kept.length c2]) (vs:=a0) hs rfl rfl (fun b4 w5 a2=>(aI (v:=str ([]:aK)) (aM (aH (aL (aC (jN (us:=a0) ag_29 a2 (i:=0) rfl rfl rfl rfl) ?_)))))));obtain ⟨r7,q8,hm⟩:=aB hm
 refine aW (vs:=[zA #[zS a1 d.Kept.length c2]]) call13 rfl (aEF q8 a2 hG V) ?_
 rintro _ w9 ⟨rfl,a3⟩
 refine aC (sL rfl) (aM ?_)
 rcases aJ hm with ⟨a4,hm⟩|⟨a4,hm⟩
 ·exact aF
 ·refine aP a4 rfl (aT (aE (aL (aI (v:=zS none 0 0) (aM (aH (aL (aC (bG (t':=0) zY rfl rfl) (aC (cX aIj a3 (i:=0) rfl rfl rfl) (aC (aU (len:=d.Kept.length) vY rfl) (aO (v:=i64 0) (aM (aQ [] (fun f w=>∃ Z a5 a6,aDW Z=some R/\f 3=zS a5 Z.length a6/\aG G K (aV 9 K a5 a6 Z::L) w) aF ?_)))))))))))))
  have d1:=aG.nil (α:=aK) a3 9 K
  obtain ⟨d2,b7,ho⟩:=aB hm
  refine cA [10,11] b7 (fun b a7 f w=>∃ c e,f 3=zS c b.length e/\f 12=i64 a7/\aG G K (aV 9 K c e b::L) w) aF ?_
  ·rintro b a7 d3 f d4 hm hr ⟨c,e,d5,a8,a9⟩
   unfold tY at hm
   refine aL (aC (dJ a8 rfl) (aM (aH ?_)))
   rcases aJ hm with ⟨b0,hm⟩|⟨b0,hm⟩
   ·refine aR b0 rfl (aT (aE (aH (bJ (aL ?_)))));obtain ⟨a,b1,hm⟩:=aB hm
    refine aC (cK vY rfl V rfl rfl a8 b1) ?_;obtain ⟨d6,b8,b9⟩:=aX.el (sz:=12) rfl V b1
    obtain ⟨g,h,j,k,l,m,n,o,p,q,r,u,x,y,z,J,rfl,d7,d8,d9,e0,e1,e2,e3,e4⟩:=b9
    refine aC (dQ (t:=0) (vs:=[str a.Name,i64 a.Kind,i64 a.S.N,i64 a.S.I,zS g a.S.L.length h,zS j a.S.E.length k,zS l a.Formula.length m,zS n a.Source.Definitions.length o,zS p a.Source.Components.length q,zS r a.Source.Meetings.length u,zS x a.Source.Allowed.length y,zS z a.Source.Hidden.length J]) aNh a9 b8 rfl rfl rfl) (dV (vs:=[str ([]:aK),i64 0,i64 0,i64 0,zS none 0 0,zS none 0 0,zS none 0 0,zS none 0 0,zS none 0 0,zS none 0 0,zS none 0 0,zS none 0 0]) zeroValue50 a9 rfl (fun c0 e5 c1=>(eW (i:=0) (ns:=[str a.Name,i64 a.Kind,i64 a.S.N,i64 a.S.I,zS g a.S.L.length h,zS j a.S.E.length k,zS l a.Formula.length m,zS n a.Source.Definitions.length o,zS p a.Source.Components.length q,zS r a.Source.Meetings.length u,zS x a.Source.Allowed.length y,zS z a.Source.Hidden.length J]) (us:=[str a.Name,i64 a.Kind,i64 a.S.N,i64 a.S.I,zS g a.S.L.length h,zS j a.S.E.length k,zS l a.Formula.length m,zS n a.Source.Definitions.length o,zS p a.Source.Components.length q,zS r a.Source.Meetings.length u,zS x a.Source.Allowed.length y,zS z a.Source.Hidden.length J]) sizeOf50 c1 rfl rfl rfl rfl rfl (jY rfl) rfl rfl (fun c3 (c4:aG G K (box c0 50 [str a.Name,i64 a.Kind,i64 a.S.N,i64 a.S.I,zS g a.S.L.length h,zS j a.S.E.length k,zS l a.Formula.length m,zS n a.Source.Definitions.length o,zS p a.Source.Components.length q,zS r a.Source.Meetings.length u,zS x a.Source.Allowed.length y,zS z a.Source.Hidden.length J]::aV 9 K c e b::L) c3)=>(aM ?_)))))
    obtain ⟨c5,e6,e7,b2,e8⟩:=aG.lendBp c4 .head
    refine lQ (C:=fun w'=>∃ L',aG G c5 L' w') [(0,0),(1,0),(2,0),(5,0),(6,0),(9,0),(3,1),(4,0),(7,0),(8,0),(10,1),(11,0),(12,1),(13,1),(14,0)] Tryz_mixed (by kernel_rfl) (fun _ hg=>⟨_,aG.mono b2 hg⟩) (fun e9 c6=>?_)
    have f0:=aG.mono b2 c6
    exact aF
   ·exact aF
theorem aLs {a b:(List aK)} {R:Bool} (hm:rK a b=some R) (g:aG G K (L) w) (h:aX K a1 c2 a) (i:aX K a4 c5 b):
  Calls prog 121 ([zS a1 a.length c2,zS a4 b.length c5]:List Value).toArray w (cJ fun v w'=>v=zB R/\aG G K (L) w'):=by
 refine aN func121 rfl (by kernel_rfl) (by show (2:Nat)<=26;decide) ?_;unfold rK at hm
 refine aL (aI (v:=zB false) (aM (aH (aL (aO (v:=zS a1 a.length c2) (aC (aU (len:=a.length) cU rfl) (aO (v:=zS a4 b.length c5) (aC (aU (len:=b.length) cU rfl) (aC (sK rfl rfl) (aM ?_))))))))))
 rcases aJ hm with ⟨c,hm⟩|⟨c,hm⟩
 ·exact aF
 ·refine aP c rfl (aT (aE (aH (aL (aI (v:=i64 0) (aM (aQ [] (fun f w=>aGR=some R/\aG G K (L) w) aF ?_)))))));obtain ⟨j,d,ho⟩:=aB hm
  exact bS [0,1] d (fun e f w=>f 5=i64 e/\aG G K (L) w) aF aF
theorem aOS {a b:Edge} {R:Bool} (hm:aKm a b=some R) (c:aG G K (L) w):
  Calls prog 169 ([zA #[i64 a.F,i64 a.B,i64 a.To],zA #[i64 b.F,i64 b.B,i64 b.To]]:List Value).toArray w (cJ fun v w'=>v=zB R/\aG G K (L) w'):=by
 exact aF
end Gv
namespace Gv
open Gv.Hp renaming le_refl→zR
open Go.Value renaming slice→zS,bool→zB,agg→zA
open Gv.Hp renaming le_trans→zL
open Go Go.Proofs Go.Proofs.Tryz
set_option maxRecDepth 20000
set_option maxHeartbeats 40000000
variable {G:kE} {K:Hp} {L:List eV} {w:World} {a1 a4 a7 a10 a13 a16 a19 a22 a25 a28 a31 a34 a37 a40 a43 a46:Option Addr} {c2 c5 c8 c11 c14 c17 c20 c23 c26 c29 c32 c35 c38 c41 c44 c47:Nat}
theorem aNP {a b:(List Edge)} {R:Bool} (hm:aEA a b=some R) (g:aG G K (L) w) (h:aX K a1 c2 a) (i:aX K a4 c5 b):
  Calls prog 122 ([zS a1 a.length c2,zS a4 b.length c5]:List Value).toArray w (cJ fun v w'=>v=zB R/\aG G K (L) w'):=by
 refine aN func122 rfl (by kernel_rfl) (by show (2:Nat)<=27;decide) ?_;unfold aEA at hm
 refine aL (aI (v:=zB false) (aM (aH (aL (aO (v:=zS a1 a.length c2) (aC (aU (len:=a.length) vG rfl) (aO (v:=zS a4 b.length c5) (aC (aU (len:=b.length) vG rfl) (aC (sK rfl rfl) (aM ?_))))))))))
 rcases aJ hm with ⟨c,hm⟩|⟨c,hm⟩
 ·exact aF
 ·refine aP c rfl (aT (aE (aH (aL (aI (v:=i64 0) (aM (aQ [] (fun f w=>aKn=some R/\aG G K (L) w) aF ?_)))))));obtain ⟨j,d,ho⟩:=aB hm
  exact bS [0,1] d (fun e f w=>f 5=i64 e/\aG G K (L) w) aF aF
theorem aQk {a b:gM} {R:Bool} (hm:aMK a b=some R) (c:aG G K (L) w) (d:aX K a1 c2 a.L) (e:aX K a4 c5 a.E) (g:aX K a7 c8 b.L) (h:aX K a10 c11 b.E):
  Calls prog 61 ([zA (zCa a a1 c2 a4 c5),zA (zCa b a7 c8 a10 c11)]:List Value).toArray w (cJ fun v w'=>v=zB R/\aG G K (L) w'):=by
 exact aF
theorem aOT {a b:bI} {R:Bool} (hm:aKo a b=some R) (c:aG G K (L) w):
  Calls prog 123 ([zA #[i64 a.Kind,i64 a.Variable,str a.B,zB a.Not],zA #[i64 b.Kind,i64 b.Variable,str b.B,zB b.Not]]:List Value).toArray w (cJ fun v w'=>v=zB R/\aG G K (L) w'):=by
 exact aF
theorem aNQ {a b:(List bI)} {R:Bool} (hm:aHD a b=some R) (g:aG G K (L) w) (h:aX K a1 c2 a) (i:aX K a4 c5 b):
  Calls prog 62 ([zS a1 a.length c2,zS a4 b.length c5]:List Value).toArray w (cJ fun v w'=>v=zB R/\aG G K (L) w'):=by
 refine aN func62 rfl (by kernel_rfl) (by show (2:Nat)<=27;decide) ?_;unfold aHD at hm
 refine aL (aI (v:=zB false) (aM (aH (aL (aO (v:=zS a1 a.length c2) (aC (aU (len:=a.length) sM rfl) (aO (v:=zS a4 b.length c5) (aC (aU (len:=b.length) sM rfl) (aC (sK rfl rfl) (aM ?_))))))))))
 rcases aJ hm with ⟨c,hm⟩|⟨c,hm⟩
 ·exact aF
 ·refine aP c rfl (aT (aE (aH (aL (aI (v:=i64 0) (aM (aQ [] (fun f w=>aKp=some R/\aG G K (L) w) aF ?_)))))));obtain ⟨j,d,ho⟩:=aB hm
  exact bS [0,1] d (fun e f w=>f 5=i64 e/\aG G K (L) w) aF aF
theorem aOU {a b:aS} {R:Bool} (hm:aKq a b=some R) (c:aG G K (L) w):
  Calls prog 296 ([zA #[i64 a.Kind,i64 a.Value],zA #[i64 b.Kind,i64 b.Value]]:List Value).toArray w (cJ fun v w'=>v=zB R/\aG G K (L) w'):=by
 exact aF
theorem aNR {a b:(List aS)} {R:Bool} (hm:aHE a b=some R) (g:aG G K (L) w) (h:aX K a1 c2 a) (i:aX K a4 c5 b):
  Calls prog 288 ([zS a1 a.length c2,zS a4 b.length c5]:List Value).toArray w (cJ fun v w'=>v=zB R/\aG G K (L) w'):=by
 refine aN func288 rfl (by kernel_rfl) (by show (2:Nat)<=27;decide) ?_;unfold aHE at hm
 refine aL (aI (v:=zB false) (aM (aH (aL (aO (v:=zS a1 a.length c2) (aC (aU (len:=a.length) nW rfl) (aO (v:=zS a4 b.length c5) (aC (aU (len:=b.length) nW rfl) (aC (sK rfl rfl) (aM ?_))))))))))
 rcases aJ hm with ⟨c,hm⟩|⟨c,hm⟩
 ·exact aF
 ·refine aP c rfl (aT (aE (aH (aL (aI (v:=i64 0) (aM (aQ [] (fun f w=>aKr=some R/\aG G K (L) w) aF ?_)))))));obtain ⟨j,d,ho⟩:=aB hm
  exact bS [0,1] d (fun e f w=>f 5=i64 e/\aG G K (L) w) aF aF
theorem aMy {a b:(List (List aS))} {R:Bool} (hm:aFv a b=some R) (g:aG G K (L) w) (h:aX K a1 c2 a) (i:aX K a4 c5 b):
  Calls prog 276 ([zS a1 a.length c2,zS a4 b.length c5]:List Value).toArray w (cJ fun v w'=>v=zB R/\aG G K (L) w'):=by
 refine aN func276 rfl (by kernel_rfl) (by show (2:Nat)<=27;decide) ?_;unfold aFv at hm
 refine aL (aI (v:=zB false) (aM (aH (aL (aO (v:=zS a1 a.length c2) (aC (aU (len:=a.length) mT rfl) (aO (v:=zS a4 b.length c5) (aC (aU (len:=b.length) mT rfl) (aC (sK rfl rfl) (aM ?_))))))))))
 rcases aJ hm with ⟨c,hm⟩|⟨c,hm⟩
 ·exact aF
 ·refine aP c rfl (aT (aE (aH (aL (aI (v:=i64 0) (aM (aQ [] (fun f w=>aIu=some R/\aG G K (L) w) aF ?_)))))));obtain ⟨j,d,ho⟩:=aB hm
  exact bS [0,1] d (fun e f w=>f 5=i64 e/\aG G K (L) w) aF aF
theorem aOV {a b:bH} {R:Bool} (hm:aKs a b=some R) (c:aG G K (L) w) (d:aX K a1 c2 a.Arguments) (e:aX K a4 c5 b.Arguments):
  Calls prog 251 ([zA #[i64 a.Kind,i64 a.Number,str a.Name,zS a1 a.Arguments.length c2],zA #[i64 b.Kind,i64 b.Number,str b.Name,zS a4 b.Arguments.length c5]]:List Value).toArray w (cJ fun v w'=>v=zB R/\aG G K (L) w'):=by
 exact aF
theorem aNS {a b:(List bH)} {R:Bool} (hm:aHF a b=some R) (g:aG G K (L) w) (h:aX K a1 c2 a) (i:aX K a4 c5 b):
  Calls prog 213 ([zS a1 a.length c2,zS a4 b.length c5]:List Value).toArray w (cJ fun v w'=>v=zB R/\aG G K (L) w'):=by
 refine aN func213 rfl (by kernel_rfl) (by show (2:Nat)<=27;decide) ?_;unfold aHF at hm
 refine aL (aI (v:=zB false) (aM (aH (aL (aO (v:=zS a1 a.length c2) (aC (aU (len:=a.length) lO rfl) (aO (v:=zS a4 b.length c5) (aC (aU (len:=b.length) lO rfl) (aC (sK rfl rfl) (aM ?_))))))))))
 rcases aJ hm with ⟨c,hm⟩|⟨c,hm⟩
 ·exact aF
 ·refine aP c rfl (aT (aE (aH (aL (aI (v:=i64 0) (aM (aQ [] (fun f w=>aKt=some R/\aG G K (L) w) aF ?_)))))));obtain ⟨j,d,ho⟩:=aB hm
  exact bS [0,1] d (fun e f w=>f 5=i64 e/\aG G K (L) w) aF aF
theorem aIe {a b:Definition} {R:Bool} (hm:xO a b=some R) (c:aG G K (L) w) (d:aX K a1 c2 a.Body) (e:aX K a4 c5 b.Body):
  Calls prog 170 ([zA #[str a.Name,i64 a.Parameters,zS a1 a.Body.length c2],zA #[str b.Name,i64 b.Parameters,zS a4 b.Body.length c5]]:List Value).toArray w (cJ fun v w'=>v=zB R/\aG G K (L) w'):=by
 exact aF
theorem aHg {a b:(List Definition)} {R:Bool} (hm:uQ a b=some R) (g:aG G K (L) w) (h:aX K a1 c2 a) (i:aX K a4 c5 b):
  Calls prog 124 ([zS a1 a.length c2,zS a4 b.length c5]:List Value).toArray w (cJ fun v w'=>v=zB R/\aG G K (L) w'):=by
 refine aN func124 rfl (by kernel_rfl) (by show (2:Nat)<=27;decide) ?_;unfold uQ at hm
 refine aL (aI (v:=zB false) (aM (aH (aL (aO (v:=zS a1 a.length c2) (aC (aU (len:=a.length) qN rfl) (aO (v:=zS a4 b.length c5) (aC (aU (len:=b.length) qN rfl) (aC (sK rfl rfl) (aM ?_))))))))))
 rcases aJ hm with ⟨c,hm⟩|⟨c,hm⟩
 ·exact aF
 ·refine aP c rfl (aT (aE (aH (aL (aI (v:=i64 0) (aM (aQ [] (fun f w=>aCH=some R/\aG G K (L) w) aF ?_)))))));obtain ⟨j,d,ho⟩:=aB hm
  exact bS [0,1] d (fun e f w=>f 5=i64 e/\aG G K (L) w) aF aF
theorem aMz {a b:(List Int)} {R:Bool} (hm:aCI a b=some R) (g:aG G K (L) w) (h:aX K a1 c2 a) (i:aX K a4 c5 b):
  Calls prog 214 ([zS a1 a.length c2,zS a4 b.length c5]:List Value).toArray w (cJ fun v w'=>v=zB R/\aG G K (L) w'):=by
 refine aN func214 rfl (by kernel_rfl) (by show (2:Nat)<=26;decide) ?_;unfold aCI at hm
 refine aL (aI (v:=zB false) (aM (aH (aL (aO (v:=zS a1 a.length c2) (aC (aU (len:=a.length) dW rfl) (aO (v:=zS a4 b.length c5) (aC (aU (len:=b.length) dW rfl) (aC (sK rfl rfl) (aM ?_))))))))))
 rcases aJ hm with ⟨c,hm⟩|⟨c,hm⟩
 ·exact aF
 ·refine aP c rfl (aT (aE (aH (aL (aI (v:=i64 0) (aM (aQ [] (fun f w=>aIv=some R/\aG G K (L) w) aF ?_)))))));obtain ⟨j,d,ho⟩:=aB hm
  exact bS [0,1] d (fun e f w=>f 5=i64 e/\aG G K (L) w) aF aF
theorem aJn {a b:bA} {R:Bool} (hm:aAo a b=some R) (c:aG G K (L) w) (d:aX K a1 c2 a.Values) (e:aX K a4 c5 b.Values):
  Calls prog 171 ([zA #[i64 a.Definition,zS a1 a.Values.length c2],zA #[i64 b.Definition,zS a4 b.Values.length c5]]:List Value).toArray w (cJ fun v w'=>v=zB R/\aG G K (L) w'):=by
 exact aF
theorem aIf {a b:(List bA)} {R:Bool} (hm:xP a b=some R) (g:aG G K (L) w) (h:aX K a1 c2 a) (i:aX K a4 c5 b):
  Calls prog 125 ([zS a1 a.length c2,zS a4 b.length c5]:List Value).toArray w (cJ fun v w'=>v=zB R/\aG G K (L) w'):=by
 refine aN func125 rfl (by kernel_rfl) (by show (2:Nat)<=27;decide) ?_;unfold xP at hm
 refine aL (aI (v:=zB false) (aM (aH (aL (aO (v:=zS a1 a.length c2) (aC (aU (len:=a.length) xZ rfl) (aO (v:=zS a4 b.length c5) (aC (aU (len:=b.length) xZ rfl) (aC (sK rfl rfl) (aM ?_))))))))))
 rcases aJ hm with ⟨c,hm⟩|⟨c,hm⟩
 ·exact aF
 ·refine aP c rfl (aT (aE (aH (aL (aI (v:=i64 0) (aM (aQ [] (fun f w=>aDx=some R/\aG G K (L) w) aF ?_)))))));obtain ⟨j,d,ho⟩:=aB hm
  exact bS [0,1] d (fun e f w=>f 5=i64 e/\aG G K (L) w) aF aF
theorem aLt {a b:bD} {R:Bool} (hm:aDy a b=some R) (c:aG G K (L) w):
  Calls prog 172 ([zA #[str a.Left,str a.Right,str a.Result],zA #[str b.Left,str b.Right,str b.Result]]:List Value).toArray w (cJ fun v w'=>v=zB R/\aG G K (L) w'):=by
 exact aF
theorem aKM {a b:(List bD)} {R:Bool} (hm:aBL a b=some R) (g:aG G K (L) w) (h:aX K a1 c2 a) (i:aX K a4 c5 b):
  Calls prog 126 ([zS a1 a.length c2,zS a4 b.length c5]:List Value).toArray w (cJ fun v w'=>v=zB R/\aG G K (L) w'):=by
 refine aN func126 rfl (by kernel_rfl) (by show (2:Nat)<=27;decide) ?_;unfold aBL at hm
 refine aL (aI (v:=zB false) (aM (aH (aL (aO (v:=zS a1 a.length c2) (aC (aU (len:=a.length) vX rfl) (aO (v:=zS a4 b.length c5) (aC (aU (len:=b.length) vX rfl) (aC (sK rfl rfl) (aM ?_))))))))))
 rcases aJ hm with ⟨c,hm⟩|⟨c,hm⟩
 ·exact aF
 ·refine aP c rfl (aT (aE (aH (aL (aI (v:=i64 0) (aM (aQ [] (fun f w=>aFT=some R/\aG G K (L) w) aF ?_)))))));obtain ⟨j,d,ho⟩:=aB hm
  exact bS [0,1] d (fun e f w=>f 5=i64 e/\aG G K (L) w) aF aF
theorem aMA {a b:bM} {R:Bool} (hm:aFw a b=some R) (c:aG G K (L) w) (d:aX K a1 c2 a.Definitions) (e:aX K a4 c5 a.Components) (g:aX K a7 c8 a.Meetings) (h:aX K a10 c11 a.Allowed) (i:aX K a13 c14 a.Hidden) (j:aX K a16 c17 b.Definitions) (k:aX K a19 c20 b.Components) (l:aX K a22 c23 b.Meetings) (m:aX K a25 c26 b.Allowed) (n:aX K a28 c29 b.Hidden):
  Calls prog 63 ([zA #[zS a1 a.Definitions.length c2,zS a4 a.Components.length c5,zS a7 a.Meetings.length c8,zS a10 a.Allowed.length c11,zS a13 a.Hidden.length c14],zA #[zS a16 b.Definitions.length c17,zS a19 b.Components.length c20,zS a22 b.Meetings.length c23,zS a25 b.Allowed.length c26,zS a28 b.Hidden.length c29]]:List Value).toArray w (cJ fun v w'=>v=zB R/\aG G K (L) w'):=by
 exact aF
theorem aOW {a b:Kept} {R:Bool} (hm:aKu a b=some R) (c:aG G K (L) w) (d:aX K a1 c2 a.S.L) (e:aX K a4 c5 a.S.E) (g:aX K a7 c8 a.Formula) (h:aX K a10 c11 a.Source.Definitions) (i:aX K a13 c14 a.Source.Components) (j:aX K a16 c17 a.Source.Meetings) (k:aX K a19 c20 a.Source.Allowed) (l:aX K a22 c23 a.Source.Hidden) (m:aX K a25 c26 b.S.L) (n:aX K a28 c29 b.S.E) (o:aX K a31 c32 b.Formula) (p:aX K a34 c35 b.Source.Definitions) (q:aX K a37 c38 b.Source.Components) (r:aX K a40 c41 b.Source.Meetings) (t:aX K a43 c44 b.Source.Allowed) (u:aX K a46 c47 b.Source.Hidden):
  Calls prog 30 ([zA #[str a.Name,i64 a.Kind,i64 a.S.N,i64 a.S.I,zS a1 a.S.L.length c2,zS a4 a.S.E.length c5,zS a7 a.Formula.length c8,zS a10 a.Source.Definitions.length c11,zS a13 a.Source.Components.length c14,zS a16 a.Source.Meetings.length c17,zS a19 a.Source.Allowed.length c20,zS a22 a.Source.Hidden.length c23],zA #[str b.Name,i64 b.Kind,i64 b.S.N,i64 b.S.I,zS a25 b.S.L.length c26,zS a28 b.S.E.length c29,zS a31 b.Formula.length c32,zS a34 b.Source.Definitions.length c35,zS a37 b.Source.Components.length c38,zS a40 b.Source.Meetings.length c41,zS a43 b.Source.Allowed.length c44,zS a46 b.Source.Hidden.length c47]]:List Value).toArray w (cJ fun v w'=>v=zB R/\aG G K (L) w'):=by
 exact aF
theorem aNT {a b:(List Kept)} {R:Bool} (hm:aHG a b=some R) (hs:aG G K (L) w) (g:aX K a1 c2 a) (h:aX K a4 c5 b):
  Calls prog 17 ([zS a1 a.length c2,zS a4 b.length c5]:List Value).toArray w (cJ fun v w'=>v=zB R/\aG G K (L) w'):=by
 refine aN func17 rfl (by kernel_rfl) (by show (2:Nat)<=27;decide) ?_;unfold aHG at hm
 refine aL (aI (v:=zB false) (aM (aH (aL (aO (v:=zS a1 a.length c2) (aC (aU (len:=a.length) vY rfl) (aO (v:=zS a4 b.length c5) (aC (aU (len:=b.length) vY rfl) (aC (sK rfl rfl) (aM ?_))))))))))
 rcases aJ hm with ⟨i,hm⟩|⟨i,hm⟩
 ·exact aF
 ·refine aP i rfl (aT (aE (aH (aL (aI (v:=i64 0) (aM (aQ [] (fun f w=>aKv=some R/\aG G K (L) w) aF ?_)))))));obtain ⟨b1,n,ho⟩:=aB hm
  refine bS [0,1] n (fun j f w=>f 5=i64 j/\aG G K (L) w) aF ?_
  ·rintro j b2 f b3 hm hr ⟨e,d⟩
   unfold xQ at hm
   refine aH (aL (bO e (aO (v:=zS a1 a.length c2) (aC (aU (len:=a.length) vY rfl) (aC (dJ rfl rfl) (aM ?_))))))
   rcases aJ hm with ⟨k,hm⟩|⟨k,hm⟩
   ·refine aR k rfl (aT (aE (aH (bJ (aH (fH (C:=fun w'=>aG G K (L) w') Tryz_mixed (by kernel_rfl) (aG.mono d (eF.drew _)) (aY (fun _ d=>aZ (v:=zS a1 a.length c2) rfl) (aY (fun _ d=>aZ e) ?_))))))));obtain ⟨c,l,hm⟩:=aB hm
    refine aY (fun _ d=>cK vY rfl g rfl rfl rfl l) ?_;obtain ⟨b4,o,p⟩:=aX.el (sz:=12) rfl g l
    obtain ⟨q,r,u,x,y,z,J,V,Z,a0,a2,a3,a5,a6,a7,a8,rfl,b5,b6,b7,b8,b9,c0,c1,c3⟩:=p
    refine aY (fun _ d=>dQ (t:=0) (vs:=[str c.Name,i64 c.Kind,i64 c.S.N,i64 c.S.I,zS q c.S.L.length r,zS u c.S.E.length x,zS y c.Formula.length z,zS J c.Source.Definitions.length V,zS Z c.Source.Components.length a0,zS a2 c.Source.Meetings.length a3,zS a5 c.Source.Allowed.length a6,zS a7 c.Source.Hidden.length a8]) aNh d o rfl rfl rfl) (aY (fun _ d=>aZ (v:=zS a4 b.length c5) rfl) (aY (fun _ d=>aZ e) ?_))
    obtain ⟨c4,m,hm⟩:=aB hm
    refine aY (fun _ d=>cK vY rfl h rfl rfl rfl m) ?_;obtain ⟨c6,c8,a9⟩:=aX.el (sz:=12) rfl h m
    obtain ⟨c9,d0,d1,d2,d3,d4,d5,d6,d7,d8,d9,e0,e1,e2,e3,e4,rfl,e5,e6,e7,e8,e9,f0,f1,f2⟩:=a9
    exact aF
   ·exact aF
theorem aIE {a b:pR} {R:Bool} (hm:aKw a b=some R) (c:aG G K (L) w) (d:aX K a1 c2 a.Kept) (e:aX K a4 c5 b.Kept):
  Calls prog 8 ([zA #[zS a1 a.Kept.length c2],zA #[zS a4 b.Kept.length c5]]:List Value).toArray w (cJ fun v w'=>v=zB R/\aG G K (L) w'):=by
 exact aF
theorem xU {e:pR} {R:Bool} (hm:qH e=some R) (hs:aG G K (L) w) (hG:G.lo=0) (n:aX K a1 c2 e.Kept):
  Calls prog 3 ([zA #[zS a1 e.Kept.length c2]]:List Value).toArray w (cJ fun v w'=>v=zB R/\aG G K (L) w'):=by
 let d:=[zS a1 e.Kept.length c2]
 let u:=[zA #[zS a1 e.Kept.length c2]]
 refine aN func3 rfl (by kernel_rfl) (by show (1:Nat)<=27;decide) ?_;unfold qH at hm
 refine aL (eO (v:=zA #[zS a1 e.Kept.length c2]) (vs:=d) hs rfl rfl (fun x w5 a4=>(aI (v:=zB false) (aM (aL (aI (v:=i64 1048576) (aM (aL (aC (jN (us:=d) ag_24 a4 (i:=0) rfl rfl rfl rfl) (aO (v:=i64 1048576) ?_))))))))));obtain ⟨r7,q8,hm⟩:=aB hm
 refine aW (vs:=[zA #[zS a1 e.Kept.length c2],i64 1048576]) call4 rfl (aIx q8 a4 n) ?_
 rintro _ w9 ⟨rfl,a6⟩
 refine aI (v:=i64 r7) (aM (aH (aL (aO (v:=i64 r7) (aC (dJ rfl rfl) (aM ?_))))))
 rcases aJ hm with ⟨a7,hm⟩|⟨a7,hm⟩
 ·exact aF
 ·refine aP a7 rfl (aT (aE (aL (aC (jN (us:=d) ag_24 a6 (i:=0) rfl rfl rfl rfl) ?_))));obtain ⟨g,c0,hm⟩:=aB hm
  refine aW (vs:=u) call6 rfl (aAp c0 a6 n) ?_
  rintro _ f8 ⟨o,h,j,rfl,p,c1⟩
  obtain ⟨f9,g0,c3,c4,c5⟩:=aG.lendSp c1 (Hp.le_refl _) .head
  obtain ⟨a8,c6,hm⟩:=aB hm
  refine aW (vs:=[zA #[zS h g.Kept.length j]]) call5 rfl (aGc c6 c4 hG c3) ?_
  rintro _ g1 ⟨rfl,c7⟩
  have a9:=c5 _ _ c7
  refine aI (v:=str a8) (aM (aL (aC (jN (us:=d) ag_24 a9 (i:=1) rfl rfl rfl rfl) ?_)));obtain ⟨a,c8,hm⟩:=aB hm
  refine aW (vs:=u) call6 rfl (aAp c8 a9 (n.mono p)) ?_
  rintro _ g2 ⟨b0,b,c,rfl,y,c9⟩
  refine dV (vs:=[zS none 0 0]) zeroValue29 c9 rfl (fun b1 g3 d0=>(eW (i:=0) (ns:=[zS b a.Kept.length c]) (us:=[zS b a.Kept.length c]) sizeOf29 d0 rfl rfl rfl rfl rfl (jY rfl) rfl rfl (fun d1 (b2:aG G b0 (box b1 29 [zS b a.Kept.length c]::aV 50 b0 b c a.Kept::aV 50 o h j g.Kept::box x 24 d::L) d1)=>(aM (aL (aC (jN (us:=[zS b a.Kept.length c]) ag_29 b2 (i:=0) rfl rfl rfl rfl) ?_))))));obtain ⟨g4,g5,d2,d3,d4⟩:=aG.lendSp b2 (Hp.le_refl _) zt1
  obtain ⟨b3,d5,hm⟩:=aB hm
  refine aW (vs:=[zA #[zS b a.Kept.length c]]) call7 rfl (aGg d5 d3 hG d2) ?_
  rintro _ z ⟨rfl,d6⟩
  have d7:=d4 _ _ d6
  refine aI (v:=str b3) (aM (aH (aL (aO (v:=str b3) (aO (v:=str a8) (aC (R_neqS rfl rfl) (aM ?_)))))))
  rcases aJ hm with ⟨b5,hm⟩|⟨b5,hm⟩
  ·exact aF
  ·refine aP b5 rfl (aT (aE (aH (aH ?_))));obtain ⟨d8,J,d9,V⟩:=aG.giveSp d7 (Hp.le_refl _) .head
   replace V:aG G d8 (box b1 29 [zS b a.Kept.length c]::aV 50 o h j g.Kept::box x 24 d::L) z:=V
   obtain ⟨e0,q,e1,Z,_⟩:=aG.lendBp V .head
   replace Z:aG G e0 (aV 50 o h j g.Kept::box x 24 d::L) z:=Z
   obtain ⟨b6,k,e2,r,_⟩:=aG.lendBp Z zt1
   replace r:aG G b6 (aV 50 o h j g.Kept::L) z:=r
   refine lQ (C:=fun w'=>∃ L',aG G b6 L' w') [(0,0),(1,0),(2,1),(3,1),(4,0)] Tryz_mixed (by kernel_rfl) (fun _ hg=>⟨_,aG.mono r hg⟩) (fun g6 e3=>?_)
   have l:=aG.mono r e3
   refine dN rfl (fun _ ⟨_,l⟩=>dQ (t:=0) (vs:=[zS b a.Kept.length c]) ag_29 l (e1.mono k) (elp_b rfl) rfl rfl) (dN rfl (fun _ ⟨_,l⟩=>dQ (t:=0) (vs:=d) ag_24 l e2 (elp_b rfl) rfl rfl) (vV rfl ?_));obtain ⟨e4,e5,hm⟩:=aB hm
   refine aW (vs:=u) call6 rfl (aAp e5 l (n.mono (zL (zL (zL (zL p y) J) q) k))) ?_
   rintro _ g7 ⟨g8,e6,e7,rfl,m,b7⟩
   refine bR (aE ⟨⟨_,(aG.weakK b7 m)⟩,?_⟩)
   refine vV rfl ?_;obtain ⟨g9,e8,e9,f0,f1⟩:=aG.lendSp b7 (Hp.le_refl _) .head
   obtain ⟨h0,f2,hm⟩:=aB hm
   refine aW (vs:=[zA #[zS b a.Kept.length c],zA #[zS e6 e4.Kept.length e7]]) call8 rfl (aIE f2 f0 (d9.mono (zL (zL (zL q k) m) e8)) e9) ?_
   rintro _ h1 ⟨rfl,f3⟩
   have a0:=f1 _ _ f3
   refine bR (aE ⟨⟨_,(aG.weakK a0 m)⟩,?_⟩)
   refine dN rfl (fun _ _=>sL rfl) (WE_nil (aE ?_))
   rcases aJ hm with ⟨a2,hm⟩|⟨a2,hm⟩
   ·refine aR a2 rfl (aL (aI (v:=zB false) (aM ?_)));obtain rfl:=Option.some.inj hm
    exact aGk (aPM (aGm results3 rfl ⟨rfl,(aG.weakK (aG.arr 2 [] a0 rfl) (zL (zL (zL (zL (zL p y) J) q) k) m))⟩))
   ·refine aP a2 rfl (aT (aE (aL (aI (v:=zB true) (aM ?_)))));obtain rfl:=Option.some.inj hm
    exact aGk (aGm results3 rfl ⟨rfl,(aG.weakK (aG.arr 2 [] a0 rfl) (zL (zL (zL (zL (zL p y) J) q) k) m))⟩)
end Gv
