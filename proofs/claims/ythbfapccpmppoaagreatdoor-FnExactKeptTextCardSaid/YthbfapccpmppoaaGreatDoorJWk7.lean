/- Walks, printed by program. -/
import Derived.Test.YthbfapccpmppoaaGreatDoorJWk5
set_option linter.all false
namespace Gv
open Gv.Hp renaming le_refl→zR
open Go.Value renaming slice→zS,bool→zB,pointer→zP,agg→zA,tuple→zT
open Go Go.Proofs Go.Proofs.Tryz
set_option maxRecDepth 20000
set_option maxHeartbeats 40000000
variable {G:kH} {K:Hp} {L:List eW} {w:World} {a1 a4 a7 a10 a13 a16 a19 a22 a25 a28:Option Addr} {c2 c5 c8 c11 c14 c17 c20 c23 c26 c29:Nat}
theorem uO {a b:(List Int)} {R:Bool} (hm:jN a b=some R) (g:aF G K (L) w) (h:aW K a1 c2 a) (i:aW K a4 c5 b):
  Calls prog 127 ([zS a1 a.length c2,zS a4 b.length c5]:List Value).toArray w (cL fun v w'=>v=zB R/\aF G K (L) w'):=by
 refine aN func127 rfl (by kernel_rfl) (by show (2:Nat)<=26;decide) ?_;unfold jN at hm
 refine aJ (aG (v:=zB false) (aM (aH (aJ (aO (v:=zS a1 a.length c2) (aC (aX (len:=a.length) dR rfl) (aO (v:=zS a4 b.length c5) (aC (aX (len:=b.length) dR rfl) (aC (sI rfl rfl) (aM ?_))))))))))
 rcases aI hm with ⟨c,hm⟩|⟨c,hm⟩
 ·exact aE
 ·refine aP c rfl (aU (aD (aH (aJ (aO (v:=zS a1 a.length c2) (aC (aX (len:=a.length) dR rfl) (aO (v:=i64 0) (aM (aQ [] (fun f w=>lS=some R/\aF G K (L) w) aE ?_)))))))));obtain ⟨j,d,ho⟩:=aB hm
  exact bW [0,1,12] d (fun e f w=>f 13=i64 e/\aF G K (L) w) aE aE
theorem aAw {a b:aY} {R:Bool} (hm:aAK a b=some R) (d:aF G K (L) w) (g:aW K a1 c2 a.Values) (h:aW K a4 c5 b.Values):
  Calls prog 87 ([zA #[i64 a.Definition,zS a1 a.Values.length c2],zA #[i64 b.Definition,zS a4 b.Values.length c5]]:List Value).toArray w (cL fun v w'=>v=zB R/\aF G K (L) w'):=by
 refine aN func87 rfl (by kernel_rfl) (by show (2:Nat)<=17;decide) ?_;unfold aAK at hm
 exact aJ (eT (v:=zA #[i64 a.Definition,zS a1 a.Values.length c2]) (vs:=[i64 a.Definition,zS a1 a.Values.length c2]) d rfl rfl (fun i j e=>(eT (v:=zA #[i64 b.Definition,zS a4 b.Values.length c5]) (vs:=[i64 b.Definition,zS a4 b.Values.length c5]) e rfl rfl (fun k l m=>(aG (v:=zB false) (aM (aH (aZ [] (fun f w=>∃ c,uN c=some R/\f 4=zB c/\aF G K (L) w) aE aE))))))))
theorem lL {b c:(List bB)} {R:Bool} (hm:dA b c=some R) (J:aF G K (L) w) (h:aW K a1 c2 b) (i:aW K a4 c5 c):
  Calls prog 88 ([zS a1 b.length c2,zS a4 c.length c5]:List Value).toArray w (cL fun v w'=>v=zB R/\aF G K (L) w'):=by
 refine aN func88 rfl (by kernel_rfl) (by show (2:Nat)<=26;decide) ?_;unfold dA at hm
 refine aJ (aG (v:=zB false) (aM (aH (aJ (aO (v:=zS a1 b.length c2) (aC (aX (len:=b.length) vO rfl) (aO (v:=zS a4 c.length c5) (aC (aX (len:=c.length) vO rfl) (aC (sI rfl rfl) (aM ?_))))))))))
 rcases aI hm with ⟨j,hm⟩|⟨j,hm⟩
 ·exact aE
 ·refine aP j rfl (aU (aD (aH (aJ (aO (v:=zS a1 b.length c2) (aC (aX (len:=b.length) vO rfl) (aO (v:=i64 0) (aM (aQ [] (fun f w=>gO=some R/\aF G K (L) w) aE ?_)))))))));obtain ⟨V,o,ho⟩:=aB hm
  refine bW [0,1,12] o (fun d f w=>f 13=i64 d/\aF G K (L) w) aE ?_
  ·rintro d Z f a0 hm hr ⟨k,a⟩
   unfold gP at hm
   refine aJ (aC (eC k rfl) (aM (aH ?_)))
   rcases aI hm with ⟨l,hm⟩|⟨l,hm⟩
   ·refine aS l rfl (aU (aD (aH (bJ (aJ (bR k (aG (v:=i64 d) (aM (aH (fZ (C:=fun w'=>aF G K (L) w') Tryz_mixed (by kernel_rfl) (aF.mono a (eI.drew _)) (bE (fun _ a=>bC (v:=zS a1 b.length c2) rfl) (bE (fun _ a=>bC (v:=i64 d) rfl) ?_))))))))))));obtain ⟨e,m,hm⟩:=aB hm
    refine bE (fun _ a=>cR vO rfl h rfl rfl rfl m) ?_;obtain ⟨a2,p,q⟩:=aW.el (sz:=3) rfl h m
    cases q
    refine bE (fun _ a=>eD (t:=0) (vs:=[str e.Left,str e.Right,str e.Result]) aKs a p rfl rfl rfl) (bE (fun _ a=>bC (v:=zS a4 c.length c5) rfl) (bE (fun _ a=>bC (v:=i64 d) rfl) ?_));obtain ⟨g,n,hm⟩:=aB hm
    refine bE (fun _ a=>cR vO rfl i rfl rfl rfl n) ?_;obtain ⟨a3,r,u⟩:=aW.el (sz:=3) rfl i n
    cases u
    refine bE (fun _ a=>eD (t:=0) (vs:=[str g.Left,str g.Right,str g.Result]) aKs a r rfl rfl rfl) (bE (fun _ a=>R_neqG (eq_135 (x:=e) (y:=g)) rfl rfl) (uH (fun a5 a6=>(aD ?_))))
    rcases aI hm with ⟨z,hm⟩|⟨z,hm⟩
    ·exact aE
    ·exact aE
   ·exact aE
theorem eY {e h:(List Definition)} {R:Bool} (hm:bA e h=some R) (hs:aF G K (L) w) (m:aW K a1 c2 e) (n:aW K a4 c5 h):
  Calls prog 84 ([zS a1 e.length c2,zS a4 h.length c5,Value.func (.func 85) #[] #[]]:List Value).toArray w (cL fun v w'=>v=zB R/\aF G K (L) w'):=by
 refine aN func84 rfl (by kernel_rfl) (by show (3:Nat)<=32;decide) ?_;unfold bA at hm
 refine aJ (aG (v:=zB false) (aM (aH (aJ (aO (v:=zS a1 e.length c2) (aC (aX (len:=e.length) qI rfl) (aO (v:=zS a4 h.length c5) (aC (aX (len:=h.length) qI rfl) (aC (sI rfl rfl) (aM ?_))))))))))
 rcases aI hm with ⟨o,hm⟩|⟨o,hm⟩
 ·exact aE
 ·refine aP o rfl (aU (aD (aH (aJ (aO (v:=zS a1 e.length c2) (aC (aX (len:=e.length) qI rfl) (aO (v:=i64 0) (aM (aQ [] (fun f w=>cO=some R/\aF G K (L) w) aE ?_)))))))));obtain ⟨b2,z,ho⟩:=aB hm
  refine bW [1,2,15,16] z (fun j f w=>f 17=i64 j/\aF G K (L) w) aE ?_
  ·rintro j b3 f b4 hm hr ⟨k,p⟩
   unfold cP at hm
   refine aJ (aC (eC k rfl) (aM (aH ?_)))
   rcases aI hm with ⟨q,hm⟩|⟨q,hm⟩
   ·refine aS q rfl (aU (aD (aH (bJ (aJ (bR k ?_))))));obtain ⟨a,r,hm⟩:=aB hm
    refine aC (cR qI rfl m rfl rfl k r) ?_;obtain ⟨b5,J,V⟩:=aW.el (sz:=3) rfl m r
    obtain ⟨c,d,rfl,Z⟩:=V
    refine aC (eD (t:=0) (vs:=[str a.Name,i64 a.Parameters,zS c a.Body.length d]) aEH p J rfl rfl rfl) (eE (vs:=[str ([]:aL),i64 0,zS none 0 0]) zeroValue131 p rfl (fun u b6 a0=>(aG (v:=i64 j) (fA (i:=0) (ns:=[str a.Name,i64 a.Parameters,zS c a.Body.length d]) (us:=[str a.Name,i64 a.Parameters,zS c a.Body.length d]) sizeOf131 a0 rfl rfl rfl rfl rfl (kJ rfl) rfl rfl (fun a2 (x:aF G K (box u 131 [str a.Name,i64 a.Parameters,zS c a.Body.length d]::L) a2)=>(aM (aJ (aO (v:=zS a4 h.length c5) (aO (v:=i64 j) ?_)))))))))
    obtain ⟨b,y,hm⟩:=aB hm
    refine aC (cR qI rfl n rfl rfl rfl y) ?_;obtain ⟨b7,a3,a5⟩:=aW.el (sz:=3) rfl n y
    obtain ⟨g,c48,rfl,a6⟩:=a5
    refine aC (eD (t:=0) (vs:=[str b.Name,i64 b.Parameters,zS g b.Body.length c48]) aEH x a3 rfl rfl rfl) (eE (vs:=[str ([]:aL),i64 0,zS none 0 0]) zeroValue131 x rfl (fun a7 b8 a8=>(fA (i:=0) (ns:=[str b.Name,i64 b.Parameters,zS g b.Body.length c48]) (us:=[str b.Name,i64 b.Parameters,zS g b.Body.length c48]) sizeOf131 a8 rfl rfl rfl rfl rfl (kJ rfl) rfl rfl (fun a9 (l:aF G K (box a7 131 [str b.Name,i64 b.Parameters,zS g b.Body.length c48]::box u 131 [str a.Name,i64 a.Parameters,zS c a.Body.length d]::L) a9)=>(aM (aJ (aO (v:=Value.func (.func 85) #[] #[]) (aC (jL (us:=[str a.Name,i64 a.Parameters,zS c a.Body.length d]) aEH l (i:=1) rfl rfl rfl rfl) (aC (jL (us:=[str b.Name,i64 b.Parameters,zS g b.Body.length c48]) aEH l (i:=0) rfl rfl rfl rfl) ?_)))))))))
    obtain ⟨b9,b0,hm⟩:=aB hm
    exact eM (vs:=[zA #[str a.Name,i64 a.Parameters,zS c a.Body.length d],zA #[str b.Name,i64 b.Parameters,zS g b.Body.length c48]]) (caps:=[]) (us:=[zA #[str a.Name,i64 a.Parameters,zS c a.Body.length d],zA #[str b.Name,i64 b.Parameters,zS g b.Body.length c48]]) rfl call85 rfl rfl (xP b0 l Z a6) aE
   ·exact aE
theorem fD {e h:(List aY)} {R:Bool} (hm:bF e h=some R) (hs:aF G K (L) w) (m:aW K a1 c2 e) (n:aW K a4 c5 h):
  Calls prog 86 ([zS a1 e.length c2,zS a4 h.length c5,Value.func (.func 87) #[] #[]]:List Value).toArray w (cL fun v w'=>v=zB R/\aF G K (L) w'):=by
 refine aN func86 rfl (by kernel_rfl) (by show (3:Nat)<=32;decide) ?_;unfold bF at hm
 refine aJ (aG (v:=zB false) (aM (aH (aJ (aO (v:=zS a1 e.length c2) (aC (aX (len:=e.length) xN rfl) (aO (v:=zS a4 h.length c5) (aC (aX (len:=h.length) xN rfl) (aC (sI rfl rfl) (aM ?_))))))))))
 rcases aI hm with ⟨o,hm⟩|⟨o,hm⟩
 ·exact aE
 ·refine aP o rfl (aU (aD (aH (aJ (aO (v:=zS a1 e.length c2) (aC (aX (len:=e.length) xN rfl) (aO (v:=i64 0) (aM (aQ [] (fun f w=>cW=some R/\aF G K (L) w) aE ?_)))))))));obtain ⟨b2,z,ho⟩:=aB hm
  refine bW [1,2,15,16] z (fun j f w=>f 17=i64 j/\aF G K (L) w) aE ?_
  ·rintro j b3 f b4 hm hr ⟨k,p⟩
   unfold cX at hm
   refine aJ (aC (eC k rfl) (aM (aH ?_)))
   rcases aI hm with ⟨q,hm⟩|⟨q,hm⟩
   ·refine aS q rfl (aU (aD (aH (bJ (aJ (bR k ?_))))));obtain ⟨a,r,hm⟩:=aB hm
    refine aC (cR xN rfl m rfl rfl k r) ?_;obtain ⟨b5,J,V⟩:=aW.el (sz:=2) rfl m r
    obtain ⟨c,d,rfl,Z⟩:=V
    refine aC (eD (t:=0) (vs:=[i64 a.Definition,zS c a.Values.length d]) aGd p J rfl rfl rfl) (eE (vs:=[i64 0,zS none 0 0]) zeroValue133 p rfl (fun u b6 a0=>(aG (v:=i64 j) (fA (i:=0) (ns:=[i64 a.Definition,zS c a.Values.length d]) (us:=[i64 a.Definition,zS c a.Values.length d]) sizeOf133 a0 rfl rfl rfl rfl rfl (kJ rfl) rfl rfl (fun a2 (x:aF G K (box u 133 [i64 a.Definition,zS c a.Values.length d]::L) a2)=>(aM (aJ (aO (v:=zS a4 h.length c5) (aO (v:=i64 j) ?_)))))))))
    obtain ⟨b,y,hm⟩:=aB hm
    refine aC (cR xN rfl n rfl rfl rfl y) ?_;obtain ⟨b7,a3,a5⟩:=aW.el (sz:=2) rfl n y
    obtain ⟨g,c48,rfl,a6⟩:=a5
    refine aC (eD (t:=0) (vs:=[i64 b.Definition,zS g b.Values.length c48]) aGd x a3 rfl rfl rfl) (eE (vs:=[i64 0,zS none 0 0]) zeroValue133 x rfl (fun a7 b8 a8=>(fA (i:=0) (ns:=[i64 b.Definition,zS g b.Values.length c48]) (us:=[i64 b.Definition,zS g b.Values.length c48]) sizeOf133 a8 rfl rfl rfl rfl rfl (kJ rfl) rfl rfl (fun a9 (l:aF G K (box a7 133 [i64 b.Definition,zS g b.Values.length c48]::box u 133 [i64 a.Definition,zS c a.Values.length d]::L) a9)=>(aM (aJ (aO (v:=Value.func (.func 87) #[] #[]) (aC (jL (us:=[i64 a.Definition,zS c a.Values.length d]) aGd l (i:=1) rfl rfl rfl rfl) (aC (jL (us:=[i64 b.Definition,zS g b.Values.length c48]) aGd l (i:=0) rfl rfl rfl rfl) ?_)))))))))
    obtain ⟨b9,b0,hm⟩:=aB hm
    exact eM (vs:=[zA #[i64 a.Definition,zS c a.Values.length d],zA #[i64 b.Definition,zS g b.Values.length c48]]) (caps:=[]) (us:=[zA #[i64 a.Definition,zS c a.Values.length d],zA #[i64 b.Definition,zS g b.Values.length c48]]) rfl call87 rfl rfl (aAw b0 l Z a6) aE
   ·exact aE
theorem aDq {a b:bM} {R:Bool} (hm:wS a b=some R) (d:aF G K (L) w) (g:aW K a1 c2 a.Definitions) (h:aW K a4 c5 a.Components) (i:aW K a7 c8 a.Meetings) (j:aW K a10 c11 a.Allowed) (k:aW K a13 c14 a.Hidden) (l:aW K a16 c17 b.Definitions) (m:aW K a19 c20 b.Components) (n:aW K a22 c23 b.Meetings) (o:aW K a25 c26 b.Allowed) (p:aW K a28 c29 b.Hidden):
  Calls prog 46 ([zA #[zS a1 a.Definitions.length c2,zS a4 a.Components.length c5,zS a7 a.Meetings.length c8,zS a10 a.Allowed.length c11,zS a13 a.Hidden.length c14],zA #[zS a16 b.Definitions.length c17,zS a19 b.Components.length c20,zS a22 b.Meetings.length c23,zS a25 b.Allowed.length c26,zS a28 b.Hidden.length c29]]:List Value).toArray w (cL fun v w'=>v=zB R/\aF G K (L) w'):=by
 refine aN func46 rfl (by kernel_rfl) (by show (2:Nat)<=38;decide) ?_;unfold wS at hm
 exact aJ (eT (v:=zA #[zS a1 a.Definitions.length c2,zS a4 a.Components.length c5,zS a7 a.Meetings.length c8,zS a10 a.Allowed.length c11,zS a13 a.Hidden.length c14]) (vs:=[zS a1 a.Definitions.length c2,zS a4 a.Components.length c5,zS a7 a.Meetings.length c8,zS a10 a.Allowed.length c11,zS a13 a.Hidden.length c14]) d rfl rfl (fun q r e=>(eT (v:=zA #[zS a16 b.Definitions.length c17,zS a19 b.Components.length c20,zS a22 b.Meetings.length c23,zS a25 b.Allowed.length c26,zS a28 b.Hidden.length c29]) (vs:=[zS a16 b.Definitions.length c17,zS a19 b.Components.length c20,zS a22 b.Meetings.length c23,zS a25 b.Allowed.length c26,zS a28 b.Hidden.length c29]) e rfl rfl (fun t u x=>(aG (v:=zB false) (aM (aH (aZ [] (fun f w=>∃ c,jW c=some R/\f 4=zB c/\aF G K (L) w) aE aE))))))))
theorem aIy {t:gM} {k:Int} {R:Bool} (hm:pD t k=some R) (a:aF G K (L) w) (b:aW K a1 c2 t.L) (c:aW K a4 c5 t.E):
  Calls prog 90 ([zA (zCa t a1 c2 a4 c5),i64 k]:List Value).toArray w (cL fun v w'=>v=zB R/\aF G K (L) w'):=by
 exact aE
theorem aPl {i many:Int} {R:Bool} (hm:aBr i many=some R) (a:aF G K (L) w):
  Calls prog 92 ([i64 i,i64 many]:List Value).toArray w (cL fun v w'=>v=zB R/\aF G K (L) w'):=by
 exact aE
theorem aFO {t:gM} {R:Bool} (hm:yQ t=some R) (y:aF G K (L) w) (hG:G.lo=0) (k:aW K a1 c2 t.L) (l:aW K a4 c5 t.E):
  Calls prog 47 ([zA (zCa t a1 c2 a4 c5)]:List Value).toArray w (cL fun v w'=>v=zB R/\aF G K (L) w'):=by
 let b:=(zC t a1 c2 a4 c5)
 refine aN func47 rfl (by kernel_rfl) (by show (1:Nat)<=109;decide) ?_;unfold yQ at hm
 refine aJ (eT (v:=zA (zCa t a1 c2 a4 c5)) (vs:=b) y rfl rfl (fun c w8 b6=>(aG (v:=zB false) (aM (aH (aH (aZ [1] (fun f w=>∃ g,mE t g=some R/\f 30=zB g/\aF G K (box c 38 b::L) w) ?_ ?_)))))))
 ·rintro f b8 ⟨g,hm,z,J⟩
  unfold mE at hm
  refine aD ?_
  rcases aI hm with ⟨m,hm⟩|⟨m,hm⟩
  ·exact aE
  ·refine aP m z (aU (aD (aH (aJ (aC (bH (t':=2) aLS rfl rfl) (aC (dD aMi J (i:=0) rfl rfl rfl) (aC (aX (len:=t.L.length) cT rfl) (aO (v:=i64 0) (aM (aQ [1] (fun f w=>zX t=some R/\aF G K (box c 38 b::L) w) ?_ ?_))))))))))
   ·rintro f b9 ⟨hm,V⟩
    unfold zX at hm
    refine aD (aH (aJ (aC (bH (t':=3) aAZ rfl rfl) (aC (dD aJb V (i:=0) rfl rfl rfl) (aC (aX (len:=t.E.length) uU rfl) (aO (v:=i64 0) (aM (aQ [] (fun f w=>aHO=some R/\aF G K (L) w) aE ?_))))))));obtain ⟨c0,Z,ho⟩:=aB hm
    refine bW [1,65,66] Z (fun d f w=>f 67=i64 d/\aF G K (box c 38 b::L) w) aE ?_
    ·rintro d a0 f c1 hm hr ⟨h,n⟩
     unfold tH at hm
     refine aJ (aC (eC h rfl) (aM (aH ?_)))
     rcases aI hm with ⟨o,hm⟩|⟨o,hm⟩
     ·refine aS o rfl (aU (aD (aH (bJ (aJ (bR h ?_))))));obtain ⟨a,p,hm⟩:=aB hm
      refine aC (cR uU rfl l rfl rfl h p) ?_;obtain ⟨c3,a2,a3⟩:=aW.el (sz:=3) rfl l p
      cases a3
      exact aC (eD (t:=0) (vs:=[i64 a.F,i64 a.B,i64 a.To]) aKr n a2 rfl rfl rfl) (eE (vs:=[i64 0,i64 0,i64 0]) zeroValue114 n rfl (fun a5 c4 a6=>(aG (v:=i64 d) (fA (i:=0) (ns:=[i64 a.F,i64 a.B,i64 a.To]) (us:=[i64 a.F,i64 a.B,i64 a.To]) sizeOf114 a6 rfl rfl rfl rfl rfl (kJ rfl) rfl rfl (fun a7 (c6:aF G K (box a5 114 [i64 a.F,i64 a.B,i64 a.To]::box c 38 b::L) a7)=>(aM (aH (aZ [1,65,66,67] (fun f w=>∃ q,mD d q=some a0/\f 107=zB q/\aF G K (box c 38 b::L) w) aE aE))))))))
     ·exact aE
   obtain ⟨c7,a8,ho⟩:=aB hm
   refine bW [1,32,33] a8 (fun e f w=>f 34=i64 e/\aF G K (box c 38 b::L) w) aE ?_
   ·rintro e a9 f c8 hm hr ⟨j,b0⟩
    unfold tI at hm
    refine aJ (aC (eC j rfl) (aM (aH ?_)))
    rcases aI hm with ⟨r,hm⟩|⟨r,hm⟩
    ·refine aS r rfl (aU (aD (aH (bJ (aJ (bR j ?_))))));obtain ⟨b1,u,hm⟩:=aB hm
     refine aC (cR cT rfl k rfl rfl j u) ?_;obtain ⟨c9,b2,b3⟩:=aW.el (sz:=1) rfl k u
     cases b3
     exact aC (bZ (t:=0) oK b0 b2 rfl rfl) (aG (v:=i64 e) (aG (v:=str b1) (aM (aH (aZ [1,32,33,34] (fun f w=>∃ x,pE e x=some a9/\f 62=zB x/\aF G K (box c 38 b::L) w) aE aE)))))
    ·exact aE
 exact aE
theorem aAx {n:bI} {R:Int} (hm:jX n=some R) (d:aF G K (L) w):
  Calls prog 131 ([zA #[i64 n.Kind,i64 n.Variable,str n.B,zB n.Not]]:List Value).toArray w (cL fun v w'=>v=i64 R/\aF G K (L) w'):=by
 refine aN func131 rfl (by kernel_rfl) (by show (1:Nat)<=13;decide) ?_;unfold jX at hm
 refine aJ (eT (v:=zA #[i64 n.Kind,i64 n.Variable,str n.B,zB n.Not]) (vs:=[i64 n.Kind,i64 n.Variable,str n.B,zB n.Not]) d rfl rfl (fun h j e=>(aG (v:=i64 0) (aM (aH (aJ (aC (bH (t':=0) aCU rfl rfl) (aC (dD gJ e (i:=0) rfl rfl rfl) (aM (bJ (gI [4] (fun f w=>∃ a,lF n a=some R/\f 5=zB a/\aF G K (L) w) ?_ ?_)))))))))))
 ·rintro f k ⟨a,hm,g,l⟩
  unfold lF at hm
  rcases aI hm with ⟨b,hm⟩|⟨b,hm⟩
  ·exact aE
  ·exact aP b g (gI [] (fun f w=>∃ c,jA c=some R/\f 8=zB c/\aF G K (L) w) aE aE)
 exact aE
theorem aMS {a:(List bI)} {R:Bool} (hm:aEh a=some R) (g:aF G K (L) w) (h:aW K a1 c2 a):
  Calls prog 94 ([zS a1 a.length c2]:List Value).toArray w (cL fun v w'=>v=zB R/\aF G K (L) w'):=by
 refine aN func94 rfl (by kernel_rfl) (by show (1:Nat)<=22;decide) ?_;unfold aEh at hm
 refine aJ (aG (v:=zB false) (aM (aJ (aG (v:=i64 1) (aM (aH (aJ (aO (v:=zS a1 a.length c2) (aC (aX (len:=a.length) sB rfl) (aO (v:=i64 0) (aM (aQ [] (fun f w=>∃ b,aJz b=some R/\f 3=i64 b/\aF G K (L) w) aE ?_))))))))))));obtain ⟨i,c,ho⟩:=aB hm
 exact cD [6,7] c (fun d e f w=>f 3=i64 d/\f 8=i64 e/\aF G K (L) w) aE aE
theorem xE {n:bI} {R:Bool} (hm:pP n=some R) (b:aF G K (L) w):
  Calls prog 132 ([zA #[i64 n.Kind,i64 n.Variable,str n.B,zB n.Not]]:List Value).toArray w (cL fun v w'=>v=zB R/\aF G K (L) w'):=by
 refine aN func132 rfl (by kernel_rfl) (by show (1:Nat)<=11;decide) ?_;unfold pP at hm
 exact aJ (eT (v:=zA #[i64 n.Kind,i64 n.Variable,str n.B,zB n.Not]) (vs:=[i64 n.Kind,i64 n.Variable,str n.B,zB n.Not]) b rfl rfl (fun c d e=>(aG (v:=zB false) (aM (aH (aZ [] (fun f w=>∃ a,lT a=some R/\f 2=zB a/\aF G K (L) w) aE aE))))))
theorem rY {a b:aL} {R:(aL × Bool)} (hm:iG a b=some R) (c:aF G K (L) w):
  Calls prog 205 ([str a,str b]:List Value).toArray w (cL fun v w'=>v=zT #[str R.1,zB R.2]/\aF G K (L) w'):=by
 exact aE
theorem mG {a b:aL} {R:(aL × Bool)} (hm:kC a b=some R) (c:aF G K (L) w):
  Calls prog 172 ([str a,str b]:List Value).toArray w (cL fun v w'=>v=zT #[str R.1,zB R.2]/\aF G K (L) w'):=by
 exact aE
theorem aKD {a:aL} {R:Bool} (hm:aAq a=some R) (d:aF G K (L) w) (g:G.lo=0):
  Calls prog 133 ([str a]:List Value).toArray w (cL fun v w'=>v=zB R/\aF G K (L) w'):=by
 refine aN func133 rfl (by kernel_rfl) (by show (1:Nat)<=23;decide) ?_;unfold aAq at hm
 refine aJ (aG (v:=zB false) (aM (aJ (aO (v:=str a) ?_))));obtain ⟨b,e,hm⟩:=aB hm
 refine aT (vs:=[str a,str ([42]:aL)]) call172 rfl (mG e d) ?_
 rintro _ h ⟨rfl,i⟩
 exact aO (v:=zT #[str b.1,zB b.2]) (aC (iL rfl rfl) (aC (iL rfl rfl) (aG (v:=str b.1) (aG (v:=zB b.2) (aM (aH (aZ [] (fun f w=>∃ c,mZ c=some R/\f 2=zB c/\aF G K (L) w) aE aE)))))))
theorem aGJ {n:bI} {R:Bool} (hm:oQ n=some R) (e:aF G K (L) w) (h:G.lo=0):
  Calls prog 95 ([zA #[i64 n.Kind,i64 n.Variable,str n.B,zB n.Not]]:List Value).toArray w (cL fun v w'=>v=zB R/\aF G K (L) w'):=by
 let a:=[i64 n.Kind,i64 n.Variable,str n.B,zB n.Not]
 refine aN func95 rfl (by kernel_rfl) (by show (1:Nat)<=16;decide) ?_;unfold oQ at hm
 refine aJ (eT (v:=zA #[i64 n.Kind,i64 n.Variable,str n.B,zB n.Not]) (vs:=a) e rfl rfl (fun j k b=>(aG (v:=zB false) (aM (aH (aJ (aC (jL (us:=a) aMm b (i:=0) rfl rfl rfl rfl) ?_)))))));obtain ⟨l,g,hm⟩:=aB hm
 refine aT (vs:=[zA #[i64 n.Kind,i64 n.Variable,str n.B,zB n.Not]]) call132 rfl (xE g b) ?_
 rintro _ m ⟨rfl,o⟩
 refine aM ?_
 rcases aI hm with ⟨c,hm⟩|⟨c,hm⟩
 ·exact aE
 ·exact aP c rfl (aU (aD (aH (aZ [] (fun f w=>∃ d,nY d=some R/\f 2=zB d/\aF G K (L) w) aE aE))))
theorem aHw {n:bI} {R:Bool} (hm:nA n=some R) (b:aF G K (L) w):
  Calls prog 134 ([zA #[i64 n.Kind,i64 n.Variable,str n.B,zB n.Not]]:List Value).toArray w (cL fun v w'=>v=zB R/\aF G K (L) w'):=by
 refine aN func134 rfl (by kernel_rfl) (by show (1:Nat)<=11;decide) ?_;unfold nA at hm
 exact aJ (eT (v:=zA #[i64 n.Kind,i64 n.Variable,str n.B,zB n.Not]) (vs:=[i64 n.Kind,i64 n.Variable,str n.B,zB n.Not]) b rfl rfl (fun c d e=>(aG (v:=zB false) (aM (aH (aZ [] (fun f w=>∃ a,pQ a=some R/\f 2=zB a/\aF G K (L) w) aE aE))))))
theorem aHx {n:bI} {R:Bool} (hm:qV n=some R) (c:aF G K (L) w):
  Calls prog 96 ([zA #[i64 n.Kind,i64 n.Variable,str n.B,zB n.Not]]:List Value).toArray w (cL fun v w'=>v=zB R/\aF G K (L) w'):=by
 let a:=[i64 n.Kind,i64 n.Variable,str n.B,zB n.Not]
 refine aN func96 rfl (by kernel_rfl) (by show (1:Nat)<=16;decide) ?_;unfold qV at hm
 exact aJ (eT (v:=zA #[i64 n.Kind,i64 n.Variable,str n.B,zB n.Not]) (vs:=a) c rfl rfl (fun d e g=>(aG (v:=zB false) (aM (aH (aH (aZ [1] (fun f w=>∃ b,pR n b=some R/\f 9=zB b/\aF G K (box d 83 a::L) w) aE aE)))))))
theorem aJS {a:(List bI)} {k R:Int} (hm:kL a k=some R) (g:aF G K (L) w) (h:aW K a1 c2 a):
  Calls prog 135 ([zS a1 a.length c2,i64 k]:List Value).toArray w (cL fun v w'=>v=i64 R/\aF G K (L) w'):=by
 refine aN func135 rfl (by kernel_rfl) (by show (2:Nat)<=19;decide) ?_;unfold kL at hm
 refine aJ (aG (v:=i64 0) (aM (aH (aJ (aG (v:=i64 1) (aM (aQ [] (fun f w=>∃ b,aAL b=some R/\f 1=i64 b/\aF G K (L) w) aE ?_)))))));obtain ⟨i,c,ho⟩:=aB hm
 exact cD [0] c (fun d e f w=>f 1=i64 d/\f 5=i64 e/\aF G K (L) w) aE aE
theorem aNW {a:(List bI)} {k R:Int} (hm:aCs a k=some R) (i:aF G K (L) w) (j:aW K a1 c2 a):
  Calls prog 97 ([zS a1 a.length c2,i64 k]:List Value).toArray w (cL fun v w'=>v=i64 R/\aF G K (L) w'):=by
 refine aN func97 rfl (by kernel_rfl) (by show (2:Nat)<=38;decide) ?_;unfold aCs at hm
 refine aJ (aG (v:=i64 0) (aM (aH (aJ (aO (v:=i64 k) (aC (kR rfl rfl) (aG (v:=i64 (wr (k - 1))) (aM (aQ [] (fun f w=>aLe=some R/\aF G K (L) w) aE ?_)))))))));obtain ⟨l,e,ho⟩:=aB hm
 refine bW [0,1] e (fun b f w=>f 5=i64 b/\aF G K (L) w) aE ?_
 ·rintro b g f m hm hr ⟨h,n⟩
  unfold aAs at hm
  refine aH (aJ (bR h (aC (aOl rfl rfl) (aM ?_))))
  rcases aI hm with ⟨c,hm⟩|⟨c,hm⟩
  ·exact aS c rfl (aU (aD (aH (bJ (aH (aZ [0,1,5] (fun f w=>∃ d,aAr b d=some g/\f 36=zB d/\aF G K (L) w) aE aE))))))
  ·exact aE
theorem aHy {b:(List bI)} {R:Bool} (hm:gQ b=some R) (z:aF G K (L) w) (J:G.lo=0) (g:aW K a1 c2 b):
  Calls prog 48 ([zS a1 b.length c2]:List Value).toArray w (cL fun v w'=>v=zB R/\aF G K (L) w'):=by
 refine aN func48 rfl (by kernel_rfl) (by show (1:Nat)<=47;decide) ?_;unfold gQ at hm
 refine aJ (aG (v:=zB false) (aM (aH (aH (aZ [0] (fun f w=>∃ d,lV b d=some R/\f 13=zB d/\aF G K (L) w) ?_ ?_)))))
 ·rintro f V ⟨d,hm,n,Z⟩
  unfold lV at hm
  refine aD ?_
  rcases aI hm with ⟨h,hm⟩|⟨h,hm⟩
  ·exact aE
  ·refine aP h n (aU (aD (aH (aJ (aO (v:=zS a1 b.length c2) (aC (aX (len:=b.length) sB rfl) (aO (v:=i64 0) (aM (aQ [] (fun f w=>wT=some R/\aF G K (L) w) aE ?_)))))))));obtain ⟨a0,o,ho⟩:=aB hm
   refine bW [0,14,15] o (fun c f w=>f 16=i64 c/\aF G K (L) w) aE ?_
   ·rintro c p f a2 hm hr ⟨e,j⟩
    unfold lU at hm
    refine aJ (aC (eC e rfl) (aM (aH ?_)))
    rcases aI hm with ⟨k,hm⟩|⟨k,hm⟩
    ·refine aS k rfl (aU (aD (aH (bJ (aJ (bR e ?_))))));obtain ⟨a,l,hm⟩:=aB hm
     refine aC (cR sB rfl g rfl rfl e l) ?_;obtain ⟨a3,q,r⟩:=aW.el (sz:=4) rfl g l
     cases r
     exact aC (eD (t:=0) (vs:=[i64 a.Kind,i64 a.Variable,str a.B,zB a.Not]) aMm j q rfl rfl rfl) (eE (vs:=[i64 0,i64 0,str ([]:aL),zB false]) zeroValue83 j rfl (fun u a4 x=>(aG (v:=i64 c) (fA (i:=0) (ns:=[i64 a.Kind,i64 a.Variable,str a.B,zB a.Not]) (us:=[i64 a.Kind,i64 a.Variable,str a.B,zB a.Not]) sizeOf83 x rfl rfl rfl rfl rfl (kJ rfl) rfl rfl (fun y (a5:aF G K (box u 83 [i64 a.Kind,i64 a.Variable,str a.B,zB a.Not]::L) y)=>(aM (aH (aZ [0,14,15,16] (fun f w=>∃ m,iH c m=some p/\f 45=zB m/\aF G K (L) w) aE aE))))))))
    ·exact aE
 exact aE
theorem aAy {rec_:(List bI)->Option ((Tr bI) × (List bI))} (ih:∀ {G:kH} {K:Hp} {L:List eW} {w:World} {c:(List bI)} {a1:Option Addr} {c2:Nat} {R:((Tr bI) × (List bI))} (hm:rec_ c=some R) (hs:aF G K (L) w) (g:aW K a1 c2 c),
  Calls prog 136 ([zS a1 c.length c2]:List Value).toArray w (cL fun v w'=>∃ d r u x,v=zT #[cE r 0,zS u R.2.length x]/\Hp.le K d/\trd d R.1 r/\aW d u x R.2/\aF G d (L) w'))
  {G:kH} {K:Hp} {L:List eW} {w:World} {c:(List bI)} {a1:Option Addr} {c2:Nat} {R:((Tr bI) × (List bI))} (hm:gV rec_ c=some R) (hs:aF G K (L) w) (g:aW K a1 c2 c):
  Calls prog 136 ([zS a1 c.length c2]:List Value).toArray w (cL fun v w'=>∃ d r u x,v=zT #[cE r 0,zS u R.2.length x]/\Hp.le K d/\trd d R.1 r/\aW d u x R.2/\aF G d (L) w'):=by
 refine aN func136 rfl (by kernel_rfl) (by show (1:Nat)<=38;decide) ?_;unfold gV at hm
 refine aJ (aG (v:=zP none) (aG (v:=zS none 0 0) (aM (aJ (aO (v:=zS a1 c.length c2) ?_)))));obtain ⟨a,q5,hm⟩:=aB hm
 refine aC (cR sB rfl g rfl rfl rfl q5) ?_;obtain ⟨g1,b6,c9⟩:=aW.el (sz:=4) rfl g q5
 cases c9
 refine aC (eD (t:=0) (vs:=[i64 a.Kind,i64 a.Variable,str a.B,zB a.Not]) aMm hs b6 rfl rfl rfl) (aC (aCR (vs:=[(0,zA #[i64 a.Kind,i64 a.Variable,str a.B,zB a.Not])]) (cs:=[i64 a.Kind,i64 a.Variable,str a.B,zB a.Not,zS none 0 0]) bs_183 rfl (by kernel_rfl)) (eT (v:=zA #[i64 a.Kind,i64 a.Variable,str a.B,zB a.Not,zS none 0 0]) (vs:=[i64 a.Kind,i64 a.Variable,str a.B,zB a.Not,zS none 0 0]) hs rfl rfl (fun b g2 b7=>(aG (v:=zP (some ⟨b,0,none⟩)) (aM (aJ (aO (v:=zS a1 c.length c2) ?_)))))))
 obtain ⟨d0,b8,hm⟩:=aB hm
 obtain ⟨d1,d2,c0⟩:=Cut.ex 4 a1 c2 1
 have g3:=aW.cut' g b8 c0
 refine aC (aMg sB g.room c0 rfl rfl rfl b8) (aG (v:=zS d1 d0.length d2) (aM (aH (aJ (aO (v:=zS a1 c.length c2) (aC (cR sB rfl g rfl rfl rfl q5) (aC (eD (t:=0) (vs:=[i64 a.Kind,i64 a.Variable,str a.B,zB a.Not]) aMm b7 b6 rfl rfl rfl) ?_)))))));obtain ⟨g4,d3,hm⟩:=aB hm
 refine aT (vs:=[zA #[i64 a.Kind,i64 a.Variable,str a.B,zB a.Not]]) call131 rfl (aAx d3 b7) ?_
 rintro _ g5 ⟨rfl,d4⟩
 refine aO (v:=i64 0) (aM (aQ [4] (fun f w=>∃ y j z a0 a2 J V,Hp.le K y/\yR a j z=some R/\f 5=zS J z.length V/\aW y J V z/\aF G y (aV 146 y a0 a2 j::box b 183 [i64 a.Kind,i64 a.Variable,str a.B,zB a.Not,zS a0 j.length a2]::L) w) ?_ ?_))
 ·rintro f c1 ⟨y,j,z,a0,a2,J,V,d5,hm,d6,d7,d8⟩
  unfold yR at hm
  refine aD (aJ (aO (v:=zP (some ⟨b,0,none⟩)) (bR d6 (aG (v:=zP (some ⟨b,0,none⟩)) (aG (v:=zS J z.length V) (aM ?_))))));obtain ⟨d9,c3,e0,a9⟩:=aF.giveSp d8 (Hp.le_refl _) .head
  replace a9:aF G d9 (box b 183 [i64 a.Kind,i64 a.Variable,str a.B,zB a.Not,zS a0 j.length a2]::L) c1:=a9
  obtain ⟨b0,b1,e1,b2,_⟩:=aF.lendBp a9 .head
  replace b2:aF G b0 (L) c1:=b2
  have e2:trd b0 (Tr.mk a j) (some ⟨b,0,none⟩):=trd_mk e1 (e0.mono b1)
  obtain rfl:=Option.some.inj hm
  exact aAP (retQ_2 results136 rfl rfl ⟨b0,(some ⟨b,0,none⟩),J,V,(tp2 (elp_b rfl) rfl),(Hp.le_trans (Hp.le_trans d5 c3) b1),e2,(d7.mono (Hp.le_trans c3 b1)),b2⟩)
 have g6:=aF.nil (α:=(Tr bI)) d4 146 K
 obtain ⟨g7,e5,ho⟩:=aB hm
 refine aBM [4,17] e5 (fun k a3 b3 f w=>∃ l m n a4 a5,Hp.le K l/\f 5=zS a4 a3.length a5/\f 18=i64 b3/\aW l a4 a5 a3/\aF G l (aV 146 l m n k::box b 183 [i64 a.Kind,i64 a.Variable,str a.B,zB a.Not,zS m k.length n]::L) w) aE ?_
 ·rintro k a3 b3 g8 f g9 hm hr ⟨l,m,n,a4,a5,e6,e7,c4,e8,e9⟩
  unfold nB at hm
  refine aJ (aC (eC c4 rfl) (aM (aH ?_)))
  rcases aI hm with ⟨c5,hm⟩|⟨c5,hm⟩
  ·refine aS c5 rfl (aU (aD (aH (bJ (aJ (aG (v:=zP none) (aM (aJ (bR e7 ?_)))))))));obtain ⟨a6,f0,hm⟩:=aB hm
   refine aT (vs:=[zS a4 a3.length a5]) call136 rfl (ih f0 e9 e8) ?_
   rintro _ h0 ⟨e,o,b4,b5,rfl,c6,f1,f2,c7⟩
   refine aO (v:=zT #[cE o 0,zS b4 a6.2.length b5]) (aC (iL rfl rfl) (aC (iL rfl rfl) (aG (v:=cE o 0) (aG (v:=zS b4 a6.2.length b5) (aM (bK (aO (v:=zP (some ⟨b,0,none⟩)) (aO (v:=zP (some ⟨b,0,none⟩)) (aC (vK rfl) (aC (bH (t':=4) qJ rfl rfl) (aC (dD aDy c7 (i:=1) rfl rfl rfl) (aO (v:=cE o 0) (dK (Kt:=e) (xs:=([a6.1]:List (Tr bI))) (cs:=[cE o 0]) (vs:=[(0,cE o 0)]) aBR ez_146 rfl rfl c7 rfl (by kernel_rfl) rfl rfl rfl ⟨⟨o,rfl,f1⟩,trivial⟩ (fun f3 f4 (f5:aF G e (aV 146 e f3 1 ([a6.1]:List (Tr bI))::aV 146 l m n k::box b 183 [i64 a.Kind,i64 a.Variable,str a.B,zB a.Not,zS m k.length n]::L) f4)=>?_))))))))))))))
   obtain ⟨Z,f6,hm⟩:=aB hm
   exact WO_appO (i:=0) e aBR underlying181 ez_146 rfl rfl f5 rfl c6 (Hp.le_refl _) f6 rfl rfl rfl rfl (fun _ _ _ h=>El.one h) (fun p q f7 (f8:aF G e (aV 146 e p q Z::box b 183 [i64 a.Kind,i64 a.Variable,str a.B,zB a.Not,zS m k.length n]::L) f7)=>(aC (vK rfl) (aC (bH (t':=4) qJ rfl rfl) (fA (i:=1) (ns:=[zS p Z.length q]) (us:=[i64 a.Kind,i64 a.Variable,str a.B,zB a.Not,zS p Z.length q]) sizeOf181 f8 rfl rfl rfl rfl rfl (kJ rfl) rfl rfl (fun f9 (g0:aF G e (aV 146 e p q Z::box b 183 [i64 a.Kind,i64 a.Variable,str a.B,zB a.Not,zS p Z.length q]::L) f9)=>(bP (eL (aD (bK (aC (nI c4 rfl) (aO (v:=i64 (wr (b3+1))) (aM ⟨_,(Option.some.inj hm).symm,gF,e,p,q,b4,b5,(Hp.le_trans e6 c6),rfl,rfl,f2,g0⟩))))))))))))
  ·exact aE
theorem aAz (n:Nat):∀ {G:kH} {K:Hp} {L:List eW} {w:World} {a:(List bI)} {a1:Option Addr} {c2:Nat} {R:((Tr bI) × (List bI))} (hm:gW n a=some R) (b:aF G K (L) w) (c:aW K a1 c2 a),
  Calls prog 136 ([zS a1 a.length c2]:List Value).toArray w (cL fun v w'=>∃ d e g h,v=zT #[cE e 0,zS g R.2.length h]/\Hp.le K d/\trd d R.1 e/\aW d g h R.2/\aF G d (L) w'):=by
 induction n with
 |zero=>
  intro G K L w a a1 c2 R hm b c
  unfold gW at hm
  cases hm
 |succ n ih=>
  intro G K L w a a1 c2 R hm b c
  exact aAy (rec_:=gW n) (fun hm b c=>ih hm b c) hm b c
theorem aIz {f_:(List bI)} {R:((Tr bI) × (List bI))} (hm:aDG f_=some R) (hs:aF G K (L) w) (h3:aW K a1 c2 f_):
  Calls prog 136 ([zS a1 f_.length c2]:List Value).toArray w (cL fun v w'=>∃ K' ra1 ra2 rc2,v=zT #[cE ra1 0,zS ra2 R.2.length rc2]/\Hp.le K K'/\trd K' R.1 ra1/\aW K' ra2 rc2 R.2/\aF G K' (L) w'):=aAz 100000 hm hs h3
end Gv
namespace Gv
open Gv.Hp renaming le_refl→zR
open Go.Value renaming slice→zS,bool→zB,pointer→zP,agg→zA
open Gv.Hp renaming le_trans→zL
open Go Go.Proofs Go.Proofs.Tryz
set_option maxRecDepth 20000
set_option maxHeartbeats 40000000
variable {G:kH} {K:Hp} {L:List eW} {w:World} {a1 a4 a2 a7 a10 a13 a16:Option Addr} {c2 b1 c3 c8 c17 c5:Nat}
theorem aKE {a:(List bI)} {R:(Tr bI)} (hm:aGs a=some R) (d:aF G K (L) w) (e:aW K a1 c2 a):
  Calls prog 98 ([zS a1 a.length c2]:List Value).toArray w (cL fun v w'=>∃ b c,v=cE c 0/\Hp.le K b/\trd b R c/\aF G b (L) w'):=by
 exact aE
theorem oT {a:aL} {c:Bool} {R:aL} (hm:yS a c=some R) (e:aF G K (L) w):
  Calls prog 139 ([str a,zB c]:List Value).toArray w (cL fun v w'=>v=str R/\aF G K (L) w'):=by
 refine aN func139 rfl (by kernel_rfl) (by show (2:Nat)<=23;decide) ?_;unfold yS at hm
 refine aJ (aG (v:=str ([]:aL)) (aM (aJ (aO (v:=str a) ?_))));obtain ⟨b,g,hm⟩:=aB hm
 refine aT (vs:=[str a,str ([42]:aL)]) call172 rfl (mG g e) ?_
 rintro _ h ⟨rfl,i⟩
 exact aO (v:=Value.tuple #[str b.1,zB b.2]) (aC (iL rfl rfl) (aC (iL rfl rfl) (aG (v:=str b.1) (aG (v:=zB b.2) (aM (aH (aQ [1] (fun f w=>∃ d,pF c d=some R/\f 0=str d/\aF G K (L) w) aE aE)))))))
theorem uP {a:(List Int)} {b R:Int} (hm:eS a b=some R) (e:aF G K (L) w) (g:aW K a1 c2 a):
  Calls prog 174 ([zS a1 a.length c2,i64 b]:List Value).toArray w (cL fun v w'=>v=i64 R/\aF G K (L) w'):=by
 refine aN func174 rfl (by kernel_rfl) (by show (2:Nat)<=19;decide) ?_;unfold eS at hm
 refine aJ (aG (v:=i64 0) (aM (aH (aJ (aO (v:=zS a1 a.length c2) (aC (aX (len:=a.length) dR rfl) (aO (v:=i64 0) (aM (aQ [] (fun f w=>lW=some R/\aF G K (L) w) aE ?_)))))))));obtain ⟨h,c,ho⟩:=aB hm
 exact bW [0,1,7] c (fun d f w=>f 8=i64 d/\aF G K (L) w) aE aE
theorem jS {a:(List Int)} {b:Int} {R:Bool} (hm:cC a b=some R) (c:aF G K (L) w) (d:aW K a1 c2 a):
  Calls prog 138 ([zS a1 a.length c2,i64 b]:List Value).toArray w (cL fun v w'=>v=zB R/\aF G K (L) w'):=by
 exact aE
theorem bN {rec_:(Tr bI)->Option aL} (g:∀ {G:kH} {K:Hp} {L:List eW} {w:World} {h:(Tr bI)} {a1:Option Addr} {R:aL} (hm:rec_ h=some R) (d:aF G K (L) w) (c:trd K h a1),
  Calls prog 99 ([cE a1 0]:List Value).toArray w (cL fun v w'=>v=str R/\aF G K (L) w')) {G:kH} {K:Hp} {L:List eW} {w:World} {a:(Tr bI)} {a1:Option Addr} {kinds:(List Int)} {a3:Option Addr} {c4:Nat} {R:aL} (hm:eJ rec_ a kinds=some R) (d:aF G K (L) w) (c:trd K a a1) (j:aW K a3 c4 kinds):
  Calls prog 137 ([cE a1 0,zS a3 kinds.length c4]:List Value).toArray w (cL fun v w'=>v=str R/\aF G K (L) w'):=by
 refine aN func137 rfl (by kernel_rfl) (by show (2:Nat)<=18;decide) ?_;unfold eJ at hm
 refine aJ (aG (v:=str ([]:aL)) (aM (aH (aJ (aO (v:=zS a3 kinds.length c4) (aO (v:=cE a1 0) ?_))))));obtain ⟨k,l,b,p⟩:=trd.el c
 replace b:eR K a1 0 [i64 a.val.Kind,i64 a.val.Variable,str a.val.B,zB a.val.Not,zS k a.kids.length l]:=b
 refine aC (dO rfl b) (aC (cF (k':=0+0) aMs rfl b rfl) (aC (cF (k':=0+0) aCU rfl b rfl) (aC (bZ (t:=0) gJ d b rfl rfl) ?_)));obtain ⟨q,m,hm⟩:=aB hm
 refine aT (vs:=[zS a3 kinds.length c4,i64 a.val.Kind]) call138 rfl (jS m d j) ?_
 rintro _ r ⟨rfl,i⟩
 refine aM ?_
 rcases aI hm with ⟨e,hm⟩|⟨e,hm⟩
 ·refine aS e rfl (aJ (aO (v:=cE a1 0) ?_));obtain ⟨u,n,hm⟩:=aB hm
  exact aT (vs:=[cE a1 0]) call99 rfl (g n i c) aE
 ·refine aP e rfl (aU (aD (aJ (aO (v:=cE a1 0) ?_))));obtain ⟨x,o,hm⟩:=aB hm
  exact aT (vs:=[cE a1 0]) call99 rfl (g o i c) aE
theorem xQ {rec_:(Tr bI)->Option aL} (k:∀ {G:kH} {K:Hp} {L:List eW} {w:World} {b:(Tr bI)} {a1:Option Addr} {R:aL} (hm:rec_ b=some R) (hs:aF G K (L) w) (h2:trd K b a1),
  Calls prog 99 ([cE a1 0]:List Value).toArray w (cL fun v w'=>v=str R/\aF G K (L) w'))
  {G:kH} {K:Hp} {L:List eW} {w:World} {b:(Tr bI)} {a1:Option Addr} {R:aL} (hm:gC rec_ b=some R) (hs:aF G K (L) w) (h2:trd K b a1):
  Calls prog 99 ([cE a1 0]:List Value).toArray w (cL fun v w'=>v=str R/\aF G K (L) w'):=by
 let m:=[i64 b.val.Kind,i64 b.val.Variable,str b.val.B,zB b.val.Not]
 let V:=[str b.val.B,zB b.val.Not]
 refine aN func99 rfl (by kernel_rfl) (by show (1:Nat)<=134;decide) ?_;unfold gC at hm
 refine aJ (aG (v:=str ([]:aL)) (aM (aJ (aG (v:=Value.func (.func 137) #[] #[]) (aM (aJ (aO (v:=cE a1 0) ?_)))))));obtain ⟨a3,c4,a,l⟩:=trd.el h2
 replace a:eR K a1 0 [i64 b.val.Kind,i64 b.val.Variable,str b.val.B,zB b.val.Not,zS a3 b.kids.length c4]:=a
 refine aC (dO rfl a) (aC (cF (k':=0+0) aMs rfl a rfl) (aC (eD (t:=0) (vs:=m) aMm hs a rfl rfl rfl) (eE (vs:=[i64 0,i64 0,str ([]:aL),zB false]) zeroValue83 hs rfl (fun x w8 j8=>(fA (i:=0) (ns:=m) (us:=m) sizeOf83 j8 rfl rfl rfl rfl rfl (kJ rfl) rfl rfl (fun j9 (u:aF G K (box x 83 m::L) j9)=>(aM (aH (aJ (aC (bH (t':=0) aCU rfl rfl) (aC (dD gJ u (i:=0) rfl rfl rfl) (aM (bJ (aJ (aC (dN rfl rfl) (aG (v:=zB (b.val.Kind == 0)) (aM ?_)))))))))))))))))
 rcases aI hm with ⟨f6,hm⟩|⟨f6,hm⟩
 ·exact aE
 ·refine aP f6 rfl (aJ (aC (dN rfl rfl) (aG (v:=zB (b.val.Kind == 1)) (aM ?_))))
  rcases aI hm with ⟨f7,hm⟩|⟨f7,hm⟩
  ·exact aE
  ·refine aP f7 rfl (aJ (aC (dN rfl rfl) (aG (v:=zB (b.val.Kind == 2)) (aM ?_))))
   rcases aI hm with ⟨b5,hm⟩|⟨b5,hm⟩
   ·refine aS b5 rfl (aH (aZ [] (fun f w=>∃ f8,aDf f8=some R/\f 2=str f8/\aF G K (L) w) aE (aDO (C:=fun w'=>∃ L',aF G K L' w') [] Tryz_mixed (by kernel_rfl) (fun w22 k0=>?_))))
    have c:=aF.mono u k0
    refine eO (i:=0) rfl (by kernel_rfl) ⟨_,c⟩ (fun _ _=>bC (v:=Value.func (.func 137) #[] #[]) rfl) (eO (i:=1) rfl (by kernel_rfl) ⟨_,c⟩ (fun _ _=>bC (v:=cE a1 0) rfl) (eO (i:=2) rfl (by kernel_rfl) ⟨_,c⟩ (fun _ _=>dO rfl a) (eO (i:=3) rfl (by kernel_rfl) ⟨_,c⟩ (fun _ _=>cF (k':=0+4) qJ rfl a rfl) (eO (i:=4) rfl (by kernel_rfl) ⟨_,c⟩ (fun _ ⟨_,c⟩=>bZ (t:=4) aDy c a rfl rfl) ?_))));obtain ⟨e25,f9,hm⟩:=aB hm
    refine eO (i:=5) rfl (by kernel_rfl) ⟨_,c⟩ (fun _ _=>cR aBR rfl l rfl rfl rfl f9) ?_;obtain ⟨a29,k1,k2⟩:=aW.el (sz:=1) rfl l f9
    obtain ⟨z,rfl,b6⟩:=k2
    refine eO (i:=6) rfl (by kernel_rfl) ⟨_,c⟩ (fun _ ⟨_,c⟩=>bZ (t:=0) aEI c k1 rfl rfl) (eO (i:=10) rfl (by kernel_rfl) ⟨_,c⟩ (fun _ _=>bC (v:=Value.func (.func 137) #[] #[]) rfl) (eO (i:=11) rfl (by kernel_rfl) ⟨_,c⟩ (fun _ _=>bC (v:=cE a1 0) rfl) (eO (i:=12) rfl (by kernel_rfl) ⟨_,c⟩ (fun _ _=>dO rfl a) (eO (i:=13) rfl (by kernel_rfl) ⟨_,c⟩ (fun _ _=>cF (k':=0+4) qJ rfl a rfl) (eO (i:=14) rfl (by kernel_rfl) ⟨_,c⟩ (fun _ ⟨_,c⟩=>bZ (t:=4) aDy c a rfl rfl) ?_)))))
    obtain ⟨e32,g0,hm⟩:=aB hm
    refine eO (i:=15) rfl (by kernel_rfl) ⟨_,c⟩ (fun _ _=>cR aBR rfl l rfl rfl rfl g0) ?_;obtain ⟨a32,k3,k4⟩:=aW.el (sz:=1) rfl l g0
    obtain ⟨J,rfl,b8⟩:=k4
    refine eO (i:=16) rfl (by kernel_rfl) ⟨_,c⟩ (fun _ ⟨_,c⟩=>bZ (t:=0) aEI c k3 rfl rfl) (aGR (i:=7) (j:=17) (by kernel_rfl) rfl rfl ?_ ?_)
    ·refine dK (Kt:=K) (xs:=([2,3]:List Int)) (cs:=[i64 2,i64 3]) (vs:=[(0,i64 2),(1,i64 3)]) dR xY rfl rfl c rfl (by kernel_rfl) rfl rfl rfl ⟨rfl,rfl,trivial⟩ (fun y k5 (b9:aF G K (aV 2 K y 2 ([2,3]:List Int)::box x 83 m::L) k5)=>(bP (aD ⟨fun _=>⟨_,b9⟩,?_⟩)))
     refine aGR (i:=8) (j:=17) (by kernel_rfl) rfl rfl ?_ ?_
     ·obtain ⟨K42,k6,k7,k8,k9⟩:=aF.lendSp b9 (zR _) .head
      obtain ⟨r47,l0,hm⟩:=aB hm
      refine eM (vs:=[cE z 0,zS y ([2,3]:List Int).length 2]) (caps:=[]) (us:=[cE z 0,zS y ([2,3]:List Int).length 2]) rfl call137 rfl rfl (bN k l0 k8 (b6.mono k6) k7) ?_
      rintro _ w49 ⟨rfl,l1⟩
      have c0:=k9 _ _ l1
      refine bP (aD ⟨fun _=>⟨_,c0⟩,?_⟩)
      obtain ⟨s52,l2,hm⟩:=aB hm
      refine eO (i:=9) rfl (by kernel_rfl) ⟨_,c0⟩ (fun _ _=>dX rfl rfl l2) (iB (i:=17) (by kernel_rfl) rfl (dK (Kt:=K) (xs:=([3]:List Int)) (cs:=[i64 3]) (vs:=[(0,i64 3)]) dR xY rfl rfl c0 rfl (by kernel_rfl) rfl rfl rfl ⟨rfl,trivial⟩ (fun c1 l3 (g1:aF G K (aV 2 K c1 1 ([3]:List Int)::aV 2 K y 2 ([2,3]:List Int)::box x 83 m::L) l3)=>(bP (aD ⟨fun _=>⟨_,g1⟩,?_⟩)))))
      refine iB (i:=18) (by kernel_rfl) rfl ?_;obtain ⟨K57,l4,l5,l6,l7⟩:=aF.lendSp g1 (zR _) .head
      obtain ⟨r62,l8,hm⟩:=aB hm
      refine eM (vs:=[cE J 0,zS c1 ([3]:List Int).length 1]) (caps:=[]) (us:=[cE J 0,zS c1 ([3]:List Int).length 1]) rfl call137 rfl rfl (bN k l8 l6 (b8.mono l4) l5) ?_
      rintro _ w64 ⟨rfl,l9⟩
      have c2:=l7 _ _ l9
      refine bP (aD ⟨fun _=>⟨_,c2⟩,?_⟩)
      obtain ⟨m0,m1,hm⟩:=aB hm
      exact eO (i:=19) rfl (by kernel_rfl) ⟨_,c2⟩ (fun _ _=>dX rfl rfl m1) (eO (i:=20) rfl (by kernel_rfl) ⟨_,c2⟩ (fun _ _=>dJ (v:=str m0) rfl) (vN (by kernel_rfl) aE))
     ·refine dK (Kt:=K) (xs:=([3]:List Int)) (cs:=[i64 3]) (vs:=[(0,i64 3)]) dR xY rfl rfl b9 rfl (by kernel_rfl) rfl rfl rfl ⟨rfl,trivial⟩ (fun c3 m2 (g2:aF G K (aV 2 K c3 1 ([3]:List Int)::aV 2 K y 2 ([2,3]:List Int)::box x 83 m::L) m2)=>(bP (aD ⟨fun _=>⟨_,g2⟩,?_⟩)))
      refine iB (i:=8) (by kernel_rfl) rfl ?_;obtain ⟨K72,m3,m4,m5,m6⟩:=aF.lendSp g2 (zR _) zt1
      obtain ⟨r77,m7,hm⟩:=aB hm
      refine eM (vs:=[cE z 0,zS y ([2,3]:List Int).length 2]) (caps:=[]) (us:=[cE z 0,zS y ([2,3]:List Int).length 2]) rfl call137 rfl rfl (bN k m7 m5 (b6.mono m3) m4) ?_
      rintro _ w79 ⟨rfl,m8⟩
      have c5:=m6 _ _ m8
      refine bP (aD ⟨fun _=>⟨_,c5⟩,?_⟩)
      obtain ⟨s82,m9,hm⟩:=aB hm
      refine eO (i:=9) rfl (by kernel_rfl) ⟨_,c5⟩ (fun _ _=>dX rfl rfl m9) (iB (i:=18) (by kernel_rfl) rfl ?_);obtain ⟨K84,n0,n1,n2,n3⟩:=aF.lendSp c5 (zR _) zt1
      obtain ⟨r89,n4,hm⟩:=aB hm
      refine eM (vs:=[cE J 0,zS c3 ([3]:List Int).length 1]) (caps:=[]) (us:=[cE J 0,zS c3 ([3]:List Int).length 1]) rfl call137 rfl rfl (bN k n4 n2 (b8.mono n0) n1) ?_
      rintro _ w91 ⟨rfl,n5⟩
      have c6:=n3 _ _ n5
      refine bP (aD ⟨fun _=>⟨_,c6⟩,?_⟩)
      obtain ⟨n6,n7,hm⟩:=aB hm
      exact eO (i:=19) rfl (by kernel_rfl) ⟨_,c6⟩ (fun _ _=>dX rfl rfl n7) (eO (i:=20) rfl (by kernel_rfl) ⟨_,c6⟩ (fun _ _=>dJ (v:=str n6) rfl) (vN (by kernel_rfl) aE))
    ·refine dK (Kt:=K) (xs:=([3]:List Int)) (cs:=[i64 3]) (vs:=[(0,i64 3)]) dR xY rfl rfl c rfl (by kernel_rfl) rfl rfl rfl ⟨rfl,trivial⟩ (fun Z n8 (g3:aF G K (aV 2 K Z 1 ([3]:List Int)::box x 83 m::L) n8)=>(bP (aD ⟨fun _=>⟨_,g3⟩,?_⟩)))
     refine iB (i:=7) (by kernel_rfl) rfl (dK (Kt:=K) (xs:=([2,3]:List Int)) (cs:=[i64 2,i64 3]) (vs:=[(0,i64 2),(1,i64 3)]) dR xY rfl rfl g3 rfl (by kernel_rfl) rfl rfl rfl ⟨rfl,rfl,trivial⟩ (fun c7 n9 (g4:aF G K (aV 2 K c7 2 ([2,3]:List Int)::aV 2 K Z 1 ([3]:List Int)::box x 83 m::L) n9)=>(bP (aD ⟨fun _=>⟨_,g4⟩,?_⟩))))
     refine iB (i:=8) (by kernel_rfl) rfl ?_;obtain ⟨a49,o0,o1,o2,o3⟩:=aF.lendSp g4 (zR _) .head
     obtain ⟨a50,o4,hm⟩:=aB hm
     refine eM (vs:=[cE z 0,zS c7 ([2,3]:List Int).length 2]) (caps:=[]) (us:=[cE z 0,zS c7 ([2,3]:List Int).length 2]) rfl call137 rfl rfl (bN k o4 o2 (b6.mono o0) o1) ?_
     rintro _ a51 ⟨rfl,o5⟩
     have c8:=o3 _ _ o5
     refine bP (aD ⟨fun _=>⟨_,c8⟩,?_⟩)
     obtain ⟨a52,o6,hm⟩:=aB hm
     refine eO (i:=9) rfl (by kernel_rfl) ⟨_,c8⟩ (fun _ _=>dX rfl rfl o6) (iB (i:=18) (by kernel_rfl) rfl ?_);obtain ⟨a53,o7,o8,o9,p0⟩:=aF.lendSp c8 (zR _) zt1
     obtain ⟨a55,p1,hm⟩:=aB hm
     refine eM (vs:=[cE J 0,zS Z ([3]:List Int).length 1]) (caps:=[]) (us:=[cE J 0,zS Z ([3]:List Int).length 1]) rfl call137 rfl rfl (bN k p1 o9 (b8.mono o7) o8) ?_
     rintro _ a56 ⟨rfl,p2⟩
     have c9:=p0 _ _ p2
     refine bP (aD ⟨fun _=>⟨_,c9⟩,?_⟩)
     obtain ⟨p3,p4,hm⟩:=aB hm
     exact eO (i:=19) rfl (by kernel_rfl) ⟨_,c9⟩ (fun _ _=>dX rfl rfl p4) (eO (i:=20) rfl (by kernel_rfl) ⟨_,c9⟩ (fun _ _=>dJ (v:=str p3) rfl) (vN (by kernel_rfl) aE))
   ·refine aP b5 rfl (aJ (aC (dN rfl rfl) (aG (v:=zB (b.val.Kind == 3)) (aM ?_))))
    rcases aI hm with ⟨d0,hm⟩|⟨d0,hm⟩
    ·refine aS d0 rfl (aH (mO (C:=fun w'=>∃ L',aF G K L' w') [(0,0),(1,0),(2,0),(3,0),(4,0),(5,0),(6,0),(10,0),(11,0),(12,0),(13,0),(14,0),(15,0),(16,0),(7,1),(8,1),(9,0),(17,1),(18,0),(19,0)] Tryz_mixed (by kernel_rfl) (fun _ hg=>⟨_,aF.mono u hg⟩) (fun a57 p5=>?_)))
     have n:=aF.mono u p5
     refine dL rfl (fun _ _=>bC (v:=Value.func (.func 137) #[] #[]) rfl) (dL rfl (fun _ _=>bC (v:=cE a1 0) rfl) (dL rfl (fun _ _=>dO rfl a) (dL rfl (fun _ _=>cF (k':=0+4) qJ rfl a rfl) (dL rfl (fun _ ⟨_,n⟩=>bZ (t:=4) aDy n a rfl rfl) ?_))));obtain ⟨a58,g5,hm⟩:=aB hm
     refine dL rfl (fun _ _=>cR aBR rfl l rfl rfl rfl g5) ?_;obtain ⟨a59,p6,p7⟩:=aW.el (sz:=1) rfl l g5
     obtain ⟨g6,rfl,p8⟩:=p7
     refine dL rfl (fun _ ⟨_,n⟩=>bZ (t:=0) aEI n p6 rfl rfl) (dL rfl (fun _ _=>bC (v:=Value.func (.func 137) #[] #[]) rfl) (dL rfl (fun _ _=>bC (v:=cE a1 0) rfl) (dL rfl (fun _ _=>dO rfl a) (dL rfl (fun _ _=>cF (k':=0+4) qJ rfl a rfl) (dL rfl (fun _ ⟨_,n⟩=>bZ (t:=4) aDy n a rfl rfl) ?_)))));obtain ⟨a60,g7,hm⟩:=aB hm
     refine dL rfl (fun _ _=>cR aBR rfl l rfl rfl rfl g7) ?_;obtain ⟨a61,p9,q0⟩:=aW.el (sz:=1) rfl l g7
     obtain ⟨g8,rfl,q1⟩:=q0
     refine dL rfl (fun _ ⟨_,n⟩=>bZ (t:=0) aEI n p9 rfl rfl) (vM rfl (dK (Kt:=K) (xs:=([3]:List Int)) (cs:=[i64 3]) (vs:=[(0,i64 3)]) dR xY rfl rfl n rfl (by kernel_rfl) rfl rfl rfl ⟨rfl,trivial⟩ (fun d1 q2 (g9:aF G K (aV 2 K d1 1 ([3]:List Int)::box x 83 m::L) q2)=>(bP (aD ⟨⟨_,g9⟩,?_⟩)))))
     refine vM rfl ?_;obtain ⟨a62,q3,q4,q5,q6⟩:=aF.lendSp g9 (zR _) .head
     obtain ⟨a63,q7,hm⟩:=aB hm
     refine eM (vs:=[cE g6 0,zS d1 ([3]:List Int).length 1]) (caps:=[]) (us:=[cE g6 0,zS d1 ([3]:List Int).length 1]) rfl call137 rfl rfl (bN k q7 q5 (p8.mono q3) q4) ?_
     rintro _ a64 ⟨rfl,q8⟩
     have h0:=q6 _ _ q8
     refine bP (aD ⟨⟨_,h0⟩,?_⟩)
     obtain ⟨a65,q9,hm⟩:=aB hm
     refine dL rfl (fun _ _=>dX rfl rfl q9) (vM rfl ?_);obtain ⟨a66,r0,hm⟩:=aB hm
     have hcl:=bN k (kinds:=[]) r0 h0 q1 (vI (α:=Int) _)
     exact eM (vs:=[cE g8 0,zS none 0 0]) (caps:=[]) (us:=[cE g8 0,zS none 0 0]) rfl call137 rfl rfl hcl aE
    ·refine aP d0 rfl (aJ (aC (dN rfl rfl) (aG (v:=zB (b.val.Kind == 4)) (aM ?_))))
     rcases aI hm with ⟨d2,hm⟩|⟨d2,hm⟩
     ·refine aS d2 rfl (aH (aZ [] (fun f w=>∃ h1,aDg h1=some R/\f 2=str h1/\aF G K (L) w) aE ?_));obtain ⟨d3,o,h3,r1,a67⟩:=aF.lendBp u .head
      refine aDO (C:=fun w'=>∃ L',aF G d3 L' w') [] Tryz_mixed (by kernel_rfl) (fun a68 r2=>?_)
      have d:=aF.mono r1 r2
      refine eO (i:=0) rfl (by kernel_rfl) ⟨_,d⟩ (fun _ _=>bH (t':=2) aJc rfl rfl) (eO (i:=1) rfl (by kernel_rfl) ⟨_,d⟩ (fun _ ⟨_,d⟩=>bZ (t:=2) oK d h3 rfl rfl) (eO (i:=2) rfl (by kernel_rfl) ⟨_,d⟩ (fun _ _=>bH (t':=3) aLT rfl rfl) (eO (i:=3) rfl (by kernel_rfl) ⟨_,d⟩ (fun _ ⟨_,d⟩=>bZ (t:=3) sc_4 d h3 rfl rfl) (eO (i:=7) rfl (by kernel_rfl) ⟨_,d⟩ (fun _ _=>bC (v:=Value.func (.func 137) #[] #[]) rfl) (eO (i:=8) rfl (by kernel_rfl) ⟨_,d⟩ (fun _ _=>bC (v:=cE a1 0) rfl) (eO (i:=9) rfl (by kernel_rfl) ⟨_,d⟩ (fun _ _=>dO rfl (a.mono o)) (eO (i:=10) rfl (by kernel_rfl) ⟨_,d⟩ (fun _ _=>cF (k':=0+4) qJ rfl (a.mono o) rfl) (eO (i:=11) rfl (by kernel_rfl) ⟨_,d⟩ (fun _ ⟨_,d⟩=>bZ (t:=4) aDy d (a.mono o) rfl rfl) ?_))))))))
      obtain ⟨a70,h4,hm⟩:=aB hm
      refine eO (i:=12) rfl (by kernel_rfl) ⟨_,d⟩ (fun _ _=>cR aBR rfl (l.mono o) rfl rfl rfl h4) ?_;obtain ⟨a71,r3,r4⟩:=aW.el (sz:=1) rfl l h4
      obtain ⟨a0,rfl,h5⟩:=r4
      refine eO (i:=13) rfl (by kernel_rfl) ⟨_,d⟩ (fun _ ⟨_,d⟩=>bZ (t:=0) aEI d (r3.mono o) rfl rfl) (aGR (i:=4) (j:=14) (by kernel_rfl) rfl rfl ?_ ?_)
      ·obtain ⟨a72,r5,hm⟩:=aB hm
       refine aT (vs:=V) call139 rfl (oT r5 d) ?_
       rintro _ a73 ⟨rfl,a2⟩
       refine bP (aD ⟨fun _=>⟨_,a2⟩,?_⟩)
       obtain ⟨a74,r6,hm⟩:=aB hm
       refine eO (i:=5) rfl (by kernel_rfl) ⟨_,a2⟩ (fun _ _=>dX rfl rfl r6) ?_;obtain ⟨a75,r7,hm⟩:=aB hm
       refine eO (i:=6) rfl (by kernel_rfl) ⟨_,a2⟩ (fun _ _=>dX rfl rfl r7) (iB (i:=14) (by kernel_rfl) rfl (dK (Kt:=K) (xs:=([2,3]:List Int)) (cs:=[i64 2,i64 3]) (vs:=[(0,i64 2),(1,i64 3)]) dR xY rfl rfl a2 rfl (by kernel_rfl) rfl rfl rfl ⟨rfl,rfl,trivial⟩ (fun d4 r8 (h7:aF G d3 (aV 2 K d4 2 ([2,3]:List Int)::L) r8)=>(bP (aD ⟨fun _=>⟨_,h7⟩,?_⟩)))))
       refine iB (i:=15) (by kernel_rfl) rfl ?_;obtain ⟨a76,r9,s0,s1,s2⟩:=aF.lendSp h7 o .head
       obtain ⟨a77,s3,hm⟩:=aB hm
       refine eM (vs:=[cE a0 0,zS d4 ([2,3]:List Int).length 2]) (caps:=[]) (us:=[cE a0 0,zS d4 ([2,3]:List Int).length 2]) rfl call137 rfl rfl (bN k s3 s1 (h5.mono (zL o r9)) s0) ?_
       rintro _ a78 ⟨rfl,s4⟩
       have d5:=s2 _ _ s4
       refine bP (aD ⟨fun _=>⟨_,d5⟩,?_⟩)
       obtain ⟨s5,s6,hm⟩:=aB hm
       exact eO (i:=16) rfl (by kernel_rfl) ⟨_,d5⟩ (fun _ _=>dX rfl rfl s6) (eO (i:=17) rfl (by kernel_rfl) ⟨_,d5⟩ (fun _ _=>dJ (v:=str s5) rfl) (vN (by kernel_rfl) aE))
      ·refine dK (Kt:=K) (xs:=([2,3]:List Int)) (cs:=[i64 2,i64 3]) (vs:=[(0,i64 2),(1,i64 3)]) dR xY rfl rfl d rfl (by kernel_rfl) rfl rfl rfl ⟨rfl,rfl,trivial⟩ (fun d6 s7 (h8:aF G d3 (aV 2 K d6 2 ([2,3]:List Int)::L) s7)=>(bP (aD ⟨fun _=>⟨_,h8⟩,?_⟩)))
       refine iB (i:=4) (by kernel_rfl) rfl ?_;obtain ⟨a79,s8,hm⟩:=aB hm
       refine aT (vs:=V) call139 rfl (oT s8 h8) ?_
       rintro _ a80 ⟨rfl,a4⟩
       refine bP (aD ⟨fun _=>⟨_,a4⟩,?_⟩)
       obtain ⟨a81,s9,hm⟩:=aB hm
       refine eO (i:=5) rfl (by kernel_rfl) ⟨_,a4⟩ (fun _ _=>dX rfl rfl s9) ?_;obtain ⟨a82,t0,hm⟩:=aB hm
       refine eO (i:=6) rfl (by kernel_rfl) ⟨_,a4⟩ (fun _ _=>dX rfl rfl t0) (iB (i:=15) (by kernel_rfl) rfl ?_);obtain ⟨a83,t1,t2,t3,t4⟩:=aF.lendSp a4 o .head
       obtain ⟨a84,t5,hm⟩:=aB hm
       refine eM (vs:=[cE a0 0,zS d6 ([2,3]:List Int).length 2]) (caps:=[]) (us:=[cE a0 0,zS d6 ([2,3]:List Int).length 2]) rfl call137 rfl rfl (bN k t5 t3 (h5.mono (zL o t1)) t2) ?_
       rintro _ a85 ⟨rfl,t6⟩
       have d7:=t4 _ _ t6
       refine bP (aD ⟨fun _=>⟨_,d7⟩,?_⟩)
       obtain ⟨t7,t8,hm⟩:=aB hm
       exact eO (i:=16) rfl (by kernel_rfl) ⟨_,d7⟩ (fun _ _=>dX rfl rfl t8) (eO (i:=17) rfl (by kernel_rfl) ⟨_,d7⟩ (fun _ _=>dJ (v:=str t7) rfl) (vN (by kernel_rfl) aE))
     ·refine aP d2 rfl (aJ (aC (dN rfl rfl) (aG (v:=zB (b.val.Kind == 5)) (aM ?_))))
      rcases aI hm with ⟨d8,hm⟩|⟨d8,hm⟩
      ·refine aS d8 rfl (aH (aZ [] (fun f w=>∃ h9,aDh h9=some R/\f 2=str h9/\aF G K (L) w) aE ?_));obtain ⟨d9,p,i0,t9,a86⟩:=aF.lendBp u .head
       refine aDO (C:=fun w'=>∃ L',aF G d9 L' w') [] Tryz_mixed (by kernel_rfl) (fun a87 u0=>?_)
       have e:=aF.mono t9 u0
       refine eO (i:=0) rfl (by kernel_rfl) ⟨_,e⟩ (fun _ _=>bH (t':=2) aJc rfl rfl) (eO (i:=1) rfl (by kernel_rfl) ⟨_,e⟩ (fun _ ⟨_,e⟩=>bZ (t:=2) oK e i0 rfl rfl) (eO (i:=2) rfl (by kernel_rfl) ⟨_,e⟩ (fun _ _=>bH (t':=3) aLT rfl rfl) (eO (i:=3) rfl (by kernel_rfl) ⟨_,e⟩ (fun _ ⟨_,e⟩=>bZ (t:=3) sc_4 e i0 rfl rfl) (eO (i:=7) rfl (by kernel_rfl) ⟨_,e⟩ (fun _ _=>bC (v:=Value.func (.func 137) #[] #[]) rfl) (eO (i:=8) rfl (by kernel_rfl) ⟨_,e⟩ (fun _ _=>bC (v:=cE a1 0) rfl) (eO (i:=9) rfl (by kernel_rfl) ⟨_,e⟩ (fun _ _=>dO rfl (a.mono p)) (eO (i:=10) rfl (by kernel_rfl) ⟨_,e⟩ (fun _ _=>cF (k':=0+4) qJ rfl (a.mono p) rfl) (eO (i:=11) rfl (by kernel_rfl) ⟨_,e⟩ (fun _ ⟨_,e⟩=>bZ (t:=4) aDy e (a.mono p) rfl rfl) ?_))))))))
       obtain ⟨a88,i1,hm⟩:=aB hm
       refine eO (i:=12) rfl (by kernel_rfl) ⟨_,e⟩ (fun _ _=>cR aBR rfl (l.mono p) rfl rfl rfl i1) ?_;obtain ⟨a89,u1,u2⟩:=aW.el (sz:=1) rfl l i1
       obtain ⟨a5,rfl,i2⟩:=u2
       refine eO (i:=13) rfl (by kernel_rfl) ⟨_,e⟩ (fun _ ⟨_,e⟩=>bZ (t:=0) aEI e (u1.mono p) rfl rfl) (aGR (i:=4) (j:=14) (by kernel_rfl) rfl rfl ?_ ?_)
       ·obtain ⟨a90,u3,hm⟩:=aB hm
        refine aT (vs:=V) call139 rfl (oT u3 e) ?_
        rintro _ a91 ⟨rfl,a6⟩
        refine bP (aD ⟨fun _=>⟨_,a6⟩,?_⟩)
        obtain ⟨a92,u4,hm⟩:=aB hm
        refine eO (i:=5) rfl (by kernel_rfl) ⟨_,a6⟩ (fun _ _=>dX rfl rfl u4) ?_;obtain ⟨a93,u5,hm⟩:=aB hm
        refine eO (i:=6) rfl (by kernel_rfl) ⟨_,a6⟩ (fun _ _=>dX rfl rfl u5) (iB (i:=14) (by kernel_rfl) rfl (dK (Kt:=K) (xs:=([2,3]:List Int)) (cs:=[i64 2,i64 3]) (vs:=[(0,i64 2),(1,i64 3)]) dR xY rfl rfl a6 rfl (by kernel_rfl) rfl rfl rfl ⟨rfl,rfl,trivial⟩ (fun e0 u6 (i3:aF G d9 (aV 2 K e0 2 ([2,3]:List Int)::L) u6)=>(bP (aD ⟨fun _=>⟨_,i3⟩,?_⟩)))))
        refine iB (i:=15) (by kernel_rfl) rfl ?_;obtain ⟨a94,u7,u8,u9,v0⟩:=aF.lendSp i3 p .head
        obtain ⟨a95,v1,hm⟩:=aB hm
        refine eM (vs:=[cE a5 0,zS e0 ([2,3]:List Int).length 2]) (caps:=[]) (us:=[cE a5 0,zS e0 ([2,3]:List Int).length 2]) rfl call137 rfl rfl (bN k v1 u9 (i2.mono (zL p u7)) u8) ?_
        rintro _ a97 ⟨rfl,v2⟩
        have e1:=v0 _ _ v2
        refine bP (aD ⟨fun _=>⟨_,e1⟩,?_⟩)
        obtain ⟨v3,v4,hm⟩:=aB hm
        exact eO (i:=16) rfl (by kernel_rfl) ⟨_,e1⟩ (fun _ _=>dX rfl rfl v4) (eO (i:=17) rfl (by kernel_rfl) ⟨_,e1⟩ (fun _ _=>dJ (v:=str v3) rfl) (vN (by kernel_rfl) aE))
       ·refine dK (Kt:=K) (xs:=([2,3]:List Int)) (cs:=[i64 2,i64 3]) (vs:=[(0,i64 2),(1,i64 3)]) dR xY rfl rfl e rfl (by kernel_rfl) rfl rfl rfl ⟨rfl,rfl,trivial⟩ (fun e2 v5 (i4:aF G d9 (aV 2 K e2 2 ([2,3]:List Int)::L) v5)=>(bP (aD ⟨fun _=>⟨_,i4⟩,?_⟩)))
        refine iB (i:=4) (by kernel_rfl) rfl ?_;obtain ⟨a98,v6,hm⟩:=aB hm
        refine aT (vs:=V) call139 rfl (oT v6 i4) ?_
        rintro _ b00 ⟨rfl,a7⟩
        refine bP (aD ⟨fun _=>⟨_,a7⟩,?_⟩)
        obtain ⟨b01,v7,hm⟩:=aB hm
        refine eO (i:=5) rfl (by kernel_rfl) ⟨_,a7⟩ (fun _ _=>dX rfl rfl v7) ?_;obtain ⟨b02,v8,hm⟩:=aB hm
        refine eO (i:=6) rfl (by kernel_rfl) ⟨_,a7⟩ (fun _ _=>dX rfl rfl v8) (iB (i:=15) (by kernel_rfl) rfl ?_);obtain ⟨b03,v9,w0,w1,w2⟩:=aF.lendSp a7 p .head
        obtain ⟨b04,w3,hm⟩:=aB hm
        refine eM (vs:=[cE a5 0,zS e2 ([2,3]:List Int).length 2]) (caps:=[]) (us:=[cE a5 0,zS e2 ([2,3]:List Int).length 2]) rfl call137 rfl rfl (bN k w3 w1 (i2.mono (zL p v9)) w0) ?_
        rintro _ b05 ⟨rfl,w4⟩
        have e3:=w2 _ _ w4
        refine bP (aD ⟨fun _=>⟨_,e3⟩,?_⟩)
        obtain ⟨w5,w6,hm⟩:=aB hm
        exact eO (i:=16) rfl (by kernel_rfl) ⟨_,e3⟩ (fun _ _=>dX rfl rfl w6) (eO (i:=17) rfl (by kernel_rfl) ⟨_,e3⟩ (fun _ _=>dJ (v:=str w5) rfl) (vN (by kernel_rfl) aE))
      ·refine aP d8 rfl (aJ (aC (dN rfl rfl) (aG (v:=zB (b.val.Kind == 7)) (aM ?_))))
       rcases aI hm with ⟨e4,hm⟩|⟨e4,hm⟩
       ·refine aS e4 rfl (aH (aZ [] (fun f w=>∃ i5,aDi i5=some R/\f 2=str i5/\aF G K (L) w) aE ?_));obtain ⟨e5,q,w7,w9,b06⟩:=aF.lendBp u .head
        refine aDO (C:=fun w'=>∃ L',aF G e5 L' w') [] Tryz_mixed (by kernel_rfl) (fun b07 x0=>?_)
        have g:=aF.mono w9 x0
        refine eO (i:=0) rfl (by kernel_rfl) ⟨_,g⟩ (fun _ _=>bH (t':=1) aPh rfl rfl) (eO (i:=1) rfl (by kernel_rfl) ⟨_,g⟩ (fun _ ⟨_,g⟩=>bZ (t:=1) gJ g w7 rfl rfl) (eO (i:=5) rfl (by kernel_rfl) ⟨_,g⟩ (fun _ _=>bC (v:=Value.func (.func 137) #[] #[]) rfl) (eO (i:=6) rfl (by kernel_rfl) ⟨_,g⟩ (fun _ _=>bC (v:=cE a1 0) rfl) (eO (i:=7) rfl (by kernel_rfl) ⟨_,g⟩ (fun _ _=>dO rfl (a.mono q)) (eO (i:=8) rfl (by kernel_rfl) ⟨_,g⟩ (fun _ _=>cF (k':=0+4) qJ rfl (a.mono q) rfl) (eO (i:=9) rfl (by kernel_rfl) ⟨_,g⟩ (fun _ ⟨_,g⟩=>bZ (t:=4) aDy g (a.mono q) rfl rfl) ?_))))))
        obtain ⟨b08,i6,hm⟩:=aB hm
        refine eO (i:=10) rfl (by kernel_rfl) ⟨_,g⟩ (fun _ _=>cR aBR rfl (l.mono q) rfl rfl rfl i6) ?_;obtain ⟨b09,x1,x2⟩:=aW.el (sz:=1) rfl l i6
        obtain ⟨a8,rfl,i7⟩:=x2
        refine eO (i:=11) rfl (by kernel_rfl) ⟨_,g⟩ (fun _ ⟨_,g⟩=>bZ (t:=0) aEI g (x1.mono q) rfl rfl) (aGR (i:=2) (j:=12) (by kernel_rfl) rfl rfl ?_ ?_)
        ·obtain ⟨b10,x3,hm⟩:=aB hm
         refine aT (vs:=[i64 b.val.Variable]) call104 rfl (nL g x3) ?_
         rintro _ b11 ⟨rfl,a9⟩
         refine bP (aD ⟨fun _=>⟨_,a9⟩,?_⟩)
         obtain ⟨b12,x4,hm⟩:=aB hm
         refine eO (i:=3) rfl (by kernel_rfl) ⟨_,a9⟩ (fun _ _=>dX rfl rfl x4) ?_;obtain ⟨b13,x5,hm⟩:=aB hm
         refine eO (i:=4) rfl (by kernel_rfl) ⟨_,a9⟩ (fun _ _=>dX rfl rfl x5) (iB (i:=12) (by kernel_rfl) rfl (dK (Kt:=K) (xs:=([2,3]:List Int)) (cs:=[i64 2,i64 3]) (vs:=[(0,i64 2),(1,i64 3)]) dR xY rfl rfl a9 rfl (by kernel_rfl) rfl rfl rfl ⟨rfl,rfl,trivial⟩ (fun e6 x6 (i8:aF G e5 (aV 2 K e6 2 ([2,3]:List Int)::L) x6)=>(bP (aD ⟨fun _=>⟨_,i8⟩,?_⟩)))))
         refine iB (i:=13) (by kernel_rfl) rfl ?_;obtain ⟨b14,x7,x8,x9,y0⟩:=aF.lendSp i8 q .head
         obtain ⟨b15,y1,hm⟩:=aB hm
         refine eM (vs:=[cE a8 0,zS e6 ([2,3]:List Int).length 2]) (caps:=[]) (us:=[cE a8 0,zS e6 ([2,3]:List Int).length 2]) rfl call137 rfl rfl (bN k y1 x9 (i7.mono (zL q x7)) x8) ?_
         rintro _ b16 ⟨rfl,y2⟩
         have e7:=y0 _ _ y2
         refine bP (aD ⟨fun _=>⟨_,e7⟩,?_⟩)
         obtain ⟨y3,y4,hm⟩:=aB hm
         exact eO (i:=14) rfl (by kernel_rfl) ⟨_,e7⟩ (fun _ _=>dX rfl rfl y4) (eO (i:=15) rfl (by kernel_rfl) ⟨_,e7⟩ (fun _ _=>dJ (v:=str y3) rfl) (vN (by kernel_rfl) aE))
        ·refine dK (Kt:=K) (xs:=([2,3]:List Int)) (cs:=[i64 2,i64 3]) (vs:=[(0,i64 2),(1,i64 3)]) dR xY rfl rfl g rfl (by kernel_rfl) rfl rfl rfl ⟨rfl,rfl,trivial⟩ (fun e8 y5 (i9:aF G e5 (aV 2 K e8 2 ([2,3]:List Int)::L) y5)=>(bP (aD ⟨fun _=>⟨_,i9⟩,?_⟩)))
         refine iB (i:=2) (by kernel_rfl) rfl ?_;obtain ⟨b17,y6,hm⟩:=aB hm
         refine aT (vs:=[i64 b.val.Variable]) call104 rfl (nL i9 y6) ?_
         rintro _ b18 ⟨rfl,b0⟩
         refine bP (aD ⟨fun _=>⟨_,b0⟩,?_⟩)
         obtain ⟨b19,y7,hm⟩:=aB hm
         refine eO (i:=3) rfl (by kernel_rfl) ⟨_,b0⟩ (fun _ _=>dX rfl rfl y7) ?_;obtain ⟨b20,y8,hm⟩:=aB hm
         refine eO (i:=4) rfl (by kernel_rfl) ⟨_,b0⟩ (fun _ _=>dX rfl rfl y8) (iB (i:=13) (by kernel_rfl) rfl ?_);obtain ⟨b21,y9,z0,z1,z2⟩:=aF.lendSp b0 q .head
         obtain ⟨b22,z3,hm⟩:=aB hm
         refine eM (vs:=[cE a8 0,zS e8 ([2,3]:List Int).length 2]) (caps:=[]) (us:=[cE a8 0,zS e8 ([2,3]:List Int).length 2]) rfl call137 rfl rfl (bN k z3 z1 (i7.mono (zL q y9)) z0) ?_
         rintro _ b23 ⟨rfl,z4⟩
         have e9:=z2 _ _ z4
         refine bP (aD ⟨fun _=>⟨_,e9⟩,?_⟩)
         obtain ⟨z5,z6,hm⟩:=aB hm
         exact eO (i:=14) rfl (by kernel_rfl) ⟨_,e9⟩ (fun _ _=>dX rfl rfl z6) (eO (i:=15) rfl (by kernel_rfl) ⟨_,e9⟩ (fun _ _=>dJ (v:=str z5) rfl) (vN (by kernel_rfl) aE))
       ·refine aP e4 rfl (aJ (aC (dN rfl rfl) (aG (v:=zB (b.val.Kind == 8)) (aM ?_))))
        rcases aI hm with ⟨j0,hm⟩|⟨j0,hm⟩
        ·refine aS j0 rfl (aH (aZ [] (fun f w=>∃ j1,aDj j1=some R/\f 2=str j1/\aF G K (L) w) aE ?_));obtain ⟨f0,r,z7,z8,b24⟩:=aF.lendBp u .head
         refine aDO (C:=fun w'=>∃ L',aF G f0 L' w') [] Tryz_mixed (by kernel_rfl) (fun b25 z9=>?_)
         have h:=aF.mono z8 z9
         refine eO (i:=0) rfl (by kernel_rfl) ⟨_,h⟩ (fun _ _=>bH (t':=1) aPh rfl rfl) (eO (i:=1) rfl (by kernel_rfl) ⟨_,h⟩ (fun _ ⟨_,h⟩=>bZ (t:=1) gJ h z7 rfl rfl) (eO (i:=5) rfl (by kernel_rfl) ⟨_,h⟩ (fun _ _=>bC (v:=Value.func (.func 137) #[] #[]) rfl) (eO (i:=6) rfl (by kernel_rfl) ⟨_,h⟩ (fun _ _=>bC (v:=cE a1 0) rfl) (eO (i:=7) rfl (by kernel_rfl) ⟨_,h⟩ (fun _ _=>dO rfl (a.mono r)) (eO (i:=8) rfl (by kernel_rfl) ⟨_,h⟩ (fun _ _=>cF (k':=0+4) qJ rfl (a.mono r) rfl) (eO (i:=9) rfl (by kernel_rfl) ⟨_,h⟩ (fun _ ⟨_,h⟩=>bZ (t:=4) aDy h (a.mono r) rfl rfl) ?_))))))
         obtain ⟨b26,j2,hm⟩:=aB hm
         refine eO (i:=10) rfl (by kernel_rfl) ⟨_,h⟩ (fun _ _=>cR aBR rfl (l.mono r) rfl rfl rfl j2) ?_;obtain ⟨b27,a00,a01⟩:=aW.el (sz:=1) rfl l j2
         obtain ⟨b1,rfl,j3⟩:=a01
         refine eO (i:=11) rfl (by kernel_rfl) ⟨_,h⟩ (fun _ ⟨_,h⟩=>bZ (t:=0) aEI h (a00.mono r) rfl rfl) (aGR (i:=2) (j:=12) (by kernel_rfl) rfl rfl ?_ ?_)
         ·obtain ⟨b28,a02,hm⟩:=aB hm
          refine aT (vs:=[i64 b.val.Variable]) call104 rfl (nL h a02) ?_
          rintro _ b29 ⟨rfl,b2⟩
          refine bP (aD ⟨fun _=>⟨_,b2⟩,?_⟩)
          obtain ⟨b30,a03,hm⟩:=aB hm
          refine eO (i:=3) rfl (by kernel_rfl) ⟨_,b2⟩ (fun _ _=>dX rfl rfl a03) ?_;obtain ⟨b31,a04,hm⟩:=aB hm
          refine eO (i:=4) rfl (by kernel_rfl) ⟨_,b2⟩ (fun _ _=>dX rfl rfl a04) (iB (i:=12) (by kernel_rfl) rfl (dK (Kt:=K) (xs:=([2,3]:List Int)) (cs:=[i64 2,i64 3]) (vs:=[(0,i64 2),(1,i64 3)]) dR xY rfl rfl b2 rfl (by kernel_rfl) rfl rfl rfl ⟨rfl,rfl,trivial⟩ (fun f1 a05 (j4:aF G f0 (aV 2 K f1 2 ([2,3]:List Int)::L) a05)=>(bP (aD ⟨fun _=>⟨_,j4⟩,?_⟩)))))
          refine iB (i:=13) (by kernel_rfl) rfl ?_;obtain ⟨b32,a06,a07,a08,a09⟩:=aF.lendSp j4 r .head
          obtain ⟨b33,a10,hm⟩:=aB hm
          refine eM (vs:=[cE b1 0,zS f1 ([2,3]:List Int).length 2]) (caps:=[]) (us:=[cE b1 0,zS f1 ([2,3]:List Int).length 2]) rfl call137 rfl rfl (bN k a10 a08 (j3.mono (zL r a06)) a07) ?_
          rintro _ b34 ⟨rfl,a11⟩
          have f2:=a09 _ _ a11
          refine bP (aD ⟨fun _=>⟨_,f2⟩,?_⟩)
          obtain ⟨a12,a13,hm⟩:=aB hm
          exact eO (i:=14) rfl (by kernel_rfl) ⟨_,f2⟩ (fun _ _=>dX rfl rfl a13) (eO (i:=15) rfl (by kernel_rfl) ⟨_,f2⟩ (fun _ _=>dJ (v:=str a12) rfl) (vN (by kernel_rfl) aE))
         ·refine dK (Kt:=K) (xs:=([2,3]:List Int)) (cs:=[i64 2,i64 3]) (vs:=[(0,i64 2),(1,i64 3)]) dR xY rfl rfl h rfl (by kernel_rfl) rfl rfl rfl ⟨rfl,rfl,trivial⟩ (fun f3 a14 (j5:aF G f0 (aV 2 K f3 2 ([2,3]:List Int)::L) a14)=>(bP (aD ⟨fun _=>⟨_,j5⟩,?_⟩)))
          refine iB (i:=2) (by kernel_rfl) rfl ?_;obtain ⟨b35,a15,hm⟩:=aB hm
          refine aT (vs:=[i64 b.val.Variable]) call104 rfl (nL j5 a15) ?_
          rintro _ b36 ⟨rfl,b3⟩
          refine bP (aD ⟨fun _=>⟨_,b3⟩,?_⟩)
          obtain ⟨b37,a16,hm⟩:=aB hm
          refine eO (i:=3) rfl (by kernel_rfl) ⟨_,b3⟩ (fun _ _=>dX rfl rfl a16) ?_;obtain ⟨b38,a17,hm⟩:=aB hm
          refine eO (i:=4) rfl (by kernel_rfl) ⟨_,b3⟩ (fun _ _=>dX rfl rfl a17) (iB (i:=13) (by kernel_rfl) rfl ?_);obtain ⟨b39,a18,a19,a20,a21⟩:=aF.lendSp b3 r .head
          obtain ⟨b40,a22,hm⟩:=aB hm
          refine eM (vs:=[cE b1 0,zS f3 ([2,3]:List Int).length 2]) (caps:=[]) (us:=[cE b1 0,zS f3 ([2,3]:List Int).length 2]) rfl call137 rfl rfl (bN k a22 a20 (j3.mono (zL r a18)) a19) ?_
          rintro _ b41 ⟨rfl,a23⟩
          have f4:=a21 _ _ a23
          refine bP (aD ⟨fun _=>⟨_,f4⟩,?_⟩)
          obtain ⟨a24,a25,hm⟩:=aB hm
          exact eO (i:=14) rfl (by kernel_rfl) ⟨_,f4⟩ (fun _ _=>dX rfl rfl a25) (eO (i:=15) rfl (by kernel_rfl) ⟨_,f4⟩ (fun _ _=>dJ (v:=str a24) rfl) (vN (by kernel_rfl) aE))
        ·exact aE
theorem xR (n:Nat):∀ {G:kH} {K:Hp} {L:List eW} {w:World} {c:(Tr bI)} {a1:Option Addr} {R:aL} (hm:eA n c=some R) (a:aF G K (L) w) (b:trd K c a1),
  Calls prog 99 ([cE a1 0]:List Value).toArray w (cL fun v w'=>v=str R/\aF G K (L) w'):=by
 induction n with
 |zero=>
  intro G K L w c a1 R hm a b
  unfold eA at hm
  cases hm
 |succ n ih=>
  intro G K L w c a1 R hm a b
  exact xQ (rec_:=eA n) (fun hm a b=>ih hm a b) hm a b
theorem aHz {x_:(Tr bI)} {R:aL} (hm:aCt x_=some R) (hs:aF G K (L) w) (h2:trd K x_ a1):
  Calls prog 99 ([cE a1 0]:List Value).toArray w (cL fun v w'=>v=str R/\aF G K (L) w'):=xR 100000 hm hs h2
theorem aIA {a:(List bI)} {R:aL} (hm:pG a=some R) (b:aF G K (L) w) (c:G.lo=0) (d:aW K a1 c2 a):
  Calls prog 49 ([zS a1 a.length c2]:List Value).toArray w (cL fun v w'=>v=str R/\aF G K (L) w'):=by
 exact aE
theorem xF {d:Definition} {R:Bool} (hm:wU d=some R) (a:aF G K (L) w) (b:aW K a1 c2 d.Body):
  Calls prog 207 ([zA #[str d.Name,i64 d.Parameters,zS a1 d.Body.length c2]]:List Value).toArray w (cL fun v w'=>v=zB R/\aF G K (L) w'):=by
 exact aE
theorem jD {b:(List Definition)} {R:Int} (hm:cU b=some R) (q:aF G K (L) w) (g:aW K a1 c2 b):
  Calls prog 208 ([zS a1 b.length c2,Value.func (.func 207) #[] #[]]:List Value).toArray w (cL fun v w'=>v=i64 R/\aF G K (L) w'):=by
 refine aN func208 rfl (by kernel_rfl) (by show (2:Nat)<=19;decide) ?_;unfold cU at hm
 refine aJ (aG (v:=i64 0) (aM (aH (aJ (aO (v:=zS a1 b.length c2) (aC (aX (len:=b.length) qI rfl) (aO (v:=i64 0) (aM (aQ [] (fun f w=>fI=some R/\aF G K (L) w) aE ?_)))))))));obtain ⟨r,l,ho⟩:=aB hm
 refine bW [0,1,7] l (fun c f w=>f 8=i64 c/\aF G K (L) w) aE ?_
 ·rintro c u f x hm hr ⟨h,i⟩
  unfold bX at hm
  refine aJ (aC (eC h rfl) (aM (aH ?_)))
  rcases aI hm with ⟨j,hm⟩|⟨j,hm⟩
  ·refine aS j rfl (aU (aD (aH (bJ (aJ (bR h (aG (v:=i64 c) (aM (aJ (aO (v:=Value.func (.func 207) #[] #[]) (aO (v:=zS a1 b.length c2) (aO (v:=i64 c) ?_))))))))))));obtain ⟨a,k,hm⟩:=aB hm
   refine aC (cR qI rfl g rfl rfl rfl k) ?_;obtain ⟨y,m,n⟩:=aW.el (sz:=3) rfl g k
   obtain ⟨d,e,rfl,o⟩:=n
   refine aC (eD (t:=0) (vs:=[str a.Name,i64 a.Parameters,zS d a.Body.length e]) aEH i m rfl rfl rfl) ?_;obtain ⟨z,p,hm⟩:=aB hm
   exact eM (vs:=[zA #[str a.Name,i64 a.Parameters,zS d a.Body.length e]]) (caps:=[]) (us:=[zA #[str a.Name,i64 a.Parameters,zS d a.Body.length e]]) rfl call207 rfl rfl (xF p i o) aE
  ·exact aE
theorem iN {a:(List Definition)} {R:Bool} (hm:cM a=some R) (b:aF G K (L) w) (c:aW K a1 c2 a):
  Calls prog 206 ([zS a1 a.length c2,Value.func (.func 207) #[] #[]]:List Value).toArray w (cL fun v w'=>v=zB R/\aF G K (L) w'):=by
 exact aE
theorem aHA {a:(List Definition)} {R:Bool} (hm:wV a=some R) (b:aF G K (L) w) (c:aW K a1 c2 a):
  Calls prog 175 ([zS a1 a.length c2]:List Value).toArray w (cL fun v w'=>v=zB R/\aF G K (L) w'):=by
 exact aE
theorem sC {d:Definition} {p:aL} {a:Nat} {R:Bool} (hm:qW d p=some R) (b:aF G K (L) w) (c:aW K a1 c2 d.Body) (e:eR K a4 a [str p]):
  Calls prog 209 ([zA #[str d.Name,i64 d.Parameters,zS a1 d.Body.length c2],cE a4 a]:List Value).toArray w (cL fun v w'=>v=zB R/\aF G K (L) w'):=by
 exact aE
theorem eZ {b:(List Definition)} {h:aL} {c:Nat} {R:Int} (hm:cN b h=some R) (x:aF G K (L) w) (i:aW K a1 c2 b) (n:eR K a4 c [str h]):
  Calls prog 208 ([zS a1 b.length c2,Value.func (.func 209) #[] #[cE a4 c]]:List Value).toArray w (cL fun v w'=>v=i64 R/\aF G K (L) w'):=by
 refine aN func208 rfl (by kernel_rfl) (by show (2:Nat)<=19;decide) ?_;unfold cN at hm
 refine aJ (aG (v:=i64 0) (aM (aH (aJ (aO (v:=zS a1 b.length c2) (aC (aX (len:=b.length) qI rfl) (aO (v:=i64 0) (aM (aQ [] (fun f w=>fE=some R/\aF G K (L) w) aE ?_)))))))));obtain ⟨y,o,ho⟩:=aB hm
 refine bW [0,1,7] o (fun d f w=>f 8=i64 d/\aF G K (L) w) aE ?_
 ·rintro d z f J hm hr ⟨j,k⟩
  unfold bQ at hm
  refine aJ (aC (eC j rfl) (aM (aH ?_)))
  rcases aI hm with ⟨l,hm⟩|⟨l,hm⟩
  ·refine aS l rfl (aU (aD (aH (bJ (aJ (bR j (aG (v:=i64 d) (aM (aJ (aO (v:=Value.func (.func 209) #[] #[cE a4 c]) (aO (v:=zS a1 b.length c2) (aO (v:=i64 d) ?_))))))))))));obtain ⟨a,m,hm⟩:=aB hm
   refine aC (cR qI rfl i rfl rfl rfl m) ?_;obtain ⟨V,p,q⟩:=aW.el (sz:=3) rfl i m
   obtain ⟨e,g,rfl,r⟩:=q
   refine aC (eD (t:=0) (vs:=[str a.Name,i64 a.Parameters,zS e a.Body.length g]) aEH k p rfl rfl rfl) ?_;obtain ⟨Z,u,hm⟩:=aB hm
   exact eM (vs:=[zA #[str a.Name,i64 a.Parameters,zS e a.Body.length g]]) (caps:=[cE a4 c]) (us:=[zA #[str a.Name,i64 a.Parameters,zS e a.Body.length g],cE a4 c]) rfl call209 rfl rfl (sC u k r n) aE
  ·exact aE
theorem xG {a:(List Definition)} {b:aL} {R:Int} (hm:lX a b=some R) (d:aF G K (L) w) (e:aW K a1 c2 a):
  Calls prog 176 ([zS a1 a.length c2,str b]:List Value).toArray w (cL fun v w'=>v=i64 R/\aF G K (L) w'):=by
 refine aN func176 rfl (by kernel_rfl) (by show (2:Nat)<=8;decide) ?_;unfold lX at hm
 refine aJ (eT (v:=str b) (vs:=[str b]) d rfl rfl (fun c l g=>(aG (v:=i64 0) (aM (aJ (aO (v:=zS a1 a.length c2) (aC (xV (vs:=[zP (some ⟨c,0,none⟩)]) rfl) ?_)))))));obtain ⟨m,h,i,j,n⟩:=aF.lendBp g .head
 obtain ⟨o,k,hm⟩:=aB hm
 exact aT (vs:=[zS a1 a.length c2,Value.func (.func 209) #[] #[cE (some ⟨c,0,none⟩) 0]]) call208 rfl (eZ k j (e.mono h) i) aE
theorem aCC {p:bG} {R:Int} (hm:tJ p=some R) (b:aF G K (L) w) (d:aW K a1 c2 p.Arguments):
  Calls prog 246 ([zA #[i64 p.Kind,i64 p.Number,str p.Name,zS a1 p.Arguments.length c2]]:List Value).toArray w (cL fun v w'=>v=i64 R/\aF G K (L) w'):=by
 refine aN func246 rfl (by kernel_rfl) (by show (1:Nat)<=11;decide) ?_;unfold tJ at hm
 exact aJ (eT (v:=zA #[i64 p.Kind,i64 p.Number,str p.Name,zS a1 p.Arguments.length c2]) (vs:=[i64 p.Kind,i64 p.Number,str p.Name,zS a1 p.Arguments.length c2]) b rfl rfl (fun e g c=>(aG (v:=i64 0) (aM (aH (aJ (aC (bH (t':=0) oL rfl rfl) (aC (dD gJ c (i:=0) rfl rfl rfl) (aM (bJ (gI [4] (fun f w=>∃ a,rU p a=some R/\f 5=zB a/\aF G K (L) w) aE aE)))))))))))
theorem aFR {d:Definition} {part R:Int} (hm:kV d part=some R) (c:aF G K (L) w) (j:aW K a1 c2 d.Body):
  Calls prog 210 ([zA #[str d.Name,i64 d.Parameters,zS a1 d.Body.length c2],i64 part]:List Value).toArray w (cL fun v w'=>v=i64 R/\aF G K (L) w'):=by
 let a:=[str d.Name,i64 d.Parameters,zS a1 d.Body.length c2]
 refine aN func210 rfl (by kernel_rfl) (by show (2:Nat)<=25;decide) ?_;unfold kV at hm
 refine aJ (eT (v:=zA #[str d.Name,i64 d.Parameters,zS a1 d.Body.length c2]) (vs:=a) c rfl rfl (fun e k l=>(aG (v:=i64 0) (aM (aH (aJ (aG (v:=i64 1) (aM (aQ [] (fun f w=>∃ b,mJ b=some R/\f 1=i64 b/\aF G K (L) w) aE ?_)))))))));obtain ⟨m,g,ho⟩:=aB hm
 exact cD [2] g (fun h i f w=>f 1=i64 h/\f 5=i64 i/\aF G K (box e 131 a::L) w) aE aE
theorem nM {rec_:Int->dH->(List dH)->Definition->Definition->Option (Int × (List dH))} (ih:∀ {G:kH} {K:Hp} {L:List eW} {w:World} {d:Int} {p:dH} {b1:Nat} {k:(List dH)} {a2:Option Addr} {c3:Nat} {c:Definition} {a4:Option Addr} {q:Nat} {a7:Option Addr} {c8:Nat} {a10:Option Addr} {g:Nat} {b:Definition} {a13:Option Addr} {n:Nat} {a16:Option Addr} {c17:Nat} {R:(Int × (List dH))} (hm:rec_ d p k c b=some R) (hs:aF G K (aV 260 K a2 c3 k::box b1 256 [zS a2 k.length c3]::L) w) (h6:eR K a4 q [str c.Name,i64 c.Parameters,zS a7 c.Body.length c8]) (h9:aW K a7 c8 c.Body) (a5:eR K a10 g [Value.func (.func 247) #[] #[zP (some ⟨b1,0,none⟩),cE a13 n,cE a10 g]]) (a6:eR K a13 n [str b.Name,i64 b.Parameters,zS a16 b.Body.length c17]) (a8:aW K a16 c17 b.Body),
  Calls prog 247 ([i64 d,zA #[i64 p.scope,zB p.behind],zP (some ⟨b1,0,none⟩),cE a4 q,cE a10 g]:List Value).toArray w (cL fun v w'=>∃ r u,v=i64 R.1/\aF G K (aV 260 K r u R.2::box b1 256 [zS r R.2.length u]::L) w'))
  {G:kH} {K:Hp} {L:List eW} {w:World} {d:Int} {p:dH} {b1:Nat} {k:(List dH)} {a2:Option Addr} {c3:Nat} {c:Definition} {a4:Option Addr} {q:Nat} {a7:Option Addr} {c8:Nat} {a10:Option Addr} {g:Nat} {b:Definition} {a13:Option Addr} {n:Nat} {a16:Option Addr} {c17:Nat} {R:(Int × (List dH))} (hm:dP rec_ d p k c b=some R) (hs:aF G K (aV 260 K a2 c3 k::box b1 256 [zS a2 k.length c3]::L) w) (h6:eR K a4 q [str c.Name,i64 c.Parameters,zS a7 c.Body.length c8]) (h9:aW K a7 c8 c.Body) (a5:eR K a10 g [Value.func (.func 247) #[] #[zP (some ⟨b1,0,none⟩),cE a13 n,cE a10 g]]) (a6:eR K a13 n [str b.Name,i64 b.Parameters,zS a16 b.Body.length c17]) (a8:aW K a16 c17 b.Body):
  Calls prog 247 ([i64 d,zA #[i64 p.scope,zB p.behind],zP (some ⟨b1,0,none⟩),cE a4 q,cE a10 g]:List Value).toArray w (cL fun v w'=>∃ r u,v=i64 R.1/\aF G K (aV 260 K r u R.2::box b1 256 [zS r R.2.length u]::L) w'):=by
 let o:=[i64 p.scope,zB p.behind]
 refine aN func247 rfl (by kernel_rfl) (by show (5:Nat)<=45;decide) ?_;unfold dP at hm
 refine aJ (eT (v:=zA #[i64 p.scope,zB p.behind]) (vs:=o) hs rfl rfl (fun J e5 V=>(aG (v:=i64 0) (aM (aJ (aC (dD sc_256 V (i:=2) rfl rfl rfl) (aO (v:=i64 d) (aC (jL (us:=o) ag_260 V (i:=0) rfl rfl rfl rfl) ?_))))))));obtain ⟨e6,a9,hm⟩:=aB hm
 have c9:=eN V (i:=1) rfl a9
 refine aC (jE sl_256 rfl c9 rfl rfl rfl a9) ?_;obtain ⟨e,b7,hm⟩:=aB hm
 refine aEC (i:=1) (t:=0) (ns:=o) (e':=(⟨p.scope,p.behind⟩:dH)) sizeOf260 V rfl (zR _) rfl rfl rfl a9 b7 rfl rfl (kJ rfl) rfl (fun cs h=>by cases h;rfl) (fun b8 (d0:aF G K (box J 260 o::aV 260 K a2 c3 e::box b1 256 [zS a2 k.length c3]::L) b8)=>?_)
 have b0:aF G K (box J 260 o::aV 260 K a2 c3 e::box b1 256 [zS a2 e.length c3]::L) b8:=by rw [←(vH b7)];exact d0
 refine aM (aJ (aC (cF (k':=q+2) aBP rfl h6 rfl) (aC (bZ (t:=2) xZ b0 h6 rfl rfl) (aO (v:=i64 d) ?_))));obtain ⟨a,b9,hm⟩:=aB hm
 refine aC (cR lK rfl h9 rfl rfl rfl b9) ?_;obtain ⟨e7,d1,d2⟩:=aW.el (sz:=4) rfl h9 b9
 obtain ⟨l,m,rfl,d3⟩:=d2
 refine aC (eD (t:=0) (vs:=[i64 a.Kind,i64 a.Number,str a.Name,zS l a.Arguments.length m]) yA b0 d1 rfl rfl rfl) (eE (vs:=[i64 0,i64 0,str ([]:aL),zS none 0 0]) zeroValue170 b0 rfl (fun b2 e8 d4=>(fA (i:=0) (ns:=[i64 a.Kind,i64 a.Number,str a.Name,zS l a.Arguments.length m]) (us:=[i64 a.Kind,i64 a.Number,str a.Name,zS l a.Arguments.length m]) sizeOf170 d4 rfl rfl rfl rfl rfl (kJ rfl) rfl rfl (fun d5 (b3:aF G K (box b2 170 [i64 a.Kind,i64 a.Number,str a.Name,zS l a.Arguments.length m]::box J 260 o::aV 260 K a2 c3 e::box b1 256 [zS a2 e.length c3]::L) d5)=>(aM (aJ (aC (bH (t':=0) aQh rfl rfl) (aC (dD gJ b3 (i:=1) rfl rfl rfl) (aC (bH (t':=0) oL rfl rfl) (aC (dD gJ b3 (i:=0) rfl rfl rfl) (aC (dN rfl rfl) (aC (aCR (vs:=[(0,i64 p.scope),(1,zB (a.Kind == 1))]) (cs:=[i64 p.scope,zB (a.Kind == 1)]) bs_260 rfl (by kernel_rfl)) (eE (vs:=[i64 0,zB false]) zeroValue260 b3 rfl (fun Z e9 d6=>(fA (i:=0) (ns:=[i64 p.scope,zB (a.Kind == 1)]) (us:=[i64 p.scope,zB (a.Kind == 1)]) sizeOf260 d6 rfl rfl rfl rfl rfl (kJ rfl) rfl rfl (fun d7 (f0:aF G K (box Z 260 [i64 p.scope,zB (a.Kind == 1)]::box b2 170 [i64 a.Kind,i64 a.Number,str a.Name,zS l a.Arguments.length m]::box J 260 o::aV 260 K a2 c3 e::box b1 256 [zS a2 e.length c3]::L) d7)=>(aM (gI [0,4,8,9] (fun f w=>∃ j,cV rec_ d b e a j=some R/\aF G K (box Z 260 [i64 j,zB (a.Kind == 1)]::box b2 170 [i64 a.Kind,i64 a.Number,str a.Name,zS l a.Arguments.length m]::aV 260 K a2 c3 e::box b1 256 [zS a2 e.length c3]::L) w) ?_ ?_))))))))))))))))))
 ·rintro f f1 ⟨j,hm,c0⟩
  unfold cV at hm
  refine aJ (aO (v:=i64 d) (aC (nI rfl rfl) (aG (v:=i64 (wr (d+1))) (aM (aH (aJ (aC (jL (us:=[i64 a.Kind,i64 a.Number,str a.Name,zS l a.Arguments.length m]) yA c0 (i:=1) rfl rfl rfl rfl) ?_)))))));obtain ⟨f2,d8,hm⟩:=aB hm
  refine aT (vs:=[zA #[i64 a.Kind,i64 a.Number,str a.Name,zS l a.Arguments.length m]]) call246 rfl (aCC d8 c0 d3) ?_
  rintro _ f3 ⟨rfl,f4⟩
  refine aO (v:=i64 0) (aM (aQ [] (fun f w=>∃ c1 b4 c2 c4,iR c1 b4=some R/\f 10=i64 c1/\aF G K (aV 260 K c2 c4 b4::box b1 256 [zS c2 b4.length c4]::L) w) aE ?_));obtain ⟨f5,d9,ho⟩:=aB hm
  refine aBM [4,9,36] d9 (fun a0 c5 x f w=>∃ y z,f 10=i64 a0/\f 37=i64 c5/\aF G K (box Z 260 [i64 j,zB (a.Kind == 1)]::aV 260 K y z x::box b1 256 [zS y x.length z]::L) w) aE ?_
  ·rintro a0 c5 x f6 f e0 hm hr ⟨y,z,e1,e2,b5⟩
   unfold eV at hm
   refine aJ (aC (eC e2 rfl) (aM (aH ?_)))
   rcases aI hm with ⟨c6,hm⟩|⟨c6,hm⟩
   ·refine aS c6 rfl (aU (aD (aH (bJ (bK (aC (bZ (t:=0) sc_295 b5 a5 rfl rfl) (bR e1 (aC (jL (us:=[i64 j,zB (a.Kind == 1)]) ag_260 b5 (i:=0) rfl rfl rfl rfl) ?_))))))))
    have e3:aF G K (aV 260 K y z x::box b1 256 [zS y x.length z]::box Z 260 [i64 j,zB (a.Kind == 1)]::L) e0:=(aF.arr 3 [1,2,0] b5 rfl)
    obtain ⟨f7,e4,hm⟩:=aB hm
    exact eM (vs:=[i64 a0,zA #[i64 j,zB (a.Kind == 1)]]) (caps:=[zP (some ⟨b1,0,none⟩),cE a13 n,cE a10 g]) (us:=[i64 a0,zA #[i64 j,zB (a.Kind == 1)],zP (some ⟨b1,0,none⟩),cE a13 n,cE a10 g]) rfl call247 rfl rfl (ih (p:=⟨j,a.Kind == 1⟩) e4 e3 a6 a8 a5 a6 a8) aE
   ·exact aE
 exact aE
theorem nN (n:Nat):∀ {G:kH} {K:Hp} {L:List eW} {w:World} {l:Int} {p:dH} {b1:Nat} {c:(List dH)} {a2:Option Addr} {c3:Nat} {a:Definition} {a4:Option Addr} {m:Nat} {a7:Option Addr} {c8:Nat} {a10:Option Addr} {d:Nat} {b:Definition} {a13:Option Addr} {o:Nat} {a16:Option Addr} {c17:Nat} {R:(Int × (List dH))} (hm:cH n l p c a b=some R) (e:aF G K (aV 260 K a2 c3 c::box b1 256 [zS a2 c.length c3]::L) w) (g:eR K a4 m [str a.Name,i64 a.Parameters,zS a7 a.Body.length c8]) (h:aW K a7 c8 a.Body) (i:eR K a10 d [Value.func (.func 247) #[] #[zP (some ⟨b1,0,none⟩),cE a13 o,cE a10 d]]) (j:eR K a13 o [str b.Name,i64 b.Parameters,zS a16 b.Body.length c17]) (k:aW K a16 c17 b.Body),
  Calls prog 247 ([i64 l,zA #[i64 p.scope,zB p.behind],zP (some ⟨b1,0,none⟩),cE a4 m,cE a10 d]:List Value).toArray w (cL fun v w'=>∃ q r,v=i64 R.1/\aF G K (aV 260 K q r R.2::box b1 256 [zS q R.2.length r]::L) w'):=by
 induction n with
 |zero=>
  intro G K L w l p b1 c a2 c3 a a4 m a7 c8 a10 d b a13 o a16 c17 R hm e g h i j k
  unfold cH at hm
  cases hm
 |succ n ih=>
  intro G K L w l p b1 c a2 c3 a a4 m a7 c8 a10 d b a13 o a16 c17 R hm e g h i j k
  exact nM (rec_:=cH n) (fun hm e g h i j k=>ih hm e g h i j k) hm e g h i j k
theorem qC {at_:Int} {p:dH} {p':(List dH)} {p'':Definition} {k5 k11:Nat} {p_c1_:Definition} {k14:Nat} {R:(Int × (List dH))} (hm:nZ at_ p p' p'' p_c1_=some R) (hs:aF G K (aV 260 K a2 c3 p'::box b1 256 [zS a2 p'.length c3]::L) w) (h6:eR K a4 k5 [str p''.Name,i64 p''.Parameters,zS a7 p''.Body.length c8]) (h9:aW K a7 c8 p''.Body) (h12:eR K a10 k11 [Value.func (.func 247) #[] #[zP (some ⟨b1,0,none⟩),cE a13 k14,cE a10 k11]]) (h15:eR K a13 k14 [str p_c1_.Name,i64 p_c1_.Parameters,zS a16 p_c1_.Body.length c17]) (h18:aW K a16 c17 p_c1_.Body):
  Calls prog 247 ([i64 at_,zA #[i64 p.scope,zB p.behind],zP (some ⟨b1,0,none⟩),cE a4 k5,cE a10 k11]:List Value).toArray w (cL fun v w'=>∃ ra0 rc0,v=i64 R.1/\aF G K (aV 260 K ra0 rc0 R.2::box b1 256 [zS ra0 R.2.length rc0]::L) w'):=nN 100000 hm hs h6 h9 h12 h15 h18
theorem tP {d:Definition} {R:(List dH)} (hm:kD d=some R) (x:aF G K (L) w) (m:aW K a1 c2 d.Body):
  Calls prog 211 ([zA #[str d.Name,i64 d.Parameters,zS a1 d.Body.length c2]]:List Value).toArray w (cL fun v w'=>∃ n o,v=zS n R.length o/\aF G K (aV 260 K n o R::L) w'):=by
 let j:=[str d.Name,i64 d.Parameters,zS a1 d.Body.length c2]
 refine aN func211 rfl (by kernel_rfl) (by show (1:Nat)<=16;decide) ?_;unfold kD at hm
 refine aJ (eT (v:=zA #[str d.Name,i64 d.Parameters,zS a1 d.Body.length c2]) (vs:=j) x rfl rfl (fun b w5 q=>(aG (v:=zS none 0 0) (aM (aJ (aC (bH (t':=2) aBP rfl rfl) (aC (dD xZ q (i:=0) rfl rfl rfl) (aC (aX (len:=d.Body.length) lK rfl) ?_))))))));obtain ⟨a,y,hm⟩:=aB hm
 refine aIT (e:=(⟨0,false⟩:dH)) sl_256 ez_260 rfl rfl q rfl rfl rfl y rfl (fun g z (J:aF G K (aV 260 K g a.length a::box b 131 j::L) z)=>(eE (vs:=[zS none 0 0]) zeroValue256 J rfl (fun c b1 V=>(fA (i:=0) (ns:=[zS g a.length a.length]) (us:=[zS g a.length a.length]) sizeOf256 V rfl rfl rfl rfl rfl (kJ rfl) rfl rfl (fun Z (a0:aF G K (box c 256 [zS g a.length a.length]::aV 260 K g a.length a::box b 131 j::L) Z)=>(aM (aJ (eE (vs:=[Value.nilFunc]) zeroValue295 a0 rfl (fun h b2 a2=>(aM (aJ (aC (xV (vs:=[zP (some ⟨c,0,none⟩),zP (some ⟨b,0,none⟩),zP (some ⟨h,0,none⟩)]) rfl) (fA (i:=0) (ns:=[Value.func (.func 247) #[] #[zP (some ⟨c,0,none⟩),zP (some ⟨b,0,none⟩),zP (some ⟨h,0,none⟩)]]) (us:=[Value.func (.func 247) #[] #[zP (some ⟨c,0,none⟩),zP (some ⟨b,0,none⟩),zP (some ⟨h,0,none⟩)]]) sizeOf295 a2 rfl rfl rfl rfl rfl (kJ rfl) rfl rfl (fun r (l:aF G K (box h 295 [Value.func (.func 247) #[] #[zP (some ⟨c,0,none⟩),zP (some ⟨b,0,none⟩),zP (some ⟨h,0,none⟩)]]::box c 256 [zS g a.length a.length]::aV 260 K g a.length a::box b 131 j::L) r)=>(aM (aJ (aC (dD sc_295 l (i:=0) rfl rfl rfl) (aC (bH (t':=1) aMn rfl rfl) (aC (dD gJ l (i:=3) rfl rfl rfl) (aC (aCR (vs:=[(0,i64 d.Parameters)]) (cs:=[i64 d.Parameters,zB false]) bs_260 rfl (by kernel_rfl)) ?_))))))))))))))))))))
 obtain ⟨b3,t,u,a3,b5⟩:=aF.lendBp l zt3
 obtain ⟨a4,k,a5,a6,b6⟩:=aF.lendBp a3 .head
 have a7:aF G a4 (aV 260 K g a.length a::box c 256 [zS g a.length a.length]::L) r:=(aF.arr 2 [1,0] a6 rfl)
 obtain ⟨b7,a8,hm⟩:=aB hm
 exact eM (vs:=[i64 0,zA #[i64 d.Parameters,zB false]]) (caps:=[zP (some ⟨c,0,none⟩),cE (some ⟨b,0,none⟩) 0,cE (some ⟨h,0,none⟩) 0]) (us:=[i64 0,zA #[i64 d.Parameters,zB false],zP (some ⟨c,0,none⟩),cE (some ⟨b,0,none⟩) 0,cE (some ⟨h,0,none⟩) 0]) rfl call247 rfl rfl (qC (p:=⟨d.Parameters,false⟩) a8 a7 (u.mono k) (m.mono (zL t k)) (show eR _ _ _ [Value.func (.func 247) #[] #[zP (some ⟨c,0,none⟩),cE (some ⟨b,0,none⟩) 0,cE (some ⟨h,0,none⟩) 0]] from a5) (u.mono k) (m.mono (zL t k))) aE
theorem aCD {p:bG} {R:Bool} (hm:tK p=some R) (g:aF G K (L) w) (h:aW K a1 c2 p.Arguments):
  Calls prog 248 ([zA #[i64 p.Kind,i64 p.Number,str p.Name,zS a1 p.Arguments.length c2]]:List Value).toArray w (cL fun v w'=>v=zB R/\aF G K (L) w'):=by
 let b:=[i64 p.Kind,i64 p.Number,str p.Name,zS a1 p.Arguments.length c2]
 refine aN func248 rfl (by kernel_rfl) (by show (1:Nat)<=56;decide) ?_;unfold tK at hm
 refine aJ (eT (v:=zA #[i64 p.Kind,i64 p.Number,str p.Name,zS a1 p.Arguments.length c2]) (vs:=b) g rfl rfl (fun d i j=>(aG (v:=zB false) (aM (aH (aZ [1] (fun f w=>∃ a,nC p a=some R/\f 3=zB a/\aF G K (box d 170 b::L) w) ?_ ?_))))))
 ·rintro f k ⟨a,hm,l,m⟩
  unfold nC at hm
  refine aD (aH (aZ [1,3] (fun f w=>∃ c,kW p a c=some R/\f 4=zB c/\aF G K (box d 170 b::L) w) ?_ ?_))
  ·rintro f n ⟨c,hm,o,q⟩
   unfold kW at hm
   exact aD (aH (aZ [] (fun f w=>∃ e,eB e=some R/\f 2=zB e/\aF G K (L) w) aE aE))
  exact aE
 exact aE
theorem aAV {p:bG} {a:(List Definition)} {R:Bool} (hm:qX p a=some R) (e:aF G K (L) w) (g:aW K a1 c2 p.Arguments) (h:aW K a4 c5 a):
  Calls prog 249 ([zA #[i64 p.Kind,i64 p.Number,str p.Name,zS a1 p.Arguments.length c2],zS a4 a.length c5]:List Value).toArray w (cL fun v w'=>v=zB R/\aF G K (L) w'):=by
 refine aN func249 rfl (by kernel_rfl) (by show (2:Nat)<=38;decide) ?_;unfold qX at hm
 refine aJ (eT (v:=zA #[i64 p.Kind,i64 p.Number,str p.Name,zS a1 p.Arguments.length c2]) (vs:=[i64 p.Kind,i64 p.Number,str p.Name,zS a1 p.Arguments.length c2]) e rfl rfl (fun j k b=>(aG (v:=zB false) (aM (aJ (aC (bH (t':=3) oM rfl rfl) (aC (dD aAI b (i:=0) rfl rfl rfl) (aC (aX (len:=p.Arguments.length) mP rfl) (aG (v:=i64 (p.Arguments.length:Int)) (aM (aH (aJ (aC (bH (t':=0) oL rfl rfl) (aC (dD gJ b (i:=0) rfl rfl rfl) (aM (bJ (aJ (aC (dN rfl rfl) (aG (v:=zB (p.Kind == 1)) (aM ?_))))))))))))))))))))
 rcases aI hm with ⟨c,hm⟩|⟨c,hm⟩
 ·exact aS c rfl (aH (aZ [] (fun f w=>∃ d,lY d=some R/\f 4=zB d/\aF G K (L) w) aE aE))
 ·exact aE
theorem aJT {t:aR} {a:Int} {R:Bool} (hm:aBt t a=some R) (b:aF G K (L) w):
  Calls prog 274 ([zA #[i64 t.Kind,i64 t.Value],i64 a]:List Value).toArray w (cL fun v w'=>v=zB R/\aF G K (L) w'):=by
 exact aE
theorem aAA {t:aR} {R:Int} (hm:uC t=some R) (a:aF G K (L) w):
  Calls prog 275 ([zA #[i64 t.Kind,i64 t.Value]]:List Value).toArray w (cL fun v w'=>v=i64 R/\aF G K (L) w'):=by
 exact aE
end Gv
