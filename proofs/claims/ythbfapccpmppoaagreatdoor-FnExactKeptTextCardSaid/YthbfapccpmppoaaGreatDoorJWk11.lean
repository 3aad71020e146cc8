/- Walks, printed by program. -/
import Derived.Test.YthbfapccpmppoaaGreatDoorJWk9
set_option linter.all false
namespace Gv
open Gv.Hp renaming le_refl→zR
open Go.Value renaming slice→zS,bool→zB,agg→zA
open Option.some renaming inj→zI
open Gv.Hp renaming le_trans→zL
open Go Go.Proofs Go.Proofs.Tryz
set_option maxRecDepth 20000
set_option maxHeartbeats 40000000
variable {G:kH} {K:Hp} {L:List eW} {w:World} {a1 a4 a7 a10 a13 a16 a19 a22 a25 a28 a31 a34 a37 a40 a43 a46:Option Addr} {c2 c5 c8 c11 c14 c17 c20 c23 c26 c29 c32 c35 c38 c41 c44 c47:Nat}
theorem aNX {a b:Edge} {R:Bool} (hm:aJB a b=some R) (c:aF G K (L) w):
  Calls prog 107 ([zA #[i64 a.F,i64 a.B,i64 a.To],zA #[i64 b.F,i64 b.B,i64 b.To]]:List Value).toArray w (cL fun v w'=>v=zB R/\aF G K (L) w'):=by
 exact aE
theorem aMV {a b:(List Edge)} {R:Bool} (hm:aEj a b=some R) (g:aF G K (L) w) (h:aW K a1 c2 a) (i:aW K a4 c5 b):
  Calls prog 55 ([zS a1 a.length c2,zS a4 b.length c5]:List Value).toArray w (cL fun v w'=>v=zB R/\aF G K (L) w'):=by
 refine aN func55 rfl (by kernel_rfl) (by show (2:Nat)<=27;decide) ?_;unfold aEj at hm
 refine aJ (aG (v:=zB false) (aM (aH (aJ (aO (v:=zS a1 a.length c2) (aC (aX (len:=a.length) uU rfl) (aO (v:=zS a4 b.length c5) (aC (aX (len:=b.length) uU rfl) (aC (sI rfl rfl) (aM ?_))))))))))
 rcases aI hm with ⟨c,hm⟩|⟨c,hm⟩
 ·exact aE
 ·refine aP c rfl (aU (aD (aH (aJ (aG (v:=i64 0) (aM (aQ [] (fun f w=>aJC=some R/\aF G K (L) w) aE ?_)))))));obtain ⟨j,d,ho⟩:=aB hm
  exact bW [0,1] d (fun e f w=>f 5=i64 e/\aF G K (L) w) aE aE
theorem aPm {a b:gM} {R:Bool} (hm:aLX a b=some R) (c:aF G K (L) w) (d:aW K a1 c2 a.L) (e:aW K a4 c5 a.E) (g:aW K a7 c8 b.L) (h:aW K a10 c11 b.E):
  Calls prog 19 ([zA (zCa a a1 c2 a4 c5),zA (zCa b a7 c8 a10 c11)]:List Value).toArray w (cL fun v w'=>v=zB R/\aF G K (L) w'):=by
 exact aE
theorem aNY {a b:bI} {R:Bool} (hm:aJD a b=some R) (c:aF G K (L) w):
  Calls prog 56 ([zA #[i64 a.Kind,i64 a.Variable,str a.B,zB a.Not],zA #[i64 b.Kind,i64 b.Variable,str b.B,zB b.Not]]:List Value).toArray w (cL fun v w'=>v=zB R/\aF G K (L) w'):=by
 exact aE
theorem aMW {a b:(List bI)} {R:Bool} (hm:aHd a b=some R) (g:aF G K (L) w) (h:aW K a1 c2 a) (i:aW K a4 c5 b):
  Calls prog 20 ([zS a1 a.length c2,zS a4 b.length c5]:List Value).toArray w (cL fun v w'=>v=zB R/\aF G K (L) w'):=by
 refine aN func20 rfl (by kernel_rfl) (by show (2:Nat)<=27;decide) ?_;unfold aHd at hm
 refine aJ (aG (v:=zB false) (aM (aH (aJ (aO (v:=zS a1 a.length c2) (aC (aX (len:=a.length) sB rfl) (aO (v:=zS a4 b.length c5) (aC (aX (len:=b.length) sB rfl) (aC (sI rfl rfl) (aM ?_))))))))))
 rcases aI hm with ⟨c,hm⟩|⟨c,hm⟩
 ·exact aE
 ·refine aP c rfl (aU (aD (aH (aJ (aG (v:=i64 0) (aM (aQ [] (fun f w=>aJE=some R/\aF G K (L) w) aE ?_)))))));obtain ⟨j,d,ho⟩:=aB hm
  exact bW [0,1] d (fun e f w=>f 5=i64 e/\aF G K (L) w) aE aE
theorem aNZ {a b:aR} {R:Bool} (hm:aJF a b=some R) (c:aF G K (L) w):
  Calls prog 279 ([zA #[i64 a.Kind,i64 a.Value],zA #[i64 b.Kind,i64 b.Value]]:List Value).toArray w (cL fun v w'=>v=zB R/\aF G K (L) w'):=by
 exact aE
theorem aMX {a b:(List aR)} {R:Bool} (hm:aHe a b=some R) (g:aF G K (L) w) (h:aW K a1 c2 a) (i:aW K a4 c5 b):
  Calls prog 265 ([zS a1 a.length c2,zS a4 b.length c5]:List Value).toArray w (cL fun v w'=>v=zB R/\aF G K (L) w'):=by
 refine aN func265 rfl (by kernel_rfl) (by show (2:Nat)<=27;decide) ?_;unfold aHe at hm
 refine aJ (aG (v:=zB false) (aM (aH (aJ (aO (v:=zS a1 a.length c2) (aC (aX (len:=a.length) nP rfl) (aO (v:=zS a4 b.length c5) (aC (aX (len:=b.length) nP rfl) (aC (sI rfl rfl) (aM ?_))))))))))
 rcases aI hm with ⟨c,hm⟩|⟨c,hm⟩
 ·exact aE
 ·refine aP c rfl (aU (aD (aH (aJ (aG (v:=i64 0) (aM (aQ [] (fun f w=>aJG=some R/\aF G K (L) w) aE ?_)))))));obtain ⟨j,d,ho⟩:=aB hm
  exact bW [0,1] d (fun e f w=>f 5=i64 e/\aF G K (L) w) aE aE
theorem aLJ {a b:(List (List aR))} {R:Bool} (hm:aFd a b=some R) (g:aF G K (L) w) (h:aW K a1 c2 a) (i:aW K a4 c5 b):
  Calls prog 232 ([zS a1 a.length c2,zS a4 b.length c5]:List Value).toArray w (cL fun v w'=>v=zB R/\aF G K (L) w'):=by
 refine aN func232 rfl (by kernel_rfl) (by show (2:Nat)<=27;decide) ?_;unfold aFd at hm
 refine aJ (aG (v:=zB false) (aM (aH (aJ (aO (v:=zS a1 a.length c2) (aC (aX (len:=a.length) mP rfl) (aO (v:=zS a4 b.length c5) (aC (aX (len:=b.length) mP rfl) (aC (sI rfl rfl) (aM ?_))))))))))
 rcases aI hm with ⟨c,hm⟩|⟨c,hm⟩
 ·exact aE
 ·refine aP c rfl (aU (aD (aH (aJ (aG (v:=i64 0) (aM (aQ [] (fun f w=>aHP=some R/\aF G K (L) w) aE ?_)))))));obtain ⟨j,d,ho⟩:=aB hm
  exact bW [0,1] d (fun e f w=>f 5=i64 e/\aF G K (L) w) aE aE
theorem aOa {a b:bG} {R:Bool} (hm:aJH a b=some R) (c:aF G K (L) w) (d:aW K a1 c2 a.Arguments) (e:aW K a4 c5 b.Arguments):
  Calls prog 191 ([zA #[i64 a.Kind,i64 a.Number,str a.Name,zS a1 a.Arguments.length c2],zA #[i64 b.Kind,i64 b.Number,str b.Name,zS a4 b.Arguments.length c5]]:List Value).toArray w (cL fun v w'=>v=zB R/\aF G K (L) w'):=by
 exact aE
theorem aMY {a b:(List bG)} {R:Bool} (hm:aHf a b=some R) (g:aF G K (L) w) (h:aW K a1 c2 a) (i:aW K a4 c5 b):
  Calls prog 154 ([zS a1 a.length c2,zS a4 b.length c5]:List Value).toArray w (cL fun v w'=>v=zB R/\aF G K (L) w'):=by
 refine aN func154 rfl (by kernel_rfl) (by show (2:Nat)<=27;decide) ?_;unfold aHf at hm
 refine aJ (aG (v:=zB false) (aM (aH (aJ (aO (v:=zS a1 a.length c2) (aC (aX (len:=a.length) lK rfl) (aO (v:=zS a4 b.length c5) (aC (aX (len:=b.length) lK rfl) (aC (sI rfl rfl) (aM ?_))))))))))
 rcases aI hm with ⟨c,hm⟩|⟨c,hm⟩
 ·exact aE
 ·refine aP c rfl (aU (aD (aH (aJ (aG (v:=i64 0) (aM (aQ [] (fun f w=>aJI=some R/\aF G K (L) w) aE ?_)))))));obtain ⟨j,d,ho⟩:=aB hm
  exact bW [0,1] d (fun e f w=>f 5=i64 e/\aF G K (L) w) aE aE
theorem aHC {a b:Definition} {R:Bool} (hm:xC a b=some R) (c:aF G K (L) w) (d:aW K a1 c2 a.Body) (e:aW K a4 c5 b.Body):
  Calls prog 108 ([zA #[str a.Name,i64 a.Parameters,zS a1 a.Body.length c2],zA #[str b.Name,i64 b.Parameters,zS a4 b.Body.length c5]]:List Value).toArray w (cL fun v w'=>v=zB R/\aF G K (L) w'):=by
 exact aE
theorem aGL {a b:(List Definition)} {R:Bool} (hm:uF a b=some R) (g:aF G K (L) w) (h:aW K a1 c2 a) (i:aW K a4 c5 b):
  Calls prog 57 ([zS a1 a.length c2,zS a4 b.length c5]:List Value).toArray w (cL fun v w'=>v=zB R/\aF G K (L) w'):=by
 refine aN func57 rfl (by kernel_rfl) (by show (2:Nat)<=27;decide) ?_;unfold uF at hm
 refine aJ (aG (v:=zB false) (aM (aH (aJ (aO (v:=zS a1 a.length c2) (aC (aX (len:=a.length) qI rfl) (aO (v:=zS a4 b.length c5) (aC (aX (len:=b.length) qI rfl) (aC (sI rfl rfl) (aM ?_))))))))))
 rcases aI hm with ⟨c,hm⟩|⟨c,hm⟩
 ·exact aE
 ·refine aP c rfl (aU (aD (aH (aJ (aG (v:=i64 0) (aM (aQ [] (fun f w=>aCv=some R/\aF G K (L) w) aE ?_)))))));obtain ⟨j,d,ho⟩:=aB hm
  exact bW [0,1] d (fun e f w=>f 5=i64 e/\aF G K (L) w) aE aE
theorem aLK {a b:(List Int)} {R:Bool} (hm:aCw a b=some R) (g:aF G K (L) w) (h:aW K a1 c2 a) (i:aW K a4 c5 b):
  Calls prog 155 ([zS a1 a.length c2,zS a4 b.length c5]:List Value).toArray w (cL fun v w'=>v=zB R/\aF G K (L) w'):=by
 refine aN func155 rfl (by kernel_rfl) (by show (2:Nat)<=26;decide) ?_;unfold aCw at hm
 refine aJ (aG (v:=zB false) (aM (aH (aJ (aO (v:=zS a1 a.length c2) (aC (aX (len:=a.length) dR rfl) (aO (v:=zS a4 b.length c5) (aC (aX (len:=b.length) dR rfl) (aC (sI rfl rfl) (aM ?_))))))))))
 rcases aI hm with ⟨c,hm⟩|⟨c,hm⟩
 ·exact aE
 ·refine aP c rfl (aU (aD (aH (aJ (aG (v:=i64 0) (aM (aQ [] (fun f w=>aHQ=some R/\aF G K (L) w) aE ?_)))))));obtain ⟨j,d,ho⟩:=aB hm
  exact bW [0,1] d (fun e f w=>f 5=i64 e/\aF G K (L) w) aE aE
theorem aIF {a b:aY} {R:Bool} (hm:aAa a b=some R) (c:aF G K (L) w) (d:aW K a1 c2 a.Values) (e:aW K a4 c5 b.Values):
  Calls prog 109 ([zA #[i64 a.Definition,zS a1 a.Values.length c2],zA #[i64 b.Definition,zS a4 b.Values.length c5]]:List Value).toArray w (cL fun v w'=>v=zB R/\aF G K (L) w'):=by
 exact aE
theorem aHD {a b:(List aY)} {R:Bool} (hm:xD a b=some R) (g:aF G K (L) w) (h:aW K a1 c2 a) (i:aW K a4 c5 b):
  Calls prog 58 ([zS a1 a.length c2,zS a4 b.length c5]:List Value).toArray w (cL fun v w'=>v=zB R/\aF G K (L) w'):=by
 refine aN func58 rfl (by kernel_rfl) (by show (2:Nat)<=27;decide) ?_;unfold xD at hm
 refine aJ (aG (v:=zB false) (aM (aH (aJ (aO (v:=zS a1 a.length c2) (aC (aX (len:=a.length) xN rfl) (aO (v:=zS a4 b.length c5) (aC (aX (len:=b.length) xN rfl) (aC (sI rfl rfl) (aM ?_))))))))))
 rcases aI hm with ⟨c,hm⟩|⟨c,hm⟩
 ·exact aE
 ·refine aP c rfl (aU (aD (aH (aJ (aG (v:=i64 0) (aM (aQ [] (fun f w=>aDl=some R/\aF G K (L) w) aE ?_)))))));obtain ⟨j,d,ho⟩:=aB hm
  exact bW [0,1] d (fun e f w=>f 5=i64 e/\aF G K (L) w) aE aE
theorem aKH {a b:bB} {R:Bool} (hm:aDm a b=some R) (c:aF G K (L) w):
  Calls prog 110 ([zA #[str a.Left,str a.Right,str a.Result],zA #[str b.Left,str b.Right,str b.Result]]:List Value).toArray w (cL fun v w'=>v=zB R/\aF G K (L) w'):=by
 exact aE
theorem aJY {a b:(List bB)} {R:Bool} (hm:aBz a b=some R) (g:aF G K (L) w) (h:aW K a1 c2 a) (i:aW K a4 c5 b):
  Calls prog 59 ([zS a1 a.length c2,zS a4 b.length c5]:List Value).toArray w (cL fun v w'=>v=zB R/\aF G K (L) w'):=by
 refine aN func59 rfl (by kernel_rfl) (by show (2:Nat)<=27;decide) ?_;unfold aBz at hm
 refine aJ (aG (v:=zB false) (aM (aH (aJ (aO (v:=zS a1 a.length c2) (aC (aX (len:=a.length) vO rfl) (aO (v:=zS a4 b.length c5) (aC (aX (len:=b.length) vO rfl) (aC (sI rfl rfl) (aM ?_))))))))))
 rcases aI hm with ⟨c,hm⟩|⟨c,hm⟩
 ·exact aE
 ·refine aP c rfl (aU (aD (aH (aJ (aG (v:=i64 0) (aM (aQ [] (fun f w=>aFD=some R/\aF G K (L) w) aE ?_)))))));obtain ⟨j,d,ho⟩:=aB hm
  exact bW [0,1] d (fun e f w=>f 5=i64 e/\aF G K (L) w) aE aE
theorem aLL {a b:bM} {R:Bool} (hm:aFe a b=some R) (c:aF G K (L) w) (d:aW K a1 c2 a.Definitions) (e:aW K a4 c5 a.Components) (g:aW K a7 c8 a.Meetings) (h:aW K a10 c11 a.Allowed) (i:aW K a13 c14 a.Hidden) (j:aW K a16 c17 b.Definitions) (k:aW K a19 c20 b.Components) (l:aW K a22 c23 b.Meetings) (m:aW K a25 c26 b.Allowed) (n:aW K a28 c29 b.Hidden):
  Calls prog 21 ([zA #[zS a1 a.Definitions.length c2,zS a4 a.Components.length c5,zS a7 a.Meetings.length c8,zS a10 a.Allowed.length c11,zS a13 a.Hidden.length c14],zA #[zS a16 b.Definitions.length c17,zS a19 b.Components.length c20,zS a22 b.Meetings.length c23,zS a25 b.Allowed.length c26,zS a28 b.Hidden.length c29]]:List Value).toArray w (cL fun v w'=>v=zB R/\aF G K (L) w'):=by
 exact aE
theorem aHY {a b:pL} {R:Bool} (hm:aJJ a b=some R) (c:aF G K (L) w) (d:aW K a1 c2 a.S.L) (e:aW K a4 c5 a.S.E) (g:aW K a7 c8 a.Formula) (h:aW K a10 c11 a.Source.Definitions) (i:aW K a13 c14 a.Source.Components) (j:aW K a16 c17 a.Source.Meetings) (k:aW K a19 c20 a.Source.Allowed) (l:aW K a22 c23 a.Source.Hidden) (m:aW K a25 c26 b.S.L) (n:aW K a28 c29 b.S.E) (o:aW K a31 c32 b.Formula) (p:aW K a34 c35 b.Source.Definitions) (q:aW K a37 c38 b.Source.Components) (r:aW K a40 c41 b.Source.Meetings) (t:aW K a43 c44 b.Source.Allowed) (u:aW K a46 c47 b.Source.Hidden):
  Calls prog 8 ([zA #[str a.Name,i64 a.Kind,i64 a.S.N,i64 a.S.I,zS a1 a.S.L.length c2,zS a4 a.S.E.length c5,zS a7 a.Formula.length c8,zS a10 a.Source.Definitions.length c11,zS a13 a.Source.Components.length c14,zS a16 a.Source.Meetings.length c17,zS a19 a.Source.Allowed.length c20,zS a22 a.Source.Hidden.length c23],zA #[str b.Name,i64 b.Kind,i64 b.S.N,i64 b.S.I,zS a25 b.S.L.length c26,zS a28 b.S.E.length c29,zS a31 b.Formula.length c32,zS a34 b.Source.Definitions.length c35,zS a37 b.Source.Components.length c38,zS a40 b.Source.Meetings.length c41,zS a43 b.Source.Allowed.length c44,zS a46 b.Source.Hidden.length c47]]:List Value).toArray w (cL fun v w'=>v=zB R/\aF G K (L) w'):=by
 exact aE
theorem xH {b:pL} {R:Bool} (hm:qB b=some R) (hs:aF G K (L) w) (hG:G.lo=0) (h3:aW K a1 c2 b.S.L) (h6:aW K a4 c5 b.S.E) (h9:aW K a7 c8 b.Formula) (e2:aW K a10 c11 b.Source.Definitions) (e3:aW K a13 c14 b.Source.Components) (e4:aW K a16 c17 b.Source.Meetings) (e5:aW K a19 c20 b.Source.Allowed) (e6:aW K a22 c23 b.Source.Hidden):
  Calls prog 3 ([zA #[str b.Name,i64 b.Kind,i64 b.S.N,i64 b.S.I,zS a1 b.S.L.length c2,zS a4 b.S.E.length c5,zS a7 b.Formula.length c8,zS a10 b.Source.Definitions.length c11,zS a13 b.Source.Components.length c14,zS a16 b.Source.Meetings.length c17,zS a19 b.Source.Allowed.length c20,zS a22 b.Source.Hidden.length c23]]:List Value).toArray w (cL fun v w'=>v=zB R/\aF G K (L) w'):=by
 let c9:=[str b.Name,i64 b.Kind,i64 b.S.N,i64 b.S.I,zS a1 b.S.L.length c2,zS a4 b.S.E.length c5,zS a7 b.Formula.length c8,zS a10 b.Source.Definitions.length c11,zS a13 b.Source.Components.length c14,zS a16 b.Source.Meetings.length c17,zS a19 b.Source.Allowed.length c20,zS a22 b.Source.Hidden.length c23]
 let e7:=[zA #[str b.Name,i64 b.Kind,i64 b.S.N,i64 b.S.I,zS a1 b.S.L.length c2,zS a4 b.S.E.length c5,zS a7 b.Formula.length c8,zS a10 b.Source.Definitions.length c11,zS a13 b.Source.Components.length c14,zS a16 b.Source.Meetings.length c17,zS a19 b.Source.Allowed.length c20,zS a22 b.Source.Hidden.length c23]]
 refine aN func3 rfl (by kernel_rfl) (by show (1:Nat)<=27;decide) ?_;unfold qB at hm
 refine aJ (eT (v:=zA #[str b.Name,i64 b.Kind,i64 b.S.N,i64 b.S.I,zS a1 b.S.L.length c2,zS a4 b.S.E.length c5,zS a7 b.Formula.length c8,zS a10 b.Source.Definitions.length c11,zS a13 b.Source.Components.length c14,zS a16 b.Source.Meetings.length c17,zS a19 b.Source.Allowed.length c20,zS a22 b.Source.Hidden.length c23]) (vs:=c9) hs rfl rfl (fun j0 w26 f3=>(aG (v:=zB false) (aM (aJ (aG (v:=i64 1048576) (aM (aJ (aC (jL (us:=c9) ag_33 f3 (i:=0) rfl rfl rfl rfl) (aO (v:=i64 1048576) ?_))))))))))
 obtain ⟨f4,j1,hm⟩:=aB hm
 refine aT (vs:=[zA #[str b.Name,i64 b.Kind,i64 b.S.N,i64 b.S.I,zS a1 b.S.L.length c2,zS a4 b.S.E.length c5,zS a7 b.Formula.length c8,zS a10 b.Source.Definitions.length c11,zS a13 b.Source.Components.length c14,zS a16 b.Source.Meetings.length c17,zS a19 b.Source.Allowed.length c20,zS a22 b.Source.Hidden.length c23],i64 1048576]) call4 rfl (aHS j1 f3 h3 h6 h9 e2 e3 e4 e5 e6) ?_
 rintro _ w30 ⟨rfl,e8⟩
 refine aG (v:=i64 f4) (aM (aH (aJ (aO (v:=i64 f4) (aC (eC rfl rfl) (aM ?_))))))
 rcases aI hm with ⟨e9,hm⟩|⟨e9,hm⟩
 ·refine aS e9 rfl (aJ (aG (v:=zB true) (aM ?_)));obtain rfl:=zI hm
  exact aAP (aEz (xU results3 rfl ⟨rfl,(aF.arr 1 [] e8 rfl)⟩))
 ·refine aP e9 rfl (aU (aD (aJ (aC (jL (us:=c9) ag_33 e8 (i:=0) rfl rfl rfl rfl) ?_))));obtain ⟨c,j3,hm⟩:=aB hm
  refine aT (vs:=e7) call6 rfl (aAb j3 e8 h3 h6 h9 e2 e3 e4 e5 e6) ?_
  rintro _ w56 ⟨f5,f6,f7,f8,f9,g0,g1,g2,g3,g4,g5,g6,g7,g8,g9,h0,h1,h2,rfl,j4,j5,j6⟩
  obtain ⟨K58,d2,j7,j8,j9⟩:=aF.lendSp j6 (Hp.le_refl _) .head
  obtain ⟨K63,d3,k0,k1,k2⟩:=aF.lendSp j8 d2 .head
  obtain ⟨K68,d4,k3,k4,k5⟩:=aF.lendSp k1 (zL d2 d3) .head
  obtain ⟨K73,d0,k6,a11,k7,k8⟩:=aF.lendD' (i:=0) k4 j4 rfl rfl
  obtain ⟨K79,b8,k9,a14,l0,l1⟩:=aF.lendD' (i:=0) k7 j5 rfl rfl
  obtain ⟨K85,b9,l2,l3,l4⟩:=aF.lendSp l0 (zL (zL (zL (zL d2 d3) d4) d0) b8) .head
  obtain ⟨K90,c0,l5,l6,l7⟩:=aF.lendSp l3 (zL (zL (zL (zL (zL d2 d3) d4) d0) b8) b9) .head
  obtain ⟨K95,c1,l8,l9,m0⟩:=aF.lendSp l6 (zL (zL (zL (zL (zL (zL d2 d3) d4) d0) b8) b9) c0) .head
  obtain ⟨h4,m1,hm⟩:=aB hm
  refine aT (vs:=[zA #[str c.Name,i64 c.Kind,i64 c.S.N,i64 c.S.I,zS f5 c.S.L.length f6,zS f7 c.S.E.length f8,zS f9 c.Formula.length g0,zS g1 c.Source.Definitions.length g2,zS g4 c.Source.Components.length g5,zS g7 c.Source.Meetings.length g8,zS g9 c.Source.Allowed.length h0,zS h1 c.Source.Hidden.length h2]]) call5 rfl (aFL m1 l9 hG (j7.mono (zL (zL (zL (zL (zL (zL d3 d4) d0) b8) b9) c0) c1)) (k0.mono (zL (zL (zL (zL (zL d4 d0) b8) b9) c0) c1)) (k3.mono (zL (zL (zL (zL d0 b8) b9) c0) c1)) (k6.mono (zL (zL (zL b8 b9) c0) c1)) (k9.mono (zL (zL b9 c0) c1)) (l2.mono (zL c0 c1)) (l5.mono c1) l8) ?_
  rintro _ a20 ⟨rfl,m2⟩
  have m3:=m0 _ _ m2
  have m4:=l7 _ _ m3
  have m5:=l4 _ _ m4
  have m6:=l1 _ _ m5
  have m7:=k8 _ _ m6
  have m8:=k5 _ _ m7
  have m9:=k2 _ _ m8
  have h5:=j9 _ _ m9
  refine aG (v:=str h4) (aM (aJ (aC (jL (us:=c9) ag_33 h5 (i:=10) rfl rfl rfl rfl) ?_)));obtain ⟨a,n0,hm⟩:=aB hm
  refine aT (vs:=e7) call6 rfl (aAb n0 h5 h3 h6 h9 e2 e3 e4 e5 e6) ?_
  rintro _ a21 ⟨Z,a0,a2,a3,a5,a6,a8,a9,h7,b0,b1,h8,b2,b3,b4,b5,b6,b7,rfl,i0,i1,n1⟩
  refine eE (vs:=[str ([]:aL),i64 0,i64 0,i64 0,zS none 0 0,zS none 0 0,zS none 0 0,zS none 0 0,zS none 0 0,zS none 0 0,zS none 0 0,zS none 0 0]) zeroValue46 n1 rfl (fun n2 a23 n3=>(fA (i:=0) (ns:=[str a.Name,i64 a.Kind,i64 a.S.N,i64 a.S.I,zS Z a.S.L.length a0,zS a2 a.S.E.length a3,zS a5 a.Formula.length a6,zS a8 a.Source.Definitions.length a9,zS b0 a.Source.Components.length b1,zS b2 a.Source.Meetings.length b3,zS b4 a.Source.Allowed.length b5,zS b6 a.Source.Hidden.length b7]) (us:=[str a.Name,i64 a.Kind,i64 a.S.N,i64 a.S.I,zS Z a.S.L.length a0,zS a2 a.S.E.length a3,zS a5 a.Formula.length a6,zS a8 a.Source.Definitions.length a9,zS b0 a.Source.Components.length b1,zS b2 a.Source.Meetings.length b3,zS b4 a.Source.Allowed.length b5,zS b6 a.Source.Hidden.length b7]) sizeOf46 n3 rfl rfl rfl rfl rfl (kJ rfl) rfl rfl (fun n4 (i2:aF G K (box n2 46 [str a.Name,i64 a.Kind,i64 a.S.N,i64 a.S.I,zS Z a.S.L.length a0,zS a2 a.S.E.length a3,zS a5 a.Formula.length a6,zS a8 a.Source.Definitions.length a9,zS b0 a.Source.Components.length b1,zS b2 a.Source.Meetings.length b3,zS b4 a.Source.Allowed.length b5,zS b6 a.Source.Hidden.length b7]::aV 9 K Z a0 a.S.L::aV 114 K a2 a3 a.S.E::aV 83 K a5 a6 a.Formula::aV 131 K a8 a9 (cI h7 a.Source.Definitions)::rows [170,215,218] h7 a.Source.Definitions::aV 133 K b0 b1 (cI h8 a.Source.Components)::rows [2] h8 a.Source.Components::aV 135 K b2 b3 a.Source.Meetings::aV 9 K b4 b5 a.Source.Allowed::aV 9 K b6 b7 a.Source.Hidden::aV 9 K f5 f6 c.S.L::aV 114 K f7 f8 c.S.E::aV 83 K f9 g0 c.Formula::aV 131 K g1 g2 (cI g3 c.Source.Definitions)::rows [170,215,218] g3 c.Source.Definitions::aV 133 K g4 g5 (cI g6 c.Source.Components)::rows [2] g6 c.Source.Components::aV 135 K g7 g8 c.Source.Meetings::aV 9 K g9 h0 c.Source.Allowed::aV 9 K h1 h2 c.Source.Hidden::box j0 33 c9::L) n4)=>(aM (aJ (aC (jL (us:=[str a.Name,i64 a.Kind,i64 a.S.N,i64 a.S.I,zS Z a.S.L.length a0,zS a2 a.S.E.length a3,zS a5 a.Formula.length a6,zS a8 a.Source.Definitions.length a9,zS b0 a.Source.Components.length b1,zS b2 a.Source.Meetings.length b3,zS b4 a.Source.Allowed.length b5,zS b6 a.Source.Hidden.length b7]) aMr i2 (i:=0) rfl rfl rfl rfl) ?_))))))
  obtain ⟨a24,d5,n5,n6,n7⟩:=aF.lendSp i2 (Hp.le_refl _) zt1
  obtain ⟨a25,d6,n8,n9,o0⟩:=aF.lendSp n6 d5 zt1
  obtain ⟨a26,d7,o1,o2,o3⟩:=aF.lendSp n9 (zL d5 d6) zt1
  obtain ⟨a27,d1,o4,a28,o5,o6⟩:=aF.lendD' (i:=1) o2 i0 rfl rfl
  obtain ⟨a29,c3,o7,a30,o8,o9⟩:=aF.lendD' (i:=1) o5 i1 rfl rfl
  obtain ⟨a31,c4,p0,p1,p2⟩:=aF.lendSp o8 (zL (zL (zL (zL d5 d6) d7) d1) c3) zt1
  obtain ⟨a32,c6,p3,p4,p5⟩:=aF.lendSp p1 (zL (zL (zL (zL (zL d5 d6) d7) d1) c3) c4) zt1
  obtain ⟨a33,c7,p6,p7,p8⟩:=aF.lendSp p4 (zL (zL (zL (zL (zL (zL d5 d6) d7) d1) c3) c4) c6) zt1
  obtain ⟨i3,p9,hm⟩:=aB hm
  refine aT (vs:=[zA #[str a.Name,i64 a.Kind,i64 a.S.N,i64 a.S.I,zS Z a.S.L.length a0,zS a2 a.S.E.length a3,zS a5 a.Formula.length a6,zS a8 a.Source.Definitions.length a9,zS b0 a.Source.Components.length b1,zS b2 a.Source.Meetings.length b3,zS b4 a.Source.Allowed.length b5,zS b6 a.Source.Hidden.length b7]]) call7 rfl (aFQ p9 p7 hG (n5.mono (zL (zL (zL (zL (zL (zL d6 d7) d1) c3) c4) c6) c7)) (n8.mono (zL (zL (zL (zL (zL d7 d1) c3) c4) c6) c7)) (o1.mono (zL (zL (zL (zL d1 c3) c4) c6) c7)) (o4.mono (zL (zL (zL c3 c4) c6) c7)) (o7.mono (zL (zL c4 c6) c7)) (p0.mono (zL c6 c7)) (p3.mono c7) p6) ?_
  rintro _ a34 ⟨rfl,q0⟩
  have q1:=p8 _ _ q0
  have q2:=p5 _ _ q1
  have q3:=p2 _ _ q2
  have q4:=o9 _ _ q3
  have q5:=o6 _ _ q4
  have q6:=o3 _ _ q5
  have q7:=o0 _ _ q6
  have i4:=n7 _ _ q7
  refine aG (v:=str i3) (aM (aH (aJ (aO (v:=str i3) (aO (v:=str h4) (aC (R_neqS rfl rfl) (aM ?_)))))))
  rcases aI hm with ⟨f0,hm⟩|⟨f0,hm⟩
  ·refine aS f0 rfl (aJ (aG (v:=zB false) (aM ?_)));obtain rfl:=zI hm
   exact aAP (aEz (xU results3 rfl ⟨rfl,(aF.arr 22 [] i4 rfl)⟩))
  ·refine aP f0 rfl (aU (aD (aH (aH ?_))));obtain ⟨a35,e,q9,r0,r1⟩:=aF.lendBp i4 zt10
   obtain ⟨r2,d,r3,i5,r4⟩:=aF.lendBp r0 (.tail (.tail (.tail (.tail (.tail (.tail (.tail (.tail zt12))))))))
   refine mO (C:=fun w'=>∃ L',aF G r2 L' w') [(0,0),(1,0),(2,1),(3,1),(4,0)] Tryz_mixed (by kernel_rfl) (fun _ hg=>⟨_,aF.mono i5 hg⟩) (fun a37 r5=>?_)
   have d8:=aF.mono i5 r5
   refine dL rfl (fun _ ⟨_,d8⟩=>eD (t:=0) (vs:=[str a.Name,i64 a.Kind,i64 a.S.N,i64 a.S.I,zS Z a.S.L.length a0,zS a2 a.S.E.length a3,zS a5 a.Formula.length a6,zS a8 a.Source.Definitions.length a9,zS b0 a.Source.Components.length b1,zS b2 a.Source.Meetings.length b3,zS b4 a.Source.Allowed.length b5,zS b6 a.Source.Hidden.length b7]) aMr d8 (q9.mono d) rfl rfl rfl) (dL rfl (fun _ ⟨_,d8⟩=>eD (t:=0) (vs:=c9) ag_33 d8 r3 rfl rfl rfl) (vM rfl ?_))
   obtain ⟨x,r6,hm⟩:=aB hm
   refine aT (vs:=e7) call6 rfl (aAb r6 d8 (h3.mono (zL e d)) (h6.mono (zL e d)) (h9.mono (zL e d)) (e2.mono (zL e d)) (e3.mono (zL e d)) (e4.mono (zL e d)) (e5.mono (zL e d)) (e6.mono (zL e d))) ?_
   rintro _ a39 ⟨r7,r8,r9,s0,s1,s2,s3,s4,a41,s5,s6,a43,s7,s8,s9,t0,t1,t2,rfl,t3,t4,i6⟩
   refine bP (aD ⟨⟨_,i6⟩,?_⟩)
   refine vM rfl ?_;obtain ⟨a44,z,t5,t6,t7⟩:=aF.lendSp i6 (zL e d) zt10
   obtain ⟨a45,J,t8,t9,u0⟩:=aF.lendSp t6 (zL (zL e d) z) zt10
   obtain ⟨a47,V,u1,u2,u3⟩:=aF.lendSp t9 (zL (zL (zL e d) z) J) zt10
   obtain ⟨a48,y,u4,a49,u5,u6⟩:=aF.lendD' (i:=10) u2 i0 rfl rfl
   obtain ⟨a51,m,u7,a53,u8,u9⟩:=aF.lendD' (i:=10) u5 i1 rfl rfl
   obtain ⟨a55,n,v0,v1,v2⟩:=aF.lendSp u8 (zL (zL (zL (zL (zL (zL e d) z) J) V) y) m) zt10
   obtain ⟨a56,o,v3,v4,v5⟩:=aF.lendSp v1 (zL (zL (zL (zL (zL (zL (zL e d) z) J) V) y) m) n) zt10
   obtain ⟨a57,p,v6,v7,v8⟩:=aF.lendSp v4 (zL (zL (zL (zL (zL (zL (zL (zL e d) z) J) V) y) m) n) o) zt10
   obtain ⟨a58,q,v9,w0,w1⟩:=aF.lendSp v7 (zL (zL (zL (zL (zL (zL (zL (zL (zL e d) z) J) V) y) m) n) o) p) .head
   obtain ⟨a59,r,w2,w3,w4⟩:=aF.lendSp w0 (zL (zL (zL (zL (zL (zL (zL (zL (zL (zL e d) z) J) V) y) m) n) o) p) q) .head
   obtain ⟨a60,u,w5,w6,w7⟩:=aF.lendSp w3 (zL (zL (zL (zL (zL (zL (zL (zL (zL (zL (zL e d) z) J) V) y) m) n) o) p) q) r) .head
   obtain ⟨a61,l,w8,a62,w9,x0⟩:=aF.lendD' (i:=0) w6 t3 rfl rfl
   obtain ⟨a63,g,x1,a64,x2,x3⟩:=aF.lendD' (i:=0) w9 t4 rfl rfl
   obtain ⟨a65,h,x4,x5,x6⟩:=aF.lendSp x2 (zL (zL (zL (zL (zL (zL (zL (zL (zL (zL (zL (zL (zL (zL e d) z) J) V) y) m) n) o) p) q) r) u) l) g) .head
   obtain ⟨a66,j,x7,x8,x9⟩:=aF.lendSp x5 (zL (zL (zL (zL (zL (zL (zL (zL (zL (zL (zL (zL (zL (zL (zL e d) z) J) V) y) m) n) o) p) q) r) u) l) g) h) .head
   obtain ⟨a67,k,y0,y1,y2⟩:=aF.lendSp x8 (zL (zL (zL (zL (zL (zL (zL (zL (zL (zL (zL (zL (zL (zL (zL (zL e d) z) J) V) y) m) n) o) p) q) r) u) l) g) h) j) .head
   obtain ⟨a68,y3,hm⟩:=aB hm
   refine aT (vs:=[zA #[str a.Name,i64 a.Kind,i64 a.S.N,i64 a.S.I,zS Z a.S.L.length a0,zS a2 a.S.E.length a3,zS a5 a.Formula.length a6,zS a8 a.Source.Definitions.length a9,zS b0 a.Source.Components.length b1,zS b2 a.Source.Meetings.length b3,zS b4 a.Source.Allowed.length b5,zS b6 a.Source.Hidden.length b7],zA #[str x.Name,i64 x.Kind,i64 x.S.N,i64 x.S.I,zS r7 x.S.L.length r8,zS r9 x.S.E.length s0,zS s1 x.Formula.length s2,zS s3 x.Source.Definitions.length s4,zS s5 x.Source.Components.length s6,zS s7 x.Source.Meetings.length s8,zS s9 x.Source.Allowed.length t0,zS t1 x.Source.Hidden.length t2]]) call8 rfl (aHY y3 y1 (t5.mono (zL (zL (zL (zL (zL (zL (zL (zL (zL (zL (zL (zL (zL (zL J V) y) m) n) o) p) q) r) u) l) g) h) j) k)) (t8.mono (zL (zL (zL (zL (zL (zL (zL (zL (zL (zL (zL (zL (zL V y) m) n) o) p) q) r) u) l) g) h) j) k)) (u1.mono (zL (zL (zL (zL (zL (zL (zL (zL (zL (zL (zL (zL y m) n) o) p) q) r) u) l) g) h) j) k)) (u4.mono (zL (zL (zL (zL (zL (zL (zL (zL (zL (zL (zL m n) o) p) q) r) u) l) g) h) j) k)) (u7.mono (zL (zL (zL (zL (zL (zL (zL (zL (zL (zL n o) p) q) r) u) l) g) h) j) k)) (v0.mono (zL (zL (zL (zL (zL (zL (zL (zL (zL o p) q) r) u) l) g) h) j) k)) (v3.mono (zL (zL (zL (zL (zL (zL (zL (zL p q) r) u) l) g) h) j) k)) (v6.mono (zL (zL (zL (zL (zL (zL (zL q r) u) l) g) h) j) k)) (v9.mono (zL (zL (zL (zL (zL (zL r u) l) g) h) j) k)) (w2.mono (zL (zL (zL (zL (zL u l) g) h) j) k)) (w5.mono (zL (zL (zL (zL l g) h) j) k)) (w8.mono (zL (zL (zL g h) j) k)) (x1.mono (zL (zL h j) k)) (x4.mono (zL j k)) (x7.mono k) y0) ?_
   rintro _ a69 ⟨rfl,y4⟩
   have y5:=y2 _ _ y4
   have y6:=x9 _ _ y5
   have y7:=x6 _ _ y6
   have y8:=x3 _ _ y7
   have y9:=x0 _ _ y8
   have z0:=w7 _ _ y9
   have z1:=w4 _ _ z0
   have z2:=w1 _ _ z1
   have z3:=v8 _ _ z2
   have z4:=v5 _ _ z3
   have z5:=v2 _ _ z4
   have z6:=u9 _ _ z5
   have z7:=u6 _ _ z6
   have z8:=u3 _ _ z7
   have z9:=u0 _ _ z8
   have i7:=t7 _ _ z9
   refine bP (aD ⟨⟨_,i7⟩,?_⟩)
   refine dL rfl (fun _ _=>uT rfl) (WE_nil ?_)
   have a00:=r4 _ _ i7
   have i8:=r1 _ _ a00
   refine aD ?_
   rcases aI hm with ⟨f1,hm⟩|⟨f1,hm⟩
   ·refine aS f1 rfl (aJ (aG (v:=zB false) (aM ?_)));obtain rfl:=zI hm
    exact aAP (aEz (xU results3 rfl ⟨rfl,(aF.arr 32 [] i8 rfl)⟩))
   ·refine aP f1 rfl (aU (aD (aJ (aG (v:=zB true) (aM ?_)))));obtain rfl:=zI hm
    exact aAP (xU results3 rfl ⟨rfl,(aF.arr 32 [] i8 rfl)⟩)
end Gv
