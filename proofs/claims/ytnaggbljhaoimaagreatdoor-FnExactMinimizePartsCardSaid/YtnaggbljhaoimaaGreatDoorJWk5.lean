/- Walks, printed by program. -/
import Derived.Test.YtnaggbljhaoimaaGreatDoorJWk3
set_option linter.all false
namespace Gv
open Gv.Hp renaming le_refl→zR
open Go.Value renaming slice→zS,bool→zB,pointer→zP,agg→zA
open Option.some renaming inj→zI
open Gv.Hp renaming le_trans→zL
open Go Go.Proofs Go.Proofs.Tryz
set_option maxRecDepth 20000
set_option maxHeartbeats 40000000
variable {G:vF} {K:Hp} {L:List gC} {w:World} {a1 a4 a7 a10 a13:Option Addr} {c2 c5 c8 c11 c14:Nat}
theorem aIe {t:aW} {R:Bool} (hm:aBl t=some R) (y:aD G K (L) w) (hG:G.lo=0) (k:bK K a1 c2 t.L) (l:bK K a4 c5 t.E):
  Calls prog 45 ([zA (zCa t a1 c2 a4 c5)]:List Value).toArray w (dV fun v w'=>v=zB R/\aD G K (L) w'):=by
 let b:=(zC t a1 c2 a4 c5)
 refine aO func45 rfl (by kernel_rfl) (by show (1:Nat)<=109;decide) ?_;unfold aBl at hm
 refine aI (eQ (v:=zA (zCa t a1 c2 a4 c5)) (vs:=b) y rfl rfl (fun c w8 b8=>(aH (v:=zB false) (aG (aJ (aJ (bO [1] (fun f w=>∃ g,nG t g=some R/\f 30=zB g/\aD G K (box c 68 b::L) w) ?_ ?_)))))))
 ·rintro f b9 ⟨g,hm,z,J⟩
  unfold nG at hm
  refine aC ?_
  rcases aP hm with ⟨m,hm⟩|⟨m,hm⟩
  ·exact aK
  ·refine bF m z (aY (aC (aJ (aI (aF (bM (t':=2) aAp rfl rfl) (aF (fF aBU J (i:=0) rfl rfl rfl) (aF (bE (len:=t.L.length) gL rfl) (aL (v:=i64 0) (aG (aQ [1] (fun f w=>xU t=some R/\aD G K (box c 68 b::L) w) ?_ ?_))))))))))
   ·rintro f c0 ⟨hm,V⟩
    unfold xU at hm
    refine aC (aJ (aI (aF (bM (t':=3) eX rfl rfl) (aF (fF lX V (i:=0) rfl rfl rfl) (aF (bE (len:=t.E.length) cO rfl) (aL (v:=i64 0) (aG (aQ [] (fun f w=>aFy=some R/\aD G K (L) w) aK ?_))))))));obtain ⟨c1,a0,ho⟩:=aB hm
    refine cQ [1,65,66] a0 (fun d f w=>f 67=i64 d/\aD G K (box c 68 b::L) w) aK ?_
    ·rintro d a2 f c3 hm hr ⟨h,n⟩
     unfold tK at hm
     refine aI (aF (cE h rfl) (aG (aJ ?_)))
     rcases aP hm with ⟨o,hm⟩|⟨o,hm⟩
     ·refine aR o rfl (aY (aC (aJ (cB (aI (aX h ?_))))));obtain ⟨a,p,hm⟩:=aB hm
      refine aF (eC cO rfl l rfl rfl h p) ?_;obtain ⟨c4,a3,a5⟩:=bK.el (sz:=3) rfl l p
      cases a5
      exact aF (gQ (t:=0) (vs:=[i64 a.F,i64 a.B,i64 a.To]) nU n a3 rfl rfl rfl) (bH (vs:=[i64 0,i64 0,i64 0]) zeroValue87 n rfl (fun a6 c6 a7=>(aH (v:=i64 d) (cF (i:=0) (ns:=[i64 a.F,i64 a.B,i64 a.To]) (us:=[i64 a.F,i64 a.B,i64 a.To]) sizeOf87 a7 rfl rfl rfl rfl rfl (eD rfl) rfl rfl (fun a8 (c7:aD G K (box a6 87 [i64 a.F,i64 a.B,i64 a.To]::box c 68 b::L) a8)=>(aG (aJ (bO [1,65,66,67] (fun f w=>∃ q,nF d q=some a2/\f 107=zB q/\aD G K (box c 68 b::L) w) aK aK))))))))
     ·exact aK
   obtain ⟨c8,a9,ho⟩:=aB hm
   refine cQ [1,32,33] a9 (fun e f w=>f 34=i64 e/\aD G K (box c 68 b::L) w) aK ?_
   ·rintro e b0 f c9 hm hr ⟨j,b1⟩
    unfold tL at hm
    refine aI (aF (cE j rfl) (aG (aJ ?_)))
    rcases aP hm with ⟨r,hm⟩|⟨r,hm⟩
    ·refine aR r rfl (aY (aC (aJ (cB (aI (aX j ?_))))));obtain ⟨b2,u,hm⟩:=aB hm
     refine aF (eC gL rfl k rfl rfl j u) ?_;obtain ⟨d0,b3,b4⟩:=bK.el (sz:=1) rfl k u
     cases b4
     exact aF (bX (t:=0) aHb b1 b3 rfl rfl) (aH (v:=i64 e) (aH (v:=str b2) (aG (aJ (bO [1,32,33,34] (fun f w=>∃ x,pX e x=some b0/\f 62=zB x/\aD G K (box c 68 b::L) w) aK aK)))))
    ·exact aK
 exact aK
theorem wR {t:aW} {R:Bool} (hm:wA t=some R) (a:aD G K (L) w) (b:G.lo=0) (c:bK K a1 c2 t.L) (d:bK K a4 c5 t.E):
  Calls prog 44 ([zA (zCa t a1 c2 a4 c5)]:List Value).toArray w (dV fun v w'=>v=zB R/\aD G K (L) w'):=by
 exact aK
theorem aDv {a b:aT} {R:Int} (hm:mP a b=some R) (l:aD G K (L) w):
  Calls prog 70 ([zA #[str a.Left,str a.Right,str a.Result],zA #[str b.Left,str b.Right,str b.Result]]:List Value).toArray w (dV fun v w'=>v=i64 R/\aD G K (L) w'):=by
 let c:=[str a.Left,str a.Right,str a.Result]
 let d:=[str b.Left,str b.Right,str b.Result]
 refine aO func70 rfl (by kernel_rfl) (by show (2:Nat)<=16;decide) ?_;unfold mP at hm
 refine aI (eQ (v:=zA #[str a.Left,str a.Right,str a.Result]) (vs:=c) l rfl rfl (fun h r m=>(eQ (v:=zA #[str b.Left,str b.Right,str b.Result]) (vs:=d) m rfl rfl (fun j t e=>(aH (v:=i64 0) (aG (aI (aF (bM (t':=0) aIr rfl rfl) (aF (fF aHb e (i:=1) rfl rfl rfl) (aF (bM (t':=1) aIs rfl rfl) (aF (fF aHb e (i:=1) rfl rfl rfl) (dI (Kt:=K) (xs:=([a.Left,a.Right]:List aV)) (cs:=[str a.Left,str a.Right]) (vs:=[(0,str a.Left),(1,str a.Right)]) gL aEo rfl rfl e rfl (by kernel_rfl) rfl rfl rfl ⟨rfl,rfl,trivial⟩ (fun k n (g:aD G K (aM 9 K k 2 ([a.Left,a.Right]:List aV)::box j 73 d::box h 73 c::L) n)=>(aF (bM (t':=0) aIr rfl rfl) (aF (fF aHb g (i:=1) rfl rfl rfl) (aF (bM (t':=1) aIs rfl rfl) (aF (fF aHb g (i:=1) rfl rfl rfl) (dI (Kt:=K) (xs:=([b.Left,b.Right]:List aV)) (cs:=[str b.Left,str b.Right]) (vs:=[(0,str b.Left),(1,str b.Right)]) gL aEo rfl rfl g rfl (by kernel_rfl) rfl rfl rfl ⟨rfl,rfl,trivial⟩ (fun o p (q:aD G K (aM 9 K o 2 ([b.Left,b.Right]:List aV)::aM 9 K k 2 ([a.Left,a.Right]:List aV)::box j 73 d::box h 73 c::L) p)=>?_)))))))))))))))))))
 obtain ⟨u,x,y,z,J⟩:=aD.lendSp q (Hp.le_refl _) zt1
 exact aK
theorem yT {o p:aT} {a:Nat} {R:Bool} (hm:tX o p=some R) (c:aD G K (L) w) (d:gE K a1 a [str p.Left,str p.Right,str p.Result]):
  Calls prog 72 ([zA #[str o.Left,str o.Right,str o.Result],dC a1 a]:List Value).toArray w (dV fun v w'=>v=zB R/\aD G K (L) w'):=by
 refine aO func72 rfl (by kernel_rfl) (by show (2:Nat)<=16;decide) ?_;unfold tX at hm
 exact aI (eQ (v:=zA #[str o.Left,str o.Right,str o.Result]) (vs:=[str o.Left,str o.Right,str o.Result]) c rfl rfl (fun e g h=>(aH (v:=zB false) (aG (aJ (bO [] (fun f w=>∃ b,oX b=some R/\f 3=zB b/\aD G K (L) w) aK aK))))))
theorem kV {b:(List aT)} {d:aT} {c:Nat} {R:Int} (hm:cR b d=some R) (q:aD G K (L) w) (g:bK K a1 c2 b) (l:gE K a4 c [str d.Left,str d.Right,str d.Result]):
  Calls prog 89 ([zS a1 b.length c2,Value.func (.func 72) #[] #[dC a4 c]]:List Value).toArray w (dV fun v w'=>v=i64 R/\aD G K (L) w'):=by
 refine aO func89 rfl (by kernel_rfl) (by show (2:Nat)<=19;decide) ?_;unfold cR at hm
 refine aI (aH (v:=i64 0) (aG (aJ (aI (aL (v:=zS a1 b.length c2) (aF (bE (len:=b.length) sV rfl) (aL (v:=i64 0) (aG (aQ [] (fun f w=>gA=some R/\aD G K (L) w) aK ?_)))))))));obtain ⟨r,m,ho⟩:=aB hm
 refine cQ [0,1,7] m (fun e f w=>f 8=i64 e/\aD G K (L) w) aK ?_
 ·rintro e u f x hm hr ⟨h,i⟩
  unfold cA at hm
  refine aI (aF (cE h rfl) (aG (aJ ?_)))
  rcases aP hm with ⟨j,hm⟩|⟨j,hm⟩
  ·refine aR j rfl (aY (aC (aJ (cB (aI (aX h (aH (v:=i64 e) (aG (aI (aL (v:=Value.func (.func 72) #[] #[dC a4 c]) (aL (v:=zS a1 b.length c2) (aL (v:=i64 e) ?_))))))))))));obtain ⟨a,k,hm⟩:=aB hm
   refine aF (eC sV rfl g rfl rfl rfl k) ?_;obtain ⟨y,n,o⟩:=bK.el (sz:=3) rfl g k
   cases o
   refine aF (gQ (t:=0) (vs:=[str a.Left,str a.Right,str a.Result]) ag_73 i n rfl rfl rfl) ?_;obtain ⟨z,p,hm⟩:=aB hm
   exact lG (vs:=[zA #[str a.Left,str a.Right,str a.Result]]) (caps:=[dC a4 c]) (us:=[zA #[str a.Left,str a.Right,str a.Result],dC a4 c]) rfl call72 rfl rfl (yT p i l) aK
  ·exact aK
theorem fG {b:(List aT)} {a:aT} {c:Nat} {R:Bool} (hm:cI b a=some R) (d:aD G K (L) w) (e:bK K a1 c2 b) (g:gE K a4 c [str a.Left,str a.Right,str a.Result]):
  Calls prog 71 ([zS a1 b.length c2,Value.func (.func 72) #[] #[dC a4 c]]:List Value).toArray w (dV fun v w'=>v=zB R/\aD G K (L) w'):=by
 exact aK
theorem aGI {b:(List aT)} {R:Bool} (hm:wB b=some R) (hs:aD G K (L) w) (e:bK K a1 c2 b):
  Calls prog 46 ([zS a1 b.length c2]:List Value).toArray w (dV fun v w'=>v=zB R/\aD G K (L) w'):=by
 refine aO func46 rfl (by kernel_rfl) (by show (1:Nat)<=56;decide) ?_;unfold wB at hm
 refine aI (aH (v:=zB false) (aG (aJ (aI (aL (v:=zS a1 b.length c2) (aF (bE (len:=b.length) sV rfl) (aL (v:=i64 0) (aG (aQ [0] (fun f w=>aDP b=some R/\aD G K (L) w) aK ?_)))))))));obtain ⟨a3,n,ho⟩:=aB hm
 refine cQ [0,5,6] n (fun c f w=>f 7=i64 c/\aD G K (L) w) aK ?_
 ·rintro c o f a4 hm hr ⟨g,j⟩
  unfold mF at hm
  refine aI (aF (cE g rfl) (aG (aJ ?_)))
  rcases aP hm with ⟨k,hm⟩|⟨k,hm⟩
  ·refine aR k rfl (aY (aC (aJ (cB (aI (aX g ?_))))));obtain ⟨a,l,hm⟩:=aB hm
   refine aF (eC sV rfl e rfl rfl g l) ?_;obtain ⟨a5,p,q⟩:=bK.el (sz:=3) rfl e l
   cases q
   refine aF (gQ (t:=0) (vs:=[str a.Left,str a.Right,str a.Result]) ag_73 j p rfl rfl rfl) (bH (vs:=[str ([]:aV),str ([]:aV),str ([]:aV)]) zeroValue73 j rfl (fun d a6 r=>(aH (v:=i64 c) (cF (i:=0) (ns:=[str a.Left,str a.Right,str a.Result]) (us:=[str a.Left,str a.Right,str a.Result]) sizeOf73 r rfl rfl rfl rfl rfl (eD rfl) rfl rfl (fun u (a7:aD G K (box d 73 [str a.Left,str a.Right,str a.Result]::L) u)=>(aG (aJ (aJ (bO [0,4,5,6,7] (fun f w=>∃ h,gD b c a h=some o/\f 48=zB h/\aD G K (box d 73 [str a.Left,str a.Right,str a.Result]::L) w) ?_ ?_)))))))))
   ·rintro f a8 ⟨h,hm,x,y⟩
    unfold gD at hm
    refine aC ?_
    rcases aP hm with ⟨m,hm⟩|⟨m,hm⟩
    ·exact aK
    ·refine bF m x (aY (aC (aI (aL (v:=zS a1 b.length c2) (aF (nB (vs:=[zP (some ⟨d,0,none⟩)]) rfl) ?_)))));obtain ⟨a9,z,J,V,b0⟩:=aD.lendBp y .head
     obtain ⟨b1,a0,hm⟩:=aB hm
     exact aS (vs:=[zS a1 b.length c2,Value.func (.func 72) #[] #[dC (some ⟨d,0,none⟩) 0]]) call71 rfl (fG a0 V (e.mono z) J) aK
   exact aK
  ·exact aK
theorem aJe {a:(List aV)} {R:Bool} (hm:aAI a=some R) (o:aD G K (L) w) (d:bK K a1 c2 a):
  Calls prog 47 ([zS a1 a.length c2]:List Value).toArray w (dV fun v w'=>v=zB R/\aD G K (L) w'):=by
 refine aO func47 rfl (by kernel_rfl) (by show (1:Nat)<=32;decide) ?_;unfold aAI at hm
 refine aI (aH (v:=zB false) (aG (aJ (aI (aL (v:=zS a1 a.length c2) (aF (bE (len:=a.length) gL rfl) (aL (v:=i64 0) (aG (aQ [0] (fun f w=>aDs a=some R/\aD G K (L) w) aK ?_)))))))));obtain ⟨p,i,ho⟩:=aB hm
 refine cQ [0,5,6] i (fun b f w=>f 7=i64 b/\aD G K (L) w) aK ?_
 ·rintro b j f q hm hr ⟨c,k⟩
  unfold wD at hm
  refine aI (aF (cE c rfl) (aG (aJ ?_)))
  rcases aP hm with ⟨e,hm⟩|⟨e,hm⟩
  ·refine aR e rfl (aY (aC (aJ (cB (aI (aX c ?_))))));obtain ⟨l,g,hm⟩:=aB hm
   refine aF (eC gL rfl d rfl rfl c g) ?_;obtain ⟨r,m,n⟩:=bK.el (sz:=1) rfl d g
   cases n
   exact aF (bX (t:=0) aHb k m rfl rfl) (aH (v:=i64 b) (aH (v:=str l) (aG (aJ (bO [0,5,6,7] (fun f w=>∃ h,wC b h=some j/\f 27=zB h/\aD G K (L) w) aK aK)))))
  ·exact aK
theorem oF {b:(List aW)} {R:Int} (hm:eA b=some R) (y:aD G K (L) w) (n:G.lo=0) (i:bK K a1 c2 b):
  Calls prog 64 ([zS a1 b.length c2,Value.func (.func 44) #[] #[]]:List Value).toArray w (dV fun v w'=>v=i64 R/\aD G K (L) w'):=by
 refine aO func64 rfl (by kernel_rfl) (by show (2:Nat)<=19;decide) ?_;unfold eA at hm
 refine aI (aH (v:=i64 0) (aG (aJ (aI (aL (v:=zS a1 b.length c2) (aF (bE (len:=b.length) qM rfl) (aL (v:=i64 0) (aG (aQ [] (fun f w=>iU=some R/\aD G K (L) w) aK ?_)))))))));obtain ⟨z,o,ho⟩:=aB hm
 refine cQ [0,1,7] o (fun c f w=>f 8=i64 c/\aD G K (L) w) aK ?_
 ·rintro c J f V hm hr ⟨j,k⟩
  unfold cJ at hm
  refine aI (aF (cE j rfl) (aG (aJ ?_)))
  rcases aP hm with ⟨l,hm⟩|⟨l,hm⟩
  ·refine aR l rfl (aY (aC (aJ (cB (aI (aX j (aH (v:=i64 c) (aG (aI (aL (v:=Value.func (.func 44) #[] #[]) (aL (v:=zS a1 b.length c2) (aL (v:=i64 c) ?_))))))))))));obtain ⟨a,m,hm⟩:=aB hm
   refine aF (eC qM rfl i rfl rfl rfl m) ?_;obtain ⟨a0,p,q⟩:=bK.el (sz:=4) rfl i m
   obtain ⟨d,e,g,h,rfl,r,u⟩:=q
   refine aF (gQ (t:=0) (vs:=(zC a d e g h)) vK k p rfl rfl rfl) ?_;obtain ⟨a2,x,hm⟩:=aB hm
   exact lG (vs:=[zA (zCa a d e g h)]) (caps:=[]) (us:=[zA (zCa a d e g h)]) rfl call44 rfl rfl (wR x k n r u) aK
  ·exact aK
theorem mX {a:(List aW)} {R:Bool} (hm:dJ a=some R) (b:aD G K (L) w) (c:G.lo=0) (d:bK K a1 c2 a):
  Calls prog 43 ([zS a1 a.length c2,Value.func (.func 44) #[] #[]]:List Value).toArray w (dV fun v w'=>v=zB R/\aD G K (L) w'):=by
 exact aK
theorem aAe {n:bB} {R:Bool} (hm:rH n=some R) (e:aD G K (L) w) (i:G.lo=0) (j:bK K a1 c2 n.Parts) (k:bK K a4 c5 n.Meetings) (l:bK K a7 c8 n.Allowed) (m:bK K a10 c11 n.Hidden):
  Calls prog 20 ([zA #[zS a1 n.Parts.length c2,zS a4 n.Meetings.length c5,zS a7 n.Allowed.length c8,zS a10 n.Hidden.length c11]]:List Value).toArray w (dV fun v w'=>v=zB R/\aD G K (L) w'):=by
 let b:=[zS a1 n.Parts.length c2,zS a4 n.Meetings.length c5,zS a7 n.Allowed.length c8,zS a10 n.Hidden.length c11]
 refine aO func20 rfl (by kernel_rfl) (by show (1:Nat)<=26;decide) ?_;unfold rH at hm
 refine aI (eQ (v:=zA #[zS a1 n.Parts.length c2,zS a4 n.Meetings.length c5,zS a7 n.Allowed.length c8,zS a10 n.Hidden.length c11]) (vs:=b) e rfl rfl (fun g o p=>(aH (v:=zB false) (aG (aJ (aJ (bO [1] (fun f w=>∃ a,mR n a=some R/\f 12=zB a/\aD G K (box g 31 b::L) w) ?_ ?_)))))))
 ·rintro f q ⟨a,hm,h,r⟩
  unfold mR at hm
  refine aC ?_
  rcases aP hm with ⟨c,hm⟩|⟨c,hm⟩
  ·exact aK
  ·exact bF c h (aY (aC (aJ (bO [] (fun f w=>∃ d,mQ d=some R/\f 2=zB d/\aD G K (L) w) aK aK))))
 exact aK
theorem aBA {kind:Int} {R:Bool} (hm:xV kind=some R) (a:aD G K (L) w):
  Calls prog 21 ([i64 kind]:List Value).toArray w (dV fun v w'=>v=zB R/\aD G K (L) w'):=by
 exact aK
theorem gO {a R:(List aT)} (hm:cG a=some R) (j:aD G K (L) w) (d:bK K a1 c2 a):
  Calls prog 90 ([zS a1 a.length c2]:List Value).toArray w (dV fun v w'=>∃ e g,v=zS e R.length g/\aD G K (aM 73 K e g R::L) w'):=by
 refine aO func90 rfl (by kernel_rfl) (by show (1:Nat)<=8;decide) ?_;unfold cG at hm
 refine aI (aH (v:=zS none 0 0) (aG (aJ (aI (aL (v:=zS a1 a.length c2) (aF (aGk sV rfl rfl) (aG ?_)))))))
 rcases aEV d with ⟨k,l,m⟩|n
 ·subst k;subst l;subst m
  refine aGc rfl ?_
  replace hm:(some [])=some R:=hm
  exact aK
 ·refine aGd (Eq.trans rfl (congrArg zB n)) (aY (aC (aI (dI (Kt:=K) (xs:=([]:List aT)) (cs:=[]) (vs:=[]) sV aKE rfl rfl j rfl (by kernel_rfl) rfl rfl rfl trivial (fun o p (q:aD G K (aM 73 K o 0 ([]:List aT)::L) p)=>(aL (v:=zS a1 a.length c2) ?_))))));obtain ⟨h,r,hm⟩:=aB hm
  refine aAQ (i:=0) sV underlying29 aKE rfl rfl q rfl (Hp.le_refl _) d r rfl rfl rfl rfl (fun b c t (u:aD G K (aM 73 K b c h::L) t)=>(aH (v:=zS b h.length c) (aG ?_)));obtain rfl:=zI hm
  exact lC (nA results90 rfl ⟨b,c,rfl,u⟩)
theorem bU {a R:(List aV)} (hm:bY a=some R) (j:aD G K (L) w) (d:bK K a1 c2 a):
  Calls prog 91 ([zS a1 a.length c2]:List Value).toArray w (dV fun v w'=>∃ e g,v=zS e R.length g/\aD G K (aM 9 K e g R::L) w'):=by
 refine aO func91 rfl (by kernel_rfl) (by show (1:Nat)<=8;decide) ?_;unfold bY at hm
 refine aI (aH (v:=zS none 0 0) (aG (aJ (aI (aL (v:=zS a1 a.length c2) (aF (aGk gL rfl rfl) (aG ?_)))))))
 rcases aEV d with ⟨k,l,m⟩|n
 ·subst k;subst l;subst m
  refine aGc rfl ?_
  replace hm:(some [])=some R:=hm
  exact aK
 ·refine aGd (Eq.trans rfl (congrArg zB n)) (aY (aC (aI (dI (Kt:=K) (xs:=([]:List aV)) (cs:=[]) (vs:=[]) gL aEo rfl rfl j rfl (by kernel_rfl) rfl rfl rfl trivial (fun o p (q:aD G K (aM 9 K o 0 ([]:List aV)::L) p)=>(aL (v:=zS a1 a.length c2) ?_))))));obtain ⟨h,r,hm⟩:=aB hm
  refine aAQ (i:=0) gL underlying24 aEo rfl rfl q rfl (Hp.le_refl _) d r rfl rfl rfl rfl (fun b c t (u:aD G K (aM 9 K b c h::L) t)=>(aH (v:=zS b h.length c) (aG ?_)));obtain rfl:=zI hm
  exact lC (nA results91 rfl ⟨b,c,rfl,u⟩)
theorem aFk {n:bB} {b:(List aW)} {c:List (Dp.Hd aW)} {R:bB} (hm:wE n b=some R) (u:aD G K (aM 68 K a13 c14 (aZ c b)::rows [9,87] c b::L) w) (h3:bK K a1 c2 n.Parts) (x:bK K a4 c5 n.Meetings) (y:bK K a7 c8 n.Allowed) (a6:bK K a10 c11 n.Hidden) (a8:List.length c=List.length b):
  Calls prog 73 ([zA #[zS a1 n.Parts.length c2,zS a4 n.Meetings.length c5,zS a7 n.Allowed.length c8,zS a10 n.Hidden.length c11],zS a13 b.length c14]:List Value).toArray w (dV fun v w'=>∃ g h d i j k l m o,v=zA #[zS g R.Parts.length h,zS i R.Meetings.length j,zS k R.Allowed.length l,zS m R.Hidden.length o]/\List.length d=List.length R.Parts/\aD G K (aM 68 K g h (aZ d R.Parts)::rows [9,87] d R.Parts::aM 73 K i j R.Meetings::aM 9 K k l R.Allowed::aM 9 K m o R.Hidden::L) w'):=by
 refine aO func73 rfl (by kernel_rfl) (by show (2:Nat)<=16;decide) ?_;unfold wE at hm
 refine aI (eQ (v:=zA #[zS a1 n.Parts.length c2,zS a4 n.Meetings.length c5,zS a7 n.Allowed.length c8,zS a10 n.Hidden.length c11]) (vs:=[zS a1 n.Parts.length c2,zS a4 n.Meetings.length c5,zS a7 n.Allowed.length c8,zS a10 n.Hidden.length c11]) u rfl rfl (fun a9 b0 z=>(bH (vs:=[zS none 0 0,zS none 0 0,zS none 0 0,zS none 0 0]) zeroValue31 z rfl (fun b1 b2 J=>(aG (aJ ?_))))));obtain ⟨V,p,e,q,b3⟩:=aD.lendBp J zt1
 refine fO (C:=fun w'=>∃ L',aD G V L' w') [(0,0),(1,0),(2,0),(4,0),(5,0),(7,0),(8,0),(3,1),(6,1),(9,1),(10,0),(11,2)] Tryz_mixed (by kernel_rfl) (fun _ hg=>⟨_,aD.mono q hg⟩) (fun b4 a0=>?_)
 have a:=aD.mono q a0
 refine bS rfl (fun _ _=>bL (v:=zS a13 b.length c14) rfl) (bS rfl (fun _ _=>bM (t':=1) aEW rfl rfl) (bS rfl (fun _ ⟨_,a⟩=>bX (t:=1) sc_29 a e rfl rfl) (bS rfl (fun _ _=>bM (t':=2) aGn rfl rfl) (bS rfl (fun _ ⟨_,a⟩=>bX (t:=2) aBU a e rfl rfl) (bS rfl (fun _ _=>bM (t':=3) aIt rfl rfl) (bS rfl (fun _ ⟨_,a⟩=>bX (t:=3) aBU a e rfl rfl) (qX rfl ?_)))))));obtain ⟨b5,a2,hm⟩:=aB hm
 refine aS (vs:=[zS a4 n.Meetings.length c5]) call90 rfl (gO a2 a (x.mono p)) ?_
 rintro _ b6 ⟨b7,b8,rfl,r⟩
 refine bG (aC ⟨⟨_,r⟩,?_⟩)
 refine qX rfl ?_;obtain ⟨b9,a3,hm⟩:=aB hm
 exact aS (vs:=[zS a7 n.Allowed.length c8]) call91 rfl (bU a3 r (y.mono p)) aK
theorem pC {a R:(List Edge)} (hm:eK a=some R) (j:aD G K (L) w) (d:bK K a1 c2 a):
  Calls prog 92 ([zS a1 a.length c2]:List Value).toArray w (dV fun v w'=>∃ e g,v=zS e R.length g/\aD G K (aM 87 K e g R::L) w'):=by
 refine aO func92 rfl (by kernel_rfl) (by show (1:Nat)<=8;decide) ?_;unfold eK at hm
 refine aI (aH (v:=zS none 0 0) (aG (aJ (aI (aL (v:=zS a1 a.length c2) (aF (aGk cO rfl rfl) (aG ?_)))))))
 rcases aEV d with ⟨k,l,m⟩|n
 ·subst k;subst l;subst m
  refine aGc rfl ?_
  replace hm:(some [])=some R:=hm
  exact aK
 ·refine aGd (Eq.trans rfl (congrArg zB n)) (aY (aC (aI (dI (Kt:=K) (xs:=([]:List Edge)) (cs:=[]) (vs:=[]) cO aAb rfl rfl j rfl (by kernel_rfl) rfl rfl rfl trivial (fun o p (q:aD G K (aM 87 K o 0 ([]:List Edge)::L) p)=>(aL (v:=zS a1 a.length c2) ?_))))));obtain ⟨h,r,hm⟩:=aB hm
  refine aAQ (i:=0) cO underlying66 aAb rfl rfl q rfl (Hp.le_refl _) d r rfl rfl rfl rfl (fun b c t (u:aD G K (aM 87 K b c h::L) t)=>(aH (v:=zS b h.length c) (aG ?_)));obtain rfl:=zI hm
  exact lC (nA results92 rfl ⟨b,c,rfl,u⟩)
theorem aHk {t R:aW} (hm:yO t=some R) (g:aD G K (L) w) (l:bK K a1 c2 t.L) (m:bK K a4 c5 t.E):
  Calls prog 74 ([zA (zCa t a1 c2 a4 c5)]:List Value).toArray w (dV fun v w'=>∃ a b c d,v=zA (zCa R a b c d)/\aD G K (aM 9 K a b R.L::aM 87 K c d R.E::L) w'):=by
 refine aO func74 rfl (by kernel_rfl) (by show (1:Nat)<=14;decide) ?_;unfold yO at hm
 refine aI (eQ (v:=zA (zCa t a1 c2 a4 c5)) (vs:=(zC t a1 c2 a4 c5)) g rfl rfl (fun n o h=>(bH (vs:=zG) zeroValue68 h rfl (fun p q i=>(aG (aJ ?_))))));obtain ⟨j,r,u,e,x⟩:=aD.lendBp i zt1
 refine fO (C:=fun w'=>∃ L',aD G j L' w') [(0,0),(1,0),(2,0),(3,0),(4,0),(5,0),(7,0),(8,0),(6,1),(9,1),(10,0),(11,2)] Tryz_mixed (by kernel_rfl) (fun _ hg=>⟨_,aD.mono e hg⟩) (fun y k=>?_)
 have z:=aD.mono e k
 exact aK
theorem uL {a:(List Int)} {b R:Int} (hm:dW a b=some R) (e:aD G K (L) w) (g:bK K a1 c2 a):
  Calls prog 118 ([zS a1 a.length c2,i64 b]:List Value).toArray w (dV fun v w'=>v=i64 R/\aD G K (L) w'):=by
 refine aO func118 rfl (by kernel_rfl) (by show (2:Nat)<=19;decide) ?_;unfold dW at hm
 refine aI (aH (v:=i64 0) (aG (aJ (aI (aL (v:=zS a1 a.length c2) (aF (bE (len:=a.length) bC rfl) (aL (v:=i64 0) (aG (aQ [] (fun f w=>mT=some R/\aD G K (L) w) aK ?_)))))))));obtain ⟨h,c,ho⟩:=aB hm
 exact cQ [0,1,7] c (fun d f w=>f 8=i64 d/\aD G K (L) w) aK aK
theorem lU {k:Int} {p:(List Int)} {a:Nat} {R:Int} (hm:pY k p=some R) (b:aD G K (L) w) (c:gE K a1 a [zS a4 p.length c5]) (d:bK K a4 c5 p):
  Calls prog 117 ([i64 k,dC a1 a]:List Value).toArray w (dV fun v w'=>v=i64 R/\aD G K (L) w'):=by
 exact aK
theorem uD {t:aW} {a:(List Int)} {R:aW} (hm:aBm t a=some R) (hs:aD G K (L) w) (h3:bK K a1 c2 t.L) (h6:bK K a4 c5 t.E) (h9:bK K a7 c8 a):
  Calls prog 93 ([zA (zCa t a1 c2 a4 c5),zS a7 a.length c8]:List Value).toArray w (dV fun v w'=>∃ d5 d6 d7 d8,v=zA (zCa R d5 d6 d7 d8)/\aD G K (aM 9 K d5 d6 R.L::aM 87 K d7 d8 R.E::L) w'):=by
 let k:=zG
 let b0:=(zC t a1 c2 a4 c5)
 let o:=[zS a7 a.length c8]
 let c3:=[zS a1 t.L.length c2]
 refine aO func93 rfl (by kernel_rfl) (by show (2:Nat)<=58;decide) ?_;unfold aBm at hm
 refine aI (eQ (v:=zA (zCa t a1 c2 a4 c5)) (vs:=b0) hs rfl rfl (fun b7 l5 g1=>(eQ (v:=zS a7 a.length c8) (vs:=o) g1 rfl rfl (fun b l6 g2=>(bH (vs:=k) zeroValue68 g2 rfl (fun l l7 g3=>(aG (aI (aF (nB (vs:=[zP (some ⟨b,0,none⟩)]) rfl) (aH (v:=Value.func (.func 117) #[] #[zP (some ⟨b,0,none⟩)]) (aG (aJ (bO [2,4,5] (fun f w=>∃ m d p e g,xX t a m d=some R/\f 6=zP (some ⟨p,0,none⟩)/\aD G K (aM 9 K e g d::box p 68 [i64 (a.length:Int),i64 m,zS e d.length g,zS none 0 0]::box l 68 k::box b 105 o::box b7 68 b0::L) w) ?_ ?_)))))))))))))
 ·rintro f l8 ⟨m,d,p,e,g,hm,g4,d9⟩
  unfold xX at hm
  refine aC (aJ (aI (aF (bM (t':=3) eX rfl rfl) (aF (fF lX d9 (i:=4) rfl rfl rfl) (aF (bE (len:=t.E.length) cO rfl) (aL (v:=i64 0) (aG (aQ [4,6] (fun f w=>∃ b1 y z,xW a m d b1=some R/\aD G K (aM 87 K y z b1::aM 9 K e g d::box p 68 [i64 (a.length:Int),i64 m,zS e d.length g,zS y b1.length z]::box l 68 k::L) w) ?_ ?_))))))))
  ·rintro f l9 ⟨b1,y,z,hm,e0⟩
   unfold xW at hm
   refine aC (aI (aF (bM (t':=3) eX g4 rfl) (aF (fF lX e0 (i:=2) rfl rfl rfl) ?_)));obtain ⟨e1,g5,hm⟩:=aB hm
   refine aS (vs:=[zS y b1.length z,Value.func (.func 68) #[] #[]]) call119 rfl (lib_SortEdge e0 g5) ?_
   rintro _ g6 ⟨rfl,g7,g8⟩
   have m0:aD G K (aM 87 K y z e1::aM 9 K e g d::box p 68 [i64 (a.length:Int),i64 m,zS e d.length g,zS y e1.length z]::box l 68 k::L) g6:=by rw [←g7];exact g8
   exact aK
  have m1:=aD.nil (α:=Edge) d9 87 K
  obtain ⟨m2,g9,ho⟩:=aB hm
  refine bN [4,5,6,23,24] g9 (fun q b2 f w=>∃ u x,f 25=i64 b2/\aD G K (aM 87 K u x q::aM 9 K e g d::box p 68 [i64 (a.length:Int),i64 m,zS e d.length g,zS u q.length x]::box l 68 k::box b 105 o::L) w) aK ?_
  ·rintro q b2 e2 f m3 hm hr ⟨u,x,c4,e3⟩
   unfold qA at hm
   refine aI (aF (cE c4 rfl) (aG (aJ ?_)))
   rcases aP hm with ⟨e4,hm⟩|⟨e4,hm⟩
   ·refine aR e4 rfl (aY (aC (aJ (aQ [4,5,6,23,24,25] (fun f w=>∃ b8 b9 c0,nH b2 b8=some e2/\aD G K (aM 87 K b9 c0 b8::aM 9 K e g d::box p 68 [i64 (a.length:Int),i64 m,zS e d.length g,zS b9 b8.length c0]::box l 68 k::box b 105 o::L) w) ?_ ?_))))
    ·rintro f m4 ⟨b8,b9,c0,hm,h0⟩
     unfold nH at hm
     exact aC (aU (aF (cW c4 rfl) (aL (v:=i64 (wr (b2+1))) (aG ⟨_,(zI hm).symm,bZ,b9,c0,rfl,h0⟩))))
    refine aI ?_;obtain ⟨c,e5,hm⟩:=aB hm
    refine aF (eC cO rfl h6 rfl rfl c4 e5) ?_;obtain ⟨m5,h1,h2⟩:=bK.el (sz:=3) rfl h6 e5
    cases h2
    refine aF (gQ (t:=0) (vs:=[i64 c.F,i64 c.B,i64 c.To]) nU e3 h1 rfl rfl rfl) (bH (vs:=[i64 0,i64 0,i64 0]) zeroValue87 e3 rfl (fun e6 m6 h4=>(cF (i:=0) (ns:=[i64 c.F,i64 c.B,i64 c.To]) (us:=[i64 c.F,i64 c.B,i64 c.To]) sizeOf87 h4 rfl rfl rfl rfl rfl (eD rfl) rfl rfl (fun h5 (h7:aD G K (box e6 87 [i64 c.F,i64 c.B,i64 c.To]::aM 87 K u x q::aM 9 K e g d::box p 68 [i64 (a.length:Int),i64 m,zS e d.length g,zS u q.length x]::box l 68 k::box b 105 o::L) h5)=>(aG (aJ ?_))))))
    obtain ⟨h8,e7,e8,e9,i0⟩:=aD.lendBp h7 .head
    refine fO (C:=fun w'=>∃ L',aD G h8 L' w') [(0,0),(1,0),(2,0),(4,0),(5,0),(6,0),(3,1),(7,1),(8,0),(9,0)] Tryz_mixed (by kernel_rfl) (fun _ hg=>⟨_,aD.mono e9 hg⟩) (fun m7 i1=>?_)
    have b3:=aD.mono e9 i1
    refine bS rfl (fun _ _=>bL (v:=Value.func (.func 117) #[] #[zP (some ⟨b,0,none⟩)]) rfl) (bS rfl (fun _ _=>bM (t':=0) qK rfl rfl) (bS rfl (fun _ ⟨_,b3⟩=>bX (t:=0) eZ b3 e8 rfl rfl) (bS rfl (fun _ _=>bL (v:=Value.func (.func 117) #[] #[zP (some ⟨b,0,none⟩)]) rfl) (bS rfl (fun _ _=>bM (t':=2) qL rfl rfl) (bS rfl (fun _ ⟨_,b3⟩=>bX (t:=2) eZ b3 e8 rfl rfl) (qX rfl ?_))))));obtain ⟨m8,i2,i3,i4,i5⟩:=aD.lendBp b3 zt4
    obtain ⟨f0,i6,hm⟩:=aB hm
    refine lG (vs:=[i64 c.F]) (caps:=[dC (some ⟨b,0,none⟩) 0]) (us:=[i64 c.F,dC (some ⟨b,0,none⟩) 0]) rfl call117 rfl rfl (lU i6 i4 i3 (h9.mono (zL e7 i2))) ?_
    rintro _ m9 ⟨rfl,i7⟩
    have f1:=i5 _ _ i7
    refine bG (aC ⟨⟨_,f1⟩,?_⟩)
    refine qX rfl ?_;obtain ⟨n0,i8,i9,j0,j1⟩:=aD.lendBp f1 .head
    obtain ⟨f2,j2,hm⟩:=aB hm
    refine lG (vs:=[i64 c.To]) (caps:=[dC (some ⟨b,0,none⟩) 0]) (us:=[i64 c.To,dC (some ⟨b,0,none⟩) 0]) rfl call117 rfl rfl (lU j2 j0 i9 (h9.mono (zL e7 i8))) ?_
    rintro _ n1 ⟨rfl,j3⟩
    have f3:=j1 _ _ j3
    refine bG (aC ⟨⟨_,f3⟩,?_⟩)
    refine bS rfl (fun _ _=>lD (v:=i64 f0) rfl) (bS rfl (fun _ _=>lD (v:=i64 f2) rfl) (wY ?_))
    have n2:=i0 _ _ f3
    exact aC (aJ (bO [4,5,6,8,9,10,23,24,25] (fun f w=>∃ f4,pZ q b2 c f0 f2 f4=some e2/\f 42=zB f4/\aD G K (box e6 87 [i64 c.F,i64 c.B,i64 c.To]::box b 105 o::aM 87 K u x q::aM 9 K e g d::box p 68 [i64 (a.length:Int),i64 m,zS e d.length g,zS u q.length x]::box l 68 k::L) w) aK aK))
   ·exact aK
 obtain ⟨n3,b4,c6,j4,c7⟩:=aD.lendBp g3 zt1
 obtain ⟨j5,r,f5,j6,c9⟩:=aD.lendBp j4 zt1
 refine aGV (C:=fun w'=>∃ L',aD G j5 L' w') [11] Tryz_mixed (by kernel_rfl) (fun n4 j7=>?_)
 have h:=aD.mono j6 j7
 refine aAR (i:=0) rfl (by kernel_rfl) ⟨_,h⟩ (fun _ ⟨_,h⟩=>bX (t:=0) zN h (c6.mono r) rfl rfl) (aAR (i:=1) rfl (by kernel_rfl) ⟨_,h⟩ (fun _ _=>bE (len:=a.length) bC rfl) (aAR (i:=2) rfl (by kernel_rfl) ⟨_,h⟩ (fun _ _=>bL (v:=Value.func (.func 117) #[] #[zP (some ⟨b,0,none⟩)]) rfl) (aAR (i:=3) rfl (by kernel_rfl) ⟨_,h⟩ (fun _ _=>bM (t':=1) aBV rfl rfl) (aAR (i:=4) rfl (by kernel_rfl) ⟨_,h⟩ (fun _ ⟨_,h⟩=>bX (t:=1) eZ h f5 rfl rfl) (aAR (i:=6) rfl (by kernel_rfl) ⟨_,h⟩ (fun _ _=>bM (t':=2) aAp rfl rfl) (aAR (i:=7) rfl (by kernel_rfl) ⟨_,h⟩ (fun _ ⟨_,h⟩=>bX (t:=2) aBU h f5 rfl rfl) (aET (i:=5) (j:=10) (by kernel_rfl) rfl rfl ?_ ?_)))))))
 ·obtain ⟨n,j8,hm⟩:=aB hm
  refine lG (vs:=[i64 t.I]) (caps:=[dC (some ⟨b,0,none⟩) 0]) (us:=[i64 t.I,dC (some ⟨b,0,none⟩) 0]) rfl call117 rfl rfl (lU j8 h (c6.mono r) (h9.mono (zL b4 r))) ?_
  rintro _ n5 ⟨rfl,d0⟩
  refine bG (aC ⟨fun _=>⟨_,d0⟩,?_⟩)
  refine aET (i:=8) (j:=10) (by kernel_rfl) rfl rfl ?_ ?_
  ·obtain ⟨J,j9,hm⟩:=aB hm
   refine aS (vs:=c3) call91 rfl (bU j9 d0 (h3.mono (zL b4 r))) ?_
   rintro _ n6 ⟨V,a0,rfl,d1⟩
   refine bG (aC ⟨fun _=>⟨_,d1⟩,?_⟩)
   refine aAR (i:=9) rfl (by kernel_rfl) ⟨_,d1⟩ (fun _ _=>kT (vs:=[(0,i64 (a.length:Int)),(1,i64 n),(2,zS V J.length a0)]) (cs:=[i64 (a.length:Int),i64 n,zS V J.length a0,zS none 0 0]) aFq rfl (by kernel_rfl)) (jV (i:=10) (by kernel_rfl) rfl (bH (vs:=k) zeroValue68 d1 rfl (fun k0 n7 f6=>(bG (aC ⟨fun _=>⟨_,f6⟩,?_⟩)))))
   refine jV (i:=11) (by kernel_rfl) rfl ?_
   have k1:=c9 _ _ f6
   have k2:=c7 _ _ k1
   refine cF (i:=2) (ns:=[i64 (a.length:Int),i64 n,zS V J.length a0,zS none 0 0]) (us:=[i64 (a.length:Int),i64 n,zS V J.length a0,zS none 0 0]) sizeOf68 k2 rfl rfl rfl rfl rfl (eD rfl) rfl rfl (fun k3 (n8:aD G K (box b 105 o::box b7 68 b0::box k0 68 [i64 (a.length:Int),i64 n,zS V J.length a0,zS none 0 0]::aM 9 K V a0 J::box l 68 k::L) k3)=>(bG (aC ⟨no_c rfl,?_⟩)))
   exact aAn (by kernel_rfl) aK
  ·refine bH (vs:=k) zeroValue68 d0 rfl (fun k4 n9 f7=>(bG (aC ⟨fun _=>⟨_,f7⟩,?_⟩)))
   refine jV (i:=8) (by kernel_rfl) rfl ?_;obtain ⟨a2,k5,hm⟩:=aB hm
   refine aS (vs:=c3) call91 rfl (bU k5 f7 (h3.mono (zL b4 r))) ?_
   rintro _ o0 ⟨a3,a5,rfl,d2⟩
   refine bG (aC ⟨fun _=>⟨_,d2⟩,?_⟩)
   refine aAR (i:=9) rfl (by kernel_rfl) ⟨_,d2⟩ (fun _ _=>kT (vs:=[(0,i64 (a.length:Int)),(1,i64 n),(2,zS a3 a2.length a5)]) (cs:=[i64 (a.length:Int),i64 n,zS a3 a2.length a5,zS none 0 0]) aFq rfl (by kernel_rfl)) (jV (i:=11) (by kernel_rfl) rfl ?_)
   have k6:=c9 _ _ d2
   have k7:=c7 _ _ k6
   refine cF (i:=3) (ns:=[i64 (a.length:Int),i64 n,zS a3 a2.length a5,zS none 0 0]) (us:=[i64 (a.length:Int),i64 n,zS a3 a2.length a5,zS none 0 0]) sizeOf68 k7 rfl rfl rfl rfl rfl (eD rfl) rfl rfl (fun k8 (o1:aD G K (box b 105 o::box b7 68 b0::aM 9 K a3 a5 a2::box k4 68 [i64 (a.length:Int),i64 n,zS a3 a2.length a5,zS none 0 0]::box l 68 k::L) k8)=>(bG (aC ⟨no_c rfl,?_⟩)))
   exact aAn (by kernel_rfl) aK
 ·refine bH (vs:=k) zeroValue68 h rfl (fun k9 o2 f8=>(bG (aC ⟨fun _=>⟨_,f8⟩,?_⟩)))
  refine jV (i:=5) (by kernel_rfl) rfl ?_;obtain ⟨b5,l0,hm⟩:=aB hm
  refine lG (vs:=[i64 t.I]) (caps:=[dC (some ⟨b,0,none⟩) 0]) (us:=[i64 t.I,dC (some ⟨b,0,none⟩) 0]) rfl call117 rfl rfl (lU l0 f8 (c6.mono r) (h9.mono (zL b4 r))) ?_
  rintro _ o3 ⟨rfl,f9⟩
  refine bG (aC ⟨fun _=>⟨_,f9⟩,?_⟩)
  refine jV (i:=8) (by kernel_rfl) rfl ?_;obtain ⟨a6,l1,hm⟩:=aB hm
  refine aS (vs:=c3) call91 rfl (bU l1 f9 (h3.mono (zL b4 r))) ?_
  rintro _ o4 ⟨a8,a9,rfl,d3⟩
  refine bG (aC ⟨fun _=>⟨_,d3⟩,?_⟩)
  refine aAR (i:=9) rfl (by kernel_rfl) ⟨_,d3⟩ (fun _ _=>kT (vs:=[(0,i64 (a.length:Int)),(1,i64 b5),(2,zS a8 a6.length a9)]) (cs:=[i64 (a.length:Int),i64 b5,zS a8 a6.length a9,zS none 0 0]) aFq rfl (by kernel_rfl)) (jV (i:=11) (by kernel_rfl) rfl ?_)
  have l2:=c9 _ _ d3
  have l3:=c7 _ _ l2
  refine cF (i:=3) (ns:=[i64 (a.length:Int),i64 b5,zS a8 a6.length a9,zS none 0 0]) (us:=[i64 (a.length:Int),i64 b5,zS a8 a6.length a9,zS none 0 0]) sizeOf68 l3 rfl rfl rfl rfl rfl (eD rfl) rfl rfl (fun l4 (o5:aD G K (box b 105 o::box b7 68 b0::aM 9 K a8 a9 a6::box k9 68 [i64 (a.length:Int),i64 b5,zS a8 a6.length a9,zS none 0 0]::box l 68 k::L) l4)=>(bG (aC ⟨no_c rfl,?_⟩)))
  exact aAn (by kernel_rfl) aK
theorem kY {d:(List Int)} {j:Int} {R:(List Int)} (hm:eR d j=some R) (hs:aD G K (L) w) (h3:bK K a1 c2 d):
  Calls prog 150 ([zS a1 d.length c2,i64 j]:List Value).toArray w (dV fun v w'=>∃ u x,v=zS u R.length x/\aD G K (aM 2 K u x R::L) w'):=by
 refine aO func150 rfl (by kernel_rfl) (by show (2:Nat)<=48;decide) ?_;unfold eR at hm
 refine aI (aH (v:=zS none 0 0) (aG (qV [0,1] (fun f w=>fM d j=some R/\aD G K (L) w) ?_ ?_)))
 ·rintro f w4 ⟨hm,b0⟩
  unfold fM at hm
  refine aI (aL (v:=zS a1 d.length c2) (aF (bE (len:=d.length) bC rfl) (aF (aCE runUnderlying171 rfl ⟨_,runUnderlying3⟩) (aL (v:=i64 j) (aF (aCE runUnderlying171 rfl ⟨_,runUnderlying3⟩) ?_)))));obtain ⟨c,q7,hm⟩:=aB hm
  refine aS (vs:=[Value.int .u64 (aAk (d.length:Int)),Value.int .u64 (aAk j)]) call193 rfl (aLt b0 q7) ?_
  rintro _ w8 ⟨rfl,y⟩
  refine aL (v:=Value.tuple #[Value.int .u64 c.1,Value.int .u64 c.2]) (aF (fU rfl rfl) (aF (fU rfl rfl) (aH (v:=Value.int .u64 c.1) (aH (v:=Value.int .u64 c.2) (aG (qV [0,6] (fun f w=>fL d c=some R/\aD G K (L) w) ?_ ?_))))))
  ·rintro f d6 ⟨hm,b2⟩
   unfold fL at hm
   refine aI (aL (v:=Value.int .u64 c.2) (aF (aGf runUnderlying3 rfl ⟨_,runUnderlying171⟩) ?_));obtain ⟨a,b3,hm⟩:=aB hm
   refine aCD (e:=(0:Int)) bC vG rfl rfl b2 rfl rfl rfl b3 rfl (fun b b4 (z:aD G K (aM 2 K b a.length a::L) b4)=>(aH (v:=zS b a.length a.length) (aG (aI (aL (v:=zS b a.length a.length) (aL (v:=zS a1 d.length c2) ?_))))));obtain ⟨b5,J,hm⟩:=aB hm
   refine aGj bC rfl z (i:=0) rfl Cut.whole rfl rfl rfl (aEU _ _ _) aEl (aIO rfl z h3) J (fun b6 (b7:aD G K (aM 2 K b a.length b5::L) b6)=>(aH (v:=i64 ((Nat.min d.length a.length):Int)) (aG (aJ (aQ [] (fun f w=>∃ k,fJ k=some R/\f 7=zS b k.length a.length/\aD G K (aM 2 K b a.length k::L) w) ?_ ?_)))))
   ·rintro f d7 ⟨k,hm,b8,b9⟩
    unfold fJ at hm
    refine aC (aI (aX b8 (aH (v:=zS b k.length a.length) (aG ?_))));obtain rfl:=zI hm
    exact lC (nA results150 rfl ⟨b,a.length,rfl,b9⟩)
   obtain ⟨d8,c1,ho⟩:=aB hm
   refine bN [] c1 (fun l m f w=>f 7=zS b l.length a.length/\f 8=i64 m/\aD G K (aM 2 K b a.length l::L) w) ?_ ?_
   ·exact ⟨(Eq.trans rfl (congrArg (fun n=>zS b n a.length) (aDi J))),rfl,b7⟩
   ·rintro l m d9 f e0 hm hr ⟨o,p,V⟩
    unfold fK at hm
    refine aJ (aI (aX p (aX o (aF (bE (len:=l.length) bC rfl) (aF (cE rfl rfl) (aG ?_))))))
    rcases aP hm with ⟨r,hm⟩|⟨r,hm⟩
    ·refine aR r rfl (aY (aC (cB (fO (C:=fun w'=>∃ L',aD G K L' w') [(0,0),(1,0),(2,0),(3,0),(4,0),(5,0),(6,0),(7,1),(8,0),(9,0)] Tryz_mixed (by kernel_rfl) (fun _ hg=>⟨_,aD.mono V hg⟩) (fun e1 c3=>?_)))))
     have q:=aD.mono V c3
     refine bS rfl (fun _ _=>bL p) (bS rfl (fun _ _=>bL o) (bS rfl (fun _ _=>bL p) ?_));obtain ⟨c4,c5,hm⟩:=aB hm
     have c6:=qJ q (i:=0) rfl
     obtain ⟨e2,e3,a0⟩:=Cut.ex 1 b a.length m
     refine bS rfl (fun _ _=>aEm bC c6 a0 rfl rfl rfl c5) (bS rfl (fun _ _=>bL o) (bS rfl (fun _ _=>bL p) ?_));obtain ⟨c7,a2,hm⟩:=aB hm
     have c8:=qJ q (i:=0) rfl
     obtain ⟨e4,e5,a3⟩:=Cut.ex 1 b a.length 0
     refine bS rfl (fun _ _=>aHa bC c8 a3 rfl rfl rfl a2) (qX rfl ?_);obtain ⟨c9,a4,hm⟩:=aB hm
     refine aGj bC rfl q (i:=0) rfl a0 rfl rfl rfl (aEU _ _ _) aEl (aIP rfl q (i:=0) rfl a2 a3) a4 (fun d0 (a5:aD G K (aM 2 K b a.length c9::L) d0)=>(bG (aC ⟨⟨_,a5⟩,?_⟩)))
     exact bS rfl (fun _ _=>cW rfl rfl) (bS rfl (fun _ _=>lD (v:=i64 (wr (m+((Nat.min c7.length c4.length):Int)))) rfl) (wY (cU (aC ⟨_,(zI hm).symm,bZ,(Eq.trans o (congrArg (fun n=>zS b n a.length) (aDi a4))),rfl,a5⟩))))
    ·refine bF r rfl (aIC (aAl (aAl ?_)))
     have d1:=hr _ (zI hm).symm
     subst d1
     have hm:(fJ l)=some R:=ho
     exact aK
  refine aJ (bO [0,6] (fun f w=>∃ t,dZ d c t=some R/\f 26=zB t/\aD G K (L) w) ?_ ?_)
  ·rintro f e6 ⟨t,hm,d2,d3⟩
   unfold dZ at hm
   refine aC ?_
   rcases aP hm with ⟨a6,hm⟩|⟨a6,hm⟩
   ·exact aK
   ·exact bF a6 d2 (aY (aC ⟨bZ,hm,d3⟩))
  refine aU (aL (v:=Value.int .u64 c.1) (aF (aBR rfl rfl) (aL (v:=zB (decide (0 < c.1))) ?_)))
  rcases aP hm with ⟨h,hm⟩|⟨h,hm⟩
  ·exact gW h rfl rfl (gW h rfl rfl (aF (lE (v:=zB true) h rfl rfl) (aG ⟨bZ,true,hm,rfl,y⟩)))
  ·exact iR h rfl rfl (aL (v:=Value.int .u64 c.2) (iR h rfl rfl (aF (aBR rfl rfl) (aF (qW (v:=zB (decide (9223372036854775807 < c.2))) h rfl rfl) (aG ⟨bZ,decide (9223372036854775807 < c.2),hm,rfl,y⟩)))))
 refine aI (aL (v:=i64 j) (aF (cE rfl rfl) (aG ?_)))
 rcases aP hm with ⟨a7,hm⟩|⟨a7,hm⟩
 ·exact aK
 ·exact bF a7 rfl (aY (aC ⟨bZ,hm,hs⟩))
theorem iE {a R:(List Int)} (hm:dX a=some R) (j:aD G K (L) w) (d:bK K a1 c2 a):
  Calls prog 151 ([zS a1 a.length c2]:List Value).toArray w (dV fun v w'=>∃ e g,v=zS e R.length g/\aD G K (aM 2 K e g R::L) w'):=by
 refine aO func151 rfl (by kernel_rfl) (by show (1:Nat)<=8;decide) ?_;unfold dX at hm
 refine aI (aH (v:=zS none 0 0) (aG (aJ (aI (aL (v:=zS a1 a.length c2) (aF (aGk bC rfl rfl) (aG ?_)))))))
 rcases aEV d with ⟨k,l,m⟩|n
 ·subst k;subst l;subst m
  refine aGc rfl ?_
  replace hm:(some [])=some R:=hm
  exact aK
 ·refine aGd (Eq.trans rfl (congrArg zB n)) (aY (aC (aI (dI (Kt:=K) (xs:=([]:List Int)) (cs:=[]) (vs:=[]) bC vG rfl rfl j rfl (by kernel_rfl) rfl rfl rfl trivial (fun o p (q:aD G K (aM 2 K o 0 ([]:List Int)::L) p)=>(aL (v:=zS a1 a.length c2) ?_))))));obtain ⟨h,r,hm⟩:=aB hm
  refine aAQ (i:=0) bC underlying105 vG rfl rfl q rfl (Hp.le_refl _) d r rfl rfl rfl rfl (fun b c t (u:aD G K (aM 2 K b c h::L) t)=>(aH (v:=zS b h.length c) (aG ?_)));obtain rfl:=zI hm
  exact lC (nA results151 rfl ⟨b,c,rfl,u⟩)
end Gv
namespace Gv
open Gv.Hp renaming le_refl→zR
open Go.Value renaming slice→zS,bool→zB,pointer→zP,agg→zA
open Option.some renaming inj→zI
open Gv.Hp renaming le_trans→zL
open Go Go.Proofs Go.Proofs.Tryz
set_option maxRecDepth 20000
set_option maxHeartbeats 40000000
variable {G:vF} {K Kf:Hp} {L:List gC} {w:World} {a1 a4 a7 a3 a6 a2 a10 a13:Option Addr} {c2 c5 c8 c7 b1 c3 c11 c14:Nat}
theorem yU {t:aW} {p:(List Int)} {b5:Bool} {R:(List Int)} (hm:pH t p b5=some R) (hs:aD G K (L) w) (h3:bK K a1 c2 t.L) (h6:bK K a4 c5 t.E) (h9:bK K a7 c8 p):
  Calls prog 120 ([zA (zCa t a1 c2 a4 c5),zS a7 p.length c8,zB b5]:List Value).toArray w (dV fun v w'=>∃ e1 e2,v=zS e1 R.length e2/\aD G K (aM 2 K e1 e2 R::L) w'):=by
 let c:=(zC t a1 c2 a4 c5)
 refine aO func120 rfl (by kernel_rfl) (by show (3:Nat)<=79;decide) ?_;unfold pH at hm
 refine aI (eQ (v:=zA (zCa t a1 c2 a4 c5)) (vs:=c) hs rfl rfl (fun d l7 h0=>(aH (v:=zS none 0 0) (aG (aI (dI (Kt:=K) (xs:=([(-1)]:List Int)) (cs:=[i64 (-1)]) (vs:=[(0,i64 (-1))]) bC vG rfl rfl h0 rfl (by kernel_rfl) rfl rfl rfl ⟨rfl,trivial⟩ (fun e3 h1 (e4:aD G K (aM 2 K e3 1 ([(-1)]:List Int)::box d 68 c::L) h1)=>(aF (bM (t':=0) mL rfl rfl) (aF (fF eZ e4 (i:=1) rfl rfl rfl) ?_)))))))));obtain ⟨l8,l9,h2,h4,h5⟩:=aD.lendSp e4 (zR _) .head
 obtain ⟨h7,h8,hm⟩:=aB hm
 refine aS (vs:=[zS e3 ([(-1)]:List Int).length 1,i64 t.N]) call150 rfl (kY h8 h4 h2) ?_
 rintro _ m0 ⟨a,b,rfl,i0⟩
 have i1:=h5 _ _ i0
 refine aH (v:=zS a h7.length b) (aG (aI (aL (v:=zS a7 p.length c8) ?_)));obtain ⟨r,i2,hm⟩:=aB hm
 refine aS (vs:=[zS a7 p.length c8]) call151 rfl (iE i2 i1 h9) ?_
 rintro _ m1 ⟨u,x,rfl,m2⟩
 refine aH (v:=zS u r.length x) (aG (aJ (aI (aL (v:=zS a7 p.length c8) (aF (bE (len:=p.length) bC rfl) (aL (v:=i64 0) (aG (aQ [2,3,8] (fun f w=>∃ y,oZ t b5 r y=some R/\f 7=zS a y.length b/\aD G K (aM 2 K u x r::aM 2 K a b y::box d 68 c::L) w) ?_ ?_))))))))
 ·rintro f m3 ⟨y,hm,m4,m5⟩
  unfold oZ at hm
  refine aC (aJ (aQ [] (fun f w=>∃ b7,aBn b7=some R/\f 7=zS a b7.length b/\aD G K (aM 2 K a b b7::L) w) aK ?_));obtain ⟨m6,i3,ho⟩:=aB hm
  refine bN [2,3] i3 (fun z J f w=>∃ V a0,f 7=zS a z.length b/\f 8=zS V J.length a0/\aD G K (aM 2 K V a0 J::aM 2 K a b z::box d 68 c::L) w) aK ?_
  ·rintro z J e5 f i4 hm hr ⟨V,a0,m7,b8,a2⟩
   unfold oY at hm
   refine aJ (aI (aX b8 (aF (bE (len:=J.length) bC rfl) (aF (aBR rfl rfl) (aG ?_)))))
   rcases aP hm with ⟨e6,hm⟩|⟨e6,hm⟩
   ·refine aR e6 rfl (aY (aC (aQ [2,3] (fun f w=>∃ a3 a5 a6 a8,uJ a3 a5=some e5/\f 7=zS a a3.length b/\f 8=zS a6 a5.length a8/\aD G K (aM 2 K a6 a8 a5::aM 2 K a b a3::box d 68 c::L) w) ?_ ?_)))
    ·rintro f m8 ⟨a3,a5,a6,a8,hm,i5,i6,i7⟩
     unfold uJ at hm
     exact aC ⟨_,(zI hm).symm,bZ,a6,a8,i5,i6,i7⟩
    refine aI (aX b8 ?_);obtain ⟨a9,b9,hm⟩:=aB hm
    have i8:=dD a2 (i:=0) rfl b9
    refine aF (eE bC rfl i8 rfl rfl rfl b9) (aF (uR (t:=0) eZ a2 (i:=0) rfl b9 rfl rfl rfl) (aH (v:=i64 a9) (aG (aI (aX b8 ?_)))));obtain ⟨e7,e8,hm⟩:=aB hm
    have i9:=qJ a2 (i:=0) rfl
    obtain ⟨e9,f0,f1⟩:=Cut.ex 1 V a0 1
    refine aF (aEm bC i9 f1 rfl rfl rfl e8) ?_
    have j0:aD G K (aM 2 K e9 f0 e7::aM 2 K a b z::box d 68 c::L) i4:=aD.cutP a2 (i:=0) rfl e8 f1
    refine aH (v:=zS e9 e7.length f0) (aG (aI (aF (bM (t':=3) eX rfl rfl) (aF (fF lX j0 (i:=2) rfl rfl rfl) (aF (bE (len:=t.E.length) cO rfl) (aL (v:=i64 0) (aG (aQ [2,3] (fun f w=>∃ c0 c1 f2 f3,aBo c0 c1=some e5/\f 7=zS a c0.length b/\f 8=zS f2 c1.length f3/\aD G K (aM 2 K f2 f3 c1::aM 2 K a b c0::box d 68 c::L) w) aK ?_))))))));obtain ⟨m9,j1,ho⟩:=aB hm
    refine kO [2,3,11,41,42] j1 (fun j g q f w=>∃ k l,f 7=zS a j.length b/\f 8=zS k g.length l/\f 43=i64 q/\aD G K (aM 2 K k l g::aM 2 K a b j::box d 68 c::L) w) aK ?_
    ·rintro j g q c3 f n0 hm hr ⟨k,l,c4,j2,c6,f4⟩
     unfold lK at hm
     refine aI (aF (cE c6 rfl) (aG (aJ ?_)))
     rcases aP hm with ⟨f5,hm⟩|⟨f5,hm⟩
     ·refine aR f5 rfl (aY (aC (aJ (aQ [2,3,11,41,42,43] (fun f w=>∃ b0 b1 b2 b3,iC q b0 b1=some c3/\f 7=zS a b0.length b/\f 8=zS b2 b1.length b3/\aD G K (aM 2 K b2 b3 b1::aM 2 K a b b0::box d 68 c::L) w) ?_ ?_))))
      ·rintro f n1 ⟨b0,b1,b2,b3,hm,j3,j4,j5⟩
       unfold iC at hm
       exact aC (aU (aF (cW c6 rfl) (aL (v:=i64 (wr (q+1))) (aG ⟨_,(zI hm).symm,bZ,b2,b3,j3,j4,rfl,j5⟩))))
      refine aI ?_;obtain ⟨e,f6,hm⟩:=aB hm
      refine aF (eC cO rfl h6 rfl rfl c6 f6) ?_;obtain ⟨n2,j6,j7⟩:=bK.el (sz:=3) rfl h6 f6
      cases j7
      refine aF (gQ (t:=0) (vs:=[i64 e.F,i64 e.B,i64 e.To]) nU f4 j6 rfl rfl rfl) (bH (vs:=[i64 0,i64 0,i64 0]) zeroValue87 f4 rfl (fun f7 n3 j8=>(cF (i:=0) (ns:=[i64 e.F,i64 e.B,i64 e.To]) (us:=[i64 e.F,i64 e.B,i64 e.To]) sizeOf87 j8 rfl rfl rfl rfl rfl (eD rfl) rfl rfl (fun j9 (m:aD G K (box f7 87 [i64 e.F,i64 e.B,i64 e.To]::aM 2 K k l g::aM 2 K a b j::box d 68 c::L) j9)=>(aG (aJ (rY (C:=fun w'=>aD G K (box f7 87 [i64 e.F,i64 e.B,i64 e.To]::aM 2 K k l g::aM 2 K a b j::box d 68 c::L) w') Tryz_mixed (by kernel_rfl) (aD.mono m (eP.drew _)) (dB (fun _ m=>bM (t':=0) qK rfl rfl) (dB (fun _ m=>fF eZ m (i:=0) rfl rfl rfl) (dB (fun _ m=>bM (t':=2) qL rfl rfl) (dB (fun _ m=>fF eZ m (i:=0) rfl rfl rfl) (dB (fun _ m=>lD (v:=i64 e.F) rfl) (dB (fun _ m=>lD (v:=i64 e.To) rfl) (zJ (fun n4 n5=>(aC (qV [2,3,7,8,11,41,42,43] (fun f w=>∃ c7 o,lJ a9 j g q c7 o=some c3/\f 14=i64 c7/\f 15=i64 o/\aD G K (aM 2 K k l g::aM 2 K a b j::box d 68 c::L) w) ?_ ?_)))))))))))))))))
      ·rintro f n6 ⟨c7,o,hm,n7,f8,n8⟩
       unfold lJ at hm
       refine aJ (bO [2,3,7,8,11,15,41,42,43] (fun f w=>∃ c9,jP a9 j g q o c9=some c3/\f 64=zB c9/\aD G K (aM 2 K k l g::aM 2 K a b j::box d 68 c::L) w) ?_ ?_)
       ·rintro f n9 ⟨c9,hm,k0,d0⟩
        unfold jP at hm
        refine aC ?_
        rcases aP hm with ⟨f9,hm⟩|⟨f9,hm⟩
        ·refine aR f9 k0 (aI (aX c4 (aX f8 (aX c4 (aL (v:=i64 a9) ?_)))));obtain ⟨g0,d1,hm⟩:=aB hm
         have g1:=dD d0 (i:=1) rfl d1
         refine aF (eE bC rfl g1 rfl rfl rfl d1) (aF (uR (t:=0) eZ d0 (i:=1) rfl d1 rfl rfl rfl) (aF (cW rfl rfl) ?_));obtain ⟨o0,g2,hm⟩:=aB hm
         refine aF (eE bC rfl g1 rfl rfl rfl g2) ?_;obtain ⟨b4,g3,hm⟩:=aB hm
         refine iB (i:=1) (t:=0) (ns:=[i64 (wr (g0+1))]) (e':=(wr (g0+1):Int)) sizeOf2 d0 rfl (zR _) rfl rfl rfl g2 g3 rfl rfl (eD rfl) rfl (fun cs h=>by cases h;rfl) (fun k1 (k2:aD G K (aM 2 K k l g::aM 2 K a b b4::box d 68 c::L) k1)=>(aG (aU (aX j2 (aX f8 (dI (Kt:=K) (xs:=([o]:List Int)) (cs:=[i64 o]) (vs:=[(0,i64 o)]) bC vG rfl rfl k2 rfl (by kernel_rfl) rfl rfl rfl ⟨rfl,trivial⟩ (fun k3 k4 (k5:aD G K (aM 2 K k3 1 ([o]:List Int)::aM 2 K k l g::aM 2 K a b b4::box d 68 c::L) k4)=>?_)))))))
         obtain ⟨d2,k6,hm⟩:=aB hm
         exact tR (i:=0) bC underlying105 vG rfl rfl k5 rfl (zR _) (zR _) k6 rfl rfl rfl rfl (fun _ h=>h) (fun d3 d4 k7 (k8:aD G K (aM 2 K d3 d4 d2::aM 2 K a b b4::box d 68 c::L) k7)=>(aH (v:=zS d3 d2.length d4) (bG (cU (aC ⟨bZ,b4,d2,d3,d4,hm,(Eq.trans c4 (congrArg (fun n=>zS a n b) (bW g3))),rfl,k8⟩)))))
        ·exact aK
       exact aK
      exact aK
     ·exact aK
   ·exact aK
 obtain ⟨o1,k9,ho⟩:=aB hm
 refine bN [2,3,8,22,23] k9 (fun d5 d6 f w=>f 7=zS a d5.length b/\f 24=i64 d6/\aD G K (aM 2 K u x r::aM 2 K a b d5::box d 68 c::L) w) aK ?_
 ·rintro d5 d6 o2 f o3 hm hr ⟨g4,d7,d8⟩
  unfold nS at hm
  refine aI (aF (cE d7 rfl) (aG (aJ ?_)))
  rcases aP hm with ⟨g5,hm⟩|⟨g5,hm⟩
  ·refine aR g5 rfl (aY (aC (aJ (cB (aI ?_)))));obtain ⟨g6,g7,hm⟩:=aB hm
   refine aF (eC bC rfl h9 rfl rfl d7 g7) ?_;obtain ⟨o4,l0,l1⟩:=bK.el (sz:=1) rfl h9 g7
   cases l1
   refine aF (bX (t:=0) eZ d8 l0 rfl rfl) (aH (v:=i64 g6) (aG (aU (aX g4 (aL (v:=i64 g6) ?_)))));obtain ⟨o5,d9,hm⟩:=aB hm
   have l2:=dD d8 (i:=1) rfl d9
   refine aF (eE bC rfl l2 rfl rfl rfl d9) ?_;obtain ⟨l3,g8,hm⟩:=aB hm
   exact iB (i:=1) (t:=0) (ns:=[i64 0]) (e':=(0:Int)) sizeOf2 d8 rfl (zR _) rfl rfl rfl d9 g8 rfl rfl (eD rfl) rfl (fun cs h=>by cases h;rfl) (fun l4 (l5:aD G K (aM 2 K u x r::aM 2 K a b l3::box d 68 c::L) l4)=>(bG (cU (aC (aU (aF (cW d7 rfl) (aL (v:=i64 (wr (d6+1))) (aG ⟨_,(zI hm).symm,bZ,(Eq.trans g4 (congrArg (fun n=>zS a n b) (bW g8))),rfl,l5⟩))))))))
  ·exact aK
theorem aHJ {n:Int} {R:(List Int)} (hm:aIV n=some R) (j:aD G K (L) w):
  Calls prog 122 ([i64 n]:List Value).toArray w (dV fun v w'=>∃ b c,v=zS b R.length c/\aD G K (aM 2 K b c R::L) w'):=by
 refine aO func122 rfl (by kernel_rfl) (by show (1:Nat)<=15;decide) ?_;unfold aIV at hm
 refine aI (aH (v:=zS none 0 0) (aG (aI (aH (v:=zS none 0 0) (aG (aJ (aI (aL (v:=i64 n) (aL (v:=i64 0) (aG (aQ [] (fun f w=>∃ a d e,aKH a=some R/\f 3=zS d a.length e/\aD G K (aM 2 K d e a::L) w) aK ?_)))))))))))
 have m:=aD.nil (α:=Int) j 2 K
 obtain ⟨o,k,ho⟩:=aB hm
 exact bN [5] k (fun g l f w=>∃ h i,f 3=zS h g.length i/\f 6=i64 l/\aD G K (aM 2 K h i g::L) w) aK aK
theorem oG {k:Int} {p:(List Int)} {a:Nat} {R:Bool} (hm:lL k p=some R) (b:aD G K (L) w) (c:gE K a1 a [zS a4 p.length c5]) (d:bK K a4 c5 p):
  Calls prog 123 ([i64 k,dC a1 a]:List Value).toArray w (dV fun v w'=>v=zB R/\aD G K (L) w'):=by
 exact aK
theorem jF {a d:(List Int)} {b:Nat} {R:Int} (hm:dF a d=some R) (r:aD G K (L) w) (e:bK K a1 c2 a) (l:gE K a4 b [zS a7 d.length c8]) (m:bK K a7 c8 d):
  Calls prog 152 ([zS a1 a.length c2,Value.func (.func 123) #[] #[dC a4 b]]:List Value).toArray w (dV fun v w'=>v=i64 R/\aD G K (L) w'):=by
 refine aO func152 rfl (by kernel_rfl) (by show (2:Nat)<=19;decide) ?_;unfold dF at hm
 refine aI (aH (v:=i64 0) (aG (aJ (aI (aL (v:=zS a1 a.length c2) (aF (bE (len:=a.length) bC rfl) (aL (v:=i64 0) (aG (aQ [] (fun f w=>jS=some R/\aD G K (L) w) aK ?_)))))))));obtain ⟨u,n,ho⟩:=aB hm
 refine cQ [0,1,7] n (fun c f w=>f 8=i64 c/\aD G K (L) w) aK ?_
 ·rintro c x f y hm hr ⟨g,h⟩
  unfold cT at hm
  refine aI (aF (cE g rfl) (aG (aJ ?_)))
  rcases aP hm with ⟨i,hm⟩|⟨i,hm⟩
  ·refine aR i rfl (aY (aC (aJ (cB (aI (aX g (aH (v:=i64 c) (aG (aI (aL (v:=Value.func (.func 123) #[] #[dC a4 b]) (aL (v:=zS a1 a.length c2) (aL (v:=i64 c) ?_))))))))))));obtain ⟨j,k,hm⟩:=aB hm
   refine aF (eC bC rfl e rfl rfl rfl k) ?_;obtain ⟨z,o,p⟩:=bK.el (sz:=1) rfl e k
   cases p
   refine aF (bX (t:=0) eZ h o rfl rfl) ?_;obtain ⟨J,q,hm⟩:=aB hm
   exact lG (vs:=[i64 j]) (caps:=[dC a4 b]) (us:=[i64 j,dC a4 b]) rfl call123 rfl rfl (oG q h l m) aK
  ·exact aK
theorem jT {c p:(List Int)} {a:Nat} {R:(List Int)} (hm:dQ c p=some R) (hs:aD G K (aM 2 K a1 c2 c::L) w) (y:gE K a3 a [zS a6 p.length c7]) (z:bK K a6 c7 p):
  Calls prog 121 ([zS a1 c.length c2,Value.func (.func 123) #[] #[dC a3 a]]:List Value).toArray w (dV fun v w'=>∃ J V,v=zS J R.length V/\aD G K (aM 2 K J V R::L) w'):=by
 refine aO func121 rfl (by kernel_rfl) (by show (2:Nat)<=42;decide) ?_;unfold dQ at hm
 refine aI (aH (v:=zS none 0 0) (aG (aI (aL (v:=zS a1 c.length c2) (aL (v:=Value.func (.func 123) #[] #[dC a3 a]) ?_)))));obtain ⟨K9,a0,c8,c9,d0⟩:=aD.lendSp hs (zR _) .head
 obtain ⟨d,d1,hm⟩:=aB hm
 refine aS (vs:=[zS a1 c.length c2,Value.func (.func 123) #[] #[dC a3 a]]) call152 rfl (jF d1 c9 c8 (y.mono a0) (z.mono a0)) ?_
 rintro _ e6 ⟨rfl,d2⟩
 have e7:=d0 _ _ d2
 refine aH (v:=i64 d) (aG (aJ (aI (aL (v:=i64 d) (aF (aKr rfl rfl) (aG ?_))))))
 rcases aP hm with ⟨a2,hm⟩|⟨a2,hm⟩
 ·exact aK
 ·refine bF a2 rfl (aY (aC (aJ (aI (aL (v:=i64 d) (aF (cW rfl rfl) (aH (v:=i64 (wr (d+1))) (aG (aQ [] (fun f w=>∃ e g,eM e g=some R/\f 0=zS a1 e.length c2/\f 5=i64 g/\aD G K (aM 2 K a1 c2 e::L) w) ?_ ?_)))))))))
  ·rintro f e8 ⟨e,g,hm,a4,a5,a7⟩
   unfold eM at hm
   refine aC (aI (aX a4 (aX a5 ?_)));obtain ⟨e9,d3,hm⟩:=aB hm
   have d4:=qJ a7 (i:=0) rfl
   obtain ⟨f0,f1,a8⟩:=Cut.ex 1 a1 c2 g
   refine aF (aEm bC d4 a8 rfl rfl rfl d3) ?_;obtain ⟨a9,b0,hm⟩:=aB hm
   refine aGZ bC vG rfl a7 (i:=0) rfl a8 rfl rfl b0 (fun b1 (b2:aD G K (aM 2 K a1 c2 a9::L) b1)=>(aG (aI (aX (v:=zS a1 a9.length c2) (Eq.trans a4 (congrArg (fun n=>zS a1 n c2) (aDi b0))) (aX a5 ?_)))));obtain ⟨b3,b4,hm⟩:=aB hm
   have d5:=qJ b2 (i:=0) rfl
   obtain ⟨b5,b6,b7⟩:=Cut.ex 1 a1 c2 0
   refine aF (aHa bC d5 b7 rfl rfl rfl b4) (aH (v:=zS b5 b3.length b6) (aG ?_))
   have f2:aD G K (aM 2 K b5 b6 b3::L) b1:=aD.cutP b2 (i:=0) rfl b4 b7
   exact aK
  obtain ⟨f3,d6,ho⟩:=aB hm
  refine kO [1] d6 (fun j k l f w=>f 0=zS a1 j.length c2/\f 5=i64 k/\f 6=i64 l/\aD G K (aM 2 K a1 c2 j::L) w) aK ?_
  ·rintro j k l d7 f f4 hm hr ⟨m,b8,q,r⟩
   unfold cH at hm
   refine aJ (aI (aX q (aX m (aF (bE (len:=j.length) bC rfl) (aF (cE rfl rfl) (aG ?_))))))
   rcases aP hm with ⟨b9,hm⟩|⟨b9,hm⟩
   ·refine aR b9 rfl (aY (aC (aJ (aQ [1,6] (fun f w=>∃ o u,cX l o u=some d7/\f 0=zS a1 o.length c2/\f 5=i64 u/\aD G K (aM 2 K a1 c2 o::L) w) ?_ ?_))))
    ·rintro f f5 ⟨o,u,hm,d8,d9,e0⟩
     unfold cX at hm
     exact aC (aU (aX q (aF (cW rfl rfl) (aH (v:=i64 (wr (l+1))) (aG ⟨_,(zI hm).symm,bZ,d8,d9,rfl,e0⟩)))))
    refine aI (aX m (aX q ?_));obtain ⟨b,x,hm⟩:=aB hm
    have c0:=dD r (i:=0) rfl x
    refine aF (eE bC rfl c0 rfl rfl rfl x) (aF (uR (t:=0) eZ r (i:=0) rfl x rfl rfl rfl) (aH (v:=i64 b) (aG (aI (aL (v:=Value.func (.func 123) #[] #[dC a3 a]) (aL (v:=i64 b) ?_))))));obtain ⟨f6,e1,hm⟩:=aB hm
    refine lG (vs:=[i64 b]) (caps:=[dC a3 a]) (us:=[i64 b,dC a3 a]) rfl call123 rfl rfl (oG e1 r y z) ?_
    rintro _ f7 ⟨rfl,e2⟩
    refine aF (zY rfl) (aG ?_)
    rcases aP hm with ⟨c1,hm⟩|⟨c1,hm⟩
    ·refine aR c1 rfl (aI (aX m (aX b8 (aL (v:=i64 b) ?_))));obtain ⟨f8,c3,hm⟩:=aB hm
     refine aF (eE bC rfl c0 rfl rfl rfl c3) ?_;obtain ⟨c4,c5,hm⟩:=aB hm
     exact iB (i:=0) (t:=0) (ns:=[i64 b]) (e':=(b:Int)) sizeOf2 e2 rfl (zR _) rfl rfl rfl c3 c5 rfl rfl (eD rfl) rfl (fun cs h=>by cases h;rfl) (fun e3 (e4:aD G K (aM 2 K a1 c2 c4::L) e3)=>(aG (aU (aX b8 (aF (cW rfl rfl) (aH (v:=i64 (wr (k+1))) (bG (cU (aC ⟨bZ,c4,wr (k+1),hm,(Eq.trans m (congrArg (fun n=>zS a1 n c2) (bW c5))),rfl,e4⟩)))))))))
    ·exact aK
   ·exact aK
theorem rQ {t:aW} {R:(List Int)} (hm:pI t=some R) (o:aD G K (L) w) (p:bK K a1 c2 t.L) (q:bK K a4 c5 t.E):
  Calls prog 94 ([zA (zCa t a1 c2 a4 c5)]:List Value).toArray w (dV fun v w'=>∃ j k,v=zS j R.length k/\aD G K (aM 2 K j k R::L) w'):=by
 let a:=(zC t a1 c2 a4 c5)
 refine aO func94 rfl (by kernel_rfl) (by show (1:Nat)<=14;decide) ?_;unfold pI at hm
 refine aI (eQ (v:=zA (zCa t a1 c2 a4 c5)) (vs:=a) o rfl rfl (fun l w8 e=>(aH (v:=zS none 0 0) (aG (aI (aF (gH (us:=a) vK e (i:=0) rfl rfl rfl rfl) (aF (bM (t':=1) aBV rfl rfl) (aF (fF eZ e (i:=0) rfl rfl rfl) (dI (Kt:=K) (xs:=([t.I]:List Int)) (cs:=[i64 t.I]) (vs:=[(0,i64 t.I)]) bC vG rfl rfl e rfl (by kernel_rfl) rfl rfl rfl ⟨rfl,trivial⟩ (fun g r (u:aD G K (aM 2 K g 1 ([t.I]:List Int)::box l 68 a::L) r)=>?_))))))))))
 obtain ⟨b8,m,x,y,z⟩:=aD.lendSp u (zR _) .head
 obtain ⟨b,J,hm⟩:=aB hm
 refine aS (vs:=[zA (zCa t a1 c2 a4 c5),zS g ([t.I]:List Int).length 1,zB true]) call120 rfl (yU J y (p.mono m) (q.mono m) x) ?_
 rintro _ b9 ⟨c,d,rfl,V⟩
 have a0:=z _ _ V
 refine bH (vs:=[zS none 0 0]) zeroValue105 a0 rfl (fun h c0 a2=>(cF (i:=0) (ns:=[zS c b.length d]) (us:=[zS c b.length d]) sizeOf105 a2 rfl rfl rfl rfl rfl (eD rfl) rfl rfl (fun a3 (n:aD G K (box h 105 [zS c b.length d]::aM 2 K g 1 ([t.I]:List Int)::aM 2 K c d b::box l 68 a::L) a3)=>(aG (aI (aF (bM (t':=0) mL rfl rfl) (aF (fF eZ n (i:=3) rfl rfl rfl) ?_)))))));obtain ⟨a5,a6,hm⟩:=aB hm
 refine aS (vs:=[i64 t.N]) call122 rfl (aHJ a6 n) ?_
 rintro _ c1 ⟨a7,a8,rfl,a9⟩
 refine aF (nB (vs:=[zP (some ⟨h,0,none⟩)]) rfl) ?_;obtain ⟨c3,c4,b0,b1,c6⟩:=aD.lendSp a9 (zR _) zt3
 obtain ⟨c7,b2,b3,b4,c8⟩:=aD.lendBp b1 zt1
 obtain ⟨c9,b5,hm⟩:=aB hm
 exact aS (vs:=[zS a7 a5.length a8,Value.func (.func 123) #[] #[dC (some ⟨h,0,none⟩) 0]]) call121 rfl (jT b5 b4 b3 (b0.mono b2)) aK
theorem oH {a R:(List Edge)} (hm:cC a=some R) (hs:aD G K (aM 87 K a1 c2 a::L) w):
  Calls prog 160 ([zS a1 a.length c2]:List Value).toArray w (dV fun v w'=>∃ a9 b0,v=zS a9 R.length b0/\aD G K (aM 87 K a9 b0 R::L) w'):=by
 refine aO func160 rfl (by kernel_rfl) (by show (1:Nat)<=61;decide) ?_;unfold cC at hm
 refine aI (aH (v:=zS none 0 0) (aG (aJ (aI (aL (v:=zS a1 a.length c2) (aF (bE (len:=a.length) cO rfl) (aF (cE rfl rfl) (aG ?_))))))))
 rcases aP hm with ⟨c3,hm⟩|⟨c3,hm⟩
 ·exact aK
 ·refine bF c3 rfl (aY (aC (aJ (aI (aH (v:=i64 1) (aG (aQ [0] (fun f w=>iV a=some R/\aD G K (aM 87 K a1 c2 a::L) w) aK ?_)))))));obtain ⟨f8,e0,ho⟩:=aB hm
  refine cQ [0] e0 (fun e f w=>f 3=i64 e/\aD G K (aM 87 K a1 c2 a::L) w) aK ?_
  ·rintro e b2 f f9 hm hr ⟨o,b⟩
   unfold cM at hm
   refine aJ (aI (aX o (aL (v:=zS a1 a.length c2) (aF (bE (len:=a.length) cO rfl) (aF (cE rfl rfl) (aG ?_))))))
   rcases aP hm with ⟨b3,hm⟩|⟨b3,hm⟩
   ·refine aR b3 rfl (aY (aC (aJ (aQ [0] (fun f w=>dK e=some b2/\f 3=i64 e/\aD G K (aM 87 K a1 c2 a::L) w) ?_ ?_))))
    ·rintro f g0 ⟨hm,e1,e2⟩
     unfold dK at hm
     exact aC (aU (aX e1 (aF (cW rfl rfl) (aH (v:=i64 (wr (e+1))) (aG ⟨_,(zI hm).symm,bZ,rfl,e2⟩)))))
    refine aJ (rY (C:=fun w'=>aD G K (aM 87 K a1 c2 a::L) w') Tryz_mixed (by kernel_rfl) (aD.mono b (eP.drew _)) (dB (fun _ b=>bL (v:=zS a1 a.length c2) rfl) (dB (fun _ b=>bL o) ?_)));obtain ⟨p,a6,hm⟩:=aB hm
    have g:=dD b (i:=0) rfl a6
    refine dB (fun _ b=>eE cO rfl g rfl rfl rfl a6) (dB (fun _ b=>aEf (t:=0) (vs:=[i64 p.F,i64 p.B,i64 p.To]) nU b (i:=0) rfl a6 rfl rfl rfl rfl) (dB (fun _ b=>bL (v:=zS a1 a.length c2) rfl) (dB (fun _ b=>bL o) (dB (fun _ b=>vH rfl rfl) ?_))));obtain ⟨q,b4,hm⟩:=aB hm
    refine dB (fun _ b=>eE cO rfl g rfl rfl rfl b4) (dB (fun _ b=>aEf (t:=0) (vs:=[i64 q.F,i64 q.B,i64 q.To]) nU b (i:=0) rfl b4 rfl rfl rfl rfl) (dB (fun _ b=>R_eqlG (eq_87 (x:=p) (y:=q)) rfl rfl) (zJ (fun g1 e3=>(aC ?_)))))
    rcases aP hm with ⟨b5,hm⟩|⟨b5,hm⟩
    ·refine aR b5 rfl (aI (aL (v:=zS a1 a.length c2) (aX o ?_)));obtain ⟨j,r,hm⟩:=aB hm
     have u:=qJ e3 (i:=0) rfl
     obtain ⟨k,l,z⟩:=Cut.ex 3 a1 c2 e
     refine aF (aEm cO u z rfl rfl rfl r) (aH (v:=zS k j.length l) (aG (aJ (aI (aH (v:=i64 1) (aG (aQ [] (fun f w=>∃ J V,dL J V=some b2/\f 0=zS a1 J.length c2/\f 3=i64 V/\aD G K (aM 87 K a1 c2 J::L) w) ?_ ?_)))))))
     ·rintro f g2 ⟨J,V,hm,b6,b7,b8⟩
      unfold dL at hm
      refine aC (aI (aX b6 (aX b7 ?_)));obtain ⟨g3,e4,hm⟩:=aB hm
      have e5:=qJ b8 (i:=0) rfl
      obtain ⟨g4,g5,b9⟩:=Cut.ex 3 a1 c2 V
      refine aF (aEm cO e5 b9 rfl rfl rfl e4) ?_;obtain ⟨c0,c1,hm⟩:=aB hm
      refine aGZ cO aAb rfl b8 (i:=0) rfl b9 rfl rfl c1 (fun c4 (c5:aD G K (aM 87 K a1 c2 c0::L) c4)=>(aG (aI (aX (v:=zS a1 c0.length c2) (Eq.trans b6 (congrArg (fun n=>zS a1 n c2) (aDi c1))) (aX b7 ?_)))));obtain ⟨a7,c6,hm⟩:=aB hm
      have e6:=qJ c5 (i:=0) rfl
      obtain ⟨c7,c8,c9⟩:=Cut.ex 3 a1 c2 0
      refine aF (aHa cO e6 c9 rfl rfl rfl c6) (aH (v:=zS c7 a7.length c8) (aG (lC (aAN (jU (jU (jU ?_)))))))
      have e7:=hr _ (zI hm).symm
      subst e7
      have hm:(some a7)=some R:=ho
      clear hr ho
      have g6:aD G K (aM 87 K c7 c8 a7::L) c4:=aD.cutP c5 (i:=0) rfl c6 c9
      exact aK
     obtain ⟨g7,e8,ho⟩:=aB hm
     refine kO [4] e8 (fun a0 a2 a3 f w=>f 0=zS a1 a0.length c2/\f 3=i64 a2/\f 5=i64 a3/\aD G K (aM 87 K a1 c2 a0::L) w) aK ?_
     ·rintro a0 a2 a3 e9 f g8 hm hr ⟨d0,d1,m,c⟩
      unfold cL at hm
      refine aJ (aI (aX m (aL (v:=zS k j.length l) (aF (bE (len:=j.length) cO rfl) (aF (cE rfl rfl) (aG ?_))))))
      rcases aP hm with ⟨d2,hm⟩|⟨d2,hm⟩
      ·refine aR d2 rfl (aY (aC (aJ (aQ [4,5] (fun f w=>∃ a4 a8,cK a3 a4 a8=some e9/\f 0=zS a1 a4.length c2/\f 3=i64 a8/\aD G K (aM 87 K a1 c2 a4::L) w) ?_ ?_))))
       ·rintro f g9 ⟨a4,a8,hm,f0,f1,f2⟩
        unfold cK at hm
        exact aC (aU (aX m (aF (cW rfl rfl) (aH (v:=i64 (wr (a3+1))) (aG ⟨_,(zI hm).symm,bZ,f0,f1,rfl,f2⟩)))))
       refine aJ (rY (C:=fun w'=>aD G K (aM 87 K a1 c2 a0::L) w') Tryz_mixed (by kernel_rfl) (aD.mono c (eP.drew _)) (dB (fun _ c=>bL (v:=zS k j.length l) rfl) (dB (fun _ c=>bL m) ?_)));obtain ⟨h0,d3,hm⟩:=aB hm
       obtain ⟨d,d4,hm⟩:=aB hm
       refine dB (fun _ c=>aKB cO g z r u rfl rfl rfl d3 rfl) (dB (fun _ c=>aEf (t:=0) (vs:=[i64 d.F,i64 d.B,i64 d.To]) nU c (i:=0) rfl d4 rfl rfl rfl rfl) (dB (fun _ c=>bL (v:=zS k j.length l) rfl) (dB (fun _ c=>bL m) (dB (fun _ c=>vH rfl rfl) ?_))));obtain ⟨h1,f3,hm⟩:=aB hm
       obtain ⟨a5,f4,hm⟩:=aB hm
       refine dB (fun _ c=>aKB cO g z r u rfl rfl rfl f3 rfl) (dB (fun _ c=>aEf (t:=0) (vs:=[i64 a5.F,i64 a5.B,i64 a5.To]) nU c (i:=0) rfl f4 rfl rfl rfl rfl) (dB (fun _ c=>R_neqG (eq_87 (x:=d) (y:=a5)) rfl rfl) (zJ (fun h2 d5=>(aC ?_)))))
       rcases aP hm with ⟨d6,hm⟩|⟨d6,hm⟩
       ·refine aR d6 rfl (aI (aX d0 (aX d1 (aL (v:=zS k j.length l) (aX m (aF (aKB cO g z r u rfl rfl rfl d3 rfl) (aF (aEf (t:=0) (vs:=[i64 d.F,i64 d.B,i64 d.To]) nU d5 (i:=0) rfl d4 rfl rfl rfl rfl) ?_)))))));obtain ⟨h3,d7,hm⟩:=aB hm
        refine aF (eE cO rfl g rfl rfl rfl d7) ?_;obtain ⟨d8,d9,hm⟩:=aB hm
        exact iB (i:=0) (t:=0) (ns:=[i64 d.F,i64 d.B,i64 d.To]) (e':=(⟨d.F,d.B,d.To⟩:Edge)) sizeOf87 d5 rfl (zR _) rfl rfl rfl d7 d9 rfl rfl (eD rfl) rfl (fun cs h=>by cases h;rfl) (fun f5 (f6:aD G K (aM 87 K a1 c2 d8::L) f5)=>(aG (aU (aX d1 (aF (cW rfl rfl) (aH (v:=i64 (wr (a2+1))) (bG (cU (aC ⟨bZ,d8,wr (a2+1),hm,(Eq.trans d0 (congrArg (fun n=>zS a1 n c2) (bW d9))),rfl,f6⟩)))))))))
       ·exact aK
      ·exact aK
    ·exact aK
   ·exact aK
theorem aIf {c d:Int} {a:(List aV)} {b:(List Edge)} {R:(Int × Int × (List aV) × (List Edge))} (hm:aIW c d a b=some R) (e:aD G K (aM 9 K a2 c3 a::aM 87 K a4 c5 b::box b1 68 [i64 c,i64 d,zS a2 a.length c3,zS a4 b.length c5]::L) w):
  Calls prog 128 ([zP (some ⟨b1,0,none⟩)]:List Value).toArray w (dV fun v w'=>∃ g h j k,v=Value.tuple #[]/\aD G K (aM 9 K g h R.2.2.1::aM 87 K j k R.2.2.2::box b1 68 [i64 R.1,i64 R.2.1,zS g R.2.2.1.length h,zS j R.2.2.2.length k]::L) w'):=by
 refine aO func128 rfl (by kernel_rfl) (by show (1:Nat)<=15;decide) ?_;unfold aIW at hm
 refine aI (aL (v:=zP (some ⟨b1,0,none⟩)) (aF (R_nilP rfl) (aF (bM (t':=3) eX rfl rfl) (aF (fF lX e (i:=2) rfl rfl rfl) ?_))))
 have m:aD G K (aM 87 K a4 c5 b::aM 9 K a2 c3 a::box b1 68 [i64 c,i64 d,zS a2 a.length c3,zS a4 b.length c5]::L) w:=(aD.arr 2 [1,0] e rfl)
 obtain ⟨l,n,hm⟩:=aB hm
 refine aS (vs:=[zS a4 b.length c5,Value.func (.func 68) #[] #[]]) call119 rfl (lib_SortEdge m n) ?_
 rintro _ o ⟨rfl,p,q⟩
 have r:aD G K (aM 87 K a4 c5 l::aM 9 K a2 c3 a::box b1 68 [i64 c,i64 d,zS a2 a.length c3,zS a4 l.length c5]::L) o:=by rw [←p];exact q
 exact aK
theorem wS {a:(List Int)} {R:Int} (hm:iM a=some R) (m:aD G K (L) w) (b:bK K a1 c2 a):
  Calls prog 194 ([zS a1 a.length c2]:List Value).toArray w (dV fun v w'=>v=i64 R/\aD G K (L) w'):=by
 refine aO func194 rfl (by kernel_rfl) (by show (1:Nat)<=25;decide) ?_;unfold iM at hm
 refine aI (aH (v:=i64 0) (aG (qV [0] (fun f w=>gJ a=some R/\aD G K (L) w) ?_ ?_)))
 ·rintro f n ⟨hm,e⟩
  unfold gJ at hm
  refine aI (aL (v:=zS a1 a.length c2) ?_);obtain ⟨g,c,hm⟩:=aB hm
  refine aF (eC bC rfl b rfl rfl rfl c) ?_;obtain ⟨o,h,i⟩:=bK.el (sz:=1) rfl b c
  cases i
  refine aF (bX (t:=0) eZ e h rfl rfl) (aH (v:=i64 g) (aG (aJ (aI (aH (v:=i64 1) (aG (aQ [] (fun f w=>∃ d,jQ d=some R/\f 3=i64 d/\aD G K (L) w) aK ?_)))))));obtain ⟨p,j,ho⟩:=aB hm
  exact bN [0] j (fun k l f w=>f 3=i64 k/\f 4=i64 l/\aD G K (L) w) aK aK
 exact aK
theorem wT {p:(List Int)} {R:Int} (hm:sL p=some R) (a:aD G K (L) w) (b:bK K a1 c2 p):
  Calls prog 153 ([zS a1 p.length c2]:List Value).toArray w (dV fun v w'=>v=i64 R/\aD G K (L) w'):=by
 exact aK
theorem uY {e:Edge} {p:(List Int)} {a:Nat} {R:Bool} (hm:lM e p=some R) (c:aD G K (L) w) (d:gE K a1 a [zS a4 p.length c5]) (g:bK K a4 c5 p):
  Calls prog 155 ([zA #[i64 e.F,i64 e.B,i64 e.To],dC a1 a]:List Value).toArray w (dV fun v w'=>v=zB R/\aD G K (L) w'):=by
 refine aO func155 rfl (by kernel_rfl) (by show (2:Nat)<=20;decide) ?_;unfold lM at hm
 exact aI (eQ (v:=zA #[i64 e.F,i64 e.B,i64 e.To]) (vs:=[i64 e.F,i64 e.B,i64 e.To]) c rfl rfl (fun h i j=>(aH (v:=zB false) (aG (aJ (bO [] (fun f w=>∃ b,qF b=some R/\f 3=zB b/\aD G K (L) w) aK aK))))))
theorem aDW {t:aW} {q:(List Int)} {c:Nat} {R:aW} (hm:aDt t q=some R) (hs:aD G K (L) w) (c9:Hp.le Kf K) (h3:bK Kf a1 c2 t.L) (x:bK K a4 c5 t.E) (h9:gE K a7 c [zS a10 q.length c11]) (b3:bK K a10 c11 q):
  Calls prog 154 ([zA (zCa t a1 c2 a4 c5),Value.func (.func 155) #[] #[dC a7 c]]:List Value).toArray w (dV fun v w'=>∃ y z J V,v=zA (zCa R y z J V)/\bK Kf y z R.L/\aD G K (aM 87 K J V R.E::L) w'):=by
 let b:=zG
 let k:=[i64 t.N,i64 t.I,zS a1 t.L.length c2,zS none 0 0]
 let a0:=(zC t a1 c2 a4 c5)
 refine aO func154 rfl (by kernel_rfl) (by show (2:Nat)<=33;decide) ?_;unfold aDt at hm
 refine aI (eQ (v:=zA (zCa t a1 c2 a4 c5)) (vs:=a0) hs rfl rfl (fun b4 d1 b5=>(bH (vs:=b) zeroValue68 b5 rfl (fun d d2 l=>(aG (aI (aF (bM (t':=0) mL rfl rfl) (aF (fF eZ l (i:=1) rfl rfl rfl) (aF (bM (t':=1) aBV rfl rfl) (aF (fF eZ l (i:=1) rfl rfl rfl) (aF (bM (t':=2) aAp rfl rfl) (aF (fF aBU l (i:=1) rfl rfl rfl) (aF (kT (vs:=[(0,i64 t.N),(1,i64 t.I),(2,zS a1 t.L.length c2)]) (cs:=k) aFq rfl (by kernel_rfl)) (bH (vs:=b) zeroValue68 l rfl (fun e d3 b6=>(cF (i:=0) (ns:=k) (us:=k) sizeOf68 b6 rfl rfl rfl rfl rfl (eD rfl) rfl rfl (fun b7 (a2:aD G K (box e 68 k::box d 68 b::box b4 68 a0::L) b7)=>(aG (aJ (aI (aF (bM (t':=3) eX rfl rfl) (aF (fF lX a2 (i:=2) rfl rfl rfl) (aF (bE (len:=t.E.length) cO rfl) ?_)))))))))))))))))))))))
 refine aL (v:=i64 0) (aG (aQ [4,5] (fun f w=>∃ r a3 a5,aFz t r=some R/\aD G K (aM 87 K a3 a5 r::box e 68 [i64 t.N,i64 t.I,zS a1 t.L.length c2,zS a3 r.length a5]::box d 68 b::L) w) aK ?_))
 have d4:=aD.nil (α:=Edge) a2 87 K
 obtain ⟨d5,b8,ho⟩:=aB hm
 refine bN [1,4,5,16,17] b8 (fun g m f w=>∃ h j,f 18=i64 m/\aD G K (aM 87 K h j g::box e 68 [i64 t.N,i64 t.I,zS a1 t.L.length c2,zS h g.length j]::box d 68 b::L) w) aK ?_
 ·rintro g m b9 f d6 hm hr ⟨h,j,u,a6⟩
  unfold qB at hm
  refine aI (aF (cE u rfl) (aG (aJ ?_)))
  rcases aP hm with ⟨a8,hm⟩|⟨a8,hm⟩
  ·refine aR a8 rfl (aY (aC (aJ (aQ [1,4,5,16,17,18] (fun f w=>∃ n o p,tM m n=some b9/\aD G K (aM 87 K o p n::box e 68 [i64 t.N,i64 t.I,zS a1 t.L.length c2,zS o n.length p]::box d 68 b::L) w) ?_ ?_))))
   ·rintro f d7 ⟨n,o,p,hm,c0⟩
    unfold tM at hm
    exact aC (aU (aF (cW u rfl) (aL (v:=i64 (wr (m+1))) (aG ⟨_,(zI hm).symm,bZ,o,p,rfl,c0⟩))))
   refine aI ?_;obtain ⟨a,a9,hm⟩:=aB hm
   refine aF (eC cO rfl x rfl rfl u a9) ?_;obtain ⟨d8,c1,c3⟩:=bK.el (sz:=3) rfl x a9
   cases c3
   refine aF (gQ (t:=0) (vs:=[i64 a.F,i64 a.B,i64 a.To]) nU a6 c1 rfl rfl rfl) (bH (vs:=[i64 0,i64 0,i64 0]) zeroValue87 a6 rfl (fun c4 d9 c6=>(cF (i:=0) (ns:=[i64 a.F,i64 a.B,i64 a.To]) (us:=[i64 a.F,i64 a.B,i64 a.To]) sizeOf87 c6 rfl rfl rfl rfl rfl (eD rfl) rfl rfl (fun c7 (b0:aD G K (box c4 87 [i64 a.F,i64 a.B,i64 a.To]::aM 87 K h j g::box e 68 [i64 t.N,i64 t.I,zS a1 t.L.length c2,zS h g.length j]::box d 68 b::L) c7)=>(aG (aI (aL (v:=Value.func (.func 155) #[] #[dC a7 c]) (aF (gH (us:=[i64 a.F,i64 a.B,i64 a.To]) nU b0 (i:=0) rfl rfl rfl rfl) ?_))))))))
   obtain ⟨e0,c8,hm⟩:=aB hm
   exact lG (vs:=[zA #[i64 a.F,i64 a.B,i64 a.To]]) (caps:=[dC a7 c]) (us:=[zA #[i64 a.F,i64 a.B,i64 a.To],dC a7 c]) rfl call155 rfl rfl (uY c8 b0 h9 b3) aK
  ·exact aK
theorem rR {t:aW} {p:(List Int)} {R:aW} (hm:mG t p=some R) (r:aD G K (L) w) (u:bK K a1 c2 t.L) (x:bK K a4 c5 t.E) (y:bK K a7 c8 p):
  Calls prog 126 ([zA (zCa t a1 c2 a4 c5),zS a7 p.length c8]:List Value).toArray w (dV fun v w'=>∃ b l m n o,v=zA (zCa R l m n o)/\Hp.le K b/\bK b l m R.L/\bK b n o R.E/\aD G b (L) w'):=by
 let e:=(zC t a1 c2 a4 c5)
 refine aO func126 rfl (by kernel_rfl) (by show (2:Nat)<=8;decide) ?_;unfold mG at hm
 refine aI (eQ (v:=zA (zCa t a1 c2 a4 c5)) (vs:=e) r rfl rfl (fun z b2 J=>(eQ (v:=zS a7 p.length c8) (vs:=[zS a7 p.length c8]) J rfl rfl (fun g b3 V=>(bH (vs:=zG) zeroValue68 V rfl (fun a0 b4 q=>(aG (aI (aF (gH (us:=e) vK q (i:=2) rfl rfl rfl rfl) (aF (nB (vs:=[zP (some ⟨g,0,none⟩)]) rfl) ?_))))))))));obtain ⟨b5,h,a2,a3,a5⟩:=aD.lendBp q zt1
 obtain ⟨a,a6,hm⟩:=aB hm
 refine aS (vs:=[zA (zCa t a1 c2 a4 c5),Value.func (.func 155) #[] #[dC (some ⟨g,0,none⟩) 0]]) call154 rfl (aDW (Kf:=K) a6 a3 h u (x.mono h) a2 (y.mono h)) ?_
 rintro _ b6 ⟨j,k,c,d,rfl,b7,a8⟩
 have a9:=a5 _ _ a8
 refine cF (i:=2) (ns:=(zC a j k c d)) (us:=(zC a j k c d)) sizeOf68 a9 rfl rfl rfl rfl rfl (eD rfl) rfl rfl (fun b0 (b1:aD G K (box g 105 [zS a7 p.length c8]::aM 87 K c d a.E::box a0 68 (zC a j k c d)::box z 68 e::L) b0)=>(aG ?_));obtain ⟨b8,b9,c0,c1⟩:=aD.giveSp b1 (zR _) zt1
 exact aK
theorem aEN {t:aW} {k:Int} {R:(List Edge)} (hm:xH t k=some R) (u:aD G K (L) w) (V:bK K a1 c2 t.L) (h6:bK K a4 c5 t.E):
  Calls prog 158 ([zA (zCa t a1 c2 a4 c5),i64 k]:List Value).toArray w (dV fun v w'=>∃ l m,v=zS l R.length m/\aD G K (aM 87 K l m R::L) w'):=by
 refine aO func158 rfl (by kernel_rfl) (by show (2:Nat)<=25;decide) ?_;unfold xH at hm
 refine aI (eQ (v:=zA (zCa t a1 c2 a4 c5)) (vs:=(zC t a1 c2 a4 c5)) u rfl rfl (fun b7 w8 n=>(aH (v:=zS none 0 0) (aG (aI (aH (v:=zS none 0 0) (aG (aJ (aI (aF (bM (t':=3) eX rfl rfl) (aF (fF lX n (i:=0) rfl rfl rfl) (aF (bE (len:=t.E.length) cO rfl) (aL (v:=i64 0) (aG (aQ [] (fun f w=>∃ e o p,aDu e=some R/\f 5=zS o e.length p/\aD G K (aM 87 K o p e::L) w) aK ?_)))))))))))))))
 have a5:=aD.nil (α:=Edge) n 87 K
 obtain ⟨a6,x,ho⟩:=aB hm
 refine bN [1,9,10] x (fun g a f w=>∃ h j,f 5=zS h g.length j/\f 11=i64 a/\aD G K (aM 87 K h j g::L) w) aK ?_
 ·rintro g a y f a7 hm hr ⟨h,j,a8,q,a9⟩
  unfold wG at hm
  refine aI (aF (cE q rfl) (aG (aJ ?_)))
  rcases aP hm with ⟨r,hm⟩|⟨r,hm⟩
  ·refine aR r rfl (aY (aC (aJ (aQ [1,9,10,11] (fun f w=>∃ b c d,wF a b=some y/\f 5=zS c b.length d/\aD G K (aM 87 K c d b::L) w) ?_ ?_))))
   ·rintro f b0 ⟨b,c,d,hm,z,J⟩
    unfold wF at hm
    exact aC (aU (aF (cW q rfl) (aL (v:=i64 (wr (a+1))) (aG ⟨_,(zI hm).symm,bZ,c,d,z,rfl,J⟩))))
   exact aK
  ·exact aK
theorem lZ {d:(List Bool)} {j:Int} {R:(List Bool)} (hm:eB d j=some R) (hs:aD G K (L) w) (h3:bK K a1 c2 d):
  Calls prog 156 ([zS a1 d.length c2,i64 j]:List Value).toArray w (dV fun v w'=>∃ u x,v=zS u R.length x/\aD G K (aM 4 K u x R::L) w'):=by
 refine aO func156 rfl (by kernel_rfl) (by show (2:Nat)<=48;decide) ?_;unfold eB at hm
 refine aI (aH (v:=zS none 0 0) (aG (qV [0,1] (fun f w=>fY d j=some R/\aD G K (L) w) ?_ ?_)))
 ·rintro f w4 ⟨hm,b0⟩
  unfold fY at hm
  refine aI (aL (v:=zS a1 d.length c2) (aF (bE (len:=d.length) jG rfl) (aF (aCE runUnderlying171 rfl ⟨_,runUnderlying3⟩) (aL (v:=i64 j) (aF (aCE runUnderlying171 rfl ⟨_,runUnderlying3⟩) ?_)))));obtain ⟨c,q7,hm⟩:=aB hm
  refine aS (vs:=[Value.int .u64 (aAk (d.length:Int)),Value.int .u64 (aAk j)]) call193 rfl (aLt b0 q7) ?_
  rintro _ w8 ⟨rfl,y⟩
  refine aL (v:=Value.tuple #[Value.int .u64 c.1,Value.int .u64 c.2]) (aF (fU rfl rfl) (aF (fU rfl rfl) (aH (v:=Value.int .u64 c.1) (aH (v:=Value.int .u64 c.2) (aG (qV [0,6] (fun f w=>fX d c=some R/\aD G K (L) w) ?_ ?_))))))
  ·rintro f d6 ⟨hm,b2⟩
   unfold fX at hm
   refine aI (aL (v:=Value.int .u64 c.2) (aF (aGf runUnderlying3 rfl ⟨_,runUnderlying171⟩) ?_));obtain ⟨a,b3,hm⟩:=aB hm
   refine aCD (e:=(false:Bool)) jG ez_4 rfl rfl b2 rfl rfl rfl b3 rfl (fun b b4 (z:aD G K (aM 4 K b a.length a::L) b4)=>(aH (v:=zS b a.length a.length) (aG (aI (aL (v:=zS b a.length a.length) (aL (v:=zS a1 d.length c2) ?_))))));obtain ⟨b5,J,hm⟩:=aB hm
   refine aGj jG rfl z (i:=0) rfl Cut.whole rfl rfl rfl (aEU _ _ _) aEl (aIO rfl z h3) J (fun b6 (b7:aD G K (aM 4 K b a.length b5::L) b6)=>(aH (v:=i64 ((Nat.min d.length a.length):Int)) (aG (aJ (aQ [] (fun f w=>∃ k,fV k=some R/\f 7=zS b k.length a.length/\aD G K (aM 4 K b a.length k::L) w) ?_ ?_)))))
   ·rintro f d7 ⟨k,hm,b8,b9⟩
    unfold fV at hm
    refine aC (aI (aX b8 (aH (v:=zS b k.length a.length) (aG ?_))));obtain rfl:=zI hm
    exact lC (nA results156 rfl ⟨b,a.length,rfl,b9⟩)
   obtain ⟨d8,c1,ho⟩:=aB hm
   refine bN [] c1 (fun l m f w=>f 7=zS b l.length a.length/\f 8=i64 m/\aD G K (aM 4 K b a.length l::L) w) ?_ ?_
   ·exact ⟨(Eq.trans rfl (congrArg (fun n=>zS b n a.length) (aDi J))),rfl,b7⟩
   ·rintro l m d9 f e0 hm hr ⟨o,p,V⟩
    unfold fW at hm
    refine aJ (aI (aX p (aX o (aF (bE (len:=l.length) jG rfl) (aF (cE rfl rfl) (aG ?_))))))
    rcases aP hm with ⟨r,hm⟩|⟨r,hm⟩
    ·refine aR r rfl (aY (aC (cB (fO (C:=fun w'=>∃ L',aD G K L' w') [(0,0),(1,0),(2,0),(3,0),(4,0),(5,0),(6,0),(7,1),(8,0),(9,0)] Tryz_mixed (by kernel_rfl) (fun _ hg=>⟨_,aD.mono V hg⟩) (fun e1 c3=>?_)))))
     have q:=aD.mono V c3
     refine bS rfl (fun _ _=>bL p) (bS rfl (fun _ _=>bL o) (bS rfl (fun _ _=>bL p) ?_));obtain ⟨c4,c5,hm⟩:=aB hm
     have c6:=qJ q (i:=0) rfl
     obtain ⟨e2,e3,a0⟩:=Cut.ex 1 b a.length m
     refine bS rfl (fun _ _=>aEm jG c6 a0 rfl rfl rfl c5) (bS rfl (fun _ _=>bL o) (bS rfl (fun _ _=>bL p) ?_));obtain ⟨c7,a2,hm⟩:=aB hm
     have c8:=qJ q (i:=0) rfl
     obtain ⟨e4,e5,a3⟩:=Cut.ex 1 b a.length 0
     refine bS rfl (fun _ _=>aHa jG c8 a3 rfl rfl rfl a2) (qX rfl ?_);obtain ⟨c9,a4,hm⟩:=aB hm
     refine aGj jG rfl q (i:=0) rfl a0 rfl rfl rfl (aEU _ _ _) aEl (aIP rfl q (i:=0) rfl a2 a3) a4 (fun d0 (a5:aD G K (aM 4 K b a.length c9::L) d0)=>(bG (aC ⟨⟨_,a5⟩,?_⟩)))
     exact bS rfl (fun _ _=>cW rfl rfl) (bS rfl (fun _ _=>lD (v:=i64 (wr (m+((Nat.min c7.length c4.length):Int)))) rfl) (wY (cU (aC ⟨_,(zI hm).symm,bZ,(Eq.trans o (congrArg (fun n=>zS b n a.length) (aDi a4))),rfl,a5⟩))))
    ·refine bF r rfl (aIC (aAl (aAl ?_)))
     have d1:=hr _ (zI hm).symm
     subst d1
     have hm:(fV l)=some R:=ho
     exact aK
  refine aJ (bO [0,6] (fun f w=>∃ t,eN d c t=some R/\f 26=zB t/\aD G K (L) w) ?_ ?_)
  ·rintro f e6 ⟨t,hm,d2,d3⟩
   unfold eN at hm
   refine aC ?_
   rcases aP hm with ⟨a6,hm⟩|⟨a6,hm⟩
   ·exact aK
   ·exact bF a6 d2 (aY (aC ⟨bZ,hm,d3⟩))
  refine aU (aL (v:=Value.int .u64 c.1) (aF (aBR rfl rfl) (aL (v:=zB (decide (0 < c.1))) ?_)))
  rcases aP hm with ⟨h,hm⟩|⟨h,hm⟩
  ·exact gW h rfl rfl (gW h rfl rfl (aF (lE (v:=zB true) h rfl rfl) (aG ⟨bZ,true,hm,rfl,y⟩)))
  ·exact iR h rfl rfl (aL (v:=Value.int .u64 c.2) (iR h rfl rfl (aF (aBR rfl rfl) (aF (qW (v:=zB (decide (9223372036854775807 < c.2))) h rfl rfl) (aG ⟨bZ,decide (9223372036854775807 < c.2),hm,rfl,y⟩)))))
 refine aI (aL (v:=i64 j) (aF (cE rfl rfl) (aG ?_)))
 rcases aP hm with ⟨a7,hm⟩|⟨a7,hm⟩
 ·exact aK
 ·exact bF a7 rfl (aY (aC ⟨bZ,hm,hs⟩))
theorem uZ {e:Edge} {p:(List Bool)} {a:Nat} {R:Bool} (hm:lN e p=some R) (c:aD G K (L) w) (d:gE K a1 a [zS a4 p.length c5]) (g:bK K a4 c5 p):
  Calls prog 159 ([zA #[i64 e.F,i64 e.B,i64 e.To],dC a1 a]:List Value).toArray w (dV fun v w'=>v=zB R/\aD G K (L) w'):=by
 refine aO func159 rfl (by kernel_rfl) (by show (2:Nat)<=14;decide) ?_;unfold lN at hm
 exact aI (eQ (v:=zA #[i64 e.F,i64 e.B,i64 e.To]) (vs:=[i64 e.F,i64 e.B,i64 e.To]) c rfl rfl (fun h i j=>(aH (v:=zB false) (aG (aJ (bO [] (fun f w=>∃ b,qG b=some R/\f 3=zB b/\aD G K (L) w) aK aK))))))
theorem nK {b:(List Edge)} {e:(List Bool)} {c:Nat} {R:Int} (hm:dO b e=some R) (r:aD G K (L) w) (g:bK K a1 c2 b) (l:gE K a4 c [zS a7 e.length c8]) (m:bK K a7 c8 e):
  Calls prog 195 ([zS a1 b.length c2,Value.func (.func 159) #[] #[dC a4 c]]:List Value).toArray w (dV fun v w'=>v=i64 R/\aD G K (L) w'):=by
 refine aO func195 rfl (by kernel_rfl) (by show (2:Nat)<=19;decide) ?_;unfold dO at hm
 refine aI (aH (v:=i64 0) (aG (aJ (aI (aL (v:=zS a1 b.length c2) (aF (bE (len:=b.length) cO rfl) (aL (v:=i64 0) (aG (aQ [] (fun f w=>iK=some R/\aD G K (L) w) aK ?_)))))))));obtain ⟨u,n,ho⟩:=aB hm
 refine cQ [0,1,7] n (fun d f w=>f 8=i64 d/\aD G K (L) w) aK ?_
 ·rintro d x f y hm hr ⟨h,i⟩
  unfold cD at hm
  refine aI (aF (cE h rfl) (aG (aJ ?_)))
  rcases aP hm with ⟨j,hm⟩|⟨j,hm⟩
  ·refine aR j rfl (aY (aC (aJ (cB (aI (aX h (aH (v:=i64 d) (aG (aI (aL (v:=Value.func (.func 159) #[] #[dC a4 c]) (aL (v:=zS a1 b.length c2) (aL (v:=i64 d) ?_))))))))))));obtain ⟨a,k,hm⟩:=aB hm
   refine aF (eC cO rfl g rfl rfl rfl k) ?_;obtain ⟨z,o,p⟩:=bK.el (sz:=3) rfl g k
   cases p
   refine aF (gQ (t:=0) (vs:=[i64 a.F,i64 a.B,i64 a.To]) nU i o rfl rfl rfl) ?_;obtain ⟨J,q,hm⟩:=aB hm
   exact lG (vs:=[zA #[i64 a.F,i64 a.B,i64 a.To]]) (caps:=[dC a4 c]) (us:=[zA #[i64 a.F,i64 a.B,i64 a.To],dC a4 c]) rfl call159 rfl rfl (uZ q i l m) aK
  ·exact aK
theorem gF {a:(List Edge)} {b:(List Bool)} {c:Nat} {R:Bool} (hm:cY a b=some R) (d:aD G K (L) w) (e:bK K a1 c2 a) (g:gE K a4 c [zS a7 b.length c8]) (h:bK K a7 c8 b):
  Calls prog 157 ([zS a1 a.length c2,Value.func (.func 159) #[] #[dC a4 c]]:List Value).toArray w (dV fun v w'=>v=zB R/\aD G K (L) w'):=by
 exact aK
theorem rS {t:aW} {R:(List Bool)} (hm:jD t=some R) (hs:aD G K (L) w) (h3:bK K a1 c2 t.L) (h6:bK K a4 c5 t.E):
  Calls prog 127 ([zA (zCa t a1 c2 a4 c5)]:List Value).toArray w (dV fun v w'=>∃ a2 a3,v=zS a2 R.length a3/\aD G K (aM 4 K a2 a3 R::L) w'):=by
 let c:=(zC t a1 c2 a4 c5)
 refine aO func127 rfl (by kernel_rfl) (by show (1:Nat)<=35;decide) ?_;unfold jD at hm
 refine aI (eQ (v:=zA (zCa t a1 c2 a4 c5)) (vs:=c) hs rfl rfl (fun e w8 c1=>(aH (v:=zS none 0 0) (aG (aI (dI (Kt:=K) (xs:=([true]:List Bool)) (cs:=[zB true]) (vs:=[(0,zB true)]) jG ez_4 rfl rfl c1 rfl (by kernel_rfl) rfl rfl rfl ⟨rfl,trivial⟩ (fun o c3 (a5:aD G K (aM 4 K o 1 ([true]:List Bool)::box e 68 c::L) c3)=>(aF (bM (t':=0) mL rfl rfl) (aF (fF eZ a5 (i:=1) rfl rfl rfl) ?_)))))))));obtain ⟨g6,g7,c4,c6,c7⟩:=aD.lendSp a5 (zR _) .head
 obtain ⟨k,c8,hm⟩:=aB hm
 refine aS (vs:=[zS o ([true]:List Bool).length 1,i64 t.N]) call156 rfl (lZ c8 c6 c4) ?_
 rintro _ g8 ⟨a,b,rfl,c9⟩
 have d0:=c7 _ _ c9
 refine bH (vs:=[zS none 0 0]) zeroValue128 d0 rfl (fun d g9 d1=>(cF (i:=0) (ns:=[zS a k.length b]) (us:=[zS a k.length b]) sizeOf128 d1 rfl rfl rfl rfl rfl (eD rfl) rfl rfl (fun d2 (h0:aD G K (box d 128 [zS a k.length b]::aM 4 K o 1 ([true]:List Bool)::aM 4 K a b k::box e 68 c::L) d2)=>(aG (aJ (aI (aH (v:=zB true) (aG (aQ [3] (fun f w=>∃ p,aBp p=some R/\aD G K (box d 128 [zS a p.length b]::aM 4 K a b p::L) w) aK ?_)))))))))
 obtain ⟨h1,d3,ho⟩:=aB hm
 refine bN [1,3] d3 (fun l a6 f w=>f 4=zB a6/\aD G K (box d 128 [zS a l.length b]::aM 4 K a b l::box e 68 c::L) w) aK ?_
 ·rintro l a6 a7 f h2 hm hr ⟨d4,d5⟩
  unfold jR at hm
  refine aJ (aI (aX d4 (aG ?_)))
  rcases aP hm with ⟨a8,hm⟩|⟨a8,hm⟩
  ·refine aR a8 rfl (aY (aC (aQ [1,3] (fun f w=>∃ m q,uK m q=some a7/\f 4=zB q/\aD G K (box d 128 [zS a m.length b]::aM 4 K a b m::box e 68 c::L) w) ?_ ?_)))
   ·rintro f h4 ⟨m,q,hm,d6,d7⟩
    unfold uK at hm
    exact aC ⟨_,(zI hm).symm,bZ,d6,d7⟩
   refine aI (aH (v:=zB false) (aG (aI (aF (fF sc_128 d5 (i:=0) rfl rfl rfl) (aF (bE (len:=l.length) jG rfl) (aL (v:=i64 0) (aG (aQ [1,3] (fun f w=>∃ r a9,aBq r a9=some a7/\f 4=zB a9/\aD G K (box d 128 [zS a r.length b]::aM 4 K a b r::box e 68 c::L) w) aK ?_))))))));obtain ⟨h5,d8,ho⟩:=aB hm
   refine kO [1,3,13] d8 (fun j u g f w=>f 4=zB u/\f 14=i64 g/\aD G K (box d 128 [zS a j.length b]::aM 4 K a b j::box e 68 c::L) w) aK ?_
   ·rintro j u g b0 f h7 hm hr ⟨h8,x,b1⟩
    unfold fC at hm
    refine aI (aF (cE x rfl) (aG (aJ ?_)))
    rcases aP hm with ⟨b2,hm⟩|⟨b2,hm⟩
    ·refine aR b2 rfl (aY (aC (aJ (aQ [1,3,13,14] (fun f w=>∃ n y,iD g n y=some b0/\f 4=zB y/\aD G K (box d 128 [zS a n.length b]::aM 4 K a b n::box e 68 c::L) w) ?_ ?_))))
     ·rintro f h9 ⟨n,y,hm,d9,e0⟩
      unfold iD at hm
      exact aC (aU (aF (cW x rfl) (aL (v:=i64 (wr (g+1))) (aG ⟨_,(zI hm).symm,bZ,d9,rfl,e0⟩))))
     refine aI (aX x (aH (v:=i64 g) (aG (aI (aF (gH (us:=c) vK b1 (i:=2) rfl rfl rfl rfl) (aL (v:=i64 g) ?_))))));obtain ⟨e1,e2,hm⟩:=aB hm
     refine aS (vs:=[zA (zCa t a1 c2 a4 c5),i64 g]) call158 rfl (aEN e2 b1 h3 h6) ?_
     rintro _ i0 ⟨e3,e4,rfl,e5⟩
     refine aF (nB (vs:=[zP (some ⟨d,0,none⟩)]) rfl) ?_;obtain ⟨i1,e6,e7,e8,e9⟩:=aD.lendSp e5 (zR _) .head
     obtain ⟨i2,f0,f1,f2,f3⟩:=aD.lendSp e8 e6 zt1
     obtain ⟨i3,b3,f4,f5,f6⟩:=aD.lendBp f2 .head
     obtain ⟨f7,f8,hm⟩:=aB hm
     refine aS (vs:=[zS e3 e1.length e4,Value.func (.func 159) #[] #[dC (some ⟨d,0,none⟩) 0]]) call157 rfl (gF f8 f5 (e7.mono (zL f0 b3)) f4 (f1.mono b3)) ?_
     rintro _ i4 ⟨rfl,f9⟩
     have g0:=f6 _ _ f9
     have g1:=f3 _ _ g0
     have i5:=e9 _ _ g1
     refine aH (v:=zB f7) (aG (aJ (bO [1,3,4,5,13,14] (fun f w=>∃ z,fB j u g z=some b0/\f 29=zB z/\aD G K (aM 4 K a b j::box d 128 [zS a j.length b]::box e 68 c::L) w) ?_ ?_)))
     ·rintro f i6 ⟨z,hm,g2,J⟩
      unfold fB at hm
      refine aC ?_
      rcases aP hm with ⟨b4,hm⟩|⟨b4,hm⟩
      ·refine aR b4 g2 (aI (aF (fF sc_128 J (i:=1) rfl rfl rfl) (aL (v:=i64 g) ?_)));obtain ⟨i7,V,hm⟩:=aB hm
       have g3:=dD J (i:=0) rfl V
       refine aF (eE jG rfl g3 rfl rfl rfl V) ?_;obtain ⟨a0,b5,hm⟩:=aB hm
       refine iB (i:=0) (t:=0) (ns:=[zB false]) (e':=(false:Bool)) sizeOf4 J rfl (zR _) rfl rfl rfl V b5 rfl rfl (eD rfl) rfl (fun cs h=>by cases h;rfl) (fun b6 (g4:aD G K (aM 4 K a b a0::box d 128 [zS a j.length b]::box e 68 c::L) b6)=>?_)
       have i8:aD G K (aM 4 K a b a0::box d 128 [zS a a0.length b]::box e 68 c::L) b6:=by rw [←(bW b5)];exact g4
       exact aK
      ·exact aK
     exact aK
    ·exact aK
  ·exact aK
theorem nM {e:Edge} {p:(List Int)} {a:Nat} {R:Bool} (hm:gB e p=some R) (c:aD G K (L) w) (d:gE K a1 a [zS a4 p.length c5]) (g:bK K a4 c5 p):
  Calls prog 125 ([zA #[i64 e.F,i64 e.B,i64 e.To],dC a1 a]:List Value).toArray w (dV fun v w'=>v=zB R/\aD G K (L) w'):=by
 refine aO func125 rfl (by kernel_rfl) (by show (2:Nat)<=20;decide) ?_;unfold gB at hm
 exact aI (eQ (v:=zA #[i64 e.F,i64 e.B,i64 e.To]) (vs:=[i64 e.F,i64 e.B,i64 e.To]) c rfl rfl (fun h i j=>(aH (v:=zB false) (aG (aJ (bO [] (fun f w=>∃ b,gU b=some R/\f 3=zB b/\aD G K (L) w) aK aK))))))
theorem aBB {c d:Int} {a:(List aV)} {b R:(List Edge)} (hm:qC c d a b=some R) (e:aD G K (aM 9 K a2 c3 a::aM 87 K a4 c5 b::box b1 68 [i64 c,i64 d,zS a2 a.length c3,zS a4 b.length c5]::L) w):
  Calls prog 128 ([zP (some ⟨b1,0,none⟩)]:List Value).toArray w (dV fun v w'=>∃ g h,v=Value.tuple #[]/\aD G K (aM 9 K a2 c3 a::aM 87 K g h R::box b1 68 [i64 c,i64 d,zS a2 a.length c3,zS g R.length h]::L) w'):=by
 refine aO func128 rfl (by kernel_rfl) (by show (1:Nat)<=15;decide) ?_;unfold qC at hm
 refine aI (aL (v:=zP (some ⟨b1,0,none⟩)) (aF (R_nilP rfl) (aF (bM (t':=3) eX rfl rfl) (aF (fF lX e (i:=2) rfl rfl rfl) ?_))))
 have k:aD G K (aM 87 K a4 c5 b::aM 9 K a2 c3 a::box b1 68 [i64 c,i64 d,zS a2 a.length c3,zS a4 b.length c5]::L) w:=(aD.arr 2 [1,0] e rfl)
 obtain ⟨j,l,hm⟩:=aB hm
 refine aS (vs:=[zS a4 b.length c5,Value.func (.func 68) #[] #[]]) call119 rfl (lib_SortEdge k l) ?_
 rintro _ m ⟨rfl,n,o⟩
 have p:aD G K (aM 87 K a4 c5 j::aM 9 K a2 c3 a::box b1 68 [i64 c,i64 d,zS a2 a.length c3,zS a4 j.length c5]::L) m:=by rw [←n];exact o
 exact aK
theorem aAf {t:aW} {p c1:(List Int)} {b6:Nat} {R:aW} (hm:rI t p c1=some R) (hs:aD G K (L) w) (h3:bK K a1 c2 t.L) (h6:bK K a4 c5 t.E) (x:bK K a7 c8 p) (g4:gE K a10 b6 [zS a13 c1.length c14]) (g5:bK K a13 c14 c1):
  Calls prog 124 ([zA (zCa t a1 c2 a4 c5),zS a7 p.length c8,Value.func (.func 125) #[] #[dC a10 b6]]:List Value).toArray w (dV fun v w'=>∃ e2 e3 e4 e5,v=zA (zCa R e2 e3 e4 e5)/\aD G K (aM 9 K e2 e3 R.L::aM 87 K e4 e5 R.E::L) w'):=by
 let d:=zG
 let b7:=(zC t a1 c2 a4 c5)
 let d1:=[zS a1 t.L.length c2]
 refine aO func124 rfl (by kernel_rfl) (by show (3:Nat)<=52;decide) ?_;unfold rI at hm
 refine aI (eQ (v:=zA (zCa t a1 c2 a4 c5)) (vs:=b7) hs rfl rfl (fun c3 l9 g6=>(bH (vs:=d) zeroValue68 g6 rfl (fun m m0 g7=>(aG (aJ (bO [1,2,3,6] (fun f w=>∃ o q b r e g,qP t p c1 o q b=some R/\f 7=zP (some ⟨r,0,none⟩)/\aD G K (aM 9 K e g b::box r 68 [i64 o,i64 q,zS e b.length g,zS none 0 0]::box m 68 d::box c3 68 b7::L) w) ?_ ?_)))))))
 ·rintro f m1 ⟨o,q,b,r,e,g,hm,d2,e6⟩
  unfold qP at hm
  refine aC (aJ (aI (aF (bM (t':=3) eX rfl rfl) (aF (fF lX e6 (i:=3) rfl rfl rfl) (aF (bE (len:=t.E.length) cO rfl) (aL (v:=i64 0) (aG (aQ [6,7] (fun f w=>∃ z b8 b9,qO o q b z=some R/\aD G K (aM 87 K b8 b9 z::aM 9 K e g b::box r 68 [i64 o,i64 q,zS e b.length g,zS b8 z.length b9]::box m 68 d::L) w) ?_ ?_))))))))
  ·rintro f g8 ⟨z,b8,b9,hm,g9⟩
   unfold qO at hm
   refine aC (aI ?_)
   have h0:aD G K (aM 9 K e g b::aM 87 K b8 b9 z::box r 68 [i64 o,i64 q,zS e b.length g,zS b8 z.length b9]::box m 68 d::L) g8:=(aD.arr 2 [1,0] g9 rfl)
   obtain ⟨m2,h1,hm⟩:=aB hm
   exact aS (vs:=[zP (some ⟨r,0,none⟩)]) call128 (lst1 d2) (aBB h1 h0) aK
  have m3:=aD.nil (α:=Edge) e6 87 K
  obtain ⟨m4,h2,ho⟩:=aB hm
  refine bN [1,2,6,7,22,23] h2 (fun J c4 f w=>∃ V a0,f 24=i64 c4/\aD G K (aM 87 K V a0 J::aM 9 K e g b::box r 68 [i64 o,i64 q,zS e b.length g,zS V J.length a0]::box m 68 d::L) w) aK ?_
  ·rintro J c4 h4 f m5 hm hr ⟨V,a0,d3,e7⟩
   unfold kF at hm
   refine aI (aF (cE d3 rfl) (aG (aJ ?_)))
   rcases aP hm with ⟨e8,hm⟩|⟨e8,hm⟩
   ·refine aR e8 rfl (aY (aC (aJ (aQ [1,2,6,7,22,23,24] (fun f w=>∃ c6 c7 c9,kE c4 c6=some h4/\aD G K (aM 87 K c7 c9 c6::aM 9 K e g b::box r 68 [i64 o,i64 q,zS e b.length g,zS c7 c6.length c9]::box m 68 d::L) w) ?_ ?_))))
    ·rintro f m6 ⟨c6,c7,c9,hm,h5⟩
     unfold kE at hm
     exact aC (aU (aF (cW d3 rfl) (aL (v:=i64 (wr (c4+1))) (aG ⟨_,(zI hm).symm,bZ,c7,c9,rfl,h5⟩))))
    refine aI ?_;obtain ⟨a,e9,hm⟩:=aB hm
    refine aF (eC cO rfl h6 rfl rfl d3 e9) ?_;obtain ⟨m7,h7,h8⟩:=bK.el (sz:=3) rfl h6 e9
    cases h8
    refine aF (gQ (t:=0) (vs:=[i64 a.F,i64 a.B,i64 a.To]) nU e7 h7 rfl rfl rfl) (bH (vs:=[i64 0,i64 0,i64 0]) zeroValue87 e7 rfl (fun i0 m8 i1=>(cF (i:=0) (ns:=[i64 a.F,i64 a.B,i64 a.To]) (us:=[i64 a.F,i64 a.B,i64 a.To]) sizeOf87 i1 rfl rfl rfl rfl rfl (eD rfl) rfl rfl (fun i2 (f0:aD G K (box i0 87 [i64 a.F,i64 a.B,i64 a.To]::aM 87 K V a0 J::aM 9 K e g b::box r 68 [i64 o,i64 q,zS e b.length g,zS V J.length a0]::box m 68 d::L) i2)=>(aG (aI (aL (v:=Value.func (.func 125) #[] #[dC a10 b6]) (aF (gH (us:=[i64 a.F,i64 a.B,i64 a.To]) nU f0 (i:=0) rfl rfl rfl rfl) ?_))))))))
    obtain ⟨m9,i3,hm⟩:=aB hm
    refine lG (vs:=[zA #[i64 a.F,i64 a.B,i64 a.To]]) (caps:=[dC a10 b6]) (us:=[zA #[i64 a.F,i64 a.B,i64 a.To],dC a10 b6]) rfl call125 rfl rfl (nM i3 f0 g4 g5) ?_
    rintro _ n0 ⟨rfl,i4⟩
    refine aG ?_
    rcases aP hm with ⟨f1,hm⟩|⟨f1,hm⟩
    ·refine aR f1 rfl ?_;obtain ⟨n1,a2,d4,i5,n2⟩:=aD.lendBp i4 .head
     obtain ⟨d5,u,i6,f2,i7⟩:=aD.lendBp i5 zt2
     refine fO (C:=fun w'=>∃ L',aD G d5 L' w') [(0,0),(1,0),(2,0),(3,0),(4,0),(5,0),(6,0),(7,0),(8,0),(9,0),(10,0),(11,0),(12,0),(13,0),(14,0),(15,1),(16,1),(17,0),(18,2)] Tryz_mixed (by kernel_rfl) (fun _ hg=>⟨_,aD.mono f2 hg⟩) (fun n3 i8=>?_)
     have l:=aD.mono f2 i8
     refine bS rfl (fun _ _=>bM (t':=3) eX d2 rfl) (bS rfl (fun _ ⟨_,l⟩=>bX (t:=3) lX l i6 rfl rfl) (bS rfl (fun _ _=>bL (v:=zS a7 p.length c8) rfl) (bS rfl (fun _ _=>bM (t':=0) qK rfl rfl) (bS rfl (fun _ ⟨_,l⟩=>bX (t:=0) eZ l (d4.mono u) rfl rfl) ?_))));obtain ⟨a3,f3,hm⟩:=aB hm
     refine bS rfl (fun _ _=>eC bC rfl (x.mono (zL a2 u)) rfl rfl rfl f3) ?_;obtain ⟨n4,i9,j0⟩:=bK.el (sz:=1) rfl x f3
     cases j0
     refine bS rfl (fun _ ⟨_,l⟩=>bX (t:=0) eZ l (i9.mono (zL a2 u)) rfl rfl) (bS rfl (fun _ _=>bM (t':=1) aAo rfl rfl) (bS rfl (fun _ ⟨_,l⟩=>bX (t:=1) eZ l (d4.mono u) rfl rfl) (bS rfl (fun _ _=>bL (v:=zS a7 p.length c8) rfl) (bS rfl (fun _ _=>bM (t':=2) qL rfl rfl) (bS rfl (fun _ ⟨_,l⟩=>bX (t:=2) eZ l (d4.mono u) rfl rfl) ?_)))));obtain ⟨a5,f4,hm⟩:=aB hm
     refine bS rfl (fun _ _=>eC bC rfl (x.mono (zL a2 u)) rfl rfl rfl f4) ?_;obtain ⟨n5,j1,j2⟩:=bK.el (sz:=1) rfl x f4
     cases j2
     refine bS rfl (fun _ ⟨_,l⟩=>bX (t:=0) eZ l (j1.mono (zL a2 u)) rfl rfl) (bS rfl (fun _ _=>kT (vs:=[(0,i64 a3),(1,i64 a.B),(2,i64 a5)]) (cs:=[i64 a3,i64 a.B,i64 a5]) bs_87 rfl (by kernel_rfl)) (qX rfl (dI (Kt:=K) (xs:=([⟨a3,a.B,a5⟩]:List Edge)) (cs:=[i64 a3,i64 a.B,i64 a5]) (vs:=[(0,zA #[i64 a3,i64 a.B,i64 a5])]) cO aAb rfl rfl l rfl (by kernel_rfl) rfl rfl rfl ⟨rfl,trivial⟩ (fun j3 j4 (f5:aD G d5 (aM 87 K j3 1 ([⟨a3,a.B,a5⟩]:List Edge)::aM 87 K V a0 J::aM 9 K e g b::box m 68 d::L) j4)=>(bG (aC ⟨⟨_,f5⟩,?_⟩))))))
     refine qX rfl ?_;obtain ⟨j5,j6,hm⟩:=aB hm
     refine tR (i:=0) cO underlying66 aAb rfl rfl f5 rfl (zL a2 u) (zL a2 u) j6 rfl rfl rfl rfl (fun _ h=>h) (fun j7 j8 j9 (f6:aD G d5 (aM 87 K j7 j8 j5::aM 9 K e g b::box m 68 d::L) j9)=>(bG (aC ⟨⟨_,f6⟩,?_⟩)))
     refine bS rfl (fun _ _=>bM (t':=3) eX d2 rfl) ?_
     have n6:=i7 _ _ f6
     exact aK
    ·exact aK
   ·exact aK
 obtain ⟨k0,y,f7,k1,d6⟩:=aD.lendBp g7 zt1
 refine aGV (C:=fun w'=>∃ L',aD G k0 L' w') [12] Tryz_mixed (by kernel_rfl) (fun n7 k2=>?_)
 have c:=aD.mono k1 k2
 refine aAR (i:=0) rfl (by kernel_rfl) ⟨_,c⟩ (fun _ _=>bL (v:=zS a7 p.length c8) rfl) (aAR (i:=2) rfl (by kernel_rfl) ⟨_,c⟩ (fun _ _=>bL (v:=zS a7 p.length c8) rfl) (aAR (i:=3) rfl (by kernel_rfl) ⟨_,c⟩ (fun _ _=>bM (t':=1) aBV rfl rfl) (aAR (i:=4) rfl (by kernel_rfl) ⟨_,c⟩ (fun _ ⟨_,c⟩=>bX (t:=1) eZ c f7 rfl rfl) ?_)));obtain ⟨k,f8,hm⟩:=aB hm
 refine aAR (i:=5) rfl (by kernel_rfl) ⟨_,c⟩ (fun _ _=>eC bC rfl (x.mono y) rfl rfl rfl f8) ?_;obtain ⟨n8,k3,k4⟩:=bK.el (sz:=1) rfl x f8
 cases k4
 refine aAR (i:=6) rfl (by kernel_rfl) ⟨_,c⟩ (fun _ ⟨_,c⟩=>bX (t:=0) eZ c (k3.mono y) rfl rfl) (aAR (i:=7) rfl (by kernel_rfl) ⟨_,c⟩ (fun _ _=>bM (t':=2) aAp rfl rfl) (aAR (i:=8) rfl (by kernel_rfl) ⟨_,c⟩ (fun _ ⟨_,c⟩=>bX (t:=2) aBU c f7 rfl rfl) (aET (i:=1) (j:=11) (by kernel_rfl) rfl rfl ?_ ?_)))
 ·obtain ⟨n,k5,hm⟩:=aB hm
  refine aS (vs:=[zS a7 p.length c8]) call153 rfl (wT k5 c (x.mono y)) ?_
  rintro _ n9 ⟨rfl,d7⟩
  refine bG (aC ⟨fun _=>⟨_,d7⟩,?_⟩)
  refine aET (i:=9) (j:=11) (by kernel_rfl) rfl rfl ?_ ?_
  ·obtain ⟨a6,k6,hm⟩:=aB hm
   refine aS (vs:=d1) call91 rfl (bU k6 d7 (h3.mono y)) ?_
   rintro _ o0 ⟨a8,a9,rfl,d8⟩
   refine bG (aC ⟨fun _=>⟨_,d8⟩,?_⟩)
   refine aAR (i:=10) rfl (by kernel_rfl) ⟨_,d8⟩ (fun _ _=>kT (vs:=[(0,i64 n),(1,i64 k),(2,zS a8 a6.length a9)]) (cs:=[i64 n,i64 k,zS a8 a6.length a9,zS none 0 0]) aFq rfl (by kernel_rfl)) (jV (i:=11) (by kernel_rfl) rfl (bH (vs:=d) zeroValue68 d8 rfl (fun k7 o1 f9=>(bG (aC ⟨fun _=>⟨_,f9⟩,?_⟩)))))
   refine jV (i:=12) (by kernel_rfl) rfl ?_
   have k8:=d6 _ _ f9
   refine cF (i:=1) (ns:=[i64 n,i64 k,zS a8 a6.length a9,zS none 0 0]) (us:=[i64 n,i64 k,zS a8 a6.length a9,zS none 0 0]) sizeOf68 k8 rfl rfl rfl rfl rfl (eD rfl) rfl rfl (fun k9 (o2:aD G K (box c3 68 b7::box k7 68 [i64 n,i64 k,zS a8 a6.length a9,zS none 0 0]::aM 9 K a8 a9 a6::box m 68 d::L) k9)=>(bG (aC ⟨no_c rfl,?_⟩)))
   exact aAn (by kernel_rfl) aK
  ·refine bH (vs:=d) zeroValue68 d7 rfl (fun l0 o3 g0=>(bG (aC ⟨fun _=>⟨_,g0⟩,?_⟩)))
   refine jV (i:=9) (by kernel_rfl) rfl ?_;obtain ⟨b0,l1,hm⟩:=aB hm
   refine aS (vs:=d1) call91 rfl (bU l1 g0 (h3.mono y)) ?_
   rintro _ o4 ⟨b1,b2,rfl,d9⟩
   refine bG (aC ⟨fun _=>⟨_,d9⟩,?_⟩)
   refine aAR (i:=10) rfl (by kernel_rfl) ⟨_,d9⟩ (fun _ _=>kT (vs:=[(0,i64 n),(1,i64 k),(2,zS b1 b0.length b2)]) (cs:=[i64 n,i64 k,zS b1 b0.length b2,zS none 0 0]) aFq rfl (by kernel_rfl)) (jV (i:=12) (by kernel_rfl) rfl ?_)
   have l2:=d6 _ _ d9
   refine cF (i:=2) (ns:=[i64 n,i64 k,zS b1 b0.length b2,zS none 0 0]) (us:=[i64 n,i64 k,zS b1 b0.length b2,zS none 0 0]) sizeOf68 l2 rfl rfl rfl rfl rfl (eD rfl) rfl rfl (fun l3 (o5:aD G K (box c3 68 b7::aM 9 K b1 b2 b0::box l0 68 [i64 n,i64 k,zS b1 b0.length b2,zS none 0 0]::box m 68 d::L) l3)=>(bG (aC ⟨no_c rfl,?_⟩)))
   exact aAn (by kernel_rfl) aK
 ·refine bH (vs:=d) zeroValue68 c rfl (fun l4 o6 g1=>(bG (aC ⟨fun _=>⟨_,g1⟩,?_⟩)))
  refine jV (i:=1) (by kernel_rfl) rfl ?_;obtain ⟨c0,l5,hm⟩:=aB hm
  refine aS (vs:=[zS a7 p.length c8]) call153 rfl (wT l5 g1 (x.mono y)) ?_
  rintro _ o7 ⟨rfl,g2⟩
  refine bG (aC ⟨fun _=>⟨_,g2⟩,?_⟩)
  refine jV (i:=9) (by kernel_rfl) rfl ?_;obtain ⟨b3,l6,hm⟩:=aB hm
  refine aS (vs:=d1) call91 rfl (bU l6 g2 (h3.mono y)) ?_
  rintro _ o8 ⟨b4,b5,rfl,e0⟩
  refine bG (aC ⟨fun _=>⟨_,e0⟩,?_⟩)
  refine aAR (i:=10) rfl (by kernel_rfl) ⟨_,e0⟩ (fun _ _=>kT (vs:=[(0,i64 c0),(1,i64 k),(2,zS b4 b3.length b5)]) (cs:=[i64 c0,i64 k,zS b4 b3.length b5,zS none 0 0]) aFq rfl (by kernel_rfl)) (jV (i:=12) (by kernel_rfl) rfl ?_)
  have l7:=d6 _ _ e0
  refine cF (i:=2) (ns:=[i64 c0,i64 k,zS b4 b3.length b5,zS none 0 0]) (us:=[i64 c0,i64 k,zS b4 b3.length b5,zS none 0 0]) sizeOf68 l7 rfl rfl rfl rfl rfl (eD rfl) rfl rfl (fun l8 (o9:aD G K (box c3 68 b7::aM 9 K b4 b5 b3::box l4 68 [i64 c0,i64 k,zS b4 b3.length b5,zS none 0 0]::box m 68 d::L) l8)=>(bG (aC ⟨no_c rfl,?_⟩)))
  exact aAn (by kernel_rfl) aK
end Gv
