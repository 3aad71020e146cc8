/- Walks, printed by program. -/
import Derived.Test.YtigicpgpkmjdpaaGreatDoorJWk3
set_option linter.all false
namespace Gv
open Go.Value renaming slice→zS,bool→zB,pointer→zP,agg→zA
open Option.some renaming inj→zI
open Gv.Hp renaming le_trans→zL,le_refl→zR
open Go Go.Proofs Go.Proofs.Tryz
set_option maxRecDepth 20000
set_option maxHeartbeats 40000000
variable {G:zZ} {K Kf:Hp} {L:List jM} {w:World} {a1 a4 a7 a10 a13:Option Addr} {c2 c5 c8 c11 c14:Nat}
theorem aFo {a b:cF} {R:Int} (hm:nG a b=some R) (l:aF G K (L) w):
  Calls prog 78 ([zA #[str a.Left,str a.Right,str a.Result],zA #[str b.Left,str b.Right,str b.Result]]:List Value).toArray w (eZ fun v w'=>v=i64 R/\aF G K (L) w'):=by
 let c:=[str a.Left,str a.Right,str a.Result]
 let d:=[str b.Left,str b.Right,str b.Result]
 refine aO func78 rfl (by kernel_rfl) (by show (2:Nat)<=16;decide) ?_;unfold nG at hm
 refine aK (dJ (v:=zA #[str a.Left,str a.Right,str a.Result]) (vs:=c) l rfl rfl (fun h r m=>(dJ (v:=zA #[str b.Left,str b.Right,str b.Result]) (vs:=d) m rfl rfl (fun j t e=>(aJ (v:=i64 0) (aH (aK (aD (aV (t':=0) aKd rfl rfl) (aD (cJ aAq e (i:=1) rfl rfl rfl) (aD (aV (t':=1) aKe rfl rfl) (aD (cJ aAq e (i:=1) rfl rfl rfl) (cK (Kt:=K) (xs:=([a.Left,a.Right]:List aI)) (cs:=[str a.Left,str a.Right]) (vs:=[(0,str a.Left),(1,str a.Right)]) eG aDQ rfl rfl e rfl (by kernel_rfl) rfl rfl rfl ⟨rfl,rfl,trivial⟩ (fun k n (g:aF G K (aL 9 K k 2 ([a.Left,a.Right]:List aI)::box j 67 d::box h 67 c::L) n)=>(aD (aV (t':=0) aKd rfl rfl) (aD (cJ aAq g (i:=1) rfl rfl rfl) (aD (aV (t':=1) aKe rfl rfl) (aD (cJ aAq g (i:=1) rfl rfl rfl) (cK (Kt:=K) (xs:=([b.Left,b.Right]:List aI)) (cs:=[str b.Left,str b.Right]) (vs:=[(0,str b.Left),(1,str b.Right)]) eG aDQ rfl rfl g rfl (by kernel_rfl) rfl rfl rfl ⟨rfl,rfl,trivial⟩ (fun o p (q:aF G K (aL 9 K o 2 ([b.Left,b.Right]:List aI)::aL 9 K k 2 ([a.Left,a.Right]:List aI)::box j 67 d::box h 67 c::L) p)=>?_)))))))))))))))))))
 obtain ⟨u,x,y,z,J⟩:=aF.lendSp q (zR _) zt1
 exact aP
theorem aBY {o p:cF} {a:Nat} {R:Bool} (hm:yP o p=some R) (c:aF G K (L) w) (d:fV K a1 a [str p.Left,str p.Right,str p.Result]):
  Calls prog 80 ([zA #[str o.Left,str o.Right,str o.Result],cR a1 a]:List Value).toArray w (eZ fun v w'=>v=zB R/\aF G K (L) w'):=by
 refine aO func80 rfl (by kernel_rfl) (by show (2:Nat)<=16;decide) ?_;unfold yP at hm
 exact aK (dJ (v:=zA #[str o.Left,str o.Right,str o.Result]) (vs:=[str o.Left,str o.Right,str o.Result]) c rfl rfl (fun e g h=>(aJ (v:=zB false) (aH (aM (cH [] (fun f w=>∃ b,tD b=some R/\f 3=zB b/\aF G K (L) w) aP aP))))))
theorem oI {s_:(List cF)} {c:cF} {b:Nat} {R:Int} (hm:dM s_ c=some R) (p:aF G K (L) w) (e:bG K a1 c2 s_) (k:fV K a4 b [str c.Left,str c.Right,str c.Result]):
  Calls prog 114 ([zS a1 s_.length c2,Value.func (.func 80) #[] #[cR a4 b]]:List Value).toArray w (eZ fun v w'=>v=i64 R/\aF G K (L) w'):=by
 refine aO func114 rfl (by kernel_rfl) (by show (2:Nat)<=19;decide) ?_;unfold dM at hm
 refine aK (aJ (v:=i64 0) (aH (aM (aK (aG (v:=zS a1 s_.length c2) (aD (bH (len:=s_.length) aGc rfl) (aG (v:=i64 0) (aH (aQ [] (fun f w=>jI=some R/\aF G K (L) w) aP ?_)))))))));obtain ⟨q,l,ho⟩:=aB hm
 refine fK [0,1,7] l (fun d f w=>f 8=i64 d/\aF G K (L) w) aP ?_
 ·rintro d r f u hm hr ⟨g,h⟩
  unfold cL at hm
  refine aK (aD (cU g rfl) (aH (aM ?_)))
  rcases aN hm with ⟨i,hm⟩|⟨i,hm⟩
  ·refine aS i rfl (aY (aC (aM (cV (aK (bC g (aJ (v:=i64 d) (aH (aK (aG (v:=Value.func (.func 80) #[] #[cR a4 b]) (aG (v:=zS a1 s_.length c2) (aG (v:=i64 d) ?_))))))))))));obtain ⟨a,j,hm⟩:=aB hm
   refine aD (dP aGc rfl e rfl rfl rfl j) ?_;obtain ⟨x,m,n⟩:=bG.el (sz:=3) rfl e j
   cases n
   refine aD (fP (t:=0) (vs:=[str a.Left,str a.Right,str a.Result]) ag_67 h m rfl rfl rfl) ?_;obtain ⟨y,o,hm⟩:=aB hm
   exact iS (vs:=[zA #[str a.Left,str a.Right,str a.Result]]) (caps:=[cR a4 b]) (us:=[zA #[str a.Left,str a.Right,str a.Result],cR a4 b]) rfl call80 rfl rfl (aBY o h k) aP
  ·exact aP
theorem iD {s_:(List cF)} {a:cF} {b:Nat} {R:Bool} (hm:dD s_ a=some R) (c:aF G K (L) w) (d:bG K a1 c2 s_) (e:fV K a4 b [str a.Left,str a.Right,str a.Result]):
  Calls prog 79 ([zS a1 s_.length c2,Value.func (.func 80) #[] #[cR a4 b]]:List Value).toArray w (eZ fun v w'=>v=zB R/\aF G K (L) w'):=by
 exact aP
theorem aID {b:(List cF)} {R:Bool} (hm:tE b=some R) (hs:aF G K (L) w) (e:bG K a1 c2 b):
  Calls prog 40 ([zS a1 b.length c2]:List Value).toArray w (eZ fun v w'=>v=zB R/\aF G K (L) w'):=by
 refine aO func40 rfl (by kernel_rfl) (by show (1:Nat)<=56;decide) ?_;unfold tE at hm
 refine aK (aJ (v:=zB false) (aH (aM (aK (aG (v:=zS a1 b.length c2) (aD (bH (len:=b.length) aGc rfl) (aG (v:=i64 0) (aH (aQ [0] (fun f w=>aCl b=some R/\aF G K (L) w) aP ?_)))))))));obtain ⟨a3,n,ho⟩:=aB hm
 refine fK [0,5,6] n (fun c f w=>f 7=i64 c/\aF G K (L) w) aP ?_
 ·rintro c o f a4 hm hr ⟨g,j⟩
  unfold lQ at hm
  refine aK (aD (cU g rfl) (aH (aM ?_)))
  rcases aN hm with ⟨k,hm⟩|⟨k,hm⟩
  ·refine aS k rfl (aY (aC (aM (cV (aK (bC g ?_))))));obtain ⟨a,l,hm⟩:=aB hm
   refine aD (dP aGc rfl e rfl rfl g l) ?_;obtain ⟨a5,p,q⟩:=bG.el (sz:=3) rfl e l
   cases q
   refine aD (fP (t:=0) (vs:=[str a.Left,str a.Right,str a.Result]) ag_67 j p rfl rfl rfl) (aZ (vs:=[str ([]:aI),str ([]:aI),str ([]:aI)]) zeroValue67 j rfl (fun d a6 r=>(aJ (v:=i64 c) (bS (i:=0) (ns:=[str a.Left,str a.Right,str a.Result]) (us:=[str a.Left,str a.Right,str a.Result]) sizeOf67 r rfl rfl rfl rfl rfl (dQ rfl) rfl rfl (fun u (a7:aF G K (box d 67 [str a.Left,str a.Right,str a.Result]::L) u)=>(aH (aM (aM (cH [0,4,5,6,7] (fun f w=>∃ h,jL b c a h=some o/\f 48=zB h/\aF G K (box d 67 [str a.Left,str a.Right,str a.Result]::L) w) ?_ ?_)))))))))
   ·rintro f a8 ⟨h,hm,x,y⟩
    unfold jL at hm
    refine aC ?_
    rcases aN hm with ⟨m,hm⟩|⟨m,hm⟩
    ·exact aP
    ·refine bE m x (aY (aC (aK (aG (v:=zS a1 b.length c2) (aD (jZ (vs:=[zP (some ⟨d,0,none⟩)]) rfl) ?_)))));obtain ⟨a9,z,J,V,b0⟩:=aF.lendBp y .head
     obtain ⟨b1,a0,hm⟩:=aB hm
     exact aR (vs:=[zS a1 b.length c2,Value.func (.func 80) #[] #[cR (some ⟨d,0,none⟩) 0]]) call79 rfl (iD a0 V (e.mono z) J) aP
   exact aP
  ·exact aP
theorem aKO {a:(List aI)} {R:Bool} (hm:xB a=some R) (o:aF G K (L) w) (d:bG K a1 c2 a):
  Calls prog 41 ([zS a1 a.length c2]:List Value).toArray w (eZ fun v w'=>v=zB R/\aF G K (L) w'):=by
 refine aO func41 rfl (by kernel_rfl) (by show (1:Nat)<=32;decide) ?_;unfold xB at hm
 refine aK (aJ (v:=zB false) (aH (aM (aK (aG (v:=zS a1 a.length c2) (aD (bH (len:=a.length) eG rfl) (aG (v:=i64 0) (aH (aQ [0] (fun f w=>aFj a=some R/\aF G K (L) w) aP ?_)))))))));obtain ⟨p,i,ho⟩:=aB hm
 refine fK [0,5,6] i (fun b f w=>f 7=i64 b/\aF G K (L) w) aP ?_
 ·rintro b j f q hm hr ⟨c,k⟩
  unfold aAI at hm
  refine aK (aD (cU c rfl) (aH (aM ?_)))
  rcases aN hm with ⟨e,hm⟩|⟨e,hm⟩
  ·refine aS e rfl (aY (aC (aM (cV (aK (bC c ?_))))));obtain ⟨l,g,hm⟩:=aB hm
   refine aD (dP eG rfl d rfl rfl c g) ?_;obtain ⟨r,m,n⟩:=bG.el (sz:=1) rfl d g
   cases n
   exact aD (bD (t:=0) aAq k m rfl rfl) (aJ (v:=i64 b) (aJ (v:=str l) (aH (aM (cH [0,5,6,7] (fun f w=>∃ h,aAH b h=some j/\f 27=zB h/\aF G K (L) w) aP aP)))))
  ·exact aP
theorem sH {s_:(List bB)} {R:Int} (hm:fO s_=some R) (x:aF G K (L) w) (m:G.lo=0) (h:bG K a1 c2 s_):
  Calls prog 72 ([zS a1 s_.length c2,Value.func (.func 38) #[] #[]]:List Value).toArray w (eZ fun v w'=>v=i64 R/\aF G K (L) w'):=by
 refine aO func72 rfl (by kernel_rfl) (by show (2:Nat)<=19;decide) ?_;unfold fO at hm
 refine aK (aJ (v:=i64 0) (aH (aM (aK (aG (v:=zS a1 s_.length c2) (aD (bH (len:=s_.length) rI rfl) (aG (v:=i64 0) (aH (aQ [] (fun f w=>gU=some R/\aF G K (L) w) aP ?_)))))))));obtain ⟨y,n,ho⟩:=aB hm
 refine fK [0,1,7] n (fun b f w=>f 8=i64 b/\aF G K (L) w) aP ?_
 ·rintro b z f J hm hr ⟨i,j⟩
  unfold bP at hm
  refine aK (aD (cU i rfl) (aH (aM ?_)))
  rcases aN hm with ⟨k,hm⟩|⟨k,hm⟩
  ·refine aS k rfl (aY (aC (aM (cV (aK (bC i (aJ (v:=i64 b) (aH (aK (aG (v:=Value.func (.func 38) #[] #[]) (aG (v:=zS a1 s_.length c2) (aG (v:=i64 b) ?_))))))))))));obtain ⟨a,l,hm⟩:=aB hm
   refine aD (dP rI rfl h rfl rfl rfl l) ?_;obtain ⟨V,o,p⟩:=bG.el (sz:=4) rfl h l
   obtain ⟨c,d,e,g,rfl,q,r⟩:=p
   refine aD (fP (t:=0) (vs:=(zC a c d e g)) kJ j o rfl rfl rfl) ?_;obtain ⟨a0,u,hm⟩:=aB hm
   exact iS (vs:=[zA (zCa a c d e g)]) (caps:=[]) (us:=[zA (zCa a c d e g)]) rfl call38 rfl rfl (aAR u j m q r) aP
  ·exact aP
theorem qW {s_:(List bB)} {R:Bool} (hm:eR s_=some R) (a:aF G K (L) w) (b:G.lo=0) (c:bG K a1 c2 s_):
  Calls prog 37 ([zS a1 s_.length c2,Value.func (.func 38) #[] #[]]:List Value).toArray w (eZ fun v w'=>v=zB R/\aF G K (L) w'):=by
 exact aP
theorem aCz {n:aX} {R:Bool} (hm:oX n=some R) (e:aF G K (L) w) (i:G.lo=0) (j:bG K a1 c2 n.Parts) (k:bG K a4 c5 n.Meetings) (l:bG K a7 c8 n.Allowed) (m:bG K a10 c11 n.Hidden):
  Calls prog 19 ([zA #[zS a1 n.Parts.length c2,zS a4 n.Meetings.length c5,zS a7 n.Allowed.length c8,zS a10 n.Hidden.length c11]]:List Value).toArray w (eZ fun v w'=>v=zB R/\aF G K (L) w'):=by
 let b:=[zS a1 n.Parts.length c2,zS a4 n.Meetings.length c5,zS a7 n.Allowed.length c8,zS a10 n.Hidden.length c11]
 refine aO func19 rfl (by kernel_rfl) (by show (1:Nat)<=26;decide) ?_;unfold oX at hm
 refine aK (dJ (v:=zA #[zS a1 n.Parts.length c2,zS a4 n.Meetings.length c5,zS a7 n.Allowed.length c8,zS a10 n.Hidden.length c11]) (vs:=b) e rfl rfl (fun g o p=>(aJ (v:=zB false) (aH (aM (aM (cH [1] (fun f w=>∃ a,qP n a=some R/\f 12=zB a/\aF G K (box g 28 b::L) w) ?_ ?_)))))))
 ·rintro f q ⟨a,hm,h,r⟩
  unfold qP at hm
  refine aC ?_
  rcases aN hm with ⟨c,hm⟩|⟨c,hm⟩
  ·exact aP
  ·exact bE c h (aY (aC (aM (cH [] (fun f w=>∃ d,qO d=some R/\f 2=zB d/\aF G K (L) w) aP aP))))
 exact aP
theorem aHL {kind:Int} {R:Bool} (hm:aEu kind=some R) (a:aF G K (L) w):
  Calls prog 20 ([i64 kind]:List Value).toArray w (eZ fun v w'=>v=zB R/\aF G K (L) w'):=by
 exact aP
theorem jW {s_ R:(List cF)} (hm:eD s_=some R) (h:aF G K (L) w) (c:bG K a1 c2 s_):
  Calls prog 115 ([zS a1 s_.length c2]:List Value).toArray w (eZ fun v w'=>∃ d e,v=zS d R.length e/\aF G K (aL 67 K d e R::L) w'):=by
 refine aO func115 rfl (by kernel_rfl) (by show (1:Nat)<=8;decide) ?_;unfold eD at hm
 refine aK (aJ (v:=zS none 0 0) (aH (aM (aK (aG (v:=zS a1 s_.length c2) (aD (aIr aGc rfl rfl) (aH ?_)))))))
 rcases aGO c with ⟨j,k,l⟩|m
 ·subst j;subst k;subst l
  refine aIa rfl ?_
  replace hm:(some [])=some R:=hm
  exact aP
 ·refine aIb (Eq.trans rfl (congrArg zB m)) (aY (aC (aK (cK (Kt:=K) (xs:=([]:List cF)) (cs:=[]) (vs:=[]) aGc ez_67 rfl rfl h rfl (by kernel_rfl) rfl rfl rfl trivial (fun n o (p:aF G K (aL 67 K n 0 ([]:List cF)::L) o)=>(aG (v:=zS a1 s_.length c2) ?_))))));obtain ⟨g,q,hm⟩:=aB hm
  refine aFd (i:=0) aGc underlying25 ez_67 rfl rfl p rfl (zR _) c q rfl rfl rfl rfl (fun a b r (t:aF G K (aL 67 K a b g::L) r)=>(aJ (v:=zS a g.length b) (aH ?_)));obtain rfl:=zI hm
  exact fU (eE results115 rfl ⟨a,b,rfl,t⟩)
theorem bT {s_ R:(List aI)} (hm:bZ s_=some R) (h:aF G K (L) w) (c:bG K a1 c2 s_):
  Calls prog 99 ([zS a1 s_.length c2]:List Value).toArray w (eZ fun v w'=>∃ d e,v=zS d R.length e/\aF G K (aL 9 K d e R::L) w'):=by
 refine aO func99 rfl (by kernel_rfl) (by show (1:Nat)<=8;decide) ?_;unfold bZ at hm
 refine aK (aJ (v:=zS none 0 0) (aH (aM (aK (aG (v:=zS a1 s_.length c2) (aD (aIr eG rfl rfl) (aH ?_)))))))
 rcases aGO c with ⟨j,k,l⟩|m
 ·subst j;subst k;subst l
  refine aIa rfl ?_
  replace hm:(some [])=some R:=hm
  exact aP
 ·refine aIb (Eq.trans rfl (congrArg zB m)) (aY (aC (aK (cK (Kt:=K) (xs:=([]:List aI)) (cs:=[]) (vs:=[]) eG aDQ rfl rfl h rfl (by kernel_rfl) rfl rfl rfl trivial (fun n o (p:aF G K (aL 9 K n 0 ([]:List aI)::L) o)=>(aG (v:=zS a1 s_.length c2) ?_))))));obtain ⟨g,q,hm⟩:=aB hm
  refine aFd (i:=0) eG underlying26 aDQ rfl rfl p rfl (zR _) c q rfl rfl rfl rfl (fun a b r (t:aF G K (aL 9 K a b g::L) r)=>(aJ (v:=zS a g.length b) (aH ?_)));obtain rfl:=zI hm
  exact fU (eE results99 rfl ⟨a,b,rfl,t⟩)
theorem aCA {n:aX} {a:(List bB)} {R:aX} (hm:aAJ n a=some R) (hs:aF G K (L) w) (h3:bG K a1 c2 n.Parts) (h6:bG K a4 c5 n.Meetings) (h9:bG K a7 c8 n.Allowed) (c3:bG K a10 c11 n.Hidden) (c4:bG K a13 c14 a):
  Calls prog 81 ([zA #[zS a1 n.Parts.length c2,zS a4 n.Meetings.length c5,zS a7 n.Allowed.length c8,zS a10 n.Hidden.length c11],zS a13 a.length c14]:List Value).toArray w (eZ fun v w'=>∃ o a5 a6 a8 a9 b0 b1 b2 b3,v=zA #[zS a5 R.Parts.length a6,zS a8 R.Meetings.length a9,zS b0 R.Allowed.length b1,zS b2 R.Hidden.length b3]/\Hp.le K o/\bG o a5 a6 R.Parts/\bG o a8 a9 R.Meetings/\bG o b0 b1 R.Allowed/\bG o b2 b3 R.Hidden/\aF G o (L) w'):=by
 let p:=[zS a1 n.Parts.length c2,zS a4 n.Meetings.length c5,zS a7 n.Allowed.length c8,zS a10 n.Hidden.length c11]
 refine aO func81 rfl (by kernel_rfl) (by show (2:Nat)<=16;decide) ?_;unfold aAJ at hm
 refine aK (dJ (v:=zA #[zS a1 n.Parts.length c2,zS a4 n.Meetings.length c5,zS a7 n.Allowed.length c8,zS a10 n.Hidden.length c11]) (vs:=p) hs rfl rfl (fun q e4 c6=>(aZ (vs:=[zS none 0 0,zS none 0 0,zS none 0 0,zS none 0 0]) zeroValue28 c6 rfl (fun r e5 c7=>(aH (aM ?_))))));obtain ⟨c9,V,a0,b4,d0⟩:=aF.lendBp c7 zt1
 refine cW (C:=fun w'=>∃ L',aF G c9 L' w') [(0,0),(1,0),(2,0),(4,0),(5,0),(7,0),(8,0),(3,1),(6,1),(9,1),(10,0),(11,2)] Tryz_mixed (by kernel_rfl) (fun _ hg=>⟨_,aF.mono b4 hg⟩) (fun e6 d1=>?_)
 have m:=aF.mono b4 d1
 refine bA rfl (fun _ _=>aW (v:=zS a13 a.length c14) rfl) (bA rfl (fun _ _=>aV (t':=1) aIs rfl rfl) (bA rfl (fun _ ⟨_,m⟩=>bD (t:=1) aMf m a0 rfl rfl) (bA rfl (fun _ _=>aV (t':=2) aMY rfl rfl) (bA rfl (fun _ ⟨_,m⟩=>bD (t:=2) xV m a0 rfl rfl) (bA rfl (fun _ _=>aV (t':=3) aMZ rfl rfl) (bA rfl (fun _ ⟨_,m⟩=>bD (t:=3) xV m a0 rfl rfl) (jN rfl ?_)))))));obtain ⟨l,d2,hm⟩:=aB hm
 refine aR (vs:=[zS a4 n.Meetings.length c5]) call115 rfl (jW d2 m (h6.mono V)) ?_
 rintro _ e7 ⟨h,j,rfl,b5⟩
 refine aT (aC ⟨⟨_,b5⟩,?_⟩)
 refine jN rfl ?_;obtain ⟨k,d3,hm⟩:=aB hm
 refine aR (vs:=[zS a7 n.Allowed.length c8]) call99 rfl (bT d3 b5 (h9.mono V)) ?_
 rintro _ e8 ⟨d,e,rfl,b6⟩
 refine aT (aC ⟨⟨_,b6⟩,?_⟩)
 refine jN rfl ?_;obtain ⟨g,d4,hm⟩:=aB hm
 refine aR (vs:=[zS a10 n.Hidden.length c11]) call99 rfl (bT d4 b6 (c3.mono V)) ?_
 rintro _ e9 ⟨b,c,rfl,b7⟩
 refine aT (aC ⟨⟨_,b7⟩,?_⟩)
 refine bA rfl (fun _ _=>iR (vs:=[(0,zS a13 a.length c14),(1,zS h l.length j),(2,zS d k.length e),(3,zS b g.length c)]) (cs:=[zS a13 a.length c14,zS h l.length j,zS d k.length e,zS b g.length c]) bs_28 rfl (by kernel_rfl)) ?_
 have d5:=d0 _ _ b7
 refine WE_s rfl (bS (i:=4) (ns:=[zS a13 a.length c14,zS h l.length j,zS d k.length e,zS b g.length c]) (us:=[zS a13 a.length c14,zS h l.length j,zS d k.length e,zS b g.length c]) sizeOf28 d5 rfl rfl rfl rfl rfl (dQ rfl) rfl rfl (fun u (d6:aF G K (box q 28 p::aL 9 K b c g::aL 9 K d e k::aL 67 K h j l::box r 28 [zS a13 a.length c14,zS h l.length j,zS d k.length e,zS b g.length c]::L) u)=>(aH (oS (aC ?_)))))
 obtain ⟨d7,x,d8,a2⟩:=aF.giveSp d6 (zR _) zt3
 replace a2:aF G d7 (box q 28 p::aL 9 K b c g::aL 9 K d e k::box r 28 [zS a13 a.length c14,zS h l.length j,zS d k.length e,zS b g.length c]::L) u:=a2
 obtain ⟨d9,y,e0,a3⟩:=aF.giveSp a2 x zt2
 replace a3:aF G d9 (box q 28 p::aL 9 K b c g::box r 28 [zS a13 a.length c14,zS h l.length j,zS d k.length e,zS b g.length c]::L) u:=a3
 obtain ⟨b8,z,e1,J⟩:=aF.giveSp a3 (zL x y) zt1
 replace J:aF G b8 (box q 28 p::box r 28 [zS a13 a.length c14,zS h l.length j,zS d k.length e,zS b g.length c]::L) u:=J
 obtain rfl:=zI hm
 exact fU (aIl results81 (aDg (vs:=[zS a13 a.length c14,zS h l.length j,zS d k.length e,zS b g.length c]) rfl aBI J (i:=1) rfl rfl rfl) ⟨b8,a13,c14,h,j,d,e,b,c,rfl,(zL (zL x y) z),(c4.mono (zL (zL x y) z)),(d8.mono (zL y z)),(e0.mono z),e1,(aF.arr 2 [] J rfl)⟩)
theorem tO {s_ R:(List Edge)} (hm:jT s_=some R) (h:aF G K (L) w) (c:bG K a1 c2 s_):
  Calls prog 116 ([zS a1 s_.length c2]:List Value).toArray w (eZ fun v w'=>∃ d e,v=zS d R.length e/\aF G K (aL 70 K d e R::L) w'):=by
 refine aO func116 rfl (by kernel_rfl) (by show (1:Nat)<=8;decide) ?_;unfold jT at hm
 refine aK (aJ (v:=zS none 0 0) (aH (aM (aK (aG (v:=zS a1 s_.length c2) (aD (aIr cS rfl rfl) (aH ?_)))))))
 rcases aGO c with ⟨j,k,l⟩|m
 ·subst j;subst k;subst l
  refine aIa rfl ?_
  replace hm:(some [])=some R:=hm
  exact aP
 ·refine aIb (Eq.trans rfl (congrArg zB m)) (aY (aC (aK (cK (Kt:=K) (xs:=([]:List Edge)) (cs:=[]) (vs:=[]) cS sM rfl rfl h rfl (by kernel_rfl) rfl rfl rfl trivial (fun n o (p:aF G K (aL 70 K n 0 ([]:List Edge)::L) o)=>(aG (v:=zS a1 s_.length c2) ?_))))));obtain ⟨g,q,hm⟩:=aB hm
  refine aFd (i:=0) cS underlying33 sM rfl rfl p rfl (zR _) c q rfl rfl rfl rfl (fun a b r (t:aF G K (aL 70 K a b g::L) r)=>(aJ (v:=zS a g.length b) (aH ?_)));obtain rfl:=zI hm
  exact fU (eE results116 rfl ⟨a,b,rfl,t⟩)
theorem aJd {t R:bB} (hm:aGq t=some R) (g:aF G K (L) w) (l:bG K a1 c2 t.L) (m:bG K a4 c5 t.E):
  Calls prog 82 ([zA (zCa t a1 c2 a4 c5)]:List Value).toArray w (eZ fun v w'=>∃ a b c d,v=zA (zCa R a b c d)/\aF G K (aL 9 K a b R.L::aL 70 K c d R.E::L) w'):=by
 refine aO func82 rfl (by kernel_rfl) (by show (1:Nat)<=14;decide) ?_;unfold aGq at hm
 refine aK (dJ (v:=zA (zCa t a1 c2 a4 c5)) (vs:=(zC t a1 c2 a4 c5)) g rfl rfl (fun n o h=>(aZ (vs:=zG) zeroValue35 h rfl (fun p q i=>(aH (aM ?_))))));obtain ⟨j,r,u,e,x⟩:=aF.lendBp i zt1
 refine cW (C:=fun w'=>∃ L',aF G j L' w') [(0,0),(1,0),(2,0),(3,0),(4,0),(5,0),(7,0),(8,0),(6,1),(9,1),(10,0),(11,2)] Tryz_mixed (by kernel_rfl) (fun _ hg=>⟨_,aF.mono e hg⟩) (fun y k=>?_)
 have z:=aF.mono e k
 exact aP
theorem zU {s_:(List Int)} {a R:Int} (hm:fI s_ a=some R) (d:aF G K (L) w) (e:bG K a1 c2 s_):
  Calls prog 98 ([zS a1 s_.length c2,i64 a]:List Value).toArray w (eZ fun v w'=>v=i64 R/\aF G K (L) w'):=by
 refine aO func98 rfl (by kernel_rfl) (by show (2:Nat)<=19;decide) ?_;unfold fI at hm
 refine aK (aJ (v:=i64 0) (aH (aM (aK (aG (v:=zS a1 s_.length c2) (aD (bH (len:=s_.length) bJ rfl) (aG (v:=i64 0) (aH (aQ [] (fun f w=>qQ=some R/\aF G K (L) w) aP ?_)))))))));obtain ⟨g,b,ho⟩:=aB hm
 exact fK [0,1,7] b (fun c f w=>f 8=i64 c/\aF G K (L) w) aP aP
theorem pN {k:Int} {p:(List Int)} {a:Nat} {R:Int} (hm:uL k p=some R) (b:aF G K (L) w) (c:fV K a1 a [zS a4 p.length c5]) (d:bG K a4 c5 p):
  Calls prog 97 ([i64 k,cR a1 a]:List Value).toArray w (eZ fun v w'=>v=i64 R/\aF G K (L) w'):=by
 exact aP
theorem uC {t:bB} {a:(List Int)} {R:bB} (hm:vY t a=some R) (hs:aF G K (L) w) (h3:bG K a1 c2 t.L) (h6:bG K a4 c5 t.E) (h9:bG K a7 c8 a):
  Calls prog 55 ([zA (zCa t a1 c2 a4 c5),zS a7 a.length c8]:List Value).toArray w (eZ fun v w'=>∃ d5 d6 d7 d8,v=zA (zCa R d5 d6 d7 d8)/\aF G K (aL 9 K d5 d6 R.L::aL 70 K d7 d8 R.E::L) w'):=by
 let k:=zG
 let b0:=(zC t a1 c2 a4 c5)
 let o:=[zS a7 a.length c8]
 let c3:=[zS a1 t.L.length c2]
 refine aO func55 rfl (by kernel_rfl) (by show (2:Nat)<=58;decide) ?_;unfold vY at hm
 refine aK (dJ (v:=zA (zCa t a1 c2 a4 c5)) (vs:=b0) hs rfl rfl (fun b7 l5 g1=>(dJ (v:=zS a7 a.length c8) (vs:=o) g1 rfl rfl (fun b l6 g2=>(aZ (vs:=k) zeroValue35 g2 rfl (fun l l7 g3=>(aH (aK (aD (jZ (vs:=[zP (some ⟨b,0,none⟩)]) rfl) (aJ (v:=Value.func (.func 97) #[] #[zP (some ⟨b,0,none⟩)]) (aH (aM (cH [2,4,5] (fun f w=>∃ m d p e g,yG t a m d=some R/\f 6=zP (some ⟨p,0,none⟩)/\aF G K (aL 9 K e g d::box p 35 [i64 (a.length:Int),i64 m,zS e d.length g,zS none 0 0]::box l 35 k::box b 29 o::box b7 35 b0::L) w) ?_ ?_)))))))))))))
 ·rintro f l8 ⟨m,d,p,e,g,hm,g4,d9⟩
  unfold yG at hm
  refine aC (aM (aK (aD (aV (t':=3) fY rfl rfl) (aD (cJ oJ d9 (i:=4) rfl rfl rfl) (aD (bH (len:=t.E.length) cS rfl) (aG (v:=i64 0) (aH (aQ [4,6] (fun f w=>∃ b1 y z,yF a m d b1=some R/\aF G K (aL 70 K y z b1::aL 9 K e g d::box p 35 [i64 (a.length:Int),i64 m,zS e d.length g,zS y b1.length z]::box l 35 k::L) w) ?_ ?_))))))))
  ·rintro f l9 ⟨b1,y,z,hm,e0⟩
   unfold yF at hm
   refine aC (aK (aD (aV (t':=3) fY g4 rfl) (aD (cJ oJ e0 (i:=2) rfl rfl rfl) ?_)));obtain ⟨e1,g5,hm⟩:=aB hm
   refine aR (vs:=[zS y b1.length z,Value.func (.func 76) #[] #[]]) call100 rfl (lib_SortEdge e0 g5) ?_
   rintro _ g6 ⟨rfl,g7,g8⟩
   have m0:aF G K (aL 70 K y z e1::aL 9 K e g d::box p 35 [i64 (a.length:Int),i64 m,zS e d.length g,zS y e1.length z]::box l 35 k::L) g6:=by rw [←g7];exact g8
   exact aP
  have m1:=aF.nil (α:=Edge) d9 70 K
  obtain ⟨m2,g9,ho⟩:=aB hm
  refine cC [4,5,6,23,24] g9 (fun q b2 f w=>∃ u x,f 25=i64 b2/\aF G K (aL 70 K u x q::aL 9 K e g d::box p 35 [i64 (a.length:Int),i64 m,zS e d.length g,zS u q.length x]::box l 35 k::box b 29 o::L) w) aP ?_
  ·rintro q b2 e2 f m3 hm hr ⟨u,x,c4,e3⟩
   unfold lB at hm
   refine aK (aD (cU c4 rfl) (aH (aM ?_)))
   rcases aN hm with ⟨e4,hm⟩|⟨e4,hm⟩
   ·refine aS e4 rfl (aY (aC (aM (aQ [4,5,6,23,24,25] (fun f w=>∃ b8 b9 c0,lA b2 b8=some e2/\aF G K (aL 70 K b9 c0 b8::aL 9 K e g d::box p 35 [i64 (a.length:Int),i64 m,zS e d.length g,zS b9 b8.length c0]::box l 35 k::box b 29 o::L) w) ?_ ?_))))
    ·rintro f m4 ⟨b8,b9,c0,hm,h0⟩
     unfold lA at hm
     exact aC (aU (aD (dT c4 rfl) (aG (v:=i64 (wr (b2+1))) (aH ⟨_,(zI hm).symm,bL,b9,c0,rfl,h0⟩))))
    refine aK ?_;obtain ⟨c,e5,hm⟩:=aB hm
    refine aD (dP cS rfl h6 rfl rfl c4 e5) ?_;obtain ⟨m5,h1,h2⟩:=bG.el (sz:=3) rfl h6 e5
    cases h2
    refine aD (fP (t:=0) (vs:=[i64 c.F,i64 c.B,i64 c.To]) qA e3 h1 rfl rfl rfl) (aZ (vs:=[i64 0,i64 0,i64 0]) zeroValue70 e3 rfl (fun e6 m6 h4=>(bS (i:=0) (ns:=[i64 c.F,i64 c.B,i64 c.To]) (us:=[i64 c.F,i64 c.B,i64 c.To]) sizeOf70 h4 rfl rfl rfl rfl rfl (dQ rfl) rfl rfl (fun h5 (h7:aF G K (box e6 70 [i64 c.F,i64 c.B,i64 c.To]::aL 70 K u x q::aL 9 K e g d::box p 35 [i64 (a.length:Int),i64 m,zS e d.length g,zS u q.length x]::box l 35 k::box b 29 o::L) h5)=>(aH (aM ?_))))))
    obtain ⟨h8,e7,e8,e9,i0⟩:=aF.lendBp h7 .head
    refine cW (C:=fun w'=>∃ L',aF G h8 L' w') [(0,0),(1,0),(2,0),(4,0),(5,0),(6,0),(3,1),(7,1),(8,0),(9,0)] Tryz_mixed (by kernel_rfl) (fun _ hg=>⟨_,aF.mono e9 hg⟩) (fun m7 i1=>?_)
    have b3:=aF.mono e9 i1
    refine bA rfl (fun _ _=>aW (v:=Value.func (.func 97) #[] #[zP (some ⟨b,0,none⟩)]) rfl) (bA rfl (fun _ _=>aV (t':=0) uY rfl rfl) (bA rfl (fun _ ⟨_,b3⟩=>bD (t:=0) dC b3 e8 rfl rfl) (bA rfl (fun _ _=>aW (v:=Value.func (.func 97) #[] #[zP (some ⟨b,0,none⟩)]) rfl) (bA rfl (fun _ _=>aV (t':=2) pQ rfl rfl) (bA rfl (fun _ ⟨_,b3⟩=>bD (t:=2) dC b3 e8 rfl rfl) (jN rfl ?_))))));obtain ⟨m8,i2,i3,i4,i5⟩:=aF.lendBp b3 zt4
    obtain ⟨f0,i6,hm⟩:=aB hm
    refine iS (vs:=[i64 c.F]) (caps:=[cR (some ⟨b,0,none⟩) 0]) (us:=[i64 c.F,cR (some ⟨b,0,none⟩) 0]) rfl call97 rfl rfl (pN i6 i4 i3 (h9.mono (zL e7 i2))) ?_
    rintro _ m9 ⟨rfl,i7⟩
    have f1:=i5 _ _ i7
    refine aT (aC ⟨⟨_,f1⟩,?_⟩)
    refine jN rfl ?_;obtain ⟨n0,i8,i9,j0,j1⟩:=aF.lendBp f1 .head
    obtain ⟨f2,j2,hm⟩:=aB hm
    refine iS (vs:=[i64 c.To]) (caps:=[cR (some ⟨b,0,none⟩) 0]) (us:=[i64 c.To,cR (some ⟨b,0,none⟩) 0]) rfl call97 rfl rfl (pN j2 j0 i9 (h9.mono (zL e7 i8))) ?_
    rintro _ n1 ⟨rfl,j3⟩
    have f3:=j1 _ _ j3
    refine aT (aC ⟨⟨_,f3⟩,?_⟩)
    refine bA rfl (fun _ _=>fW (v:=i64 f0) rfl) (bA rfl (fun _ _=>fW (v:=i64 f2) rfl) (oS ?_))
    have n2:=i0 _ _ f3
    exact aC (aM (cH [4,5,6,8,9,10,23,24,25] (fun f w=>∃ f4,mT q b2 c f0 f2 f4=some e2/\f 42=zB f4/\aF G K (box e6 70 [i64 c.F,i64 c.B,i64 c.To]::box b 29 o::aL 70 K u x q::aL 9 K e g d::box p 35 [i64 (a.length:Int),i64 m,zS e d.length g,zS u q.length x]::box l 35 k::L) w) aP aP))
   ·exact aP
 obtain ⟨n3,b4,c6,j4,c7⟩:=aF.lendBp g3 zt1
 obtain ⟨j5,r,f5,j6,c9⟩:=aF.lendBp j4 zt1
 refine aAb (C:=fun w'=>∃ L',aF G j5 L' w') [11] Tryz_mixed (by kernel_rfl) (fun n4 j7=>?_)
 have h:=aF.mono j6 j7
 refine jB (i:=0) rfl (by kernel_rfl) ⟨_,h⟩ (fun _ ⟨_,h⟩=>bD (t:=0) aAs h (c6.mono r) rfl rfl) (jB (i:=1) rfl (by kernel_rfl) ⟨_,h⟩ (fun _ _=>bH (len:=a.length) bJ rfl) (jB (i:=2) rfl (by kernel_rfl) ⟨_,h⟩ (fun _ _=>aW (v:=Value.func (.func 97) #[] #[zP (some ⟨b,0,none⟩)]) rfl) (jB (i:=3) rfl (by kernel_rfl) ⟨_,h⟩ (fun _ _=>aV (t':=1) aDX rfl rfl) (jB (i:=4) rfl (by kernel_rfl) ⟨_,h⟩ (fun _ ⟨_,h⟩=>bD (t:=1) dC h f5 rfl rfl) (jB (i:=6) rfl (by kernel_rfl) ⟨_,h⟩ (fun _ _=>aV (t':=2) oE rfl rfl) (jB (i:=7) rfl (by kernel_rfl) ⟨_,h⟩ (fun _ ⟨_,h⟩=>bD (t:=2) xV h f5 rfl rfl) (uX (i:=5) (j:=10) (by kernel_rfl) rfl rfl ?_ ?_)))))))
 ·obtain ⟨n,j8,hm⟩:=aB hm
  refine iS (vs:=[i64 t.I]) (caps:=[cR (some ⟨b,0,none⟩) 0]) (us:=[i64 t.I,cR (some ⟨b,0,none⟩) 0]) rfl call97 rfl rfl (pN j8 h (c6.mono r) (h9.mono (zL b4 r))) ?_
  rintro _ n5 ⟨rfl,d0⟩
  refine aT (aC ⟨fun _=>⟨_,d0⟩,?_⟩)
  refine uX (i:=8) (j:=10) (by kernel_rfl) rfl rfl ?_ ?_
  ·obtain ⟨J,j9,hm⟩:=aB hm
   refine aR (vs:=c3) call99 rfl (bT j9 d0 (h3.mono (zL b4 r))) ?_
   rintro _ n6 ⟨V,a0,rfl,d1⟩
   refine aT (aC ⟨fun _=>⟨_,d1⟩,?_⟩)
   refine jB (i:=9) rfl (by kernel_rfl) ⟨_,d1⟩ (fun _ _=>iR (vs:=[(0,i64 (a.length:Int)),(1,i64 n),(2,zS V J.length a0)]) (cs:=[i64 (a.length:Int),i64 n,zS V J.length a0,zS none 0 0]) aED rfl (by kernel_rfl)) (cN (i:=10) (by kernel_rfl) rfl (aZ (vs:=k) zeroValue35 d1 rfl (fun k0 n7 f6=>(aT (aC ⟨fun _=>⟨_,f6⟩,?_⟩)))))
   refine cN (i:=11) (by kernel_rfl) rfl ?_
   have k1:=c9 _ _ f6
   have k2:=c7 _ _ k1
   refine bS (i:=2) (ns:=[i64 (a.length:Int),i64 n,zS V J.length a0,zS none 0 0]) (us:=[i64 (a.length:Int),i64 n,zS V J.length a0,zS none 0 0]) sizeOf35 k2 rfl rfl rfl rfl rfl (dQ rfl) rfl rfl (fun k3 (n8:aF G K (box b 29 o::box b7 35 b0::box k0 35 [i64 (a.length:Int),i64 n,zS V J.length a0,zS none 0 0]::aL 9 K V a0 J::box l 35 k::L) k3)=>(aT (aC ⟨aFM rfl,?_⟩)))
   exact lW (by kernel_rfl) aP
  ·refine aZ (vs:=k) zeroValue35 d0 rfl (fun k4 n9 f7=>(aT (aC ⟨fun _=>⟨_,f7⟩,?_⟩)))
   refine cN (i:=8) (by kernel_rfl) rfl ?_;obtain ⟨a2,k5,hm⟩:=aB hm
   refine aR (vs:=c3) call99 rfl (bT k5 f7 (h3.mono (zL b4 r))) ?_
   rintro _ o0 ⟨a3,a5,rfl,d2⟩
   refine aT (aC ⟨fun _=>⟨_,d2⟩,?_⟩)
   refine jB (i:=9) rfl (by kernel_rfl) ⟨_,d2⟩ (fun _ _=>iR (vs:=[(0,i64 (a.length:Int)),(1,i64 n),(2,zS a3 a2.length a5)]) (cs:=[i64 (a.length:Int),i64 n,zS a3 a2.length a5,zS none 0 0]) aED rfl (by kernel_rfl)) (cN (i:=11) (by kernel_rfl) rfl ?_)
   have k6:=c9 _ _ d2
   have k7:=c7 _ _ k6
   refine bS (i:=3) (ns:=[i64 (a.length:Int),i64 n,zS a3 a2.length a5,zS none 0 0]) (us:=[i64 (a.length:Int),i64 n,zS a3 a2.length a5,zS none 0 0]) sizeOf35 k7 rfl rfl rfl rfl rfl (dQ rfl) rfl rfl (fun k8 (o1:aF G K (box b 29 o::box b7 35 b0::aL 9 K a3 a5 a2::box k4 35 [i64 (a.length:Int),i64 n,zS a3 a2.length a5,zS none 0 0]::box l 35 k::L) k8)=>(aT (aC ⟨aFM rfl,?_⟩)))
   exact lW (by kernel_rfl) aP
 ·refine aZ (vs:=k) zeroValue35 h rfl (fun k9 o2 f8=>(aT (aC ⟨fun _=>⟨_,f8⟩,?_⟩)))
  refine cN (i:=5) (by kernel_rfl) rfl ?_;obtain ⟨b5,l0,hm⟩:=aB hm
  refine iS (vs:=[i64 t.I]) (caps:=[cR (some ⟨b,0,none⟩) 0]) (us:=[i64 t.I,cR (some ⟨b,0,none⟩) 0]) rfl call97 rfl rfl (pN l0 f8 (c6.mono r) (h9.mono (zL b4 r))) ?_
  rintro _ o3 ⟨rfl,f9⟩
  refine aT (aC ⟨fun _=>⟨_,f9⟩,?_⟩)
  refine cN (i:=8) (by kernel_rfl) rfl ?_;obtain ⟨a6,l1,hm⟩:=aB hm
  refine aR (vs:=c3) call99 rfl (bT l1 f9 (h3.mono (zL b4 r))) ?_
  rintro _ o4 ⟨a8,a9,rfl,d3⟩
  refine aT (aC ⟨fun _=>⟨_,d3⟩,?_⟩)
  refine jB (i:=9) rfl (by kernel_rfl) ⟨_,d3⟩ (fun _ _=>iR (vs:=[(0,i64 (a.length:Int)),(1,i64 b5),(2,zS a8 a6.length a9)]) (cs:=[i64 (a.length:Int),i64 b5,zS a8 a6.length a9,zS none 0 0]) aED rfl (by kernel_rfl)) (cN (i:=11) (by kernel_rfl) rfl ?_)
  have l2:=c9 _ _ d3
  have l3:=c7 _ _ l2
  refine bS (i:=3) (ns:=[i64 (a.length:Int),i64 b5,zS a8 a6.length a9,zS none 0 0]) (us:=[i64 (a.length:Int),i64 b5,zS a8 a6.length a9,zS none 0 0]) sizeOf35 l3 rfl rfl rfl rfl rfl (dQ rfl) rfl rfl (fun l4 (o5:aF G K (box b 29 o::box b7 35 b0::aL 9 K a8 a9 a6::box k9 35 [i64 (a.length:Int),i64 b5,zS a8 a6.length a9,zS none 0 0]::box l 35 k::L) l4)=>(aT (aC ⟨aFM rfl,?_⟩)))
  exact lW (by kernel_rfl) aP
theorem aGC {a:(List (List Int))} {R:(List Int)} (hm:tU a=some R) (d:aF G K (L) w) (e:Hp.le Kf K) (g:bG Kf a1 c2 a):
  Calls prog 104 ([zS a1 a.length c2]:List Value).toArray w (eZ fun v w'=>∃ b c,v=zS b R.length c/\bG Kf b c R/\aF G K (L) w'):=by
 exact aP
theorem aHx {n:Int} {R:(List Int)} (hm:aIA n=some R) (g:aF G K (L) w):
  Calls prog 148 ([i64 n]:List Value).toArray w (eZ fun v w'=>∃ c d,v=zS c R.length d/\aF G K (aL 2 K c d R::L) w'):=by
 refine aO func148 rfl (by kernel_rfl) (by show (1:Nat)<=5;decide) ?_;unfold aIA at hm
 refine aK (aJ (v:=zS none 0 0) (aH (aK (aG (v:=i64 n) ?_))));obtain ⟨a,h,hm⟩:=aB hm
 refine aIf (e:=(0:Int)) bJ zD rfl rfl g rfl rfl rfl h rfl (fun b i (j:aF G K (aL 2 K b a.length a::L) i)=>(aJ (v:=zS b a.length a.length) (aH ?_)));obtain rfl:=zI hm
 exact fU (eE results148 rfl ⟨b,a.length,rfl,j⟩)
theorem aAh {e:Edge} {p:(List Int)} {a:Nat} {R:Bool} (hm:oY e p=some R) (c:aF G K (L) w) (d:fV K a1 a [zS a4 p.length c5]) (g:bG K a4 c5 p):
  Calls prog 193 ([zA #[i64 e.F,i64 e.B,i64 e.To],cR a1 a]:List Value).toArray w (eZ fun v w'=>v=zB R/\aF G K (L) w'):=by
 refine aO func193 rfl (by kernel_rfl) (by show (2:Nat)<=20;decide) ?_;unfold oY at hm
 exact aK (dJ (v:=zA #[i64 e.F,i64 e.B,i64 e.To]) (vs:=[i64 e.F,i64 e.B,i64 e.To]) c rfl rfl (fun h i j=>(aJ (v:=zB false) (aH (aM (cH [] (fun f w=>∃ b,uP b=some R/\f 3=zB b/\aF G K (L) w) aP aP))))))
theorem aFI {t:bB} {q:(List Int)} {c:Nat} {R:bB} (hm:aFk t q=some R) (hs:aF G K (L) w) (c9:Hp.le Kf K) (h3:bG Kf a1 c2 t.L) (x:bG K a4 c5 t.E) (h9:fV K a7 c [zS a10 q.length c11]) (b3:bG K a10 c11 q):
  Calls prog 192 ([zA (zCa t a1 c2 a4 c5),Value.func (.func 193) #[] #[cR a7 c]]:List Value).toArray w (eZ fun v w'=>∃ y z J V,v=zA (zCa R y z J V)/\bG Kf y z R.L/\aF G K (aL 70 K J V R.E::L) w'):=by
 let b:=zG
 let k:=[i64 t.N,i64 t.I,zS a1 t.L.length c2,zS none 0 0]
 let a0:=(zC t a1 c2 a4 c5)
 refine aO func192 rfl (by kernel_rfl) (by show (2:Nat)<=33;decide) ?_;unfold aFk at hm
 refine aK (dJ (v:=zA (zCa t a1 c2 a4 c5)) (vs:=a0) hs rfl rfl (fun b4 d1 b5=>(aZ (vs:=b) zeroValue35 b5 rfl (fun d d2 l=>(aH (aK (aD (aV (t':=0) gT rfl rfl) (aD (cJ dC l (i:=1) rfl rfl rfl) (aD (aV (t':=1) aDX rfl rfl) (aD (cJ dC l (i:=1) rfl rfl rfl) (aD (aV (t':=2) oE rfl rfl) (aD (cJ xV l (i:=1) rfl rfl rfl) (aD (iR (vs:=[(0,i64 t.N),(1,i64 t.I),(2,zS a1 t.L.length c2)]) (cs:=k) aED rfl (by kernel_rfl)) (aZ (vs:=b) zeroValue35 l rfl (fun e d3 b6=>(bS (i:=0) (ns:=k) (us:=k) sizeOf35 b6 rfl rfl rfl rfl rfl (dQ rfl) rfl rfl (fun b7 (a2:aF G K (box e 35 k::box d 35 b::box b4 35 a0::L) b7)=>(aH (aM (aK (aD (aV (t':=3) fY rfl rfl) (aD (cJ oJ a2 (i:=2) rfl rfl rfl) (aD (bH (len:=t.E.length) cS rfl) ?_)))))))))))))))))))))))
 refine aG (v:=i64 0) (aH (aQ [4,5] (fun f w=>∃ r a3 a5,aHr t r=some R/\aF G K (aL 70 K a3 a5 r::box e 35 [i64 t.N,i64 t.I,zS a1 t.L.length c2,zS a3 r.length a5]::box d 35 b::L) w) aP ?_))
 have d4:=aF.nil (α:=Edge) a2 70 K
 obtain ⟨d5,b8,ho⟩:=aB hm
 refine cC [1,4,5,16,17] b8 (fun g m f w=>∃ h j,f 18=i64 m/\aF G K (aL 70 K h j g::box e 35 [i64 t.N,i64 t.I,zS a1 t.L.length c2,zS h g.length j]::box d 35 b::L) w) aP ?_
 ·rintro g m b9 f d6 hm hr ⟨h,j,u,a6⟩
  unfold uM at hm
  refine aK (aD (cU u rfl) (aH (aM ?_)))
  rcases aN hm with ⟨a8,hm⟩|⟨a8,hm⟩
  ·refine aS a8 rfl (aY (aC (aM (aQ [1,4,5,16,17,18] (fun f w=>∃ n o p,yH m n=some b9/\aF G K (aL 70 K o p n::box e 35 [i64 t.N,i64 t.I,zS a1 t.L.length c2,zS o n.length p]::box d 35 b::L) w) ?_ ?_))))
   ·rintro f d7 ⟨n,o,p,hm,c0⟩
    unfold yH at hm
    exact aC (aU (aD (dT u rfl) (aG (v:=i64 (wr (m+1))) (aH ⟨_,(zI hm).symm,bL,o,p,rfl,c0⟩))))
   refine aK ?_;obtain ⟨a,a9,hm⟩:=aB hm
   refine aD (dP cS rfl x rfl rfl u a9) ?_;obtain ⟨d8,c1,c3⟩:=bG.el (sz:=3) rfl x a9
   cases c3
   refine aD (fP (t:=0) (vs:=[i64 a.F,i64 a.B,i64 a.To]) qA a6 c1 rfl rfl rfl) (aZ (vs:=[i64 0,i64 0,i64 0]) zeroValue70 a6 rfl (fun c4 d9 c6=>(bS (i:=0) (ns:=[i64 a.F,i64 a.B,i64 a.To]) (us:=[i64 a.F,i64 a.B,i64 a.To]) sizeOf70 c6 rfl rfl rfl rfl rfl (dQ rfl) rfl rfl (fun c7 (b0:aF G K (box c4 70 [i64 a.F,i64 a.B,i64 a.To]::aL 70 K h j g::box e 35 [i64 t.N,i64 t.I,zS a1 t.L.length c2,zS h g.length j]::box d 35 b::L) c7)=>(aH (aK (aG (v:=Value.func (.func 193) #[] #[cR a7 c]) (aD (jH (us:=[i64 a.F,i64 a.B,i64 a.To]) qA b0 (i:=0) rfl rfl rfl rfl) ?_))))))))
   obtain ⟨e0,c8,hm⟩:=aB hm
   exact iS (vs:=[zA #[i64 a.F,i64 a.B,i64 a.To]]) (caps:=[cR a7 c]) (us:=[zA #[i64 a.F,i64 a.B,i64 a.To],cR a7 c]) rfl call193 rfl rfl (aAh c8 b0 h9 b3) aP
  ·exact aP
theorem wG {t:bB} {p:(List Int)} {R:bB} (hm:qH t p=some R) (r:aF G K (L) w) (u:bG K a1 c2 t.L) (x:bG K a4 c5 t.E) (y:bG K a7 c8 p):
  Calls prog 149 ([zA (zCa t a1 c2 a4 c5),zS a7 p.length c8]:List Value).toArray w (eZ fun v w'=>∃ b l m n o,v=zA (zCa R l m n o)/\Hp.le K b/\bG b l m R.L/\bG b n o R.E/\aF G b (L) w'):=by
 let e:=(zC t a1 c2 a4 c5)
 refine aO func149 rfl (by kernel_rfl) (by show (2:Nat)<=8;decide) ?_;unfold qH at hm
 refine aK (dJ (v:=zA (zCa t a1 c2 a4 c5)) (vs:=e) r rfl rfl (fun z b2 J=>(dJ (v:=zS a7 p.length c8) (vs:=[zS a7 p.length c8]) J rfl rfl (fun g b3 V=>(aZ (vs:=zG) zeroValue35 V rfl (fun a0 b4 q=>(aH (aK (aD (jH (us:=e) kJ q (i:=2) rfl rfl rfl rfl) (aD (jZ (vs:=[zP (some ⟨g,0,none⟩)]) rfl) ?_))))))))));obtain ⟨b5,h,a2,a3,a5⟩:=aF.lendBp q zt1
 obtain ⟨a,a6,hm⟩:=aB hm
 refine aR (vs:=[zA (zCa t a1 c2 a4 c5),Value.func (.func 193) #[] #[cR (some ⟨g,0,none⟩) 0]]) call192 rfl (aFI (Kf:=K) a6 a3 h u (x.mono h) a2 (y.mono h)) ?_
 rintro _ b6 ⟨j,k,c,d,rfl,b7,a8⟩
 have a9:=a5 _ _ a8
 refine bS (i:=2) (ns:=(zC a j k c d)) (us:=(zC a j k c d)) sizeOf35 a9 rfl rfl rfl rfl rfl (dQ rfl) rfl rfl (fun b0 (b1:aF G K (box g 29 [zS a7 p.length c8]::aL 70 K c d a.E::box a0 35 (zC a j k c d)::box z 35 e::L) b0)=>(aH ?_));obtain ⟨b8,b9,c0,c1⟩:=aF.giveSp b1 (zR _) zt1
 exact aP
theorem aAS {t:bB} {k:Int} {R:(List Edge)} (hm:sF t k=some R) (u:aF G K (L) w) (V:bG K a1 c2 t.L) (h6:bG K a4 c5 t.E):
  Calls prog 92 ([zA (zCa t a1 c2 a4 c5),i64 k]:List Value).toArray w (eZ fun v w'=>∃ l m,v=zS l R.length m/\aF G K (aL 70 K l m R::L) w'):=by
 refine aO func92 rfl (by kernel_rfl) (by show (2:Nat)<=25;decide) ?_;unfold sF at hm
 refine aK (dJ (v:=zA (zCa t a1 c2 a4 c5)) (vs:=(zC t a1 c2 a4 c5)) u rfl rfl (fun b7 w8 n=>(aJ (v:=zS none 0 0) (aH (aK (aJ (v:=zS none 0 0) (aH (aM (aK (aD (aV (t':=3) fY rfl rfl) (aD (cJ oJ n (i:=0) rfl rfl rfl) (aD (bH (len:=t.E.length) cS rfl) (aG (v:=i64 0) (aH (aQ [] (fun f w=>∃ e o p,aFl e=some R/\f 5=zS o e.length p/\aF G K (aL 70 K o p e::L) w) aP ?_)))))))))))))))
 have a5:=aF.nil (α:=Edge) n 70 K
 obtain ⟨a6,x,ho⟩:=aB hm
 refine cC [1,9,10] x (fun g a f w=>∃ h j,f 5=zS h g.length j/\f 11=i64 a/\aF G K (aL 70 K h j g::L) w) aP ?_
 ·rintro g a y f a7 hm hr ⟨h,j,a8,q,a9⟩
  unfold aAL at hm
  refine aK (aD (cU q rfl) (aH (aM ?_)))
  rcases aN hm with ⟨r,hm⟩|⟨r,hm⟩
  ·refine aS r rfl (aY (aC (aM (aQ [1,9,10,11] (fun f w=>∃ b c d,aAK a b=some y/\f 5=zS c b.length d/\aF G K (aL 70 K c d b::L) w) ?_ ?_))))
   ·rintro f b0 ⟨b,c,d,hm,z,J⟩
    unfold aAK at hm
    exact aC (aU (aD (dT q rfl) (aG (v:=i64 (wr (a+1))) (aH ⟨_,(zI hm).symm,bL,c,d,z,rfl,J⟩))))
   exact aP
  ·exact aP
theorem qC {d:(List Bool)} {j:Int} {R:(List Bool)} (hm:fS d j=some R) (hs:aF G K (L) w) (h3:bG K a1 c2 d):
  Calls prog 194 ([zS a1 d.length c2,i64 j]:List Value).toArray w (eZ fun v w'=>∃ u x,v=zS u R.length x/\aF G K (aL 4 K u x R::L) w'):=by
 refine aO func194 rfl (by kernel_rfl) (by show (2:Nat)<=48;decide) ?_;unfold fS at hm
 refine aK (aJ (v:=zS none 0 0) (aH (mB [0,1] (fun f w=>jF d j=some R/\aF G K (L) w) ?_ ?_)))
 ·rintro f w4 ⟨hm,b0⟩
  unfold jF at hm
  refine aK (aG (v:=zS a1 d.length c2) (aD (bH (len:=d.length) lV rfl) (aD (aEB runUnderlying107 rfl ⟨_,runUnderlying3⟩) (aG (v:=i64 j) (aD (aEB runUnderlying107 rfl ⟨_,runUnderlying3⟩) ?_)))));obtain ⟨c,q7,hm⟩:=aB hm
  refine aR (vs:=[Value.int .u64 (lC (d.length:Int)),Value.int .u64 (lC j)]) call235 rfl (aNh b0 q7) ?_
  rintro _ w8 ⟨rfl,y⟩
  refine aG (v:=Value.tuple #[Value.int .u64 c.1,Value.int .u64 c.2]) (aD (bV rfl rfl) (aD (bV rfl rfl) (aJ (v:=Value.int .u64 c.1) (aJ (v:=Value.int .u64 c.2) (aH (mB [0,6] (fun f w=>jE d c=some R/\aF G K (L) w) ?_ ?_))))))
  ·rintro f d6 ⟨hm,b2⟩
   unfold jE at hm
   refine aK (aG (v:=Value.int .u64 c.2) (aD (aIi runUnderlying3 rfl ⟨_,runUnderlying107⟩) ?_));obtain ⟨a,b3,hm⟩:=aB hm
   refine aIf (e:=(false:Bool)) lV ez_4 rfl rfl b2 rfl rfl rfl b3 rfl (fun b b4 (z:aF G K (aL 4 K b a.length a::L) b4)=>(aJ (v:=zS b a.length a.length) (aH (aK (aG (v:=zS b a.length a.length) (aG (v:=zS a1 d.length c2) ?_))))));obtain ⟨b5,J,hm⟩:=aB hm
   refine aIq lV rfl z (i:=0) rfl Cut.whole rfl rfl rfl (aGN _ _ _) aFZ (aKE rfl z h3) J (fun b6 (b7:aF G K (aL 4 K b a.length b5::L) b6)=>(aJ (v:=i64 ((Nat.min d.length a.length):Int)) (aH (aM (aQ [] (fun f w=>∃ k,jC k=some R/\f 7=zS b k.length a.length/\aF G K (aL 4 K b a.length k::L) w) ?_ ?_)))))
   ·rintro f d7 ⟨k,hm,b8,b9⟩
    unfold jC at hm
    refine aC (aK (bC b8 (aJ (v:=zS b k.length a.length) (aH ?_))));obtain rfl:=zI hm
    exact fU (eE results194 rfl ⟨b,a.length,rfl,b9⟩)
   obtain ⟨d8,c1,ho⟩:=aB hm
   refine cC [] c1 (fun l m f w=>f 7=zS b l.length a.length/\f 8=i64 m/\aF G K (aL 4 K b a.length l::L) w) ?_ ?_
   ·exact ⟨(Eq.trans rfl (congrArg (fun n=>zS b n a.length) (aDT J))),rfl,b7⟩
   ·rintro l m d9 f e0 hm hr ⟨o,p,V⟩
    unfold jD at hm
    refine aM (aK (bC p (bC o (aD (bH (len:=l.length) lV rfl) (aD (cU rfl rfl) (aH ?_))))))
    rcases aN hm with ⟨r,hm⟩|⟨r,hm⟩
    ·refine aS r rfl (aY (aC (cV (cW (C:=fun w'=>∃ L',aF G K L' w') [(0,0),(1,0),(2,0),(3,0),(4,0),(5,0),(6,0),(7,1),(8,0),(9,0)] Tryz_mixed (by kernel_rfl) (fun _ hg=>⟨_,aF.mono V hg⟩) (fun e1 c3=>?_)))))
     have q:=aF.mono V c3
     refine bA rfl (fun _ _=>aW p) (bA rfl (fun _ _=>aW o) (bA rfl (fun _ _=>aW p) ?_));obtain ⟨c4,c5,hm⟩:=aB hm
     have c6:=qJ q (i:=0) rfl
     obtain ⟨e2,e3,a0⟩:=Cut.ex 1 b a.length m
     refine bA rfl (fun _ _=>aEq lV c6 a0 rfl rfl rfl c5) (bA rfl (fun _ _=>aW o) (bA rfl (fun _ _=>aW p) ?_));obtain ⟨c7,a2,hm⟩:=aB hm
     have c8:=qJ q (i:=0) rfl
     obtain ⟨e4,e5,a3⟩:=Cut.ex 1 b a.length 0
     refine bA rfl (fun _ _=>aGa lV c8 a3 rfl rfl rfl a2) (jN rfl ?_);obtain ⟨c9,a4,hm⟩:=aB hm
     refine aIq lV rfl q (i:=0) rfl a0 rfl rfl rfl (aGN _ _ _) aFZ (aKF rfl q (i:=0) rfl a2 a3) a4 (fun d0 (a5:aF G K (aL 4 K b a.length c9::L) d0)=>(aT (aC ⟨⟨_,a5⟩,?_⟩)))
     exact bA rfl (fun _ _=>dT rfl rfl) (bA rfl (fun _ _=>fW (v:=i64 (wr (m+((Nat.min c7.length c4.length):Int)))) rfl) (oS (dB (aC ⟨_,(zI hm).symm,bL,(Eq.trans o (congrArg (fun n=>zS b n a.length) (aDT a4))),rfl,a5⟩))))
    ·refine bE r rfl (aBe (kO (kO ?_)))
     have d1:=hr _ (zI hm).symm
     subst d1
     have hm:(jC l)=some R:=ho
     exact aP
  refine aM (cH [0,6] (fun f w=>∃ t,gE d c t=some R/\f 26=zB t/\aF G K (L) w) ?_ ?_)
  ·rintro f e6 ⟨t,hm,d2,d3⟩
   unfold gE at hm
   refine aC ?_
   rcases aN hm with ⟨a6,hm⟩|⟨a6,hm⟩
   ·exact aP
   ·exact bE a6 d2 (aY (aC ⟨bL,hm,d3⟩))
  refine aU (aG (v:=Value.int .u64 c.1) (aD (aAa rfl rfl) (aG (v:=zB (decide (0 < c.1))) ?_)))
  rcases aN hm with ⟨h,hm⟩|⟨h,hm⟩
  ·exact mV h rfl rfl (mV h rfl rfl (aD (gR (v:=zB true) h rfl rfl) (aH ⟨bL,true,hm,rfl,y⟩)))
  ·exact kX h rfl rfl (aG (v:=Value.int .u64 c.2) (kX h rfl rfl (aD (aAa rfl rfl) (aD (dO (v:=zB (decide (9223372036854775807 < c.2))) h rfl rfl) (aH ⟨bL,decide (9223372036854775807 < c.2),hm,rfl,y⟩)))))
 refine aK (aG (v:=i64 j) (aD (cU rfl rfl) (aH ?_)))
 rcases aN hm with ⟨a7,hm⟩|⟨a7,hm⟩
 ·exact aP
 ·exact bE a7 rfl (aY (aC ⟨bL,hm,hs⟩))
theorem aAi {e:Edge} {p:(List Bool)} {a:Nat} {R:Bool} (hm:oZ e p=some R) (c:aF G K (L) w) (d:fV K a1 a [zS a4 p.length c5]) (g:bG K a4 c5 p):
  Calls prog 196 ([zA #[i64 e.F,i64 e.B,i64 e.To],cR a1 a]:List Value).toArray w (eZ fun v w'=>v=zB R/\aF G K (L) w'):=by
 refine aO func196 rfl (by kernel_rfl) (by show (2:Nat)<=14;decide) ?_;unfold oZ at hm
 exact aK (dJ (v:=zA #[i64 e.F,i64 e.B,i64 e.To]) (vs:=[i64 e.F,i64 e.B,i64 e.To]) c rfl rfl (fun h i j=>(aJ (v:=zB false) (aH (aM (cH [] (fun f w=>∃ b,uQ b=some R/\f 3=zB b/\aF G K (L) w) aP aP))))))
theorem rE {s_:(List Edge)} {d:(List Bool)} {b:Nat} {R:Int} (hm:eY s_ d=some R) (q:aF G K (L) w) (e:bG K a1 c2 s_) (k:fV K a4 b [zS a7 d.length c8]) (l:bG K a7 c8 d):
  Calls prog 236 ([zS a1 s_.length c2,Value.func (.func 196) #[] #[cR a4 b]]:List Value).toArray w (eZ fun v w'=>v=i64 R/\aF G K (L) w'):=by
 refine aO func236 rfl (by kernel_rfl) (by show (2:Nat)<=19;decide) ?_;unfold eY at hm
 refine aK (aJ (v:=i64 0) (aH (aM (aK (aG (v:=zS a1 s_.length c2) (aD (bH (len:=s_.length) cS rfl) (aG (v:=i64 0) (aH (aQ [] (fun f w=>kU=some R/\aF G K (L) w) aP ?_)))))))));obtain ⟨r,m,ho⟩:=aB hm
 refine fK [0,1,7] m (fun c f w=>f 8=i64 c/\aF G K (L) w) aP ?_
 ·rintro c u f x hm hr ⟨g,h⟩
  unfold cX at hm
  refine aK (aD (cU g rfl) (aH (aM ?_)))
  rcases aN hm with ⟨i,hm⟩|⟨i,hm⟩
  ·refine aS i rfl (aY (aC (aM (cV (aK (bC g (aJ (v:=i64 c) (aH (aK (aG (v:=Value.func (.func 196) #[] #[cR a4 b]) (aG (v:=zS a1 s_.length c2) (aG (v:=i64 c) ?_))))))))))));obtain ⟨a,j,hm⟩:=aB hm
   refine aD (dP cS rfl e rfl rfl rfl j) ?_;obtain ⟨y,n,o⟩:=bG.el (sz:=3) rfl e j
   cases o
   refine aD (fP (t:=0) (vs:=[i64 a.F,i64 a.B,i64 a.To]) qA h n rfl rfl rfl) ?_;obtain ⟨z,p,hm⟩:=aB hm
   exact iS (vs:=[zA #[i64 a.F,i64 a.B,i64 a.To]]) (caps:=[cR a4 b]) (us:=[zA #[i64 a.F,i64 a.B,i64 a.To],cR a4 b]) rfl call196 rfl rfl (aAi p h k l) aP
  ·exact aP
theorem jO {s_:(List Edge)} {a:(List Bool)} {b:Nat} {R:Bool} (hm:dV s_ a=some R) (c:aF G K (L) w) (d:bG K a1 c2 s_) (e:fV K a4 b [zS a7 a.length c8]) (g:bG K a7 c8 a):
  Calls prog 195 ([zS a1 s_.length c2,Value.func (.func 196) #[] #[cR a4 b]]:List Value).toArray w (eZ fun v w'=>v=zB R/\aF G K (L) w'):=by
 exact aP
end Gv
namespace Gv
open Go.Value renaming slice→zS,bool→zB,pointer→zP,agg→zA
open Option.some renaming inj→zI
open Gv.Hp renaming le_trans→zL,le_refl→zR
open Go Go.Proofs Go.Proofs.Tryz
set_option maxRecDepth 20000
set_option maxHeartbeats 40000000
variable {G:zZ} {K:Hp} {L:List jM} {w:World} {a1 a4 a7 a10 a13:Option Addr} {c2 c5 c8 c11:Nat}
theorem wH {t:bB} {R:(List Bool)} (hm:lR t=some R) (hs:aF G K (L) w) (h3:bG K a1 c2 t.L) (h6:bG K a4 c5 t.E):
  Calls prog 150 ([zA (zCa t a1 c2 a4 c5)]:List Value).toArray w (eZ fun v w'=>∃ a2 a3,v=zS a2 R.length a3/\aF G K (aL 4 K a2 a3 R::L) w'):=by
 let c:=(zC t a1 c2 a4 c5)
 refine aO func150 rfl (by kernel_rfl) (by show (1:Nat)<=35;decide) ?_;unfold lR at hm
 refine aK (dJ (v:=zA (zCa t a1 c2 a4 c5)) (vs:=c) hs rfl rfl (fun e w8 c1=>(aJ (v:=zS none 0 0) (aH (aK (cK (Kt:=K) (xs:=([true]:List Bool)) (cs:=[zB true]) (vs:=[(0,zB true)]) lV ez_4 rfl rfl c1 rfl (by kernel_rfl) rfl rfl rfl ⟨rfl,trivial⟩ (fun o c3 (a5:aF G K (aL 4 K o 1 ([true]:List Bool)::box e 35 c::L) c3)=>(aD (aV (t':=0) gT rfl rfl) (aD (cJ dC a5 (i:=1) rfl rfl rfl) ?_)))))))));obtain ⟨g6,g7,c4,c6,c7⟩:=aF.lendSp a5 (zR _) .head
 obtain ⟨k,c8,hm⟩:=aB hm
 refine aR (vs:=[zS o ([true]:List Bool).length 1,i64 t.N]) call194 rfl (qC c8 c6 c4) ?_
 rintro _ g8 ⟨a,b,rfl,c9⟩
 have d0:=c7 _ _ c9
 refine aZ (vs:=[zS none 0 0]) zeroValue109 d0 rfl (fun d g9 d1=>(bS (i:=0) (ns:=[zS a k.length b]) (us:=[zS a k.length b]) sizeOf109 d1 rfl rfl rfl rfl rfl (dQ rfl) rfl rfl (fun d2 (h0:aF G K (box d 109 [zS a k.length b]::aL 4 K o 1 ([true]:List Bool)::aL 4 K a b k::box e 35 c::L) d2)=>(aH (aM (aK (aJ (v:=zB true) (aH (aQ [3] (fun f w=>∃ p,aDt p=some R/\aF G K (box d 109 [zS a p.length b]::aL 4 K a b p::L) w) aP ?_)))))))))
 obtain ⟨h1,d3,ho⟩:=aB hm
 refine cC [1,3] d3 (fun l a6 f w=>f 4=zB a6/\aF G K (box d 109 [zS a l.length b]::aL 4 K a b l::box e 35 c::L) w) aP ?_
 ·rintro l a6 a7 f h2 hm hr ⟨d4,d5⟩
  unfold mI at hm
  refine aM (aK (bC d4 (aH ?_)))
  rcases aN hm with ⟨a8,hm⟩|⟨a8,hm⟩
  ·refine aS a8 rfl (aY (aC (aQ [1,3] (fun f w=>∃ m q,zJ m q=some a7/\f 4=zB q/\aF G K (box d 109 [zS a m.length b]::aL 4 K a b m::box e 35 c::L) w) ?_ ?_)))
   ·rintro f h4 ⟨m,q,hm,d6,d7⟩
    unfold zJ at hm
    exact aC ⟨_,(zI hm).symm,bL,d6,d7⟩
   refine aK (aJ (v:=zB false) (aH (aK (aD (cJ sc_109 d5 (i:=0) rfl rfl rfl) (aD (bH (len:=l.length) lV rfl) (aG (v:=i64 0) (aH (aQ [1,3] (fun f w=>∃ r a9,aDu r a9=some a7/\f 4=zB a9/\aF G K (box d 109 [zS a r.length b]::aL 4 K a b r::box e 35 c::L) w) aP ?_))))))));obtain ⟨h5,d8,ho⟩:=aB hm
   refine oR [1,3,13] d8 (fun j u g f w=>f 4=zB u/\f 14=i64 g/\aF G K (box d 109 [zS a j.length b]::aL 4 K a b j::box e 35 c::L) w) aP ?_
   ·rintro j u g b0 f h7 hm hr ⟨h8,x,b1⟩
    unfold gW at hm
    refine aK (aD (cU x rfl) (aH (aM ?_)))
    rcases aN hm with ⟨b2,hm⟩|⟨b2,hm⟩
    ·refine aS b2 rfl (aY (aC (aM (aQ [1,3,13,14] (fun f w=>∃ n y,kP g n y=some b0/\f 4=zB y/\aF G K (box d 109 [zS a n.length b]::aL 4 K a b n::box e 35 c::L) w) ?_ ?_))))
     ·rintro f h9 ⟨n,y,hm,d9,e0⟩
      unfold kP at hm
      exact aC (aU (aD (dT x rfl) (aG (v:=i64 (wr (g+1))) (aH ⟨_,(zI hm).symm,bL,d9,rfl,e0⟩))))
     refine aK (bC x (aJ (v:=i64 g) (aH (aK (aD (jH (us:=c) kJ b1 (i:=2) rfl rfl rfl rfl) (aG (v:=i64 g) ?_))))));obtain ⟨e1,e2,hm⟩:=aB hm
     refine aR (vs:=[zA (zCa t a1 c2 a4 c5),i64 g]) call92 rfl (aAS e2 b1 h3 h6) ?_
     rintro _ i0 ⟨e3,e4,rfl,e5⟩
     refine aD (jZ (vs:=[zP (some ⟨d,0,none⟩)]) rfl) ?_;obtain ⟨i1,e6,e7,e8,e9⟩:=aF.lendSp e5 (zR _) .head
     obtain ⟨i2,f0,f1,f2,f3⟩:=aF.lendSp e8 e6 zt1
     obtain ⟨i3,b3,f4,f5,f6⟩:=aF.lendBp f2 .head
     obtain ⟨f7,f8,hm⟩:=aB hm
     refine aR (vs:=[zS e3 e1.length e4,Value.func (.func 196) #[] #[cR (some ⟨d,0,none⟩) 0]]) call195 rfl (jO f8 f5 (e7.mono (zL f0 b3)) f4 (f1.mono b3)) ?_
     rintro _ i4 ⟨rfl,f9⟩
     have g0:=f6 _ _ f9
     have g1:=f3 _ _ g0
     have i5:=e9 _ _ g1
     refine aJ (v:=zB f7) (aH (aM (cH [1,3,4,5,13,14] (fun f w=>∃ z,gV j u g z=some b0/\f 29=zB z/\aF G K (aL 4 K a b j::box d 109 [zS a j.length b]::box e 35 c::L) w) ?_ ?_)))
     ·rintro f i6 ⟨z,hm,g2,J⟩
      unfold gV at hm
      refine aC ?_
      rcases aN hm with ⟨b4,hm⟩|⟨b4,hm⟩
      ·refine aS b4 g2 (aK (aD (cJ sc_109 J (i:=1) rfl rfl rfl) (aG (v:=i64 g) ?_)));obtain ⟨i7,V,hm⟩:=aB hm
       have g3:=dU J (i:=0) rfl V
       refine aD (fL lV rfl g3 rfl rfl rfl V) ?_;obtain ⟨a0,b5,hm⟩:=aB hm
       refine nO (i:=0) (t:=0) (ns:=[zB false]) (e':=(false:Bool)) sizeOf4 J rfl (zR _) rfl rfl rfl V b5 rfl rfl (dQ rfl) rfl (fun cs h=>by cases h;rfl) (fun b6 (g4:aF G K (aL 4 K a b a0::box d 109 [zS a j.length b]::box e 35 c::L) b6)=>?_)
       have i8:aF G K (aL 4 K a b a0::box d 109 [zS a a0.length b]::box e 35 c::L) b6:=by rw [←(jG b5)];exact g4
       exact aP
      ·exact aP
     exact aP
    ·exact aP
  ·exact aP
theorem nM {s_:(List Int)} {a:Int} {R:Bool} (hm:dW s_ a=some R) (b:aF G K (L) w) (c:bG K a1 c2 s_):
  Calls prog 152 ([zS a1 s_.length c2,i64 a]:List Value).toArray w (eZ fun v w'=>v=zB R/\aF G K (L) w'):=by
 exact aP
theorem kB {s_ R:(List Int)} (hm:eN s_=some R) (hs:aF G K (aL 2 K a1 c2 s_::L) w):
  Calls prog 155 ([zS a1 s_.length c2]:List Value).toArray w (eZ fun v w'=>∃ a2 a3,v=zS a2 R.length a3/\aF G K (aL 2 K a2 a3 R::L) w'):=by
 refine aO func155 rfl (by kernel_rfl) (by show (1:Nat)<=61;decide) ?_;unfold eN at hm
 refine aK (aJ (v:=zS none 0 0) (aH (aM (aK (aG (v:=zS a1 s_.length c2) (aD (bH (len:=s_.length) bJ rfl) (aD (cU rfl rfl) (aH ?_))))))))
 rcases aN hm with ⟨c3,hm⟩|⟨c3,hm⟩
 ·exact aP
 ·refine bE c3 rfl (aY (aC (aM (aK (aJ (v:=i64 1) (aH (aQ [0] (fun f w=>pA s_=some R/\aF G K (aL 2 K a1 c2 s_::L) w) aP ?_)))))));obtain ⟨f2,d4,ho⟩:=aB hm
  refine fK [0] d4 (fun c f w=>f 3=i64 c/\aF G K (aL 2 K a1 c2 s_::L) w) aP ?_
  ·rintro c a5 f f3 hm hr ⟨l,a⟩
   unfold fD at hm
   refine aM (aK (bC l (aG (v:=zS a1 s_.length c2) (aD (bH (len:=s_.length) bJ rfl) (aD (cU rfl rfl) (aH ?_))))))
   rcases aN hm with ⟨a6,hm⟩|⟨a6,hm⟩
   ·refine aS a6 rfl (aY (aC (aM (aQ [0] (fun f w=>gX c=some a5/\f 3=i64 c/\aF G K (aL 2 K a1 c2 s_::L) w) ?_ ?_))))
    ·rintro f f4 ⟨hm,d5,d6⟩
     unfold gX at hm
     exact aC (aU (bC d5 (aD (dT rfl rfl) (aJ (v:=i64 (wr (c+1))) (aH ⟨_,(zI hm).symm,bL,rfl,d6⟩)))))
    refine aM (mC (C:=fun w'=>aF G K (aL 2 K a1 c2 s_::L) w') Tryz_mixed (by kernel_rfl) (aF.mono a (fJ.drew _)) (bX (fun _ a=>aW (v:=zS a1 s_.length c2) rfl) (bX (fun _ a=>aW l) ?_)));obtain ⟨f5,J,hm⟩:=aB hm
    have d:=dU a (i:=0) rfl J
    refine bX (fun _ a=>fL bJ rfl d rfl rfl rfl J) (bX (fun _ a=>rH (t:=0) dC a (i:=0) rfl J rfl rfl rfl) (bX (fun _ a=>aW (v:=zS a1 s_.length c2) rfl) (bX (fun _ a=>aW l) (bX (fun _ a=>uW rfl rfl) ?_))));obtain ⟨f6,a7,hm⟩:=aB hm
    refine bX (fun _ a=>fL bJ rfl d rfl rfl rfl a7) (bX (fun _ a=>rH (t:=0) dC a (i:=0) rfl a7 rfl rfl rfl) (bX (fun _ a=>aCs rfl rfl) (vN (fun f7 d7=>(aC ?_)))))
    rcases aN hm with ⟨a8,hm⟩|⟨a8,hm⟩
    ·refine aS a8 rfl (aK (aG (v:=zS a1 s_.length c2) (bC l ?_)));obtain ⟨e,m,hm⟩:=aB hm
     have o:=qJ d7 (i:=0) rfl
     obtain ⟨g,j,p⟩:=Cut.ex 1 a1 c2 c
     refine aD (aEq bJ o p rfl rfl rfl m) (aJ (v:=zS g e.length j) (aH (aM (aK (aJ (v:=i64 1) (aH (aQ [] (fun f w=>∃ q r,gZ q r=some a5/\f 0=zS a1 q.length c2/\f 3=i64 r/\aF G K (aL 2 K a1 c2 q::L) w) ?_ ?_)))))))
     ·rintro f f8 ⟨q,r,hm,a9,b0,b1⟩
      unfold gZ at hm
      refine aC (aK (bC a9 (bC b0 ?_)));obtain ⟨f9,d8,hm⟩:=aB hm
      have d9:=qJ b1 (i:=0) rfl
      obtain ⟨g0,g1,b2⟩:=Cut.ex 1 a1 c2 r
      refine aD (aEq bJ d9 b2 rfl rfl rfl d8) ?_;obtain ⟨b3,b4,hm⟩:=aB hm
      refine aGM bJ zD rfl b1 (i:=0) rfl b2 rfl rfl b4 (fun b5 (b6:aF G K (aL 2 K a1 c2 b3::L) b5)=>(aH (aK (bC (v:=zS a1 b3.length c2) (Eq.trans a9 (congrArg (fun n=>zS a1 n c2) (aDT b4))) (bC b0 ?_)))));obtain ⟨V,b7,hm⟩:=aB hm
      have e0:=qJ b6 (i:=0) rfl
      obtain ⟨b8,b9,c0⟩:=Cut.ex 1 a1 c2 0
      refine aD (aGa bJ e0 c0 rfl rfl rfl b7) (aJ (v:=zS b8 V.length b9) (aH (fU (lE (cT (cT (cT ?_)))))))
      have e1:=hr _ (zI hm).symm
      subst e1
      have hm:(some V)=some R:=ho
      clear hr ho
      have g2:aF G K (aL 2 K b8 b9 V::L) b5:=aF.cutP b6 (i:=0) rfl b7 c0
      exact aP
     obtain ⟨g3,e2,ho⟩:=aB hm
     refine oR [4] e2 (fun u x y f w=>f 0=zS a1 u.length c2/\f 3=i64 x/\f 5=i64 y/\aF G K (aL 2 K a1 c2 u::L) w) aP ?_
     ·rintro u x y e3 f g4 hm hr ⟨c1,c4,k,b⟩
      unfold fC at hm
      refine aM (aK (bC k (aG (v:=zS g e.length j) (aD (bH (len:=e.length) bJ rfl) (aD (cU rfl rfl) (aH ?_))))))
      rcases aN hm with ⟨c5,hm⟩|⟨c5,hm⟩
      ·refine aS c5 rfl (aY (aC (aM (aQ [4,5] (fun f w=>∃ z a0,fB y z a0=some e3/\f 0=zS a1 z.length c2/\f 3=i64 a0/\aF G K (aL 2 K a1 c2 z::L) w) ?_ ?_))))
       ·rintro f g5 ⟨z,a0,hm,e4,e5,e6⟩
        unfold fB at hm
        exact aC (aU (bC k (aD (dT rfl rfl) (aJ (v:=i64 (wr (y+1))) (aH ⟨_,(zI hm).symm,bL,e4,e5,rfl,e6⟩)))))
       refine aM (mC (C:=fun w'=>aF G K (aL 2 K a1 c2 u::L) w') Tryz_mixed (by kernel_rfl) (aF.mono b (fJ.drew _)) (bX (fun _ b=>aW (v:=zS g e.length j) rfl) (bX (fun _ b=>aW k) ?_)));obtain ⟨g6,c6,hm⟩:=aB hm
       obtain ⟨c7,c8,hm⟩:=aB hm
       refine bX (fun _ b=>aIp bJ d p m o rfl rfl rfl c6 rfl) (bX (fun _ b=>rH (t:=0) dC b (i:=0) rfl c8 rfl rfl rfl) (bX (fun _ b=>aW (v:=zS g e.length j) rfl) (bX (fun _ b=>aW k) (bX (fun _ b=>uW rfl rfl) ?_))));obtain ⟨g7,e7,hm⟩:=aB hm
       obtain ⟨g8,e8,hm⟩:=aB hm
       refine bX (fun _ b=>aIp bJ d p m o rfl rfl rfl e7 rfl) (bX (fun _ b=>rH (t:=0) dC b (i:=0) rfl e8 rfl rfl rfl) (bX (fun _ b=>aFQ rfl rfl) (vN (fun g9 c9=>(aC ?_)))))
       rcases aN hm with ⟨d0,hm⟩|⟨d0,hm⟩
       ·refine aS d0 rfl (aK (bC c1 (bC c4 (aG (v:=zS g e.length j) (bC k (aD (aIp bJ d p m o rfl rfl rfl c6 rfl) (aD (rH (t:=0) dC c9 (i:=0) rfl c8 rfl rfl rfl) ?_)))))));obtain ⟨h0,d1,hm⟩:=aB hm
        refine aD (fL bJ rfl d rfl rfl rfl d1) ?_;obtain ⟨d2,d3,hm⟩:=aB hm
        exact nO (i:=0) (t:=0) (ns:=[i64 c7]) (e':=(c7:Int)) sizeOf2 c9 rfl (zR _) rfl rfl rfl d1 d3 rfl rfl (dQ rfl) rfl (fun cs h=>by cases h;rfl) (fun e9 (f0:aF G K (aL 2 K a1 c2 d2::L) e9)=>(aH (aU (bC c4 (aD (dT rfl rfl) (aJ (v:=i64 (wr (x+1))) (aT (dB (aC ⟨bL,d2,wr (x+1),hm,(Eq.trans c1 (congrArg (fun n=>zS a1 n c2) (jG d3))),rfl,f0⟩)))))))))
       ·exact aP
      ·exact aP
    ·exact aP
   ·exact aP
theorem aEi {t:bB} {q:(List Int)} {u:aI} {R:(List Int)} (hm:aAM t q u=some R) (hs:aF G K (L) w) (h3:bG K a1 c2 t.L) (x:bG K a4 c5 t.E) (h9:bG K a7 c8 q):
  Calls prog 237 ([zA (zCa t a1 c2 a4 c5),zS a7 q.length c8,str u]:List Value).toArray w (eZ fun v w'=>∃ y z,v=zS y R.length z/\aF G K (aL 2 K y z R::L) w'):=by
 let e:=(zC t a1 c2 a4 c5)
 refine aO func237 rfl (by kernel_rfl) (by show (3:Nat)<=41;decide) ?_;unfold aAM at hm
 refine aK (dJ (v:=zA (zCa t a1 c2 a4 c5)) (vs:=e) hs rfl rfl (fun l c7 J=>(aJ (v:=zS none 0 0) (aH (aK (aJ (v:=zS none 0 0) (aH (aM (aK (aD (aV (t':=3) fY rfl rfl) (aD (cJ oJ J (i:=0) rfl rfl rfl) (aD (bH (len:=t.E.length) cS rfl) (aG (v:=i64 0) (aH (aQ [] (fun f w=>∃ g b c,yQ g=some R/\f 7=zS b g.length c/\aF G K (aL 2 K b c g::L) w) ?_ ?_)))))))))))))))
 ·rintro f c9 ⟨g,b,c,hm,V,b1⟩
  unfold yQ at hm
  refine aC (aK (bC V ?_));obtain ⟨a0,b2,hm⟩:=aB hm
  refine aR (vs:=[zS b g.length c]) call153 rfl (aEh b1 b2) ?_
  rintro _ d0 ⟨rfl,b3,b4⟩
  refine aH (aK (bC (v:=zS b a0.length c) (Eq.trans V (congrArg (fun n=>zS b n c) b3)) ?_));obtain ⟨d1,b5,hm⟩:=aB hm
  exact aR (vs:=[zS b a0.length c]) call155 rfl (kB b5 b4) aP
 have d2:=aF.nil (α:=Int) J 2 K
 obtain ⟨d3,b6,ho⟩:=aB hm
 refine cC [1,2,3,11,12] b6 (fun d h f w=>∃ j k,f 7=zS j d.length k/\f 13=i64 h/\aF G K (aL 2 K j k d::box l 35 e::L) w) aP ?_
 ·rintro d h a2 f d4 hm hr ⟨j,k,d5,r,a3⟩
  unfold tW at hm
  refine aK (aD (cU r rfl) (aH (aM ?_)))
  rcases aN hm with ⟨a5,hm⟩|⟨a5,hm⟩
  ·refine aS a5 rfl (aY (aC (aM (aQ [1,2,3,11,12,13] (fun f w=>∃ m o p,tV h m=some a2/\f 7=zS o m.length p/\aF G K (aL 2 K o p m::box l 35 e::L) w) ?_ ?_))))
   ·rintro f d6 ⟨m,o,p,hm,b7,b8⟩
    unfold tV at hm
    exact aC (aU (aD (dT r rfl) (aG (v:=i64 (wr (h+1))) (aH ⟨_,(zI hm).symm,bL,o,p,b7,rfl,b8⟩))))
   refine aK ?_;obtain ⟨a,a6,hm⟩:=aB hm
   refine aD (dP cS rfl x rfl rfl r a6) ?_;obtain ⟨d7,b9,c0⟩:=bG.el (sz:=3) rfl x a6
   cases c0
   exact aD (fP (t:=0) (vs:=[i64 a.F,i64 a.B,i64 a.To]) qA a3 b9 rfl rfl rfl) (aZ (vs:=[i64 0,i64 0,i64 0]) zeroValue70 a3 rfl (fun a8 d8 c1=>(bS (i:=0) (ns:=[i64 a.F,i64 a.B,i64 a.To]) (us:=[i64 a.F,i64 a.B,i64 a.To]) sizeOf70 c1 rfl rfl rfl rfl rfl (dQ rfl) rfl rfl (fun c3 (d9:aF G K (box a8 70 [i64 a.F,i64 a.B,i64 a.To]::aL 2 K j k d::box l 35 e::L) c3)=>(aH (aM (cH [1,2,3,7,9,11,12,13] (fun f w=>∃ a9,yR d h a a9=some a2/\f 30=zB a9/\aF G K (box a8 70 [i64 a.F,i64 a.B,i64 a.To]::aL 2 K j k d::box l 35 e::L) w) aP aP)))))))
  ·exact aP
theorem iB {s_ R:(List Int)} (hm:cZ s_=some R) (h:aF G K (L) w) (c:bG K a1 c2 s_):
  Calls prog 91 ([zS a1 s_.length c2]:List Value).toArray w (eZ fun v w'=>∃ d e,v=zS d R.length e/\aF G K (aL 2 K d e R::L) w'):=by
 refine aO func91 rfl (by kernel_rfl) (by show (1:Nat)<=8;decide) ?_;unfold cZ at hm
 refine aK (aJ (v:=zS none 0 0) (aH (aM (aK (aG (v:=zS a1 s_.length c2) (aD (aIr bJ rfl rfl) (aH ?_)))))))
 rcases aGO c with ⟨j,k,l⟩|m
 ·subst j;subst k;subst l
  refine aIa rfl ?_
  replace hm:(some [])=some R:=hm
  exact aP
 ·refine aIb (Eq.trans rfl (congrArg zB m)) (aY (aC (aK (cK (Kt:=K) (xs:=([]:List Int)) (cs:=[]) (vs:=[]) bJ zD rfl rfl h rfl (by kernel_rfl) rfl rfl rfl trivial (fun n o (p:aF G K (aL 2 K n 0 ([]:List Int)::L) o)=>(aG (v:=zS a1 s_.length c2) ?_))))));obtain ⟨g,q,hm⟩:=aB hm
  refine aFd (i:=0) bJ underlying29 zD rfl rfl p rfl (zR _) c q rfl rfl rfl rfl (fun a b r (t:aF G K (aL 2 K a b g::L) r)=>(aJ (v:=zS a g.length b) (aH ?_)));obtain rfl:=zI hm
  exact fU (eE results91 rfl ⟨a,b,rfl,t⟩)
theorem aCB {t:bB} {d R:(List Int)} (hm:pB t d=some R) (hs:aF G K (L) w) (h3:bG K a1 c2 t.L) (h6:bG K a4 c5 t.E) (h9:bG K a7 c8 d):
  Calls prog 197 ([zA (zCa t a1 c2 a4 c5),zS a7 d.length c8]:List Value).toArray w (eZ fun v w'=>∃ a9 b0,v=zS a9 R.length b0/\aF G K (aL 2 K a9 b0 R::L) w'):=by
 let c:=(zC t a1 c2 a4 c5)
 refine aO func197 rfl (by kernel_rfl) (by show (2:Nat)<=41;decide) ?_;unfold pB at hm
 refine aK (dJ (v:=zA (zCa t a1 c2 a4 c5)) (vs:=c) hs rfl rfl (fun e g9 d6=>(aJ (v:=zS none 0 0) (aH (aK (aG (v:=zS a7 d.length c8) ?_))))));obtain ⟨d7,d8,hm⟩:=aB hm
 refine aR (vs:=[zS a7 d.length c8]) call91 rfl (iB d8 d6 h9) ?_
 rintro _ h0 ⟨d9,e0,rfl,h1⟩
 refine aJ (v:=zS d9 d7.length e0) (aH (aM (aK (aJ (v:=i64 0) (aH (aQ [] (fun f w=>∃ g a b,uZ g=some R/\f 5=zS a g.length b/\aF G K (aL 2 K a b g::L) w) ?_ ?_))))))
 ·rintro f h2 ⟨g,a,b,hm,b1,e1⟩
  unfold uZ at hm
  refine aC (aK (bC b1 ?_));obtain ⟨b2,e2,hm⟩:=aB hm
  refine aR (vs:=[zS a g.length b]) call153 rfl (aEh e1 e2) ?_
  rintro _ h4 ⟨rfl,e3,e4⟩
  refine aH (aK (bC (v:=zS a b2.length b) (Eq.trans b1 (congrArg (fun n=>zS a n b) e3)) (aJ (v:=zS a b2.length b) (aH ?_))));obtain rfl:=zI hm
  exact fU (eE results197 rfl ⟨a,b,rfl,e4⟩)
 obtain ⟨h5,e6,ho⟩:=aB hm
 refine cC [2] e6 (fun l h f w=>∃ y z,f 5=zS y l.length z/\f 6=i64 h/\aF G K (aL 2 K y z l::box e 35 c::L) w) aP ?_
 ·rintro l h b3 f h7 hm hr ⟨y,z,b4,J,e7⟩
  unfold qS at hm
  refine aM (aK (bC J (bC b4 (aD (bH (len:=l.length) bJ rfl) (aD (cU rfl rfl) (aH ?_))))))
  rcases aN hm with ⟨b5,hm⟩|⟨b5,hm⟩
  ·refine aS b5 rfl (aY (aC (aM (aQ [2,6] (fun f w=>∃ m o p,vA h m=some b3/\f 5=zS o m.length p/\aF G K (aL 2 K o p m::box e 35 c::L) w) ?_ ?_))))
   ·rintro f h8 ⟨m,o,p,hm,e8,e9⟩
    unfold vA at hm
    exact aC (aU (bC J (aD (dT rfl rfl) (aJ (v:=i64 (wr (h+1))) (aH ⟨_,(zI hm).symm,bL,o,p,e8,rfl,e9⟩)))))
   refine aM ?_;obtain ⟨i0,V,b6,f0,f1⟩:=aF.lendSp e7 (zR _) .head
   obtain ⟨b7,i,f2,b8,f3⟩:=aF.lendBp f0 .head
   refine cW (C:=fun w'=>∃ L',aF G b7 L' w') [(0,0),(1,0),(2,0),(3,0),(4,0),(8,0),(5,1),(6,1),(7,0)] Tryz_mixed (by kernel_rfl) (fun _ hg=>⟨_,aF.mono b8 hg⟩) (fun i1 f4=>?_)
   have j:=aF.mono b8 f4
   refine bA rfl (fun _ ⟨_,j⟩=>fP (t:=0) (vs:=c) kJ j f2 rfl rfl rfl) (bA rfl (fun _ _=>aW b4) (bA rfl (fun _ _=>aW J) ?_));obtain ⟨k,a0,hm⟩:=aB hm
   have f5:=aKc (b6.mono i) a0
   refine bA rfl (fun _ _=>fL bJ rfl f5 rfl rfl rfl a0) ?_;obtain ⟨i2,f6,f7⟩:=bG.el (sz:=1) rfl (b6.mono i) a0
   cases f7
   refine bA rfl (fun _ ⟨_,j⟩=>bD (t:=0) dC j f6 rfl rfl) (bA rfl (fun _ _=>aW (v:=i64 0) rfl) (jN rfl (cK (Kt:=K) (xs:=([k]:List Int)) (cs:=[i64 k]) (vs:=[(0,i64 k)]) bJ zD rfl rfl j rfl (by kernel_rfl) rfl rfl rfl ⟨rfl,trivial⟩ (fun b9 f8 (c0:aF G b7 (aL 2 K b9 1 ([k]:List Int)::L) f8)=>(aT (aC ⟨⟨_,c0⟩,?_⟩))))))
   refine jN rfl ?_;obtain ⟨i3,c1,f9,g0,g1⟩:=aF.lendSp c0 (zL V i) .head
   obtain ⟨a2,g2,hm⟩:=aB hm
   refine aR (vs:=[zA (zCa t a1 c2 a4 c5),zS b9 ([k]:List Int).length 1,str ([116,97,117]:aI)]) call237 rfl (aEi g2 g0 (h3.mono (zL (zL V i) c1)) (h6.mono (zL (zL V i) c1)) f9) ?_
   rintro _ i4 ⟨c3,c4,rfl,g3⟩
   have c6:=g1 _ _ g3
   refine aT (aC ⟨⟨_,c6⟩,?_⟩)
   refine bA rfl (fun _ _=>bH (len:=a2.length) bJ rfl) (oS ?_)
   have g4:=f3 _ _ c6
   have i5:=f1 _ _ g4
   refine aC (aQ [2,6] (fun f w=>∃ a3 c7 c9,aAN h a3=some b3/\f 5=zS c7 a3.length c9/\aF G K (aL 2 K c7 c9 a3::box e 35 c::L) w) aP ?_);obtain ⟨i6,g5,ho⟩:=aB hm
   refine cC [2,6,23,24] g5 (fun a5 q f w=>∃ a6 a8,f 5=zS a6 a5.length a8/\f 25=i64 q/\aF G K (aL 2 K a6 a8 a5::box e 35 c::aL 2 K c3 c4 a2::L) w) aP ?_
   ·rintro a5 q g6 f i7 hm hr ⟨a6,a8,i8,d0,i9⟩
    unfold nH at hm
    refine aK (aD (cU d0 rfl) (aH (aM ?_)))
    rcases aN hm with ⟨d1,hm⟩|⟨d1,hm⟩
    ·refine aS d1 rfl (aY (aC (aM (aQ [2,6,23,24,25] (fun f w=>∃ r u x,qR q r=some g6/\f 5=zS u r.length x/\aF G K (aL 2 K u x r::box e 35 c::aL 2 K c3 c4 a2::L) w) ?_ ?_))))
     ·rintro f j0 ⟨r,u,x,hm,g7,g8⟩
      unfold qR at hm
      exact aC (aU (aD (dT d0 rfl) (aG (v:=i64 (wr (q+1))) (aH ⟨_,(zI hm).symm,bL,u,x,g7,rfl,g8⟩))))
     exact aP
    ·exact aP
  ·exact aP
theorem aAj {t:bB} {R:(List (List Int))} (hm:pC t=some R) (hs:aF G K (L) w) (h3:bG K a1 c2 t.L) (h6:bG K a4 c5 t.E):
  Calls prog 151 ([zA (zCa t a1 c2 a4 c5)]:List Value).toArray w (eZ fun v w'=>∃ y z o,v=zS y R.length z/\List.length o=List.length R/\aF G K (aL 29 K y z (cP o R)::rows [2] o R::L) w'):=by
 let g:=(zC t a1 c2 a4 c5)
 refine aO func151 rfl (by kernel_rfl) (by show (1:Nat)<=19;decide) ?_;unfold pC at hm
 refine aK (dJ (v:=zA (zCa t a1 c2 a4 c5)) (vs:=g) hs rfl rfl (fun h w8 J=>(aJ (v:=zS none 0 0) (aH (aK (aJ (v:=zS none 0 0) (aH (aM (aK (aD (aV (t':=0) gT rfl rfl) (aD (cJ dC J (i:=0) rfl rfl rfl) (aG (v:=i64 0) (aH (aQ [] (fun f w=>∃ n V a0 p,aBb n=some R/\f 3=zS V n.length a0/\List.length p=List.length n/\aF G K (aL 29 K V a0 (cP p n)::rows [2] p n::L) w) aP ?_))))))))))))))
 have b3:aF G K (aL 29 K none 0 (cP ([]:List (Dp.Hd (List Int))) ([]:List (List Int)))::rows [2] ([]:List (Dp.Hd (List Int))) ([]:List (List Int))::box h 35 g::L) w8:=aF.nil (α:=Cells _) (aF.rowsNil (α:=(List Int)) (tys:=[2]) J) 29 K
 obtain ⟨d4,b4,ho⟩:=aB hm
 refine cC [1,6] b4 (fun c b f w=>∃ j k a,f 3=zS j c.length k/\f 7=i64 b/\List.length a=List.length c/\aF G K (aL 29 K j k (cP a c)::rows [2] a c::box h 35 g::L) w) ?_ ?_
 ·exact ⟨none,0,[],rfl,rfl,rfl,b3⟩
 ·rintro c b d5 f d6 hm hr ⟨j,k,a,b5,q,a2,a3⟩
  unfold kF at hm
  refine aK (aD (cU q rfl) (aH (aM ?_)))
  rcases aN hm with ⟨a5,hm⟩|⟨a5,hm⟩
  ·refine aS a5 rfl (aY (aC (aM (cV (aK (bC q (aJ (v:=i64 b) (aH (aU (bC b5 (aD (jH (us:=g) kJ a3 (i:=2) rfl rfl rfl rfl) (aG (v:=i64 b) (cK (Kt:=K) (xs:=([b]:List Int)) (cs:=[i64 b]) (vs:=[(0,i64 b)]) bJ zD rfl rfl a3 rfl (by kernel_rfl) rfl rfl rfl ⟨rfl,trivial⟩ (fun m b6 (b8:aF G K (aL 2 K m 1 ([b]:List Int)::aL 29 K j k (cP a c)::rows [2] a c::box h 35 g::L) b6)=>?_))))))))))))));obtain ⟨d7,a6,b9,c0,c1⟩:=aF.lendSp b8 (zR _) .head
   obtain ⟨l,c3,hm⟩:=aB hm
   refine aR (vs:=[zA (zCa t a1 c2 a4 c5),zS m ([b]:List Int).length 1]) call197 rfl (aCB c3 c0 (h3.mono a6) (h6.mono a6) b9) ?_
   rintro _ a7 ⟨d,e,rfl,c4⟩
   have c6:=c1 _ _ c4
   have c7:aF G K (aL 2 K d e l::aL 2 K m 1 ([b]:List Int)::aL 29 K j k (cP a c)::rows [2] a c::box h 35 g::L) a7:=(aF.arr 2 [1,0] c6 rfl)
   have c8:aF G K (rows [2] ([(d,e)]:List (Dp.Hd (List Int))) [l]::aL 2 K m 1 ([b]:List Int)::aL 29 K j k (cP a c)::rows [2] a c::box h 35 g::L) a7:=aF.rowsOne c7
   refine cK (Kt:=K) (xs:=cP ([(d,e)]:List (Dp.Hd (List Int))) ([l]:List (List Int))) (cs:=[zS d l.length e]) (vs:=[(0,zS d l.length e)]) nW aDk rfl rfl c8 rfl (by kernel_rfl) rfl rfl rfl ⟨rfl,trivial⟩ ?_
   intro c9 d0 (d1:aF G K (aL 29 K c9 1 (cP ([(d,e)]:List (Dp.Hd (List Int))) ([l]:List (List Int)))::rows [2] ([(d,e)]:List (Dp.Hd (List Int))) ([l]:List (List Int))::aL 2 K m 1 ([b]:List Int)::aL 29 K j k (cP a c)::rows [2] a c::box h 35 g::L) d0)
   obtain ⟨r,a8,hm⟩:=aB hm
   refine aMT (i:=1) (tys:=[2]) (hds:=a) (hds2:=([(d,e)]:List (Dp.Hd (List Int)))) nW underlying39 aDk rfl rfl d1 a2 rfl rfl rfl a8 rfl rfl rfl rfl ?_
   intro u x d2 (d3:aF G K (aL 29 K u x (cP (a++([(d,e)]:List (Dp.Hd (List Int)))) r)::rows [2] (a++([(d,e)]:List (Dp.Hd (List Int)))) r::aL 2 K m 1 ([b]:List Int)::box h 35 g::L) d2)
   exact aJ (v:=zS u r.length x) (aT (dB (aC (aU (aD (dT q rfl) (aG (v:=i64 (wr (b+1))) (aH ⟨_,(zI hm).symm,bL,u,x,(a++([(d,e)]:List (Dp.Hd (List Int)))),rfl,rfl,(aKb a2 rfl a8),(aF.arr 3 [0,1] d3 rfl)⟩)))))))
  ·exact aP
theorem aFp {is:Bool} {R:Int} (hm:aNf is=some R) (a:aF G K (L) w):
  Calls prog 154 ([zB is]:List Value).toArray w (eZ fun v w'=>v=i64 R/\aF G K (L) w'):=by
 exact aP
theorem aLR {j R:(List Int)} (hm:aGr j=some R) (hs:aF G K (L) w) (y:bG K a1 c2 j):
  Calls prog 201 ([zS a1 j.length c2]:List Value).toArray w (eZ fun v w'=>∃ J V,v=zS J R.length V/\aF G K (aL 2 K J V R::L) w'):=by
 refine aO func201 rfl (by kernel_rfl) (by show (1:Nat)<=39;decide) ?_;unfold aGr at hm
 refine aK (aJ (v:=zS none 0 0) (aH (aK (aOd Int Int hs ?_))))
 intro c w5 (b1:aF G K (rL c ([]:(List (Int × Int)))::L) w5)
 refine aJ (v:=Value.map (some c)) (aH (aK (aG (v:=zS a1 j.length c2) (aD (bH (len:=j.length) bJ rfl) ?_))));obtain ⟨a,q8,hm⟩:=aB hm
 refine aIf (e:=(0:Int)) bJ zD rfl rfl b1 rfl rfl rfl q8 rfl ?_
 intro d b3 (c7:aF G K (aL 2 K d a.length a::rL c ([]:(List (Int × Int)))::L) b3)
 refine aJ (v:=zS d a.length a.length) (aH (aM (aK (aG (v:=zS a1 j.length c2) (aD (bH (len:=j.length) bJ rfl) (aG (v:=i64 0) (aH (aQ [] (fun f w=>∃ u,aJD u=some R/\f 4=zS d u.length a.length/\aF G K (aL 2 K d a.length u::L) w) aP ?_))))))));obtain ⟨c8,b4,ho⟩:=aB hm
 refine oR [3,13,14] b4 (fun b l m f w=>f 4=zS d l.length a.length/\f 15=i64 m/\aF G K (aL 2 K d a.length l::rL c b::L) w) aP ?_
 ·rintro b l m b5 f c9 hm hr ⟨a0,p,q⟩
  unfold sP at hm
  refine aK (aD (cU p rfl) (aH (aM ?_)))
  rcases aN hm with ⟨a2,hm⟩|⟨a2,hm⟩
  ·refine aS a2 rfl (aY (aC (aM (cV (aK (bC p ?_))))));obtain ⟨g,a3,hm⟩:=aB hm
   refine aD (dP bJ rfl y rfl rfl p a3) ?_;obtain ⟨d0,b6,b7⟩:=bG.el (sz:=1) rfl y a3
   cases b7
   refine aD (bD (t:=0) dC q b6 rfl rfl) (aJ (v:=i64 m) (aJ (v:=i64 g) (aH (aK (aG (v:=Value.map (some c)) (aG (v:=i64 g) (aD (R_look (kv:=b) (k:=g) (z:=(0:Int)) runUnderlying269 ko_2 zeroValue2 q (i:=1) rfl rfl rfl) (aG (v:=Value.tuple #[i64 ((xT b g).getD 0),zB ((xT b g).isSome)]) (aD (bV rfl rfl) (aD (bV rfl rfl) (aJ (v:=i64 ((xT b g).getD 0)) (aJ (v:=zB ((xT b g).isSome)) (aH (mB [3,4,5,13,14,15] (fun f w=>∃ r o,aBV l m r o=some b5/\f 7=i64 o/\aF G K (aL 2 K d a.length l::rL c r::L) w) ?_ ?_))))))))))))))
   ·rintro f d1 ⟨r,o,hm,b8,a4⟩
    unfold aBV at hm
    refine aU (bC a0 (aG (v:=i64 m) (bC b8 ?_)));obtain ⟨d2,x,hm⟩:=aB hm
    have b9:=dU a4 (i:=0) rfl x
    refine aD (fL bJ rfl b9 rfl rfl rfl x) ?_;obtain ⟨c0,a5,hm⟩:=aB hm
    exact nO (i:=0) (t:=0) (ns:=[i64 o]) (e':=(o:Int)) sizeOf2 a4 rfl (zR _) rfl rfl rfl x a5 rfl rfl (dQ rfl) rfl (fun cs h=>by cases h;rfl) (fun c1 (c3:aF G K (aL 2 K d a.length c0::rL c r::L) c1)=>(aT (dB (aC (aU (aD (dT p rfl) (aG (v:=i64 (wr (m+1))) (aH ⟨_,(zI hm).symm,bL,(Eq.trans a0 (congrArg (fun n=>zS d n a.length) (jG a5))),rfl,c3⟩))))))))
   refine aK (aG (v:=zB ((xT b g).isSome)) (aD (aFA rfl) (aH ?_)))
   rcases aN hm with ⟨a6,hm⟩|⟨a6,hm⟩
   ·refine aS a6 rfl (aK (aG (v:=Value.map (some c)) (aD (R_lenM runUnderlying269 q (i:=1) rfl rfl) (aJ (v:=i64 (b.length:Int)) (aH (aU (aG (v:=Value.map (some c)) (aG (v:=i64 g) (aG (v:=i64 (b.length:Int)) ?_)))))))));obtain ⟨a7,c4,hm⟩:=aB hm
    exact aOe (i:=1) (k:=g) (v:=(b.length:Int)) runUnderlying269 ko_2 q rfl rfl rfl rfl c4 (fun c5 (c6:aF G K (aL 2 K d a.length l::rL c a7::L) c5)=>(aH ⟨bL,a7,(b.length:Int),hm,rfl,c6⟩))
   ·exact aP
  ·exact aP
theorem pO {a b:(List Int)} {R:Bool} (hm:dA a b=some R) (g:aF G K (L) w) (h:bG K a1 c2 a) (i:bG K a4 c5 b):
  Calls prog 128 ([zS a1 a.length c2,zS a4 b.length c5]:List Value).toArray w (eZ fun v w'=>v=zB R/\aF G K (L) w'):=by
 refine aO func128 rfl (by kernel_rfl) (by show (2:Nat)<=26;decide) ?_;unfold dA at hm
 refine aK (aJ (v:=zB false) (aH (aM (aK (aG (v:=zS a1 a.length c2) (aD (bH (len:=a.length) bJ rfl) (aG (v:=zS a4 b.length c5) (aD (bH (len:=b.length) bJ rfl) (aD (aFQ rfl rfl) (aH ?_))))))))))
 rcases aN hm with ⟨c,hm⟩|⟨c,hm⟩
 ·exact aP
 ·refine bE c rfl (aY (aC (aM (aK (aG (v:=zS a1 a.length c2) (aD (bH (len:=a.length) bJ rfl) (aG (v:=i64 0) (aH (aQ [] (fun f w=>qT=some R/\aF G K (L) w) aP ?_)))))))));obtain ⟨j,d,ho⟩:=aB hm
  exact fK [0,1,12] d (fun e f w=>f 13=i64 e/\aF G K (L) w) aP aP
theorem aBZ {k p:(List Int)} {a:Nat} {R:Bool} (hm:aCm k p=some R) (b:aF G K (L) w) (c:bG K a1 c2 k) (d:fV K a4 a [zS a7 p.length c8]) (e:bG K a7 c8 p):
  Calls prog 200 ([zS a1 k.length c2,cR a4 a]:List Value).toArray w (eZ fun v w'=>v=zB R/\aF G K (L) w'):=by
 exact aP
theorem lL {s_:(List (List Int))} {c:(List Int)} {a:Nat} {R:Int} (hm:dX s_ c=some R) (x:aF G K (L) w) (d:bG K a1 c2 s_) (m:fV K a4 a [zS a7 c.length c8]) (n:bG K a7 c8 c):
  Calls prog 199 ([zS a1 s_.length c2,Value.func (.func 200) #[] #[cR a4 a]]:List Value).toArray w (eZ fun v w'=>v=i64 R/\aF G K (L) w'):=by
 refine aO func199 rfl (by kernel_rfl) (by show (2:Nat)<=19;decide) ?_;unfold dX at hm
 refine aK (aJ (v:=i64 0) (aH (aM (aK (aG (v:=zS a1 s_.length c2) (aD (bH (len:=s_.length) nW rfl) (aG (v:=i64 0) (aH (aQ [] (fun f w=>lY=some R/\aF G K (L) w) aP ?_)))))))));obtain ⟨y,o,ho⟩:=aB hm
 refine fK [0,1,7] o (fun b f w=>f 8=i64 b/\aF G K (L) w) aP ?_
 ·rintro b z f J hm hr ⟨e,g⟩
  unfold cG at hm
  refine aK (aD (cU e rfl) (aH (aM ?_)))
  rcases aN hm with ⟨h,hm⟩|⟨h,hm⟩
  ·refine aS h rfl (aY (aC (aM (cV (aK (bC e (aJ (v:=i64 b) (aH (aK (aG (v:=Value.func (.func 200) #[] #[cR a4 a]) (aG (v:=zS a1 s_.length c2) (aG (v:=i64 b) ?_))))))))))));obtain ⟨i,j,hm⟩:=aB hm
   refine aD (dP nW rfl d rfl rfl rfl j) ?_;obtain ⟨V,p,q⟩:=bG.el (sz:=1) rfl d j
   obtain ⟨k,l,rfl,r⟩:=q
   refine aD (bD (t:=0) aAs g p rfl rfl) ?_;obtain ⟨a0,u,hm⟩:=aB hm
   exact iS (vs:=[zS k i.length l]) (caps:=[cR a4 a]) (us:=[zS k i.length l,cR a4 a]) rfl call200 rfl rfl (aBZ u g r m n) aP
  ·exact aP
theorem aEj {a:(List (List Int))} {R:(List Int)} (hm:aAO a=some R) (hs:aF G K (L) w) (g:bG K a1 c2 a):
  Calls prog 156 ([zS a1 a.length c2]:List Value).toArray w (eZ fun v w'=>∃ o p,v=zS o R.length p/\aF G K (aL 2 K o p R::L) w'):=by
 refine aO func156 rfl (by kernel_rfl) (by show (1:Nat)<=29;decide) ?_;unfold aAO at hm
 refine aK (aJ (v:=zS none 0 0) (aH (aK (aJ (v:=zS none 0 0) (aH (aM (aK (aG (v:=zS a1 a.length c2) (aD (bH (len:=a.length) nW rfl) (aG (v:=i64 0) (aH (aQ [] (fun f w=>∃ h q r,aCn h=some R/\f 3=zS q h.length r/\aF G K (aL 2 K q r h::L) w) aP ?_))))))))))))
 have c3:=aF.nil (α:=Int) hs 2 K
 obtain ⟨c4,a3,ho⟩:=aB hm
 refine cC [0,7,8] a3 (fun b c f w=>∃ d e,f 3=zS d b.length e/\f 9=i64 c/\aF G K (aL 2 K d e b::L) w) aP ?_
 ·rintro b c a4 f c5 hm hr ⟨d,e,c7,j,u⟩
  unfold lS at hm
  refine aK (aD (cU j rfl) (aH (aM ?_)))
  rcases aN hm with ⟨x,hm⟩|⟨x,hm⟩
  ·refine aS x rfl (aY (aC (aM (cV (aK (bC j ?_))))));obtain ⟨k,y,hm⟩:=aB hm
   refine aD (dP nW rfl g rfl rfl j y) ?_;obtain ⟨c8,a6,a7⟩:=bG.el (sz:=1) rfl g y
   obtain ⟨l,m,rfl,a8⟩:=a7
   refine aD (bD (t:=0) aAs u a6 rfl rfl) (aZ (vs:=[zS none 0 0]) zeroValue29 u rfl (fun n c9 a9=>(aJ (v:=i64 c) (bS (i:=0) (ns:=[zS l k.length m]) (us:=[zS l k.length m]) sizeOf29 a9 rfl rfl rfl rfl rfl (dQ rfl) rfl rfl (fun b0 (b1:aF G K (box n 29 [zS l k.length m]::aL 2 K d e b::L) b0)=>(aH (aK (aG (v:=zS a1 a.length c2) (aG (v:=i64 c) ?_)))))))));obtain ⟨b2,z,hm⟩:=aB hm
   obtain ⟨b3,b4,J⟩:=Cut.ex 1 a1 c2 0
   have b5:=bG.cut' g z J
   refine aD (aGa nW g.room J rfl rfl rfl z) (aD (jZ (vs:=[zP (some ⟨n,0,none⟩)]) rfl) ?_);obtain ⟨d0,V,b6,b7,b8⟩:=aF.lendBp b1 .head
   obtain ⟨b9,c0,hm⟩:=aB hm
   refine aR (vs:=[zS b3 b2.length b4,Value.func (.func 200) #[] #[cR (some ⟨n,0,none⟩) 0]]) call199 rfl (lL c0 b7 (b5.mono V) b6 (a8.mono V)) ?_
   rintro _ d1 ⟨rfl,c1⟩
   have d2:=b8 _ _ c1
   exact aJ (v:=i64 b9) (aH (mB [0,3,7,8,9] (fun f w=>∃ a0,yS b c a0=some a4/\f 6=i64 a0/\aF G K (aL 2 K d e b::L) w) aP aP))
  ·exact aP
theorem aDH {t:bB} {p:(List Int)} {c6:Bool} {R:(List Int)} (hm:lZ t p c6=some R) (hs:aF G K (L) w) (h3:bG K a1 c2 t.L) (h6:bG K a4 c5 t.E) (h9:bG K a7 c8 p):
  Calls prog 107 ([zA (zCa t a1 c2 a4 c5),zS a7 p.length c8,zB c6]:List Value).toArray w (eZ fun v w'=>∃ h8 i0,v=zS h8 R.length i0/\aF G K (aL 2 K h8 i0 R::L) w'):=by
 let o:=(zC t a1 c2 a4 c5)
 refine aO func107 rfl (by kernel_rfl) (by show (3:Nat)<=98;decide) ?_;unfold lZ at hm
 refine aK (dJ (v:=zA (zCa t a1 c2 a4 c5)) (vs:=o) hs rfl rfl (fun y u9 i1=>(aJ (v:=zS none 0 0) (aH (aK (aD (jH (us:=o) kJ i1 (i:=0) rfl rfl rfl rfl) (aG (v:=zS a7 p.length c8) ?_)))))));obtain ⟨j,m2,hm⟩:=aB hm
 refine aR (vs:=[zA (zCa t a1 c2 a4 c5),zS a7 p.length c8]) call149 rfl (wG m2 i1 h3 h6 h9) ?_
 rintro _ v0 ⟨V,b5,b6,b7,b8,rfl,a0,i2,i3,m3⟩
 refine aZ (vs:=zG) zeroValue35 m3 rfl (fun i4 v1 m4=>(bS (i:=0) (ns:=(zC j b5 b6 b7 b8)) (us:=(zC j b5 b6 b7 b8)) sizeOf35 m4 rfl rfl rfl rfl rfl (dQ rfl) rfl rfl (fun m5 (i5:aF G V (box i4 35 (zC j b5 b6 b7 b8)::box y 35 o::L) m5)=>(aH (aK (aD (jH (us:=(zC j b5 b6 b7 b8)) kJ i5 (i:=0) rfl rfl rfl rfl) ?_))))));obtain ⟨m,m6,hm⟩:=aB hm
 refine aR (vs:=[zA (zCa j b5 b6 b7 b8)]) call150 rfl (wH m6 i5 i2 i3) ?_
 rintro _ v2 ⟨q,r,rfl,i6⟩
 refine aJ (v:=zS q m.length r) (aH (aK (aJ (v:=zS none 0 0) (aH (aM (aK (aD (jH (us:=(zC j b5 b6 b7 b8)) kJ i6 (i:=1) rfl rfl rfl rfl) ?_)))))));obtain ⟨c,m7,hm⟩:=aB hm
 refine aR (vs:=[zA (zCa j b5 b6 b7 b8)]) call151 rfl (aAj m7 i6 i2 i3) ?_
 rintro _ m8 ⟨z,J,d,rfl,d9,m9⟩
 refine aD (bH (len:=c.length) nW rfl) (aG (v:=i64 0) (aH (aQ [] (fun f w=>∃ c1 e0 e1 e2,kL c1=some R/\f 9=zS e0 c1.length e1/\List.length e2=List.length c1/\aF G V (aL 29 K e0 e1 (cP e2 c1)::rows [2] e2 c1::L) w) ?_ ?_)))
 ·rintro f v3 ⟨c1,e0,e1,e2,hm,n0,n1,n2⟩
  unfold kL at hm
  refine aC (aK (bC n0 ?_));obtain ⟨v4,v5,n3,v6,n4,n5⟩:=aF.lendD' (i:=0) n2 n1 rfl rfl
  obtain ⟨n6,n7,hm⟩:=aB hm
  refine aR (vs:=[zS e0 c1.length e1]) call156 rfl (aEj n7 n4 n3) ?_
  rintro _ v7 ⟨i7,i8,rfl,n8⟩
  have n9:=n5 _ _ n8
  refine aJ (v:=zS i7 n6.length i8) (aH ?_);obtain rfl:=zI hm
  exact fU (eE results107 rfl ⟨i7,i8,rfl,(aF.weakK (aF.arr 2 [] n9 rfl) a0)⟩)
 have o1:aF G V (aL 29 K none 0 (cP ([]:List (Dp.Hd (List Int))) ([]:List (List Int)))::rows [2] ([]:List (Dp.Hd (List Int))) ([]:List (List Int))::aL 29 K z J (cP d c)::rows [2] d c::aL 4 K q r m::box i4 35 (zC j b5 b6 b7 b8)::box y 35 o::L) m8:=aF.nil (α:=Cells _) (aF.rowsNil (α:=(List Int)) (tys:=[2]) m9) 29 K
 obtain ⟨v8,o2,ho⟩:=aB hm
 refine cC [1,2,3,8,22,23] o2 (fun a b0 f w=>∃ u x b,f 9=zS u a.length x/\f 24=i64 b0/\List.length b=List.length a/\aF G V (aL 29 K u x (cP b a)::rows [2] b a::aL 29 K z J (cP d c)::rows [2] d c::aL 4 K q r m::box y 35 o::L) w) ?_ ?_
 ·exact ⟨none,0,[],rfl,rfl,rfl,(aF.arr 6 [0,1,2,3,4] o1 rfl)⟩
 ·rintro a b0 e3 f v9 hm hr ⟨u,x,b,i9,e4,f7,d1⟩
  unfold gC at hm
  refine aK (aD (cU e4 rfl) (aH (aM ?_)))
  rcases aN hm with ⟨f8,hm⟩|⟨f8,hm⟩
  ·refine aS f8 rfl (aY (aC (aM (aQ [1,2,3,8,22,23,24] (fun f w=>∃ c7 e5 e6 d2,mU b0 c7=some e3/\f 9=zS e5 c7.length e6/\List.length d2=List.length c7/\aF G V (aL 29 K e5 e6 (cP d2 c7)::rows [2] d2 c7::aL 29 K z J (cP d c)::rows [2] d c::aL 4 K q r m::box y 35 o::L) w) ?_ ?_))))
   ·rintro f w0 ⟨c7,e5,e6,d2,hm,o3,o4,o5⟩
    unfold mU at hm
    exact aC (aU (aD (dT e4 rfl) (aG (v:=i64 (wr (b0+1))) (aH ⟨_,(zI hm).symm,bL,e5,e6,d2,o3,rfl,o4,o5⟩))))
   refine aK (bC e4 ?_);obtain ⟨f9,d3,hm⟩:=aB hm
   obtain ⟨⟨g0,g1⟩,g2⟩:=get_hd d9 d3
   have o6:=dU d1 (i:=2) rfl (aIm d9 d3 g2)
   refine aD (fL nW rfl o6 rfl rfl e4 d3) (aD (rH (t:=0) aAs d1 (i:=2) rfl (aIm d9 d3 g2) rfl rfl rfl) (aJ (v:=i64 b0) (aJ (v:=zS g0 f9.length g1) (aH (aK (aJ (v:=zS none 0 0) (aH (aM (aK (aD (aV (t':=3) fY rfl rfl) (aD (cJ oJ d1 (i:=5) rfl rfl rfl) (aD (bH (len:=t.E.length) cS rfl) (aG (v:=i64 0) (aH (aQ [1,2,3,8,9,10,22,23,24] (fun f w=>∃ d4 a3 a5,kM p c6 m a b0 d4=some e3/\f 12=zS a3 d4.length a5/\aF G V (aL 2 K a3 a5 d4::aL 29 K u x (cP b a)::rows [2] b a::aL 29 K z J (cP d c)::rows [2] d c::aL 4 K q r m::box y 35 o::L) w) ?_ ?_)))))))))))))))
   ·rintro f w1 ⟨d4,a3,a5,hm,j0,o7⟩
    unfold kM at hm
    refine aC (aK (bC j0 ?_));obtain ⟨c3,o8,hm⟩:=aB hm
    refine aR (vs:=[zS a3 d4.length a5]) call153 rfl (aEh o7 o8) ?_
    rintro _ w2 ⟨rfl,o9,p0⟩
    refine aH (aM (cH [1,2,3,8,9,12,22,23,24] (fun f w=>∃ d5 e7 e8,iL a b0 c3 d5=some e3/\f 15=zS e7 d5.length e8/\aF G V (aL 2 K e7 e8 d5::aL 2 K a3 a5 c3::aL 29 K u x (cP b a)::rows [2] b a::aL 29 K z J (cP d c)::rows [2] d c::aL 4 K q r m::box y 35 o::L) w) ?_ ?_))
    ·rintro f p1 ⟨d5,e7,e8,hm,p2,p3⟩
     unfold iL at hm
     refine aC (aU (bC i9 (bC p2 (bC (v:=zS a3 c3.length a5) (Eq.trans j0 (congrArg (fun n=>zS a3 n a5) o9)) ?_))))
     have p4:aF G V (aL 2 K a3 a5 c3::aL 2 K e7 e8 d5::aL 29 K u x (cP b a)::rows [2] b a::aL 29 K z J (cP d c)::rows [2] d c::aL 4 K q r m::box y 35 o::L) p1:=(aF.arr 2 [1,0] p3 rfl)
     obtain ⟨w3,p5,hm⟩:=aB hm
     refine aR (vs:=[zS a3 c3.length a5]) call155 rfl (kB p5 p4) ?_
     rintro _ w4 ⟨w5,w6,rfl,p6⟩
     obtain ⟨c4,p7,hm⟩:=aB hm
     refine nE (i:=0) bJ underlying29 zD rfl rfl p6 rfl a0 (zR _) p7 rfl rfl rfl rfl (fun _ h=>h) (fun a6 a8 j1 (p8:aF G V (aL 2 K a6 a8 c4::aL 29 K u x (cP b a)::rows [2] b a::aL 29 K z J (cP d c)::rows [2] d c::aL 4 K q r m::box y 35 o::L) j1)=>?_)
     have p9:aF G V (rows [2] ([(a6,a8)]:List (Dp.Hd (List Int))) [c4]::aL 29 K u x (cP b a)::rows [2] b a::aL 29 K z J (cP d c)::rows [2] d c::aL 4 K q r m::box y 35 o::L) j1:=aF.rowsOne p8
     refine cK (Kt:=K) (xs:=cP ([(a6,a8)]:List (Dp.Hd (List Int))) ([c4]:List (List Int))) (cs:=[zS a6 c4.length a8]) (vs:=[(0,zS a6 c4.length a8)]) nW aDk rfl rfl p9 rfl (by kernel_rfl) rfl rfl rfl ⟨rfl,trivial⟩ ?_
     intro q0 q1 (q2:aF G V (aL 29 K q0 1 (cP ([(a6,a8)]:List (Dp.Hd (List Int))) ([c4]:List (List Int)))::rows [2] ([(a6,a8)]:List (Dp.Hd (List Int))) ([c4]:List (List Int))::aL 29 K u x (cP b a)::rows [2] b a::aL 29 K z J (cP d c)::rows [2] d c::aL 4 K q r m::box y 35 o::L) q1)
     obtain ⟨e9,j2,hm⟩:=aB hm
     refine aMT (i:=0) (tys:=[2]) (hds:=b) (hds2:=([(a6,a8)]:List (Dp.Hd (List Int)))) nW underlying39 aDk rfl rfl q2 f7 rfl rfl rfl j2 rfl rfl rfl rfl ?_
     intro g3 g4 q3 (q4:aF G V (aL 29 K g3 g4 (cP (b++([(a6,a8)]:List (Dp.Hd (List Int)))) e9)::rows [2] (b++([(a6,a8)]:List (Dp.Hd (List Int)))) e9::aL 29 K z J (cP d c)::rows [2] d c::aL 4 K q r m::box y 35 o::L) q3)
     exact aJ (v:=zS g3 e9.length g4) (aT (dB (aC ⟨bL,e9,g3,g4,(b++([(a6,a8)]:List (Dp.Hd (List Int)))),hm,rfl,(aKb f7 rfl j2),q4⟩)))
    obtain ⟨g5,j3,j4,j5,j6⟩:=aF.lendSp p0 a0 zt5
    refine cW (C:=fun w'=>∃ L',aF G g5 L' w') [(0,0),(1,0),(2,0),(3,0),(4,0),(5,0),(6,0),(7,0),(8,0),(9,0),(10,0),(11,1),(12,1),(13,0)] Tryz_mixed (by kernel_rfl) (fun _ hg=>⟨_,aF.mono j5 hg⟩) (fun w7 q5=>?_)
    have c9:=aF.mono j5 q5
    refine bA rfl (fun _ _=>aW (v:=zS a7 p.length c8) rfl) (bA rfl (fun _ _=>aW (v:=i64 b0) rfl) ?_);obtain ⟨b1,j7,hm⟩:=aB hm
    refine bA rfl (fun _ _=>dP bJ rfl (h9.mono (zL a0 j3)) rfl rfl rfl j7) ?_;obtain ⟨w8,q6,q7⟩:=bG.el (sz:=1) rfl h9 j7
    cases q7
    refine bA rfl (fun _ ⟨_,c9⟩=>bD (t:=0) dC c9 (q6.mono (zL a0 j3)) rfl rfl) (bA rfl (fun _ _=>aW (v:=zB c6) rfl) (bA rfl (fun _ _=>aW (v:=zB c6) rfl) ?_))
    rcases aN hm with ⟨a9,hm⟩|⟨a9,hm⟩
    ·refine aBa rfl rfl rfl a9 (fun _ _=>aW (v:=zS q m.length r) rfl) (aBa rfl rfl rfl a9 (fun _ _=>aW (v:=i64 b0) rfl) ?_);obtain ⟨j8,g6,hm⟩:=aB hm
     have q8:=aKc j4 g6
     refine aBa rfl rfl rfl a9 (fun _ _=>fL lV rfl q8 rfl rfl rfl g6) ?_;obtain ⟨w9,q9,r0⟩:=bG.el (sz:=1) rfl j4 g6
     cases r0
     refine aBa rfl rfl rfl a9 (fun _ ⟨_,c9⟩=>bD (t:=0) sc_4 c9 q9 rfl rfl) (bA rfl (fun _ _=>gR (v:=zB j8) a9 rfl rfl) (jN rfl ?_));obtain ⟨d6,r1,hm⟩:=aB hm
     refine aR (vs:=[zB j8]) call154 rfl (aFp r1 c9) ?_
     rintro _ x0 ⟨rfl,j9⟩
     refine aT (aC ⟨⟨_,j9⟩,?_⟩)
     refine jN rfl (cK (Kt:=K) (xs:=([b1,d6]:List Int)) (cs:=[i64 b1,i64 d6]) (vs:=[(0,i64 b1),(1,i64 d6)]) bJ zD rfl rfl j9 rfl (by kernel_rfl) rfl rfl rfl ⟨rfl,rfl,trivial⟩ (fun k0 r2 (k1:aF G g5 (aL 2 K k0 2 ([b1,d6]:List Int)::aL 2 K a3 a5 c3::aL 29 K u x (cP b a)::rows [2] b a::aL 29 K z J (cP d c)::rows [2] d c::box y 35 o::L) r2)=>(aT (aC ⟨⟨_,k1⟩,?_⟩))))
     refine bA rfl (fun _ _=>fW (v:=zS k0 ([b1,d6]:List Int).length 2) rfl) (oS ?_)
     have x1:=j6 _ _ k1
     exact aP
    ·refine sX rfl rfl rfl (nU a9) (sX rfl rfl rfl (nU a9) (sX rfl rfl rfl (nU a9) (sX rfl rfl rfl (nU a9) (bA rfl (fun _ _=>dO (v:=zB false) a9 rfl rfl) (jN rfl ?_)))));obtain ⟨d7,r3,hm⟩:=aB hm
     refine aR (vs:=[zB false]) call154 rfl (aFp r3 c9) ?_
     rintro _ x2 ⟨rfl,k2⟩
     refine aT (aC ⟨⟨_,k2⟩,?_⟩)
     refine jN rfl (cK (Kt:=K) (xs:=([b1,d7]:List Int)) (cs:=[i64 b1,i64 d7]) (vs:=[(0,i64 b1),(1,i64 d7)]) bJ zD rfl rfl k2 rfl (by kernel_rfl) rfl rfl rfl ⟨rfl,rfl,trivial⟩ (fun k3 r4 (k4:aF G g5 (aL 2 K k3 2 ([b1,d7]:List Int)::aL 2 K a3 a5 c3::aL 29 K u x (cP b a)::rows [2] b a::aL 29 K z J (cP d c)::rows [2] d c::box y 35 o::L) r4)=>(aT (aC ⟨⟨_,k4⟩,?_⟩))))
     refine bA rfl (fun _ _=>fW (v:=zS k3 ([b1,d7]:List Int).length 2) rfl) (oS ?_)
     have x3:=j6 _ _ k4
     exact aP
   have x4:=aF.nil (α:=Int) d1 2 K
   obtain ⟨x5,r5,ho⟩:=aB hm
   refine cC [1,2,3,8,9,10,11,22,23,24,30,31] r5 (fun b2 d8 f w=>∃ b9 c0,f 12=zS b9 b2.length c0/\f 32=i64 d8/\aF G V (aL 2 K b9 c0 b2::aL 29 K u x (cP b a)::rows [2] b a::aL 29 K z J (cP d c)::rows [2] d c::aL 4 K q r m::box y 35 o::L) w) aP ?_
   ·rintro b2 d8 k5 f x6 hm hr ⟨b9,c0,k6,g7,g8⟩
    unfold gB at hm
    refine aK (aD (cU g7 rfl) (aH (aM ?_)))
    rcases aN hm with ⟨g9,hm⟩|⟨g9,hm⟩
    ·refine aS g9 rfl (aY (aC (aM (aQ [1,2,3,8,9,10,11,22,23,24,30,31,32] (fun f w=>∃ f0 f1 f2,kN d8 f0=some k5/\f 12=zS f1 f0.length f2/\aF G V (aL 2 K f1 f2 f0::aL 29 K u x (cP b a)::rows [2] b a::aL 29 K z J (cP d c)::rows [2] d c::aL 4 K q r m::box y 35 o::L) w) ?_ ?_))))
     ·rintro f x7 ⟨f0,f1,f2,hm,r6,r7⟩
      unfold kN at hm
      exact aC (aU (aD (dT g7 rfl) (aG (v:=i64 (wr (d8+1))) (aH ⟨_,(zI hm).symm,bL,f1,f2,r6,rfl,r7⟩))))
     refine aK ?_;obtain ⟨k,k7,hm⟩:=aB hm
     refine aD (dP cS rfl (h6.mono a0) rfl rfl g7 k7) ?_;obtain ⟨x8,r8,r9⟩:=bG.el (sz:=3) rfl h6 k7
     cases r9
     refine aD (fP (t:=0) (vs:=[i64 k.F,i64 k.B,i64 k.To]) qA g8 (r8.mono a0) rfl rfl rfl) (aZ (vs:=[i64 0,i64 0,i64 0]) zeroValue70 g8 rfl (fun h0 x9 s0=>(bS (i:=0) (ns:=[i64 k.F,i64 k.B,i64 k.To]) (us:=[i64 k.F,i64 k.B,i64 k.To]) sizeOf70 s0 rfl rfl rfl rfl rfl (dQ rfl) rfl rfl (fun s1 (s2:aF G V (box h0 70 [i64 k.F,i64 k.B,i64 k.To]::aL 2 K b9 c0 b2::aL 29 K u x (cP b a)::rows [2] b a::aL 29 K z J (cP d c)::rows [2] d c::aL 4 K q r m::box y 35 o::L) s1)=>(aH (aM (cH [1,2,3,8,9,10,11,12,14,22,23,24,30,31,32] (fun f w=>∃ h1,gA t p b2 d8 k h1=some k5/\f 57=zB h1/\aF G V (box h0 70 [i64 k.F,i64 k.B,i64 k.To]::aL 2 K b9 c0 b2::aL 29 K u x (cP b a)::rows [2] b a::aL 29 K z J (cP d c)::rows [2] d c::aL 4 K q r m::box y 35 o::L) w) ?_ ?_)))))))
     ·rintro f y0 ⟨h1,hm,s3,s4⟩
      unfold gA at hm
      refine aC ?_
      rcases aN hm with ⟨k8,hm⟩|⟨k8,hm⟩
      ·refine aS k8 s3 ?_;obtain ⟨y1,f3,k9,s5,y2⟩:=aF.lendBp s4 .head
       obtain ⟨h2,d0,s6,l0,s7⟩:=aF.lendBp s5 zt6
       refine cW (C:=fun w'=>∃ L',aF G h2 L' w') [(0,0),(1,0),(2,0),(3,0),(4,0),(5,0),(6,0),(7,0),(8,0),(9,0),(10,0),(11,0),(12,1),(13,1),(14,0)] Tryz_mixed (by kernel_rfl) (fun _ hg=>⟨_,aF.mono l0 hg⟩) (fun y3 s8=>?_)
       have b4:=aF.mono l0 s8
       refine bA rfl (fun _ _=>aW k6) (bA rfl (fun _ _=>aV (t':=1) wO rfl rfl) (bA rfl (fun _ ⟨_,b4⟩=>bD (t:=1) dC b4 (k9.mono d0) rfl rfl) (bA rfl (fun _ _=>aV (t':=0) gT rfl rfl) (bA rfl (fun _ ⟨_,b4⟩=>bD (t:=0) dC b4 s6 rfl rfl) (bA rfl (fun _ _=>R_mul rfl rfl) (bA rfl (fun _ _=>aW (v:=zS a7 p.length c8) rfl) (bA rfl (fun _ _=>aV (t':=2) pQ rfl rfl) (bA rfl (fun _ ⟨_,b4⟩=>bD (t:=2) dC b4 (k9.mono d0) rfl rfl) ?_))))))))
       obtain ⟨f4,l1,hm⟩:=aB hm
       refine bA rfl (fun _ _=>dP bJ rfl (h9.mono (zL (zL a0 f3) d0)) rfl rfl rfl l1) ?_;obtain ⟨y4,s9,t0⟩:=bG.el (sz:=1) rfl h9 l1
       cases t0
       refine bA rfl (fun _ ⟨_,b4⟩=>bD (t:=0) dC b4 (s9.mono (zL (zL a0 f3) d0)) rfl rfl) (bA rfl (fun _ _=>dT rfl rfl) (jN rfl (cK (Kt:=K) (xs:=([wr ((wr (k.B * t.N))+f4)]:List Int)) (cs:=[i64 (wr ((wr (k.B * t.N))+f4))]) (vs:=[(0,i64 (wr ((wr (k.B * t.N))+f4)))]) bJ zD rfl rfl b4 rfl (by kernel_rfl) rfl rfl rfl ⟨rfl,trivial⟩ ?_)))
       intro t1 t2 (l2:aF G h2 (aL 2 K t1 1 ([wr ((wr (k.B * t.N))+f4)]:List Int)::aL 2 K b9 c0 b2::aL 29 K u x (cP b a)::rows [2] b a::aL 29 K z J (cP d c)::rows [2] d c::aL 4 K q r m::L) t2)
       refine aT (aC ⟨⟨_,l2⟩,?_⟩)
       refine jN rfl ?_;obtain ⟨l3,t3,hm⟩:=aB hm
       refine nE (i:=0) bJ underlying29 zD rfl rfl l2 rfl (zL (zL a0 f3) d0) (zL (zL a0 f3) d0) t3 rfl rfl rfl rfl (fun _ h=>h) (fun l4 l5 t4 (l6:aF G h2 (aL 2 K l4 l5 l3::aL 29 K u x (cP b a)::rows [2] b a::aL 29 K z J (cP d c)::rows [2] d c::aL 4 K q r m::L) t4)=>(aT (aC ⟨⟨_,l6⟩,?_⟩)))
       refine bA rfl (fun _ _=>fW (v:=zS l4 l3.length l5) rfl) (oS ?_)
       have y5:=s7 _ _ l6
       exact aP
      ·exact aP
     obtain ⟨t5,f5,y6,t6,e,h4⟩:=aF.lendD' (i:=4) s2 d9 rfl rfl
     refine mC (C:=fun w'=>aF G t5 (box h0 70 [i64 k.F,i64 k.B,i64 k.To]::aL 2 K b9 c0 b2::aL 29 K u x (cP b a)::rows [2] b a::aL 4 K q r m::box y 35 o::L) w') Tryz_mixed (by kernel_rfl) (aF.mono e (fJ.drew _)) (bX (fun _ e=>aW (v:=zS g0 f9.length g1) rfl) (bX (fun _ e=>aV (t':=0) uY rfl rfl) (bX (fun _ e=>cJ dC e (i:=0) rfl rfl rfl) ?_)));obtain ⟨l7,t7,hm⟩:=aB hm
     refine aIg (vs:=[zS g0 f9.length g1,i64 k.F]) (v:=zB l7) call152 rfl (fun _ e=>(nM t7 e (rd_row (t6 _ _ _ g2 (ix_at d3))))) (bX (fun _ e=>aW (v:=zB l7) rfl) ?_)
     rcases aN hm with ⟨a2,hm⟩|⟨a2,hm⟩
     ·refine mW (g:=40) rfl rfl a2 (bX (fun _ e=>aV (t':=1) wO rfl rfl) (mW (g:=40) rfl rfl a2 (bX (fun _ e=>cJ dC e (i:=0) rfl rfl rfl) (mW (g:=40) rfl rfl a2 (bX (fun _ e=>aFQ rfl rfl) (mW (g:=40) rfl rfl a2 (bX (fun _ e=>aW (v:=zB (k.B != 0)) rfl) ?_)))))))
      rcases aN hm with ⟨l,hm⟩|⟨l,hm⟩
      ·refine mD (g:=44) rfl rfl (aFW l) (mD (g:=44) rfl rfl (aFW l) (mD (g:=44) rfl rfl (aFW l) (mD (g:=44) rfl rfl (aFW l) (mD (g:=44) rfl rfl (aFW l) (mD (g:=44) rfl rfl (aFW l) (mD (g:=44) rfl rfl (aFW l) (mD (g:=44) rfl rfl (aFW l) (mD (g:=44) rfl rfl (aFW l) (mD (g:=44) rfl rfl (aFW l) (mD (g:=44) rfl rfl (aFW l) (mW (g:=40) rfl rfl a2 (bX (fun _ e=>gR (v:=zB true) l rfl rfl) (bX (fun _ e=>gR (v:=zB true) a2 rfl rfl) (vN (fun y7 t8=>?_)))))))))))))))
       have y8:=h4 _ _ t8
       exact aP
      ·refine mW (g:=44) rfl rfl (aCi l) (bX (fun _ e=>aW (v:=zS a7 p.length c8) rfl) (mW (g:=44) rfl rfl (aCi l) (bX (fun _ e=>aV (t':=0) uY rfl rfl) (mW (g:=44) rfl rfl (aCi l) (bX (fun _ e=>cJ dC e (i:=0) rfl rfl rfl) (mW (g:=44) rfl rfl (aCi l) ?_))))));obtain ⟨h5,l8,hm⟩:=aB hm
       refine bX (fun _ e=>dP bJ rfl (h9.mono (zL a0 f5)) rfl rfl rfl l8) ?_;obtain ⟨y9,t9,u0⟩:=bG.el (sz:=1) rfl h9 l8
       cases u0
       refine mW (g:=44) rfl rfl (aCi l) (bX (fun _ e=>bD (t:=0) dC e (t9.mono (zL a0 f5)) rfl rfl) (mW (g:=44) rfl rfl (aCi l) (bX (fun _ e=>aW (v:=zS a7 p.length c8) rfl) (mW (g:=44) rfl rfl (aCi l) (bX (fun _ e=>aV (t':=2) pQ rfl rfl) (mW (g:=44) rfl rfl (aCi l) (bX (fun _ e=>cJ dC e (i:=0) rfl rfl rfl) (mW (g:=44) rfl rfl (aCi l) ?_))))))));obtain ⟨h7,l9,hm⟩:=aB hm
       refine bX (fun _ e=>dP bJ rfl (h9.mono (zL a0 f5)) rfl rfl rfl l9) ?_;obtain ⟨z0,u1,u2⟩:=bG.el (sz:=1) rfl h9 l9
       cases u2
       refine mW (g:=44) rfl rfl (aCi l) (bX (fun _ e=>bD (t:=0) dC e (u1.mono (zL a0 f5)) rfl rfl) (mW (g:=44) rfl rfl (aCi l) (bX (fun _ e=>aFQ rfl rfl) (mW (g:=40) rfl rfl a2 (bX (fun _ e=>dO (v:=zB (h5 != h7)) l rfl rfl) (bX (fun _ e=>gR (v:=zB (h5 != h7)) a2 rfl rfl) (vN (fun z1 u3=>?_))))))))
       have u4:=h4 _ _ u3
       exact aC ⟨bL,h5 != h7,hm,rfl,(aF.arr 6 [2,3,4,5,0,1] u4 rfl)⟩
     ·refine mD (g:=40) rfl rfl (nU a2) (mD (g:=40) rfl rfl (nU a2) (mD (g:=40) rfl rfl (nU a2) (mD (g:=40) rfl rfl (nU a2) (tQ (g:=44) rfl rfl (tQ (g:=44) rfl rfl (tQ (g:=44) rfl rfl (tQ (g:=44) rfl rfl (tQ (g:=44) rfl rfl (tQ (g:=44) rfl rfl (tQ (g:=44) rfl rfl (tQ (g:=44) rfl rfl (tQ (g:=44) rfl rfl (tQ (g:=44) rfl rfl (tQ (g:=44) rfl rfl (mD (g:=40) rfl rfl (nU a2) (bX (fun _ e=>dO (v:=zB false) a2 rfl rfl) (vN (fun z2 u5=>?_))))))))))))))))))
      have u6:=h4 _ _ u5
      exact aC ⟨bL,false,hm,rfl,(aF.arr 6 [2,3,4,5,0,1] u6 rfl)⟩
    ·refine bE g9 rfl (aBe (kO (kO ?_)))
     have u7:=hr _ (zI hm).symm
     subst u7
     have hm:(kM p c6 m a b0 b2)=some e3:=ho
     clear hr ho
     exact vL (aC ⟨bL,b2,b9,c0,hm,k6,g8⟩)
  ·refine bE f8 rfl (aBe (kO (kO ?_)))
   have u8:=hr _ (zI hm).symm
   subst u8
   have hm:(kL a)=some R:=ho
   clear hr ho
   exact vL (aC ⟨bL,a,u,x,b,hm,i9,f7,(aF.arr 6 [0,1] d1 rfl)⟩)
theorem aAk {p:(List Int)} {a:bB} {b:Nat} {c:Bool} {d:Nat} {R:(List Int)} (hm:tF p a c=some R) (h:aF G K (L) w) (i:bG K a1 c2 p) (j:fV K a4 b (zC a a7 c8 a10 c11)) (k:bG K a7 c8 a.L) (l:bG K a10 c11 a.E) (m:fV K a13 d [zB c]):
  Calls prog 106 ([zS a1 p.length c2,cR a4 b,cR a13 d]:List Value).toArray w (eZ fun v w'=>∃ e g,v=zS e R.length g/\aF G K (aL 2 K e g R::L) w'):=by
 exact aP
theorem aHy {n:Int} {k:bB} {x:Nat} {b0:Bool} {y:Nat} {R:(List (List Int))} (hm:aIB n k b0=some R) (hs:aF G K (L) w) (h3:fV K a1 x (zC k a4 c5 a7 c8)) (h6:bG K a4 c5 k.L) (h9:bG K a7 c8 k.E) (c0:fV K a10 y [zB b0]):
  Calls prog 105 ([i64 n,Value.func (.func 106) #[] #[cR a1 x,cR a10 y]]:List Value).toArray w (eZ fun v w'=>∃ b1 b2 a0,v=zS b1 R.length b2/\List.length a0=List.length R/\aF G K (aL 29 K b1 b2 (cP a0 R)::rows [2] a0 R::L) w'):=by
 refine aO func105 rfl (by kernel_rfl) (by show (2:Nat)<=28;decide) ?_;unfold aIB at hm
 refine aK (aJ (v:=zS none 0 0) (aH (aK (aG (v:=i64 n) ?_))));obtain ⟨l,c1,hm⟩:=aB hm
 refine aR (vs:=[i64 n]) call148 rfl (aHx c1 hs) ?_
 rintro _ c2 ⟨m,o,rfl,c3⟩
 have c4:aF G K (rows [2] ([(m,o)]:List (Dp.Hd (List Int))) [l]::L) c2:=aF.rowsOne c3
 refine cK (Kt:=K) (xs:=cP ([(m,o)]:List (Dp.Hd (List Int))) ([l]:List (List Int))) (cs:=[zS m l.length o]) (vs:=[(0,zS m l.length o)]) nW aDk rfl rfl c4 rfl (by kernel_rfl) rfl rfl rfl ⟨rfl,trivial⟩ ?_
 intro a2 c6 (c7:aF G K (aL 29 K a2 1 (cP ([(m,o)]:List (Dp.Hd (List Int))) ([l]:List (List Int)))::rows [2] ([(m,o)]:List (Dp.Hd (List Int))) ([l]:List (List Int))::L) c6)
 refine aJ (v:=zS a2 ([l]:List (List Int)).length 1) (aH (cV ?_));obtain ⟨f7,c9,ho⟩:=aB hm
 refine fK [1] c9 (fun d f w=>∃ g h a,f 5=zS g d.length h/\List.length a=List.length d/\aF G K (aL 29 K g h (cP a d)::rows [2] a d::L) w) ?_ ?_
 ·exact ⟨a2,1,([(m,o)]:List (Dp.Hd (List Int))),rfl,rfl,c7⟩
 ·rintro d f8 f f9 hm hr ⟨g,h,a,z,j,a3⟩
  unfold aEg at hm
  refine cV (aK (bC z (bC z (aD (bH (len:=d.length) nW rfl) (aD (uW rfl rfl) ?_)))));obtain ⟨p,q,hm⟩:=aB hm
  obtain ⟨⟨r,u⟩,J⟩:=get_hd j q
  have d0:=dU a3 (i:=0) rfl (aIm j q J)
  refine aD (fL nW rfl d0 rfl rfl rfl q) (aD (rH (t:=0) aAs a3 (i:=0) rfl (aIm j q J) rfl rfl rfl) (aJ (v:=zS r p.length u) (aH (aK (aG (v:=Value.func (.func 106) #[] #[cR a1 x,cR a10 y]) (aG (v:=zS r p.length u) ?_))))));obtain ⟨g0,V,g1,d1,d2,d3⟩:=aF.lendD' (i:=0) a3 j rfl rfl
  obtain ⟨e,d4,hm⟩:=aB hm
  refine iS (vs:=[zS r p.length u]) (caps:=[cR a1 x,cR a10 y]) (us:=[zS r p.length u,cR a1 x,cR a10 y]) rfl call106 rfl rfl (aAk d4 d2 (rd_row (d1 _ _ _ J (ix_at q))) (h3.mono V) (h6.mono V) (h9.mono V) (c0.mono V)) ?_
  rintro _ g2 ⟨b,c,rfl,d5⟩
  have d6:=d3 _ _ d5
  refine aJ (v:=zS b e.length c) (aH (aM (aK (aG (v:=zS r p.length u) (aG (v:=zS b e.length c) ?_)))));obtain ⟨g3,d7,g4,d8,d9,e0⟩:=aF.lendD' (i:=0) d6 j rfl rfl
  obtain ⟨g5,e1,e2,e3,e4⟩:=aF.lendSp d9 d7 .head
  obtain ⟨g6,e5,hm⟩:=aB hm
  refine aR (vs:=[zS r p.length u,zS b e.length c]) call128 rfl (pO e5 e3 ((rd_row (d8 _ _ _ J (ix_at q))).mono e1) e2) ?_
  rintro _ b3 ⟨rfl,e6⟩
  have e7:=e4 _ _ e6
  have b4:=e0 _ _ e7
  refine aH ?_
  rcases aN hm with ⟨a5,hm⟩|⟨a5,hm⟩
  ·refine aS a5 rfl (aK (bC z (aJ (v:=zS g d.length h) (aH (fU (cT (lE (cT ?_))))))))
   have e8:=hr _ (zI hm).symm
   subst e8
   have hm:(some d)=some R:=ho
   clear hr ho
   obtain rfl:=zI hm
   exact lE (eE results105 rfl ⟨g,h,a,rfl,j,(aF.arr 3 [0,1] b4 rfl)⟩)
  ·refine bE a5 rfl (aY (aC (aU (bC z (aG (v:=zS b e.length c) ?_)))))
   have f0:aF G K (aL 2 K b c e::aL 29 K g h (cP a d)::rows [2] a d::L) b3:=(aF.arr 3 [2,0,1] b4 rfl)
   have f1:aF G K (rows [2] ([(b,c)]:List (Dp.Hd (List Int))) [e]::aL 29 K g h (cP a d)::rows [2] a d::L) b3:=aF.rowsOne f0
   refine cK (Kt:=K) (xs:=cP ([(b,c)]:List (Dp.Hd (List Int))) ([e]:List (List Int))) (cs:=[zS b e.length c]) (vs:=[(0,zS b e.length c)]) nW aDk rfl rfl f1 rfl (by kernel_rfl) rfl rfl rfl ⟨rfl,trivial⟩ ?_
   intro f2 f3 (f4:aF G K (aL 29 K f2 1 (cP ([(b,c)]:List (Dp.Hd (List Int))) ([e]:List (List Int)))::rows [2] ([(b,c)]:List (Dp.Hd (List Int))) ([e]:List (List Int))::aL 29 K g h (cP a d)::rows [2] a d::L) f3)
   obtain ⟨a6,b5,hm⟩:=aB hm
   refine aMT (i:=0) (tys:=[2]) (hds:=a) (hds2:=([(b,c)]:List (Dp.Hd (List Int)))) nW underlying39 aDk rfl rfl f4 j rfl rfl rfl b5 rfl rfl rfl rfl ?_
   intro a8 a9 f5 (f6:aF G K (aL 29 K a8 a9 (cP (a++([(b,c)]:List (Dp.Hd (List Int)))) a6)::rows [2] (a++([(b,c)]:List (Dp.Hd (List Int)))) a6::L) f5)
   exact aJ (v:=zS a8 a6.length a9) (aT (dB (aC ⟨_,(zI hm).symm,bL,a8,a9,(a++([(b,c)]:List (Dp.Hd (List Int)))),rfl,(aKb j rfl b5),f6⟩)))
theorem aCa {t:bB} {a:Bool} {R:(List Int)} (hm:nS t a=some R) (n:aF G K (L) w) (o:bG K a1 c2 t.L) (p:bG K a4 c5 t.E):
  Calls prog 61 ([zA (zCa t a1 c2 a4 c5),zB a]:List Value).toArray w (eZ fun v w'=>∃ b g h,v=zS g R.length h/\Hp.le K b/\bG b g h R/\aF G b (L) w'):=by
 let j:=(zC t a1 c2 a4 c5)
 refine aO func61 rfl (by kernel_rfl) (by show (2:Nat)<=10;decide) ?_;unfold nS at hm
 refine aK (dJ (v:=zA (zCa t a1 c2 a4 c5)) (vs:=j) n rfl rfl (fun c w8 q=>(dJ (v:=zB a) (vs:=[zB a]) q rfl rfl (fun d a9 k=>(aJ (v:=zS none 0 0) (aH (aK (aD (aV (t':=0) gT rfl rfl) (aD (cJ dC k (i:=1) rfl rfl rfl) (aD (jZ (vs:=[zP (some ⟨c,0,none⟩),zP (some ⟨d,0,none⟩)]) rfl) ?_))))))))));obtain ⟨b0,l,r,u,x⟩:=aF.lendBp k zt1
 obtain ⟨b1,e,y,z,J⟩:=aF.lendBp u .head
 obtain ⟨b2,V,hm⟩:=aB hm
 refine aR (vs:=[i64 t.N,Value.func (.func 106) #[] #[cR (some ⟨c,0,none⟩) 0,cR (some ⟨d,0,none⟩) 0]]) call105 rfl (aHy V z (r.mono e) (o.mono (zL l e)) (p.mono (zL l e)) y) ?_
 rintro _ a0 ⟨b3,b4,b5,rfl,a2,a3⟩
 have a5:=J _ _ a3
 have a6:=x _ _ a5
 obtain ⟨a7,b6,b8,_,m,_⟩:=aF.lendD' (i:=2) a6 a2 rfl rfl
 replace m:aF G a7 (box c 35 j::box d 4 [zB a]::L) a0:=m
 exact aP
theorem aGD {n:Int} {R:(List Int)} (hm:aGs n=some R) (j:aF G K (L) w):
  Calls prog 51 ([i64 n]:List Value).toArray w (eZ fun v w'=>∃ b c,v=zS b R.length c/\aF G K (aL 2 K b c R::L) w'):=by
 refine aO func51 rfl (by kernel_rfl) (by show (1:Nat)<=15;decide) ?_;unfold aGs at hm
 refine aK (aJ (v:=zS none 0 0) (aH (aK (aJ (v:=zS none 0 0) (aH (aM (aK (aG (v:=i64 n) (aG (v:=i64 0) (aH (aQ [] (fun f w=>∃ a d e,aMh a=some R/\f 3=zS d a.length e/\aF G K (aL 2 K d e a::L) w) aP ?_)))))))))))
 have m:=aF.nil (α:=Int) j 2 K
 obtain ⟨o,k,ho⟩:=aB hm
 exact cC [5] k (fun g l f w=>∃ h i,f 3=zS h g.length i/\f 6=i64 l/\aF G K (aL 2 K h i g::L) w) aP aP
theorem oM {d:(List Int)} {j:Int} {R:(List Int)} (hm:gM d j=some R) (hs:aF G K (L) w) (h3:bG K a1 c2 d):
  Calls prog 203 ([zS a1 d.length c2,i64 j]:List Value).toArray w (eZ fun v w'=>∃ u x,v=zS u R.length x/\aF G K (aL 2 K u x R::L) w'):=by
 refine aO func203 rfl (by kernel_rfl) (by show (2:Nat)<=48;decide) ?_;unfold gM at hm
 refine aK (aJ (v:=zS none 0 0) (aH (mB [0,1] (fun f w=>iK d j=some R/\aF G K (L) w) ?_ ?_)))
 ·rintro f w4 ⟨hm,b0⟩
  unfold iK at hm
  refine aK (aG (v:=zS a1 d.length c2) (aD (bH (len:=d.length) bJ rfl) (aD (aEB runUnderlying107 rfl ⟨_,runUnderlying3⟩) (aG (v:=i64 j) (aD (aEB runUnderlying107 rfl ⟨_,runUnderlying3⟩) ?_)))));obtain ⟨c,q7,hm⟩:=aB hm
  refine aR (vs:=[Value.int .u64 (lC (d.length:Int)),Value.int .u64 (lC j)]) call235 rfl (aNh b0 q7) ?_
  rintro _ w8 ⟨rfl,y⟩
  refine aG (v:=Value.tuple #[Value.int .u64 c.1,Value.int .u64 c.2]) (aD (bV rfl rfl) (aD (bV rfl rfl) (aJ (v:=Value.int .u64 c.1) (aJ (v:=Value.int .u64 c.2) (aH (mB [0,6] (fun f w=>iJ d c=some R/\aF G K (L) w) ?_ ?_))))))
  ·rintro f d6 ⟨hm,b2⟩
   unfold iJ at hm
   refine aK (aG (v:=Value.int .u64 c.2) (aD (aIi runUnderlying3 rfl ⟨_,runUnderlying107⟩) ?_));obtain ⟨a,b3,hm⟩:=aB hm
   refine aIf (e:=(0:Int)) bJ zD rfl rfl b2 rfl rfl rfl b3 rfl (fun b b4 (z:aF G K (aL 2 K b a.length a::L) b4)=>(aJ (v:=zS b a.length a.length) (aH (aK (aG (v:=zS b a.length a.length) (aG (v:=zS a1 d.length c2) ?_))))));obtain ⟨b5,J,hm⟩:=aB hm
   refine aIq bJ rfl z (i:=0) rfl Cut.whole rfl rfl rfl (aGN _ _ _) aFZ (aKE rfl z h3) J (fun b6 (b7:aF G K (aL 2 K b a.length b5::L) b6)=>(aJ (v:=i64 ((Nat.min d.length a.length):Int)) (aH (aM (aQ [] (fun f w=>∃ k,iH k=some R/\f 7=zS b k.length a.length/\aF G K (aL 2 K b a.length k::L) w) ?_ ?_)))))
   ·rintro f d7 ⟨k,hm,b8,b9⟩
    unfold iH at hm
    refine aC (aK (bC b8 (aJ (v:=zS b k.length a.length) (aH ?_))));obtain rfl:=zI hm
    exact fU (eE results203 rfl ⟨b,a.length,rfl,b9⟩)
   obtain ⟨d8,c1,ho⟩:=aB hm
   refine cC [] c1 (fun l m f w=>f 7=zS b l.length a.length/\f 8=i64 m/\aF G K (aL 2 K b a.length l::L) w) ?_ ?_
   ·exact ⟨(Eq.trans rfl (congrArg (fun n=>zS b n a.length) (aDT J))),rfl,b7⟩
   ·rintro l m d9 f e0 hm hr ⟨o,p,V⟩
    unfold iI at hm
    refine aM (aK (bC p (bC o (aD (bH (len:=l.length) bJ rfl) (aD (cU rfl rfl) (aH ?_))))))
    rcases aN hm with ⟨r,hm⟩|⟨r,hm⟩
    ·refine aS r rfl (aY (aC (cV (cW (C:=fun w'=>∃ L',aF G K L' w') [(0,0),(1,0),(2,0),(3,0),(4,0),(5,0),(6,0),(7,1),(8,0),(9,0)] Tryz_mixed (by kernel_rfl) (fun _ hg=>⟨_,aF.mono V hg⟩) (fun e1 c3=>?_)))))
     have q:=aF.mono V c3
     refine bA rfl (fun _ _=>aW p) (bA rfl (fun _ _=>aW o) (bA rfl (fun _ _=>aW p) ?_));obtain ⟨c4,c5,hm⟩:=aB hm
     have c6:=qJ q (i:=0) rfl
     obtain ⟨e2,e3,a0⟩:=Cut.ex 1 b a.length m
     refine bA rfl (fun _ _=>aEq bJ c6 a0 rfl rfl rfl c5) (bA rfl (fun _ _=>aW o) (bA rfl (fun _ _=>aW p) ?_));obtain ⟨c7,a2,hm⟩:=aB hm
     have c8:=qJ q (i:=0) rfl
     obtain ⟨e4,e5,a3⟩:=Cut.ex 1 b a.length 0
     refine bA rfl (fun _ _=>aGa bJ c8 a3 rfl rfl rfl a2) (jN rfl ?_);obtain ⟨c9,a4,hm⟩:=aB hm
     refine aIq bJ rfl q (i:=0) rfl a0 rfl rfl rfl (aGN _ _ _) aFZ (aKF rfl q (i:=0) rfl a2 a3) a4 (fun d0 (a5:aF G K (aL 2 K b a.length c9::L) d0)=>(aT (aC ⟨⟨_,a5⟩,?_⟩)))
     exact bA rfl (fun _ _=>dT rfl rfl) (bA rfl (fun _ _=>fW (v:=i64 (wr (m+((Nat.min c7.length c4.length):Int)))) rfl) (oS (dB (aC ⟨_,(zI hm).symm,bL,(Eq.trans o (congrArg (fun n=>zS b n a.length) (aDT a4))),rfl,a5⟩))))
    ·refine bE r rfl (aBe (kO (kO ?_)))
     have d1:=hr _ (zI hm).symm
     subst d1
     have hm:(iH l)=some R:=ho
     exact aP
  refine aM (cH [0,6] (fun f w=>∃ t,fM d c t=some R/\f 26=zB t/\aF G K (L) w) ?_ ?_)
  ·rintro f e6 ⟨t,hm,d2,d3⟩
   unfold fM at hm
   refine aC ?_
   rcases aN hm with ⟨a6,hm⟩|⟨a6,hm⟩
   ·exact aP
   ·exact bE a6 d2 (aY (aC ⟨bL,hm,d3⟩))
  refine aU (aG (v:=Value.int .u64 c.1) (aD (aAa rfl rfl) (aG (v:=zB (decide (0 < c.1))) ?_)))
  rcases aN hm with ⟨h,hm⟩|⟨h,hm⟩
  ·exact mV h rfl rfl (mV h rfl rfl (aD (gR (v:=zB true) h rfl rfl) (aH ⟨bL,true,hm,rfl,y⟩)))
  ·exact kX h rfl rfl (aG (v:=Value.int .u64 c.2) (kX h rfl rfl (aD (aAa rfl rfl) (aD (dO (v:=zB (decide (9223372036854775807 < c.2))) h rfl rfl) (aH ⟨bL,decide (9223372036854775807 < c.2),hm,rfl,y⟩)))))
 refine aK (aG (v:=i64 j) (aD (cU rfl rfl) (aH ?_)))
 rcases aN hm with ⟨a7,hm⟩|⟨a7,hm⟩
 ·exact aP
 ·exact bE a7 rfl (aY (aC ⟨bL,hm,hs⟩))
end Gv
