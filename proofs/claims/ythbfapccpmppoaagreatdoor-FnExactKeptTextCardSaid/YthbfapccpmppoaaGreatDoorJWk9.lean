/- Walks, printed by program. -/
import Derived.Test.YthbfapccpmppoaaGreatDoorJWk7
set_option linter.all false
namespace Gv
open Gv.Hp renaming le_refl→zR
open Go.Value renaming slice→zS,bool→zB,pointer→zP,agg→zA,tuple→zT
open Go Go.Proofs Go.Proofs.Tryz
set_option maxRecDepth 20000
set_option maxHeartbeats 40000000
variable {G:kH} {K:Hp} {L:List eW} {w:World} {a1 a4 a7 a10 a13 a16 a19:Option Addr} {c2 c5 c8 c11 c14 c17 c20:Nat}
theorem aJU {e:(List aR)} {b h:Int} {R:Bool} (hm:wW e b h=some R) (hs:aF G K (L) w) (j:aW K a1 c2 e):
  Calls prog 252 ([zS a1 e.length c2,i64 b,i64 h]:List Value).toArray w (cL fun v w'=>v=zB R/\aF G K (L) w'):=by
 refine aN func252 rfl (by kernel_rfl) (by show (3:Nat)<=47;decide) ?_;unfold wW at hm
 refine aJ (aG (v:=zB false) (aM (aH (aH (aZ [0,1] (fun f w=>∃ c,lM e b c=some R/\f 24=zB c/\aF G K (L) w) ?_ ?_)))))
 ·rintro f w6 ⟨c,hm,u,a3⟩
  unfold lM at hm
  refine aD ?_
  rcases aI hm with ⟨k,hm⟩|⟨k,hm⟩
  ·exact aE
  ·refine aP k u (aU (aD (aJ (aG (v:=i64 1) (aM (aH (aJ (aO (v:=zS a1 e.length c2) (aC (aX (len:=e.length) nP rfl) (aO (v:=i64 0) (aM (aQ [] (fun f w=>∃ l,aFB l=some R/\f 7=i64 l/\aF G K (L) w) aE ?_))))))))))));obtain ⟨a4,x,ho⟩:=aB hm
   refine cD [1,25,26] x (fun d g f w=>f 7=i64 d/\f 27=i64 g/\aF G K (L) w) aE ?_
   ·rintro d g y f a5 hm hr ⟨a6,m,n⟩
    unfold oR at hm
    refine aJ (aC (eC m rfl) (aM (aH ?_)))
    rcases aI hm with ⟨o,hm⟩|⟨o,hm⟩
    ·refine aS o rfl (aU (aD (aH (bJ (aJ ?_)))));obtain ⟨a,p,hm⟩:=aB hm
     refine aC (cR nP rfl j rfl rfl m p) ?_;obtain ⟨a7,z,J⟩:=aW.el (sz:=2) rfl j p
     cases J
     exact aC (eD (t:=0) (vs:=[i64 a.Kind,i64 a.Value]) aIm n z rfl rfl rfl) (eE (vs:=[i64 0,i64 0]) zeroValue218 n rfl (fun q a8 V=>(fA (i:=0) (ns:=[i64 a.Kind,i64 a.Value]) (us:=[i64 a.Kind,i64 a.Value]) sizeOf218 V rfl rfl rfl rfl rfl (kJ rfl) rfl rfl (fun Z (a9:aF G K (box q 218 [i64 a.Kind,i64 a.Value]::L) Z)=>(aM (aH (aH (aZ [1,7,9,25,26,27] (fun f w=>∃ r,uD d g a r=some y/\f 38=zB r/\aF G K (box q 218 [i64 a.Kind,i64 a.Value]::L) w) aE aE))))))))
    ·exact aE
 exact aE
theorem xS {e:(List aR)} {p:dH} {a:Nat} {R:Bool} (hm:yT e p=some R) (b:aF G K (L) w) (c:aW K a1 c2 e) (d:eR K a4 a [i64 p.scope,zB p.behind]):
  Calls prog 251 ([zS a1 e.length c2,cE a4 a]:List Value).toArray w (cL fun v w'=>v=zB R/\aF G K (L) w'):=by
 exact aE
theorem lG {a:(List (List aR))} {d:dH} {b:Nat} {R:Int} (hm:dV a d=some R) (x:aF G K (L) w) (e:aW K a1 c2 a) (n:eR K a4 b [i64 d.scope,zB d.behind]):
  Calls prog 273 ([zS a1 a.length c2,Value.func (.func 251) #[] #[cE a4 b]]:List Value).toArray w (cL fun v w'=>v=i64 R/\aF G K (L) w'):=by
 refine aN func273 rfl (by kernel_rfl) (by show (2:Nat)<=19;decide) ?_;unfold dV at hm
 refine aJ (aG (v:=i64 0) (aM (aH (aJ (aO (v:=zS a1 a.length c2) (aC (aX (len:=a.length) mP rfl) (aO (v:=i64 0) (aM (aQ [] (fun f w=>gG=some R/\aF G K (L) w) aE ?_)))))))));obtain ⟨y,o,ho⟩:=aB hm
 refine bW [0,1,7] o (fun c f w=>f 8=i64 c/\aF G K (L) w) aE ?_
 ·rintro c z f J hm hr ⟨g,h⟩
  unfold cK at hm
  refine aJ (aC (eC g rfl) (aM (aH ?_)))
  rcases aI hm with ⟨i,hm⟩|⟨i,hm⟩
  ·refine aS i rfl (aU (aD (aH (bJ (aJ (bR g (aG (v:=i64 c) (aM (aJ (aO (v:=Value.func (.func 251) #[] #[cE a4 b]) (aO (v:=zS a1 a.length c2) (aO (v:=i64 c) ?_))))))))))));obtain ⟨j,k,hm⟩:=aB hm
   refine aC (cR mP rfl e rfl rfl rfl k) ?_;obtain ⟨V,p,q⟩:=aW.el (sz:=1) rfl e k
   obtain ⟨l,m,rfl,r⟩:=q
   refine aC (bZ (t:=0) aIl h p rfl rfl) ?_;obtain ⟨Z,u,hm⟩:=aB hm
   exact eM (vs:=[zS l j.length m]) (caps:=[cE a4 b]) (us:=[zS l j.length m,cE a4 b]) rfl call251 rfl rfl (xS u h r n) aE
  ·exact aE
theorem fP {a:(List (List aR))} {b:dH} {c:Nat} {R:Bool} (hm:dI a b=some R) (d:aF G K (L) w) (e:aW K a1 c2 a) (g:eR K a4 c [i64 b.scope,zB b.behind]):
  Calls prog 250 ([zS a1 a.length c2,Value.func (.func 251) #[] #[cE a4 c]]:List Value).toArray w (cL fun v w'=>v=zB R/\aF G K (L) w'):=by
 exact aE
theorem aIB {p:bG} {b:(List Definition)} {a:dH} {R:Int} (hm:pH p b a=some R) (J:aF G K (L) w) (h:aW K a1 c2 p.Arguments) (V:aW K a4 c5 b):
  Calls prog 212 ([zA #[i64 p.Kind,i64 p.Number,str p.Name,zS a1 p.Arguments.length c2],zS a4 b.length c5,zA #[i64 a.scope,zB a.behind]]:List Value).toArray w (cL fun v w'=>v=i64 R/\aF G K (L) w'):=by
 let c:=[i64 p.Kind,i64 p.Number,str p.Name,zS a1 p.Arguments.length c2]
 let e:=[i64 a.scope,zB a.behind]
 refine aN func212 rfl (by kernel_rfl) (by show (3:Nat)<=77;decide) ?_;unfold pH at hm
 refine aJ (eT (v:=zA #[i64 p.Kind,i64 p.Number,str p.Name,zS a1 p.Arguments.length c2]) (vs:=c) J rfl rfl (fun g w8 Z=>(eT (v:=zA #[i64 a.scope,zB a.behind]) (vs:=e) Z rfl rfl (fun d b5 n=>(aG (v:=i64 0) (aM (aH (bJ (aJ (aC (jL (us:=c) yA n (i:=1) rfl rfl rfl rfl) ?_))))))))));obtain ⟨a0,a2,hm⟩:=aB hm
 refine aT (vs:=[zA #[i64 p.Kind,i64 p.Number,str p.Name,zS a1 p.Arguments.length c2]]) call248 rfl (aCD a2 n h) ?_
 rintro _ b6 ⟨rfl,b8⟩
 refine aC (uT rfl) (aG (v:=zB (!a0)) (aM ?_))
 rcases aI hm with ⟨o,hm⟩|⟨o,hm⟩
 ·exact aE
 ·refine aP o rfl (aH (aZ [1,3,5] (fun f w=>∃ j,jB p b a j=some R/\f 11=zB j/\aF G K (box d 260 e::box g 170 c::L) w) ?_ ?_))
  ·rintro f b9 ⟨j,hm,a3,c0⟩
   unfold jB at hm
   refine aD ?_
   rcases aI hm with ⟨q,hm⟩|⟨q,hm⟩
   ·exact aE
   ·refine aP q a3 (aH (aZ [1,3,5] (fun f w=>∃ k,gD p b a k=some R/\f 26=zB k/\aF G K (box d 260 e::box g 170 c::L) w) ?_ ?_))
    ·rintro f c1 ⟨k,hm,a5,r⟩
     unfold gD at hm
     refine aD ?_
     rcases aI hm with ⟨t,hm⟩|⟨t,hm⟩
     ·exact aE
     ·refine aP t a5 (aJ (aC (jL (us:=c) yA r (i:=1) rfl rfl rfl rfl) (aO (v:=zS a4 b.length c5) ?_)));obtain ⟨a6,a7,hm⟩:=aB hm
      refine aT (vs:=[zA #[i64 p.Kind,i64 p.Number,str p.Name,zS a1 p.Arguments.length c2],zS a4 b.length c5]) call249 rfl (aAV a7 r h V) ?_
      rintro _ c3 ⟨rfl,c4⟩
      refine aC (uT rfl) (aG (v:=zB (!a6)) (aM ?_))
      rcases aI hm with ⟨u,hm⟩|⟨u,hm⟩
      ·exact aE
      ·refine aP u rfl (aH (aZ [3,5] (fun f w=>∃ l,kY p a l=some R/\f 54=zB l/\aF G K (box d 260 e::box g 170 c::L) w) ?_ ?_))
       ·rintro f c6 ⟨l,hm,a8,c7⟩
        unfold kY at hm
        refine aD ?_
        rcases aI hm with ⟨x,hm⟩|⟨x,hm⟩
        ·exact aE
        ·refine aP x a8 (aH (aZ [3,5] (fun f w=>∃ m,kX p a m=some R/\f 63=zB m/\aF G K (box d 260 e::box g 170 c::L) w) ?_ ?_))
         ·rintro f c8 ⟨m,hm,a9,y⟩
          unfold kX at hm
          refine aD ?_
          rcases aI hm with ⟨z,hm⟩|⟨z,hm⟩
          ·exact aE
          ·refine aP z a9 (aJ (aC (bH (t':=3) oM rfl rfl) (aC (dD aAI y (i:=1) rfl rfl rfl) (aC (xV (vs:=[zP (some ⟨d,0,none⟩)]) rfl) ?_))));obtain ⟨c9,b0,b1,b2,d0⟩:=aF.lendBp y .head
           obtain ⟨d1,b3,hm⟩:=aB hm
           exact aT (vs:=[zS a1 p.Arguments.length c2,Value.func (.func 251) #[] #[cE (some ⟨d,0,none⟩) 0]]) call250 rfl (fP b3 b2 (h.mono b0) b1) aE
         exact aE
       exact aE
    exact aE
  exact aE
theorem aKF {a:(List Definition)} {d:Definition} {R:(Int × Int)} (hm:vB a d=some R) (l:aF G K (L) w) (u:aW K a1 c2 a) (m:aW K a4 c5 d.Body):
  Calls prog 177 ([zS a1 a.length c2,zA #[str d.Name,i64 d.Parameters,zS a4 d.Body.length c5]]:List Value).toArray w (cL fun v w'=>v=zT #[i64 R.1,i64 R.2]/\aF G K (L) w'):=by
 let b:=[str d.Name,i64 d.Parameters,zS a4 d.Body.length c5]
 refine aN func177 rfl (by kernel_rfl) (by show (2:Nat)<=45;decide) ?_;unfold vB at hm
 refine aJ (eT (v:=zA #[str d.Name,i64 d.Parameters,zS a4 d.Body.length c5]) (vs:=b) l rfl rfl (fun n x y=>(aG (v:=i64 0) (aG (v:=i64 0) (aM (aH (aH (aZ [0,3] (fun f w=>∃ c,qZ a d c=some R/\f 22=zB c/\aF G K (box n 131 b::L) w) ?_ ?_))))))))
 ·rintro f z ⟨c,hm,o,e⟩
  unfold qZ at hm
  refine aD ?_
  rcases aI hm with ⟨g,hm⟩|⟨g,hm⟩
  ·exact aE
  ·refine aP g o (aU (aD (aJ (aC (jL (us:=b) aEH e (i:=0) rfl rfl rfl rfl) ?_))));obtain ⟨h,p,hm⟩:=aB hm
   refine aT (vs:=[zA #[str d.Name,i64 d.Parameters,zS a4 d.Body.length c5]]) call211 rfl (tP p e m) ?_
   rintro _ J ⟨j,k,rfl,q⟩
   refine aG (v:=zS j h.length k) (aM (aH (aJ (aC (bH (t':=2) aBP rfl rfl) (aC (dD xZ q (i:=1) rfl rfl rfl) (aC (aX (len:=d.Body.length) lK rfl) (aO (v:=i64 0) (aM (aQ [] (fun f w=>aGt=some R/\aF G K (L) w) aE ?_)))))))));obtain ⟨V,r,ho⟩:=aB hm
   exact bW [0,6,26,27] r (fun t f w=>f 28=i64 t/\aF G K (aV 260 K j k h::L) w) aE aE
 exact aE
theorem vD {c:(List Definition)} {R:Bool} (hm:gX c=some R) (hs:aF G K (L) w) (k:aW K a1 c2 c):
  Calls prog 140 ([zS a1 c.length c2]:List Value).toArray w (cL fun v w'=>v=zB R/\aF G K (L) w'):=by
 refine aN func140 rfl (by kernel_rfl) (by show (1:Nat)<=45;decide) ?_;unfold gX at hm
 refine aJ (aG (v:=zB false) (aM (aH (aH (aZ [0] (fun f w=>∃ l,iY c l=some R/\f 15=zB l/\aF G K (L) w) ?_ ?_)))))
 ·rintro f w6 ⟨l,hm,J,b4⟩
  unfold iY at hm
  refine aD ?_
  rcases aI hm with ⟨o,hm⟩|⟨o,hm⟩
  ·exact aE
  ·refine aP o J (aU (aD (aH (aJ (aO (v:=zS a1 c.length c2) (aC (aX (len:=c.length) qI rfl) (aO (v:=i64 0) (aM (aQ [] (fun f w=>xO=some R/\aF G K (L) w) aE ?_)))))))));obtain ⟨b5,V,ho⟩:=aB hm
   refine bW [0,16,17] V (fun j f w=>f 18=i64 j/\aF G K (L) w) aE ?_
   ·rintro j Z f b6 hm hr ⟨m,p⟩
    unfold iX at hm
    refine aJ (aC (eC m rfl) (aM (aH ?_)))
    rcases aI hm with ⟨q,hm⟩|⟨q,hm⟩
    ·refine aS q rfl (aU (aD (aH (bJ (aJ (bR m ?_))))));obtain ⟨a,r,hm⟩:=aB hm
     refine aC (cR qI rfl k rfl rfl m r) ?_;obtain ⟨b7,a0,a2⟩:=aW.el (sz:=3) rfl k r
     obtain ⟨e,h,rfl,b8⟩:=a2
     refine aC (eD (t:=0) (vs:=[str a.Name,i64 a.Parameters,zS e a.Body.length h]) aEH p a0 rfl rfl rfl) (eE (vs:=[str ([]:aL),i64 0,zS none 0 0]) zeroValue131 p rfl (fun n b9 a3=>(aG (v:=i64 j) (fA (i:=0) (ns:=[str a.Name,i64 a.Parameters,zS e a.Body.length h]) (us:=[str a.Name,i64 a.Parameters,zS e a.Body.length h]) sizeOf131 a3 rfl rfl rfl rfl rfl (kJ rfl) rfl rfl (fun a4 (b:aF G K (box n 131 [str a.Name,i64 a.Parameters,zS e a.Body.length h]::L) a4)=>(aM (aH (aH (aZ [0,4,16,17,18] (fun f w=>∃ u,lH c j a u=some Z/\f 35=zB u/\aF G K (box n 131 [str a.Name,i64 a.Parameters,zS e a.Body.length h]::L) w) aE (fZ (C:=fun w'=>aF G K (box n 131 [str a.Name,i64 a.Parameters,zS e a.Body.length h]::L) w') Tryz_mixed (by kernel_rfl) (aF.mono b (eI.drew _)) (bE (fun _ b=>bH (t':=0) aDP rfl rfl) (bE (fun _ b=>dD oK b (i:=0) rfl rfl rfl) ?_))))))))))))
     obtain ⟨x,a5,hm⟩:=aB hm
     refine gA (vs:=[str a.Name]) (v:=zB x) call44 rfl (fun _ b=>(aDI a5 b)) (bE (fun _ b=>uT rfl) (bE (fun _ b=>bC (v:=zB (!x)) rfl) ?_))
     rcases aI hm with ⟨d,hm⟩|⟨d,hm⟩
     ·exact aE
     ·refine xM (g:=27) rfl rfl (sD d) (bE (fun _ b=>bC (v:=zS a1 c.length c2) rfl) (xM (g:=27) rfl rfl (sD d) (bE (fun _ b=>bC (v:=i64 j) rfl) (xM (g:=27) rfl rfl (sD d) ?_))));obtain ⟨a6,y,hm⟩:=aB hm
      obtain ⟨a7,a8,z⟩:=Cut.ex 3 a1 c2 0
      have a9:=aW.cut' k y z
      refine bE (fun _ b=>uI qI k.room z rfl rfl rfl y) (xM (g:=27) rfl rfl (sD d) (bE (fun _ b=>bH (t':=0) aDP rfl rfl) (xM (g:=27) rfl rfl (sD d) (bE (fun _ b=>dD oK b (i:=0) rfl rfl rfl) (xM (g:=27) rfl rfl (sD d) ?_)))));obtain ⟨b0,b1,hm⟩:=aB hm
      exact gA (vs:=[zS a7 a6.length a8,str a.Name]) (v:=i64 b0) call176 rfl (fun _ b=>(xG b1 b a9)) aE
    ·exact aE
 exact aE
theorem aIC {a:(List Definition)} {c:aY} {R:Bool} (hm:tL a c=some R) (d:aF G K (L) w) (e:aW K a1 c2 a) (g:aW K a4 c5 c.Values):
  Calls prog 143 ([zS a1 a.length c2,zA #[i64 c.Definition,zS a4 c.Values.length c5]]:List Value).toArray w (cL fun v w'=>v=zB R/\aF G K (L) w'):=by
 refine aN func143 rfl (by kernel_rfl) (by show (2:Nat)<=27;decide) ?_;unfold tL at hm
 exact aJ (eT (v:=zA #[i64 c.Definition,zS a4 c.Values.length c5]) (vs:=[i64 c.Definition,zS a4 c.Values.length c5]) d rfl rfl (fun h i j=>(aG (v:=zB false) (aM (aH (aZ [] (fun f w=>∃ b,nD b=some R/\f 4=zB b/\aF G K (L) w) aE aE))))))
theorem aFf {a b:bB} {R:Int} (hm:lZ a b=some R) (l:aF G K (L) w):
  Calls prog 180 ([zA #[str a.Left,str a.Right,str a.Result],zA #[str b.Left,str b.Right,str b.Result]]:List Value).toArray w (cL fun v w'=>v=i64 R/\aF G K (L) w'):=by
 let c:=[str a.Left,str a.Right,str a.Result]
 let d:=[str b.Left,str b.Right,str b.Result]
 refine aN func180 rfl (by kernel_rfl) (by show (2:Nat)<=16;decide) ?_;unfold lZ at hm
 refine aJ (eT (v:=zA #[str a.Left,str a.Right,str a.Result]) (vs:=c) l rfl rfl (fun h r m=>(eT (v:=zA #[str b.Left,str b.Right,str b.Result]) (vs:=d) m rfl rfl (fun j t e=>(aG (v:=i64 0) (aM (aJ (aC (bH (t':=0) aMp rfl rfl) (aC (dD oK e (i:=1) rfl rfl rfl) (aC (bH (t':=1) aMq rfl rfl) (aC (dD oK e (i:=1) rfl rfl rfl) (dK (Kt:=K) (xs:=([a.Left,a.Right]:List aL)) (cs:=[str a.Left,str a.Right]) (vs:=[(0,str a.Left),(1,str a.Right)]) cT qF rfl rfl e rfl (by kernel_rfl) rfl rfl rfl ⟨rfl,rfl,trivial⟩ (fun k n (g:aF G K (aV 9 K k 2 ([a.Left,a.Right]:List aL)::box j 135 d::box h 135 c::L) n)=>(aC (bH (t':=0) aMp rfl rfl) (aC (dD oK g (i:=1) rfl rfl rfl) (aC (bH (t':=1) aMq rfl rfl) (aC (dD oK g (i:=1) rfl rfl rfl) (dK (Kt:=K) (xs:=([b.Left,b.Right]:List aL)) (cs:=[str b.Left,str b.Right]) (vs:=[(0,str b.Left),(1,str b.Right)]) cT qF rfl rfl g rfl (by kernel_rfl) rfl rfl rfl ⟨rfl,rfl,trivial⟩ (fun o p (q:aF G K (aV 9 K o 2 ([b.Left,b.Right]:List aL)::aV 9 K k 2 ([a.Left,a.Right]:List aL)::box j 135 d::box h 135 c::L) p)=>?_)))))))))))))))))))
 obtain ⟨u,x,y,z,J⟩:=aF.lendSp q (Hp.le_refl _) zt1
 exact aE
theorem aAB {o p:bB} {a:Nat} {R:Bool} (hm:uE o p=some R) (c:aF G K (L) w) (d:eR K a1 a [str p.Left,str p.Right,str p.Result]):
  Calls prog 182 ([zA #[str o.Left,str o.Right,str o.Result],cE a1 a]:List Value).toArray w (cL fun v w'=>v=zB R/\aF G K (L) w'):=by
 refine aN func182 rfl (by kernel_rfl) (by show (2:Nat)<=16;decide) ?_;unfold uE at hm
 exact aJ (eT (v:=zA #[str o.Left,str o.Right,str o.Result]) (vs:=[str o.Left,str o.Right,str o.Result]) c rfl rfl (fun e g h=>(aG (v:=zB false) (aM (aH (aZ [] (fun f w=>∃ b,oA b=some R/\f 3=zB b/\aF G K (L) w) aE aE))))))
theorem kO {b:(List bB)} {d:bB} {c:Nat} {R:Int} (hm:dM b d=some R) (q:aF G K (L) w) (g:aW K a1 c2 b) (l:eR K a4 c [str d.Left,str d.Right,str d.Result]):
  Calls prog 217 ([zS a1 b.length c2,Value.func (.func 182) #[] #[cE a4 c]]:List Value).toArray w (cL fun v w'=>v=i64 R/\aF G K (L) w'):=by
 refine aN func217 rfl (by kernel_rfl) (by show (2:Nat)<=19;decide) ?_;unfold dM at hm
 refine aJ (aG (v:=i64 0) (aM (aH (aJ (aO (v:=zS a1 b.length c2) (aC (aX (len:=b.length) vO rfl) (aO (v:=i64 0) (aM (aQ [] (fun f w=>fU=some R/\aF G K (L) w) aE ?_)))))))));obtain ⟨r,m,ho⟩:=aB hm
 refine bW [0,1,7] m (fun e f w=>f 8=i64 e/\aF G K (L) w) aE ?_
 ·rintro e u f x hm hr ⟨h,i⟩
  unfold cG at hm
  refine aJ (aC (eC h rfl) (aM (aH ?_)))
  rcases aI hm with ⟨j,hm⟩|⟨j,hm⟩
  ·refine aS j rfl (aU (aD (aH (bJ (aJ (bR h (aG (v:=i64 e) (aM (aJ (aO (v:=Value.func (.func 182) #[] #[cE a4 c]) (aO (v:=zS a1 b.length c2) (aO (v:=i64 e) ?_))))))))))));obtain ⟨a,k,hm⟩:=aB hm
   refine aC (cR vO rfl g rfl rfl rfl k) ?_;obtain ⟨y,n,o⟩:=aW.el (sz:=3) rfl g k
   cases o
   refine aC (eD (t:=0) (vs:=[str a.Left,str a.Right,str a.Result]) aKs i n rfl rfl rfl) ?_;obtain ⟨z,p,hm⟩:=aB hm
   exact eM (vs:=[zA #[str a.Left,str a.Right,str a.Result]]) (caps:=[cE a4 c]) (us:=[zA #[str a.Left,str a.Right,str a.Result],cE a4 c]) rfl call182 rfl rfl (aAB p i l) aE
  ·exact aE
theorem fL {b:(List bB)} {a:bB} {c:Nat} {R:Bool} (hm:dF b a=some R) (d:aF G K (L) w) (e:aW K a1 c2 b) (g:eR K a4 c [str a.Left,str a.Right,str a.Result]):
  Calls prog 181 ([zS a1 b.length c2,Value.func (.func 182) #[] #[cE a4 c]]:List Value).toArray w (cL fun v w'=>v=zB R/\aF G K (L) w'):=by
 exact aE
theorem aJV {b:(List bB)} {R:Bool} (hm:oB b=some R) (hs:aF G K (L) w) (e:aW K a1 c2 b):
  Calls prog 144 ([zS a1 b.length c2]:List Value).toArray w (cL fun v w'=>v=zB R/\aF G K (L) w'):=by
 refine aN func144 rfl (by kernel_rfl) (by show (1:Nat)<=56;decide) ?_;unfold oB at hm
 refine aJ (aG (v:=zB false) (aM (aH (aJ (aO (v:=zS a1 b.length c2) (aC (aX (len:=b.length) vO rfl) (aO (v:=i64 0) (aM (aQ [0] (fun f w=>aFC b=some R/\aF G K (L) w) aE ?_)))))))));obtain ⟨a2,n,ho⟩:=aB hm
 refine bW [0,5,6] n (fun c f w=>f 7=i64 c/\aF G K (L) w) aE ?_
 ·rintro c o f a3 hm hr ⟨g,j⟩
  unfold iO at hm
  refine aJ (aC (eC g rfl) (aM (aH ?_)))
  rcases aI hm with ⟨k,hm⟩|⟨k,hm⟩
  ·refine aS k rfl (aU (aD (aH (bJ (aJ (bR g ?_))))));obtain ⟨a,l,hm⟩:=aB hm
   refine aC (cR vO rfl e rfl rfl g l) ?_;obtain ⟨a4,p,q⟩:=aW.el (sz:=3) rfl e l
   cases q
   refine aC (eD (t:=0) (vs:=[str a.Left,str a.Right,str a.Result]) aKs j p rfl rfl rfl) (eE (vs:=[str ([]:aL),str ([]:aL),str ([]:aL)]) zeroValue135 j rfl (fun d a5 r=>(aG (v:=i64 c) (fA (i:=0) (ns:=[str a.Left,str a.Right,str a.Result]) (us:=[str a.Left,str a.Right,str a.Result]) sizeOf135 r rfl rfl rfl rfl rfl (kJ rfl) rfl rfl (fun u (a6:aF G K (box d 135 [str a.Left,str a.Right,str a.Result]::L) u)=>(aM (aH (aH (aZ [0,4,5,6,7] (fun f w=>∃ h,fX b c a h=some o/\f 48=zB h/\aF G K (box d 135 [str a.Left,str a.Right,str a.Result]::L) w) ?_ ?_)))))))))
   ·rintro f a7 ⟨h,hm,x,y⟩
    unfold fX at hm
    refine aD ?_
    rcases aI hm with ⟨m,hm⟩|⟨m,hm⟩
    ·exact aE
    ·refine aP m x (aU (aD (aJ (aO (v:=zS a1 b.length c2) (aC (xV (vs:=[zP (some ⟨d,0,none⟩)]) rfl) ?_)))));obtain ⟨a8,z,J,V,a9⟩:=aF.lendBp y .head
     obtain ⟨b0,Z,hm⟩:=aB hm
     exact aT (vs:=[zS a1 b.length c2,Value.func (.func 182) #[] #[cE (some ⟨d,0,none⟩) 0]]) call181 rfl (fL Z V (e.mono z) J) aE
   exact aE
  ·exact aE
theorem aMT {a:(List aL)} {R:Bool} (hm:aBF a=some R) (o:aF G K (L) w) (d:aW K a1 c2 a):
  Calls prog 145 ([zS a1 a.length c2]:List Value).toArray w (cL fun v w'=>v=zB R/\aF G K (L) w'):=by
 refine aN func145 rfl (by kernel_rfl) (by show (1:Nat)<=32;decide) ?_;unfold aBF at hm
 refine aJ (aG (v:=zB false) (aM (aH (aJ (aO (v:=zS a1 a.length c2) (aC (aX (len:=a.length) cT rfl) (aO (v:=i64 0) (aM (aQ [0] (fun f w=>aFa a=some R/\aF G K (L) w) aE ?_)))))))));obtain ⟨p,i,ho⟩:=aB hm
 refine bW [0,5,6] i (fun b f w=>f 7=i64 b/\aF G K (L) w) aE ?_
 ·rintro b j f q hm hr ⟨c,k⟩
  unfold wY at hm
  refine aJ (aC (eC c rfl) (aM (aH ?_)))
  rcases aI hm with ⟨e,hm⟩|⟨e,hm⟩
  ·refine aS e rfl (aU (aD (aH (bJ (aJ (bR c ?_))))));obtain ⟨l,g,hm⟩:=aB hm
   refine aC (cR cT rfl d rfl rfl c g) ?_;obtain ⟨r,m,n⟩:=aW.el (sz:=1) rfl d g
   cases n
   exact aC (bZ (t:=0) oK k m rfl rfl) (aG (v:=i64 b) (aG (v:=str l) (aM (aH (aZ [0,5,6,7] (fun f w=>∃ h,wX b h=some j/\f 27=zB h/\aF G K (L) w) aE aE)))))
  ·exact aE
theorem xT {c:aY} {p:bM} {a:Nat} {R:Bool} (hm:yU c p=some R) (b:aF G K (L) w) (d:aW K a1 c2 c.Values) (e:eR K a4 a [zS a7 p.Definitions.length c8,zS a10 p.Components.length c11,zS a13 p.Meetings.length c14,zS a16 p.Allowed.length c17,zS a19 p.Hidden.length c20]) (g:aW K a7 c8 p.Definitions) (h:aW K a10 c11 p.Components) (i:aW K a13 c14 p.Meetings) (j:aW K a16 c17 p.Allowed) (k:aW K a19 c20 p.Hidden):
  Calls prog 142 ([zA #[i64 c.Definition,zS a1 c.Values.length c2],cE a4 a]:List Value).toArray w (cL fun v w'=>v=zB R/\aF G K (L) w'):=by
 exact aE
theorem jO {b:(List aY)} {a:bM} {d:Nat} {R:Int} (hm:dB b a=some R) (V:aF G K (L) w) (h:aW K a1 c2 b) (m:eR K a4 d [zS a7 a.Definitions.length c8,zS a10 a.Components.length c11,zS a13 a.Meetings.length c14,zS a16 a.Allowed.length c17,zS a19 a.Hidden.length c20]) (n:aW K a7 c8 a.Definitions) (o:aW K a10 c11 a.Components) (p:aW K a13 c14 a.Meetings) (q:aW K a16 c17 a.Allowed) (r:aW K a19 c20 a.Hidden):
  Calls prog 178 ([zS a1 b.length c2,Value.func (.func 142) #[] #[cE a4 d]]:List Value).toArray w (cL fun v w'=>v=i64 R/\aF G K (L) w'):=by
 refine aN func178 rfl (by kernel_rfl) (by show (2:Nat)<=19;decide) ?_;unfold dB at hm
 refine aJ (aG (v:=i64 0) (aM (aH (aJ (aO (v:=zS a1 b.length c2) (aC (aX (len:=b.length) xN rfl) (aO (v:=i64 0) (aM (aQ [] (fun f w=>fM=some R/\aF G K (L) w) aE ?_)))))))));obtain ⟨Z,u,ho⟩:=aB hm
 refine bW [0,1,7] u (fun e f w=>f 8=i64 e/\aF G K (L) w) aE ?_
 ·rintro e a0 f a2 hm hr ⟨i,j⟩
  unfold cA at hm
  refine aJ (aC (eC i rfl) (aM (aH ?_)))
  rcases aI hm with ⟨k,hm⟩|⟨k,hm⟩
  ·refine aS k rfl (aU (aD (aH (bJ (aJ (bR i (aG (v:=i64 e) (aM (aJ (aO (v:=Value.func (.func 142) #[] #[cE a4 d]) (aO (v:=zS a1 b.length c2) (aO (v:=i64 e) ?_))))))))))));obtain ⟨c,l,hm⟩:=aB hm
   refine aC (cR xN rfl h rfl rfl rfl l) ?_;obtain ⟨a3,x,y⟩:=aW.el (sz:=2) rfl h l
   obtain ⟨g,c48,rfl,z⟩:=y
   refine aC (eD (t:=0) (vs:=[i64 c.Definition,zS g c.Values.length c48]) aGd j x rfl rfl rfl) ?_;obtain ⟨a5,J,hm⟩:=aB hm
   exact eM (vs:=[zA #[i64 c.Definition,zS g c.Values.length c48]]) (caps:=[cE a4 d]) (us:=[zA #[i64 c.Definition,zS g c.Values.length c48],cE a4 d]) rfl call142 rfl rfl (xT J j z m n o p q r) aE
  ·exact aE
theorem fF {b:(List aY)} {a:bM} {c:Nat} {R:Bool} (hm:cQ b a=some R) (d:aF G K (L) w) (e:aW K a1 c2 b) (g:eR K a4 c [zS a7 a.Definitions.length c8,zS a10 a.Components.length c11,zS a13 a.Meetings.length c14,zS a16 a.Allowed.length c17,zS a19 a.Hidden.length c20]) (h:aW K a7 c8 a.Definitions) (i:aW K a10 c11 a.Components) (j:aW K a13 c14 a.Meetings) (k:aW K a16 c17 a.Allowed) (l:aW K a19 c20 a.Hidden):
  Calls prog 141 ([zS a1 b.length c2,Value.func (.func 142) #[] #[cE a4 c]]:List Value).toArray w (cL fun v w'=>v=zB R/\aF G K (L) w'):=by
 exact aE
theorem aID {a:bM} {R:Int} (hm:tM a=some R) (p:aF G K (L) w) (e:aW K a1 c2 a.Definitions) (h:aW K a4 c5 a.Components) (q:aW K a7 c8 a.Meetings) (r:aW K a10 c11 a.Allowed) (t:aW K a13 c14 a.Hidden):
  Calls prog 100 ([zA #[zS a1 a.Definitions.length c2,zS a4 a.Components.length c5,zS a7 a.Meetings.length c8,zS a10 a.Allowed.length c11,zS a13 a.Hidden.length c14]]:List Value).toArray w (cL fun v w'=>v=i64 R/\aF G K (L) w'):=by
 let j:=[zS a1 a.Definitions.length c2,zS a4 a.Components.length c5,zS a7 a.Meetings.length c8,zS a10 a.Allowed.length c11,zS a13 a.Hidden.length c14]
 refine aN func100 rfl (by kernel_rfl) (by show (1:Nat)<=35;decide) ?_;unfold tM at hm
 refine aJ (eT (v:=zA #[zS a1 a.Definitions.length c2,zS a4 a.Components.length c5,zS a7 a.Meetings.length c8,zS a10 a.Allowed.length c11,zS a13 a.Hidden.length c14]) (vs:=j) p rfl rfl (fun d a3 k=>(aG (v:=i64 0) (aM (aH (bJ (aJ (aC (bH (t':=0) aGS rfl rfl) (aC (dD aOw k (i:=0) rfl rfl rfl) ?_)))))))));obtain ⟨u,x,hm⟩:=aB hm
 refine aT (vs:=[zS a1 a.Definitions.length c2]) call140 rfl (vD x k e) ?_
 rintro _ a5 ⟨rfl,l⟩
 refine aC (uT rfl) (aG (v:=zB (!u)) (aM ?_))
 rcases aI hm with ⟨m,hm⟩|⟨m,hm⟩
 ·exact aE
 ·refine aP m rfl (aH (aZ [1] (fun f w=>∃ n,rV a n=some R/\f 8=zB n/\aF G K (box d 44 j::L) w) aE (bK (aC (bH (t':=1) aCT rfl rfl) (aC (dD aMl l (i:=0) rfl rfl rfl) (aC (aX (len:=a.Components.length) xN rfl) ?_))))));obtain ⟨y,z,hm⟩:=aB hm
  refine aT (vs:=[i64 (a.Components.length:Int),i64 1,i64 3]) call89 rfl (aHR z l) ?_
  rintro _ a6 ⟨rfl,o⟩
  refine aC (uT rfl) (aO (v:=zB (!y)) ?_)
  rcases aI hm with ⟨c,hm⟩|⟨c,hm⟩
  ·exact aE
  ·refine kI c rfl rfl (aC (bH (t':=1) aCT rfl rfl) (kI c rfl rfl (aC (dD aMl o (i:=0) rfl rfl rfl) (kI c rfl rfl (aC (xV (vs:=[zP (some ⟨d,0,none⟩)]) rfl) (kI c rfl rfl ?_))))));obtain ⟨a8,b,J,V,Z⟩:=aF.lendBp o .head
   obtain ⟨a9,a0,hm⟩:=aB hm
   refine aT (vs:=[zS a4 a.Components.length c5,Value.func (.func 142) #[] #[cE (some ⟨d,0,none⟩) 0]]) call141 rfl (fF a0 V (h.mono b) J (e.mono b) (h.mono b) (q.mono b) (r.mono b) (t.mono b)) ?_
   rintro _ b0 ⟨rfl,a2⟩
   have b1:=Z _ _ a2
   exact aE
theorem aIE {a:bM} {R:Bool} (hm:mF a=some R) (b:aF G K (L) w) (c:aW K a1 c2 a.Definitions) (d:aW K a4 c5 a.Components) (e:aW K a7 c8 a.Meetings) (g:aW K a10 c11 a.Allowed) (h:aW K a13 c14 a.Hidden):
  Calls prog 50 ([zA #[zS a1 a.Definitions.length c2,zS a4 a.Components.length c5,zS a7 a.Meetings.length c8,zS a10 a.Allowed.length c11,zS a13 a.Hidden.length c14]]:List Value).toArray w (cL fun v w'=>v=zB R/\aF G K (L) w'):=by
 exact aE
theorem aDr {rec_:(List aR)->Option ((Tr aR) × (List aR))} (ih:∀ {G:kH} {K:Hp} {L:List eW} {w:World} {e:(List aR)} {a1:Option Addr} {c2:Nat} {R:((Tr aR) × (List aR))} (hm:rec_ e=some R) (hs:aF G K (L) w) (g:aW K a1 c2 e),
  Calls prog 255 ([zS a1 e.length c2]:List Value).toArray w (cL fun v w'=>∃ c r u x,v=zT #[cE r 0,zS u R.2.length x]/\Hp.le K c/\trd c R.1 r/\aW c u x R.2/\aF G c (L) w'))
  {G:kH} {K:Hp} {L:List eW} {w:World} {e:(List aR)} {a1:Option Addr} {c2:Nat} {R:((Tr aR) × (List aR))} (hm:kM rec_ e=some R) (hs:aF G K (L) w) (g:aW K a1 c2 e):
  Calls prog 255 ([zS a1 e.length c2]:List Value).toArray w (cL fun v w'=>∃ c r u x,v=zT #[cE r 0,zS u R.2.length x]/\Hp.le K c/\trd c R.1 r/\aW c u x R.2/\aF G c (L) w'):=by
 refine aN func255 rfl (by kernel_rfl) (by show (1:Nat)<=38;decide) ?_;unfold kM at hm
 refine aJ (aG (v:=zP none) (aG (v:=zS none 0 0) (aM (aJ (aO (v:=zS a1 e.length c2) ?_)))));obtain ⟨a,q5,hm⟩:=aB hm
 refine aC (cR nP rfl g rfl rfl rfl q5) ?_;obtain ⟨g1,b6,c9⟩:=aW.el (sz:=2) rfl g q5
 cases c9
 refine aC (eD (t:=0) (vs:=[i64 a.Kind,i64 a.Value]) aIm hs b6 rfl rfl rfl) (aC (aCR (vs:=[(0,zA #[i64 a.Kind,i64 a.Value])]) (cs:=[i64 a.Kind,i64 a.Value,zS none 0 0]) bs_304 rfl (by kernel_rfl)) (eT (v:=zA #[i64 a.Kind,i64 a.Value,zS none 0 0]) (vs:=[i64 a.Kind,i64 a.Value,zS none 0 0]) hs rfl rfl (fun b g2 b7=>(aG (v:=zP (some ⟨b,0,none⟩)) (aM (aJ (aO (v:=zS a1 e.length c2) ?_)))))));obtain ⟨d0,b8,hm⟩:=aB hm
 obtain ⟨d1,d2,c0⟩:=Cut.ex 2 a1 c2 1
 have g3:=aW.cut' g b8 c0
 refine aC (aMg nP g.room c0 rfl rfl rfl b8) (aG (v:=zS d1 d0.length d2) (aM (aH (aJ (aO (v:=zS a1 e.length c2) (aC (cR nP rfl g rfl rfl rfl q5) (aC (eD (t:=0) (vs:=[i64 a.Kind,i64 a.Value]) aIm b7 b6 rfl rfl rfl) ?_)))))));obtain ⟨g4,d3,hm⟩:=aB hm
 refine aT (vs:=[zA #[i64 a.Kind,i64 a.Value]]) call275 rfl (aAA d3 b7) ?_
 rintro _ g5 ⟨rfl,d4⟩
 refine aO (v:=i64 0) (aM (aQ [4] (fun f w=>∃ y j z a0 a2 J V,Hp.le K y/\aDH a j z=some R/\f 5=zS J z.length V/\aW y J V z/\aF G y (aV 267 y a0 a2 j::box b 304 [i64 a.Kind,i64 a.Value,zS a0 j.length a2]::L) w) ?_ ?_))
 ·rintro f c1 ⟨y,j,z,a0,a2,J,V,d5,hm,d6,d7,d8⟩
  unfold aDH at hm
  refine aD (aJ (aO (v:=zP (some ⟨b,0,none⟩)) (bR d6 (aG (v:=zP (some ⟨b,0,none⟩)) (aG (v:=zS J z.length V) (aM ?_))))));obtain ⟨d9,c3,e0,a9⟩:=aF.giveSp d8 (Hp.le_refl _) .head
  replace a9:aF G d9 (box b 304 [i64 a.Kind,i64 a.Value,zS a0 j.length a2]::L) c1:=a9
  obtain ⟨b0,b1,e1,b2,_⟩:=aF.lendBp a9 .head
  replace b2:aF G b0 (L) c1:=b2
  have e2:trd b0 (Tr.mk a j) (some ⟨b,0,none⟩):=trd_mk e1 (e0.mono b1)
  obtain rfl:=Option.some.inj hm
  exact aAP (retQ_2 results255 rfl rfl ⟨b0,(some ⟨b,0,none⟩),J,V,(tp2 (elp_b rfl) rfl),(Hp.le_trans (Hp.le_trans d5 c3) b1),e2,(d7.mono (Hp.le_trans c3 b1)),b2⟩)
 have g6:=aF.nil (α:=(Tr aR)) d4 267 K
 obtain ⟨g7,e5,ho⟩:=aB hm
 refine aBM [4,17] e5 (fun k a3 b3 f w=>∃ l m n a4 a5,Hp.le K l/\f 5=zS a4 a3.length a5/\f 18=i64 b3/\aW l a4 a5 a3/\aF G l (aV 267 l m n k::box b 304 [i64 a.Kind,i64 a.Value,zS m k.length n]::L) w) aE ?_
 ·rintro k a3 b3 g8 f g9 hm hr ⟨l,m,n,a4,a5,e6,e7,c4,e8,e9⟩
  unfold tN at hm
  refine aJ (aC (eC c4 rfl) (aM (aH ?_)))
  rcases aI hm with ⟨c5,hm⟩|⟨c5,hm⟩
  ·refine aS c5 rfl (aU (aD (aH (bJ (aJ (aG (v:=zP none) (aM (aJ (bR e7 ?_)))))))));obtain ⟨a6,f0,hm⟩:=aB hm
   refine aT (vs:=[zS a4 a3.length a5]) call255 rfl (ih f0 e9 e8) ?_
   rintro _ h0 ⟨d,o,b4,b5,rfl,c6,f1,f2,c7⟩
   refine aO (v:=zT #[cE o 0,zS b4 a6.2.length b5]) (aC (iL rfl rfl) (aC (iL rfl rfl) (aG (v:=cE o 0) (aG (v:=zS b4 a6.2.length b5) (aM (bK (aO (v:=zP (some ⟨b,0,none⟩)) (aO (v:=zP (some ⟨b,0,none⟩)) (aC (vK rfl) (aC (bH (t':=2) aBS rfl rfl) (aC (dD aKt c7 (i:=1) rfl rfl rfl) (aO (v:=cE o 0) (dK (Kt:=d) (xs:=([a6.1]:List (Tr aR))) (cs:=[cE o 0]) (vs:=[(0,cE o 0)]) aIn ez_267 rfl rfl c7 rfl (by kernel_rfl) rfl rfl rfl ⟨⟨o,rfl,f1⟩,trivial⟩ (fun f3 f4 (f5:aF G d (aV 267 d f3 1 ([a6.1]:List (Tr aR))::aV 267 l m n k::box b 304 [i64 a.Kind,i64 a.Value,zS m k.length n]::L) f4)=>?_))))))))))))))
   obtain ⟨Z,f6,hm⟩:=aB hm
   exact WO_appO (i:=0) d aIn underlying302 ez_267 rfl rfl f5 rfl c6 (Hp.le_refl _) f6 rfl rfl rfl rfl (fun _ _ _ h=>El.one h) (fun p q f7 (f8:aF G d (aV 267 d p q Z::box b 304 [i64 a.Kind,i64 a.Value,zS m k.length n]::L) f7)=>(aC (vK rfl) (aC (bH (t':=2) aBS rfl rfl) (fA (i:=1) (ns:=[zS p Z.length q]) (us:=[i64 a.Kind,i64 a.Value,zS p Z.length q]) sizeOf302 f8 rfl rfl rfl rfl rfl (kJ rfl) rfl rfl (fun f9 (g0:aF G d (aV 267 d p q Z::box b 304 [i64 a.Kind,i64 a.Value,zS p Z.length q]::L) f9)=>(bP (eL (aD (bK (aC (nI c4 rfl) (aO (v:=i64 (wr (b3+1))) (aM ⟨_,(Option.some.inj hm).symm,gF,d,p,q,b4,b5,(Hp.le_trans e6 c6),rfl,rfl,f2,g0⟩))))))))))))
  ·exact aE
theorem aDs (n:Nat):∀ {G:kH} {K:Hp} {L:List eW} {w:World} {e:(List aR)} {a1:Option Addr} {c2:Nat} {R:((Tr aR) × (List aR))} (hm:kN n e=some R) (a:aF G K (L) w) (b:aW K a1 c2 e),
  Calls prog 255 ([zS a1 e.length c2]:List Value).toArray w (cL fun v w'=>∃ c d g h,v=zT #[cE d 0,zS g R.2.length h]/\Hp.le K c/\trd c R.1 d/\aW c g h R.2/\aF G c (L) w'):=by
 induction n with
 |zero=>
  intro G K L w e a1 c2 R hm a b
  unfold kN at hm
  cases hm
 |succ n ih=>
  intro G K L w e a1 c2 R hm a b
  exact aDr (rec_:=kN n) (fun hm a b=>ih hm a b) hm a b
theorem aLI {e:(List aR)} {R:((Tr aR) × (List aR))} (hm:aIs e=some R) (hs:aF G K (L) w) (h3:aW K a1 c2 e):
  Calls prog 255 ([zS a1 e.length c2]:List Value).toArray w (cL fun v w'=>∃ K' ra1 ra2 rc2,v=zT #[cE ra1 0,zS ra2 R.2.length rc2]/\Hp.le K K'/\trd K' R.1 ra1/\aW K' ra2 rc2 R.2/\aF G K' (L) w'):=aDs 100000 hm hs h3
theorem aGK {e:(List aR)} {R:(Tr aR)} (hm:aIt e=some R) (c:aF G K (L) w) (d:aW K a1 c2 e):
  Calls prog 222 ([zS a1 e.length c2]:List Value).toArray w (cL fun v w'=>∃ a b,v=cE b 0/\Hp.le K a/\trd a R b/\aF G a (L) w'):=by
 exact aE
theorem qD {b:(Tr aR)} {R:Int} (hm:iI b=some R) (c:aF G K (L) w) (g:trd K b a1):
  Calls prog 257 ([cE a1 0]:List Value).toArray w (cL fun v w'=>v=i64 R/\aF G K (L) w'):=by
 refine aN func257 rfl (by kernel_rfl) (by show (1:Nat)<=16;decide) ?_;unfold iI at hm
 refine aJ (aG (v:=i64 0) (aM (aH (aJ (aO (v:=cE a1 0) ?_)))));obtain ⟨h,i,a,l⟩:=trd.el g
 replace a:eR K a1 0 [i64 b.val.Kind,i64 b.val.Value,zS h b.kids.length i]:=a
 refine aC (dO rfl a) (aC (cF (k':=0+0) aDQ rfl a rfl) (aC (cF (k':=0+0) aGc rfl a rfl) (aC (bZ (t:=0) gJ c a rfl rfl) (aC (dN rfl rfl) (aM ?_)))))
 rcases aI hm with ⟨d,hm⟩|⟨d,hm⟩
 ·refine aS d rfl (aJ (aO (v:=cE a1 0) (aC (dO rfl a) (aC (cF (k':=0+0) aDQ rfl a rfl) (aC (cF (k':=0+1) aBQ rfl a rfl) (aC (bZ (t:=1) gJ c a rfl rfl) ?_))))));obtain ⟨j,e,hm⟩:=aB hm
  refine aC (R_ixT (tab:=aKq) ar_323 rfl rfl e) (aC (R_ldT (tab:=aKq) gJ (tab_5 c) e rfl) (aG (v:=i64 j) (aM ?_)));obtain rfl:=Option.some.inj hm
  exact aAP (aEz (xU results257 rfl ⟨rfl,c⟩))
 ·exact aE
theorem mL {rec_:(Tr aR)->Option aL} (g:∀ {G:kH} {K:Hp} {L:List eW} {w:World} {h:(Tr aR)} {a1:Option Addr} {R:aL} (hm:rec_ h=some R) (b:aF G K (L) w) (c:trd K h a1),
  Calls prog 223 ([cE a1 0]:List Value).toArray w (cL fun v w'=>v=str R/\aF G K (L) w')) {G:kH} {K:Hp} {L:List eW} {w:World} {a:(Tr aR)} {a1:Option Addr} {d:Bool} {R:aL} (hm:fV rec_ a d=some R) (b:aF G K (L) w) (c:trd K a a1):
  Calls prog 256 ([cE a1 0,zB d]:List Value).toArray w (cL fun v w'=>v=str R/\aF G K (L) w'):=by
 refine aN func256 rfl (by kernel_rfl) (by show (2:Nat)<=12;decide) ?_;unfold fV at hm
 refine aJ (aG (v:=str ([]:aL)) (aM (aH (aJ (aO (v:=zB d) (aM ?_))))))
 rcases aI hm with ⟨e,hm⟩|⟨e,hm⟩
 ·refine aS e rfl (aJ (aO (v:=cE a1 0) ?_));obtain ⟨k,i,hm⟩:=aB hm
  exact aT (vs:=[cE a1 0]) call223 rfl (g i b c) aE
 ·refine aP e rfl (aU (aD (aJ (aO (v:=cE a1 0) ?_))));obtain ⟨l,j,hm⟩:=aB hm
  exact aT (vs:=[cE a1 0]) call223 rfl (g j b c) aE
end Gv
namespace Gv
open Gv.Hp renaming le_refl→zR
open Go.Value renaming slice→zS,bool→zB,pointer→zP,agg→zA
open Gv.Hp renaming le_trans→zL
open Go Go.Proofs Go.Proofs.Tryz
set_option maxRecDepth 20000
set_option maxHeartbeats 40000000
variable {G:kH} {K Kf:Hp} {L:List eW} {w:World} {a1 a2 a6 a5 a4 a7 a10 a13 a16 a19 a22:Option Addr} {c2 b1 c3 c7 c6 c5 c8 c11 c14 c17 c20 c23:Nat}
theorem aCE {rec_:(Tr aR)->Option aL} (m:∀ {G:kH} {K:Hp} {L:List eW} {w:World} {c:(Tr aR)} {a1:Option Addr} {R:aL} (hm:rec_ c=some R) (a:aF G K (L) w) (n:trd K c a1),
  Calls prog 223 ([cE a1 0]:List Value).toArray w (cL fun v w'=>v=str R/\aF G K (L) w'))
  {G:kH} {K:Hp} {L:List eW} {w:World} {c:(Tr aR)} {a1:Option Addr} {R:aL} (hm:jI rec_ c=some R) (a:aF G K (L) w) (n:trd K c a1):
  Calls prog 223 ([cE a1 0]:List Value).toArray w (cL fun v w'=>v=str R/\aF G K (L) w'):=by
 refine aN func223 rfl (by kernel_rfl) (by show (1:Nat)<=88;decide) ?_;unfold jI at hm
 refine aJ (aG (v:=str ([]:aL)) (aM (aJ (aG (v:=Value.func (.func 256) #[] #[]) (aM (aH (aJ (aO (v:=cE a1 0) ?_))))))));obtain ⟨a3,c4,b,g⟩:=trd.el n
 replace b:eR K a1 0 [i64 c.val.Kind,i64 c.val.Value,zS a3 c.kids.length c4]:=b
 refine aC (dO rfl b) (aC (cF (k':=0+0) aDQ rfl b rfl) (aC (cF (k':=0+0) aGc rfl b rfl) (aC (bZ (t:=0) gJ a b rfl rfl) (aM (bJ (aJ (aC (dN rfl rfl) (aG (v:=zB (c.val.Kind == 0)) (aM ?_)))))))))
 rcases aI hm with ⟨r,hm⟩|⟨r,hm⟩
 ·exact aE
 ·refine aP r rfl (aJ (aC (dN rfl rfl) (aG (v:=zB (c.val.Kind == 1)) (aM ?_))))
  rcases aI hm with ⟨u,hm⟩|⟨u,hm⟩
  ·exact aE
  ·refine aP u rfl (aJ (aC (dN rfl rfl) (aG (v:=zB (c.val.Kind == 3)) (aM ?_))))
   rcases aI hm with ⟨o,hm⟩|⟨o,hm⟩
   ·refine aS o rfl (aH (mO (C:=fun w'=>∃ L',aF G K L' w') [(0,0),(1,0),(2,0),(3,0),(4,0),(5,0),(6,0),(7,0),(8,0),(9,0),(10,0),(11,0),(12,0),(13,0),(14,0),(15,0),(16,0),(17,0),(18,1),(19,0),(20,0)] Tryz_mixed (by kernel_rfl) (fun _ hg=>⟨_,aF.mono a hg⟩) (fun c9 b1=>?_)))
    have d:=aF.mono a b1
    refine dL rfl (fun _ _=>bC (v:=Value.func (.func 256) #[] #[]) rfl) (dL rfl (fun _ _=>bC (v:=cE a1 0) rfl) (dL rfl (fun _ _=>dO rfl b) (dL rfl (fun _ _=>cF (k':=0+2) aBS rfl b rfl) (dL rfl (fun _ ⟨_,d⟩=>bZ (t:=2) aKt d b rfl rfl) ?_))));obtain ⟨k,p,hm⟩:=aB hm
    refine dL rfl (fun _ _=>cR aIn rfl g rfl rfl rfl p) ?_;obtain ⟨d0,x,b2⟩:=aW.el (sz:=1) rfl g p
    obtain ⟨q,rfl,y⟩:=b2
    refine dL rfl (fun _ ⟨_,d⟩=>bZ (t:=0) aMt d x rfl rfl) (dL rfl (fun _ _=>bC (v:=cE a1 0) rfl) (dL rfl (fun _ _=>dO rfl b) (dL rfl (fun _ _=>cF (k':=0+2) aBS rfl b rfl) (dL rfl (fun _ ⟨_,d⟩=>bZ (t:=2) aKt d b rfl rfl) (dL rfl (fun _ _=>cR aIn rfl g rfl rfl rfl p) (dL rfl (fun _ ⟨_,d⟩=>bZ (t:=0) aMt d x rfl rfl) ?_))))));obtain ⟨b3,b4,h,d1⟩:=trd.el y
    replace h:eR K q 0 [i64 k.val.Kind,i64 k.val.Value,zS b3 k.kids.length b4]:=h
    refine dL rfl (fun _ _=>dO rfl h) (dL rfl (fun _ _=>cF (k':=0+0) aDQ rfl h rfl) (dL rfl (fun _ _=>cF (k':=0+0) aGc rfl h rfl) (dL rfl (fun _ ⟨_,d⟩=>bZ (t:=0) gJ d h rfl rfl) (dL rfl (fun _ _=>dN rfl rfl) (vM rfl ?_)))));obtain ⟨d2,b5,hm⟩:=aB hm
    exact eM (vs:=[cE q 0,zB (k.val.Kind == 2)]) (caps:=[]) (us:=[cE q 0,zB (k.val.Kind == 2)]) rfl call256 rfl rfl (mL m b5 d y) aE
   ·refine aP o rfl (aU (eL (aD (aH (fZ (C:=fun w'=>aF G K (L) w') Tryz_mixed (by kernel_rfl) (aF.mono a (eI.drew _)) (bE (fun _ a=>bC (v:=cE a1 0) rfl) (bE (fun _ a=>dO rfl b) (bE (fun _ a=>cF (k':=0+2) aBS rfl b rfl) (bE (fun _ a=>bZ (t:=2) aKt a b rfl rfl) ?_)))))))));obtain ⟨d3,z,hm⟩:=aB hm
    refine bE (fun _ a=>cR aIn rfl g rfl rfl rfl z) ?_;obtain ⟨d4,b6,b7⟩:=aW.el (sz:=1) rfl g z
    obtain ⟨i,rfl,J⟩:=b7
    refine bE (fun _ a=>bZ (t:=0) aMt a b6 rfl rfl) (bE (fun _ a=>bC (v:=cE a1 0) rfl) (bE (fun _ a=>dO rfl b) (bE (fun _ a=>cF (k':=0+2) aBS rfl b rfl) (bE (fun _ a=>bZ (t:=2) aKt a b rfl rfl) ?_))));obtain ⟨d5,V,hm⟩:=aB hm
    refine bE (fun _ a=>cR aIn rfl g rfl rfl rfl V) ?_;obtain ⟨d6,b8,b9⟩:=aW.el (sz:=1) rfl g V
    obtain ⟨j,rfl,Z⟩:=b9
    refine bE (fun _ a=>bZ (t:=0) aMt a b8 rfl rfl) (bE (fun _ a=>bC (v:=cE a1 0) rfl) ?_);obtain ⟨e,c0,hm⟩:=aB hm
    refine gA (vs:=[cE a1 0]) (v:=i64 e) call257 rfl (fun _ a=>(qD c0 a n)) (bE (fun _ a=>dJ (v:=cE i 0) rfl) (bE (fun _ a=>dJ (v:=cE j 0) rfl) (bE (fun _ a=>dJ (v:=i64 e) rfl) (uH (fun d7 a0=>(aD (aH (mO (C:=fun w'=>∃ L',aF G K L' w') [(0,0),(1,0),(2,0),(4,0),(7,0),(8,0),(9,0),(10,0),(11,0),(12,0),(13,0),(15,0),(16,0),(17,0),(19,0),(3,1),(5,0),(6,1),(14,0),(18,1),(20,0),(21,1),(22,0),(23,0)] Tryz_mixed (by kernel_rfl) (fun _ hg=>⟨_,aF.mono a0 hg⟩) (fun d8 c1=>?_)))))))))
    have l:=aF.mono a0 c1
    refine dL rfl (fun _ _=>bC (v:=Value.func (.func 256) #[] #[]) rfl) (dL rfl (fun _ _=>bC (v:=cE i 0) rfl) (dL rfl (fun _ _=>bC (v:=cE i 0) rfl) (dL rfl (fun _ _=>bC (v:=i64 e) rfl) (dL rfl (fun _ _=>bC (v:=cE a1 0) rfl) (dL rfl (fun _ _=>dO rfl b) (dL rfl (fun _ _=>cF (k':=0+0) aDQ rfl b rfl) (dL rfl (fun _ _=>cF (k':=0+1) aBQ rfl b rfl) (dL rfl (fun _ ⟨_,l⟩=>bZ (t:=1) gJ l b rfl rfl) ?_))))))))
    obtain ⟨d9,a2,hm⟩:=aB hm
    refine dL rfl (fun _ _=>R_ixT (tab:=aIi) ar_306 rfl rfl a2) (dL rfl (fun _ ⟨_,l⟩=>R_ldT (tab:=aIi) oK (tab_3 l) a2 rfl) (dL rfl (fun _ _=>bC (v:=Value.func (.func 256) #[] #[]) rfl) (dL rfl (fun _ _=>bC (v:=cE j 0) rfl) (dL rfl (fun _ _=>bC (v:=cE j 0) rfl) (dL rfl (fun _ _=>bC (v:=i64 e) rfl) (vM rfl ?_))))));obtain ⟨a4,c2,hm⟩:=aB hm
    refine aT (vs:=[cE i 0]) call257 rfl (qD c2 l J) ?_
    rintro _ e0 ⟨rfl,a5⟩
    refine bP (aD ⟨⟨_,a5⟩,?_⟩)
    refine dL rfl (fun _ _=>eC rfl rfl) (vM rfl ?_);obtain ⟨e1,c3,hm⟩:=aB hm
    refine eM (vs:=[cE i 0,zB (decide (a4 < e))]) (caps:=[]) (us:=[cE i 0,zB (decide (a4 < e))]) rfl call256 rfl rfl (mL m c3 a5 J) ?_
    rintro _ e2 ⟨rfl,a6⟩
    refine bP (aD ⟨⟨_,a6⟩,?_⟩)
    obtain ⟨e3,c5,hm⟩:=aB hm
    refine dL rfl (fun _ _=>dX rfl rfl c5) (vM rfl ?_);obtain ⟨a7,c6,hm⟩:=aB hm
    refine aT (vs:=[cE j 0]) call257 rfl (qD c6 a6 Z) ?_
    rintro _ e4 ⟨rfl,a8⟩
    refine bP (aD ⟨⟨_,a8⟩,?_⟩)
    refine dL rfl (fun _ _=>R_leq rfl rfl) (vM rfl ?_);obtain ⟨e5,c8,hm⟩:=aB hm
    exact eM (vs:=[cE j 0,zB (decide (a7<=e))]) (caps:=[]) (us:=[cE j 0,zB (decide (a7<=e))]) rfl call256 rfl rfl (mL m c8 a8 Z) aE
theorem aCF (n:Nat):∀ {G:kH} {K:Hp} {L:List eW} {w:World} {c:(Tr aR)} {a1:Option Addr} {R:aL} (hm:fY n c=some R) (a:aF G K (L) w) (b:trd K c a1),
  Calls prog 223 ([cE a1 0]:List Value).toArray w (cL fun v w'=>v=str R/\aF G K (L) w'):=by
 induction n with
 |zero=>
  intro G K L w c a1 R hm a b
  unfold fY at hm
  cases hm
 |succ n ih=>
  intro G K L w c a1 R hm a b
  exact aCE (rec_:=fY n) (fun hm a b=>ih hm a b) hm a b
theorem yV {x_:(Tr aR)} {R:aL} (hm:aAt x_=some R) (hs:aF G K (L) w) (h2:trd K x_ a1):
  Calls prog 223 ([cE a1 0]:List Value).toArray w (cL fun v w'=>v=str R/\aF G K (L) w'):=aCF 100000 hm hs h2
theorem aAc {a:(List (List aR))} {R:aL} (hm:aAu a=some R) (l:aF G K (L) w) (o:G.lo=0) (p:aW K a1 c2 a):
  Calls prog 220 ([zS a1 a.length c2]:List Value).toArray w (cL fun v w'=>v=str R/\aF G K (L) w'):=by
 refine aN func220 rfl (by kernel_rfl) (by show (1:Nat)<=26;decide) ?_;unfold aAu at hm
 refine aJ (aG (v:=str ([]:aL)) (aM (aH (aJ (aO (v:=zS a1 a.length c2) (aC (aX (len:=a.length) mP rfl) (aC (dN rfl rfl) (aM ?_))))))))
 rcases aI hm with ⟨c,hm⟩|⟨c,hm⟩
 ·exact aE
 ·refine aP c rfl (aU (aD (aJ (aG (v:=zS none 0 0) (aM (aH (aJ (aO (v:=zS a1 a.length c2) (aC (aX (len:=a.length) mP rfl) (aO (v:=i64 0) (aM (aQ [] (fun f w=>∃ d b e g,Hp.le K d/\aGu b=some R/\f 3=zS e b.length g/\aF G d (aV 9 K e g b::L) w) aE ?_))))))))))))
  have q:=aF.nil (α:=aL) l 9 K
  obtain ⟨r,m,ho⟩:=aB hm
  exact cD [9,10] m (fun h n f w=>∃ i j k,Hp.le K i/\f 3=zS j h.length k/\f 11=i64 n/\aF G i (aV 9 K j k h::L) w) aE aE
theorem jT {rec_:(List Definition)->(List bG)->Option (aL × (List bG))} (n:∀ {G:kH} {K:Hp} {L:List eW} {w:World} {Kf:Hp} {b1:Nat} {a:(List Definition)} {a2:Option Addr} {c3:Nat} {b:List (Dp.Hd Definition)} {c:(List bG)} {a6:Option Addr} {c7:Nat} {R:(aL × (List bG))} (hm:rec_ a c=some R) (e:aF G K (aV 131 K a2 c3 (cI b a)::rows [170,215,218] b a::box b1 238 [zS a2 a.length c3,zS a6 c.length c7]::L) w) (k:G.lo=0) (d:Hp.le Kf K) (l:List.length b=List.length a) (g:aW Kf a6 c7 c),
  Calls prog 185 ([zP (some ⟨b1,0,none⟩)]:List Value).toArray w (cL fun v w'=>∃ h j,v=str R.1/\aW Kf h j R.2/\aF G K (aV 131 K a2 c3 (cI b a)::rows [170,215,218] b a::box b1 238 [zS a2 a.length c3,zS h R.2.length j]::L) w')) {G:kH} {K:Hp} {L:List eW} {w:World} {Kf:Hp} {b1:Nat} {a:(List Definition)} {a2:Option Addr} {c3:Nat} {b:List (Dp.Hd Definition)} {c:(List bG)} {a6:Option Addr} {c7:Nat} {R:(aL × (List bG))} (hm:jC rec_ a c=some R) (e:aF G K (aV 131 K a2 c3 (cI b a)::rows [170,215,218] b a::box b1 238 [zS a2 a.length c3,zS a6 c.length c7]::L) w) (k:G.lo=0) (d:Hp.le Kf K) (l:List.length b=List.length a) (g:aW Kf a6 c7 c):
  Calls prog 221 ([zP (some ⟨b1,0,none⟩)]:List Value).toArray w (cL fun v w'=>∃ h j,v=str R.1/\aW Kf h j R.2/\aF G K (aV 131 K a2 c3 (cI b a)::rows [170,215,218] b a::box b1 238 [zS a2 a.length c3,zS h R.2.length j]::L) w'):=by
 refine aN func221 rfl (by kernel_rfl) (by show (1:Nat)<=17;decide) ?_;unfold jC at hm
 refine aJ (aG (v:=str ([]:aL)) (aM (aH (aJ (aO (v:=zP (some ⟨b1,0,none⟩)) (aC (vK rfl) (aC (bH (t':=1) vP rfl rfl) (aC (dD xZ e (i:=2) rfl rfl rfl) ?_))))))));obtain ⟨x,o,hm⟩:=aB hm
 refine aC (cR lK rfl (g.mono d) rfl rfl rfl o) ?_;obtain ⟨y,p,q⟩:=aW.el (sz:=4) rfl g o
 obtain ⟨z,J,rfl,V⟩:=q
 refine aC (cF (k':=(0:Int).toNat * 4+0) oL rfl (p.mono d) rfl) (aC (bZ (t:=0) gJ e (p.mono d) rfl rfl) (aC (dN rfl rfl) (aM ?_)))
 rcases aI hm with ⟨m,hm⟩|⟨m,hm⟩
 ·refine aS m rfl (aJ (aO (v:=zP (some ⟨b1,0,none⟩)) ?_));obtain ⟨Z,r,hm⟩:=aB hm
  exact aT (vs:=[zP (some ⟨b1,0,none⟩)]) call185 rfl (n (Kf:=Kf) r e k d l g) aE
 ·refine aP m rfl (aU (aD (aJ (aO (v:=zP (some ⟨b1,0,none⟩)) ?_))));obtain ⟨a0,u,hm⟩:=aB hm
  exact aT (vs:=[zP (some ⟨b1,0,none⟩)]) call185 rfl (n (Kf:=Kf) u e k d l g) aE
theorem tQ {rec_:(List Definition)->(List bG)->Option (aL × (List bG))} (J:∀ {G:kH} {K:Hp} {L:List eW} {w:World} {Kf:Hp} {b1:Nat} {b:(List Definition)} {a2:Option Addr} {c3:Nat} {d:List (Dp.Hd Definition)} {j:(List bG)} {a6:Option Addr} {c7:Nat} {R:(aL × (List bG))} (hm:rec_ b j=some R) (V:aF G K (aV 131 K a2 c3 (cI d b)::rows [170,215,218] d b::box b1 238 [zS a2 b.length c3,zS a6 j.length c7]::L) w) (l:G.lo=0) (e:Hp.le Kf K) (k:List.length d=List.length b) (p:aW Kf a6 c7 j),
  Calls prog 185 ([zP (some ⟨b1,0,none⟩)]:List Value).toArray w (cL fun v w'=>∃ q r,v=str R.1/\aW Kf q r R.2/\aF G K (aV 131 K a2 c3 (cI d b)::rows [170,215,218] d b::box b1 238 [zS a2 b.length c3,zS q R.2.length r]::L) w'))
  {G:kH} {K:Hp} {L:List eW} {w:World} {Kf:Hp} {b1:Nat} {b:(List Definition)} {a2:Option Addr} {c3:Nat} {d:List (Dp.Hd Definition)} {j:(List bG)} {a6:Option Addr} {c7:Nat} {R:(aL × (List bG))} (hm:sE rec_ b j=some R) (V:aF G K (aV 131 K a2 c3 (cI d b)::rows [170,215,218] d b::box b1 238 [zS a2 b.length c3,zS a6 j.length c7]::L) w) (l:G.lo=0) (e:Hp.le Kf K) (k:List.length d=List.length b) (p:aW Kf a6 c7 j):
  Calls prog 185 ([zP (some ⟨b1,0,none⟩)]:List Value).toArray w (cL fun v w'=>∃ q r,v=str R.1/\aW Kf q r R.2/\aF G K (aV 131 K a2 c3 (cI d b)::rows [170,215,218] d b::box b1 238 [zS a2 b.length c3,zS q R.2.length r]::L) w'):=by
 let Z:=[zP (some ⟨b1,0,none⟩)]
 let u:=aV 131 K a2 c3 (cI d b)
 let x:=rows [170,215,218] d b
 refine aN func185 rfl (by kernel_rfl) (by show (1:Nat)<=80;decide) ?_;unfold sE at hm
 refine aJ (aG (v:=str ([]:aL)) (aM (aJ (aO (v:=zP (some ⟨b1,0,none⟩)) (aC (vK rfl) (aC (bH (t':=1) vP rfl rfl) (aC (dD xZ V (i:=2) rfl rfl rfl) ?_)))))));obtain ⟨a,a8,hm⟩:=aB hm
 refine aC (cR lK rfl (p.mono e) rfl rfl rfl a8) ?_;obtain ⟨g4,c5,c6⟩:=aW.el (sz:=4) rfl p a8
 obtain ⟨g,h,rfl,a0⟩:=c6
 refine aC (eD (t:=0) (vs:=[i64 a.Kind,i64 a.Number,str a.Name,zS g a.Arguments.length h]) yA V (c5.mono e) rfl rfl rfl) (eE (vs:=[i64 0,i64 0,str ([]:aL),zS none 0 0]) zeroValue170 V rfl (fun y g5 c8=>(fA (i:=0) (ns:=[i64 a.Kind,i64 a.Number,str a.Name,zS g a.Arguments.length h]) (us:=[i64 a.Kind,i64 a.Number,str a.Name,zS g a.Arguments.length h]) sizeOf170 c8 rfl rfl rfl rfl rfl (kJ rfl) rfl rfl (fun c9 (a9:aF G K (box y 170 [i64 a.Kind,i64 a.Number,str a.Name,zS g a.Arguments.length h]::u::x::box b1 238 [zS a2 b.length c3,zS a6 j.length c7]::L) c9)=>(aM (aJ (aO (v:=zP (some ⟨b1,0,none⟩)) (aO (v:=zP (some ⟨b1,0,none⟩)) (aC (vK rfl) (aC (bH (t':=1) vP rfl rfl) (aC (dD xZ a9 (i:=3) rfl rfl rfl) ?_)))))))))))
 obtain ⟨m,b0,hm⟩:=aB hm
 obtain ⟨n,o,b2⟩:=Cut.ex 4 a6 c7 1
 have a3:=aW.cut' p b0 b2
 refine aC (aMg lK p.room b2 rfl rfl rfl b0) (aC (vK rfl) (aC (bH (t':=1) vP rfl rfl) (fA (i:=3) (ns:=[zS n m.length o]) (us:=[zS a2 b.length c3,zS n m.length o]) sizeOf129 a9 rfl rfl rfl rfl rfl (kJ rfl) rfl rfl (fun b3 (c:aF G K (box y 170 [i64 a.Kind,i64 a.Number,str a.Name,zS g a.Arguments.length h]::u::x::box b1 238 [zS a2 b.length c3,zS n m.length o]::L) b3)=>(aM (aH (aJ (aC (bH (t':=0) oL rfl rfl) (aC (dD gJ c (i:=0) rfl rfl rfl) (aM (bJ (aJ (aC (dN rfl rfl) (aG (v:=zB (a.Kind == 1)) (aM ?_)))))))))))))))
 rcases aI hm with ⟨a4,hm⟩|⟨a4,hm⟩
 ·refine aS a4 rfl (aH ?_);obtain ⟨d0,b4,b5,b6,g6⟩:=aF.lendBp c .head
  refine mO (C:=fun w'=>∃ L',aF G d0 L' w') [(0,0),(1,0),(2,0),(3,0),(7,0),(4,1),(5,0),(6,0),(8,1),(9,0),(10,0)] Tryz_mixed (by kernel_rfl) (fun _ hg=>⟨_,aF.mono b6 hg⟩) (fun g7 d1=>?_)
  have z:=aF.mono b6 d1
  refine dL rfl (fun _ _=>bH (t':=2) aJe rfl rfl) (dL rfl (fun _ ⟨_,z⟩=>bZ (t:=2) oK z b5 rfl rfl) (dL rfl (fun _ _=>bH (t':=3) oM rfl rfl) (dL rfl (fun _ ⟨_,z⟩=>bZ (t:=3) aAI z b5 rfl rfl) (dL rfl (fun _ _=>bC (v:=zP (some ⟨b1,0,none⟩)) rfl) (vM rfl ?_)))));obtain ⟨g8,d2,hm⟩:=aB hm
  refine aT (vs:=[zS g a.Arguments.length h]) call220 rfl (aAc d2 z l (a0.mono (zL e b4))) ?_
  rintro _ g9 ⟨rfl,b7⟩
  refine bP (aD ⟨⟨_,b7⟩,?_⟩)
  obtain ⟨h0,d3,hm⟩:=aB hm
  refine dL rfl (fun _ _=>dX rfl rfl d3) ?_;obtain ⟨h1,d4,hm⟩:=aB hm
  refine dL rfl (fun _ _=>dX rfl rfl d4) (vM rfl ?_);obtain ⟨h2,d5,hm⟩:=aB hm
  exact aT (vs:=Z) call221 rfl (jT J (Kf:=Kf) d5 b7 l (zL e b4) k a3) aE
 ·refine aP a4 rfl (aJ (aC (dN rfl rfl) (aG (v:=zB (a.Kind == 2)) (aM ?_))))
  rcases aI hm with ⟨a5,hm⟩|⟨a5,hm⟩
  ·refine aS a5 rfl (aJ (aO (v:=zP (some ⟨b1,0,none⟩)) ?_))
   have d6:aF G K (u::x::box b1 238 [zS a2 b.length c3,zS n m.length o]::box y 170 [i64 a.Kind,i64 a.Number,str a.Name,zS g a.Arguments.length h]::L) b3:=(aF.arr 4 [1,2,3,0] c rfl)
   obtain ⟨b8,d7,hm⟩:=aB hm
   refine aT (vs:=Z) call221 rfl (jT J (Kf:=Kf) d7 d6 l e k a3) ?_
   rintro _ h3 ⟨h4,h5,rfl,d8,d9⟩
   refine aG (v:=str b8.1) (aM (aJ (aO (v:=str b8.1) ?_)));obtain ⟨h6,e0,hm⟩:=aB hm
   refine aC (dX rfl rfl e0) (aO (v:=zP (some ⟨b1,0,none⟩)) ?_);obtain ⟨h7,e1,hm⟩:=aB hm
   exact aT (vs:=Z) call185 rfl (J (Kf:=Kf) e1 d9 l e k d8) aE
  ·refine aP a5 rfl (aJ (aC (dN rfl rfl) (aG (v:=zB (a.Kind == 3)) (aM ?_))))
   rcases aI hm with ⟨a7,hm⟩|⟨a7,hm⟩
   ·refine aS a7 rfl (aJ (aC (bH (t':=3) oM rfl rfl) (aC (dD aAI c (i:=0) rfl rfl rfl) ?_)));obtain ⟨e2,b9,hm⟩:=aB hm
    refine aC (cR mP rfl (a0.mono e) rfl rfl rfl b9) ?_;obtain ⟨h9,e3,e4⟩:=aW.el (sz:=1) rfl a0 b9
    obtain ⟨e5,e6,rfl,e7⟩:=e4
    refine aC (bZ (t:=0) aIl c (e3.mono e) rfl rfl) ?_;obtain ⟨i0,e8,hm⟩:=aB hm
    refine aT (vs:=[zS e5 e2.length e6]) call222 rfl (aGK e8 c (e7.mono e)) ?_
    rintro _ i1 ⟨f0,f1,rfl,f2,f3,f4⟩
    obtain ⟨i2,f5,hm⟩:=aB hm
    refine aT (vs:=[cE f1 0]) call223 rfl (yV f5 f4 f3) ?_
    rintro _ f6 ⟨rfl,f7⟩
    obtain ⟨i3,f8,hm⟩:=aB hm
    refine aC (dX rfl rfl f8) ?_;obtain ⟨i4,f9,hm⟩:=aB hm
    refine aC (dX rfl rfl f9) (aO (v:=zP (some ⟨b1,0,none⟩)) ?_)
    have g0:aF G f0 (u::x::box b1 238 [zS a2 b.length c3,zS n m.length o]::box y 170 [i64 a.Kind,i64 a.Number,str a.Name,zS g a.Arguments.length h]::L) f6:=(aF.arr 4 [1,2,3,0] f7 rfl)
    obtain ⟨i5,g1,hm⟩:=aB hm
    exact aT (vs:=Z) call221 rfl (jT J (Kf:=Kf) g1 g0 l (zL e f2) k a3) aE
   ·refine aP a7 rfl (aJ (aC (dN rfl rfl) (aG (v:=zB (a.Kind == 4)) (aM ?_))))
    rcases aI hm with ⟨c0,hm⟩|⟨c0,hm⟩
    ·exact aE
    ·refine aP c0 rfl (aJ (aC (dN rfl rfl) (aG (v:=zB (a.Kind == 5)) (aM ?_))))
     rcases aI hm with ⟨c1,hm⟩|⟨c1,hm⟩
     ·refine aS c1 rfl (aH (fZ (C:=fun w'=>aF G K (box y 170 [i64 a.Kind,i64 a.Number,str a.Name,zS g a.Arguments.length h]::u::x::box b1 238 [zS a2 b.length c3,zS n m.length o]::L) w') Tryz_mixed (by kernel_rfl) (aF.mono c (eI.drew _)) (bE (fun _ c=>bC (v:=zP (some ⟨b1,0,none⟩)) rfl) (bE (fun _ c=>vK rfl) (bE (fun _ c=>bH (t':=0) aQi rfl rfl) (bE (fun _ c=>dD aOw c (i:=3) rfl rfl rfl) (bE (fun _ c=>bH (t':=1) aJd rfl rfl) (bE (fun _ c=>dD gJ c (i:=0) rfl rfl rfl) ?_))))))))
      obtain ⟨i6,a1,hm⟩:=aB hm
      obtain ⟨⟨⟨i7,i8⟩,i9⟩,c2⟩:=aMe k a1
      have c4:=eN c (i:=1) rfl (aBN k a1 c2)
      refine bE (fun _ c=>jE qI rfl c4 rfl rfl rfl a1) (bE (fun _ c=>R_fldA (k':=a.Number.toNat * 3+0) aDP c4 rfl rfl) (bE (fun _ c=>oJ (t:=0) oK c (i:=1) rfl (aBN k a1 c2) rfl rfl rfl) (bE (fun _ c=>bH (t':=3) oM rfl rfl) (bE (fun _ c=>dD aAI c (i:=0) rfl rfl rfl) ?_))));obtain ⟨g2,g3,hm⟩:=aB hm
      exact gA (vs:=[zS g a.Arguments.length h]) (v:=str g2) call220 rfl (fun _ c=>(aAc g3 c l (a0.mono e))) aE
     ·exact aE
theorem tR (n:Nat):∀ {G:kH} {K:Hp} {L:List eW} {w:World} {Kf:Hp} {b1:Nat} {a:(List Definition)} {a2:Option Addr} {c3:Nat} {b:List (Dp.Hd Definition)} {c:(List bG)} {a6:Option Addr} {c7:Nat} {R:(aL × (List bG))} (hm:kF n a c=some R) (d:aF G K (aV 131 K a2 c3 (cI b a)::rows [170,215,218] b a::box b1 238 [zS a2 a.length c3,zS a6 c.length c7]::L) w) (e:G.lo=0) (g:Hp.le Kf K) (h:List.length b=List.length a) (i:aW Kf a6 c7 c),
  Calls prog 185 ([zP (some ⟨b1,0,none⟩)]:List Value).toArray w (cL fun v w'=>∃ j k,v=str R.1/\aW Kf j k R.2/\aF G K (aV 131 K a2 c3 (cI b a)::rows [170,215,218] b a::box b1 238 [zS a2 a.length c3,zS j R.2.length k]::L) w'):=by
 induction n with
 |zero=>
  intro G K L w Kf b1 a a2 c3 b c a6 c7 R hm d e g h i
  unfold kF at hm
  cases hm
 |succ n ih=>
  intro G K L w Kf b1 a a2 c3 b c a6 c7 R hm d e g h i
  exact tQ (rec_:=kF n) (fun hm d e g h i=>ih hm d e g h i) hm d e g h i
theorem aFg {x0_:(List Definition)} {hd4:List (Dp.Hd Definition)} {x1_:(List bG)} {R:(aL × (List bG))} (hm:aJA x0_ x1_=some R) (hs:aF G K (aV 131 K a2 c3 (cI hd4 x0_)::rows [170,215,218] hd4 x0_::box b1 238 [zS a2 x0_.length c3,zS a6 x1_.length c7]::L) w) (hG:G.lo=0) (hKf:Hp.le Kf K) (hl5:List.length hd4=List.length x0_) (h8:aW Kf a6 c7 x1_):
  Calls prog 185 ([zP (some ⟨b1,0,none⟩)]:List Value).toArray w (cL fun v w'=>∃ ra0 rc0,v=str R.1/\aW Kf ra0 rc0 R.2/\aF G K (aV 131 K a2 c3 (cI hd4 x0_)::rows [170,215,218] hd4 x0_::box b1 238 [zS a2 x0_.length c3,zS ra0 R.2.length rc0]::L) w'):=tR 100000 hm hs hG hKf hl5 h8
theorem jU {rec_:(List Definition)->(List bG)->Option (aL × (List bG))} (m:∀ {G:kH} {K:Hp} {L:List eW} {w:World} {Kf:Hp} {b1:Nat} {a:(List Definition)} {a2:Option Addr} {c3:Nat} {b:(List bG)} {a5:Option Addr} {c6:Nat} {R:(aL × (List bG))} (hm:rec_ a b=some R) (d:aF G K (box b1 238 [zS a2 a.length c3,zS a5 b.length c6]::L) w) (j:G.lo=0) (c:Hp.le Kf K) (k:aW K a2 c3 a) (e:aW Kf a5 c6 b),
  Calls prog 185 ([zP (some ⟨b1,0,none⟩)]:List Value).toArray w (cL fun v w'=>∃ g h,v=str R.1/\aW Kf g h R.2/\aF G K (box b1 238 [zS a2 a.length c3,zS g R.2.length h]::L) w')) {G:kH} {K:Hp} {L:List eW} {w:World} {Kf:Hp} {b1:Nat} {a:(List Definition)} {a2:Option Addr} {c3:Nat} {b:(List bG)} {a5:Option Addr} {c6:Nat} {R:(aL × (List bG))} (hm:fW rec_ a b=some R) (d:aF G K (box b1 238 [zS a2 a.length c3,zS a5 b.length c6]::L) w) (j:G.lo=0) (c:Hp.le Kf K) (k:aW K a2 c3 a) (e:aW Kf a5 c6 b):
  Calls prog 221 ([zP (some ⟨b1,0,none⟩)]:List Value).toArray w (cL fun v w'=>∃ g h,v=str R.1/\aW Kf g h R.2/\aF G K (box b1 238 [zS a2 a.length c3,zS g R.2.length h]::L) w'):=by
 refine aN func221 rfl (by kernel_rfl) (by show (1:Nat)<=17;decide) ?_;unfold fW at hm
 refine aJ (aG (v:=str ([]:aL)) (aM (aH (aJ (aO (v:=zP (some ⟨b1,0,none⟩)) (aC (vK rfl) (aC (bH (t':=1) vP rfl rfl) (aC (dD xZ d (i:=0) rfl rfl rfl) ?_))))))));obtain ⟨u,n,hm⟩:=aB hm
 refine aC (cR lK rfl (e.mono c) rfl rfl rfl n) ?_;obtain ⟨x,o,p⟩:=aW.el (sz:=4) rfl e n
 obtain ⟨y,z,rfl,J⟩:=p
 refine aC (cF (k':=(0:Int).toNat * 4+0) oL rfl (o.mono c) rfl) (aC (bZ (t:=0) gJ d (o.mono c) rfl rfl) (aC (dN rfl rfl) (aM ?_)))
 rcases aI hm with ⟨l,hm⟩|⟨l,hm⟩
 ·refine aS l rfl (aJ (aO (v:=zP (some ⟨b1,0,none⟩)) ?_));obtain ⟨V,q,hm⟩:=aB hm
  exact aT (vs:=[zP (some ⟨b1,0,none⟩)]) call185 rfl (m (Kf:=Kf) q d j c k e) aE
 ·refine aP l rfl (aU (aD (aJ (aO (v:=zP (some ⟨b1,0,none⟩)) ?_))));obtain ⟨Z,r,hm⟩:=aB hm
  exact aT (vs:=[zP (some ⟨b1,0,none⟩)]) call185 rfl (m (Kf:=Kf) r d j c k e) aE
theorem tS {rec_:(List Definition)->(List bG)->Option (aL × (List bG))} (u:∀ {G:kH} {K:Hp} {L:List eW} {w:World} {Kf:Hp} {b1:Nat} {b:(List Definition)} {a2:Option Addr} {c3:Nat} {d:(List bG)} {a5:Option Addr} {c6:Nat} {R:(aL × (List bG))} (hm:rec_ b d=some R) (x:aF G K (box b1 238 [zS a2 b.length c3,zS a5 d.length c6]::L) w) (h:G.lo=0) (c:Hp.le Kf K) (k:aW K a2 c3 b) (l:aW Kf a5 c6 d),
  Calls prog 185 ([zP (some ⟨b1,0,none⟩)]:List Value).toArray w (cL fun v w'=>∃ m n,v=str R.1/\aW Kf m n R.2/\aF G K (box b1 238 [zS a2 b.length c3,zS m R.2.length n]::L) w'))
  {G:kH} {K:Hp} {L:List eW} {w:World} {Kf:Hp} {b1:Nat} {b:(List Definition)} {a2:Option Addr} {c3:Nat} {d:(List bG)} {a5:Option Addr} {c6:Nat} {R:(aL × (List bG))} (hm:fG rec_ b d=some R) (x:aF G K (box b1 238 [zS a2 b.length c3,zS a5 d.length c6]::L) w) (h:G.lo=0) (c:Hp.le Kf K) (k:aW K a2 c3 b) (l:aW Kf a5 c6 d):
  Calls prog 185 ([zP (some ⟨b1,0,none⟩)]:List Value).toArray w (cL fun v w'=>∃ m n,v=str R.1/\aW Kf m n R.2/\aF G K (box b1 238 [zS a2 b.length c3,zS m R.2.length n]::L) w'):=by
 let y:=[zP (some ⟨b1,0,none⟩)]
 refine aN func185 rfl (by kernel_rfl) (by show (1:Nat)<=80;decide) ?_;unfold fG at hm
 refine aJ (aG (v:=str ([]:aL)) (aM (aJ (aO (v:=zP (some ⟨b1,0,none⟩)) (aC (vK rfl) (aC (bH (t':=1) vP rfl rfl) (aC (dD xZ x (i:=0) rfl rfl rfl) ?_)))))));obtain ⟨a,q9,hm⟩:=aB hm
 refine aC (cR lK rfl (l.mono c) rfl rfl rfl q9) ?_;obtain ⟨f4,b7,b8⟩:=aW.el (sz:=4) rfl l q9
 obtain ⟨e,g,rfl,J⟩:=b8
 refine aC (eD (t:=0) (vs:=[i64 a.Kind,i64 a.Number,str a.Name,zS e a.Arguments.length g]) yA x (b7.mono c) rfl rfl rfl) (eE (vs:=[i64 0,i64 0,str ([]:aL),zS none 0 0]) zeroValue170 x rfl (fun z f5 b9=>(fA (i:=0) (ns:=[i64 a.Kind,i64 a.Number,str a.Name,zS e a.Arguments.length g]) (us:=[i64 a.Kind,i64 a.Number,str a.Name,zS e a.Arguments.length g]) sizeOf170 b9 rfl rfl rfl rfl rfl (kJ rfl) rfl rfl (fun c0 (a4:aF G K (box z 170 [i64 a.Kind,i64 a.Number,str a.Name,zS e a.Arguments.length g]::box b1 238 [zS a2 b.length c3,zS a5 d.length c6]::L) c0)=>(aM (aJ (aO (v:=zP (some ⟨b1,0,none⟩)) (aO (v:=zP (some ⟨b1,0,none⟩)) (aC (vK rfl) (aC (bH (t':=1) vP rfl rfl) (aC (dD xZ a4 (i:=1) rfl rfl rfl) ?_)))))))))))
 obtain ⟨o,a6,hm⟩:=aB hm
 obtain ⟨p,q,a7⟩:=Cut.ex 4 a5 c6 1
 have V:=aW.cut' l a6 a7
 refine aC (aMg lK l.room a7 rfl rfl rfl a6) (aC (vK rfl) (aC (bH (t':=1) vP rfl rfl) (fA (i:=1) (ns:=[zS p o.length q]) (us:=[zS a2 b.length c3,zS p o.length q]) sizeOf129 a4 rfl rfl rfl rfl rfl (kJ rfl) rfl rfl (fun a8 (j:aF G K (box z 170 [i64 a.Kind,i64 a.Number,str a.Name,zS e a.Arguments.length g]::box b1 238 [zS a2 b.length c3,zS p o.length q]::L) a8)=>(aM (aH (aJ (aC (bH (t':=0) oL rfl rfl) (aC (dD gJ j (i:=0) rfl rfl rfl) (aM (bJ (aJ (aC (dN rfl rfl) (aG (v:=zB (a.Kind == 1)) (aM ?_)))))))))))))))
 rcases aI hm with ⟨Z,hm⟩|⟨Z,hm⟩
 ·refine aS Z rfl (aH ?_);obtain ⟨c1,a0,a9,b0,f6⟩:=aF.lendBp j .head
  refine mO (C:=fun w'=>∃ L',aF G c1 L' w') [(0,0),(1,0),(2,0),(3,0),(7,0),(4,1),(5,0),(6,0),(8,1),(9,0),(10,0)] Tryz_mixed (by kernel_rfl) (fun _ hg=>⟨_,aF.mono b0 hg⟩) (fun f7 c2=>?_)
  have r:=aF.mono b0 c2
  refine dL rfl (fun _ _=>bH (t':=2) aJe rfl rfl) (dL rfl (fun _ ⟨_,r⟩=>bZ (t:=2) oK r a9 rfl rfl) (dL rfl (fun _ _=>bH (t':=3) oM rfl rfl) (dL rfl (fun _ ⟨_,r⟩=>bZ (t:=3) aAI r a9 rfl rfl) (dL rfl (fun _ _=>bC (v:=zP (some ⟨b1,0,none⟩)) rfl) (vM rfl ?_)))));obtain ⟨f8,c4,hm⟩:=aB hm
  refine aT (vs:=[zS e a.Arguments.length g]) call220 rfl (aAc c4 r h (J.mono (zL c a0))) ?_
  rintro _ f9 ⟨rfl,b2⟩
  refine bP (aD ⟨⟨_,b2⟩,?_⟩)
  obtain ⟨g0,c5,hm⟩:=aB hm
  refine dL rfl (fun _ _=>dX rfl rfl c5) ?_;obtain ⟨g1,c7,hm⟩:=aB hm
  refine dL rfl (fun _ _=>dX rfl rfl c7) (vM rfl ?_);obtain ⟨g2,c8,hm⟩:=aB hm
  exact aT (vs:=y) call221 rfl (jU u (Kf:=Kf) c8 b2 h (zL c a0) (k.mono a0) V) aE
 ·refine aP Z rfl (aJ (aC (dN rfl rfl) (aG (v:=zB (a.Kind == 2)) (aM ?_))))
  rcases aI hm with ⟨a1,hm⟩|⟨a1,hm⟩
  ·refine aS a1 rfl (aJ (aO (v:=zP (some ⟨b1,0,none⟩)) ?_))
   have c9:aF G K (box b1 238 [zS a2 b.length c3,zS p o.length q]::box z 170 [i64 a.Kind,i64 a.Number,str a.Name,zS e a.Arguments.length g]::L) a8:=(aF.arr 2 [1,0] j rfl)
   obtain ⟨b3,d0,hm⟩:=aB hm
   refine aT (vs:=y) call221 rfl (jU u (Kf:=Kf) d0 c9 h c k V) ?_
   rintro _ g3 ⟨g4,g5,rfl,d1,d2⟩
   refine aG (v:=str b3.1) (aM (aJ (aO (v:=str b3.1) ?_)));obtain ⟨g6,d3,hm⟩:=aB hm
   refine aC (dX rfl rfl d3) (aO (v:=zP (some ⟨b1,0,none⟩)) ?_);obtain ⟨g7,d4,hm⟩:=aB hm
   exact aT (vs:=y) call185 rfl (u (Kf:=Kf) d4 d2 h c k d1) aE
  ·refine aP a1 rfl (aJ (aC (dN rfl rfl) (aG (v:=zB (a.Kind == 3)) (aM ?_))))
   rcases aI hm with ⟨b4,hm⟩|⟨b4,hm⟩
   ·refine aS b4 rfl (aJ (aC (bH (t':=3) oM rfl rfl) (aC (dD aAI j (i:=0) rfl rfl rfl) ?_)));obtain ⟨d5,b5,hm⟩:=aB hm
    refine aC (cR mP rfl (J.mono c) rfl rfl rfl b5) ?_;obtain ⟨g8,d6,d7⟩:=aW.el (sz:=1) rfl J b5
    obtain ⟨d8,d9,rfl,e0⟩:=d7
    refine aC (bZ (t:=0) aIl j (d6.mono c) rfl rfl) ?_;obtain ⟨g9,e1,hm⟩:=aB hm
    refine aT (vs:=[zS d8 d5.length d9]) call222 rfl (aGK e1 j (e0.mono c)) ?_
    rintro _ h0 ⟨e2,e3,rfl,b6,e4,e5⟩
    obtain ⟨h1,e6,hm⟩:=aB hm
    refine aT (vs:=[cE e3 0]) call223 rfl (yV e6 e5 e4) ?_
    rintro _ e7 ⟨rfl,e9⟩
    obtain ⟨h2,f0,hm⟩:=aB hm
    refine aC (dX rfl rfl f0) ?_;obtain ⟨h3,f1,hm⟩:=aB hm
    refine aC (dX rfl rfl f1) (aO (v:=zP (some ⟨b1,0,none⟩)) ?_)
    have f2:aF G e2 (box b1 238 [zS a2 b.length c3,zS p o.length q]::box z 170 [i64 a.Kind,i64 a.Number,str a.Name,zS e a.Arguments.length g]::L) e7:=(aF.arr 2 [1,0] e9 rfl)
    obtain ⟨h5,f3,hm⟩:=aB hm
    exact aT (vs:=y) call221 rfl (jU u (Kf:=Kf) f3 f2 h (zL c b6) (k.mono b6) V) aE
   ·exact aE
theorem tT (n:Nat):∀ {G:kH} {K:Hp} {L:List eW} {w:World} {Kf:Hp} {b1:Nat} {a:(List Definition)} {a2:Option Addr} {c3:Nat} {b:(List bG)} {a5:Option Addr} {c6:Nat} {R:(aL × (List bG))} (hm:eG n a b=some R) (c:aF G K (box b1 238 [zS a2 a.length c3,zS a5 b.length c6]::L) w) (d:G.lo=0) (e:Hp.le Kf K) (g:aW K a2 c3 a) (h:aW Kf a5 c6 b),
  Calls prog 185 ([zP (some ⟨b1,0,none⟩)]:List Value).toArray w (cL fun v w'=>∃ i j,v=str R.1/\aW Kf i j R.2/\aF G K (box b1 238 [zS a2 a.length c3,zS i R.2.length j]::L) w'):=by
 induction n with
 |zero=>
  intro G K L w Kf b1 a a2 c3 b a5 c6 R hm c d e g h
  unfold eG at hm
  cases hm
 |succ n ih=>
  intro G K L w Kf b1 a a2 c3 b a5 c6 R hm c d e g h
  exact tS (rec_:=eG n) (fun hm c d e g h=>ih hm c d e g h) hm c d e g h
theorem aFh {x0_:(List Definition)} {x1_:(List bG)} {R:(aL × (List bG))} (hm:wZ x0_ x1_=some R) (hs:aF G K (box b1 238 [zS a2 x0_.length c3,zS a5 x1_.length c6]::L) w) (hG:G.lo=0) (hKf:Hp.le Kf K) (h4:aW K a2 c3 x0_) (h7:aW Kf a5 c6 x1_):
  Calls prog 185 ([zP (some ⟨b1,0,none⟩)]:List Value).toArray w (cL fun v w'=>∃ ra0 rc0,v=str R.1/\aW Kf ra0 rc0 R.2/\aF G K (box b1 238 [zS a2 x0_.length c3,zS ra0 R.2.length rc0]::L) w'):=tT 100000 hm hs hG hKf h4 h7
theorem aFS {a:(List Definition)} {d:Definition} {R:aL} (hm:nE a d=some R) (g:aF G K (L) w) (m:G.lo=0) (n:aW K a1 c2 a) (o:aW K a4 c5 d.Body):
  Calls prog 149 ([zS a1 a.length c2,zA #[str d.Name,i64 d.Parameters,zS a4 d.Body.length c5]]:List Value).toArray w (cL fun v w'=>v=str R/\aF G K (L) w'):=by
 let b:=[zS a1 a.length c2,zS a4 d.Body.length c5]
 refine aN func149 rfl (by kernel_rfl) (by show (2:Nat)<=23;decide) ?_;unfold nE at hm
 refine aJ (eT (v:=zA #[str d.Name,i64 d.Parameters,zS a4 d.Body.length c5]) (vs:=[str d.Name,i64 d.Parameters,zS a4 d.Body.length c5]) g rfl rfl (fun p q c=>(aG (v:=str ([]:aL)) (aM (aJ (aO (v:=zS a1 a.length c2) (aC (bH (t':=2) aBP rfl rfl) (aC (dD xZ c (i:=0) rfl rfl rfl) (aC (aCR (vs:=[(0,zS a1 a.length c2),(1,zS a4 d.Body.length c5)]) (cs:=b) bs_238 rfl (by kernel_rfl)) (eT (v:=zA #[zS a1 a.length c2,zS a4 d.Body.length c5]) (vs:=b) c rfl rfl (fun h r j=>(aG (v:=zP (some ⟨h,0,none⟩)) (aM (aH ?_))))))))))))))
 obtain ⟨k,t,u,e,x⟩:=aF.lendBp j zt1
 refine mO (C:=fun w'=>∃ L',aF G k L' w') [(0,0),(1,0),(2,0),(3,0),(4,0),(5,0),(9,0),(6,1),(7,0),(8,0),(10,1),(11,0),(12,0)] Tryz_mixed (by kernel_rfl) (fun _ hg=>⟨_,aF.mono e hg⟩) (fun y l=>?_)
 have z:=aF.mono e l
 exact aE
theorem aHB {a:bM} {R:(List aL)} (hm:rA a=some R) (hs:aF G K (L) w) (hG:G.lo=0) (h3:aW K a1 c2 a.Definitions) (h6:aW K a4 c5 a.Components) (h9:aW K a7 c8 a.Meetings) (d7:aW K a10 c11 a.Allowed) (h0:aW K a13 c14 a.Hidden):
  Calls prog 102 ([zA #[zS a1 a.Definitions.length c2,zS a4 a.Components.length c5,zS a7 a.Meetings.length c8,zS a10 a.Allowed.length c11,zS a13 a.Hidden.length c14]]:List Value).toArray w (cL fun v w'=>∃ b0 b1,v=zS b0 R.length b1/\aF G K (aV 9 K b0 b1 R::L) w'):=by
 let b:=[zS a1 a.Definitions.length c2,zS a4 a.Components.length c5,zS a7 a.Meetings.length c8,zS a10 a.Allowed.length c11,zS a13 a.Hidden.length c14]
 refine aN func102 rfl (by kernel_rfl) (by show (1:Nat)<=108;decide) ?_;unfold rA at hm
 refine aJ (eT (v:=zA #[zS a1 a.Definitions.length c2,zS a4 a.Components.length c5,zS a7 a.Meetings.length c8,zS a10 a.Allowed.length c11,zS a13 a.Hidden.length c14]) (vs:=b) hs rfl rfl (fun c h1 b2=>(aG (v:=zS none 0 0) (aM (aJ (aG (v:=zS none 0 0) (aM (aH (aJ (aC (bH (t':=0) aGS rfl rfl) (aC (dD aOw b2 (i:=0) rfl rfl rfl) (aC (aX (len:=a.Definitions.length) qI rfl) (aO (v:=i64 0) (aM (aQ [1] (fun f w=>∃ d g j,pY a d=some R/\f 3=zS g d.length j/\aF G K (aV 9 K g j d::box c 44 b::L) w) ?_ ?_)))))))))))))))
 ·rintro f h2 ⟨d,g,j,hm,d8,b3⟩
  unfold pY at hm
  refine aD (aJ (aG (v:=zS none 0 0) (aM (aH (aJ (aC (bH (t':=1) aCT rfl rfl) (aC (dD aMl b3 (i:=1) rfl rfl rfl) (aC (aX (len:=a.Components.length) xN rfl) (aO (v:=i64 0) (aM (aQ [1,3] (fun f w=>∃ k l m,pW a d k=some R/\f 6=zS l k.length m/\aF G K (aV 9 K l m k::aV 9 K g j d::box c 44 b::L) w) ?_ ?_)))))))))))
  ·rintro f h4 ⟨k,l,m,hm,d9,e0⟩
   unfold pW at hm
   refine aD (aJ (bR d8 (bR d9 ?_)));obtain ⟨h5,h7,e1,e2,e3⟩:=aF.lendSp e0 (Hp.le_refl _) .head
   obtain ⟨h8,e4,hm⟩:=aB hm
   refine aT (vs:=[zS l k.length m,str ([32,124,32]:aL)]) call101 rfl (aMA e2 hG e1 e4) ?_
   rintro _ i0 ⟨rfl,e5⟩
   have e6:=e3 _ _ e5
   obtain ⟨q,e7,hm⟩:=aB hm
   refine aC (dX rfl rfl e7) (dK (Kt:=K) (xs:=([q]:List aL)) (cs:=[str q]) (vs:=[(0,str q)]) cT qF rfl rfl e6 rfl (by kernel_rfl) rfl rfl rfl ⟨rfl,trivial⟩ (fun e8 e9 (f0:aF G K (aV 9 K e8 1 ([q]:List aL)::aV 9 K l m k::aV 9 K g j d::box c 44 b::L) e9)=>?_));obtain ⟨b4,f1,hm⟩:=aB hm
   refine jQ (i:=1) cT underlying22 qF rfl rfl f0 rfl (Hp.le_refl _) (Hp.le_refl _) f1 rfl rfl rfl rfl (fun _ h=>h) (fun b5 b6 f2 (f3:aF G K (aV 9 K l m k::aV 9 K b5 b6 b4::box c 44 b::L) f2)=>(aG (v:=zS b5 b4.length b6) (aM (aH (aJ (aC (bH (t':=2) aPf rfl rfl) (aC (dD sc_42 f3 (i:=2) rfl rfl rfl) (aC (aX (len:=a.Meetings.length) vO rfl) (aO (v:=i64 0) (aM (aQ [1] (fun f w=>∃ r z J,pU a r=some R/\f 3=zS z r.length J/\aF G K (aV 9 K z J r::box c 44 b::L) w) ?_ ?_)))))))))))
   ·rintro f i1 ⟨r,z,J,hm,f4,V⟩
    unfold pU at hm
    refine aD (gI [1] (fun f w=>∃ u Z a0,jR a u=some R/\f 3=zS Z u.length a0/\aF G K (aV 9 K Z a0 u::box c 44 b::L) w) ?_ ?_)
    ·rintro f i2 ⟨u,Z,a0,hm,i3,i4⟩
     unfold jR at hm
     exact gI [] (fun f w=>∃ a2 b7 b8,pT a2=some R/\f 3=zS b7 a2.length b8/\aF G K (aV 9 K b7 b8 a2::L) w) aE aE
    refine aJ (aC (bH (t':=3) aPg rfl rfl) (aC (dD aMi V (i:=1) rfl rfl rfl) (aC (aX (len:=a.Allowed.length) cT rfl) (aC (R_gtr rfl rfl) (aM ?_)))))
    rcases aI hm with ⟨b9,hm⟩|⟨b9,hm⟩
    ·refine aS b9 rfl (bK (bR f4 (aC (bH (t':=3) aPg rfl rfl) (aC (dD aMi V (i:=1) rfl rfl rfl) ?_))));obtain ⟨i5,f5,hm⟩:=aB hm
     exact aT (vs:=[zS a10 a.Allowed.length c11,str ([32]:aL)]) call101 rfl (aMA V hG d7 f5) aE
    ·exact aE
   obtain ⟨i6,f6,ho⟩:=aB hm
   exact cD [1,64,65] f6 (fun c0 f7 f w=>∃ c1 c3,f 3=zS c1 c0.length c3/\f 66=i64 f7/\aF G K (aV 9 K c1 c3 c0::box c 44 b::L) w) aE aE
  have i7:=aF.nil (α:=aL) b3 9 K
  obtain ⟨i8,f8,ho⟩:=aB hm
  refine cD [1,3,28,29] f8 (fun n a3 f w=>∃ o p,f 6=zS o n.length p/\f 30=i64 a3/\aF G K (aV 9 K o p n::aV 9 K g j d::box c 44 b::L) w) aE ?_
  ·rintro n a3 f9 f i9 hm hr ⟨o,p,j0,c4,c6⟩
   unfold mA at hm
   refine aJ (aC (eC c4 rfl) (aM (aH ?_)))
   rcases aI hm with ⟨c7,hm⟩|⟨c7,hm⟩
   ·refine aS c7 rfl (aU (aD (aH (bJ (aJ ?_)))));obtain ⟨e,c9,hm⟩:=aB hm
    refine aC (cR xN rfl h6 rfl rfl c4 c9) ?_;obtain ⟨j1,g0,g1⟩:=aW.el (sz:=2) rfl h6 c9
    obtain ⟨x,y,rfl,j2⟩:=g1
    refine aC (eD (t:=0) (vs:=[i64 e.Definition,zS x e.Values.length y]) aGd c6 g0 rfl rfl rfl) (eE (vs:=[i64 0,zS none 0 0]) zeroValue133 c6 rfl (fun g2 j3 g3=>(fA (i:=0) (ns:=[i64 e.Definition,zS x e.Values.length y]) (us:=[i64 e.Definition,zS x e.Values.length y]) sizeOf133 g3 rfl rfl rfl rfl rfl (kJ rfl) rfl rfl (fun g4 (a5:aF G K (box g2 133 [i64 e.Definition,zS x e.Values.length y]::aV 9 K o p n::aV 9 K g j d::box c 44 b::L) g4)=>(aM (aJ (aC (bH (t':=0) aGS rfl rfl) (aC (dD aOw a5 (i:=3) rfl rfl rfl) (aC (bH (t':=0) aMo rfl rfl) (aC (dD gJ a5 (i:=0) rfl rfl rfl) ?_))))))))))
    obtain ⟨g5,d0,hm⟩:=aB hm
    refine aC (cR qI rfl h3 rfl rfl rfl d0) ?_;obtain ⟨j4,d1,g6⟩:=aW.el (sz:=3) rfl h3 d0
    obtain ⟨j5,j6,rfl,j7⟩:=g6
    exact aC (cF (k':=e.Definition.toNat * 3+0) aDP rfl d1 rfl) (aC (bZ (t:=0) oK a5 d1 rfl rfl) (aG (v:=str g5.Name) (aM (gI [1,3,6,28,29,30] (fun f w=>∃ d2,pX n a3 d2=some f9/\f 9=str d2/\aF G K (aV 9 K o p n::aV 9 K g j d::box c 44 b::L) w) aE aE))))
   ·exact aE
 have j8:=aF.nil (α:=aL) b2 9 K
 obtain ⟨j9,g7,ho⟩:=aB hm
 exact cD [1,13,14] g7 (fun d3 g8 f w=>∃ d4 d5,f 3=zS d4 d3.length d5/\f 15=i64 g8/\aF G K (aV 9 K d4 d5 d3::box c 44 b::L) w) aE aE
theorem aJW {a:bM} {R:aL} (hm:rW a=some R) (b:aF G K (L) w) (c:G.lo=0) (d:aW K a1 c2 a.Definitions) (e:aW K a4 c5 a.Components) (g:aW K a7 c8 a.Meetings) (h:aW K a10 c11 a.Allowed) (i:aW K a13 c14 a.Hidden):
  Calls prog 51 ([zA #[zS a1 a.Definitions.length c2,zS a4 a.Components.length c5,zS a7 a.Meetings.length c8,zS a10 a.Allowed.length c11,zS a13 a.Hidden.length c14]]:List Value).toArray w (cL fun v w'=>v=str R/\aF G K (L) w'):=by
 exact aE
theorem aEn {k:pL} {R:Bool} (hm:mB k=some R) (q:aF G K (L) w) (hG:G.lo=0) (r:aW K a1 c2 k.S.L) (t:aW K a4 c5 k.S.E) (h9:aW K a7 c8 k.Formula) (u:aW K a10 c11 k.Source.Definitions) (x:aW K a13 c14 k.Source.Components) (y:aW K a16 c17 k.Source.Meetings) (z:aW K a19 c20 k.Source.Allowed) (J:aW K a22 c23 k.Source.Hidden):
  Calls prog 17 ([zA #[str k.Name,i64 k.Kind,i64 k.S.N,i64 k.S.I,zS a1 k.S.L.length c2,zS a4 k.S.E.length c5,zS a7 k.Formula.length c8,zS a10 k.Source.Definitions.length c11,zS a13 k.Source.Components.length c14,zS a16 k.Source.Meetings.length c17,zS a19 k.Source.Allowed.length c20,zS a22 k.Source.Hidden.length c23]]:List Value).toArray w (cL fun v w'=>v=zB R/\aF G K (L) w'):=by
 let e:=[str k.Name,i64 k.Kind,i64 k.S.N,i64 k.S.I,zS a1 k.S.L.length c2,zS a4 k.S.E.length c5,zS a7 k.Formula.length c8,zS a10 k.Source.Definitions.length c11,zS a13 k.Source.Components.length c14,zS a16 k.Source.Meetings.length c17,zS a19 k.Source.Allowed.length c20,zS a22 k.Source.Hidden.length c23]
 refine aN func17 rfl (by kernel_rfl) (by show (1:Nat)<=71;decide) ?_;unfold mB at hm
 refine aJ (eT (v:=zA #[str k.Name,i64 k.Kind,i64 k.S.N,i64 k.S.I,zS a1 k.S.L.length c2,zS a4 k.S.E.length c5,zS a7 k.Formula.length c8,zS a10 k.Source.Definitions.length c11,zS a13 k.Source.Components.length c14,zS a16 k.Source.Meetings.length c17,zS a19 k.Source.Allowed.length c20,zS a22 k.Source.Hidden.length c23]) (vs:=e) q rfl rfl (fun V a8 g=>(aG (v:=zB false) (aM (aH (aJ (aC (bH (t':=0) aLU rfl rfl) (aC (dD oK g (i:=0) rfl rfl rfl) ?_))))))))
 obtain ⟨a9,Z,hm⟩:=aB hm
 refine aT (vs:=[str k.Name]) call44 rfl (aDI Z g) ?_
 rintro _ b0 ⟨rfl,a⟩
 refine aC (uT rfl) (aM ?_)
 rcases aI hm with ⟨h,hm⟩|⟨h,hm⟩
 ·exact aE
 ·refine aP h rfl (aU (aD (aH (fZ (C:=fun w'=>aF G K (box V 46 e::L) w') Tryz_mixed (by kernel_rfl) (aF.mono a (eI.drew _)) (bE (fun _ a=>bH (t':=2) aEF rfl rfl) (bE (fun _ a=>jL (us:=(zC k.S a1 c2 a4 c5)) ag_38 a (i:=0) rfl rfl rfl rfl) (bE (fun _ a=>aCR (vs:=[]) (cs:=zG) bs_38 rfl (by kernel_rfl)) ?_)))))));obtain ⟨j,a0,hm⟩:=aB hm
  refine gA (vs:=[zA (zCa k.S a1 c2 a4 c5),zA zGa]) (v:=zB j) call45 rfl (fun _ a=>(aGI (b:=⟨0,0,[],[]⟩) a0 a r t (vI (α:=aL) _) (vI (α:=Edge) _))) (bE (fun _ a=>bH (t':=6) aEG rfl rfl) (bE (fun _ a=>dD aOx a (i:=0) rfl rfl rfl) (bE (fun _ a=>aX (len:=k.Formula.length) sB rfl) (bE (fun _ a=>dN rfl rfl) (bE (fun _ a=>bH (t':=7) aCV rfl rfl) (bE (fun _ a=>jL (us:=[zS a10 k.Source.Definitions.length c11,zS a13 k.Source.Components.length c14,zS a16 k.Source.Meetings.length c17,zS a19 k.Source.Allowed.length c20,zS a22 k.Source.Hidden.length c23]) ag_44 a (i:=0) rfl rfl rfl rfl) (bE (fun _ a=>aCR (vs:=[]) (cs:=[zS none 0 0,zS none 0 0,zS none 0 0,zS none 0 0,zS none 0 0]) bs_44 rfl (by kernel_rfl)) ?_)))))))
  obtain ⟨l,a2,hm⟩:=aB hm
  refine gA (vs:=[zA #[zS a10 k.Source.Definitions.length c11,zS a13 k.Source.Components.length c14,zS a16 k.Source.Meetings.length c17,zS a19 k.Source.Allowed.length c20,zS a22 k.Source.Hidden.length c23],zA #[zS none 0 0,zS none 0 0,zS none 0 0,zS none 0 0,zS none 0 0]]) (v:=zB l) call46 rfl (fun _ a=>(aDq (b:=⟨[],[],[],[],[]⟩) a2 a u x y z J (vI (α:=Definition) _) (vI (α:=aY) _) (vI (α:=bB) _) (vI (α:=aL) _) (vI (α:=aL) _))) (bE (fun _ a=>dJ (v:=zB j) rfl) (bE (fun _ a=>dJ (v:=zB ((k.Formula.length:Int) == 0)) rfl) (bE (fun _ a=>dJ (v:=zB l) rfl) (uH (fun b1 a3=>(aD (aH (aJ (aC (bH (t':=1) aJf rfl rfl) (aC (dD gJ a3 (i:=0) rfl rfl rfl) (aM (bJ (aJ (aC (dN rfl rfl) (aG (v:=zB (k.Kind == 1)) (aM ?_))))))))))))))))
  rcases aI hm with ⟨c,hm⟩|⟨c,hm⟩
  ·exact aS c rfl (aH (aZ [] (fun f w=>∃ m,rB m=some R/\f 2=zB m/\aF G K (L) w) aE aE))
  ·refine aP c rfl (aJ (aC (dN rfl rfl) (aG (v:=zB (k.Kind == 2)) (aM ?_))))
   rcases aI hm with ⟨d,hm⟩|⟨d,hm⟩
   ·exact aS d rfl (aH (aZ [] (fun f w=>∃ n,nF n=some R/\f 2=zB n/\aF G K (L) w) aE aE))
   ·refine aP d rfl (aJ (aC (dN rfl rfl) (aG (v:=zB (k.Kind == 3)) (aM ?_))))
    rcases aI hm with ⟨o,hm⟩|⟨o,hm⟩
    ·exact aS o rfl (aH (aZ [] (fun f w=>∃ p,nG p=some R/\f 2=zB p/\aF G K (L) w) aE aE))
    ·exact aE
theorem aJX {a:(List aL)} {R:aL} (hm:aFb a=some R) (b:aF G K (L) w) (c:G.lo=0) (d:aW K a1 c2 a):
  Calls prog 105 ([zS a1 a.length c2]:List Value).toArray w (cL fun v w'=>v=str R/\aF G K (L) w'):=by
 exact aE
theorem aMU {t:gM} {R:aL} (hm:aEi t=some R) (hs:aF G K (L) w) (p:G.lo=0) (l:aW K a1 c2 t.L) (m:aW K a4 c5 t.E):
  Calls prog 52 ([zA (zCa t a1 c2 a4 c5)]:List Value).toArray w (cL fun v w'=>v=str R/\aF G K (L) w'):=by
 let c:=(zC t a1 c2 a4 c5)
 refine aN func52 rfl (by kernel_rfl) (by show (1:Nat)<=46;decide) ?_;unfold aEi at hm
 refine aJ (eT (v:=zA (zCa t a1 c2 a4 c5)) (vs:=c) hs rfl rfl (fun d w8 q=>(aG (v:=str ([]:aL)) (aM (aH (aJ (aC (jL (us:=c) ag_38 q (i:=0) rfl rfl rfl rfl) ?_)))))));obtain ⟨d5,a5,hm⟩:=aB hm
 refine aT (vs:=[zA (zCa t a1 c2 a4 c5)]) call47 rfl (aFO a5 q p l m) ?_
 rintro _ d6 ⟨rfl,r⟩
 refine aC (uT rfl) (aM ?_)
 rcases aI hm with ⟨u,hm⟩|⟨u,hm⟩
 ·exact aE
 ·refine aP u rfl (aU (aD (aJ (aG (v:=zS none 0 0) (aM (aH (aJ (aC (bH (t':=3) aAZ rfl rfl) (aC (dD aJb r (i:=0) rfl rfl rfl) (aC (aX (len:=t.E.length) uU rfl) (aO (v:=i64 0) (aM (aQ [1] (fun f w=>∃ j n o,aBu t j=some R/\f 3=zS n j.length o/\aF G K (aV 9 K n o j::box d 38 c::L) w) ?_ ?_)))))))))))))
  ·rintro f d7 ⟨j,n,o,hm,d8,a6⟩
   unfold aBu at hm
   refine aD (aH ?_);obtain ⟨a7,a8,d9,b,e0⟩:=aF.lendSp a6 (Hp.le_refl _) .head
   refine fZ (C:=fun w'=>aF G a7 (box d 38 c::L) w') Tryz_mixed (by kernel_rfl) (aF.mono b (eI.drew _)) (bE (fun _ b=>bH (t':=0) aPd rfl rfl) (bE (fun _ b=>dD gJ b (i:=0) rfl rfl rfl) ?_));obtain ⟨a9,b0,hm⟩:=aB hm
   refine gA (vs:=[i64 t.N]) (v:=str a9) call104 rfl (fun _ b=>(nL b b0)) ?_;obtain ⟨e1,b1,hm⟩:=aB hm
   refine bE (fun _ b=>dX rfl rfl b1) (bE (fun _ b=>bH (t':=1) aPe rfl rfl) (bE (fun _ b=>dD gJ b (i:=0) rfl rfl rfl) ?_));obtain ⟨b2,b3,hm⟩:=aB hm
   refine gA (vs:=[i64 t.I]) (v:=str b2) call104 rfl (fun _ b=>(nL b b3)) ?_;obtain ⟨e2,b4,hm⟩:=aB hm
   refine bE (fun _ b=>dX rfl rfl b4) ?_;obtain ⟨e3,b5,hm⟩:=aB hm
   refine bE (fun _ b=>dX rfl rfl b5) (bE (fun _ b=>bH (t':=2) aLS rfl rfl) (bE (fun _ b=>dD aMi b (i:=0) rfl rfl rfl) ?_));obtain ⟨b6,x,hm⟩:=aB hm
   obtain ⟨b8,b9,y⟩:=Cut.ex 1 a1 c2 1
   have c0:=aW.cut' l x y
   refine bE (fun _ b=>aMg cT l.room y rfl rfl rfl x) ?_;obtain ⟨c1,c3,hm⟩:=aB hm
   exact gA (vs:=[zS b8 b6.length b9]) (v:=str c1) call105 rfl (fun _ b=>(aJX c3 b p (c0.mono a8))) aE
  have e4:=aF.nil (α:=aL) r 9 K
  obtain ⟨e5,c4,ho⟩:=aB hm
  refine cD [1,10,11] c4 (fun e z f w=>∃ g h,f 3=zS g e.length h/\f 12=i64 z/\aF G K (aV 9 K g h e::box d 38 c::L) w) aE ?_
  ·rintro e z e6 f e7 hm hr ⟨g,h,c6,J,V⟩
   unfold xA at hm
   refine aJ (aC (eC J rfl) (aM (aH ?_)))
   rcases aI hm with ⟨Z,hm⟩|⟨Z,hm⟩
   ·refine aS Z rfl (aU (aD (aH (bJ (aJ ?_)))));obtain ⟨a,a0,hm⟩:=aB hm
    refine aC (cR uU rfl m rfl rfl J a0) ?_;obtain ⟨e8,c7,c8⟩:=aW.el (sz:=3) rfl m a0
    cases c8
    refine aC (eD (t:=0) (vs:=[i64 a.F,i64 a.B,i64 a.To]) aKr V c7 rfl rfl rfl) (eE (vs:=[i64 0,i64 0,i64 0]) zeroValue114 V rfl (fun a2 e9 c9=>(fA (i:=0) (ns:=[i64 a.F,i64 a.B,i64 a.To]) (us:=[i64 a.F,i64 a.B,i64 a.To]) sizeOf114 c9 rfl rfl rfl rfl rfl (kJ rfl) rfl rfl (fun d0 (k:aF G K (box a2 114 [i64 a.F,i64 a.B,i64 a.To]::aV 9 K g h e::box d 38 c::L) d0)=>(aM (bK (bR c6 (aC (bH (t':=0) aGa rfl rfl) (aC (dD gJ k (i:=0) rfl rfl rfl) (aC (bH (t':=1) aGb rfl rfl) (aC (dD gJ k (i:=0) rfl rfl rfl) (aC (bH (t':=2) aJa rfl rfl) (aC (dD gJ k (i:=0) rfl rfl rfl) (dK (Kt:=K) (xs:=([a.F,a.B,a.To]:List Int)) (cs:=[i64 a.F,i64 a.B,i64 a.To]) (vs:=[(0,i64 a.F),(1,i64 a.B),(2,i64 a.To)]) dR xY rfl rfl k rfl (by kernel_rfl) rfl rfl rfl ⟨rfl,rfl,rfl,trivial⟩ (fun d1 d2 (d3:aF G K (aV 2 K d1 3 ([a.F,a.B,a.To]:List Int)::box a2 114 [i64 a.F,i64 a.B,i64 a.To]::aV 9 K g h e::box d 38 c::L) d2)=>?_)))))))))))))))
    obtain ⟨f0,f1,f2,f3,f4⟩:=aF.lendSp d3 (Hp.le_refl _) .head
    exact aE
   ·exact aE
theorem aFP {k:pL} {R:aL} (hm:aFc k=some R) (a:aF G K (L) w) (b:G.lo=0) (c:aW K a1 c2 k.S.L) (d:aW K a4 c5 k.S.E) (e:aW K a7 c8 k.Formula) (g:aW K a10 c11 k.Source.Definitions) (h:aW K a13 c14 k.Source.Components) (i:aW K a16 c17 k.Source.Meetings) (j:aW K a19 c20 k.Source.Allowed) (l:aW K a22 c23 k.Source.Hidden):
  Calls prog 18 ([zA #[str k.Name,i64 k.Kind,i64 k.S.N,i64 k.S.I,zS a1 k.S.L.length c2,zS a4 k.S.E.length c5,zS a7 k.Formula.length c8,zS a10 k.Source.Definitions.length c11,zS a13 k.Source.Components.length c14,zS a16 k.Source.Meetings.length c17,zS a19 k.Source.Allowed.length c20,zS a22 k.Source.Hidden.length c23]]:List Value).toArray w (cL fun v w'=>v=str R/\aF G K (L) w'):=by
 exact aE
theorem aFQ {k:pL} {R:aL} (hm:aCu k=some R) (r:aF G K (L) w) (d:G.lo=0) (e:aW K a1 c2 k.S.L) (g:aW K a4 c5 k.S.E) (h:aW K a7 c8 k.Formula) (j:aW K a10 c11 k.Source.Definitions) (l:aW K a13 c14 k.Source.Components) (m:aW K a16 c17 k.Source.Meetings) (n:aW K a19 c20 k.Source.Allowed) (o:aW K a22 c23 k.Source.Hidden):
  Calls prog 7 ([zA #[str k.Name,i64 k.Kind,i64 k.S.N,i64 k.S.I,zS a1 k.S.L.length c2,zS a4 k.S.E.length c5,zS a7 k.Formula.length c8,zS a10 k.Source.Definitions.length c11,zS a13 k.Source.Components.length c14,zS a16 k.Source.Meetings.length c17,zS a19 k.Source.Allowed.length c20,zS a22 k.Source.Hidden.length c23]]:List Value).toArray w (cL fun v w'=>v=str R/\aF G K (L) w'):=by
 let a:=[str k.Name,i64 k.Kind,i64 k.S.N,i64 k.S.I,zS a1 k.S.L.length c2,zS a4 k.S.E.length c5,zS a7 k.Formula.length c8,zS a10 k.Source.Definitions.length c11,zS a13 k.Source.Components.length c14,zS a16 k.Source.Meetings.length c17,zS a19 k.Source.Allowed.length c20,zS a22 k.Source.Hidden.length c23]
 let p:=[zA #[str k.Name,i64 k.Kind,i64 k.S.N,i64 k.S.I,zS a1 k.S.L.length c2,zS a4 k.S.E.length c5,zS a7 k.Formula.length c8,zS a10 k.Source.Definitions.length c11,zS a13 k.Source.Components.length c14,zS a16 k.Source.Meetings.length c17,zS a19 k.Source.Allowed.length c20,zS a22 k.Source.Hidden.length c23]]
 refine aN func7 rfl (by kernel_rfl) (by show (1:Nat)<=8;decide) ?_;unfold aCu at hm
 refine aJ (eT (v:=zA #[str k.Name,i64 k.Kind,i64 k.S.N,i64 k.S.I,zS a1 k.S.L.length c2,zS a4 k.S.E.length c5,zS a7 k.Formula.length c8,zS a10 k.Source.Definitions.length c11,zS a13 k.Source.Components.length c14,zS a16 k.Source.Meetings.length c17,zS a19 k.Source.Allowed.length c20,zS a22 k.Source.Hidden.length c23]) (vs:=a) r rfl rfl (fun V Z q=>(aG (v:=str ([]:aL)) (aM (aH (aJ (aC (jL (us:=a) aMr q (i:=0) rfl rfl rfl rfl) ?_)))))))
 obtain ⟨a0,t,hm⟩:=aB hm
 refine aT (vs:=p) call17 rfl (aEn t q d e g h j l m n o) ?_
 rintro _ a2 ⟨rfl,b⟩
 refine aC (uT rfl) (aM ?_)
 rcases aI hm with ⟨c,hm⟩|⟨c,hm⟩
 ·refine aS c rfl (aJ (aG (v:=str ([]:aL)) (aM ?_)));obtain rfl:=Option.some.inj hm
  exact aAP (aEz (xU results7 rfl ⟨rfl,(aF.arr 1 [] b rfl)⟩))
 ·refine aP c rfl (aU (aD (aJ (aC (jL (us:=a) aMr b (i:=0) rfl rfl rfl rfl) ?_))));obtain ⟨x,y,hm⟩:=aB hm
  refine aT (vs:=p) call18 rfl (aFP y b d e g h j l m n o) ?_
  rintro _ a3 ⟨rfl,z⟩
  refine aG (v:=str x) (aM ?_);obtain rfl:=Option.some.inj hm
  exact aAP (xU results7 rfl ⟨rfl,(aF.arr 1 [] z rfl)⟩)
theorem aKG {a b:(List aL)} {R:Bool} (hm:rC a b=some R) (g:aF G K (L) w) (h:aW K a1 c2 a) (i:aW K a4 c5 b):
  Calls prog 54 ([zS a1 a.length c2,zS a4 b.length c5]:List Value).toArray w (cL fun v w'=>v=zB R/\aF G K (L) w'):=by
 refine aN func54 rfl (by kernel_rfl) (by show (2:Nat)<=26;decide) ?_;unfold rC at hm
 refine aJ (aG (v:=zB false) (aM (aH (aJ (aO (v:=zS a1 a.length c2) (aC (aX (len:=a.length) cT rfl) (aO (v:=zS a4 b.length c5) (aC (aX (len:=b.length) cT rfl) (aC (sI rfl rfl) (aM ?_))))))))))
 rcases aI hm with ⟨c,hm⟩|⟨c,hm⟩
 ·exact aE
 ·refine aP c rfl (aU (aD (aH (aJ (aG (v:=i64 0) (aM (aQ [] (fun f w=>aGv=some R/\aF G K (L) w) aE ?_)))))));obtain ⟨j,d,ho⟩:=aB hm
  exact bW [0,1] d (fun e f w=>f 5=i64 e/\aF G K (L) w) aE aE
end Gv
