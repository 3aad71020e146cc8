/- Walks, printed by program. -/
import Derived.Test.YtpkpcpikpobloaaGreatDoorJWk7
set_option linter.all false
namespace Gv
open Gv.Hp renaming le_refl→zR
open Go.Value renaming slice→zS,bool→zB,pointer→zP,agg→zA,tuple→zT
open Go Go.Proofs Go.Proofs.Tryz
set_option maxRecDepth 20000
set_option maxHeartbeats 40000000
variable {G:kE} {K:Hp} {L:List eV} {w:World} {a1 a4 a7 a10 a13 a16 a19:Option Addr} {c2 c5 c8 c11 c14 c17 c20:Nat}
theorem lJ {a:(List (List aS))} {d:dK} {b:Nat} {R:Int} (hm:dZ a d=some R) (x:aG G K (L) w) (e:aX K a1 c2 a) (n:eM K a4 b [i64 d.scope,zB d.behind]):
  Calls prog 285 ([zS a1 a.length c2,Value.func (.func 269) #[] #[cD a4 b]]:List Value).toArray w (cJ fun v w'=>v=i64 R/\aG G K (L) w'):=by
 refine aN func285 rfl (by kernel_rfl) (by show (2:Nat)<=19;decide) ?_;unfold dZ at hm
 refine aL (aI (v:=i64 0) (aM (aH (aL (aO (v:=zS a1 a.length c2) (aC (aU (len:=a.length) mT rfl) (aO (v:=i64 0) (aM (aQ [] (fun f w=>gI=some R/\aG G K (L) w) aF ?_)))))))));obtain ⟨y,o,ho⟩:=aB hm
 refine bS [0,1,7] o (fun c f w=>f 8=i64 c/\aG G K (L) w) aF ?_
 ·rintro c z f J hm hr ⟨g,h⟩
  unfold cL at hm
  refine aL (aC (dJ g rfl) (aM (aH ?_)))
  rcases aJ hm with ⟨i,hm⟩|⟨i,hm⟩
  ·refine aR i rfl (aT (aE (aH (bJ (aL (bO g (aI (v:=i64 c) (aM (aL (aO (v:=Value.func (.func 269) #[] #[cD a4 b]) (aO (v:=zS a1 a.length c2) (aO (v:=i64 c) ?_))))))))))));obtain ⟨j,k,hm⟩:=aB hm
   refine aC (cK mT rfl e rfl rfl rfl k) ?_;obtain ⟨V,p,q⟩:=aX.el (sz:=1) rfl e k
   obtain ⟨l,m,rfl,r⟩:=q
   refine aC (bY (t:=0) aIS h p rfl rfl) ?_;obtain ⟨Z,u,hm⟩:=aB hm
   exact eP (vs:=[zS l j.length m]) (caps:=[cD a4 b]) (us:=[zS l j.length m,cD a4 b]) rfl call269 rfl rfl (yD u h r n) aF
  ·exact aF
theorem fQ {a:(List (List aS))} {b:dK} {c:Nat} {R:Bool} (hm:dL a b=some R) (d:aG G K (L) w) (e:aX K a1 c2 a) (g:eM K a4 c [i64 b.scope,zB b.behind]):
  Calls prog 268 ([zS a1 a.length c2,Value.func (.func 269) #[] #[cD a4 c]]:List Value).toArray w (cJ fun v w'=>v=zB R/\aG G K (L) w'):=by
 exact aF
theorem aJi {p:bH} {b:(List Definition)} {a:dK} {R:Int} (hm:pM p b a=some R) (J:aG G K (L) w) (h:aX K a1 c2 p.Arguments) (V:aX K a4 c5 b):
  Calls prog 234 ([zA #[i64 p.Kind,i64 p.Number,str p.Name,zS a1 p.Arguments.length c2],zS a4 b.length c5,zA #[i64 a.scope,zB a.behind]]:List Value).toArray w (cJ fun v w'=>v=i64 R/\aG G K (L) w'):=by
 let c:=[i64 p.Kind,i64 p.Number,str p.Name,zS a1 p.Arguments.length c2]
 let e:=[i64 a.scope,zB a.behind]
 refine aN func234 rfl (by kernel_rfl) (by show (3:Nat)<=77;decide) ?_;unfold pM at hm
 refine aL (eO (v:=zA #[i64 p.Kind,i64 p.Number,str p.Name,zS a1 p.Arguments.length c2]) (vs:=c) J rfl rfl (fun g w8 Z=>(eO (v:=zA #[i64 a.scope,zB a.behind]) (vs:=e) Z rfl rfl (fun d b5 n=>(aI (v:=i64 0) (aM (aH (bJ (aL (aC (jN (us:=c) yM n (i:=1) rfl rfl rfl rfl) ?_))))))))));obtain ⟨a0,a2,hm⟩:=aB hm
 refine aW (vs:=[zA #[i64 p.Kind,i64 p.Number,str p.Name,zS a1 p.Arguments.length c2]]) call266 rfl (aCP a2 n h) ?_
 rintro _ b6 ⟨rfl,b8⟩
 refine aC (sL rfl) (aI (v:=zB (!a0)) (aM ?_))
 rcases aJ hm with ⟨o,hm⟩|⟨o,hm⟩
 ·exact aF
 ·refine aP o rfl (aH (bB [1,3,5] (fun f w=>∃ j,jD p b a j=some R/\f 11=zB j/\aG G K (box d 293 e::box g 206 c::L) w) ?_ ?_))
  ·rintro f b9 ⟨j,hm,a3,c0⟩
   unfold jD at hm
   refine aE ?_
   rcases aJ hm with ⟨q,hm⟩|⟨q,hm⟩
   ·exact aF
   ·refine aP q a3 (aH (bB [1,3,5] (fun f w=>∃ k,gE p b a k=some R/\f 26=zB k/\aG G K (box d 293 e::box g 206 c::L) w) ?_ ?_))
    ·rintro f c1 ⟨k,hm,a5,r⟩
     unfold gE at hm
     refine aE ?_
     rcases aJ hm with ⟨t,hm⟩|⟨t,hm⟩
     ·exact aF
     ·refine aP t a5 (aL (aC (jN (us:=c) yM r (i:=1) rfl rfl rfl rfl) (aO (v:=zS a4 b.length c5) ?_)));obtain ⟨a6,a7,hm⟩:=aB hm
      refine aW (vs:=[zA #[i64 p.Kind,i64 p.Number,str p.Name,zS a1 p.Arguments.length c2],zS a4 b.length c5]) call267 rfl (aBh a7 r h V) ?_
      rintro _ c3 ⟨rfl,c4⟩
      refine aC (sL rfl) (aI (v:=zB (!a6)) (aM ?_))
      rcases aJ hm with ⟨u,hm⟩|⟨u,hm⟩
      ·exact aF
      ·refine aP u rfl (aH (bB [3,5] (fun f w=>∃ l,lB p a l=some R/\f 54=zB l/\aG G K (box d 293 e::box g 206 c::L) w) ?_ ?_))
       ·rintro f c6 ⟨l,hm,a8,c7⟩
        unfold lB at hm
        refine aE ?_
        rcases aJ hm with ⟨x,hm⟩|⟨x,hm⟩
        ·exact aF
        ·refine aP x a8 (aH (bB [3,5] (fun f w=>∃ m,lA p a m=some R/\f 63=zB m/\aG G K (box d 293 e::box g 206 c::L) w) ?_ ?_))
         ·rintro f c8 ⟨m,hm,a9,y⟩
          unfold lA at hm
          refine aE ?_
          rcases aJ hm with ⟨z,hm⟩|⟨z,hm⟩
          ·exact aF
          ·refine aP z a9 (aL (aC (bG (t':=3) oR rfl rfl) (aC (cX aAW y (i:=1) rfl rfl rfl) (aC (yG (vs:=[zP (some ⟨d,0,none⟩)]) rfl) ?_))));obtain ⟨c9,b0,b1,b2,d0⟩:=aG.lendBp y .head
           obtain ⟨d1,b3,hm⟩:=aB hm
           exact aW (vs:=[zS a1 p.Arguments.length c2,Value.func (.func 269) #[] #[cD (some ⟨d,0,none⟩) 0]]) call268 rfl (fQ b3 b2 (h.mono b0) b1) aF
         exact aF
       exact aF
    exact aF
  exact aF
theorem aLr {a:(List Definition)} {d:Definition} {R:(Int × Int)} (hm:vN a d=some R) (l:aG G K (L) w) (u:aX K a1 c2 a) (m:aX K a4 c5 d.Body):
  Calls prog 194 ([zS a1 a.length c2,zA #[str d.Name,i64 d.Parameters,zS a4 d.Body.length c5]]:List Value).toArray w (cJ fun v w'=>v=zT #[i64 R.1,i64 R.2]/\aG G K (L) w'):=by
 let b:=[str d.Name,i64 d.Parameters,zS a4 d.Body.length c5]
 refine aN func194 rfl (by kernel_rfl) (by show (2:Nat)<=45;decide) ?_;unfold vN at hm
 refine aL (eO (v:=zA #[str d.Name,i64 d.Parameters,zS a4 d.Body.length c5]) (vs:=b) l rfl rfl (fun n x y=>(aI (v:=i64 0) (aI (v:=i64 0) (aM (aH (aH (bB [0,3] (fun f w=>∃ c,rD a d c=some R/\f 22=zB c/\aG G K (box n 151 b::L) w) ?_ ?_))))))))
 ·rintro f z ⟨c,hm,o,e⟩
  unfold rD at hm
  refine aE ?_
  rcases aJ hm with ⟨g,hm⟩|⟨g,hm⟩
  ·exact aF
  ·refine aP g o (aT (aE (aL (aC (jN (us:=b) aEX e (i:=0) rfl rfl rfl rfl) ?_))));obtain ⟨h,p,hm⟩:=aB hm
   refine aW (vs:=[zA #[str d.Name,i64 d.Parameters,zS a4 d.Body.length c5]]) call233 rfl (uA p e m) ?_
   rintro _ J ⟨j,k,rfl,q⟩
   refine aI (v:=zS j h.length k) (aM (aH (aL (aC (bG (t':=2) aCb rfl rfl) (aC (cX yL q (i:=1) rfl rfl rfl) (aC (aU (len:=d.Body.length) lO rfl) (aO (v:=i64 0) (aM (aQ [] (fun f w=>aGP=some R/\aG G K (L) w) aF ?_)))))))));obtain ⟨V,r,ho⟩:=aB hm
   exact bS [0,6,26,27] r (fun t f w=>f 28=i64 t/\aG G K (aV 293 K j k h::L) w) aF aF
 exact aF
theorem vP {c:(List Definition)} {R:Bool} (hm:gX c=some R) (hs:aG G K (L) w) (k:aX K a1 c2 c):
  Calls prog 155 ([zS a1 c.length c2]:List Value).toArray w (cJ fun v w'=>v=zB R/\aG G K (L) w'):=by
 refine aN func155 rfl (by kernel_rfl) (by show (1:Nat)<=45;decide) ?_;unfold gX at hm
 refine aL (aI (v:=zB false) (aM (aH (aH (bB [0] (fun f w=>∃ l,iW c l=some R/\f 15=zB l/\aG G K (L) w) ?_ ?_)))))
 ·rintro f w6 ⟨l,hm,J,b4⟩
  unfold iW at hm
  refine aE ?_
  rcases aJ hm with ⟨o,hm⟩|⟨o,hm⟩
  ·exact aF
  ·refine aP o J (aT (aE (aH (aL (aO (v:=zS a1 c.length c2) (aC (aU (len:=c.length) qN rfl) (aO (v:=i64 0) (aM (aQ [] (fun f w=>yA=some R/\aG G K (L) w) aF ?_)))))))));obtain ⟨b5,V,ho⟩:=aB hm
   refine bS [0,16,17] V (fun j f w=>f 18=i64 j/\aG G K (L) w) aF ?_
   ·rintro j Z f b6 hm hr ⟨m,p⟩
    unfold iV at hm
    refine aL (aC (dJ m rfl) (aM (aH ?_)))
    rcases aJ hm with ⟨q,hm⟩|⟨q,hm⟩
    ·refine aR q rfl (aT (aE (aH (bJ (aL (bO m ?_))))));obtain ⟨a,r,hm⟩:=aB hm
     refine aC (cK qN rfl k rfl rfl m r) ?_;obtain ⟨b7,a0,a2⟩:=aX.el (sz:=3) rfl k r
     obtain ⟨e,h,rfl,b8⟩:=a2
     refine aC (dQ (t:=0) (vs:=[str a.Name,i64 a.Parameters,zS e a.Body.length h]) aEX p a0 rfl rfl rfl) (dV (vs:=[str ([]:aK),i64 0,zS none 0 0]) zeroValue151 p rfl (fun n b9 a3=>(aI (v:=i64 j) (eW (i:=0) (ns:=[str a.Name,i64 a.Parameters,zS e a.Body.length h]) (us:=[str a.Name,i64 a.Parameters,zS e a.Body.length h]) sizeOf151 a3 rfl rfl rfl rfl rfl (jY rfl) rfl rfl (fun a4 (b:aG G K (box n 151 [str a.Name,i64 a.Parameters,zS e a.Body.length h]::L) a4)=>(aM (aH (aH (bB [0,4,16,17,18] (fun f w=>∃ u,lK c j a u=some Z/\f 35=zB u/\aG G K (box n 151 [str a.Name,i64 a.Parameters,zS e a.Body.length h]::L) w) aF (fH (C:=fun w'=>aG G K (box n 151 [str a.Name,i64 a.Parameters,zS e a.Body.length h]::L) w') Tryz_mixed (by kernel_rfl) (aG.mono b (eF.drew _)) (aY (fun _ b=>bG (t':=0) aEe rfl rfl) (aY (fun _ b=>cX nV b (i:=0) rfl rfl rfl) ?_))))))))))))
     obtain ⟨x,a5,hm⟩:=aB hm
     refine fS (vs:=[str a.Name]) (v:=zB x) call46 rfl (fun _ b=>(aDX a5 b)) (aY (fun _ b=>sL rfl) (aY (fun _ b=>aZ (v:=zB (!x)) rfl) ?_))
     rcases aJ hm with ⟨d,hm⟩|⟨d,hm⟩
     ·exact aF
     ·refine iO (g:=27) rfl rfl (lN d) (aY (fun _ b=>aZ (v:=zS a1 c.length c2) rfl) (iO (g:=27) rfl rfl (lN d) (aY (fun _ b=>aZ (v:=i64 j) rfl) (iO (g:=27) rfl rfl (lN d) ?_))));obtain ⟨a6,y,hm⟩:=aB hm
      obtain ⟨a7,a8,z⟩:=Cut.ex 3 a1 c2 0
      have a9:=aX.cut' k y z
      refine aY (fun _ b=>uU qN k.room z rfl rfl rfl y) (iO (g:=27) rfl rfl (lN d) (aY (fun _ b=>bG (t':=0) aEe rfl rfl) (iO (g:=27) rfl rfl (lN d) (aY (fun _ b=>cX nV b (i:=0) rfl rfl rfl) (iO (g:=27) rfl rfl (lN d) ?_)))));obtain ⟨b0,b1,hm⟩:=aB hm
      exact fS (vs:=[zS a7 a6.length a8,str a.Name]) (v:=i64 b0) call193 rfl (fun _ b=>(xT b1 b a9)) aF
    ·exact aF
 exact aF
theorem aJj {a:(List Definition)} {c:bA} {R:Bool} (hm:tR a c=some R) (d:aG G K (L) w) (e:aX K a1 c2 a) (g:aX K a4 c5 c.Values):
  Calls prog 158 ([zS a1 a.length c2,zA #[i64 c.Definition,zS a4 c.Values.length c5]]:List Value).toArray w (cJ fun v w'=>v=zB R/\aG G K (L) w'):=by
 refine aN func158 rfl (by kernel_rfl) (by show (2:Nat)<=27;decide) ?_;unfold tR at hm
 exact aL (eO (v:=zA #[i64 c.Definition,zS a4 c.Values.length c5]) (vs:=[i64 c.Definition,zS a4 c.Values.length c5]) d rfl rfl (fun h i j=>(aI (v:=zB false) (aM (aH (bB [] (fun f w=>∃ b,nH b=some R/\f 4=zB b/\aG G K (L) w) aF aF))))))
theorem aFx {a b:bD} {R:Int} (hm:mD a b=some R) (l:aG G K (L) w):
  Calls prog 197 ([zA #[str a.Left,str a.Right,str a.Result],zA #[str b.Left,str b.Right,str b.Result]]:List Value).toArray w (cJ fun v w'=>v=i64 R/\aG G K (L) w'):=by
 let c:=[str a.Left,str a.Right,str a.Result]
 let d:=[str b.Left,str b.Right,str b.Result]
 refine aN func197 rfl (by kernel_rfl) (by show (2:Nat)<=16;decide) ?_;unfold mD at hm
 refine aL (eO (v:=zA #[str a.Left,str a.Right,str a.Result]) (vs:=c) l rfl rfl (fun h r m=>(eO (v:=zA #[str b.Left,str b.Right,str b.Result]) (vs:=d) m rfl rfl (fun j t e=>(aI (v:=i64 0) (aM (aL (aC (bG (t':=0) aNf rfl rfl) (aC (cX nV e (i:=1) rfl rfl rfl) (aC (bG (t':=1) aNg rfl rfl) (aC (cX nV e (i:=1) rfl rfl rfl) (dH (Kt:=K) (xs:=([a.Left,a.Right]:List aK)) (cs:=[str a.Left,str a.Right]) (vs:=[(0,str a.Left),(1,str a.Right)]) cU pT rfl rfl e rfl (by kernel_rfl) rfl rfl rfl ⟨rfl,rfl,trivial⟩ (fun k n (g:aG G K (aV 9 K k 2 ([a.Left,a.Right]:List aK)::box j 159 d::box h 159 c::L) n)=>(aC (bG (t':=0) aNf rfl rfl) (aC (cX nV g (i:=1) rfl rfl rfl) (aC (bG (t':=1) aNg rfl rfl) (aC (cX nV g (i:=1) rfl rfl rfl) (dH (Kt:=K) (xs:=([b.Left,b.Right]:List aK)) (cs:=[str b.Left,str b.Right]) (vs:=[(0,str b.Left),(1,str b.Right)]) cU pT rfl rfl g rfl (by kernel_rfl) rfl rfl rfl ⟨rfl,rfl,trivial⟩ (fun o p (q:aG G K (aV 9 K o 2 ([b.Left,b.Right]:List aK)::aV 9 K k 2 ([a.Left,a.Right]:List aK)::box j 159 d::box h 159 c::L) p)=>?_)))))))))))))))))))
 obtain ⟨u,x,y,z,J⟩:=aG.lendSp q (Hp.le_refl _) zt1
 exact aF
theorem aAQ {o p:bD} {a:Nat} {R:Bool} (hm:uP o p=some R) (c:aG G K (L) w) (d:eM K a1 a [str p.Left,str p.Right,str p.Result]):
  Calls prog 199 ([zA #[str o.Left,str o.Right,str o.Result],cD a1 a]:List Value).toArray w (cJ fun v w'=>v=zB R/\aG G K (L) w'):=by
 refine aN func199 rfl (by kernel_rfl) (by show (2:Nat)<=16;decide) ?_;unfold uP at hm
 exact aL (eO (v:=zA #[str o.Left,str o.Right,str o.Result]) (vs:=[str o.Left,str o.Right,str o.Result]) c rfl rfl (fun e g h=>(aI (v:=zB false) (aM (aH (bB [] (fun f w=>∃ b,oF b=some R/\f 3=zB b/\aG G K (L) w) aF aF))))))
theorem kS {b:(List bD)} {d:bD} {c:Nat} {R:Int} (hm:dO b d=some R) (q:aG G K (L) w) (g:aX K a1 c2 b) (l:eM K a4 c [str d.Left,str d.Right,str d.Result]):
  Calls prog 239 ([zS a1 b.length c2,Value.func (.func 199) #[] #[cD a4 c]]:List Value).toArray w (cJ fun v w'=>v=i64 R/\aG G K (L) w'):=by
 refine aN func239 rfl (by kernel_rfl) (by show (2:Nat)<=19;decide) ?_;unfold dO at hm
 refine aL (aI (v:=i64 0) (aM (aH (aL (aO (v:=zS a1 b.length c2) (aC (aU (len:=b.length) vX rfl) (aO (v:=i64 0) (aM (aQ [] (fun f w=>fV=some R/\aG G K (L) w) aF ?_)))))))));obtain ⟨r,m,ho⟩:=aB hm
 refine bS [0,1,7] m (fun e f w=>f 8=i64 e/\aG G K (L) w) aF ?_
 ·rintro e u f x hm hr ⟨h,i⟩
  unfold cH at hm
  refine aL (aC (dJ h rfl) (aM (aH ?_)))
  rcases aJ hm with ⟨j,hm⟩|⟨j,hm⟩
  ·refine aR j rfl (aT (aE (aH (bJ (aL (bO h (aI (v:=i64 e) (aM (aL (aO (v:=Value.func (.func 199) #[] #[cD a4 c]) (aO (v:=zS a1 b.length c2) (aO (v:=i64 e) ?_))))))))))));obtain ⟨a,k,hm⟩:=aB hm
   refine aC (cK vX rfl g rfl rfl rfl k) ?_;obtain ⟨y,n,o⟩:=aX.el (sz:=3) rfl g k
   cases o
   refine aC (dQ (t:=0) (vs:=[str a.Left,str a.Right,str a.Result]) aLe i n rfl rfl rfl) ?_;obtain ⟨z,p,hm⟩:=aB hm
   exact eP (vs:=[zA #[str a.Left,str a.Right,str a.Result]]) (caps:=[cD a4 c]) (us:=[zA #[str a.Left,str a.Right,str a.Result],cD a4 c]) rfl call199 rfl rfl (aAQ p i l) aF
  ·exact aF
theorem fM {b:(List bD)} {a:bD} {c:Nat} {R:Bool} (hm:dG b a=some R) (d:aG G K (L) w) (e:aX K a1 c2 b) (g:eM K a4 c [str a.Left,str a.Right,str a.Result]):
  Calls prog 198 ([zS a1 b.length c2,Value.func (.func 199) #[] #[cD a4 c]]:List Value).toArray w (cJ fun v w'=>v=zB R/\aG G K (L) w'):=by
 exact aF
theorem aKJ {b:(List bD)} {R:Bool} (hm:oG b=some R) (hs:aG G K (L) w) (e:aX K a1 c2 b):
  Calls prog 159 ([zS a1 b.length c2]:List Value).toArray w (cJ fun v w'=>v=zB R/\aG G K (L) w'):=by
 refine aN func159 rfl (by kernel_rfl) (by show (1:Nat)<=56;decide) ?_;unfold oG at hm
 refine aL (aI (v:=zB false) (aM (aH (aL (aO (v:=zS a1 b.length c2) (aC (aU (len:=b.length) vX rfl) (aO (v:=i64 0) (aM (aQ [0] (fun f w=>aFS b=some R/\aG G K (L) w) aF ?_)))))))));obtain ⟨a2,n,ho⟩:=aB hm
 refine bS [0,5,6] n (fun c f w=>f 7=i64 c/\aG G K (L) w) aF ?_
 ·rintro c o f a3 hm hr ⟨g,j⟩
  unfold iP at hm
  refine aL (aC (dJ g rfl) (aM (aH ?_)))
  rcases aJ hm with ⟨k,hm⟩|⟨k,hm⟩
  ·refine aR k rfl (aT (aE (aH (bJ (aL (bO g ?_))))));obtain ⟨a,l,hm⟩:=aB hm
   refine aC (cK vX rfl e rfl rfl g l) ?_;obtain ⟨a4,p,q⟩:=aX.el (sz:=3) rfl e l
   cases q
   refine aC (dQ (t:=0) (vs:=[str a.Left,str a.Right,str a.Result]) aLe j p rfl rfl rfl) (dV (vs:=[str ([]:aK),str ([]:aK),str ([]:aK)]) zeroValue159 j rfl (fun d a5 r=>(aI (v:=i64 c) (eW (i:=0) (ns:=[str a.Left,str a.Right,str a.Result]) (us:=[str a.Left,str a.Right,str a.Result]) sizeOf159 r rfl rfl rfl rfl rfl (jY rfl) rfl rfl (fun u (a6:aG G K (box d 159 [str a.Left,str a.Right,str a.Result]::L) u)=>(aM (aH (aH (bB [0,4,5,6,7] (fun f w=>∃ h,fZ b c a h=some o/\f 48=zB h/\aG G K (box d 159 [str a.Left,str a.Right,str a.Result]::L) w) ?_ ?_)))))))))
   ·rintro f a7 ⟨h,hm,x,y⟩
    unfold fZ at hm
    refine aE ?_
    rcases aJ hm with ⟨m,hm⟩|⟨m,hm⟩
    ·exact aF
    ·refine aP m x (aT (aE (aL (aO (v:=zS a1 b.length c2) (aC (yG (vs:=[zP (some ⟨d,0,none⟩)]) rfl) ?_)))));obtain ⟨a8,z,J,V,a9⟩:=aG.lendBp y .head
     obtain ⟨b0,Z,hm⟩:=aB hm
     exact aW (vs:=[zS a1 b.length c2,Value.func (.func 199) #[] #[cD (some ⟨d,0,none⟩) 0]]) call198 rfl (fM Z V (e.mono z) J) aF
   exact aF
  ·exact aF
theorem aNN {a:(List aK)} {R:Bool} (hm:aBR a=some R) (o:aG G K (L) w) (d:aX K a1 c2 a):
  Calls prog 160 ([zS a1 a.length c2]:List Value).toArray w (cJ fun v w'=>v=zB R/\aG G K (L) w'):=by
 refine aN func160 rfl (by kernel_rfl) (by show (1:Nat)<=32;decide) ?_;unfold aBR at hm
 refine aL (aI (v:=zB false) (aM (aH (aL (aO (v:=zS a1 a.length c2) (aC (aU (len:=a.length) cU rfl) (aO (v:=i64 0) (aM (aQ [0] (fun f w=>aFr a=some R/\aG G K (L) w) aF ?_)))))))));obtain ⟨p,i,ho⟩:=aB hm
 refine bS [0,5,6] i (fun b f w=>f 7=i64 b/\aG G K (L) w) aF ?_
 ·rintro b j f q hm hr ⟨c,k⟩
  unfold xI at hm
  refine aL (aC (dJ c rfl) (aM (aH ?_)))
  rcases aJ hm with ⟨e,hm⟩|⟨e,hm⟩
  ·refine aR e rfl (aT (aE (aH (bJ (aL (bO c ?_))))));obtain ⟨l,g,hm⟩:=aB hm
   refine aC (cK cU rfl d rfl rfl c g) ?_;obtain ⟨r,m,n⟩:=aX.el (sz:=1) rfl d g
   cases n
   exact aC (bY (t:=0) nV k m rfl rfl) (aI (v:=i64 b) (aI (v:=str l) (aM (aH (bB [0,5,6,7] (fun f w=>∃ h,xH b h=some j/\f 27=zB h/\aG G K (L) w) aF aF)))))
  ·exact aF
theorem yE {c:bA} {p:bM} {a:Nat} {R:Bool} (hm:zH c p=some R) (b:aG G K (L) w) (d:aX K a1 c2 c.Values) (e:eM K a4 a [zS a7 p.Definitions.length c8,zS a10 p.Components.length c11,zS a13 p.Meetings.length c14,zS a16 p.Allowed.length c17,zS a19 p.Hidden.length c20]) (g:aX K a7 c8 p.Definitions) (h:aX K a10 c11 p.Components) (i:aX K a13 c14 p.Meetings) (j:aX K a16 c17 p.Allowed) (k:aX K a19 c20 p.Hidden):
  Calls prog 157 ([zA #[i64 c.Definition,zS a1 c.Values.length c2],cD a4 a]:List Value).toArray w (cJ fun v w'=>v=zB R/\aG G K (L) w'):=by
 exact aF
theorem jR {b:(List bA)} {a:bM} {d:Nat} {R:Int} (hm:dD b a=some R) (V:aG G K (L) w) (h:aX K a1 c2 b) (m:eM K a4 d [zS a7 a.Definitions.length c8,zS a10 a.Components.length c11,zS a13 a.Meetings.length c14,zS a16 a.Allowed.length c17,zS a19 a.Hidden.length c20]) (n:aX K a7 c8 a.Definitions) (o:aX K a10 c11 a.Components) (p:aX K a13 c14 a.Meetings) (q:aX K a16 c17 a.Allowed) (r:aX K a19 c20 a.Hidden):
  Calls prog 195 ([zS a1 b.length c2,Value.func (.func 157) #[] #[cD a4 d]]:List Value).toArray w (cJ fun v w'=>v=i64 R/\aG G K (L) w'):=by
 refine aN func195 rfl (by kernel_rfl) (by show (2:Nat)<=19;decide) ?_;unfold dD at hm
 refine aL (aI (v:=i64 0) (aM (aH (aL (aO (v:=zS a1 b.length c2) (aC (aU (len:=b.length) xZ rfl) (aO (v:=i64 0) (aM (aQ [] (fun f w=>fN=some R/\aG G K (L) w) aF ?_)))))))));obtain ⟨Z,u,ho⟩:=aB hm
 refine bS [0,1,7] u (fun e f w=>f 8=i64 e/\aG G K (L) w) aF ?_
 ·rintro e a0 f a2 hm hr ⟨i,j⟩
  unfold cC at hm
  refine aL (aC (dJ i rfl) (aM (aH ?_)))
  rcases aJ hm with ⟨k,hm⟩|⟨k,hm⟩
  ·refine aR k rfl (aT (aE (aH (bJ (aL (bO i (aI (v:=i64 e) (aM (aL (aO (v:=Value.func (.func 157) #[] #[cD a4 d]) (aO (v:=zS a1 b.length c2) (aO (v:=i64 e) ?_))))))))))));obtain ⟨c,l,hm⟩:=aB hm
   refine aC (cK xZ rfl h rfl rfl rfl l) ?_;obtain ⟨a3,x,y⟩:=aX.el (sz:=2) rfl h l
   obtain ⟨g,c48,rfl,z⟩:=y
   refine aC (dQ (t:=0) (vs:=[i64 c.Definition,zS g c.Values.length c48]) aGx j x rfl rfl rfl) ?_;obtain ⟨a5,J,hm⟩:=aB hm
   exact eP (vs:=[zA #[i64 c.Definition,zS g c.Values.length c48]]) (caps:=[cD a4 d]) (us:=[zA #[i64 c.Definition,zS g c.Values.length c48],cD a4 d]) rfl call157 rfl rfl (yE J j z m n o p q r) aF
  ·exact aF
theorem fF {b:(List bA)} {a:bM} {c:Nat} {R:Bool} (hm:cT b a=some R) (d:aG G K (L) w) (e:aX K a1 c2 b) (g:eM K a4 c [zS a7 a.Definitions.length c8,zS a10 a.Components.length c11,zS a13 a.Meetings.length c14,zS a16 a.Allowed.length c17,zS a19 a.Hidden.length c20]) (h:aX K a7 c8 a.Definitions) (i:aX K a10 c11 a.Components) (j:aX K a13 c14 a.Meetings) (k:aX K a16 c17 a.Allowed) (l:aX K a19 c20 a.Hidden):
  Calls prog 156 ([zS a1 b.length c2,Value.func (.func 157) #[] #[cD a4 c]]:List Value).toArray w (cJ fun v w'=>v=zB R/\aG G K (L) w'):=by
 exact aF
theorem aJk {a:bM} {R:Int} (hm:tS a=some R) (p:aG G K (L) w) (e:aX K a1 c2 a.Definitions) (h:aX K a4 c5 a.Components) (q:aX K a7 c8 a.Meetings) (r:aX K a10 c11 a.Allowed) (t:aX K a13 c14 a.Hidden):
  Calls prog 109 ([zA #[zS a1 a.Definitions.length c2,zS a4 a.Components.length c5,zS a7 a.Meetings.length c8,zS a10 a.Allowed.length c11,zS a13 a.Hidden.length c14]]:List Value).toArray w (cJ fun v w'=>v=i64 R/\aG G K (L) w'):=by
 let j:=[zS a1 a.Definitions.length c2,zS a4 a.Components.length c5,zS a7 a.Meetings.length c8,zS a10 a.Allowed.length c11,zS a13 a.Hidden.length c14]
 refine aN func109 rfl (by kernel_rfl) (by show (1:Nat)<=35;decide) ?_;unfold tS at hm
 refine aL (eO (v:=zA #[zS a1 a.Definitions.length c2,zS a4 a.Components.length c5,zS a7 a.Meetings.length c8,zS a10 a.Allowed.length c11,zS a13 a.Hidden.length c14]) (vs:=j) p rfl rfl (fun d a3 k=>(aI (v:=i64 0) (aM (aH (bJ (aL (aC (bG (t':=0) aHo rfl rfl) (aC (cX aPs k (i:=0) rfl rfl rfl) ?_)))))))));obtain ⟨u,x,hm⟩:=aB hm
 refine aW (vs:=[zS a1 a.Definitions.length c2]) call155 rfl (vP x k e) ?_
 rintro _ a5 ⟨rfl,l⟩
 refine aC (sL rfl) (aI (v:=zB (!u)) (aM ?_))
 rcases aJ hm with ⟨m,hm⟩|⟨m,hm⟩
 ·exact aF
 ·refine aP m rfl (aH (bB [1] (fun f w=>∃ n,sD a n=some R/\f 8=zB n/\aG G K (box d 48 j::L) w) aF (bL (aC (bG (t':=1) aDg rfl rfl) (aC (cX aNa l (i:=0) rfl rfl rfl) (aC (aU (len:=a.Components.length) xZ rfl) ?_))))));obtain ⟨y,z,hm⟩:=aB hm
  refine aW (vs:=[i64 (a.Components.length:Int),i64 1,i64 3]) call100 rfl (aIw z l) ?_
  rintro _ a6 ⟨rfl,o⟩
  refine aC (sL rfl) (aO (v:=zB (!y)) ?_)
  rcases aJ hm with ⟨c,hm⟩|⟨c,hm⟩
  ·exact aF
  ·refine kN c rfl rfl (aC (bG (t':=1) aDg rfl rfl) (kN c rfl rfl (aC (cX aNa o (i:=0) rfl rfl rfl) (kN c rfl rfl (aC (yG (vs:=[zP (some ⟨d,0,none⟩)]) rfl) (kN c rfl rfl ?_))))));obtain ⟨a8,b,J,V,Z⟩:=aG.lendBp o .head
   obtain ⟨a9,a0,hm⟩:=aB hm
   refine aW (vs:=[zS a4 a.Components.length c5,Value.func (.func 157) #[] #[cD (some ⟨d,0,none⟩) 0]]) call156 rfl (fF a0 V (h.mono b) J (e.mono b) (h.mono b) (q.mono b) (r.mono b) (t.mono b)) ?_
   rintro _ b0 ⟨rfl,a2⟩
   have b1:=Z _ _ a2
   exact aF
theorem aJl {a:bM} {R:Bool} (hm:mH a=some R) (b:aG G K (L) w) (c:aX K a1 c2 a.Definitions) (d:aX K a4 c5 a.Components) (e:aX K a7 c8 a.Meetings) (g:aX K a10 c11 a.Allowed) (h:aX K a13 c14 a.Hidden):
  Calls prog 51 ([zA #[zS a1 a.Definitions.length c2,zS a4 a.Components.length c5,zS a7 a.Meetings.length c8,zS a10 a.Allowed.length c11,zS a13 a.Hidden.length c14]]:List Value).toArray w (cJ fun v w'=>v=zB R/\aG G K (L) w'):=by
 exact aF
theorem aDC {rec_:(List aS)->Option ((Tr aS) × (List aS))} (ih:∀ {G:kE} {K:Hp} {L:List eV} {w:World} {e:(List aS)} {a1:Option Addr} {c2:Nat} {R:((Tr aS) × (List aS))} (hm:rec_ e=some R) (hs:aG G K (L) w) (g:aX K a1 c2 e),
  Calls prog 248 ([zS a1 e.length c2]:List Value).toArray w (cJ fun v w'=>∃ c r u x,v=zT #[cD r 0,zS u R.2.length x]/\Hp.le K c/\trd c R.1 r/\aX c u x R.2/\aG G c (L) w'))
  {G:kE} {K:Hp} {L:List eV} {w:World} {e:(List aS)} {a1:Option Addr} {c2:Nat} {R:((Tr aS) × (List aS))} (hm:kQ rec_ e=some R) (hs:aG G K (L) w) (g:aX K a1 c2 e):
  Calls prog 248 ([zS a1 e.length c2]:List Value).toArray w (cJ fun v w'=>∃ c r u x,v=zT #[cD r 0,zS u R.2.length x]/\Hp.le K c/\trd c R.1 r/\aX c u x R.2/\aG G c (L) w'):=by
 refine aN func248 rfl (by kernel_rfl) (by show (1:Nat)<=38;decide) ?_;unfold kQ at hm
 refine aL (aI (v:=zP none) (aI (v:=zS none 0 0) (aM (aL (aO (v:=zS a1 e.length c2) ?_)))));obtain ⟨a,q5,hm⟩:=aB hm
 refine aC (cK nW rfl g rfl rfl rfl q5) ?_;obtain ⟨g1,b6,c9⟩:=aX.el (sz:=2) rfl g q5
 cases c9
 refine aC (dQ (t:=0) (vs:=[i64 a.Kind,i64 a.Value]) aIT hs b6 rfl rfl rfl) (aC (aDe (vs:=[(0,zA #[i64 a.Kind,i64 a.Value])]) (cs:=[i64 a.Kind,i64 a.Value,zS none 0 0]) bs_311 rfl (by kernel_rfl)) (eO (v:=zA #[i64 a.Kind,i64 a.Value,zS none 0 0]) (vs:=[i64 a.Kind,i64 a.Value,zS none 0 0]) hs rfl rfl (fun b g2 b7=>(aI (v:=zP (some ⟨b,0,none⟩)) (aM (aL (aO (v:=zS a1 e.length c2) ?_)))))));obtain ⟨d0,b8,hm⟩:=aB hm
 obtain ⟨d1,d2,c0⟩:=Cut.ex 2 a1 c2 1
 have g3:=aX.cut' g b8 c0
 refine aC (aMU nW g.room c0 rfl rfl rfl b8) (aI (v:=zS d1 d0.length d2) (aM (aH (aL (aO (v:=zS a1 e.length c2) (aC (cK nW rfl g rfl rfl rfl q5) (aC (dQ (t:=0) (vs:=[i64 a.Kind,i64 a.Value]) aIT b7 b6 rfl rfl rfl) ?_)))))));obtain ⟨g4,d3,hm⟩:=aB hm
 refine aW (vs:=[zA #[i64 a.Kind,i64 a.Value]]) call275 rfl (aAP d3 b7) ?_
 rintro _ g5 ⟨rfl,d4⟩
 refine aO (v:=i64 0) (aM (aQ [4] (fun f w=>∃ y j z a0 a2 J V,Hp.le K y/\aDV a j z=some R/\f 5=zS J z.length V/\aX y J V z/\aG G y (aV 270 y a0 a2 j::box b 311 [i64 a.Kind,i64 a.Value,zS a0 j.length a2]::L) w) ?_ ?_))
 ·rintro f c1 ⟨y,j,z,a0,a2,J,V,d5,hm,d6,d7,d8⟩
  unfold aDV at hm
  refine aE (aL (aO (v:=zP (some ⟨b,0,none⟩)) (bO d6 (aI (v:=zP (some ⟨b,0,none⟩)) (aI (v:=zS J z.length V) (aM ?_))))));obtain ⟨d9,c3,e0,a9⟩:=aG.giveSp d8 (Hp.le_refl _) .head
  replace a9:aG G d9 (box b 311 [i64 a.Kind,i64 a.Value,zS a0 j.length a2]::L) c1:=a9
  obtain ⟨b0,b1,e1,b2,_⟩:=aG.lendBp a9 .head
  replace b2:aG G b0 (L) c1:=b2
  have e2:trd b0 (Tr.mk a j) (some ⟨b,0,none⟩):=trd_mk e1 (e0.mono b1)
  obtain rfl:=Option.some.inj hm
  exact aGk (retQ_2 results248 rfl rfl ⟨b0,(some ⟨b,0,none⟩),J,V,(tp2 (elp_b rfl) rfl),(Hp.le_trans (Hp.le_trans d5 c3) b1),e2,(d7.mono (Hp.le_trans c3 b1)),b2⟩)
 have g6:=aG.nil (α:=(Tr aS)) d4 270 K
 obtain ⟨g7,e5,ho⟩:=aB hm
 refine aBY [4,17] e5 (fun k a3 b3 f w=>∃ l m n a4 a5,Hp.le K l/\f 5=zS a4 a3.length a5/\f 18=i64 b3/\aX l a4 a5 a3/\aG G l (aV 270 l m n k::box b 311 [i64 a.Kind,i64 a.Value,zS m k.length n]::L) w) aF ?_
 ·rintro k a3 b3 g8 f g9 hm hr ⟨l,m,n,a4,a5,e6,e7,c4,e8,e9⟩
  unfold tT at hm
  refine aL (aC (dJ c4 rfl) (aM (aH ?_)))
  rcases aJ hm with ⟨c5,hm⟩|⟨c5,hm⟩
  ·refine aR c5 rfl (aT (aE (aH (bJ (aL (aI (v:=zP none) (aM (aL (bO e7 ?_)))))))));obtain ⟨a6,f0,hm⟩:=aB hm
   refine aW (vs:=[zS a4 a3.length a5]) call248 rfl (ih f0 e9 e8) ?_
   rintro _ h0 ⟨d,o,b4,b5,rfl,c6,f1,f2,c7⟩
   refine aO (v:=zT #[cD o 0,zS b4 a6.2.length b5]) (aC (iL rfl rfl) (aC (iL rfl rfl) (aI (v:=cD o 0) (aI (v:=zS b4 a6.2.length b5) (aM (bL (aO (v:=zP (some ⟨b,0,none⟩)) (aO (v:=zP (some ⟨b,0,none⟩)) (aC (vT rfl) (aC (bG (t':=2) aCe rfl rfl) (aC (cX aLf c7 (i:=1) rfl rfl rfl) (aO (v:=cD o 0) (dH (Kt:=d) (xs:=([a6.1]:List (Tr aS))) (cs:=[cD o 0]) (vs:=[(0,cD o 0)]) aIU ez_270 rfl rfl c7 rfl (by kernel_rfl) rfl rfl rfl ⟨⟨o,rfl,f1⟩,trivial⟩ (fun f3 f4 (f5:aG G d (aV 270 d f3 1 ([a6.1]:List (Tr aS))::aV 270 l m n k::box b 311 [i64 a.Kind,i64 a.Value,zS m k.length n]::L) f4)=>?_))))))))))))))
   obtain ⟨Z,f6,hm⟩:=aB hm
   exact WO_appO (i:=0) d aIU underlying309 ez_270 rfl rfl f5 rfl c6 (Hp.le_refl _) f6 rfl rfl rfl rfl (fun _ _ _ h=>El.one h) (fun p q f7 (f8:aG G d (aV 270 d p q Z::box b 311 [i64 a.Kind,i64 a.Value,zS m k.length n]::L) f7)=>(aC (vT rfl) (aC (bG (t':=2) aCe rfl rfl) (eW (i:=1) (ns:=[zS p Z.length q]) (us:=[i64 a.Kind,i64 a.Value,zS p Z.length q]) sizeOf309 f8 rfl rfl rfl rfl rfl (jY rfl) rfl rfl (fun f9 (g0:aG G d (aV 270 d p q Z::box b 311 [i64 a.Kind,i64 a.Value,zS p Z.length q]::L) f9)=>(bR (eK (aE (bL (aC (mQ c4 rfl) (aO (v:=i64 (wr (b3+1))) (aM ⟨_,(Option.some.inj hm).symm,gB,d,p,q,b4,b5,(Hp.le_trans e6 c6),rfl,rfl,f2,g0⟩))))))))))))
  ·exact aF
theorem aDD (n:Nat):∀ {G:kE} {K:Hp} {L:List eV} {w:World} {e:(List aS)} {a1:Option Addr} {c2:Nat} {R:((Tr aS) × (List aS))} (hm:kR n e=some R) (a:aG G K (L) w) (b:aX K a1 c2 e),
  Calls prog 248 ([zS a1 e.length c2]:List Value).toArray w (cJ fun v w'=>∃ c d g h,v=zT #[cD d 0,zS g R.2.length h]/\Hp.le K c/\trd c R.1 d/\aX c g h R.2/\aG G c (L) w'):=by
 induction n with
 |zero=>
  intro G K L w e a1 c2 R hm a b
  unfold kR at hm
  cases hm
 |succ n ih=>
  intro G K L w e a1 c2 R hm a b
  exact aDC (rec_:=kR n) (fun hm a b=>ih hm a b) hm a b
theorem aMv {e:(List aS)} {R:((Tr aS) × (List aS))} (hm:aIZ e=some R) (hs:aG G K (L) w) (h3:aX K a1 c2 e):
  Calls prog 248 ([zS a1 e.length c2]:List Value).toArray w (cJ fun v w'=>∃ K' ra1 ra2 rc2,v=zT #[cD ra1 0,zS ra2 R.2.length rc2]/\Hp.le K K'/\trd K' R.1 ra1/\aX K' ra2 rc2 R.2/\aG G K' (L) w'):=aDD 100000 hm hs h3
theorem aHe {e:(List aS)} {R:(Tr aS)} (hm:aJa e=some R) (c:aG G K (L) w) (d:aX K a1 c2 e):
  Calls prog 211 ([zS a1 e.length c2]:List Value).toArray w (cJ fun v w'=>∃ a b,v=cD b 0/\Hp.le K a/\trd a R b/\aG G a (L) w'):=by
 exact aF
theorem qJ {b:(Tr aS)} {R:Int} (hm:iJ b=some R) (c:aG G K (L) w) (g:trd K b a1):
  Calls prog 250 ([cD a1 0]:List Value).toArray w (cJ fun v w'=>v=i64 R/\aG G K (L) w'):=by
 refine aN func250 rfl (by kernel_rfl) (by show (1:Nat)<=16;decide) ?_;unfold iJ at hm
 refine aL (aI (v:=i64 0) (aM (aH (aL (aO (v:=cD a1 0) ?_)))));obtain ⟨h,i,a,l⟩:=trd.el g
 replace a:eM K a1 0 [i64 b.val.Kind,i64 b.val.Value,zS h b.kids.length i]:=a
 refine aC (dA rfl a) (aC (cB (k':=0+0) aEf rfl a rfl) (aC (cB (k':=0+0) aGw rfl a rfl) (aC (bY (t:=0) gH c a rfl rfl) (aC (dP rfl rfl) (aM ?_)))))
 rcases aJ hm with ⟨d,hm⟩|⟨d,hm⟩
 ·refine aR d rfl (aL (aO (v:=cD a1 0) (aC (dA rfl a) (aC (cB (k':=0+0) aEf rfl a rfl) (aC (cB (k':=0+1) aCc rfl a rfl) (aC (bY (t:=1) gH c a rfl rfl) ?_))))));obtain ⟨j,e,hm⟩:=aB hm
  refine aC (R_ixT (tab:=aLc) ar_330 rfl rfl e) (aC (R_ldT (tab:=aLc) gH (tab_5 c) e rfl) (aI (v:=i64 j) (aM ?_)));obtain rfl:=Option.some.inj hm
  exact aGk (aPM (aGm results250 rfl ⟨rfl,c⟩))
 ·exact aF
theorem mP {rec_:(Tr aS)->Option aK} (g:∀ {G:kE} {K:Hp} {L:List eV} {w:World} {h:(Tr aS)} {a1:Option Addr} {R:aK} (hm:rec_ h=some R) (b:aG G K (L) w) (c:trd K h a1),
  Calls prog 212 ([cD a1 0]:List Value).toArray w (cJ fun v w'=>v=str R/\aG G K (L) w')) {G:kE} {K:Hp} {L:List eV} {w:World} {a:(Tr aS)} {a1:Option Addr} {d:Bool} {R:aK} (hm:fW rec_ a d=some R) (b:aG G K (L) w) (c:trd K a a1):
  Calls prog 249 ([cD a1 0,zB d]:List Value).toArray w (cJ fun v w'=>v=str R/\aG G K (L) w'):=by
 refine aN func249 rfl (by kernel_rfl) (by show (2:Nat)<=12;decide) ?_;unfold fW at hm
 refine aL (aI (v:=str ([]:aK)) (aM (aH (aL (aO (v:=zB d) (aM ?_))))))
 rcases aJ hm with ⟨e,hm⟩|⟨e,hm⟩
 ·refine aR e rfl (aL (aO (v:=cD a1 0) ?_));obtain ⟨k,i,hm⟩:=aB hm
  exact aW (vs:=[cD a1 0]) call212 rfl (g i b c) aF
 ·refine aP e rfl (aT (aE (aL (aO (v:=cD a1 0) ?_))));obtain ⟨l,j,hm⟩:=aB hm
  exact aW (vs:=[cD a1 0]) call212 rfl (g j b c) aF
theorem aCQ {rec_:(Tr aS)->Option aK} (m:∀ {G:kE} {K:Hp} {L:List eV} {w:World} {c:(Tr aS)} {a1:Option Addr} {R:aK} (hm:rec_ c=some R) (a:aG G K (L) w) (n:trd K c a1),
  Calls prog 212 ([cD a1 0]:List Value).toArray w (cJ fun v w'=>v=str R/\aG G K (L) w'))
  {G:kE} {K:Hp} {L:List eV} {w:World} {c:(Tr aS)} {a1:Option Addr} {R:aK} (hm:jJ rec_ c=some R) (a:aG G K (L) w) (n:trd K c a1):
  Calls prog 212 ([cD a1 0]:List Value).toArray w (cJ fun v w'=>v=str R/\aG G K (L) w'):=by
 refine aN func212 rfl (by kernel_rfl) (by show (1:Nat)<=88;decide) ?_;unfold jJ at hm
 refine aL (aI (v:=str ([]:aK)) (aM (aL (aI (v:=Value.func (.func 249) #[] #[]) (aM (aH (aL (aO (v:=cD a1 0) ?_))))))));obtain ⟨a3,c4,b,g⟩:=trd.el n
 replace b:eM K a1 0 [i64 c.val.Kind,i64 c.val.Value,zS a3 c.kids.length c4]:=b
 refine aC (dA rfl b) (aC (cB (k':=0+0) aEf rfl b rfl) (aC (cB (k':=0+0) aGw rfl b rfl) (aC (bY (t:=0) gH a b rfl rfl) (aM (bJ (aL (aC (dP rfl rfl) (aI (v:=zB (c.val.Kind == 0)) (aM ?_)))))))))
 rcases aJ hm with ⟨r,hm⟩|⟨r,hm⟩
 ·exact aF
 ·refine aP r rfl (aL (aC (dP rfl rfl) (aI (v:=zB (c.val.Kind == 1)) (aM ?_))))
  rcases aJ hm with ⟨u,hm⟩|⟨u,hm⟩
  ·exact aF
  ·refine aP u rfl (aL (aC (dP rfl rfl) (aI (v:=zB (c.val.Kind == 3)) (aM ?_))))
   rcases aJ hm with ⟨o,hm⟩|⟨o,hm⟩
   ·refine aR o rfl (aH (lQ (C:=fun w'=>∃ L',aG G K L' w') [(0,0),(1,0),(2,0),(3,0),(4,0),(5,0),(6,0),(7,0),(8,0),(9,0),(10,0),(11,0),(12,0),(13,0),(14,0),(15,0),(16,0),(17,0),(18,1),(19,0),(20,0)] Tryz_mixed (by kernel_rfl) (fun _ hg=>⟨_,aG.mono a hg⟩) (fun c9 b1=>?_)))
    have d:=aG.mono a b1
    refine dN rfl (fun _ _=>aZ (v:=Value.func (.func 249) #[] #[]) rfl) (dN rfl (fun _ _=>aZ (v:=cD a1 0) rfl) (dN rfl (fun _ _=>dA rfl b) (dN rfl (fun _ _=>cB (k':=0+2) aCe rfl b rfl) (dN rfl (fun _ ⟨_,d⟩=>bY (t:=2) aLf d b rfl rfl) ?_))));obtain ⟨k,p,hm⟩:=aB hm
    refine dN rfl (fun _ _=>cK aIU rfl g rfl rfl rfl p) ?_;obtain ⟨d0,x,b2⟩:=aX.el (sz:=1) rfl g p
    obtain ⟨q,rfl,y⟩:=b2
    refine dN rfl (fun _ ⟨_,d⟩=>bY (t:=0) aNj d x rfl rfl) (dN rfl (fun _ _=>aZ (v:=cD a1 0) rfl) (dN rfl (fun _ _=>dA rfl b) (dN rfl (fun _ _=>cB (k':=0+2) aCe rfl b rfl) (dN rfl (fun _ ⟨_,d⟩=>bY (t:=2) aLf d b rfl rfl) (dN rfl (fun _ _=>cK aIU rfl g rfl rfl rfl p) (dN rfl (fun _ ⟨_,d⟩=>bY (t:=0) aNj d x rfl rfl) ?_))))));obtain ⟨b3,b4,h,d1⟩:=trd.el y
    replace h:eM K q 0 [i64 k.val.Kind,i64 k.val.Value,zS b3 k.kids.length b4]:=h
    refine dN rfl (fun _ _=>dA rfl h) (dN rfl (fun _ _=>cB (k':=0+0) aEf rfl h rfl) (dN rfl (fun _ _=>cB (k':=0+0) aGw rfl h rfl) (dN rfl (fun _ ⟨_,d⟩=>bY (t:=0) gH d h rfl rfl) (dN rfl (fun _ _=>dP rfl rfl) (vV rfl ?_)))));obtain ⟨d2,b5,hm⟩:=aB hm
    exact eP (vs:=[cD q 0,zB (k.val.Kind == 2)]) (caps:=[]) (us:=[cD q 0,zB (k.val.Kind == 2)]) rfl call249 rfl rfl (mP m b5 d y) aF
   ·refine aP o rfl (aT (eK (aE (aH (fH (C:=fun w'=>aG G K (L) w') Tryz_mixed (by kernel_rfl) (aG.mono a (eF.drew _)) (aY (fun _ a=>aZ (v:=cD a1 0) rfl) (aY (fun _ a=>dA rfl b) (aY (fun _ a=>cB (k':=0+2) aCe rfl b rfl) (aY (fun _ a=>bY (t:=2) aLf a b rfl rfl) ?_)))))))));obtain ⟨d3,z,hm⟩:=aB hm
    refine aY (fun _ a=>cK aIU rfl g rfl rfl rfl z) ?_;obtain ⟨d4,b6,b7⟩:=aX.el (sz:=1) rfl g z
    obtain ⟨i,rfl,J⟩:=b7
    refine aY (fun _ a=>bY (t:=0) aNj a b6 rfl rfl) (aY (fun _ a=>aZ (v:=cD a1 0) rfl) (aY (fun _ a=>dA rfl b) (aY (fun _ a=>cB (k':=0+2) aCe rfl b rfl) (aY (fun _ a=>bY (t:=2) aLf a b rfl rfl) ?_))));obtain ⟨d5,V,hm⟩:=aB hm
    refine aY (fun _ a=>cK aIU rfl g rfl rfl rfl V) ?_;obtain ⟨d6,b8,b9⟩:=aX.el (sz:=1) rfl g V
    obtain ⟨j,rfl,Z⟩:=b9
    refine aY (fun _ a=>bY (t:=0) aNj a b8 rfl rfl) (aY (fun _ a=>aZ (v:=cD a1 0) rfl) ?_);obtain ⟨e,c0,hm⟩:=aB hm
    refine fS (vs:=[cD a1 0]) (v:=i64 e) call250 rfl (fun _ a=>(qJ c0 a n)) (aY (fun _ a=>dM (v:=cD i 0) rfl) (aY (fun _ a=>dM (v:=cD j 0) rfl) (aY (fun _ a=>dM (v:=i64 e) rfl) (uT (fun d7 a0=>(aE (aH (lQ (C:=fun w'=>∃ L',aG G K L' w') [(0,0),(1,0),(2,0),(4,0),(7,0),(8,0),(9,0),(10,0),(11,0),(12,0),(13,0),(15,0),(16,0),(17,0),(19,0),(3,1),(5,0),(6,1),(14,0),(18,1),(20,0),(21,1),(22,0),(23,0)] Tryz_mixed (by kernel_rfl) (fun _ hg=>⟨_,aG.mono a0 hg⟩) (fun d8 c1=>?_)))))))))
    have l:=aG.mono a0 c1
    refine dN rfl (fun _ _=>aZ (v:=Value.func (.func 249) #[] #[]) rfl) (dN rfl (fun _ _=>aZ (v:=cD i 0) rfl) (dN rfl (fun _ _=>aZ (v:=cD i 0) rfl) (dN rfl (fun _ _=>aZ (v:=i64 e) rfl) (dN rfl (fun _ _=>aZ (v:=cD a1 0) rfl) (dN rfl (fun _ _=>dA rfl b) (dN rfl (fun _ _=>cB (k':=0+0) aEf rfl b rfl) (dN rfl (fun _ _=>cB (k':=0+1) aCc rfl b rfl) (dN rfl (fun _ ⟨_,l⟩=>bY (t:=1) gH l b rfl rfl) ?_))))))))
    obtain ⟨d9,a2,hm⟩:=aB hm
    refine dN rfl (fun _ _=>R_ixT (tab:=aIP) ar_313 rfl rfl a2) (dN rfl (fun _ ⟨_,l⟩=>R_ldT (tab:=aIP) nV (tab_4 l) a2 rfl) (dN rfl (fun _ _=>aZ (v:=Value.func (.func 249) #[] #[]) rfl) (dN rfl (fun _ _=>aZ (v:=cD j 0) rfl) (dN rfl (fun _ _=>aZ (v:=cD j 0) rfl) (dN rfl (fun _ _=>aZ (v:=i64 e) rfl) (vV rfl ?_))))));obtain ⟨a4,c2,hm⟩:=aB hm
    refine aW (vs:=[cD i 0]) call250 rfl (qJ c2 l J) ?_
    rintro _ e0 ⟨rfl,a5⟩
    refine bR (aE ⟨⟨_,a5⟩,?_⟩)
    refine dN rfl (fun _ _=>dJ rfl rfl) (vV rfl ?_);obtain ⟨e1,c3,hm⟩:=aB hm
    refine eP (vs:=[cD i 0,zB (decide (a4 < e))]) (caps:=[]) (us:=[cD i 0,zB (decide (a4 < e))]) rfl call249 rfl rfl (mP m c3 a5 J) ?_
    rintro _ e2 ⟨rfl,a6⟩
    refine bR (aE ⟨⟨_,a6⟩,?_⟩)
    obtain ⟨e3,c5,hm⟩:=aB hm
    refine dN rfl (fun _ _=>eA rfl rfl c5) (vV rfl ?_);obtain ⟨a7,c6,hm⟩:=aB hm
    refine aW (vs:=[cD j 0]) call250 rfl (qJ c6 a6 Z) ?_
    rintro _ e4 ⟨rfl,a8⟩
    refine bR (aE ⟨⟨_,a8⟩,?_⟩)
    refine dN rfl (fun _ _=>R_leq rfl rfl) (vV rfl ?_);obtain ⟨e5,c8,hm⟩:=aB hm
    exact eP (vs:=[cD j 0,zB (decide (a7<=e))]) (caps:=[]) (us:=[cD j 0,zB (decide (a7<=e))]) rfl call249 rfl rfl (mP m c8 a8 Z) aF
theorem aCR (n:Nat):∀ {G:kE} {K:Hp} {L:List eV} {w:World} {c:(Tr aS)} {a1:Option Addr} {R:aK} (hm:gA n c=some R) (a:aG G K (L) w) (b:trd K c a1),
  Calls prog 212 ([cD a1 0]:List Value).toArray w (cJ fun v w'=>v=str R/\aG G K (L) w'):=by
 induction n with
 |zero=>
  intro G K L w c a1 R hm a b
  unfold gA at hm
  cases hm
 |succ n ih=>
  intro G K L w c a1 R hm a b
  exact aCQ (rec_:=gA n) (fun hm a b=>ih hm a b) hm a b
theorem zO {x_:(Tr aS)} {R:aK} (hm:aAJ x_=some R) (hs:aG G K (L) w) (h2:trd K x_ a1):
  Calls prog 212 ([cD a1 0]:List Value).toArray w (cJ fun v w'=>v=str R/\aG G K (L) w'):=aCR 100000 hm hs h2
end Gv
namespace Gv
open Gv.Hp renaming le_refl→zR
open Go.Value renaming slice→zS,bool→zB,pointer→zP,agg→zA
open Gv.Hp renaming le_trans→zL
open Go Go.Proofs Go.Proofs.Tryz
set_option maxRecDepth 20000
set_option maxHeartbeats 40000000
variable {G:kE} {K Kf:Hp} {L:List eV} {w:World} {a1 a2 a6 a5 a4 a7 a10 a13:Option Addr} {c2 b1 c3 c7 c6 c5 c8 c11 c14:Nat}
theorem aAq {a:(List (List aS))} {R:aK} (hm:aAK a=some R) (l:aG G K (L) w) (o:G.lo=0) (p:aX K a1 c2 a):
  Calls prog 209 ([zS a1 a.length c2]:List Value).toArray w (cJ fun v w'=>v=str R/\aG G K (L) w'):=by
 refine aN func209 rfl (by kernel_rfl) (by show (1:Nat)<=26;decide) ?_;unfold aAK at hm
 refine aL (aI (v:=str ([]:aK)) (aM (aH (aL (aO (v:=zS a1 a.length c2) (aC (aU (len:=a.length) mT rfl) (aC (dP rfl rfl) (aM ?_))))))))
 rcases aJ hm with ⟨c,hm⟩|⟨c,hm⟩
 ·exact aF
 ·refine aP c rfl (aT (aE (aL (aI (v:=zS none 0 0) (aM (aH (aL (aO (v:=zS a1 a.length c2) (aC (aU (len:=a.length) mT rfl) (aO (v:=i64 0) (aM (aQ [] (fun f w=>∃ d b e g,Hp.le K d/\aGQ b=some R/\f 3=zS e b.length g/\aG G d (aV 9 K e g b::L) w) aF ?_))))))))))))
  have q:=aG.nil (α:=aK) l 9 K
  obtain ⟨r,m,ho⟩:=aB hm
  exact cA [9,10] m (fun h n f w=>∃ i j k,Hp.le K i/\f 3=zS j h.length k/\f 11=i64 n/\aG G i (aV 9 K j k h::L) w) aF aF
theorem jW {rec_:(List Definition)->(List bH)->Option (aK × (List bH))} (n:∀ {G:kE} {K:Hp} {L:List eV} {w:World} {Kf:Hp} {b1:Nat} {a:(List Definition)} {a2:Option Addr} {c3:Nat} {b:List (Dp.Hd Definition)} {c:(List bH)} {a6:Option Addr} {c7:Nat} {R:(aK × (List bH))} (hm:rec_ a c=some R) (e:aG G K (aV 151 K a2 c3 (cG b a)::rows [206,239,242] b a::box b1 224 [zS a2 a.length c3,zS a6 c.length c7]::L) w) (k:G.lo=0) (d:Hp.le Kf K) (l:List.length b=List.length a) (g:aX Kf a6 c7 c),
  Calls prog 168 ([zP (some ⟨b1,0,none⟩)]:List Value).toArray w (cJ fun v w'=>∃ h j,v=str R.1/\aX Kf h j R.2/\aG G K (aV 151 K a2 c3 (cG b a)::rows [206,239,242] b a::box b1 224 [zS a2 a.length c3,zS h R.2.length j]::L) w')) {G:kE} {K:Hp} {L:List eV} {w:World} {Kf:Hp} {b1:Nat} {a:(List Definition)} {a2:Option Addr} {c3:Nat} {b:List (Dp.Hd Definition)} {c:(List bH)} {a6:Option Addr} {c7:Nat} {R:(aK × (List bH))} (hm:jE rec_ a c=some R) (e:aG G K (aV 151 K a2 c3 (cG b a)::rows [206,239,242] b a::box b1 224 [zS a2 a.length c3,zS a6 c.length c7]::L) w) (k:G.lo=0) (d:Hp.le Kf K) (l:List.length b=List.length a) (g:aX Kf a6 c7 c):
  Calls prog 210 ([zP (some ⟨b1,0,none⟩)]:List Value).toArray w (cJ fun v w'=>∃ h j,v=str R.1/\aX Kf h j R.2/\aG G K (aV 151 K a2 c3 (cG b a)::rows [206,239,242] b a::box b1 224 [zS a2 a.length c3,zS h R.2.length j]::L) w'):=by
 refine aN func210 rfl (by kernel_rfl) (by show (1:Nat)<=17;decide) ?_;unfold jE at hm
 refine aL (aI (v:=str ([]:aK)) (aM (aH (aL (aO (v:=zP (some ⟨b1,0,none⟩)) (aC (vT rfl) (aC (bG (t':=1) vZ rfl rfl) (aC (cX yL e (i:=2) rfl rfl rfl) ?_))))))));obtain ⟨x,o,hm⟩:=aB hm
 refine aC (cK lO rfl (g.mono d) rfl rfl rfl o) ?_;obtain ⟨y,p,q⟩:=aX.el (sz:=4) rfl g o
 obtain ⟨z,J,rfl,V⟩:=q
 refine aC (cB (k':=(0:Int).toNat * 4+0) oQ rfl (p.mono d) rfl) (aC (bY (t:=0) gH e (p.mono d) rfl rfl) (aC (dP rfl rfl) (aM ?_)))
 rcases aJ hm with ⟨m,hm⟩|⟨m,hm⟩
 ·refine aR m rfl (aL (aO (v:=zP (some ⟨b1,0,none⟩)) ?_));obtain ⟨Z,r,hm⟩:=aB hm
  exact aW (vs:=[zP (some ⟨b1,0,none⟩)]) call168 rfl (n (Kf:=Kf) r e k d l g) aF
 ·refine aP m rfl (aT (aE (aL (aO (v:=zP (some ⟨b1,0,none⟩)) ?_))));obtain ⟨a0,u,hm⟩:=aB hm
  exact aW (vs:=[zP (some ⟨b1,0,none⟩)]) call168 rfl (n (Kf:=Kf) u e k d l g) aF
theorem uB {rec_:(List Definition)->(List bH)->Option (aK × (List bH))} (J:∀ {G:kE} {K:Hp} {L:List eV} {w:World} {Kf:Hp} {b1:Nat} {b:(List Definition)} {a2:Option Addr} {c3:Nat} {d:List (Dp.Hd Definition)} {j:(List bH)} {a6:Option Addr} {c7:Nat} {R:(aK × (List bH))} (hm:rec_ b j=some R) (V:aG G K (aV 151 K a2 c3 (cG d b)::rows [206,239,242] d b::box b1 224 [zS a2 b.length c3,zS a6 j.length c7]::L) w) (l:G.lo=0) (e:Hp.le Kf K) (k:List.length d=List.length b) (p:aX Kf a6 c7 j),
  Calls prog 168 ([zP (some ⟨b1,0,none⟩)]:List Value).toArray w (cJ fun v w'=>∃ q r,v=str R.1/\aX Kf q r R.2/\aG G K (aV 151 K a2 c3 (cG d b)::rows [206,239,242] d b::box b1 224 [zS a2 b.length c3,zS q R.2.length r]::L) w'))
  {G:kE} {K:Hp} {L:List eV} {w:World} {Kf:Hp} {b1:Nat} {b:(List Definition)} {a2:Option Addr} {c3:Nat} {d:List (Dp.Hd Definition)} {j:(List bH)} {a6:Option Addr} {c7:Nat} {R:(aK × (List bH))} (hm:sP rec_ b j=some R) (V:aG G K (aV 151 K a2 c3 (cG d b)::rows [206,239,242] d b::box b1 224 [zS a2 b.length c3,zS a6 j.length c7]::L) w) (l:G.lo=0) (e:Hp.le Kf K) (k:List.length d=List.length b) (p:aX Kf a6 c7 j):
  Calls prog 168 ([zP (some ⟨b1,0,none⟩)]:List Value).toArray w (cJ fun v w'=>∃ q r,v=str R.1/\aX Kf q r R.2/\aG G K (aV 151 K a2 c3 (cG d b)::rows [206,239,242] d b::box b1 224 [zS a2 b.length c3,zS q R.2.length r]::L) w'):=by
 let Z:=[zP (some ⟨b1,0,none⟩)]
 let u:=aV 151 K a2 c3 (cG d b)
 let x:=rows [206,239,242] d b
 refine aN func168 rfl (by kernel_rfl) (by show (1:Nat)<=80;decide) ?_;unfold sP at hm
 refine aL (aI (v:=str ([]:aK)) (aM (aL (aO (v:=zP (some ⟨b1,0,none⟩)) (aC (vT rfl) (aC (bG (t':=1) vZ rfl rfl) (aC (cX yL V (i:=2) rfl rfl rfl) ?_)))))));obtain ⟨a,a8,hm⟩:=aB hm
 refine aC (cK lO rfl (p.mono e) rfl rfl rfl a8) ?_;obtain ⟨g4,c5,c6⟩:=aX.el (sz:=4) rfl p a8
 obtain ⟨g,h,rfl,a0⟩:=c6
 refine aC (dQ (t:=0) (vs:=[i64 a.Kind,i64 a.Number,str a.Name,zS g a.Arguments.length h]) yM V (c5.mono e) rfl rfl rfl) (dV (vs:=[i64 0,i64 0,str ([]:aK),zS none 0 0]) zeroValue206 V rfl (fun y g5 c8=>(eW (i:=0) (ns:=[i64 a.Kind,i64 a.Number,str a.Name,zS g a.Arguments.length h]) (us:=[i64 a.Kind,i64 a.Number,str a.Name,zS g a.Arguments.length h]) sizeOf206 c8 rfl rfl rfl rfl rfl (jY rfl) rfl rfl (fun c9 (a9:aG G K (box y 206 [i64 a.Kind,i64 a.Number,str a.Name,zS g a.Arguments.length h]::u::x::box b1 224 [zS a2 b.length c3,zS a6 j.length c7]::L) c9)=>(aM (aL (aO (v:=zP (some ⟨b1,0,none⟩)) (aO (v:=zP (some ⟨b1,0,none⟩)) (aC (vT rfl) (aC (bG (t':=1) vZ rfl rfl) (aC (cX yL a9 (i:=3) rfl rfl rfl) ?_)))))))))))
 obtain ⟨m,b0,hm⟩:=aB hm
 obtain ⟨n,o,b2⟩:=Cut.ex 4 a6 c7 1
 have a3:=aX.cut' p b0 b2
 refine aC (aMU lO p.room b2 rfl rfl rfl b0) (aC (vT rfl) (aC (bG (t':=1) vZ rfl rfl) (eW (i:=3) (ns:=[zS n m.length o]) (us:=[zS a2 b.length c3,zS n m.length o]) sizeOf149 a9 rfl rfl rfl rfl rfl (jY rfl) rfl rfl (fun b3 (c:aG G K (box y 206 [i64 a.Kind,i64 a.Number,str a.Name,zS g a.Arguments.length h]::u::x::box b1 224 [zS a2 b.length c3,zS n m.length o]::L) b3)=>(aM (aH (aL (aC (bG (t':=0) oQ rfl rfl) (aC (cX gH c (i:=0) rfl rfl rfl) (aM (bJ (aL (aC (dP rfl rfl) (aI (v:=zB (a.Kind == 1)) (aM ?_)))))))))))))))
 rcases aJ hm with ⟨a4,hm⟩|⟨a4,hm⟩
 ·refine aR a4 rfl (aH ?_);obtain ⟨d0,b4,b5,b6,g6⟩:=aG.lendBp c .head
  refine lQ (C:=fun w'=>∃ L',aG G d0 L' w') [(0,0),(1,0),(2,0),(3,0),(7,0),(4,1),(5,0),(6,0),(8,1),(9,0),(10,0)] Tryz_mixed (by kernel_rfl) (fun _ hg=>⟨_,aG.mono b6 hg⟩) (fun g7 d1=>?_)
  have z:=aG.mono b6 d1
  refine dN rfl (fun _ _=>bG (t':=2) aJN rfl rfl) (dN rfl (fun _ ⟨_,z⟩=>bY (t:=2) nV z b5 rfl rfl) (dN rfl (fun _ _=>bG (t':=3) oR rfl rfl) (dN rfl (fun _ ⟨_,z⟩=>bY (t:=3) aAW z b5 rfl rfl) (dN rfl (fun _ _=>aZ (v:=zP (some ⟨b1,0,none⟩)) rfl) (vV rfl ?_)))));obtain ⟨g8,d2,hm⟩:=aB hm
  refine aW (vs:=[zS g a.Arguments.length h]) call209 rfl (aAq d2 z l (a0.mono (zL e b4))) ?_
  rintro _ g9 ⟨rfl,b7⟩
  refine bR (aE ⟨⟨_,b7⟩,?_⟩)
  obtain ⟨h0,d3,hm⟩:=aB hm
  refine dN rfl (fun _ _=>eA rfl rfl d3) ?_;obtain ⟨h1,d4,hm⟩:=aB hm
  refine dN rfl (fun _ _=>eA rfl rfl d4) (vV rfl ?_);obtain ⟨h2,d5,hm⟩:=aB hm
  exact aW (vs:=Z) call210 rfl (jW J (Kf:=Kf) d5 b7 l (zL e b4) k a3) aF
 ·refine aP a4 rfl (aL (aC (dP rfl rfl) (aI (v:=zB (a.Kind == 2)) (aM ?_))))
  rcases aJ hm with ⟨a5,hm⟩|⟨a5,hm⟩
  ·refine aR a5 rfl (aL (aO (v:=zP (some ⟨b1,0,none⟩)) ?_))
   have d6:aG G K (u::x::box b1 224 [zS a2 b.length c3,zS n m.length o]::box y 206 [i64 a.Kind,i64 a.Number,str a.Name,zS g a.Arguments.length h]::L) b3:=(aG.arr 4 [1,2,3,0] c rfl)
   obtain ⟨b8,d7,hm⟩:=aB hm
   refine aW (vs:=Z) call210 rfl (jW J (Kf:=Kf) d7 d6 l e k a3) ?_
   rintro _ h3 ⟨h4,h5,rfl,d8,d9⟩
   refine aI (v:=str b8.1) (aM (aL (aO (v:=str b8.1) ?_)));obtain ⟨h6,e0,hm⟩:=aB hm
   refine aC (eA rfl rfl e0) (aO (v:=zP (some ⟨b1,0,none⟩)) ?_);obtain ⟨h7,e1,hm⟩:=aB hm
   exact aW (vs:=Z) call168 rfl (J (Kf:=Kf) e1 d9 l e k d8) aF
  ·refine aP a5 rfl (aL (aC (dP rfl rfl) (aI (v:=zB (a.Kind == 3)) (aM ?_))))
   rcases aJ hm with ⟨a7,hm⟩|⟨a7,hm⟩
   ·refine aR a7 rfl (aL (aC (bG (t':=3) oR rfl rfl) (aC (cX aAW c (i:=0) rfl rfl rfl) ?_)));obtain ⟨e2,b9,hm⟩:=aB hm
    refine aC (cK mT rfl (a0.mono e) rfl rfl rfl b9) ?_;obtain ⟨h9,e3,e4⟩:=aX.el (sz:=1) rfl a0 b9
    obtain ⟨e5,e6,rfl,e7⟩:=e4
    refine aC (bY (t:=0) aIS c (e3.mono e) rfl rfl) ?_;obtain ⟨i0,e8,hm⟩:=aB hm
    refine aW (vs:=[zS e5 e2.length e6]) call211 rfl (aHe e8 c (e7.mono e)) ?_
    rintro _ i1 ⟨f0,f1,rfl,f2,f3,f4⟩
    obtain ⟨i2,f5,hm⟩:=aB hm
    refine aW (vs:=[cD f1 0]) call212 rfl (zO f5 f4 f3) ?_
    rintro _ f6 ⟨rfl,f7⟩
    obtain ⟨i3,f8,hm⟩:=aB hm
    refine aC (eA rfl rfl f8) ?_;obtain ⟨i4,f9,hm⟩:=aB hm
    refine aC (eA rfl rfl f9) (aO (v:=zP (some ⟨b1,0,none⟩)) ?_)
    have g0:aG G f0 (u::x::box b1 224 [zS a2 b.length c3,zS n m.length o]::box y 206 [i64 a.Kind,i64 a.Number,str a.Name,zS g a.Arguments.length h]::L) f6:=(aG.arr 4 [1,2,3,0] f7 rfl)
    obtain ⟨i5,g1,hm⟩:=aB hm
    exact aW (vs:=Z) call210 rfl (jW J (Kf:=Kf) g1 g0 l (zL e f2) k a3) aF
   ·refine aP a7 rfl (aL (aC (dP rfl rfl) (aI (v:=zB (a.Kind == 4)) (aM ?_))))
    rcases aJ hm with ⟨c0,hm⟩|⟨c0,hm⟩
    ·exact aF
    ·refine aP c0 rfl (aL (aC (dP rfl rfl) (aI (v:=zB (a.Kind == 5)) (aM ?_))))
     rcases aJ hm with ⟨c1,hm⟩|⟨c1,hm⟩
     ·refine aR c1 rfl (aH (fH (C:=fun w'=>aG G K (box y 206 [i64 a.Kind,i64 a.Number,str a.Name,zS g a.Arguments.length h]::u::x::box b1 224 [zS a2 b.length c3,zS n m.length o]::L) w') Tryz_mixed (by kernel_rfl) (aG.mono c (eF.drew _)) (aY (fun _ c=>aZ (v:=zP (some ⟨b1,0,none⟩)) rfl) (aY (fun _ c=>vT rfl) (aY (fun _ c=>bG (t':=0) aRf rfl rfl) (aY (fun _ c=>cX aPs c (i:=3) rfl rfl rfl) (aY (fun _ c=>bG (t':=1) aJM rfl rfl) (aY (fun _ c=>cX gH c (i:=0) rfl rfl rfl) ?_))))))))
      obtain ⟨i6,a1,hm⟩:=aB hm
      obtain ⟨⟨⟨i7,i8⟩,i9⟩,c2⟩:=aMS k a1
      have c4:=eG c (i:=1) rfl (aBZ k a1 c2)
      refine aY (fun _ c=>iU qN rfl c4 rfl rfl rfl a1) (aY (fun _ c=>R_fldA (k':=a.Number.toNat * 3+0) aEe c4 rfl rfl) (aY (fun _ c=>oP (t:=0) nV c (i:=1) rfl (aBZ k a1 c2) rfl rfl rfl) (aY (fun _ c=>bG (t':=3) oR rfl rfl) (aY (fun _ c=>cX aAW c (i:=0) rfl rfl rfl) ?_))));obtain ⟨g2,g3,hm⟩:=aB hm
      exact fS (vs:=[zS g a.Arguments.length h]) (v:=str g2) call209 rfl (fun _ c=>(aAq g3 c l (a0.mono e))) aF
     ·exact aF
theorem uC (n:Nat):∀ {G:kE} {K:Hp} {L:List eV} {w:World} {Kf:Hp} {b1:Nat} {a:(List Definition)} {a2:Option Addr} {c3:Nat} {b:List (Dp.Hd Definition)} {c:(List bH)} {a6:Option Addr} {c7:Nat} {R:(aK × (List bH))} (hm:kK n a c=some R) (d:aG G K (aV 151 K a2 c3 (cG b a)::rows [206,239,242] b a::box b1 224 [zS a2 a.length c3,zS a6 c.length c7]::L) w) (e:G.lo=0) (g:Hp.le Kf K) (h:List.length b=List.length a) (i:aX Kf a6 c7 c),
  Calls prog 168 ([zP (some ⟨b1,0,none⟩)]:List Value).toArray w (cJ fun v w'=>∃ j k,v=str R.1/\aX Kf j k R.2/\aG G K (aV 151 K a2 c3 (cG b a)::rows [206,239,242] b a::box b1 224 [zS a2 a.length c3,zS j R.2.length k]::L) w'):=by
 induction n with
 |zero=>
  intro G K L w Kf b1 a a2 c3 b c a6 c7 R hm d e g h i
  unfold kK at hm
  cases hm
 |succ n ih=>
  intro G K L w Kf b1 a a2 c3 b c a6 c7 R hm d e g h i
  exact uB (rec_:=kK n) (fun hm d e g h i=>ih hm d e g h i) hm d e g h i
theorem aFy {x0_:(List Definition)} {hd4:List (Dp.Hd Definition)} {x1_:(List bH)} {R:(aK × (List bH))} (hm:aKl x0_ x1_=some R) (hs:aG G K (aV 151 K a2 c3 (cG hd4 x0_)::rows [206,239,242] hd4 x0_::box b1 224 [zS a2 x0_.length c3,zS a6 x1_.length c7]::L) w) (hG:G.lo=0) (hKf:Hp.le Kf K) (hl5:List.length hd4=List.length x0_) (h8:aX Kf a6 c7 x1_):
  Calls prog 168 ([zP (some ⟨b1,0,none⟩)]:List Value).toArray w (cJ fun v w'=>∃ ra0 rc0,v=str R.1/\aX Kf ra0 rc0 R.2/\aG G K (aV 151 K a2 c3 (cG hd4 x0_)::rows [206,239,242] hd4 x0_::box b1 224 [zS a2 x0_.length c3,zS ra0 R.2.length rc0]::L) w'):=uC 100000 hm hs hG hKf hl5 h8
theorem jX {rec_:(List Definition)->(List bH)->Option (aK × (List bH))} (m:∀ {G:kE} {K:Hp} {L:List eV} {w:World} {Kf:Hp} {b1:Nat} {a:(List Definition)} {a2:Option Addr} {c3:Nat} {b:(List bH)} {a5:Option Addr} {c6:Nat} {R:(aK × (List bH))} (hm:rec_ a b=some R) (d:aG G K (box b1 224 [zS a2 a.length c3,zS a5 b.length c6]::L) w) (j:G.lo=0) (c:Hp.le Kf K) (k:aX K a2 c3 a) (e:aX Kf a5 c6 b),
  Calls prog 168 ([zP (some ⟨b1,0,none⟩)]:List Value).toArray w (cJ fun v w'=>∃ g h,v=str R.1/\aX Kf g h R.2/\aG G K (box b1 224 [zS a2 a.length c3,zS g R.2.length h]::L) w')) {G:kE} {K:Hp} {L:List eV} {w:World} {Kf:Hp} {b1:Nat} {a:(List Definition)} {a2:Option Addr} {c3:Nat} {b:(List bH)} {a5:Option Addr} {c6:Nat} {R:(aK × (List bH))} (hm:fX rec_ a b=some R) (d:aG G K (box b1 224 [zS a2 a.length c3,zS a5 b.length c6]::L) w) (j:G.lo=0) (c:Hp.le Kf K) (k:aX K a2 c3 a) (e:aX Kf a5 c6 b):
  Calls prog 210 ([zP (some ⟨b1,0,none⟩)]:List Value).toArray w (cJ fun v w'=>∃ g h,v=str R.1/\aX Kf g h R.2/\aG G K (box b1 224 [zS a2 a.length c3,zS g R.2.length h]::L) w'):=by
 refine aN func210 rfl (by kernel_rfl) (by show (1:Nat)<=17;decide) ?_;unfold fX at hm
 refine aL (aI (v:=str ([]:aK)) (aM (aH (aL (aO (v:=zP (some ⟨b1,0,none⟩)) (aC (vT rfl) (aC (bG (t':=1) vZ rfl rfl) (aC (cX yL d (i:=0) rfl rfl rfl) ?_))))))));obtain ⟨u,n,hm⟩:=aB hm
 refine aC (cK lO rfl (e.mono c) rfl rfl rfl n) ?_;obtain ⟨x,o,p⟩:=aX.el (sz:=4) rfl e n
 obtain ⟨y,z,rfl,J⟩:=p
 refine aC (cB (k':=(0:Int).toNat * 4+0) oQ rfl (o.mono c) rfl) (aC (bY (t:=0) gH d (o.mono c) rfl rfl) (aC (dP rfl rfl) (aM ?_)))
 rcases aJ hm with ⟨l,hm⟩|⟨l,hm⟩
 ·refine aR l rfl (aL (aO (v:=zP (some ⟨b1,0,none⟩)) ?_));obtain ⟨V,q,hm⟩:=aB hm
  exact aW (vs:=[zP (some ⟨b1,0,none⟩)]) call168 rfl (m (Kf:=Kf) q d j c k e) aF
 ·refine aP l rfl (aT (aE (aL (aO (v:=zP (some ⟨b1,0,none⟩)) ?_))));obtain ⟨Z,r,hm⟩:=aB hm
  exact aW (vs:=[zP (some ⟨b1,0,none⟩)]) call168 rfl (m (Kf:=Kf) r d j c k e) aF
theorem uD {rec_:(List Definition)->(List bH)->Option (aK × (List bH))} (u:∀ {G:kE} {K:Hp} {L:List eV} {w:World} {Kf:Hp} {b1:Nat} {b:(List Definition)} {a2:Option Addr} {c3:Nat} {d:(List bH)} {a5:Option Addr} {c6:Nat} {R:(aK × (List bH))} (hm:rec_ b d=some R) (x:aG G K (box b1 224 [zS a2 b.length c3,zS a5 d.length c6]::L) w) (h:G.lo=0) (c:Hp.le Kf K) (k:aX K a2 c3 b) (l:aX Kf a5 c6 d),
  Calls prog 168 ([zP (some ⟨b1,0,none⟩)]:List Value).toArray w (cJ fun v w'=>∃ m n,v=str R.1/\aX Kf m n R.2/\aG G K (box b1 224 [zS a2 b.length c3,zS m R.2.length n]::L) w'))
  {G:kE} {K:Hp} {L:List eV} {w:World} {Kf:Hp} {b1:Nat} {b:(List Definition)} {a2:Option Addr} {c3:Nat} {d:(List bH)} {a5:Option Addr} {c6:Nat} {R:(aK × (List bH))} (hm:fG rec_ b d=some R) (x:aG G K (box b1 224 [zS a2 b.length c3,zS a5 d.length c6]::L) w) (h:G.lo=0) (c:Hp.le Kf K) (k:aX K a2 c3 b) (l:aX Kf a5 c6 d):
  Calls prog 168 ([zP (some ⟨b1,0,none⟩)]:List Value).toArray w (cJ fun v w'=>∃ m n,v=str R.1/\aX Kf m n R.2/\aG G K (box b1 224 [zS a2 b.length c3,zS m R.2.length n]::L) w'):=by
 let y:=[zP (some ⟨b1,0,none⟩)]
 refine aN func168 rfl (by kernel_rfl) (by show (1:Nat)<=80;decide) ?_;unfold fG at hm
 refine aL (aI (v:=str ([]:aK)) (aM (aL (aO (v:=zP (some ⟨b1,0,none⟩)) (aC (vT rfl) (aC (bG (t':=1) vZ rfl rfl) (aC (cX yL x (i:=0) rfl rfl rfl) ?_)))))));obtain ⟨a,q9,hm⟩:=aB hm
 refine aC (cK lO rfl (l.mono c) rfl rfl rfl q9) ?_;obtain ⟨f4,b7,b8⟩:=aX.el (sz:=4) rfl l q9
 obtain ⟨e,g,rfl,J⟩:=b8
 refine aC (dQ (t:=0) (vs:=[i64 a.Kind,i64 a.Number,str a.Name,zS e a.Arguments.length g]) yM x (b7.mono c) rfl rfl rfl) (dV (vs:=[i64 0,i64 0,str ([]:aK),zS none 0 0]) zeroValue206 x rfl (fun z f5 b9=>(eW (i:=0) (ns:=[i64 a.Kind,i64 a.Number,str a.Name,zS e a.Arguments.length g]) (us:=[i64 a.Kind,i64 a.Number,str a.Name,zS e a.Arguments.length g]) sizeOf206 b9 rfl rfl rfl rfl rfl (jY rfl) rfl rfl (fun c0 (a4:aG G K (box z 206 [i64 a.Kind,i64 a.Number,str a.Name,zS e a.Arguments.length g]::box b1 224 [zS a2 b.length c3,zS a5 d.length c6]::L) c0)=>(aM (aL (aO (v:=zP (some ⟨b1,0,none⟩)) (aO (v:=zP (some ⟨b1,0,none⟩)) (aC (vT rfl) (aC (bG (t':=1) vZ rfl rfl) (aC (cX yL a4 (i:=1) rfl rfl rfl) ?_)))))))))))
 obtain ⟨o,a6,hm⟩:=aB hm
 obtain ⟨p,q,a7⟩:=Cut.ex 4 a5 c6 1
 have V:=aX.cut' l a6 a7
 refine aC (aMU lO l.room a7 rfl rfl rfl a6) (aC (vT rfl) (aC (bG (t':=1) vZ rfl rfl) (eW (i:=1) (ns:=[zS p o.length q]) (us:=[zS a2 b.length c3,zS p o.length q]) sizeOf149 a4 rfl rfl rfl rfl rfl (jY rfl) rfl rfl (fun a8 (j:aG G K (box z 206 [i64 a.Kind,i64 a.Number,str a.Name,zS e a.Arguments.length g]::box b1 224 [zS a2 b.length c3,zS p o.length q]::L) a8)=>(aM (aH (aL (aC (bG (t':=0) oQ rfl rfl) (aC (cX gH j (i:=0) rfl rfl rfl) (aM (bJ (aL (aC (dP rfl rfl) (aI (v:=zB (a.Kind == 1)) (aM ?_)))))))))))))))
 rcases aJ hm with ⟨Z,hm⟩|⟨Z,hm⟩
 ·refine aR Z rfl (aH ?_);obtain ⟨c1,a0,a9,b0,f6⟩:=aG.lendBp j .head
  refine lQ (C:=fun w'=>∃ L',aG G c1 L' w') [(0,0),(1,0),(2,0),(3,0),(7,0),(4,1),(5,0),(6,0),(8,1),(9,0),(10,0)] Tryz_mixed (by kernel_rfl) (fun _ hg=>⟨_,aG.mono b0 hg⟩) (fun f7 c2=>?_)
  have r:=aG.mono b0 c2
  refine dN rfl (fun _ _=>bG (t':=2) aJN rfl rfl) (dN rfl (fun _ ⟨_,r⟩=>bY (t:=2) nV r a9 rfl rfl) (dN rfl (fun _ _=>bG (t':=3) oR rfl rfl) (dN rfl (fun _ ⟨_,r⟩=>bY (t:=3) aAW r a9 rfl rfl) (dN rfl (fun _ _=>aZ (v:=zP (some ⟨b1,0,none⟩)) rfl) (vV rfl ?_)))));obtain ⟨f8,c4,hm⟩:=aB hm
  refine aW (vs:=[zS e a.Arguments.length g]) call209 rfl (aAq c4 r h (J.mono (zL c a0))) ?_
  rintro _ f9 ⟨rfl,b2⟩
  refine bR (aE ⟨⟨_,b2⟩,?_⟩)
  obtain ⟨g0,c5,hm⟩:=aB hm
  refine dN rfl (fun _ _=>eA rfl rfl c5) ?_;obtain ⟨g1,c7,hm⟩:=aB hm
  refine dN rfl (fun _ _=>eA rfl rfl c7) (vV rfl ?_);obtain ⟨g2,c8,hm⟩:=aB hm
  exact aW (vs:=y) call210 rfl (jX u (Kf:=Kf) c8 b2 h (zL c a0) (k.mono a0) V) aF
 ·refine aP Z rfl (aL (aC (dP rfl rfl) (aI (v:=zB (a.Kind == 2)) (aM ?_))))
  rcases aJ hm with ⟨a1,hm⟩|⟨a1,hm⟩
  ·refine aR a1 rfl (aL (aO (v:=zP (some ⟨b1,0,none⟩)) ?_))
   have c9:aG G K (box b1 224 [zS a2 b.length c3,zS p o.length q]::box z 206 [i64 a.Kind,i64 a.Number,str a.Name,zS e a.Arguments.length g]::L) a8:=(aG.arr 2 [1,0] j rfl)
   obtain ⟨b3,d0,hm⟩:=aB hm
   refine aW (vs:=y) call210 rfl (jX u (Kf:=Kf) d0 c9 h c k V) ?_
   rintro _ g3 ⟨g4,g5,rfl,d1,d2⟩
   refine aI (v:=str b3.1) (aM (aL (aO (v:=str b3.1) ?_)));obtain ⟨g6,d3,hm⟩:=aB hm
   refine aC (eA rfl rfl d3) (aO (v:=zP (some ⟨b1,0,none⟩)) ?_);obtain ⟨g7,d4,hm⟩:=aB hm
   exact aW (vs:=y) call168 rfl (u (Kf:=Kf) d4 d2 h c k d1) aF
  ·refine aP a1 rfl (aL (aC (dP rfl rfl) (aI (v:=zB (a.Kind == 3)) (aM ?_))))
   rcases aJ hm with ⟨b4,hm⟩|⟨b4,hm⟩
   ·refine aR b4 rfl (aL (aC (bG (t':=3) oR rfl rfl) (aC (cX aAW j (i:=0) rfl rfl rfl) ?_)));obtain ⟨d5,b5,hm⟩:=aB hm
    refine aC (cK mT rfl (J.mono c) rfl rfl rfl b5) ?_;obtain ⟨g8,d6,d7⟩:=aX.el (sz:=1) rfl J b5
    obtain ⟨d8,d9,rfl,e0⟩:=d7
    refine aC (bY (t:=0) aIS j (d6.mono c) rfl rfl) ?_;obtain ⟨g9,e1,hm⟩:=aB hm
    refine aW (vs:=[zS d8 d5.length d9]) call211 rfl (aHe e1 j (e0.mono c)) ?_
    rintro _ h0 ⟨e2,e3,rfl,b6,e4,e5⟩
    obtain ⟨h1,e6,hm⟩:=aB hm
    refine aW (vs:=[cD e3 0]) call212 rfl (zO e6 e5 e4) ?_
    rintro _ e7 ⟨rfl,e9⟩
    obtain ⟨h2,f0,hm⟩:=aB hm
    refine aC (eA rfl rfl f0) ?_;obtain ⟨h3,f1,hm⟩:=aB hm
    refine aC (eA rfl rfl f1) (aO (v:=zP (some ⟨b1,0,none⟩)) ?_)
    have f2:aG G e2 (box b1 224 [zS a2 b.length c3,zS p o.length q]::box z 206 [i64 a.Kind,i64 a.Number,str a.Name,zS e a.Arguments.length g]::L) e7:=(aG.arr 2 [1,0] e9 rfl)
    obtain ⟨h5,f3,hm⟩:=aB hm
    exact aW (vs:=y) call210 rfl (jX u (Kf:=Kf) f3 f2 h (zL c b6) (k.mono b6) V) aF
   ·exact aF
theorem uE (n:Nat):∀ {G:kE} {K:Hp} {L:List eV} {w:World} {Kf:Hp} {b1:Nat} {a:(List Definition)} {a2:Option Addr} {c3:Nat} {b:(List bH)} {a5:Option Addr} {c6:Nat} {R:(aK × (List bH))} (hm:eI n a b=some R) (c:aG G K (box b1 224 [zS a2 a.length c3,zS a5 b.length c6]::L) w) (d:G.lo=0) (e:Hp.le Kf K) (g:aX K a2 c3 a) (h:aX Kf a5 c6 b),
  Calls prog 168 ([zP (some ⟨b1,0,none⟩)]:List Value).toArray w (cJ fun v w'=>∃ i j,v=str R.1/\aX Kf i j R.2/\aG G K (box b1 224 [zS a2 a.length c3,zS i R.2.length j]::L) w'):=by
 induction n with
 |zero=>
  intro G K L w Kf b1 a a2 c3 b a5 c6 R hm c d e g h
  unfold eI at hm
  cases hm
 |succ n ih=>
  intro G K L w Kf b1 a a2 c3 b a5 c6 R hm c d e g h
  exact uD (rec_:=eI n) (fun hm c d e g h=>ih hm c d e g h) hm c d e g h
theorem aFz {x0_:(List Definition)} {x1_:(List bH)} {R:(aK × (List bH))} (hm:xJ x0_ x1_=some R) (hs:aG G K (box b1 224 [zS a2 x0_.length c3,zS a5 x1_.length c6]::L) w) (hG:G.lo=0) (hKf:Hp.le Kf K) (h4:aX K a2 c3 x0_) (h7:aX Kf a5 c6 x1_):
  Calls prog 168 ([zP (some ⟨b1,0,none⟩)]:List Value).toArray w (cJ fun v w'=>∃ ra0 rc0,v=str R.1/\aX Kf ra0 rc0 R.2/\aG G K (box b1 224 [zS a2 x0_.length c3,zS ra0 R.2.length rc0]::L) w'):=uE 100000 hm hs hG hKf h4 h7
theorem aGj {a:(List Definition)} {d:Definition} {R:aK} (hm:nI a d=some R) (g:aG G K (L) w) (m:G.lo=0) (n:aX K a1 c2 a) (o:aX K a4 c5 d.Body):
  Calls prog 118 ([zS a1 a.length c2,zA #[str d.Name,i64 d.Parameters,zS a4 d.Body.length c5]]:List Value).toArray w (cJ fun v w'=>v=str R/\aG G K (L) w'):=by
 let b:=[zS a1 a.length c2,zS a4 d.Body.length c5]
 refine aN func118 rfl (by kernel_rfl) (by show (2:Nat)<=23;decide) ?_;unfold nI at hm
 refine aL (eO (v:=zA #[str d.Name,i64 d.Parameters,zS a4 d.Body.length c5]) (vs:=[str d.Name,i64 d.Parameters,zS a4 d.Body.length c5]) g rfl rfl (fun p q c=>(aI (v:=str ([]:aK)) (aM (aL (aO (v:=zS a1 a.length c2) (aC (bG (t':=2) aCb rfl rfl) (aC (cX yL c (i:=0) rfl rfl rfl) (aC (aDe (vs:=[(0,zS a1 a.length c2),(1,zS a4 d.Body.length c5)]) (cs:=b) bs_224 rfl (by kernel_rfl)) (eO (v:=zA #[zS a1 a.length c2,zS a4 d.Body.length c5]) (vs:=b) c rfl rfl (fun h r j=>(aI (v:=zP (some ⟨h,0,none⟩)) (aM (aH ?_))))))))))))))
 obtain ⟨k,t,u,e,x⟩:=aG.lendBp j zt1
 refine lQ (C:=fun w'=>∃ L',aG G k L' w') [(0,0),(1,0),(2,0),(3,0),(4,0),(5,0),(9,0),(6,1),(7,0),(8,0),(10,1),(11,0),(12,0)] Tryz_mixed (by kernel_rfl) (fun _ hg=>⟨_,aG.mono e hg⟩) (fun y l=>?_)
 have z:=aG.mono e l
 exact aF
theorem aId {a:bM} {R:(List aK)} (hm:rE a=some R) (hs:aG G K (L) w) (hG:G.lo=0) (h3:aX K a1 c2 a.Definitions) (h6:aX K a4 c5 a.Components) (h9:aX K a7 c8 a.Meetings) (d7:aX K a10 c11 a.Allowed) (h0:aX K a13 c14 a.Hidden):
  Calls prog 58 ([zA #[zS a1 a.Definitions.length c2,zS a4 a.Components.length c5,zS a7 a.Meetings.length c8,zS a10 a.Allowed.length c11,zS a13 a.Hidden.length c14]]:List Value).toArray w (cJ fun v w'=>∃ b0 b1,v=zS b0 R.length b1/\aG G K (aV 9 K b0 b1 R::L) w'):=by
 let b:=[zS a1 a.Definitions.length c2,zS a4 a.Components.length c5,zS a7 a.Meetings.length c8,zS a10 a.Allowed.length c11,zS a13 a.Hidden.length c14]
 refine aN func58 rfl (by kernel_rfl) (by show (1:Nat)<=108;decide) ?_;unfold rE at hm
 refine aL (eO (v:=zA #[zS a1 a.Definitions.length c2,zS a4 a.Components.length c5,zS a7 a.Meetings.length c8,zS a10 a.Allowed.length c11,zS a13 a.Hidden.length c14]) (vs:=b) hs rfl rfl (fun c h1 b2=>(aI (v:=zS none 0 0) (aM (aL (aI (v:=zS none 0 0) (aM (aH (aL (aC (bG (t':=0) aHo rfl rfl) (aC (cX aPs b2 (i:=0) rfl rfl rfl) (aC (aU (len:=a.Definitions.length) qN rfl) (aO (v:=i64 0) (aM (aQ [1] (fun f w=>∃ d g j,qE a d=some R/\f 3=zS g d.length j/\aG G K (aV 9 K g j d::box c 48 b::L) w) ?_ ?_)))))))))))))))
 ·rintro f h2 ⟨d,g,j,hm,d8,b3⟩
  unfold qE at hm
  refine aE (aL (aI (v:=zS none 0 0) (aM (aH (aL (aC (bG (t':=1) aDg rfl rfl) (aC (cX aNa b3 (i:=1) rfl rfl rfl) (aC (aU (len:=a.Components.length) xZ rfl) (aO (v:=i64 0) (aM (aQ [1,3] (fun f w=>∃ k l m,qC a d k=some R/\f 6=zS l k.length m/\aG G K (aV 9 K l m k::aV 9 K g j d::box c 48 b::L) w) ?_ ?_)))))))))))
  ·rintro f h4 ⟨k,l,m,hm,d9,e0⟩
   unfold qC at hm
   refine aE (aL (bO d8 (bO d9 ?_)));obtain ⟨h5,h7,e1,e2,e3⟩:=aG.lendSp e0 (Hp.le_refl _) .head
   obtain ⟨h8,e4,hm⟩:=aB hm
   refine aW (vs:=[zS l k.length m,str ([32,124,32]:aK)]) call16 rfl (aNq e2 hG e1 e4) ?_
   rintro _ i0 ⟨rfl,e5⟩
   have e6:=e3 _ _ e5
   obtain ⟨q,e7,hm⟩:=aB hm
   refine aC (eA rfl rfl e7) (dH (Kt:=K) (xs:=([q]:List aK)) (cs:=[str q]) (vs:=[(0,str q)]) cU pT rfl rfl e6 rfl (by kernel_rfl) rfl rfl rfl ⟨rfl,trivial⟩ (fun e8 e9 (f0:aG G K (aV 9 K e8 1 ([q]:List aK)::aV 9 K l m k::aV 9 K g j d::box c 48 b::L) e9)=>?_));obtain ⟨b4,f1,hm⟩:=aB hm
   refine jT (i:=1) cU underlying39 pT rfl rfl f0 rfl (Hp.le_refl _) (Hp.le_refl _) f1 rfl rfl rfl rfl (fun _ h=>h) (fun b5 b6 f2 (f3:aG G K (aV 9 K l m k::aV 9 K b5 b6 b4::box c 48 b::L) f2)=>(aI (v:=zS b5 b4.length b6) (aM (aH (aL (aC (bG (t':=2) aQe rfl rfl) (aC (cX sc_46 f3 (i:=2) rfl rfl rfl) (aC (aU (len:=a.Meetings.length) vX rfl) (aO (v:=i64 0) (aM (aQ [1] (fun f w=>∃ r z J,qA a r=some R/\f 3=zS z r.length J/\aG G K (aV 9 K z J r::box c 48 b::L) w) ?_ ?_)))))))))))
   ·rintro f i1 ⟨r,z,J,hm,f4,V⟩
    unfold qA at hm
    refine aE (gC [1] (fun f w=>∃ u Z a0,jU a u=some R/\f 3=zS Z u.length a0/\aG G K (aV 9 K Z a0 u::box c 48 b::L) w) ?_ ?_)
    ·rintro f i2 ⟨u,Z,a0,hm,i3,i4⟩
     unfold jU at hm
     exact gC [] (fun f w=>∃ a2 b7 b8,pZ a2=some R/\f 3=zS b7 a2.length b8/\aG G K (aV 9 K b7 b8 a2::L) w) aF aF
    refine aL (aC (bG (t':=3) aQf rfl rfl) (aC (cX aMW V (i:=1) rfl rfl rfl) (aC (aU (len:=a.Allowed.length) cU rfl) (aC (aLK rfl rfl) (aM ?_)))))
    rcases aJ hm with ⟨b9,hm⟩|⟨b9,hm⟩
    ·refine aR b9 rfl (bL (bO f4 (aC (bG (t':=3) aQf rfl rfl) (aC (cX aMW V (i:=1) rfl rfl rfl) ?_))));obtain ⟨i5,f5,hm⟩:=aB hm
     exact aW (vs:=[zS a10 a.Allowed.length c11,str ([32]:aK)]) call16 rfl (aNq V hG d7 f5) aF
    ·exact aF
   obtain ⟨i6,f6,ho⟩:=aB hm
   exact cA [1,64,65] f6 (fun c0 f7 f w=>∃ c1 c3,f 3=zS c1 c0.length c3/\f 66=i64 f7/\aG G K (aV 9 K c1 c3 c0::box c 48 b::L) w) aF aF
  have i7:=aG.nil (α:=aK) b3 9 K
  obtain ⟨i8,f8,ho⟩:=aB hm
  refine cA [1,3,28,29] f8 (fun n a3 f w=>∃ o p,f 6=zS o n.length p/\f 30=i64 a3/\aG G K (aV 9 K o p n::aV 9 K g j d::box c 48 b::L) w) aF ?_
  ·rintro n a3 f9 f i9 hm hr ⟨o,p,j0,c4,c6⟩
   unfold mE at hm
   refine aL (aC (dJ c4 rfl) (aM (aH ?_)))
   rcases aJ hm with ⟨c7,hm⟩|⟨c7,hm⟩
   ·refine aR c7 rfl (aT (aE (aH (bJ (aL ?_)))));obtain ⟨e,c9,hm⟩:=aB hm
    refine aC (cK xZ rfl h6 rfl rfl c4 c9) ?_;obtain ⟨j1,g0,g1⟩:=aX.el (sz:=2) rfl h6 c9
    obtain ⟨x,y,rfl,j2⟩:=g1
    refine aC (dQ (t:=0) (vs:=[i64 e.Definition,zS x e.Values.length y]) aGx c6 g0 rfl rfl rfl) (dV (vs:=[i64 0,zS none 0 0]) zeroValue155 c6 rfl (fun g2 j3 g3=>(eW (i:=0) (ns:=[i64 e.Definition,zS x e.Values.length y]) (us:=[i64 e.Definition,zS x e.Values.length y]) sizeOf155 g3 rfl rfl rfl rfl rfl (jY rfl) rfl rfl (fun g4 (a5:aG G K (box g2 155 [i64 e.Definition,zS x e.Values.length y]::aV 9 K o p n::aV 9 K g j d::box c 48 b::L) g4)=>(aM (aL (aC (bG (t':=0) aHo rfl rfl) (aC (cX aPs a5 (i:=3) rfl rfl rfl) (aC (bG (t':=0) aNe rfl rfl) (aC (cX gH a5 (i:=0) rfl rfl rfl) ?_))))))))))
    obtain ⟨g5,d0,hm⟩:=aB hm
    refine aC (cK qN rfl h3 rfl rfl rfl d0) ?_;obtain ⟨j4,d1,g6⟩:=aX.el (sz:=3) rfl h3 d0
    obtain ⟨j5,j6,rfl,j7⟩:=g6
    exact aC (cB (k':=e.Definition.toNat * 3+0) aEe rfl d1 rfl) (aC (bY (t:=0) nV a5 d1 rfl rfl) (aI (v:=str g5.Name) (aM (gC [1,3,6,28,29,30] (fun f w=>∃ d2,qD n a3 d2=some f9/\f 9=str d2/\aG G K (aV 9 K o p n::aV 9 K g j d::box c 48 b::L) w) aF aF))))
   ·exact aF
 have j8:=aG.nil (α:=aK) b2 9 K
 obtain ⟨j9,g7,ho⟩:=aB hm
 exact cA [1,13,14] g7 (fun d3 g8 f w=>∃ d4 d5,f 3=zS d4 d3.length d5/\f 15=i64 g8/\aG G K (aV 9 K d4 d5 d3::box c 48 b::L) w) aF aF
theorem aKK {a:bM} {R:aK} (hm:sE a=some R) (b:aG G K (L) w) (c:G.lo=0) (d:aX K a1 c2 a.Definitions) (e:aX K a4 c5 a.Components) (g:aX K a7 c8 a.Meetings) (h:aX K a10 c11 a.Allowed) (i:aX K a13 c14 a.Hidden):
  Calls prog 26 ([zA #[zS a1 a.Definitions.length c2,zS a4 a.Components.length c5,zS a7 a.Meetings.length c8,zS a10 a.Allowed.length c11,zS a13 a.Hidden.length c14]]:List Value).toArray w (cJ fun v w'=>v=str R/\aG G K (L) w'):=by
 exact aF
theorem oJ {b c:(List Edge)} {R:Bool} (hm:eE b c=some R) (J:aG G K (L) w) (h:aX K a1 c2 b) (i:aX K a4 c5 c):
  Calls prog 94 ([zS a1 b.length c2,zS a4 c.length c5]:List Value).toArray w (cJ fun v w'=>v=zB R/\aG G K (L) w'):=by
 refine aN func94 rfl (by kernel_rfl) (by show (2:Nat)<=26;decide) ?_;unfold eE at hm
 refine aL (aI (v:=zB false) (aM (aH (aL (aO (v:=zS a1 b.length c2) (aC (aU (len:=b.length) vG rfl) (aO (v:=zS a4 c.length c5) (aC (aU (len:=c.length) vG rfl) (aC (sK rfl rfl) (aM ?_))))))))))
 rcases aJ hm with ⟨j,hm⟩|⟨j,hm⟩
 ·exact aF
 ·refine aP j rfl (aT (aE (aH (aL (aO (v:=zS a1 b.length c2) (aC (aU (len:=b.length) vG rfl) (aO (v:=i64 0) (aM (aQ [] (fun f w=>iY=some R/\aG G K (L) w) aF ?_)))))))));obtain ⟨V,o,ho⟩:=aB hm
  refine bS [0,1,12] o (fun d f w=>f 13=i64 d/\aG G K (L) w) aF ?_
  ·rintro d Z f a0 hm hr ⟨k,a⟩
   unfold iZ at hm
   refine aL (aC (dJ k rfl) (aM (aH ?_)))
   rcases aJ hm with ⟨l,hm⟩|⟨l,hm⟩
   ·refine aR l rfl (aT (aE (aH (bJ (aL (bO k (aI (v:=i64 d) (aM (aH (fH (C:=fun w'=>aG G K (L) w') Tryz_mixed (by kernel_rfl) (aG.mono a (eF.drew _)) (aY (fun _ a=>aZ (v:=zS a1 b.length c2) rfl) (aY (fun _ a=>aZ (v:=i64 d) rfl) ?_))))))))))));obtain ⟨e,m,hm⟩:=aB hm
    refine aY (fun _ a=>cK vG rfl h rfl rfl rfl m) ?_;obtain ⟨a2,p,q⟩:=aX.el (sz:=3) rfl h m
    cases q
    refine aY (fun _ a=>dQ (t:=0) (vs:=[i64 e.F,i64 e.B,i64 e.To]) aLd a p rfl rfl rfl) (aY (fun _ a=>aZ (v:=zS a4 c.length c5) rfl) (aY (fun _ a=>aZ (v:=i64 d) rfl) ?_));obtain ⟨g,n,hm⟩:=aB hm
    refine aY (fun _ a=>cK vG rfl i rfl rfl rfl n) ?_;obtain ⟨a3,r,u⟩:=aX.el (sz:=3) rfl i n
    cases u
    refine aY (fun _ a=>dQ (t:=0) (vs:=[i64 g.F,i64 g.B,i64 g.To]) aLd a r rfl rfl rfl) (aY (fun _ a=>R_neqG (eq_106 (x:=e) (y:=g)) rfl rfl) (uT (fun a5 a6=>(aE ?_))))
    rcases aJ hm with ⟨z,hm⟩|⟨z,hm⟩
    ·exact aF
    ·exact aF
   ·exact aF
theorem sQ {a b:(List aK)} {R:Bool} (hm:dI a b=some R) (g:aG G K (L) w) (h:aX K a1 c2 a) (i:aX K a4 c5 b):
  Calls prog 93 ([zS a1 a.length c2,zS a4 b.length c5]:List Value).toArray w (cJ fun v w'=>v=zB R/\aG G K (L) w'):=by
 refine aN func93 rfl (by kernel_rfl) (by show (2:Nat)<=26;decide) ?_;unfold dI at hm
 refine aL (aI (v:=zB false) (aM (aH (aL (aO (v:=zS a1 a.length c2) (aC (aU (len:=a.length) cU rfl) (aO (v:=zS a4 b.length c5) (aC (aU (len:=b.length) cU rfl) (aC (sK rfl rfl) (aM ?_))))))))))
 rcases aJ hm with ⟨c,hm⟩|⟨c,hm⟩
 ·exact aF
 ·refine aP c rfl (aT (aE (aH (aL (aO (v:=zS a1 a.length c2) (aC (aU (len:=a.length) cU rfl) (aO (v:=i64 0) (aM (aQ [] (fun f w=>lI=some R/\aG G K (L) w) aF ?_)))))))));obtain ⟨j,d,ho⟩:=aB hm
  exact bS [0,1,12] d (fun e f w=>f 13=i64 e/\aG G K (L) w) aF aF
theorem aHf {a b:gM} {R:Bool} (hm:aEy a b=some R) (d:aG G K (L) w) (g:aX K a1 c2 a.L) (h:aX K a4 c5 a.E) (i:aX K a7 c8 b.L) (j:aX K a10 c11 b.E):
  Calls prog 47 ([zA (zCa a a1 c2 a4 c5),zA (zCa b a7 c8 a10 c11)]:List Value).toArray w (cJ fun v w'=>v=zB R/\aG G K (L) w'):=by
 refine aN func47 rfl (by kernel_rfl) (by show (2:Nat)<=31;decide) ?_;unfold aEy at hm
 exact aL (eO (v:=zA (zCa a a1 c2 a4 c5)) (vs:=(zC a a1 c2 a4 c5)) d rfl rfl (fun k l e=>(eO (v:=zA (zCa b a7 c8 a10 c11)) (vs:=(zC b a7 c8 a10 c11)) e rfl rfl (fun m n o=>(aI (v:=zB false) (aM (aH (bB [] (fun f w=>∃ c,sF c=some R/\f 4=zB c/\aG G K (L) w) aF aF))))))))
theorem iK {b c:(List aS)} {R:Bool} (hm:gF b c=some R) (J:aG G K (L) w) (h:aX K a1 c2 b) (i:aX K a4 c5 c):
  Calls prog 184 ([zS a1 b.length c2,zS a4 c.length c5]:List Value).toArray w (cJ fun v w'=>v=zB R/\aG G K (L) w'):=by
 refine aN func184 rfl (by kernel_rfl) (by show (2:Nat)<=26;decide) ?_;unfold gF at hm
 refine aL (aI (v:=zB false) (aM (aH (aL (aO (v:=zS a1 b.length c2) (aC (aU (len:=b.length) nW rfl) (aO (v:=zS a4 c.length c5) (aC (aU (len:=c.length) nW rfl) (aC (sK rfl rfl) (aM ?_))))))))))
 rcases aJ hm with ⟨j,hm⟩|⟨j,hm⟩
 ·exact aF
 ·refine aP j rfl (aT (aE (aH (aL (aO (v:=zS a1 b.length c2) (aC (aU (len:=b.length) nW rfl) (aO (v:=i64 0) (aM (aQ [] (fun f w=>jA=some R/\aG G K (L) w) aF ?_)))))))));obtain ⟨V,o,ho⟩:=aB hm
  refine bS [0,1,12] o (fun d f w=>f 13=i64 d/\aG G K (L) w) aF ?_
  ·rintro d Z f a0 hm hr ⟨k,a⟩
   unfold jB at hm
   refine aL (aC (dJ k rfl) (aM (aH ?_)))
   rcases aJ hm with ⟨l,hm⟩|⟨l,hm⟩
   ·refine aR l rfl (aT (aE (aH (bJ (aL (bO k (aI (v:=i64 d) (aM (aH (fH (C:=fun w'=>aG G K (L) w') Tryz_mixed (by kernel_rfl) (aG.mono a (eF.drew _)) (aY (fun _ a=>aZ (v:=zS a1 b.length c2) rfl) (aY (fun _ a=>aZ (v:=i64 d) rfl) ?_))))))))))));obtain ⟨e,m,hm⟩:=aB hm
    refine aY (fun _ a=>cK nW rfl h rfl rfl rfl m) ?_;obtain ⟨a2,p,q⟩:=aX.el (sz:=2) rfl h m
    cases q
    refine aY (fun _ a=>dQ (t:=0) (vs:=[i64 e.Kind,i64 e.Value]) aIT a p rfl rfl rfl) (aY (fun _ a=>aZ (v:=zS a4 c.length c5) rfl) (aY (fun _ a=>aZ (v:=i64 d) rfl) ?_));obtain ⟨g,n,hm⟩:=aB hm
    refine aY (fun _ a=>cK nW rfl i rfl rfl rfl n) ?_;obtain ⟨a3,r,u⟩:=aX.el (sz:=2) rfl i n
    cases u
    refine aY (fun _ a=>dQ (t:=0) (vs:=[i64 g.Kind,i64 g.Value]) aIT a r rfl rfl rfl) (aY (fun _ a=>R_neqG (eq_242 (x:=e) (y:=g)) rfl rfl) (uT (fun a5 a6=>(aE ?_))))
    rcases aJ hm with ⟨z,hm⟩|⟨z,hm⟩
    ·exact aF
    ·exact aF
   ·exact aF
theorem fT {a b:(List (List aS))} {R:Bool} (hm:cM a b=some R) (hs:aG G K (L) w) (m:aX K a1 c2 a) (n:aX K a4 c5 b):
  Calls prog 183 ([zS a1 a.length c2,zS a4 b.length c5,Value.func (.func 184) #[] #[]]:List Value).toArray w (cJ fun v w'=>v=zB R/\aG G K (L) w'):=by
 refine aN func183 rfl (by kernel_rfl) (by show (3:Nat)<=32;decide) ?_;unfold cM at hm
 refine aL (aI (v:=zB false) (aM (aH (aL (aO (v:=zS a1 a.length c2) (aC (aU (len:=a.length) mT rfl) (aO (v:=zS a4 b.length c5) (aC (aU (len:=b.length) mT rfl) (aC (sK rfl rfl) (aM ?_))))))))))
 rcases aJ hm with ⟨o,hm⟩|⟨o,hm⟩
 ·exact aF
 ·refine aP o rfl (aT (aE (aH (aL (aO (v:=zS a1 a.length c2) (aC (aU (len:=a.length) mT rfl) (aO (v:=i64 0) (aM (aQ [] (fun f w=>dX=some R/\aG G K (L) w) aF ?_)))))))));obtain ⟨a3,u,ho⟩:=aB hm
  refine bS [1,2,15,16] u (fun c f w=>f 17=i64 c/\aG G K (L) w) aF ?_
  ·rintro c a5 f a6 hm hr ⟨k,l⟩
   unfold dY at hm
   refine aL (aC (dJ k rfl) (aM (aH ?_)))
   rcases aJ hm with ⟨p,hm⟩|⟨p,hm⟩
   ·refine aR p rfl (aT (aE (aH (bJ (aL (bO k ?_))))));obtain ⟨d,q,hm⟩:=aB hm
    refine aC (cK mT rfl m rfl rfl k q) ?_;obtain ⟨a7,x,y⟩:=aX.el (sz:=1) rfl m q
    obtain ⟨e,g,rfl,z⟩:=y
    refine aC (bY (t:=0) aIS l x rfl rfl) (aI (v:=i64 c) (aI (v:=zS e d.length g) (aM (aL (aO (v:=zS a4 b.length c5) (aO (v:=i64 c) ?_))))));obtain ⟨h,r,hm⟩:=aB hm
    refine aC (cK mT rfl n rfl rfl rfl r) ?_;obtain ⟨a8,J,V⟩:=aX.el (sz:=1) rfl n r
    obtain ⟨i,j,rfl,Z⟩:=V
    refine aC (bY (t:=0) aIS l J rfl rfl) (aI (v:=zS i h.length j) (aM (aL (aO (v:=Value.func (.func 184) #[] #[]) (aO (v:=zS e d.length g) (aO (v:=zS i h.length j) ?_))))));obtain ⟨a9,a0,hm⟩:=aB hm
    exact eP (vs:=[zS e d.length g,zS i h.length j]) (caps:=[]) (us:=[zS e d.length g,zS i h.length j]) rfl call184 rfl rfl (iK a0 l z Z) aF
   ·exact aF
theorem aGe {a b:bH} {R:Bool} (hm:aJb a b=some R) (d:aG G K (L) w) (g:aX K a1 c2 a.Arguments) (h:aX K a4 c5 b.Arguments):
  Calls prog 145 ([zA #[i64 a.Kind,i64 a.Number,str a.Name,zS a1 a.Arguments.length c2],zA #[i64 b.Kind,i64 b.Number,str b.Name,zS a4 b.Arguments.length c5]]:List Value).toArray w (cJ fun v w'=>v=zB R/\aG G K (L) w'):=by
 refine aN func145 rfl (by kernel_rfl) (by show (2:Nat)<=31;decide) ?_;unfold aJb at hm
 exact aL (eO (v:=zA #[i64 a.Kind,i64 a.Number,str a.Name,zS a1 a.Arguments.length c2]) (vs:=[i64 a.Kind,i64 a.Number,str a.Name,zS a1 a.Arguments.length c2]) d rfl rfl (fun i j e=>(eO (v:=zA #[i64 b.Kind,i64 b.Number,str b.Name,zS a4 b.Arguments.length c5]) (vs:=[i64 b.Kind,i64 b.Number,str b.Name,zS a4 b.Arguments.length c5]) e rfl rfl (fun k l m=>(aI (v:=zB false) (aM (aH (bB [] (fun f w=>∃ c,tU c=some R/\f 4=zB c/\aG G K (L) w) aF aF))))))))
theorem gS {e h:(List bH)} {R:Bool} (hm:dE e h=some R) (hs:aG G K (L) w) (m:aX K a1 c2 e) (n:aX K a4 c5 h):
  Calls prog 144 ([zS a1 e.length c2,zS a4 h.length c5,Value.func (.func 145) #[] #[]]:List Value).toArray w (cJ fun v w'=>v=zB R/\aG G K (L) w'):=by
 refine aN func144 rfl (by kernel_rfl) (by show (3:Nat)<=32;decide) ?_;unfold dE at hm
 refine aL (aI (v:=zB false) (aM (aH (aL (aO (v:=zS a1 e.length c2) (aC (aU (len:=e.length) lO rfl) (aO (v:=zS a4 h.length c5) (aC (aU (len:=h.length) lO rfl) (aC (sK rfl rfl) (aM ?_))))))))))
 rcases aJ hm with ⟨o,hm⟩|⟨o,hm⟩
 ·exact aF
 ·refine aP o rfl (aT (aE (aH (aL (aO (v:=zS a1 e.length c2) (aC (aU (len:=e.length) lO rfl) (aO (v:=i64 0) (aM (aQ [] (fun f w=>eR=some R/\aG G K (L) w) aF ?_)))))))));obtain ⟨b2,z,ho⟩:=aB hm
  refine bS [1,2,15,16] z (fun j f w=>f 17=i64 j/\aG G K (L) w) aF ?_
  ·rintro j b3 f b4 hm hr ⟨k,p⟩
   unfold eS at hm
   refine aL (aC (dJ k rfl) (aM (aH ?_)))
   rcases aJ hm with ⟨q,hm⟩|⟨q,hm⟩
   ·refine aR q rfl (aT (aE (aH (bJ (aL (bO k ?_))))));obtain ⟨a,r,hm⟩:=aB hm
    refine aC (cK lO rfl m rfl rfl k r) ?_;obtain ⟨b5,J,V⟩:=aX.el (sz:=4) rfl m r
    obtain ⟨c,d,rfl,Z⟩:=V
    refine aC (dQ (t:=0) (vs:=[i64 a.Kind,i64 a.Number,str a.Name,zS c a.Arguments.length d]) yM p J rfl rfl rfl) (dV (vs:=[i64 0,i64 0,str ([]:aK),zS none 0 0]) zeroValue206 p rfl (fun u b6 a0=>(aI (v:=i64 j) (eW (i:=0) (ns:=[i64 a.Kind,i64 a.Number,str a.Name,zS c a.Arguments.length d]) (us:=[i64 a.Kind,i64 a.Number,str a.Name,zS c a.Arguments.length d]) sizeOf206 a0 rfl rfl rfl rfl rfl (jY rfl) rfl rfl (fun a2 (x:aG G K (box u 206 [i64 a.Kind,i64 a.Number,str a.Name,zS c a.Arguments.length d]::L) a2)=>(aM (aL (aO (v:=zS a4 h.length c5) (aO (v:=i64 j) ?_)))))))))
    obtain ⟨b,y,hm⟩:=aB hm
    refine aC (cK lO rfl n rfl rfl rfl y) ?_;obtain ⟨b7,a3,a5⟩:=aX.el (sz:=4) rfl n y
    obtain ⟨g,c48,rfl,a6⟩:=a5
    refine aC (dQ (t:=0) (vs:=[i64 b.Kind,i64 b.Number,str b.Name,zS g b.Arguments.length c48]) yM x a3 rfl rfl rfl) (dV (vs:=[i64 0,i64 0,str ([]:aK),zS none 0 0]) zeroValue206 x rfl (fun a7 b8 a8=>(eW (i:=0) (ns:=[i64 b.Kind,i64 b.Number,str b.Name,zS g b.Arguments.length c48]) (us:=[i64 b.Kind,i64 b.Number,str b.Name,zS g b.Arguments.length c48]) sizeOf206 a8 rfl rfl rfl rfl rfl (jY rfl) rfl rfl (fun a9 (l:aG G K (box a7 206 [i64 b.Kind,i64 b.Number,str b.Name,zS g b.Arguments.length c48]::box u 206 [i64 a.Kind,i64 a.Number,str a.Name,zS c a.Arguments.length d]::L) a9)=>(aM (aL (aO (v:=Value.func (.func 145) #[] #[]) (aC (jN (us:=[i64 a.Kind,i64 a.Number,str a.Name,zS c a.Arguments.length d]) yM l (i:=1) rfl rfl rfl rfl) (aC (jN (us:=[i64 b.Kind,i64 b.Number,str b.Name,zS g b.Arguments.length c48]) yM l (i:=0) rfl rfl rfl rfl) ?_)))))))))
    obtain ⟨b9,b0,hm⟩:=aB hm
    exact eP (vs:=[zA #[i64 a.Kind,i64 a.Number,str a.Name,zS c a.Arguments.length d],zA #[i64 b.Kind,i64 b.Number,str b.Name,zS g b.Arguments.length c48]]) (caps:=[]) (us:=[zA #[i64 a.Kind,i64 a.Number,str a.Name,zS c a.Arguments.length d],zA #[i64 b.Kind,i64 b.Number,str b.Name,zS g b.Arguments.length c48]]) rfl call145 rfl rfl (aGe b0 l Z a6) aF
   ·exact aF
theorem yF {a b:Definition} {R:Bool} (hm:zJ a b=some R) (d:aG G K (L) w) (g:aX K a1 c2 a.Body) (h:aX K a4 c5 b.Body):
  Calls prog 96 ([zA #[str a.Name,i64 a.Parameters,zS a1 a.Body.length c2],zA #[str b.Name,i64 b.Parameters,zS a4 b.Body.length c5]]:List Value).toArray w (cJ fun v w'=>v=zB R/\aG G K (L) w'):=by
 refine aN func96 rfl (by kernel_rfl) (by show (2:Nat)<=24;decide) ?_;unfold zJ at hm
 exact aL (eO (v:=zA #[str a.Name,i64 a.Parameters,zS a1 a.Body.length c2]) (vs:=[str a.Name,i64 a.Parameters,zS a1 a.Body.length c2]) d rfl rfl (fun i j e=>(eO (v:=zA #[str b.Name,i64 b.Parameters,zS a4 b.Body.length c5]) (vs:=[str b.Name,i64 b.Parameters,zS a4 b.Body.length c5]) e rfl rfl (fun k l m=>(aI (v:=zB false) (aM (aH (bB [] (fun f w=>∃ c,mO c=some R/\f 4=zB c/\aG G K (L) w) aF aF))))))))
theorem vD {a b:(List Int)} {R:Bool} (hm:jP a b=some R) (g:aG G K (L) w) (h:aX K a1 c2 a) (i:aX K a4 c5 b):
  Calls prog 146 ([zS a1 a.length c2,zS a4 b.length c5]:List Value).toArray w (cJ fun v w'=>v=zB R/\aG G K (L) w'):=by
 refine aN func146 rfl (by kernel_rfl) (by show (2:Nat)<=26;decide) ?_;unfold jP at hm
 refine aL (aI (v:=zB false) (aM (aH (aL (aO (v:=zS a1 a.length c2) (aC (aU (len:=a.length) dW rfl) (aO (v:=zS a4 b.length c5) (aC (aU (len:=b.length) dW rfl) (aC (sK rfl rfl) (aM ?_))))))))))
 rcases aJ hm with ⟨c,hm⟩|⟨c,hm⟩
 ·exact aF
 ·refine aP c rfl (aT (aE (aH (aL (aO (v:=zS a1 a.length c2) (aC (aU (len:=a.length) dW rfl) (aO (v:=i64 0) (aM (aQ [] (fun f w=>mF=some R/\aG G K (L) w) aF ?_)))))))));obtain ⟨j,d,ho⟩:=aB hm
  exact bS [0,1,12] d (fun e f w=>f 13=i64 e/\aG G K (L) w) aF aF
theorem aAR {a b:bA} {R:Bool} (hm:aAZ a b=some R) (d:aG G K (L) w) (g:aX K a1 c2 a.Values) (h:aX K a4 c5 b.Values):
  Calls prog 98 ([zA #[i64 a.Definition,zS a1 a.Values.length c2],zA #[i64 b.Definition,zS a4 b.Values.length c5]]:List Value).toArray w (cJ fun v w'=>v=zB R/\aG G K (L) w'):=by
 refine aN func98 rfl (by kernel_rfl) (by show (2:Nat)<=17;decide) ?_;unfold aAZ at hm
 exact aL (eO (v:=zA #[i64 a.Definition,zS a1 a.Values.length c2]) (vs:=[i64 a.Definition,zS a1 a.Values.length c2]) d rfl rfl (fun i j e=>(eO (v:=zA #[i64 b.Definition,zS a4 b.Values.length c5]) (vs:=[i64 b.Definition,zS a4 b.Values.length c5]) e rfl rfl (fun k l m=>(aI (v:=zB false) (aM (aH (bB [] (fun f w=>∃ c,vA c=some R/\f 4=zB c/\aG G K (L) w) aF aF))))))))
end Gv
