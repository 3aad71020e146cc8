/- Walks, printed by program. -/
import Derived.Test.YtoddhhghiolggaaGreatDoorJWk7
set_option linter.all false
namespace Gv
open Gv.Hp renaming le_refl→zR
open Go.Value renaming slice→zS,bool→zB,pointer→zP,agg→zA
open Go Go.Proofs Go.Proofs.Tryz
set_option maxRecDepth 20000
set_option maxHeartbeats 40000000
variable {G:kE} {K:Hp} {L:List eT} {w:World} {b1 c3 c8 c17 c2 c5:Nat} {a2 a4 a7 a10 a13 a16 a1:Option Addr}
theorem pX {at_:Int} {p:dF} {p':(List dF)} {p'':Definition} {k5 k11:Nat} {p_c1_:Definition} {k14:Nat} {R:(Int × (List dF))} (hm:nW at_ p p' p'' p_c1_=some R) (hs:aG G K (aT 248 K a2 c3 p'::box b1 244 [zS a2 p'.length c3]::L) w) (h6:eQ K a4 k5 [str p''.Name,i64 p''.Parameters,zS a7 p''.Body.length c8]) (h9:aY K a7 c8 p''.Body) (h12:eQ K a10 k11 [Value.func (.func 225) #[] #[zP (some ⟨b1,0,none⟩),cH a13 k14,cH a10 k11]]) (h15:eQ K a13 k14 [str p_c1_.Name,i64 p_c1_.Parameters,zS a16 p_c1_.Body.length c17]) (h18:aY K a16 c17 p_c1_.Body):
  Calls prog 225 ([i64 at_,zA #[i64 p.scope,zB p.behind],zP (some ⟨b1,0,none⟩),cH a4 k5,cH a10 k11]:List Value).toArray w (cK fun v w'=>∃ ra0 rc0,v=i64 R.1/\aG G K (aT 248 K ra0 rc0 R.2::box b1 244 [zS ra0 R.2.length rc0]::L) w'):=nH 100000 hm hs h6 h9 h12 h15 h18
theorem tK {d:Definition} {R:(List dF)} (hm:kB d=some R) (x:aG G K (L) w) (m:aY K a1 c2 d.Body):
  Calls prog 189 ([zA #[str d.Name,i64 d.Parameters,zS a1 d.Body.length c2]]:List Value).toArray w (cK fun v w'=>∃ n o,v=zS n R.length o/\aG G K (aT 248 K n o R::L) w'):=by
 let j:=[str d.Name,i64 d.Parameters,zS a1 d.Body.length c2]
 refine aM func189 rfl (by kernel_rfl) (by show (1:Nat)<=16;decide) ?_;unfold kB at hm
 refine aK (eR (v:=zA #[str d.Name,i64 d.Parameters,zS a1 d.Body.length c2]) (vs:=j) x rfl rfl (fun b w5 q=>(aH (v:=zS none 0 0) (aL (aK (aC (bI (t':=2) aEq rfl rfl) (aC (dH aDD q (i:=0) rfl rfl rfl) (aC (aV (len:=d.Body.length) rY rfl) ?_))))))));obtain ⟨a,y,hm⟩:=aB hm
 refine aHj (e:=(⟨0,false⟩:dF)) sl_244 ez_248 rfl rfl q rfl rfl rfl y rfl (fun g z (J:aG G K (aT 248 K g a.length a::box b 94 j::L) z)=>(eA (vs:=[zS none 0 0]) zeroValue244 J rfl (fun c b1 V=>(eY (i:=0) (ns:=[zS g a.length a.length]) (us:=[zS g a.length a.length]) sizeOf244 V rfl rfl rfl rfl rfl (kI rfl) rfl rfl (fun Z (a0:aG G K (box c 244 [zS g a.length a.length]::aT 248 K g a.length a::box b 94 j::L) Z)=>(aL (aK (eA (vs:=[Value.nilFunc]) zeroValue282 a0 rfl (fun h b2 a2=>(aL (aK (aC (xO (vs:=[zP (some ⟨c,0,none⟩),zP (some ⟨b,0,none⟩),zP (some ⟨h,0,none⟩)]) rfl) (eY (i:=0) (ns:=[Value.func (.func 225) #[] #[zP (some ⟨c,0,none⟩),zP (some ⟨b,0,none⟩),zP (some ⟨h,0,none⟩)]]) (us:=[Value.func (.func 225) #[] #[zP (some ⟨c,0,none⟩),zP (some ⟨b,0,none⟩),zP (some ⟨h,0,none⟩)]]) sizeOf282 a2 rfl rfl rfl rfl rfl (kI rfl) rfl rfl (fun r (l:aG G K (box h 282 [Value.func (.func 225) #[] #[zP (some ⟨c,0,none⟩),zP (some ⟨b,0,none⟩),zP (some ⟨h,0,none⟩)]]::box c 244 [zS g a.length a.length]::aT 248 K g a.length a::box b 94 j::L) r)=>(aL (aK (aC (dH sc_282 l (i:=0) rfl rfl rfl) (aC (bI (t':=1) aOY rfl rfl) (aC (dH iK l (i:=3) rfl rfl rfl) (aC (aCG (vs:=[(0,i64 d.Parameters)]) (cs:=[i64 d.Parameters,zB false]) bs_248 rfl (by kernel_rfl)) ?_))))))))))))))))))))
 obtain ⟨b3,t,u,a3,b5⟩:=aG.lendBp l zt3
 obtain ⟨a4,k,a5,a6,b6⟩:=aG.lendBp a3 .head
 have a7:aG G a4 (aT 248 K g a.length a::box c 244 [zS g a.length a.length]::L) r:=(aG.arr 2 [1,0] a6 rfl)
 obtain ⟨b7,a8,hm⟩:=aB hm
 exact eI (vs:=[i64 0,zA #[i64 d.Parameters,zB false]]) (caps:=[zP (some ⟨c,0,none⟩),cH (some ⟨b,0,none⟩) 0,cH (some ⟨h,0,none⟩) 0]) (us:=[i64 0,zA #[i64 d.Parameters,zB false],zP (some ⟨c,0,none⟩),cH (some ⟨b,0,none⟩) 0,cH (some ⟨h,0,none⟩) 0]) rfl call225 rfl rfl (pX (p:=⟨d.Parameters,false⟩) a8 a7 (u.mono k) (m.mono (Hp.le_trans t k)) (show eQ _ _ _ [Value.func (.func 225) #[] #[zP (some ⟨c,0,none⟩),cH (some ⟨b,0,none⟩) 0,cH (some ⟨h,0,none⟩) 0]] from a5) (u.mono k) (m.mono (Hp.le_trans t k))) aE
theorem aCs {p:bG} {R:Bool} (hm:tF p=some R) (g:aG G K (L) w) (h:aY K a1 c2 p.Arguments):
  Calls prog 226 ([zA #[i64 p.Kind,i64 p.Number,str p.Name,zS a1 p.Arguments.length c2]]:List Value).toArray w (cK fun v w'=>v=zB R/\aG G K (L) w'):=by
 let b:=[i64 p.Kind,i64 p.Number,str p.Name,zS a1 p.Arguments.length c2]
 refine aM func226 rfl (by kernel_rfl) (by show (1:Nat)<=56;decide) ?_;unfold tF at hm
 refine aK (eR (v:=zA #[i64 p.Kind,i64 p.Number,str p.Name,zS a1 p.Arguments.length c2]) (vs:=b) g rfl rfl (fun d i j=>(aH (v:=zB false) (aL (aI (aZ [1] (fun f w=>∃ a,mX p a=some R/\f 3=zB a/\aG G K (box d 147 b::L) w) ?_ ?_))))))
 ·rintro f k ⟨a,hm,l,m⟩
  unfold mX at hm
  refine aF (aI (aZ [1,3] (fun f w=>∃ c,kR p a c=some R/\f 4=zB c/\aG G K (box d 147 b::L) w) ?_ ?_))
  ·rintro f n ⟨c,hm,o,q⟩
   unfold kR at hm
   exact aF (aI (aZ [] (fun f w=>∃ e,dY e=some R/\f 2=zB e/\aG G K (L) w) aE aE))
  exact aE
 exact aE
theorem aAM {p:bG} {a:(List Definition)} {R:Bool} (hm:qS p a=some R) (e:aG G K (L) w) (g:aY K a1 c2 p.Arguments) (h:aY K a4 c5 a):
  Calls prog 227 ([zA #[i64 p.Kind,i64 p.Number,str p.Name,zS a1 p.Arguments.length c2],zS a4 a.length c5]:List Value).toArray w (cK fun v w'=>v=zB R/\aG G K (L) w'):=by
 refine aM func227 rfl (by kernel_rfl) (by show (2:Nat)<=38;decide) ?_;unfold qS at hm
 refine aK (eR (v:=zA #[i64 p.Kind,i64 p.Number,str p.Name,zS a1 p.Arguments.length c2]) (vs:=[i64 p.Kind,i64 p.Number,str p.Name,zS a1 p.Arguments.length c2]) e rfl rfl (fun j k b=>(aH (v:=zB false) (aL (aK (aC (bI (t':=3) oI rfl rfl) (aC (dH aAB b (i:=0) rfl rfl rfl) (aC (aV (len:=p.Arguments.length) mK rfl) (aH (v:=i64 (p.Arguments.length:Int)) (aL (aI (aK (aC (bI (t':=0) oH rfl rfl) (aC (dH iK b (i:=0) rfl rfl rfl) (aL (bK (aK (aC (dS rfl rfl) (aH (v:=zB (p.Kind == 1)) (aL ?_))))))))))))))))))))
 rcases aJ hm with ⟨c,hm⟩|⟨c,hm⟩
 ·exact aS c rfl (aI (aZ [] (fun f w=>∃ d,lW d=some R/\f 4=zB d/\aG G K (L) w) aE aE))
 ·exact aE
theorem aJI {t:aR} {a:Int} {R:Bool} (hm:aBg t a=some R) (b:aG G K (L) w):
  Calls prog 262 ([zA #[i64 t.Kind,i64 t.Value],i64 a]:List Value).toArray w (cK fun v w'=>v=zB R/\aG G K (L) w'):=by
 exact aE
theorem aAv {t:aR} {R:Int} (hm:tX t=some R) (a:aG G K (L) w):
  Calls prog 263 ([zA #[i64 t.Kind,i64 t.Value]]:List Value).toArray w (cK fun v w'=>v=i64 R/\aG G K (L) w'):=by
 exact aE
theorem aJJ {e:(List aR)} {b h:Int} {R:Bool} (hm:wR e b h=some R) (hs:aG G K (L) w) (j:aY K a1 c2 e):
  Calls prog 230 ([zS a1 e.length c2,i64 b,i64 h]:List Value).toArray w (cK fun v w'=>v=zB R/\aG G K (L) w'):=by
 refine aM func230 rfl (by kernel_rfl) (by show (3:Nat)<=47;decide) ?_;unfold wR at hm
 refine aK (aH (v:=zB false) (aL (aI (aI (aZ [0,1] (fun f w=>∃ c,lJ e b c=some R/\f 24=zB c/\aG G K (L) w) ?_ ?_)))))
 ·rintro f w6 ⟨c,hm,u,a3⟩
  unfold lJ at hm
  refine aF ?_
  rcases aJ hm with ⟨k,hm⟩|⟨k,hm⟩
  ·exact aE
  ·refine aP k u (aU (aF (aK (aH (v:=i64 1) (aL (aI (aK (aO (v:=zS a1 e.length c2) (aC (aV (len:=e.length) nL rfl) (aO (v:=i64 0) (aL (aQ [] (fun f w=>∃ l,aFi l=some R/\f 7=i64 l/\aG G K (L) w) aE ?_))))))))))));obtain ⟨a4,x,ho⟩:=aB hm
   refine cG [1,25,26] x (fun d g f w=>f 7=i64 d/\f 27=i64 g/\aG G K (L) w) aE ?_
   ·rintro d g y f a5 hm hr ⟨a6,m,n⟩
    unfold oN at hm
    refine aK (aC (dR m rfl) (aL (aI ?_)))
    rcases aJ hm with ⟨o,hm⟩|⟨o,hm⟩
    ·refine aS o rfl (aU (aF (aI (bK (aK ?_)))));obtain ⟨a,p,hm⟩:=aB hm
     refine aC (cL nL rfl j rfl rfl m p) ?_;obtain ⟨a7,z,J⟩:=aY.el (sz:=2) rfl j p
     cases J
     exact aC (dU (t:=0) (vs:=[i64 a.Kind,i64 a.Value]) aHT n z rfl rfl rfl) (eA (vs:=[i64 0,i64 0]) zeroValue202 n rfl (fun q a8 V=>(eY (i:=0) (ns:=[i64 a.Kind,i64 a.Value]) (us:=[i64 a.Kind,i64 a.Value]) sizeOf202 V rfl rfl rfl rfl rfl (kI rfl) rfl rfl (fun Z (a9:aG G K (box q 202 [i64 a.Kind,i64 a.Value]::L) Z)=>(aL (aI (aI (aZ [1,7,9,25,26,27] (fun f w=>∃ r,tY d g a r=some y/\f 38=zB r/\aG G K (box q 202 [i64 a.Kind,i64 a.Value]::L) w) aE aE))))))))
    ·exact aE
 exact aE
theorem xM {e:(List aR)} {p:dF} {a:Nat} {R:Bool} (hm:yI e p=some R) (b:aG G K (L) w) (c:aY K a1 c2 e) (d:eQ K a4 a [i64 p.scope,zB p.behind]):
  Calls prog 229 ([zS a1 e.length c2,cH a4 a]:List Value).toArray w (cK fun v w'=>v=zB R/\aG G K (L) w'):=by
 exact aE
theorem lD {a:(List (List aR))} {d:dF} {b:Nat} {R:Int} (hm:dQ a d=some R) (x:aG G K (L) w) (e:aY K a1 c2 a) (n:eQ K a4 b [i64 d.scope,zB d.behind]):
  Calls prog 261 ([zS a1 a.length c2,Value.func (.func 229) #[] #[cH a4 b]]:List Value).toArray w (cK fun v w'=>v=i64 R/\aG G K (L) w'):=by
 refine aM func261 rfl (by kernel_rfl) (by show (2:Nat)<=19;decide) ?_;unfold dQ at hm
 refine aK (aH (v:=i64 0) (aL (aI (aK (aO (v:=zS a1 a.length c2) (aC (aV (len:=a.length) mK rfl) (aO (v:=i64 0) (aL (aQ [] (fun f w=>gD=some R/\aG G K (L) w) aE ?_)))))))));obtain ⟨y,o,ho⟩:=aB hm
 refine bP [0,1,7] o (fun c f w=>f 8=i64 c/\aG G K (L) w) aE ?_
 ·rintro c z f J hm hr ⟨g,h⟩
  unfold cJ at hm
  refine aK (aC (dR g rfl) (aL (aI ?_)))
  rcases aJ hm with ⟨i,hm⟩|⟨i,hm⟩
  ·refine aS i rfl (aU (aF (aI (bK (aK (bO g (aH (v:=i64 c) (aL (aK (aO (v:=Value.func (.func 229) #[] #[cH a4 b]) (aO (v:=zS a1 a.length c2) (aO (v:=i64 c) ?_))))))))))));obtain ⟨j,k,hm⟩:=aB hm
   refine aC (cL mK rfl e rfl rfl rfl k) ?_;obtain ⟨V,p,q⟩:=aY.el (sz:=1) rfl e k
   obtain ⟨l,m,rfl,r⟩:=q
   refine aC (cC (t:=0) aHS h p rfl rfl) ?_;obtain ⟨Z,u,hm⟩:=aB hm
   exact eI (vs:=[zS l j.length m]) (caps:=[cH a4 b]) (us:=[zS l j.length m,cH a4 b]) rfl call229 rfl rfl (xM u h r n) aE
  ·exact aE
theorem fO {a:(List (List aR))} {b:dF} {c:Nat} {R:Bool} (hm:dG a b=some R) (d:aG G K (L) w) (e:aY K a1 c2 a) (g:eQ K a4 c [i64 b.scope,zB b.behind]):
  Calls prog 228 ([zS a1 a.length c2,Value.func (.func 229) #[] #[cH a4 c]]:List Value).toArray w (cK fun v w'=>v=zB R/\aG G K (L) w'):=by
 exact aE
theorem aIj {p:bG} {b:(List Definition)} {a:dF} {R:Int} (hm:pD p b a=some R) (J:aG G K (L) w) (h:aY K a1 c2 p.Arguments) (V:aY K a4 c5 b):
  Calls prog 190 ([zA #[i64 p.Kind,i64 p.Number,str p.Name,zS a1 p.Arguments.length c2],zS a4 b.length c5,zA #[i64 a.scope,zB a.behind]]:List Value).toArray w (cK fun v w'=>v=i64 R/\aG G K (L) w'):=by
 let c:=[i64 p.Kind,i64 p.Number,str p.Name,zS a1 p.Arguments.length c2]
 let e:=[i64 a.scope,zB a.behind]
 refine aM func190 rfl (by kernel_rfl) (by show (3:Nat)<=77;decide) ?_;unfold pD at hm
 refine aK (eR (v:=zA #[i64 p.Kind,i64 p.Number,str p.Name,zS a1 p.Arguments.length c2]) (vs:=c) J rfl rfl (fun g w8 Z=>(eR (v:=zA #[i64 a.scope,zB a.behind]) (vs:=e) Z rfl rfl (fun d b5 n=>(aH (v:=i64 0) (aL (aI (bK (aK (aC (kH (us:=c) xR n (i:=1) rfl rfl rfl rfl) ?_))))))))));obtain ⟨a0,a2,hm⟩:=aB hm
 refine aW (vs:=[zA #[i64 p.Kind,i64 p.Number,str p.Name,zS a1 p.Arguments.length c2]]) call226 rfl (aCs a2 n h) ?_
 rintro _ b6 ⟨rfl,b8⟩
 refine aC (vB rfl) (aH (v:=zB (!a0)) (aL ?_))
 rcases aJ hm with ⟨o,hm⟩|⟨o,hm⟩
 ·exact aE
 ·refine aP o rfl (aI (aZ [1,3,5] (fun f w=>∃ j,iY p b a j=some R/\f 11=zB j/\aG G K (box d 248 e::box g 147 c::L) w) ?_ ?_))
  ·rintro f b9 ⟨j,hm,a3,c0⟩
   unfold iY at hm
   refine aF ?_
   rcases aJ hm with ⟨q,hm⟩|⟨q,hm⟩
   ·exact aE
   ·refine aP q a3 (aI (aZ [1,3,5] (fun f w=>∃ k,gB p b a k=some R/\f 26=zB k/\aG G K (box d 248 e::box g 147 c::L) w) ?_ ?_))
    ·rintro f c1 ⟨k,hm,a5,r⟩
     unfold gB at hm
     refine aF ?_
     rcases aJ hm with ⟨t,hm⟩|⟨t,hm⟩
     ·exact aE
     ·refine aP t a5 (aK (aC (kH (us:=c) xR r (i:=1) rfl rfl rfl rfl) (aO (v:=zS a4 b.length c5) ?_)));obtain ⟨a6,a7,hm⟩:=aB hm
      refine aW (vs:=[zA #[i64 p.Kind,i64 p.Number,str p.Name,zS a1 p.Arguments.length c2],zS a4 b.length c5]) call227 rfl (aAM a7 r h V) ?_
      rintro _ c3 ⟨rfl,c4⟩
      refine aC (vB rfl) (aH (v:=zB (!a6)) (aL ?_))
      rcases aJ hm with ⟨u,hm⟩|⟨u,hm⟩
      ·exact aE
      ·refine aP u rfl (aI (aZ [3,5] (fun f w=>∃ l,kT p a l=some R/\f 54=zB l/\aG G K (box d 248 e::box g 147 c::L) w) ?_ ?_))
       ·rintro f c6 ⟨l,hm,a8,c7⟩
        unfold kT at hm
        refine aF ?_
        rcases aJ hm with ⟨x,hm⟩|⟨x,hm⟩
        ·exact aE
        ·refine aP x a8 (aI (aZ [3,5] (fun f w=>∃ m,kS p a m=some R/\f 63=zB m/\aG G K (box d 248 e::box g 147 c::L) w) ?_ ?_))
         ·rintro f c8 ⟨m,hm,a9,y⟩
          unfold kS at hm
          refine aF ?_
          rcases aJ hm with ⟨z,hm⟩|⟨z,hm⟩
          ·exact aE
          ·refine aP z a9 (aK (aC (bI (t':=3) oI rfl rfl) (aC (dH aAB y (i:=1) rfl rfl rfl) (aC (xO (vs:=[zP (some ⟨d,0,none⟩)]) rfl) ?_))));obtain ⟨c9,b0,b1,b2,d0⟩:=aG.lendBp y .head
           obtain ⟨d1,b3,hm⟩:=aB hm
           exact aW (vs:=[zS a1 p.Arguments.length c2,Value.func (.func 229) #[] #[cH (some ⟨d,0,none⟩) 0]]) call228 rfl (fO b3 b2 (h.mono b0) b1) aE
         exact aE
       exact aE
    exact aE
  exact aE
theorem aKs {a:(List Definition)} {d:Definition} {R:(Int × Int)} (hm:uT a d=some R) (l:aG G K (L) w) (u:aY K a1 c2 a) (m:aY K a4 c5 d.Body):
  Calls prog 155 ([zS a1 a.length c2,zA #[str d.Name,i64 d.Parameters,zS a4 d.Body.length c5]]:List Value).toArray w (cK fun v w'=>v=Value.tuple #[i64 R.1,i64 R.2]/\aG G K (L) w'):=by
 let b:=[str d.Name,i64 d.Parameters,zS a4 d.Body.length c5]
 refine aM func155 rfl (by kernel_rfl) (by show (2:Nat)<=45;decide) ?_;unfold uT at hm
 refine aK (eR (v:=zA #[str d.Name,i64 d.Parameters,zS a4 d.Body.length c5]) (vs:=b) l rfl rfl (fun n x y=>(aH (v:=i64 0) (aH (v:=i64 0) (aL (aI (aI (aZ [0,3] (fun f w=>∃ c,qU a d c=some R/\f 22=zB c/\aG G K (box n 94 b::L) w) ?_ ?_))))))))
 ·rintro f z ⟨c,hm,o,e⟩
  unfold qU at hm
  refine aF ?_
  rcases aJ hm with ⟨g,hm⟩|⟨g,hm⟩
  ·exact aE
  ·refine aP g o (aU (aF (aK (aC (kH (us:=b) aIO e (i:=0) rfl rfl rfl rfl) ?_))));obtain ⟨h,p,hm⟩:=aB hm
   refine aW (vs:=[zA #[str d.Name,i64 d.Parameters,zS a4 d.Body.length c5]]) call189 rfl (tK p e m) ?_
   rintro _ J ⟨j,k,rfl,q⟩
   refine aH (v:=zS j h.length k) (aL (aI (aK (aC (bI (t':=2) aEq rfl rfl) (aC (dH aDD q (i:=1) rfl rfl rfl) (aC (aV (len:=d.Body.length) rY rfl) (aO (v:=i64 0) (aL (aQ [] (fun f w=>aFW=some R/\aG G K (L) w) aE ?_)))))))));obtain ⟨V,r,ho⟩:=aB hm
   exact bP [0,6,26,27] r (fun t f w=>f 28=i64 t/\aG G K (aT 248 K j k h::L) w) aE aE
 exact aE
theorem uX {c:(List Definition)} {R:Bool} (hm:gR c=some R) (hs:aG G K (L) w) (k:aY K a1 c2 c):
  Calls prog 107 ([zS a1 c.length c2]:List Value).toArray w (cK fun v w'=>v=zB R/\aG G K (L) w'):=by
 refine aM func107 rfl (by kernel_rfl) (by show (1:Nat)<=45;decide) ?_;unfold gR at hm
 refine aK (aH (v:=zB false) (aL (aI (aI (aZ [0] (fun f w=>∃ l,iV c l=some R/\f 15=zB l/\aG G K (L) w) ?_ ?_)))))
 ·rintro f w6 ⟨l,hm,J,b4⟩
  unfold iV at hm
  refine aF ?_
  rcases aJ hm with ⟨o,hm⟩|⟨o,hm⟩
  ·exact aE
  ·refine aP o J (aU (aF (aI (aK (aO (v:=zS a1 c.length c2) (aC (aV (len:=c.length) qD rfl) (aO (v:=i64 0) (aL (aQ [] (fun f w=>xI=some R/\aG G K (L) w) aE ?_)))))))));obtain ⟨b5,V,ho⟩:=aB hm
   refine bP [0,16,17] V (fun j f w=>f 18=i64 j/\aG G K (L) w) aE ?_
   ·rintro j Z f b6 hm hr ⟨m,p⟩
    unfold iU at hm
    refine aK (aC (dR m rfl) (aL (aI ?_)))
    rcases aJ hm with ⟨q,hm⟩|⟨q,hm⟩
    ·refine aS q rfl (aU (aF (aI (bK (aK (bO m ?_))))));obtain ⟨a,r,hm⟩:=aB hm
     refine aC (cL qD rfl k rfl rfl m r) ?_;obtain ⟨b7,a0,a2⟩:=aY.el (sz:=3) rfl k r
     obtain ⟨e,h,rfl,b8⟩:=a2
     refine aC (dU (t:=0) (vs:=[str a.Name,i64 a.Parameters,zS e a.Body.length h]) aIO p a0 rfl rfl rfl) (eA (vs:=[str ([]:aN),i64 0,zS none 0 0]) zeroValue94 p rfl (fun n b9 a3=>(aH (v:=i64 j) (eY (i:=0) (ns:=[str a.Name,i64 a.Parameters,zS e a.Body.length h]) (us:=[str a.Name,i64 a.Parameters,zS e a.Body.length h]) sizeOf94 a3 rfl rfl rfl rfl rfl (kI rfl) rfl rfl (fun a4 (b:aG G K (box n 94 [str a.Name,i64 a.Parameters,zS e a.Body.length h]::L) a4)=>(aL (aI (aI (aZ [0,4,16,17,18] (fun f w=>∃ u,lE c j a u=some Z/\f 35=zB u/\aG G K (box n 94 [str a.Name,i64 a.Parameters,zS e a.Body.length h]::L) w) aE (fY (C:=fun w'=>aG G K (box n 94 [str a.Name,i64 a.Parameters,zS e a.Body.length h]::L) w') Tryz_mixed (by kernel_rfl) (aG.mono b (eG.drew _)) (bD (fun _ b=>bI (t':=0) aGt rfl rfl) (bD (fun _ b=>dH nK b (i:=0) rfl rfl rfl) ?_))))))))))))
     obtain ⟨x,a5,hm⟩:=aB hm
     refine iM (vs:=[str a.Name]) (v:=zB x) call17 rfl (fun _ b=>(aDv a5 b)) (bD (fun _ b=>vB rfl) (bD (fun _ b=>bE (v:=zB (!x)) rfl) ?_))
     rcases aJ hm with ⟨d,hm⟩|⟨d,hm⟩
     ·exact aE
     ·refine iI (g:=27) rfl rfl (lH d) (bD (fun _ b=>bE (v:=zS a1 c.length c2) rfl) (iI (g:=27) rfl rfl (lH d) (bD (fun _ b=>bE (v:=i64 j) rfl) (iI (g:=27) rfl rfl (lH d) ?_))));obtain ⟨a6,y,hm⟩:=aB hm
      obtain ⟨a7,a8,z⟩:=Cut.ex 3 a1 c2 0
      have a9:=aY.cut' k y z
      refine bD (fun _ b=>uD qD k.room z rfl rfl rfl y) (iI (g:=27) rfl rfl (lH d) (bD (fun _ b=>bI (t':=0) aGt rfl rfl) (iI (g:=27) rfl rfl (lH d) (bD (fun _ b=>dH nK b (i:=0) rfl rfl rfl) (iI (g:=27) rfl rfl (lH d) ?_)))));obtain ⟨b0,b1,hm⟩:=aB hm
      exact iM (vs:=[zS a7 a6.length a8,str a.Name]) (v:=i64 b0) call154 rfl (fun _ b=>(xB b1 b a9)) aE
    ·exact aE
 exact aE
theorem aIk {a:(List Definition)} {c:aX} {R:Bool} (hm:tG a c=some R) (d:aG G K (L) w) (e:aY K a1 c2 a) (g:aY K a4 c5 c.Values):
  Calls prog 110 ([zS a1 a.length c2,zA #[i64 c.Definition,zS a4 c.Values.length c5]]:List Value).toArray w (cK fun v w'=>v=zB R/\aG G K (L) w'):=by
 refine aM func110 rfl (by kernel_rfl) (by show (2:Nat)<=27;decide) ?_;unfold tG at hm
 exact aK (eR (v:=zA #[i64 c.Definition,zS a4 c.Values.length c5]) (vs:=[i64 c.Definition,zS a4 c.Values.length c5]) d rfl rfl (fun h i j=>(aH (v:=zB false) (aL (aI (aZ [] (fun f w=>∃ b,mY b=some R/\f 4=zB b/\aG G K (L) w) aE aE))))))
theorem aEO {a b:bB} {R:Int} (hm:lX a b=some R) (l:aG G K (L) w):
  Calls prog 158 ([zA #[str a.Left,str a.Right,str a.Result],zA #[str b.Left,str b.Right,str b.Result]]:List Value).toArray w (cK fun v w'=>v=i64 R/\aG G K (L) w'):=by
 let c:=[str a.Left,str a.Right,str a.Result]
 let d:=[str b.Left,str b.Right,str b.Result]
 refine aM func158 rfl (by kernel_rfl) (by show (2:Nat)<=16;decide) ?_;unfold lX at hm
 refine aK (eR (v:=zA #[str a.Left,str a.Right,str a.Result]) (vs:=c) l rfl rfl (fun h r m=>(eR (v:=zA #[str b.Left,str b.Right,str b.Result]) (vs:=d) m rfl rfl (fun j t e=>(aH (v:=i64 0) (aL (aK (aC (bI (t':=0) aMb rfl rfl) (aC (dH nK e (i:=1) rfl rfl rfl) (aC (bI (t':=1) aMc rfl rfl) (aC (dH nK e (i:=1) rfl rfl rfl) (dK (Kt:=K) (xs:=([a.Left,a.Right]:List aN)) (cs:=[str a.Left,str a.Right]) (vs:=[(0,str a.Left),(1,str a.Right)]) cX qA rfl rfl e rfl (by kernel_rfl) rfl rfl rfl ⟨rfl,rfl,trivial⟩ (fun k n (g:aG G K (aT 9 K k 2 ([a.Left,a.Right]:List aN)::box j 103 d::box h 103 c::L) n)=>(aC (bI (t':=0) aMb rfl rfl) (aC (dH nK g (i:=1) rfl rfl rfl) (aC (bI (t':=1) aMc rfl rfl) (aC (dH nK g (i:=1) rfl rfl rfl) (dK (Kt:=K) (xs:=([b.Left,b.Right]:List aN)) (cs:=[str b.Left,str b.Right]) (vs:=[(0,str b.Left),(1,str b.Right)]) cX qA rfl rfl g rfl (by kernel_rfl) rfl rfl rfl ⟨rfl,rfl,trivial⟩ (fun o p (q:aG G K (aT 9 K o 2 ([b.Left,b.Right]:List aN)::aT 9 K k 2 ([a.Left,a.Right]:List aN)::box j 103 d::box h 103 c::L) p)=>?_)))))))))))))))))))
 obtain ⟨u,x,y,z,J⟩:=aG.lendSp q (Hp.le_refl _) zt1
 exact aE
theorem aAw {o p:bB} {a:Nat} {R:Bool} (hm:tZ o p=some R) (c:aG G K (L) w) (d:eQ K a1 a [str p.Left,str p.Right,str p.Result]):
  Calls prog 160 ([zA #[str o.Left,str o.Right,str o.Result],cH a1 a]:List Value).toArray w (cK fun v w'=>v=zB R/\aG G K (L) w'):=by
 refine aM func160 rfl (by kernel_rfl) (by show (2:Nat)<=16;decide) ?_;unfold tZ at hm
 exact aK (eR (v:=zA #[str o.Left,str o.Right,str o.Result]) (vs:=[str o.Left,str o.Right,str o.Result]) c rfl rfl (fun e g h=>(aH (v:=zB false) (aL (aI (aZ [] (fun f w=>∃ b,nX b=some R/\f 3=zB b/\aG G K (L) w) aE aE))))))
theorem kM {b:(List bB)} {d:bB} {c:Nat} {R:Int} (hm:dJ b d=some R) (q:aG G K (L) w) (g:aY K a1 c2 b) (l:eQ K a4 c [str d.Left,str d.Right,str d.Result]):
  Calls prog 195 ([zS a1 b.length c2,Value.func (.func 160) #[] #[cH a4 c]]:List Value).toArray w (cK fun v w'=>v=i64 R/\aG G K (L) w'):=by
 refine aM func195 rfl (by kernel_rfl) (by show (2:Nat)<=19;decide) ?_;unfold dJ at hm
 refine aK (aH (v:=i64 0) (aL (aI (aK (aO (v:=zS a1 b.length c2) (aC (aV (len:=b.length) vJ rfl) (aO (v:=i64 0) (aL (aQ [] (fun f w=>fT=some R/\aG G K (L) w) aE ?_)))))))));obtain ⟨r,m,ho⟩:=aB hm
 refine bP [0,1,7] m (fun e f w=>f 8=i64 e/\aG G K (L) w) aE ?_
 ·rintro e u f x hm hr ⟨h,i⟩
  unfold cE at hm
  refine aK (aC (dR h rfl) (aL (aI ?_)))
  rcases aJ hm with ⟨j,hm⟩|⟨j,hm⟩
  ·refine aS j rfl (aU (aF (aI (bK (aK (bO h (aH (v:=i64 e) (aL (aK (aO (v:=Value.func (.func 160) #[] #[cH a4 c]) (aO (v:=zS a1 b.length c2) (aO (v:=i64 e) ?_))))))))))));obtain ⟨a,k,hm⟩:=aB hm
   refine aC (cL vJ rfl g rfl rfl rfl k) ?_;obtain ⟨y,n,o⟩:=aY.el (sz:=3) rfl g k
   cases o
   refine aC (dU (t:=0) (vs:=[str a.Left,str a.Right,str a.Result]) aKf i n rfl rfl rfl) ?_;obtain ⟨z,p,hm⟩:=aB hm
   exact eI (vs:=[zA #[str a.Left,str a.Right,str a.Result]]) (caps:=[cH a4 c]) (us:=[zA #[str a.Left,str a.Right,str a.Result],cH a4 c]) rfl call160 rfl rfl (aAw p i l) aE
  ·exact aE
theorem fJ {b:(List bB)} {a:bB} {c:Nat} {R:Bool} (hm:dD b a=some R) (d:aG G K (L) w) (e:aY K a1 c2 b) (g:eQ K a4 c [str a.Left,str a.Right,str a.Result]):
  Calls prog 159 ([zS a1 b.length c2,Value.func (.func 160) #[] #[cH a4 c]]:List Value).toArray w (cK fun v w'=>v=zB R/\aG G K (L) w'):=by
 exact aE
theorem aJK {b:(List bB)} {R:Bool} (hm:nY b=some R) (hs:aG G K (L) w) (e:aY K a1 c2 b):
  Calls prog 111 ([zS a1 b.length c2]:List Value).toArray w (cK fun v w'=>v=zB R/\aG G K (L) w'):=by
 refine aM func111 rfl (by kernel_rfl) (by show (1:Nat)<=56;decide) ?_;unfold nY at hm
 refine aK (aH (v:=zB false) (aL (aI (aK (aO (v:=zS a1 b.length c2) (aC (aV (len:=b.length) vJ rfl) (aO (v:=i64 0) (aL (aQ [0] (fun f w=>aFj b=some R/\aG G K (L) w) aE ?_)))))))));obtain ⟨a2,n,ho⟩:=aB hm
 refine bP [0,5,6] n (fun c f w=>f 7=i64 c/\aG G K (L) w) aE ?_
 ·rintro c o f a3 hm hr ⟨g,j⟩
  unfold iJ at hm
  refine aK (aC (dR g rfl) (aL (aI ?_)))
  rcases aJ hm with ⟨k,hm⟩|⟨k,hm⟩
  ·refine aS k rfl (aU (aF (aI (bK (aK (bO g ?_))))));obtain ⟨a,l,hm⟩:=aB hm
   refine aC (cL vJ rfl e rfl rfl g l) ?_;obtain ⟨a4,p,q⟩:=aY.el (sz:=3) rfl e l
   cases q
   refine aC (dU (t:=0) (vs:=[str a.Left,str a.Right,str a.Result]) aKf j p rfl rfl rfl) (eA (vs:=[str ([]:aN),str ([]:aN),str ([]:aN)]) zeroValue103 j rfl (fun d a5 r=>(aH (v:=i64 c) (eY (i:=0) (ns:=[str a.Left,str a.Right,str a.Result]) (us:=[str a.Left,str a.Right,str a.Result]) sizeOf103 r rfl rfl rfl rfl rfl (kI rfl) rfl rfl (fun u (a6:aG G K (box d 103 [str a.Left,str a.Right,str a.Result]::L) u)=>(aL (aI (aI (aZ [0,4,5,6,7] (fun f w=>∃ h,fW b c a h=some o/\f 48=zB h/\aG G K (box d 103 [str a.Left,str a.Right,str a.Result]::L) w) ?_ ?_)))))))))
   ·rintro f a7 ⟨h,hm,x,y⟩
    unfold fW at hm
    refine aF ?_
    rcases aJ hm with ⟨m,hm⟩|⟨m,hm⟩
    ·exact aE
    ·refine aP m x (aU (aF (aK (aO (v:=zS a1 b.length c2) (aC (xO (vs:=[zP (some ⟨d,0,none⟩)]) rfl) ?_)))));obtain ⟨a8,z,J,V,a9⟩:=aG.lendBp y .head
     obtain ⟨b0,Z,hm⟩:=aB hm
     exact aW (vs:=[zS a1 b.length c2,Value.func (.func 160) #[] #[cH (some ⟨d,0,none⟩) 0]]) call159 rfl (fJ Z V (e.mono z) J) aE
   exact aE
  ·exact aE
end Gv
namespace Gv
open Gv.Hp renaming le_refl→zR
open Go.Value renaming slice→zS,bool→zB,pointer→zP,agg→zA,tuple→zT
open Gv.Hp renaming le_trans→zL
open Go Go.Proofs Go.Proofs.Tryz
set_option maxRecDepth 20000
set_option maxHeartbeats 40000000
variable {G:kE} {K Kf:Hp} {L:List eT} {w:World} {a1 a4 a7 a10 a13 a16 a19 a2 a6 a5:Option Addr} {c2 c8 c11 c14 c17 c20 c5 b1 c3 c7 c6:Nat}
theorem aMH {a:(List aN)} {R:Bool} (hm:aBs a=some R) (o:aG G K (L) w) (d:aY K a1 c2 a):
  Calls prog 112 ([zS a1 a.length c2]:List Value).toArray w (cK fun v w'=>v=zB R/\aG G K (L) w'):=by
 refine aM func112 rfl (by kernel_rfl) (by show (1:Nat)<=32;decide) ?_;unfold aBs at hm
 refine aK (aH (v:=zB false) (aL (aI (aK (aO (v:=zS a1 a.length c2) (aC (aV (len:=a.length) cX rfl) (aO (v:=i64 0) (aL (aQ [0] (fun f w=>aEL a=some R/\aG G K (L) w) aE ?_)))))))));obtain ⟨p,i,ho⟩:=aB hm
 refine bP [0,5,6] i (fun b f w=>f 7=i64 b/\aG G K (L) w) aE ?_
 ·rintro b j f q hm hr ⟨c,k⟩
  unfold wT at hm
  refine aK (aC (dR c rfl) (aL (aI ?_)))
  rcases aJ hm with ⟨e,hm⟩|⟨e,hm⟩
  ·refine aS e rfl (aU (aF (aI (bK (aK (bO c ?_))))));obtain ⟨l,g,hm⟩:=aB hm
   refine aC (cL cX rfl d rfl rfl c g) ?_;obtain ⟨r,m,n⟩:=aY.el (sz:=1) rfl d g
   cases n
   exact aC (cC (t:=0) nK k m rfl rfl) (aH (v:=i64 b) (aH (v:=str l) (aL (aI (aZ [0,5,6,7] (fun f w=>∃ h,wS b h=some j/\f 27=zB h/\aG G K (L) w) aE aE)))))
  ·exact aE
theorem xN {c:aX} {p:bL} {a:Nat} {R:Bool} (hm:yJ c p=some R) (b:aG G K (L) w) (d:aY K a1 c2 c.Values) (e:eQ K a4 a [zS a7 p.Definitions.length c8,zS a10 p.Components.length c11,zS a13 p.Meetings.length c14,zS a16 p.Allowed.length c17,zS a19 p.Hidden.length c20]) (g:aY K a7 c8 p.Definitions) (h:aY K a10 c11 p.Components) (i:aY K a13 c14 p.Meetings) (j:aY K a16 c17 p.Allowed) (k:aY K a19 c20 p.Hidden):
  Calls prog 109 ([zA #[i64 c.Definition,zS a1 c.Values.length c2],cH a4 a]:List Value).toArray w (cK fun v w'=>v=zB R/\aG G K (L) w'):=by
 exact aE
theorem jL {b:(List aX)} {a:bL} {d:Nat} {R:Int} (hm:dA b a=some R) (V:aG G K (L) w) (h:aY K a1 c2 b) (m:eQ K a4 d [zS a7 a.Definitions.length c8,zS a10 a.Components.length c11,zS a13 a.Meetings.length c14,zS a16 a.Allowed.length c17,zS a19 a.Hidden.length c20]) (n:aY K a7 c8 a.Definitions) (o:aY K a10 c11 a.Components) (p:aY K a13 c14 a.Meetings) (q:aY K a16 c17 a.Allowed) (r:aY K a19 c20 a.Hidden):
  Calls prog 156 ([zS a1 b.length c2,Value.func (.func 109) #[] #[cH a4 d]]:List Value).toArray w (cK fun v w'=>v=i64 R/\aG G K (L) w'):=by
 refine aM func156 rfl (by kernel_rfl) (by show (2:Nat)<=19;decide) ?_;unfold dA at hm
 refine aK (aH (v:=i64 0) (aL (aI (aK (aO (v:=zS a1 b.length c2) (aC (aV (len:=b.length) xH rfl) (aO (v:=i64 0) (aL (aQ [] (fun f w=>fK=some R/\aG G K (L) w) aE ?_)))))))));obtain ⟨Z,u,ho⟩:=aB hm
 refine bP [0,1,7] u (fun e f w=>f 8=i64 e/\aG G K (L) w) aE ?_
 ·rintro e a0 f a2 hm hr ⟨i,j⟩
  unfold bZ at hm
  refine aK (aC (dR i rfl) (aL (aI ?_)))
  rcases aJ hm with ⟨k,hm⟩|⟨k,hm⟩
  ·refine aS k rfl (aU (aF (aI (bK (aK (bO i (aH (v:=i64 e) (aL (aK (aO (v:=Value.func (.func 109) #[] #[cH a4 d]) (aO (v:=zS a1 b.length c2) (aO (v:=i64 e) ?_))))))))))));obtain ⟨c,l,hm⟩:=aB hm
   refine aC (cL xH rfl h rfl rfl rfl l) ?_;obtain ⟨a3,x,y⟩:=aY.el (sz:=2) rfl h l
   obtain ⟨g,c48,rfl,z⟩:=y
   refine aC (dU (t:=0) (vs:=[i64 c.Definition,zS g c.Values.length c48]) aKP j x rfl rfl rfl) ?_;obtain ⟨a5,J,hm⟩:=aB hm
   exact eI (vs:=[zA #[i64 c.Definition,zS g c.Values.length c48]]) (caps:=[cH a4 d]) (us:=[zA #[i64 c.Definition,zS g c.Values.length c48],cH a4 d]) rfl call109 rfl rfl (xN J j z m n o p q r) aE
  ·exact aE
theorem fE {b:(List aX)} {a:bL} {c:Nat} {R:Bool} (hm:cR b a=some R) (d:aG G K (L) w) (e:aY K a1 c2 b) (g:eQ K a4 c [zS a7 a.Definitions.length c8,zS a10 a.Components.length c11,zS a13 a.Meetings.length c14,zS a16 a.Allowed.length c17,zS a19 a.Hidden.length c20]) (h:aY K a7 c8 a.Definitions) (i:aY K a10 c11 a.Components) (j:aY K a13 c14 a.Meetings) (k:aY K a16 c17 a.Allowed) (l:aY K a19 c20 a.Hidden):
  Calls prog 108 ([zS a1 b.length c2,Value.func (.func 109) #[] #[cH a4 c]]:List Value).toArray w (cK fun v w'=>v=zB R/\aG G K (L) w'):=by
 exact aE
theorem aIl {a:bL} {R:Int} (hm:tH a=some R) (p:aG G K (L) w) (e:aY K a1 c2 a.Definitions) (h:aY K a4 c5 a.Components) (q:aY K a7 c8 a.Meetings) (r:aY K a10 c11 a.Allowed) (t:aY K a13 c14 a.Hidden):
  Calls prog 59 ([zA #[zS a1 a.Definitions.length c2,zS a4 a.Components.length c5,zS a7 a.Meetings.length c8,zS a10 a.Allowed.length c11,zS a13 a.Hidden.length c14]]:List Value).toArray w (cK fun v w'=>v=i64 R/\aG G K (L) w'):=by
 let j:=[zS a1 a.Definitions.length c2,zS a4 a.Components.length c5,zS a7 a.Meetings.length c8,zS a10 a.Allowed.length c11,zS a13 a.Hidden.length c14]
 refine aM func59 rfl (by kernel_rfl) (by show (1:Nat)<=35;decide) ?_;unfold tH at hm
 refine aK (eR (v:=zA #[zS a1 a.Definitions.length c2,zS a4 a.Components.length c5,zS a7 a.Meetings.length c8,zS a10 a.Allowed.length c11,zS a13 a.Hidden.length c14]) (vs:=j) p rfl rfl (fun d a3 k=>(aH (v:=i64 0) (aL (aI (bK (aK (aC (bI (t':=0) aGs rfl rfl) (aC (dH aOj k (i:=0) rfl rfl rfl) ?_)))))))));obtain ⟨u,x,hm⟩:=aB hm
 refine aW (vs:=[zS a1 a.Definitions.length c2]) call107 rfl (uX x k e) ?_
 rintro _ a5 ⟨rfl,l⟩
 refine aC (vB rfl) (aH (v:=zB (!u)) (aL ?_))
 rcases aJ hm with ⟨m,hm⟩|⟨m,hm⟩
 ·exact aE
 ·refine aP m rfl (aI (aZ [1] (fun f w=>∃ n,rQ a n=some R/\f 8=zB n/\aG G K (box d 46 j::L) w) aE (bQ (aC (bI (t':=1) aCI rfl rfl) (aC (dH aLZ l (i:=0) rfl rfl rfl) (aC (aV (len:=a.Components.length) xH rfl) ?_))))));obtain ⟨y,z,hm⟩:=aB hm
  refine aW (vs:=[i64 (a.Components.length:Int),i64 1,i64 3]) call48 rfl (aHw z l) ?_
  rintro _ a6 ⟨rfl,o⟩
  refine aC (vB rfl) (aO (v:=zB (!y)) ?_)
  rcases aJ hm with ⟨c,hm⟩|⟨c,hm⟩
  ·exact aE
  ·refine kG c rfl rfl (aC (bI (t':=1) aCI rfl rfl) (kG c rfl rfl (aC (dH aLZ o (i:=0) rfl rfl rfl) (kG c rfl rfl (aC (xO (vs:=[zP (some ⟨d,0,none⟩)]) rfl) (kG c rfl rfl ?_))))));obtain ⟨a8,b,J,V,Z⟩:=aG.lendBp o .head
   obtain ⟨a9,a0,hm⟩:=aB hm
   refine aW (vs:=[zS a4 a.Components.length c5,Value.func (.func 109) #[] #[cH (some ⟨d,0,none⟩) 0]]) call108 rfl (fE a0 V (h.mono b) J (e.mono b) (h.mono b) (q.mono b) (r.mono b) (t.mono b)) ?_
   rintro _ b0 ⟨rfl,a2⟩
   have b1:=Z _ _ a2
   exact aE
theorem aIm {a:bL} {R:Bool} (hm:mB a=some R) (b:aG G K (L) w) (c:aY K a1 c2 a.Definitions) (d:aY K a4 c5 a.Components) (e:aY K a7 c8 a.Meetings) (g:aY K a10 c11 a.Allowed) (h:aY K a13 c14 a.Hidden):
  Calls prog 23 ([zA #[zS a1 a.Definitions.length c2,zS a4 a.Components.length c5,zS a7 a.Meetings.length c8,zS a10 a.Allowed.length c11,zS a13 a.Hidden.length c14]]:List Value).toArray w (cK fun v w'=>v=zB R/\aG G K (L) w'):=by
 exact aE
theorem aDe {rec_:(List aR)->Option ((Tr aR) × (List aR))} (ih:∀ {G:kE} {K:Hp} {L:List eT} {w:World} {e:(List aR)} {a1:Option Addr} {c2:Nat} {R:((Tr aR) × (List aR))} (hm:rec_ e=some R) (hs:aG G K (L) w) (g:aY K a1 c2 e),
  Calls prog 233 ([zS a1 e.length c2]:List Value).toArray w (cK fun v w'=>∃ c r u x,v=zT #[cH r 0,zS u R.2.length x]/\Hp.le K c/\trd c R.1 r/\aY c u x R.2/\aG G c (L) w'))
  {G:kE} {K:Hp} {L:List eT} {w:World} {e:(List aR)} {a1:Option Addr} {c2:Nat} {R:((Tr aR) × (List aR))} (hm:kK rec_ e=some R) (hs:aG G K (L) w) (g:aY K a1 c2 e):
  Calls prog 233 ([zS a1 e.length c2]:List Value).toArray w (cK fun v w'=>∃ c r u x,v=zT #[cH r 0,zS u R.2.length x]/\Hp.le K c/\trd c R.1 r/\aY c u x R.2/\aG G c (L) w'):=by
 refine aM func233 rfl (by kernel_rfl) (by show (1:Nat)<=38;decide) ?_;unfold kK at hm
 refine aK (aH (v:=zP none) (aH (v:=zS none 0 0) (aL (aK (aO (v:=zS a1 e.length c2) ?_)))));obtain ⟨a,q5,hm⟩:=aB hm
 refine aC (cL nL rfl g rfl rfl rfl q5) ?_;obtain ⟨g1,b6,c9⟩:=aY.el (sz:=2) rfl g q5
 cases c9
 refine aC (dU (t:=0) (vs:=[i64 a.Kind,i64 a.Value]) aHT hs b6 rfl rfl rfl) (aC (aCG (vs:=[(0,zA #[i64 a.Kind,i64 a.Value])]) (cs:=[i64 a.Kind,i64 a.Value,zS none 0 0]) bs_292 rfl (by kernel_rfl)) (eR (v:=zA #[i64 a.Kind,i64 a.Value,zS none 0 0]) (vs:=[i64 a.Kind,i64 a.Value,zS none 0 0]) hs rfl rfl (fun b g2 b7=>(aH (v:=zP (some ⟨b,0,none⟩)) (aL (aK (aO (v:=zS a1 e.length c2) ?_)))))));obtain ⟨d0,b8,hm⟩:=aB hm
 obtain ⟨d1,d2,c0⟩:=Cut.ex 2 a1 c2 1
 have g3:=aY.cut' g b8 c0
 refine aC (aON nL g.room c0 rfl rfl rfl b8) (aH (v:=zS d1 d0.length d2) (aL (aI (aK (aO (v:=zS a1 e.length c2) (aC (cL nL rfl g rfl rfl rfl q5) (aC (dU (t:=0) (vs:=[i64 a.Kind,i64 a.Value]) aHT b7 b6 rfl rfl rfl) ?_)))))));obtain ⟨g4,d3,hm⟩:=aB hm
 refine aW (vs:=[zA #[i64 a.Kind,i64 a.Value]]) call263 rfl (aAv d3 b7) ?_
 rintro _ g5 ⟨rfl,d4⟩
 refine aO (v:=i64 0) (aL (aQ [4] (fun f w=>∃ y j z a0 a2 J V,Hp.le K y/\aDu a j z=some R/\f 5=zS J z.length V/\aY y J V z/\aG G y (aT 256 y a0 a2 j::box b 292 [i64 a.Kind,i64 a.Value,zS a0 j.length a2]::L) w) ?_ ?_))
 ·rintro f c1 ⟨y,j,z,a0,a2,J,V,d5,hm,d6,d7,d8⟩
  unfold aDu at hm
  refine aF (aK (aO (v:=zP (some ⟨b,0,none⟩)) (bO d6 (aH (v:=zP (some ⟨b,0,none⟩)) (aH (v:=zS J z.length V) (aL ?_))))));obtain ⟨d9,c3,e0,a9⟩:=aG.giveSp d8 (Hp.le_refl _) .head
  replace a9:aG G d9 (box b 292 [i64 a.Kind,i64 a.Value,zS a0 j.length a2]::L) c1:=a9
  obtain ⟨b0,b1,e1,b2,_⟩:=aG.lendBp a9 .head
  replace b2:aG G b0 (L) c1:=b2
  have e2:trd b0 (Tr.mk a j) (some ⟨b,0,none⟩):=trd_mk e1 (e0.mono b1)
  obtain rfl:=Option.some.inj hm
  exact aIA (retQ_2 results233 rfl rfl ⟨b0,(some ⟨b,0,none⟩),J,V,(tp2 (elp_b rfl) rfl),(zL (zL d5 c3) b1),e2,(d7.mono (zL c3 b1)),b2⟩)
 have g6:=aG.nil (α:=(Tr aR)) d4 256 K
 obtain ⟨g7,e5,ho⟩:=aB hm
 refine aBy [4,17] e5 (fun k a3 b3 f w=>∃ l m n a4 a5,Hp.le K l/\f 5=zS a4 a3.length a5/\f 18=i64 b3/\aY l a4 a5 a3/\aG G l (aT 256 l m n k::box b 292 [i64 a.Kind,i64 a.Value,zS m k.length n]::L) w) aE ?_
 ·rintro k a3 b3 g8 f g9 hm hr ⟨l,m,n,a4,a5,e6,e7,c4,e8,e9⟩
  unfold tI at hm
  refine aK (aC (dR c4 rfl) (aL (aI ?_)))
  rcases aJ hm with ⟨c5,hm⟩|⟨c5,hm⟩
  ·refine aS c5 rfl (aU (aF (aI (bK (aK (aH (v:=zP none) (aL (aK (bO e7 ?_)))))))));obtain ⟨a6,f0,hm⟩:=aB hm
   refine aW (vs:=[zS a4 a3.length a5]) call233 rfl (ih f0 e9 e8) ?_
   rintro _ h0 ⟨d,o,b4,b5,rfl,c6,f1,f2,c7⟩
   refine aO (v:=zT #[cH o 0,zS b4 a6.2.length b5]) (aC (iE rfl rfl) (aC (iE rfl rfl) (aH (v:=cH o 0) (aH (v:=zS b4 a6.2.length b5) (aL (bQ (aO (v:=zP (some ⟨b,0,none⟩)) (aO (v:=zP (some ⟨b,0,none⟩)) (aC (vD rfl) (aC (bI (t':=2) aBG rfl rfl) (aC (dH aKg c7 (i:=1) rfl rfl rfl) (aO (v:=cH o 0) (dK (Kt:=d) (xs:=([a6.1]:List (Tr aR))) (cs:=[cH o 0]) (vs:=[(0,cH o 0)]) aHU ez_256 rfl rfl c7 rfl (by kernel_rfl) rfl rfl rfl ⟨⟨o,rfl,f1⟩,trivial⟩ (fun f3 f4 (f5:aG G d (aT 256 d f3 1 ([a6.1]:List (Tr aR))::aT 256 l m n k::box b 292 [i64 a.Kind,i64 a.Value,zS m k.length n]::L) f4)=>?_))))))))))))))
   obtain ⟨Z,f6,hm⟩:=aB hm
   exact WO_appO (i:=0) d aHU underlying290 ez_256 rfl rfl f5 rfl c6 (Hp.le_refl _) f6 rfl rfl rfl rfl (fun _ _ _ h=>El.one h) (fun p q f7 (f8:aG G d (aT 256 d p q Z::box b 292 [i64 a.Kind,i64 a.Value,zS m k.length n]::L) f7)=>(aC (vD rfl) (aC (bI (t':=2) aBG rfl rfl) (eY (i:=1) (ns:=[zS p Z.length q]) (us:=[i64 a.Kind,i64 a.Value,zS p Z.length q]) sizeOf290 f8 rfl rfl rfl rfl rfl (kI rfl) rfl rfl (fun f9 (g0:aG G d (aT 256 d p q Z::box b 292 [i64 a.Kind,i64 a.Value,zS p Z.length q]::L) f9)=>(bY (eV (aF (bQ (aC (oD c4 rfl) (aO (v:=i64 (wr (b3+1))) (aL ⟨_,(Option.some.inj hm).symm,gH,d,p,q,b4,b5,(zL e6 c6),rfl,rfl,f2,g0⟩))))))))))))
  ·exact aE
theorem aDf (n:Nat):∀ {G:kE} {K:Hp} {L:List eT} {w:World} {e:(List aR)} {a1:Option Addr} {c2:Nat} {R:((Tr aR) × (List aR))} (hm:kL n e=some R) (a:aG G K (L) w) (b:aY K a1 c2 e),
  Calls prog 233 ([zS a1 e.length c2]:List Value).toArray w (cK fun v w'=>∃ c d g h,v=zT #[cH d 0,zS g R.2.length h]/\Hp.le K c/\trd c R.1 d/\aY c g h R.2/\aG G c (L) w'):=by
 induction n with
 |zero=>
  intro G K L w e a1 c2 R hm a b
  unfold kL at hm
  cases hm
 |succ n ih=>
  intro G K L w e a1 c2 R hm a b
  exact aDe (rec_:=kL n) (fun hm a b=>ih hm a b) hm a b
theorem aLx {e:(List aR)} {R:((Tr aR) × (List aR))} (hm:aIa e=some R) (hs:aG G K (L) w) (h3:aY K a1 c2 e):
  Calls prog 233 ([zS a1 e.length c2]:List Value).toArray w (cK fun v w'=>∃ K' ra1 ra2 rc2,v=zT #[cH ra1 0,zS ra2 R.2.length rc2]/\Hp.le K K'/\trd K' R.1 ra1/\aY K' ra2 rc2 R.2/\aG G K' (L) w'):=aDf 100000 hm hs h3
theorem aGm {e:(List aR)} {R:(Tr aR)} (hm:aIb e=some R) (c:aG G K (L) w) (d:aY K a1 c2 e):
  Calls prog 200 ([zS a1 e.length c2]:List Value).toArray w (cK fun v w'=>∃ a b,v=cH b 0/\Hp.le K a/\trd a R b/\aG G a (L) w'):=by
 exact aE
theorem pY {b:(Tr aR)} {R:Int} (hm:iC b=some R) (c:aG G K (L) w) (g:trd K b a1):
  Calls prog 235 ([cH a1 0]:List Value).toArray w (cK fun v w'=>v=i64 R/\aG G K (L) w'):=by
 refine aM func235 rfl (by kernel_rfl) (by show (1:Nat)<=16;decide) ?_;unfold iC at hm
 refine aK (aH (v:=i64 0) (aL (aI (aK (aO (v:=cH a1 0) ?_)))));obtain ⟨h,i,a,l⟩:=trd.el g
 replace a:eQ K a1 0 [i64 b.val.Kind,i64 b.val.Value,zS h b.kids.length i]:=a
 refine aC (eD rfl a) (aC (cQ (k':=0+0) aDE rfl a rfl) (aC (cQ (k':=0+0) aFE rfl a rfl) (aC (cC (t:=0) iK c a rfl rfl) (aC (dS rfl rfl) (aL ?_)))))
 rcases aJ hm with ⟨d,hm⟩|⟨d,hm⟩
 ·refine aS d rfl (aK (aO (v:=cH a1 0) (aC (eD rfl a) (aC (cQ (k':=0+0) aDE rfl a rfl) (aC (cQ (k':=0+1) aBD rfl a rfl) (aC (cC (t:=1) iK c a rfl rfl) ?_))))));obtain ⟨j,e,hm⟩:=aB hm
  refine aC (R_ixT (tab:=aKe) ar_314 rfl rfl e) (aC (R_ldT (tab:=aKe) iK (tab_3 c) e rfl) (aH (v:=i64 j) (aL ?_)));obtain rfl:=Option.some.inj hm
  exact aIA (aOC (aKc results235 rfl ⟨rfl,c⟩))
 ·exact aE
theorem mH {rec_:(Tr aR)->Option aN} (g:∀ {G:kE} {K:Hp} {L:List eT} {w:World} {h:(Tr aR)} {a1:Option Addr} {R:aN} (hm:rec_ h=some R) (b:aG G K (L) w) (c:trd K h a1),
  Calls prog 201 ([cH a1 0]:List Value).toArray w (cK fun v w'=>v=str R/\aG G K (L) w')) {G:kE} {K:Hp} {L:List eT} {w:World} {a:(Tr aR)} {a1:Option Addr} {d:Bool} {R:aN} (hm:fU rec_ a d=some R) (b:aG G K (L) w) (c:trd K a a1):
  Calls prog 234 ([cH a1 0,zB d]:List Value).toArray w (cK fun v w'=>v=str R/\aG G K (L) w'):=by
 refine aM func234 rfl (by kernel_rfl) (by show (2:Nat)<=12;decide) ?_;unfold fU at hm
 refine aK (aH (v:=str ([]:aN)) (aL (aI (aK (aO (v:=zB d) (aL ?_))))))
 rcases aJ hm with ⟨e,hm⟩|⟨e,hm⟩
 ·refine aS e rfl (aK (aO (v:=cH a1 0) ?_));obtain ⟨k,i,hm⟩:=aB hm
  exact aW (vs:=[cH a1 0]) call201 rfl (g i b c) aE
 ·refine aP e rfl (aU (aF (aK (aO (v:=cH a1 0) ?_))));obtain ⟨l,j,hm⟩:=aB hm
  exact aW (vs:=[cH a1 0]) call201 rfl (g j b c) aE
theorem aCt {rec_:(Tr aR)->Option aN} (m:∀ {G:kE} {K:Hp} {L:List eT} {w:World} {c:(Tr aR)} {a1:Option Addr} {R:aN} (hm:rec_ c=some R) (a:aG G K (L) w) (n:trd K c a1),
  Calls prog 201 ([cH a1 0]:List Value).toArray w (cK fun v w'=>v=str R/\aG G K (L) w'))
  {G:kE} {K:Hp} {L:List eT} {w:World} {c:(Tr aR)} {a1:Option Addr} {R:aN} (hm:jF rec_ c=some R) (a:aG G K (L) w) (n:trd K c a1):
  Calls prog 201 ([cH a1 0]:List Value).toArray w (cK fun v w'=>v=str R/\aG G K (L) w'):=by
 refine aM func201 rfl (by kernel_rfl) (by show (1:Nat)<=88;decide) ?_;unfold jF at hm
 refine aK (aH (v:=str ([]:aN)) (aL (aK (aH (v:=Value.func (.func 234) #[] #[]) (aL (aI (aK (aO (v:=cH a1 0) ?_))))))));obtain ⟨a3,c4,b,g⟩:=trd.el n
 replace b:eQ K a1 0 [i64 c.val.Kind,i64 c.val.Value,zS a3 c.kids.length c4]:=b
 refine aC (eD rfl b) (aC (cQ (k':=0+0) aDE rfl b rfl) (aC (cQ (k':=0+0) aFE rfl b rfl) (aC (cC (t:=0) iK a b rfl rfl) (aL (bK (aK (aC (dS rfl rfl) (aH (v:=zB (c.val.Kind == 0)) (aL ?_)))))))))
 rcases aJ hm with ⟨r,hm⟩|⟨r,hm⟩
 ·exact aE
 ·refine aP r rfl (aK (aC (dS rfl rfl) (aH (v:=zB (c.val.Kind == 1)) (aL ?_))))
  rcases aJ hm with ⟨u,hm⟩|⟨u,hm⟩
  ·exact aE
  ·refine aP u rfl (aK (aC (dS rfl rfl) (aH (v:=zB (c.val.Kind == 3)) (aL ?_))))
   rcases aJ hm with ⟨o,hm⟩|⟨o,hm⟩
   ·refine aS o rfl (aI (mJ (C:=fun w'=>∃ L',aG G K L' w') [(0,0),(1,0),(2,0),(3,0),(4,0),(5,0),(6,0),(7,0),(8,0),(9,0),(10,0),(11,0),(12,0),(13,0),(14,0),(15,0),(16,0),(17,0),(18,1),(19,0),(20,0)] Tryz_mixed (by kernel_rfl) (fun _ hg=>⟨_,aG.mono a hg⟩) (fun c9 b1=>?_)))
    have d:=aG.mono a b1
    refine dI rfl (fun _ _=>bE (v:=Value.func (.func 234) #[] #[]) rfl) (dI rfl (fun _ _=>bE (v:=cH a1 0) rfl) (dI rfl (fun _ _=>eD rfl b) (dI rfl (fun _ _=>cQ (k':=0+2) aBG rfl b rfl) (dI rfl (fun _ ⟨_,d⟩=>cC (t:=2) aKg d b rfl rfl) ?_))));obtain ⟨k,p,hm⟩:=aB hm
    refine dI rfl (fun _ _=>cL aHU rfl g rfl rfl rfl p) ?_;obtain ⟨d0,x,b2⟩:=aY.el (sz:=1) rfl g p
    obtain ⟨q,rfl,y⟩:=b2
    refine dI rfl (fun _ ⟨_,d⟩=>cC (t:=0) aMf d x rfl rfl) (dI rfl (fun _ _=>bE (v:=cH a1 0) rfl) (dI rfl (fun _ _=>eD rfl b) (dI rfl (fun _ _=>cQ (k':=0+2) aBG rfl b rfl) (dI rfl (fun _ ⟨_,d⟩=>cC (t:=2) aKg d b rfl rfl) (dI rfl (fun _ _=>cL aHU rfl g rfl rfl rfl p) (dI rfl (fun _ ⟨_,d⟩=>cC (t:=0) aMf d x rfl rfl) ?_))))));obtain ⟨b3,b4,h,d1⟩:=trd.el y
    replace h:eQ K q 0 [i64 k.val.Kind,i64 k.val.Value,zS b3 k.kids.length b4]:=h
    refine dI rfl (fun _ _=>eD rfl h) (dI rfl (fun _ _=>cQ (k':=0+0) aDE rfl h rfl) (dI rfl (fun _ _=>cQ (k':=0+0) aFE rfl h rfl) (dI rfl (fun _ ⟨_,d⟩=>cC (t:=0) iK d h rfl rfl) (dI rfl (fun _ _=>dS rfl rfl) (vG rfl ?_)))));obtain ⟨d2,b5,hm⟩:=aB hm
    exact eI (vs:=[cH q 0,zB (k.val.Kind == 2)]) (caps:=[]) (us:=[cH q 0,zB (k.val.Kind == 2)]) rfl call234 rfl rfl (mH m b5 d y) aE
   ·refine aP o rfl (aU (eV (aF (aI (fY (C:=fun w'=>aG G K (L) w') Tryz_mixed (by kernel_rfl) (aG.mono a (eG.drew _)) (bD (fun _ a=>bE (v:=cH a1 0) rfl) (bD (fun _ a=>eD rfl b) (bD (fun _ a=>cQ (k':=0+2) aBG rfl b rfl) (bD (fun _ a=>cC (t:=2) aKg a b rfl rfl) ?_)))))))));obtain ⟨d3,z,hm⟩:=aB hm
    refine bD (fun _ a=>cL aHU rfl g rfl rfl rfl z) ?_;obtain ⟨d4,b6,b7⟩:=aY.el (sz:=1) rfl g z
    obtain ⟨i,rfl,J⟩:=b7
    refine bD (fun _ a=>cC (t:=0) aMf a b6 rfl rfl) (bD (fun _ a=>bE (v:=cH a1 0) rfl) (bD (fun _ a=>eD rfl b) (bD (fun _ a=>cQ (k':=0+2) aBG rfl b rfl) (bD (fun _ a=>cC (t:=2) aKg a b rfl rfl) ?_))));obtain ⟨d5,V,hm⟩:=aB hm
    refine bD (fun _ a=>cL aHU rfl g rfl rfl rfl V) ?_;obtain ⟨d6,b8,b9⟩:=aY.el (sz:=1) rfl g V
    obtain ⟨j,rfl,Z⟩:=b9
    refine bD (fun _ a=>cC (t:=0) aMf a b8 rfl rfl) (bD (fun _ a=>bE (v:=cH a1 0) rfl) ?_);obtain ⟨e,c0,hm⟩:=aB hm
    refine iM (vs:=[cH a1 0]) (v:=i64 e) call235 rfl (fun _ a=>(pY c0 a n)) (bD (fun _ a=>eO (v:=cH i 0) rfl) (bD (fun _ a=>eO (v:=cH j 0) rfl) (bD (fun _ a=>eO (v:=i64 e) rfl) (vE (fun d7 a0=>(aF (aI (mJ (C:=fun w'=>∃ L',aG G K L' w') [(0,0),(1,0),(2,0),(4,0),(7,0),(8,0),(9,0),(10,0),(11,0),(12,0),(13,0),(15,0),(16,0),(17,0),(19,0),(3,1),(5,0),(6,1),(14,0),(18,1),(20,0),(21,1),(22,0),(23,0)] Tryz_mixed (by kernel_rfl) (fun _ hg=>⟨_,aG.mono a0 hg⟩) (fun d8 c1=>?_)))))))))
    have l:=aG.mono a0 c1
    refine dI rfl (fun _ _=>bE (v:=Value.func (.func 234) #[] #[]) rfl) (dI rfl (fun _ _=>bE (v:=cH i 0) rfl) (dI rfl (fun _ _=>bE (v:=cH i 0) rfl) (dI rfl (fun _ _=>bE (v:=i64 e) rfl) (dI rfl (fun _ _=>bE (v:=cH a1 0) rfl) (dI rfl (fun _ _=>eD rfl b) (dI rfl (fun _ _=>cQ (k':=0+0) aDE rfl b rfl) (dI rfl (fun _ _=>cQ (k':=0+1) aBD rfl b rfl) (dI rfl (fun _ ⟨_,l⟩=>cC (t:=1) iK l b rfl rfl) ?_))))))))
    obtain ⟨d9,a2,hm⟩:=aB hm
    refine dI rfl (fun _ _=>R_ixT (tab:=aHP) ar_294 rfl rfl a2) (dI rfl (fun _ ⟨_,l⟩=>R_ldT (tab:=aHP) nK (tab_1 l) a2 rfl) (dI rfl (fun _ _=>bE (v:=Value.func (.func 234) #[] #[]) rfl) (dI rfl (fun _ _=>bE (v:=cH j 0) rfl) (dI rfl (fun _ _=>bE (v:=cH j 0) rfl) (dI rfl (fun _ _=>bE (v:=i64 e) rfl) (vG rfl ?_))))));obtain ⟨a4,c2,hm⟩:=aB hm
    refine aW (vs:=[cH i 0]) call235 rfl (pY c2 l J) ?_
    rintro _ e0 ⟨rfl,a5⟩
    refine bY (aF ⟨⟨_,a5⟩,?_⟩)
    refine dI rfl (fun _ _=>dR rfl rfl) (vG rfl ?_);obtain ⟨e1,c3,hm⟩:=aB hm
    refine eI (vs:=[cH i 0,zB (decide (a4 < e))]) (caps:=[]) (us:=[cH i 0,zB (decide (a4 < e))]) rfl call234 rfl rfl (mH m c3 a5 J) ?_
    rintro _ e2 ⟨rfl,a6⟩
    refine bY (aF ⟨⟨_,a6⟩,?_⟩)
    obtain ⟨e3,c5,hm⟩:=aB hm
    refine dI rfl (fun _ _=>eM rfl rfl c5) (vG rfl ?_);obtain ⟨a7,c6,hm⟩:=aB hm
    refine aW (vs:=[cH j 0]) call235 rfl (pY c6 a6 Z) ?_
    rintro _ e4 ⟨rfl,a8⟩
    refine bY (aF ⟨⟨_,a8⟩,?_⟩)
    refine dI rfl (fun _ _=>R_leq rfl rfl) (vG rfl ?_);obtain ⟨e5,c8,hm⟩:=aB hm
    exact eI (vs:=[cH j 0,zB (decide (a7<=e))]) (caps:=[]) (us:=[cH j 0,zB (decide (a7<=e))]) rfl call234 rfl rfl (mH m c8 a8 Z) aE
theorem aCu (n:Nat):∀ {G:kE} {K:Hp} {L:List eT} {w:World} {c:(Tr aR)} {a1:Option Addr} {R:aN} (hm:fX n c=some R) (a:aG G K (L) w) (b:trd K c a1),
  Calls prog 201 ([cH a1 0]:List Value).toArray w (cK fun v w'=>v=str R/\aG G K (L) w'):=by
 induction n with
 |zero=>
  intro G K L w c a1 R hm a b
  unfold fX at hm
  cases hm
 |succ n ih=>
  intro G K L w c a1 R hm a b
  exact aCt (rec_:=fX n) (fun hm a b=>ih hm a b) hm a b
theorem yK {x_:(Tr aR)} {R:aN} (hm:aAo x_=some R) (hs:aG G K (L) w) (h2:trd K x_ a1):
  Calls prog 201 ([cH a1 0]:List Value).toArray w (cK fun v w'=>v=str R/\aG G K (L) w'):=aCu 100000 hm hs h2
theorem zU {a:(List (List aR))} {R:aN} (hm:aAp a=some R) (l:aG G K (L) w) (o:G.lo=0) (p:aY K a1 c2 a):
  Calls prog 198 ([zS a1 a.length c2]:List Value).toArray w (cK fun v w'=>v=str R/\aG G K (L) w'):=by
 refine aM func198 rfl (by kernel_rfl) (by show (1:Nat)<=26;decide) ?_;unfold aAp at hm
 refine aK (aH (v:=str ([]:aN)) (aL (aI (aK (aO (v:=zS a1 a.length c2) (aC (aV (len:=a.length) mK rfl) (aC (dS rfl rfl) (aL ?_))))))))
 rcases aJ hm with ⟨c,hm⟩|⟨c,hm⟩
 ·exact aE
 ·refine aP c rfl (aU (aF (aK (aH (v:=zS none 0 0) (aL (aI (aK (aO (v:=zS a1 a.length c2) (aC (aV (len:=a.length) mK rfl) (aO (v:=i64 0) (aL (aQ [] (fun f w=>∃ d b e g,Hp.le K d/\aFX b=some R/\f 3=zS e b.length g/\aG G d (aT 9 K e g b::L) w) aE ?_))))))))))))
  have q:=aG.nil (α:=aN) l 9 K
  obtain ⟨r,m,ho⟩:=aB hm
  exact cG [9,10] m (fun h n f w=>∃ i j k,Hp.le K i/\f 3=zS j h.length k/\f 11=i64 n/\aG G i (aT 9 K j k h::L) w) aE aE
theorem jR {rec_:(List Definition)->(List bG)->Option (aN × (List bG))} (n:∀ {G:kE} {K:Hp} {L:List eT} {w:World} {Kf:Hp} {b1:Nat} {a:(List Definition)} {a2:Option Addr} {c3:Nat} {b:List (Dp.Hd Definition)} {c:(List bG)} {a6:Option Addr} {c7:Nat} {R:(aN × (List bG))} (hm:rec_ a c=some R) (e:aG G K (aT 94 K a2 c3 (cD b a)::rows [147,199,202] b a::box b1 226 [zS a2 a.length c3,zS a6 c.length c7]::L) w) (k:G.lo=0) (d:Hp.le Kf K) (l:List.length b=List.length a) (g:aY Kf a6 c7 c),
  Calls prog 163 ([zP (some ⟨b1,0,none⟩)]:List Value).toArray w (cK fun v w'=>∃ h j,v=str R.1/\aY Kf h j R.2/\aG G K (aT 94 K a2 c3 (cD b a)::rows [147,199,202] b a::box b1 226 [zS a2 a.length c3,zS h R.2.length j]::L) w')) {G:kE} {K:Hp} {L:List eT} {w:World} {Kf:Hp} {b1:Nat} {a:(List Definition)} {a2:Option Addr} {c3:Nat} {b:List (Dp.Hd Definition)} {c:(List bG)} {a6:Option Addr} {c7:Nat} {R:(aN × (List bG))} (hm:iZ rec_ a c=some R) (e:aG G K (aT 94 K a2 c3 (cD b a)::rows [147,199,202] b a::box b1 226 [zS a2 a.length c3,zS a6 c.length c7]::L) w) (k:G.lo=0) (d:Hp.le Kf K) (l:List.length b=List.length a) (g:aY Kf a6 c7 c):
  Calls prog 199 ([zP (some ⟨b1,0,none⟩)]:List Value).toArray w (cK fun v w'=>∃ h j,v=str R.1/\aY Kf h j R.2/\aG G K (aT 94 K a2 c3 (cD b a)::rows [147,199,202] b a::box b1 226 [zS a2 a.length c3,zS h R.2.length j]::L) w'):=by
 refine aM func199 rfl (by kernel_rfl) (by show (1:Nat)<=17;decide) ?_;unfold iZ at hm
 refine aK (aH (v:=str ([]:aN)) (aL (aI (aK (aO (v:=zP (some ⟨b1,0,none⟩)) (aC (vD rfl) (aC (bI (t':=1) vK rfl rfl) (aC (dH aDD e (i:=2) rfl rfl rfl) ?_))))))));obtain ⟨x,o,hm⟩:=aB hm
 refine aC (cL rY rfl (g.mono d) rfl rfl rfl o) ?_;obtain ⟨y,p,q⟩:=aY.el (sz:=4) rfl g o
 obtain ⟨z,J,rfl,V⟩:=q
 refine aC (cQ (k':=(0:Int).toNat * 4+0) oH rfl (p.mono d) rfl) (aC (cC (t:=0) iK e (p.mono d) rfl rfl) (aC (dS rfl rfl) (aL ?_)))
 rcases aJ hm with ⟨m,hm⟩|⟨m,hm⟩
 ·refine aS m rfl (aK (aO (v:=zP (some ⟨b1,0,none⟩)) ?_));obtain ⟨Z,r,hm⟩:=aB hm
  exact aW (vs:=[zP (some ⟨b1,0,none⟩)]) call163 rfl (n (Kf:=Kf) r e k d l g) aE
 ·refine aP m rfl (aU (aF (aK (aO (v:=zP (some ⟨b1,0,none⟩)) ?_))));obtain ⟨a0,u,hm⟩:=aB hm
  exact aW (vs:=[zP (some ⟨b1,0,none⟩)]) call163 rfl (n (Kf:=Kf) u e k d l g) aE
theorem tL {rec_:(List Definition)->(List bG)->Option (aN × (List bG))} (J:∀ {G:kE} {K:Hp} {L:List eT} {w:World} {Kf:Hp} {b1:Nat} {b:(List Definition)} {a2:Option Addr} {c3:Nat} {d:List (Dp.Hd Definition)} {j:(List bG)} {a6:Option Addr} {c7:Nat} {R:(aN × (List bG))} (hm:rec_ b j=some R) (V:aG G K (aT 94 K a2 c3 (cD d b)::rows [147,199,202] d b::box b1 226 [zS a2 b.length c3,zS a6 j.length c7]::L) w) (l:G.lo=0) (e:Hp.le Kf K) (k:List.length d=List.length b) (p:aY Kf a6 c7 j),
  Calls prog 163 ([zP (some ⟨b1,0,none⟩)]:List Value).toArray w (cK fun v w'=>∃ q r,v=str R.1/\aY Kf q r R.2/\aG G K (aT 94 K a2 c3 (cD d b)::rows [147,199,202] d b::box b1 226 [zS a2 b.length c3,zS q R.2.length r]::L) w'))
  {G:kE} {K:Hp} {L:List eT} {w:World} {Kf:Hp} {b1:Nat} {b:(List Definition)} {a2:Option Addr} {c3:Nat} {d:List (Dp.Hd Definition)} {j:(List bG)} {a6:Option Addr} {c7:Nat} {R:(aN × (List bG))} (hm:sA rec_ b j=some R) (V:aG G K (aT 94 K a2 c3 (cD d b)::rows [147,199,202] d b::box b1 226 [zS a2 b.length c3,zS a6 j.length c7]::L) w) (l:G.lo=0) (e:Hp.le Kf K) (k:List.length d=List.length b) (p:aY Kf a6 c7 j):
  Calls prog 163 ([zP (some ⟨b1,0,none⟩)]:List Value).toArray w (cK fun v w'=>∃ q r,v=str R.1/\aY Kf q r R.2/\aG G K (aT 94 K a2 c3 (cD d b)::rows [147,199,202] d b::box b1 226 [zS a2 b.length c3,zS q R.2.length r]::L) w'):=by
 let Z:=[zP (some ⟨b1,0,none⟩)]
 let u:=aT 94 K a2 c3 (cD d b)
 let x:=rows [147,199,202] d b
 refine aM func163 rfl (by kernel_rfl) (by show (1:Nat)<=80;decide) ?_;unfold sA at hm
 refine aK (aH (v:=str ([]:aN)) (aL (aK (aO (v:=zP (some ⟨b1,0,none⟩)) (aC (vD rfl) (aC (bI (t':=1) vK rfl rfl) (aC (dH aDD V (i:=2) rfl rfl rfl) ?_)))))));obtain ⟨a,a8,hm⟩:=aB hm
 refine aC (cL rY rfl (p.mono e) rfl rfl rfl a8) ?_;obtain ⟨g4,c5,c6⟩:=aY.el (sz:=4) rfl p a8
 obtain ⟨g,h,rfl,a0⟩:=c6
 refine aC (dU (t:=0) (vs:=[i64 a.Kind,i64 a.Number,str a.Name,zS g a.Arguments.length h]) xR V (c5.mono e) rfl rfl rfl) (eA (vs:=[i64 0,i64 0,str ([]:aN),zS none 0 0]) zeroValue147 V rfl (fun y g5 c8=>(eY (i:=0) (ns:=[i64 a.Kind,i64 a.Number,str a.Name,zS g a.Arguments.length h]) (us:=[i64 a.Kind,i64 a.Number,str a.Name,zS g a.Arguments.length h]) sizeOf147 c8 rfl rfl rfl rfl rfl (kI rfl) rfl rfl (fun c9 (a9:aG G K (box y 147 [i64 a.Kind,i64 a.Number,str a.Name,zS g a.Arguments.length h]::u::x::box b1 226 [zS a2 b.length c3,zS a6 j.length c7]::L) c9)=>(aL (aK (aO (v:=zP (some ⟨b1,0,none⟩)) (aO (v:=zP (some ⟨b1,0,none⟩)) (aC (vD rfl) (aC (bI (t':=1) vK rfl rfl) (aC (dH aDD a9 (i:=3) rfl rfl rfl) ?_)))))))))))
 obtain ⟨m,b0,hm⟩:=aB hm
 obtain ⟨n,o,b2⟩:=Cut.ex 4 a6 c7 1
 have a3:=aY.cut' p b0 b2
 refine aC (aON rY p.room b2 rfl rfl rfl b0) (aC (vD rfl) (aC (bI (t':=1) vK rfl rfl) (eY (i:=3) (ns:=[zS n m.length o]) (us:=[zS a2 b.length c3,zS n m.length o]) sizeOf92 a9 rfl rfl rfl rfl rfl (kI rfl) rfl rfl (fun b3 (c:aG G K (box y 147 [i64 a.Kind,i64 a.Number,str a.Name,zS g a.Arguments.length h]::u::x::box b1 226 [zS a2 b.length c3,zS n m.length o]::L) b3)=>(aL (aI (aK (aC (bI (t':=0) oH rfl rfl) (aC (dH iK c (i:=0) rfl rfl rfl) (aL (bK (aK (aC (dS rfl rfl) (aH (v:=zB (a.Kind == 1)) (aL ?_)))))))))))))))
 rcases aJ hm with ⟨a4,hm⟩|⟨a4,hm⟩
 ·refine aS a4 rfl (aI ?_);obtain ⟨d0,b4,b5,b6,g6⟩:=aG.lendBp c .head
  refine mJ (C:=fun w'=>∃ L',aG G d0 L' w') [(0,0),(1,0),(2,0),(3,0),(7,0),(4,1),(5,0),(6,0),(8,1),(9,0),(10,0)] Tryz_mixed (by kernel_rfl) (fun _ hg=>⟨_,aG.mono b6 hg⟩) (fun g7 d1=>?_)
  have z:=aG.mono b6 d1
  refine dI rfl (fun _ _=>bI (t':=2) aIM rfl rfl) (dI rfl (fun _ ⟨_,z⟩=>cC (t:=2) nK z b5 rfl rfl) (dI rfl (fun _ _=>bI (t':=3) oI rfl rfl) (dI rfl (fun _ ⟨_,z⟩=>cC (t:=3) aAB z b5 rfl rfl) (dI rfl (fun _ _=>bE (v:=zP (some ⟨b1,0,none⟩)) rfl) (vG rfl ?_)))));obtain ⟨g8,d2,hm⟩:=aB hm
  refine aW (vs:=[zS g a.Arguments.length h]) call198 rfl (zU d2 z l (a0.mono (zL e b4))) ?_
  rintro _ g9 ⟨rfl,b7⟩
  refine bY (aF ⟨⟨_,b7⟩,?_⟩)
  obtain ⟨h0,d3,hm⟩:=aB hm
  refine dI rfl (fun _ _=>eM rfl rfl d3) ?_;obtain ⟨h1,d4,hm⟩:=aB hm
  refine dI rfl (fun _ _=>eM rfl rfl d4) (vG rfl ?_);obtain ⟨h2,d5,hm⟩:=aB hm
  exact aW (vs:=Z) call199 rfl (jR J (Kf:=Kf) d5 b7 l (zL e b4) k a3) aE
 ·refine aP a4 rfl (aK (aC (dS rfl rfl) (aH (v:=zB (a.Kind == 2)) (aL ?_))))
  rcases aJ hm with ⟨a5,hm⟩|⟨a5,hm⟩
  ·refine aS a5 rfl (aK (aO (v:=zP (some ⟨b1,0,none⟩)) ?_))
   have d6:aG G K (u::x::box b1 226 [zS a2 b.length c3,zS n m.length o]::box y 147 [i64 a.Kind,i64 a.Number,str a.Name,zS g a.Arguments.length h]::L) b3:=(aG.arr 4 [1,2,3,0] c rfl)
   obtain ⟨b8,d7,hm⟩:=aB hm
   refine aW (vs:=Z) call199 rfl (jR J (Kf:=Kf) d7 d6 l e k a3) ?_
   rintro _ h3 ⟨h4,h5,rfl,d8,d9⟩
   refine aH (v:=str b8.1) (aL (aK (aO (v:=str b8.1) ?_)));obtain ⟨h6,e0,hm⟩:=aB hm
   refine aC (eM rfl rfl e0) (aO (v:=zP (some ⟨b1,0,none⟩)) ?_);obtain ⟨h7,e1,hm⟩:=aB hm
   exact aW (vs:=Z) call163 rfl (J (Kf:=Kf) e1 d9 l e k d8) aE
  ·refine aP a5 rfl (aK (aC (dS rfl rfl) (aH (v:=zB (a.Kind == 3)) (aL ?_))))
   rcases aJ hm with ⟨a7,hm⟩|⟨a7,hm⟩
   ·refine aS a7 rfl (aK (aC (bI (t':=3) oI rfl rfl) (aC (dH aAB c (i:=0) rfl rfl rfl) ?_)));obtain ⟨e2,b9,hm⟩:=aB hm
    refine aC (cL mK rfl (a0.mono e) rfl rfl rfl b9) ?_;obtain ⟨h9,e3,e4⟩:=aY.el (sz:=1) rfl a0 b9
    obtain ⟨e5,e6,rfl,e7⟩:=e4
    refine aC (cC (t:=0) aHS c (e3.mono e) rfl rfl) ?_;obtain ⟨i0,e8,hm⟩:=aB hm
    refine aW (vs:=[zS e5 e2.length e6]) call200 rfl (aGm e8 c (e7.mono e)) ?_
    rintro _ i1 ⟨f0,f1,rfl,f2,f3,f4⟩
    obtain ⟨i2,f5,hm⟩:=aB hm
    refine aW (vs:=[cH f1 0]) call201 rfl (yK f5 f4 f3) ?_
    rintro _ f6 ⟨rfl,f7⟩
    obtain ⟨i3,f8,hm⟩:=aB hm
    refine aC (eM rfl rfl f8) ?_;obtain ⟨i4,f9,hm⟩:=aB hm
    refine aC (eM rfl rfl f9) (aO (v:=zP (some ⟨b1,0,none⟩)) ?_)
    have g0:aG G f0 (u::x::box b1 226 [zS a2 b.length c3,zS n m.length o]::box y 147 [i64 a.Kind,i64 a.Number,str a.Name,zS g a.Arguments.length h]::L) f6:=(aG.arr 4 [1,2,3,0] f7 rfl)
    obtain ⟨i5,g1,hm⟩:=aB hm
    exact aW (vs:=Z) call199 rfl (jR J (Kf:=Kf) g1 g0 l (zL e f2) k a3) aE
   ·refine aP a7 rfl (aK (aC (dS rfl rfl) (aH (v:=zB (a.Kind == 4)) (aL ?_))))
    rcases aJ hm with ⟨c0,hm⟩|⟨c0,hm⟩
    ·exact aE
    ·refine aP c0 rfl (aK (aC (dS rfl rfl) (aH (v:=zB (a.Kind == 5)) (aL ?_))))
     rcases aJ hm with ⟨c1,hm⟩|⟨c1,hm⟩
     ·refine aS c1 rfl (aI (fY (C:=fun w'=>aG G K (box y 147 [i64 a.Kind,i64 a.Number,str a.Name,zS g a.Arguments.length h]::u::x::box b1 226 [zS a2 b.length c3,zS n m.length o]::L) w') Tryz_mixed (by kernel_rfl) (aG.mono c (eG.drew _)) (bD (fun _ c=>bE (v:=zP (some ⟨b1,0,none⟩)) rfl) (bD (fun _ c=>vD rfl) (bD (fun _ c=>bI (t':=0) aQc rfl rfl) (bD (fun _ c=>dH aOj c (i:=3) rfl rfl rfl) (bD (fun _ c=>bI (t':=1) aIL rfl rfl) (bD (fun _ c=>dH iK c (i:=0) rfl rfl rfl) ?_))))))))
      obtain ⟨i6,a1,hm⟩:=aB hm
      obtain ⟨⟨⟨i7,i8⟩,i9⟩,c2⟩:=aLT k a1
      have c4:=eE c (i:=1) rfl (aBz k a1 c2)
      refine bD (fun _ c=>iP qD rfl c4 rfl rfl rfl a1) (bD (fun _ c=>R_fldA (k':=a.Number.toNat * 3+0) aGt c4 rfl rfl) (bD (fun _ c=>oG (t:=0) nK c (i:=1) rfl (aBz k a1 c2) rfl rfl rfl) (bD (fun _ c=>bI (t':=3) oI rfl rfl) (bD (fun _ c=>dH aAB c (i:=0) rfl rfl rfl) ?_))));obtain ⟨g2,g3,hm⟩:=aB hm
      exact iM (vs:=[zS g a.Arguments.length h]) (v:=str g2) call198 rfl (fun _ c=>(zU g3 c l (a0.mono e))) aE
     ·exact aE
theorem tM (n:Nat):∀ {G:kE} {K:Hp} {L:List eT} {w:World} {Kf:Hp} {b1:Nat} {a:(List Definition)} {a2:Option Addr} {c3:Nat} {b:List (Dp.Hd Definition)} {c:(List bG)} {a6:Option Addr} {c7:Nat} {R:(aN × (List bG))} (hm:kD n a c=some R) (d:aG G K (aT 94 K a2 c3 (cD b a)::rows [147,199,202] b a::box b1 226 [zS a2 a.length c3,zS a6 c.length c7]::L) w) (e:G.lo=0) (g:Hp.le Kf K) (h:List.length b=List.length a) (i:aY Kf a6 c7 c),
  Calls prog 163 ([zP (some ⟨b1,0,none⟩)]:List Value).toArray w (cK fun v w'=>∃ j k,v=str R.1/\aY Kf j k R.2/\aG G K (aT 94 K a2 c3 (cD b a)::rows [147,199,202] b a::box b1 226 [zS a2 a.length c3,zS j R.2.length k]::L) w'):=by
 induction n with
 |zero=>
  intro G K L w Kf b1 a a2 c3 b c a6 c7 R hm d e g h i
  unfold kD at hm
  cases hm
 |succ n ih=>
  intro G K L w Kf b1 a a2 c3 b c a6 c7 R hm d e g h i
  exact tL (rec_:=kD n) (fun hm d e g h i=>ih hm d e g h i) hm d e g h i
theorem aEP {x0_:(List Definition)} {hd4:List (Dp.Hd Definition)} {x1_:(List bG)} {R:(aN × (List bG))} (hm:aJm x0_ x1_=some R) (hs:aG G K (aT 94 K a2 c3 (cD hd4 x0_)::rows [147,199,202] hd4 x0_::box b1 226 [zS a2 x0_.length c3,zS a6 x1_.length c7]::L) w) (hG:G.lo=0) (hKf:Hp.le Kf K) (hl5:List.length hd4=List.length x0_) (h8:aY Kf a6 c7 x1_):
  Calls prog 163 ([zP (some ⟨b1,0,none⟩)]:List Value).toArray w (cK fun v w'=>∃ ra0 rc0,v=str R.1/\aY Kf ra0 rc0 R.2/\aG G K (aT 94 K a2 c3 (cD hd4 x0_)::rows [147,199,202] hd4 x0_::box b1 226 [zS a2 x0_.length c3,zS ra0 R.2.length rc0]::L) w'):=tM 100000 hm hs hG hKf hl5 h8
theorem jS {rec_:(List Definition)->(List bG)->Option (aN × (List bG))} (m:∀ {G:kE} {K:Hp} {L:List eT} {w:World} {Kf:Hp} {b1:Nat} {a:(List Definition)} {a2:Option Addr} {c3:Nat} {b:(List bG)} {a5:Option Addr} {c6:Nat} {R:(aN × (List bG))} (hm:rec_ a b=some R) (d:aG G K (box b1 226 [zS a2 a.length c3,zS a5 b.length c6]::L) w) (j:G.lo=0) (c:Hp.le Kf K) (k:aY K a2 c3 a) (e:aY Kf a5 c6 b),
  Calls prog 163 ([zP (some ⟨b1,0,none⟩)]:List Value).toArray w (cK fun v w'=>∃ g h,v=str R.1/\aY Kf g h R.2/\aG G K (box b1 226 [zS a2 a.length c3,zS g R.2.length h]::L) w')) {G:kE} {K:Hp} {L:List eT} {w:World} {Kf:Hp} {b1:Nat} {a:(List Definition)} {a2:Option Addr} {c3:Nat} {b:(List bG)} {a5:Option Addr} {c6:Nat} {R:(aN × (List bG))} (hm:fV rec_ a b=some R) (d:aG G K (box b1 226 [zS a2 a.length c3,zS a5 b.length c6]::L) w) (j:G.lo=0) (c:Hp.le Kf K) (k:aY K a2 c3 a) (e:aY Kf a5 c6 b):
  Calls prog 199 ([zP (some ⟨b1,0,none⟩)]:List Value).toArray w (cK fun v w'=>∃ g h,v=str R.1/\aY Kf g h R.2/\aG G K (box b1 226 [zS a2 a.length c3,zS g R.2.length h]::L) w'):=by
 refine aM func199 rfl (by kernel_rfl) (by show (1:Nat)<=17;decide) ?_;unfold fV at hm
 refine aK (aH (v:=str ([]:aN)) (aL (aI (aK (aO (v:=zP (some ⟨b1,0,none⟩)) (aC (vD rfl) (aC (bI (t':=1) vK rfl rfl) (aC (dH aDD d (i:=0) rfl rfl rfl) ?_))))))));obtain ⟨u,n,hm⟩:=aB hm
 refine aC (cL rY rfl (e.mono c) rfl rfl rfl n) ?_;obtain ⟨x,o,p⟩:=aY.el (sz:=4) rfl e n
 obtain ⟨y,z,rfl,J⟩:=p
 refine aC (cQ (k':=(0:Int).toNat * 4+0) oH rfl (o.mono c) rfl) (aC (cC (t:=0) iK d (o.mono c) rfl rfl) (aC (dS rfl rfl) (aL ?_)))
 rcases aJ hm with ⟨l,hm⟩|⟨l,hm⟩
 ·refine aS l rfl (aK (aO (v:=zP (some ⟨b1,0,none⟩)) ?_));obtain ⟨V,q,hm⟩:=aB hm
  exact aW (vs:=[zP (some ⟨b1,0,none⟩)]) call163 rfl (m (Kf:=Kf) q d j c k e) aE
 ·refine aP l rfl (aU (aF (aK (aO (v:=zP (some ⟨b1,0,none⟩)) ?_))));obtain ⟨Z,r,hm⟩:=aB hm
  exact aW (vs:=[zP (some ⟨b1,0,none⟩)]) call163 rfl (m (Kf:=Kf) r d j c k e) aE
theorem tN {rec_:(List Definition)->(List bG)->Option (aN × (List bG))} (u:∀ {G:kE} {K:Hp} {L:List eT} {w:World} {Kf:Hp} {b1:Nat} {b:(List Definition)} {a2:Option Addr} {c3:Nat} {d:(List bG)} {a5:Option Addr} {c6:Nat} {R:(aN × (List bG))} (hm:rec_ b d=some R) (x:aG G K (box b1 226 [zS a2 b.length c3,zS a5 d.length c6]::L) w) (h:G.lo=0) (c:Hp.le Kf K) (k:aY K a2 c3 b) (l:aY Kf a5 c6 d),
  Calls prog 163 ([zP (some ⟨b1,0,none⟩)]:List Value).toArray w (cK fun v w'=>∃ m n,v=str R.1/\aY Kf m n R.2/\aG G K (box b1 226 [zS a2 b.length c3,zS m R.2.length n]::L) w'))
  {G:kE} {K:Hp} {L:List eT} {w:World} {Kf:Hp} {b1:Nat} {b:(List Definition)} {a2:Option Addr} {c3:Nat} {d:(List bG)} {a5:Option Addr} {c6:Nat} {R:(aN × (List bG))} (hm:fF rec_ b d=some R) (x:aG G K (box b1 226 [zS a2 b.length c3,zS a5 d.length c6]::L) w) (h:G.lo=0) (c:Hp.le Kf K) (k:aY K a2 c3 b) (l:aY Kf a5 c6 d):
  Calls prog 163 ([zP (some ⟨b1,0,none⟩)]:List Value).toArray w (cK fun v w'=>∃ m n,v=str R.1/\aY Kf m n R.2/\aG G K (box b1 226 [zS a2 b.length c3,zS m R.2.length n]::L) w'):=by
 let y:=[zP (some ⟨b1,0,none⟩)]
 refine aM func163 rfl (by kernel_rfl) (by show (1:Nat)<=80;decide) ?_;unfold fF at hm
 refine aK (aH (v:=str ([]:aN)) (aL (aK (aO (v:=zP (some ⟨b1,0,none⟩)) (aC (vD rfl) (aC (bI (t':=1) vK rfl rfl) (aC (dH aDD x (i:=0) rfl rfl rfl) ?_)))))));obtain ⟨a,q9,hm⟩:=aB hm
 refine aC (cL rY rfl (l.mono c) rfl rfl rfl q9) ?_;obtain ⟨f4,b7,b8⟩:=aY.el (sz:=4) rfl l q9
 obtain ⟨e,g,rfl,J⟩:=b8
 refine aC (dU (t:=0) (vs:=[i64 a.Kind,i64 a.Number,str a.Name,zS e a.Arguments.length g]) xR x (b7.mono c) rfl rfl rfl) (eA (vs:=[i64 0,i64 0,str ([]:aN),zS none 0 0]) zeroValue147 x rfl (fun z f5 b9=>(eY (i:=0) (ns:=[i64 a.Kind,i64 a.Number,str a.Name,zS e a.Arguments.length g]) (us:=[i64 a.Kind,i64 a.Number,str a.Name,zS e a.Arguments.length g]) sizeOf147 b9 rfl rfl rfl rfl rfl (kI rfl) rfl rfl (fun c0 (a4:aG G K (box z 147 [i64 a.Kind,i64 a.Number,str a.Name,zS e a.Arguments.length g]::box b1 226 [zS a2 b.length c3,zS a5 d.length c6]::L) c0)=>(aL (aK (aO (v:=zP (some ⟨b1,0,none⟩)) (aO (v:=zP (some ⟨b1,0,none⟩)) (aC (vD rfl) (aC (bI (t':=1) vK rfl rfl) (aC (dH aDD a4 (i:=1) rfl rfl rfl) ?_)))))))))))
 obtain ⟨o,a6,hm⟩:=aB hm
 obtain ⟨p,q,a7⟩:=Cut.ex 4 a5 c6 1
 have V:=aY.cut' l a6 a7
 refine aC (aON rY l.room a7 rfl rfl rfl a6) (aC (vD rfl) (aC (bI (t':=1) vK rfl rfl) (eY (i:=1) (ns:=[zS p o.length q]) (us:=[zS a2 b.length c3,zS p o.length q]) sizeOf92 a4 rfl rfl rfl rfl rfl (kI rfl) rfl rfl (fun a8 (j:aG G K (box z 147 [i64 a.Kind,i64 a.Number,str a.Name,zS e a.Arguments.length g]::box b1 226 [zS a2 b.length c3,zS p o.length q]::L) a8)=>(aL (aI (aK (aC (bI (t':=0) oH rfl rfl) (aC (dH iK j (i:=0) rfl rfl rfl) (aL (bK (aK (aC (dS rfl rfl) (aH (v:=zB (a.Kind == 1)) (aL ?_)))))))))))))))
 rcases aJ hm with ⟨Z,hm⟩|⟨Z,hm⟩
 ·refine aS Z rfl (aI ?_);obtain ⟨c1,a0,a9,b0,f6⟩:=aG.lendBp j .head
  refine mJ (C:=fun w'=>∃ L',aG G c1 L' w') [(0,0),(1,0),(2,0),(3,0),(7,0),(4,1),(5,0),(6,0),(8,1),(9,0),(10,0)] Tryz_mixed (by kernel_rfl) (fun _ hg=>⟨_,aG.mono b0 hg⟩) (fun f7 c2=>?_)
  have r:=aG.mono b0 c2
  refine dI rfl (fun _ _=>bI (t':=2) aIM rfl rfl) (dI rfl (fun _ ⟨_,r⟩=>cC (t:=2) nK r a9 rfl rfl) (dI rfl (fun _ _=>bI (t':=3) oI rfl rfl) (dI rfl (fun _ ⟨_,r⟩=>cC (t:=3) aAB r a9 rfl rfl) (dI rfl (fun _ _=>bE (v:=zP (some ⟨b1,0,none⟩)) rfl) (vG rfl ?_)))));obtain ⟨f8,c4,hm⟩:=aB hm
  refine aW (vs:=[zS e a.Arguments.length g]) call198 rfl (zU c4 r h (J.mono (zL c a0))) ?_
  rintro _ f9 ⟨rfl,b2⟩
  refine bY (aF ⟨⟨_,b2⟩,?_⟩)
  obtain ⟨g0,c5,hm⟩:=aB hm
  refine dI rfl (fun _ _=>eM rfl rfl c5) ?_;obtain ⟨g1,c7,hm⟩:=aB hm
  refine dI rfl (fun _ _=>eM rfl rfl c7) (vG rfl ?_);obtain ⟨g2,c8,hm⟩:=aB hm
  exact aW (vs:=y) call199 rfl (jS u (Kf:=Kf) c8 b2 h (zL c a0) (k.mono a0) V) aE
 ·refine aP Z rfl (aK (aC (dS rfl rfl) (aH (v:=zB (a.Kind == 2)) (aL ?_))))
  rcases aJ hm with ⟨a1,hm⟩|⟨a1,hm⟩
  ·refine aS a1 rfl (aK (aO (v:=zP (some ⟨b1,0,none⟩)) ?_))
   have c9:aG G K (box b1 226 [zS a2 b.length c3,zS p o.length q]::box z 147 [i64 a.Kind,i64 a.Number,str a.Name,zS e a.Arguments.length g]::L) a8:=(aG.arr 2 [1,0] j rfl)
   obtain ⟨b3,d0,hm⟩:=aB hm
   refine aW (vs:=y) call199 rfl (jS u (Kf:=Kf) d0 c9 h c k V) ?_
   rintro _ g3 ⟨g4,g5,rfl,d1,d2⟩
   refine aH (v:=str b3.1) (aL (aK (aO (v:=str b3.1) ?_)));obtain ⟨g6,d3,hm⟩:=aB hm
   refine aC (eM rfl rfl d3) (aO (v:=zP (some ⟨b1,0,none⟩)) ?_);obtain ⟨g7,d4,hm⟩:=aB hm
   exact aW (vs:=y) call163 rfl (u (Kf:=Kf) d4 d2 h c k d1) aE
  ·refine aP a1 rfl (aK (aC (dS rfl rfl) (aH (v:=zB (a.Kind == 3)) (aL ?_))))
   rcases aJ hm with ⟨b4,hm⟩|⟨b4,hm⟩
   ·refine aS b4 rfl (aK (aC (bI (t':=3) oI rfl rfl) (aC (dH aAB j (i:=0) rfl rfl rfl) ?_)));obtain ⟨d5,b5,hm⟩:=aB hm
    refine aC (cL mK rfl (J.mono c) rfl rfl rfl b5) ?_;obtain ⟨g8,d6,d7⟩:=aY.el (sz:=1) rfl J b5
    obtain ⟨d8,d9,rfl,e0⟩:=d7
    refine aC (cC (t:=0) aHS j (d6.mono c) rfl rfl) ?_;obtain ⟨g9,e1,hm⟩:=aB hm
    refine aW (vs:=[zS d8 d5.length d9]) call200 rfl (aGm e1 j (e0.mono c)) ?_
    rintro _ h0 ⟨e2,e3,rfl,b6,e4,e5⟩
    obtain ⟨h1,e6,hm⟩:=aB hm
    refine aW (vs:=[cH e3 0]) call201 rfl (yK e6 e5 e4) ?_
    rintro _ e7 ⟨rfl,e9⟩
    obtain ⟨h2,f0,hm⟩:=aB hm
    refine aC (eM rfl rfl f0) ?_;obtain ⟨h3,f1,hm⟩:=aB hm
    refine aC (eM rfl rfl f1) (aO (v:=zP (some ⟨b1,0,none⟩)) ?_)
    have f2:aG G e2 (box b1 226 [zS a2 b.length c3,zS p o.length q]::box z 147 [i64 a.Kind,i64 a.Number,str a.Name,zS e a.Arguments.length g]::L) e7:=(aG.arr 2 [1,0] e9 rfl)
    obtain ⟨h5,f3,hm⟩:=aB hm
    exact aW (vs:=y) call199 rfl (jS u (Kf:=Kf) f3 f2 h (zL c b6) (k.mono b6) V) aE
   ·exact aE
theorem tO (n:Nat):∀ {G:kE} {K:Hp} {L:List eT} {w:World} {Kf:Hp} {b1:Nat} {a:(List Definition)} {a2:Option Addr} {c3:Nat} {b:(List bG)} {a5:Option Addr} {c6:Nat} {R:(aN × (List bG))} (hm:eC n a b=some R) (c:aG G K (box b1 226 [zS a2 a.length c3,zS a5 b.length c6]::L) w) (d:G.lo=0) (e:Hp.le Kf K) (g:aY K a2 c3 a) (h:aY Kf a5 c6 b),
  Calls prog 163 ([zP (some ⟨b1,0,none⟩)]:List Value).toArray w (cK fun v w'=>∃ i j,v=str R.1/\aY Kf i j R.2/\aG G K (box b1 226 [zS a2 a.length c3,zS i R.2.length j]::L) w'):=by
 induction n with
 |zero=>
  intro G K L w Kf b1 a a2 c3 b a5 c6 R hm c d e g h
  unfold eC at hm
  cases hm
 |succ n ih=>
  intro G K L w Kf b1 a a2 c3 b a5 c6 R hm c d e g h
  exact tN (rec_:=eC n) (fun hm c d e g h=>ih hm c d e g h) hm c d e g h
theorem aEQ {x0_:(List Definition)} {x1_:(List bG)} {R:(aN × (List bG))} (hm:wU x0_ x1_=some R) (hs:aG G K (box b1 226 [zS a2 x0_.length c3,zS a5 x1_.length c6]::L) w) (hG:G.lo=0) (hKf:Hp.le Kf K) (h4:aY K a2 c3 x0_) (h7:aY Kf a5 c6 x1_):
  Calls prog 163 ([zP (some ⟨b1,0,none⟩)]:List Value).toArray w (cK fun v w'=>∃ ra0 rc0,v=str R.1/\aY Kf ra0 rc0 R.2/\aG G K (box b1 226 [zS a2 x0_.length c3,zS ra0 R.2.length rc0]::L) w'):=tO 100000 hm hs hG hKf h4 h7
theorem aFv {a:(List Definition)} {d:Definition} {R:aN} (hm:mZ a d=some R) (g:aG G K (L) w) (m:G.lo=0) (n:aY K a1 c2 a) (o:aY K a4 c5 d.Body):
  Calls prog 116 ([zS a1 a.length c2,zA #[str d.Name,i64 d.Parameters,zS a4 d.Body.length c5]]:List Value).toArray w (cK fun v w'=>v=str R/\aG G K (L) w'):=by
 let b:=[zS a1 a.length c2,zS a4 d.Body.length c5]
 refine aM func116 rfl (by kernel_rfl) (by show (2:Nat)<=23;decide) ?_;unfold mZ at hm
 refine aK (eR (v:=zA #[str d.Name,i64 d.Parameters,zS a4 d.Body.length c5]) (vs:=[str d.Name,i64 d.Parameters,zS a4 d.Body.length c5]) g rfl rfl (fun p q c=>(aH (v:=str ([]:aN)) (aL (aK (aO (v:=zS a1 a.length c2) (aC (bI (t':=2) aEq rfl rfl) (aC (dH aDD c (i:=0) rfl rfl rfl) (aC (aCG (vs:=[(0,zS a1 a.length c2),(1,zS a4 d.Body.length c5)]) (cs:=b) bs_226 rfl (by kernel_rfl)) (eR (v:=zA #[zS a1 a.length c2,zS a4 d.Body.length c5]) (vs:=b) c rfl rfl (fun h r j=>(aH (v:=zP (some ⟨h,0,none⟩)) (aL (aI ?_))))))))))))))
 obtain ⟨k,t,u,e,x⟩:=aG.lendBp j zt1
 refine mJ (C:=fun w'=>∃ L',aG G k L' w') [(0,0),(1,0),(2,0),(3,0),(4,0),(5,0),(9,0),(6,1),(7,0),(8,0),(10,1),(11,0),(12,0)] Tryz_mixed (by kernel_rfl) (fun _ hg=>⟨_,aG.mono e hg⟩) (fun y l=>?_)
 have z:=aG.mono e l
 exact aE
theorem aHf {a:bL} {R:(List aN)} (hm:qV a=some R) (hs:aG G K (L) w) (hG:G.lo=0) (h3:aY K a1 c2 a.Definitions) (h6:aY K a4 c5 a.Components) (h9:aY K a7 c8 a.Meetings) (d7:aY K a10 c11 a.Allowed) (h0:aY K a13 c14 a.Hidden):
  Calls prog 61 ([zA #[zS a1 a.Definitions.length c2,zS a4 a.Components.length c5,zS a7 a.Meetings.length c8,zS a10 a.Allowed.length c11,zS a13 a.Hidden.length c14]]:List Value).toArray w (cK fun v w'=>∃ b0 b1,v=zS b0 R.length b1/\aG G K (aT 9 K b0 b1 R::L) w'):=by
 let b:=[zS a1 a.Definitions.length c2,zS a4 a.Components.length c5,zS a7 a.Meetings.length c8,zS a10 a.Allowed.length c11,zS a13 a.Hidden.length c14]
 refine aM func61 rfl (by kernel_rfl) (by show (1:Nat)<=108;decide) ?_;unfold qV at hm
 refine aK (eR (v:=zA #[zS a1 a.Definitions.length c2,zS a4 a.Components.length c5,zS a7 a.Meetings.length c8,zS a10 a.Allowed.length c11,zS a13 a.Hidden.length c14]) (vs:=b) hs rfl rfl (fun c h1 b2=>(aH (v:=zS none 0 0) (aL (aK (aH (v:=zS none 0 0) (aL (aI (aK (aC (bI (t':=0) aGs rfl rfl) (aC (dH aOj b2 (i:=0) rfl rfl rfl) (aC (aV (len:=a.Definitions.length) qD rfl) (aO (v:=i64 0) (aL (aQ [1] (fun f w=>∃ d g j,pU a d=some R/\f 3=zS g d.length j/\aG G K (aT 9 K g j d::box c 46 b::L) w) ?_ ?_)))))))))))))))
 ·rintro f h2 ⟨d,g,j,hm,d8,b3⟩
  unfold pU at hm
  refine aF (aK (aH (v:=zS none 0 0) (aL (aI (aK (aC (bI (t':=1) aCI rfl rfl) (aC (dH aLZ b3 (i:=1) rfl rfl rfl) (aC (aV (len:=a.Components.length) xH rfl) (aO (v:=i64 0) (aL (aQ [1,3] (fun f w=>∃ k l m,pR a d k=some R/\f 6=zS l k.length m/\aG G K (aT 9 K l m k::aT 9 K g j d::box c 46 b::L) w) ?_ ?_)))))))))))
  ·rintro f h4 ⟨k,l,m,hm,d9,e0⟩
   unfold pR at hm
   refine aF (aK (bO d8 (bO d9 ?_)));obtain ⟨h5,h7,e1,e2,e3⟩:=aG.lendSp e0 (Hp.le_refl _) .head
   obtain ⟨h8,e4,hm⟩:=aB hm
   refine aW (vs:=[zS l k.length m,str ([32,124,32]:aN)]) call60 rfl (aMm e2 hG e1 e4) ?_
   rintro _ i0 ⟨rfl,e5⟩
   have e6:=e3 _ _ e5
   obtain ⟨q,e7,hm⟩:=aB hm
   refine aC (eM rfl rfl e7) (dK (Kt:=K) (xs:=([q]:List aN)) (cs:=[str q]) (vs:=[(0,str q)]) cX qA rfl rfl e6 rfl (by kernel_rfl) rfl rfl rfl ⟨rfl,trivial⟩ (fun e8 e9 (f0:aG G K (aT 9 K e8 1 ([q]:List aN)::aT 9 K l m k::aT 9 K g j d::box c 46 b::L) e9)=>?_));obtain ⟨b4,f1,hm⟩:=aB hm
   refine jO (i:=1) cX underlying37 qA rfl rfl f0 rfl (Hp.le_refl _) (Hp.le_refl _) f1 rfl rfl rfl rfl (fun _ h=>h) (fun b5 b6 f2 (f3:aG G K (aT 9 K l m k::aT 9 K b5 b6 b4::box c 46 b::L) f2)=>(aH (v:=zS b5 b4.length b6) (aL (aI (aK (aC (bI (t':=2) aOV rfl rfl) (aC (dH sc_44 f3 (i:=2) rfl rfl rfl) (aC (aV (len:=a.Meetings.length) vJ rfl) (aO (v:=i64 0) (aL (aQ [1] (fun f w=>∃ r z J,pP a r=some R/\f 3=zS z r.length J/\aG G K (aT 9 K z J r::box c 46 b::L) w) ?_ ?_)))))))))))
   ·rintro f i1 ⟨r,z,J,hm,f4,V⟩
    unfold pP at hm
    refine aF (gY [1] (fun f w=>∃ u Z a0,jP a u=some R/\f 3=zS Z u.length a0/\aG G K (aT 9 K Z a0 u::box c 46 b::L) w) ?_ ?_)
    ·rintro f i2 ⟨u,Z,a0,hm,i3,i4⟩
     unfold jP at hm
     exact gY [] (fun f w=>∃ a2 b7 b8,pO a2=some R/\f 3=zS b7 a2.length b8/\aG G K (aT 9 K b7 b8 a2::L) w) aE aE
    refine aK (aC (bI (t':=3) aOW rfl rfl) (aC (dH sc_37 V (i:=1) rfl rfl rfl) (aC (aV (len:=a.Allowed.length) cX rfl) (aC (aKJ rfl rfl) (aL ?_)))))
    rcases aJ hm with ⟨b9,hm⟩|⟨b9,hm⟩
    ·refine aS b9 rfl (bQ (bO f4 (aC (bI (t':=3) aOW rfl rfl) (aC (dH sc_37 V (i:=1) rfl rfl rfl) ?_))));obtain ⟨i5,f5,hm⟩:=aB hm
     exact aW (vs:=[zS a10 a.Allowed.length c11,str ([32]:aN)]) call60 rfl (aMm V hG d7 f5) aE
    ·exact aE
   obtain ⟨i6,f6,ho⟩:=aB hm
   exact cG [1,64,65] f6 (fun c0 f7 f w=>∃ c1 c3,f 3=zS c1 c0.length c3/\f 66=i64 f7/\aG G K (aT 9 K c1 c3 c0::box c 46 b::L) w) aE aE
  have i7:=aG.nil (α:=aN) b3 9 K
  obtain ⟨i8,f8,ho⟩:=aB hm
  refine cG [1,3,28,29] f8 (fun n a3 f w=>∃ o p,f 6=zS o n.length p/\f 30=i64 a3/\aG G K (aT 9 K o p n::aT 9 K g j d::box c 46 b::L) w) aE ?_
  ·rintro n a3 f9 f i9 hm hr ⟨o,p,j0,c4,c6⟩
   unfold lY at hm
   refine aK (aC (dR c4 rfl) (aL (aI ?_)))
   rcases aJ hm with ⟨c7,hm⟩|⟨c7,hm⟩
   ·refine aS c7 rfl (aU (aF (aI (bK (aK ?_)))));obtain ⟨e,c9,hm⟩:=aB hm
    refine aC (cL xH rfl h6 rfl rfl c4 c9) ?_;obtain ⟨j1,g0,g1⟩:=aY.el (sz:=2) rfl h6 c9
    obtain ⟨x,y,rfl,j2⟩:=g1
    refine aC (dU (t:=0) (vs:=[i64 e.Definition,zS x e.Values.length y]) aKP c6 g0 rfl rfl rfl) (eA (vs:=[i64 0,zS none 0 0]) zeroValue99 c6 rfl (fun g2 j3 g3=>(eY (i:=0) (ns:=[i64 e.Definition,zS x e.Values.length y]) (us:=[i64 e.Definition,zS x e.Values.length y]) sizeOf99 g3 rfl rfl rfl rfl rfl (kI rfl) rfl rfl (fun g4 (a5:aG G K (box g2 99 [i64 e.Definition,zS x e.Values.length y]::aT 9 K o p n::aT 9 K g j d::box c 46 b::L) g4)=>(aL (aK (aC (bI (t':=0) aGs rfl rfl) (aC (dH aOj a5 (i:=3) rfl rfl rfl) (aC (bI (t':=0) aOZ rfl rfl) (aC (dH iK a5 (i:=0) rfl rfl rfl) ?_))))))))))
    obtain ⟨g5,d0,hm⟩:=aB hm
    refine aC (cL qD rfl h3 rfl rfl rfl d0) ?_;obtain ⟨j4,d1,g6⟩:=aY.el (sz:=3) rfl h3 d0
    obtain ⟨j5,j6,rfl,j7⟩:=g6
    exact aC (cQ (k':=e.Definition.toNat * 3+0) aGt rfl d1 rfl) (aC (cC (t:=0) nK a5 d1 rfl rfl) (aH (v:=str g5.Name) (aL (gY [1,3,6,28,29,30] (fun f w=>∃ d2,pT n a3 d2=some f9/\f 9=str d2/\aG G K (aT 9 K o p n::aT 9 K g j d::box c 46 b::L) w) aE aE))))
   ·exact aE
 have j8:=aG.nil (α:=aN) b2 9 K
 obtain ⟨j9,g7,ho⟩:=aB hm
 exact cG [1,13,14] g7 (fun d3 g8 f w=>∃ d4 d5,f 3=zS d4 d3.length d5/\f 15=i64 g8/\aG G K (aT 9 K d4 d5 d3::box c 46 b::L) w) aE aE
theorem aJL {a:bL} {R:aN} (hm:aBh a=some R) (b:aG G K (L) w) (c:G.lo=0) (d:aY K a1 c2 a.Definitions) (e:aY K a4 c5 a.Components) (g:aY K a7 c8 a.Meetings) (h:aY K a10 c11 a.Allowed) (i:aY K a13 c14 a.Hidden):
  Calls prog 24 ([zA #[zS a1 a.Definitions.length c2,zS a4 a.Components.length c5,zS a7 a.Meetings.length c8,zS a10 a.Allowed.length c11,zS a13 a.Hidden.length c14]]:List Value).toArray w (cK fun v w'=>v=str R/\aG G K (L) w'):=by
 exact aE
end Gv
