/- Walks, printed by program. -/
import Derived.Test.YtoddhhghiolggaaGreatDoorJWk5
set_option linter.all false
namespace Gv
open Gv.Hp renaming le_refl→zR
open Go.Value renaming slice→zS,bool→zB,agg→zA
open Go Go.Proofs Go.Proofs.Tryz
set_option maxRecDepth 20000
set_option maxHeartbeats 40000000
variable {G:kE} {K:Hp} {L:List eT} {w:World} {a1 a4 a7 a10 a13 a16 a19 a22 a25 a28:Option Addr} {c2 c5 c8 c11 c14 c17 c20 c23 c26 c29:Nat}
theorem sB {a b:(List aN)} {R:Bool} (hm:dE a b=some R) (g:aG G K (L) w) (h:aY K a1 c2 a) (i:aY K a4 c5 b):
  Calls prog 41 ([zS a1 a.length c2,zS a4 b.length c5]:List Value).toArray w (cK fun v w'=>v=zB R/\aG G K (L) w'):=by
 refine aM func41 rfl (by kernel_rfl) (by show (2:Nat)<=26;decide) ?_;unfold dE at hm
 refine aK (aH (v:=zB false) (aL (aI (aK (aO (v:=zS a1 a.length c2) (aC (aV (len:=a.length) cX rfl) (aO (v:=zS a4 b.length c5) (aC (aV (len:=b.length) cX rfl) (aC (rW rfl rfl) (aL ?_))))))))))
 rcases aJ hm with ⟨c,hm⟩|⟨c,hm⟩
 ·exact aE
 ·refine aP c rfl (aU (aF (aI (aK (aO (v:=zS a1 a.length c2) (aC (aV (len:=a.length) cX rfl) (aO (v:=i64 0) (aL (aQ [] (fun f w=>lB=some R/\aG G K (L) w) aE ?_)))))))));obtain ⟨j,d,ho⟩:=aB hm
  exact bP [0,1,12] d (fun e f w=>f 13=i64 e/\aG G K (L) w) aE aE
theorem aGk {a b:hJ} {R:Bool} (hm:aDU a b=some R) (d:aG G K (L) w) (g:aY K a1 c2 a.L) (h:aY K a4 c5 a.E) (i:aY K a7 c8 b.L) (j:aY K a10 c11 b.E):
  Calls prog 18 ([zA (zCa a a1 c2 a4 c5),zA (zCa b a7 c8 a10 c11)]:List Value).toArray w (cK fun v w'=>v=zB R/\aG G K (L) w'):=by
 refine aM func18 rfl (by kernel_rfl) (by show (2:Nat)<=31;decide) ?_;unfold aDU at hm
 exact aK (eR (v:=zA (zCa a a1 c2 a4 c5)) (vs:=(zC a a1 c2 a4 c5)) d rfl rfl (fun k l e=>(eR (v:=zA (zCa b a7 c8 a10 c11)) (vs:=(zC b a7 c8 a10 c11)) e rfl rfl (fun m n o=>(aH (v:=zB false) (aL (aI (aZ [] (fun f w=>∃ c,rO c=some R/\f 4=zB c/\aG G K (L) w) aE aE))))))))
theorem iD {b c:(List aR)} {R:Bool} (hm:fZ b c=some R) (J:aG G K (L) w) (h:aY K a1 c2 b) (i:aY K a4 c5 c):
  Calls prog 142 ([zS a1 b.length c2,zS a4 c.length c5]:List Value).toArray w (cK fun v w'=>v=zB R/\aG G K (L) w'):=by
 refine aM func142 rfl (by kernel_rfl) (by show (2:Nat)<=26;decide) ?_;unfold fZ at hm
 refine aK (aH (v:=zB false) (aL (aI (aK (aO (v:=zS a1 b.length c2) (aC (aV (len:=b.length) nL rfl) (aO (v:=zS a4 c.length c5) (aC (aV (len:=c.length) nL rfl) (aC (rW rfl rfl) (aL ?_))))))))))
 rcases aJ hm with ⟨j,hm⟩|⟨j,hm⟩
 ·exact aE
 ·refine aP j rfl (aU (aF (aI (aK (aO (v:=zS a1 b.length c2) (aC (aV (len:=b.length) nL rfl) (aO (v:=i64 0) (aL (aQ [] (fun f w=>iS=some R/\aG G K (L) w) aE ?_)))))))));obtain ⟨V,o,ho⟩:=aB hm
  refine bP [0,1,12] o (fun d f w=>f 13=i64 d/\aG G K (L) w) aE ?_
  ·rintro d Z f a0 hm hr ⟨k,a⟩
   unfold iT at hm
   refine aK (aC (dR k rfl) (aL (aI ?_)))
   rcases aJ hm with ⟨l,hm⟩|⟨l,hm⟩
   ·refine aS l rfl (aU (aF (aI (bK (aK (bO k (aH (v:=i64 d) (aL (aI (fY (C:=fun w'=>aG G K (L) w') Tryz_mixed (by kernel_rfl) (aG.mono a (eG.drew _)) (bD (fun _ a=>bE (v:=zS a1 b.length c2) rfl) (bD (fun _ a=>bE (v:=i64 d) rfl) ?_))))))))))));obtain ⟨e,m,hm⟩:=aB hm
    refine bD (fun _ a=>cL nL rfl h rfl rfl rfl m) ?_;obtain ⟨a2,p,q⟩:=aY.el (sz:=2) rfl h m
    cases q
    refine bD (fun _ a=>dU (t:=0) (vs:=[i64 e.Kind,i64 e.Value]) aHT a p rfl rfl rfl) (bD (fun _ a=>bE (v:=zS a4 c.length c5) rfl) (bD (fun _ a=>bE (v:=i64 d) rfl) ?_));obtain ⟨g,n,hm⟩:=aB hm
    refine bD (fun _ a=>cL nL rfl i rfl rfl rfl n) ?_;obtain ⟨a3,r,u⟩:=aY.el (sz:=2) rfl i n
    cases u
    refine bD (fun _ a=>dU (t:=0) (vs:=[i64 g.Kind,i64 g.Value]) aHT a r rfl rfl rfl) (bD (fun _ a=>R_neqG (eq_202 (x:=e) (y:=g)) rfl rfl) (vE (fun a5 a6=>(aF ?_))))
    rcases aJ hm with ⟨z,hm⟩|⟨z,hm⟩
    ·exact aE
    ·exact aE
   ·exact aE
theorem fQ {a b:(List (List aR))} {R:Bool} (hm:cI a b=some R) (hs:aG G K (L) w) (m:aY K a1 c2 a) (n:aY K a4 c5 b):
  Calls prog 141 ([zS a1 a.length c2,zS a4 b.length c5,Value.func (.func 142) #[] #[]]:List Value).toArray w (cK fun v w'=>v=zB R/\aG G K (L) w'):=by
 refine aM func141 rfl (by kernel_rfl) (by show (3:Nat)<=32;decide) ?_;unfold cI at hm
 refine aK (aH (v:=zB false) (aL (aI (aK (aO (v:=zS a1 a.length c2) (aC (aV (len:=a.length) mK rfl) (aO (v:=zS a4 b.length c5) (aC (aV (len:=b.length) mK rfl) (aC (rW rfl rfl) (aL ?_))))))))))
 rcases aJ hm with ⟨o,hm⟩|⟨o,hm⟩
 ·exact aE
 ·refine aP o rfl (aU (aF (aI (aK (aO (v:=zS a1 a.length c2) (aC (aV (len:=a.length) mK rfl) (aO (v:=i64 0) (aL (aQ [] (fun f w=>dO=some R/\aG G K (L) w) aE ?_)))))))));obtain ⟨a3,u,ho⟩:=aB hm
  refine bP [1,2,15,16] u (fun c f w=>f 17=i64 c/\aG G K (L) w) aE ?_
  ·rintro c a5 f a6 hm hr ⟨k,l⟩
   unfold dP at hm
   refine aK (aC (dR k rfl) (aL (aI ?_)))
   rcases aJ hm with ⟨p,hm⟩|⟨p,hm⟩
   ·refine aS p rfl (aU (aF (aI (bK (aK (bO k ?_))))));obtain ⟨d,q,hm⟩:=aB hm
    refine aC (cL mK rfl m rfl rfl k q) ?_;obtain ⟨a7,x,y⟩:=aY.el (sz:=1) rfl m q
    obtain ⟨e,g,rfl,z⟩:=y
    refine aC (cC (t:=0) aHS l x rfl rfl) (aH (v:=i64 c) (aH (v:=zS e d.length g) (aL (aK (aO (v:=zS a4 b.length c5) (aO (v:=i64 c) ?_))))));obtain ⟨h,r,hm⟩:=aB hm
    refine aC (cL mK rfl n rfl rfl rfl r) ?_;obtain ⟨a8,J,V⟩:=aY.el (sz:=1) rfl n r
    obtain ⟨i,j,rfl,Z⟩:=V
    refine aC (cC (t:=0) aHS l J rfl rfl) (aH (v:=zS i h.length j) (aL (aK (aO (v:=Value.func (.func 142) #[] #[]) (aO (v:=zS e d.length g) (aO (v:=zS i h.length j) ?_))))));obtain ⟨a9,a0,hm⟩:=aB hm
    exact eI (vs:=[zS e d.length g,zS i h.length j]) (caps:=[]) (us:=[zS e d.length g,zS i h.length j]) rfl call142 rfl rfl (iD a0 l z Z) aE
   ·exact aE
theorem aFt {a b:bG} {R:Bool} (hm:aHZ a b=some R) (d:aG G K (L) w) (g:aY K a1 c2 a.Arguments) (h:aY K a4 c5 b.Arguments):
  Calls prog 92 ([zA #[i64 a.Kind,i64 a.Number,str a.Name,zS a1 a.Arguments.length c2],zA #[i64 b.Kind,i64 b.Number,str b.Name,zS a4 b.Arguments.length c5]]:List Value).toArray w (cK fun v w'=>v=zB R/\aG G K (L) w'):=by
 refine aM func92 rfl (by kernel_rfl) (by show (2:Nat)<=31;decide) ?_;unfold aHZ at hm
 exact aK (eR (v:=zA #[i64 a.Kind,i64 a.Number,str a.Name,zS a1 a.Arguments.length c2]) (vs:=[i64 a.Kind,i64 a.Number,str a.Name,zS a1 a.Arguments.length c2]) d rfl rfl (fun i j e=>(eR (v:=zA #[i64 b.Kind,i64 b.Number,str b.Name,zS a4 b.Arguments.length c5]) (vs:=[i64 b.Kind,i64 b.Number,str b.Name,zS a4 b.Arguments.length c5]) e rfl rfl (fun k l m=>(aH (v:=zB false) (aL (aI (aZ [] (fun f w=>∃ c,tA c=some R/\f 4=zB c/\aG G K (L) w) aE aE))))))))
theorem gM {e h:(List bG)} {R:Bool} (hm:dB e h=some R) (hs:aG G K (L) w) (m:aY K a1 c2 e) (n:aY K a4 c5 h):
  Calls prog 91 ([zS a1 e.length c2,zS a4 h.length c5,Value.func (.func 92) #[] #[]]:List Value).toArray w (cK fun v w'=>v=zB R/\aG G K (L) w'):=by
 refine aM func91 rfl (by kernel_rfl) (by show (3:Nat)<=32;decide) ?_;unfold dB at hm
 refine aK (aH (v:=zB false) (aL (aI (aK (aO (v:=zS a1 e.length c2) (aC (aV (len:=e.length) rY rfl) (aO (v:=zS a4 h.length c5) (aC (aV (len:=h.length) rY rfl) (aC (rW rfl rfl) (aL ?_))))))))))
 rcases aJ hm with ⟨o,hm⟩|⟨o,hm⟩
 ·exact aE
 ·refine aP o rfl (aU (aF (aI (aK (aO (v:=zS a1 e.length c2) (aC (aV (len:=e.length) rY rfl) (aO (v:=i64 0) (aL (aQ [] (fun f w=>eK=some R/\aG G K (L) w) aE ?_)))))))));obtain ⟨b2,z,ho⟩:=aB hm
  refine bP [1,2,15,16] z (fun j f w=>f 17=i64 j/\aG G K (L) w) aE ?_
  ·rintro j b3 f b4 hm hr ⟨k,p⟩
   unfold eL at hm
   refine aK (aC (dR k rfl) (aL (aI ?_)))
   rcases aJ hm with ⟨q,hm⟩|⟨q,hm⟩
   ·refine aS q rfl (aU (aF (aI (bK (aK (bO k ?_))))));obtain ⟨a,r,hm⟩:=aB hm
    refine aC (cL rY rfl m rfl rfl k r) ?_;obtain ⟨b5,J,V⟩:=aY.el (sz:=4) rfl m r
    obtain ⟨c,d,rfl,Z⟩:=V
    refine aC (dU (t:=0) (vs:=[i64 a.Kind,i64 a.Number,str a.Name,zS c a.Arguments.length d]) xR p J rfl rfl rfl) (eA (vs:=[i64 0,i64 0,str ([]:aN),zS none 0 0]) zeroValue147 p rfl (fun u b6 a0=>(aH (v:=i64 j) (eY (i:=0) (ns:=[i64 a.Kind,i64 a.Number,str a.Name,zS c a.Arguments.length d]) (us:=[i64 a.Kind,i64 a.Number,str a.Name,zS c a.Arguments.length d]) sizeOf147 a0 rfl rfl rfl rfl rfl (kI rfl) rfl rfl (fun a2 (x:aG G K (box u 147 [i64 a.Kind,i64 a.Number,str a.Name,zS c a.Arguments.length d]::L) a2)=>(aL (aK (aO (v:=zS a4 h.length c5) (aO (v:=i64 j) ?_)))))))))
    obtain ⟨b,y,hm⟩:=aB hm
    refine aC (cL rY rfl n rfl rfl rfl y) ?_;obtain ⟨b7,a3,a5⟩:=aY.el (sz:=4) rfl n y
    obtain ⟨g,c48,rfl,a6⟩:=a5
    refine aC (dU (t:=0) (vs:=[i64 b.Kind,i64 b.Number,str b.Name,zS g b.Arguments.length c48]) xR x a3 rfl rfl rfl) (eA (vs:=[i64 0,i64 0,str ([]:aN),zS none 0 0]) zeroValue147 x rfl (fun a7 b8 a8=>(eY (i:=0) (ns:=[i64 b.Kind,i64 b.Number,str b.Name,zS g b.Arguments.length c48]) (us:=[i64 b.Kind,i64 b.Number,str b.Name,zS g b.Arguments.length c48]) sizeOf147 a8 rfl rfl rfl rfl rfl (kI rfl) rfl rfl (fun a9 (l:aG G K (box a7 147 [i64 b.Kind,i64 b.Number,str b.Name,zS g b.Arguments.length c48]::box u 147 [i64 a.Kind,i64 a.Number,str a.Name,zS c a.Arguments.length d]::L) a9)=>(aL (aK (aO (v:=Value.func (.func 92) #[] #[]) (aC (kH (us:=[i64 a.Kind,i64 a.Number,str a.Name,zS c a.Arguments.length d]) xR l (i:=1) rfl rfl rfl rfl) (aC (kH (us:=[i64 b.Kind,i64 b.Number,str b.Name,zS g b.Arguments.length c48]) xR l (i:=0) rfl rfl rfl rfl) ?_)))))))))
    obtain ⟨b9,b0,hm⟩:=aB hm
    exact eI (vs:=[zA #[i64 a.Kind,i64 a.Number,str a.Name,zS c a.Arguments.length d],zA #[i64 b.Kind,i64 b.Number,str b.Name,zS g b.Arguments.length c48]]) (caps:=[]) (us:=[zA #[i64 a.Kind,i64 a.Number,str a.Name,zS c a.Arguments.length d],zA #[i64 b.Kind,i64 b.Number,str b.Name,zS g b.Arguments.length c48]]) rfl call92 rfl rfl (aFt b0 l Z a6) aE
   ·exact aE
theorem xJ {a b:Definition} {R:Bool} (hm:yE a b=some R) (d:aG G K (L) w) (g:aY K a1 c2 a.Body) (h:aY K a4 c5 b.Body):
  Calls prog 44 ([zA #[str a.Name,i64 a.Parameters,zS a1 a.Body.length c2],zA #[str b.Name,i64 b.Parameters,zS a4 b.Body.length c5]]:List Value).toArray w (cK fun v w'=>v=zB R/\aG G K (L) w'):=by
 refine aM func44 rfl (by kernel_rfl) (by show (2:Nat)<=24;decide) ?_;unfold yE at hm
 exact aK (eR (v:=zA #[str a.Name,i64 a.Parameters,zS a1 a.Body.length c2]) (vs:=[str a.Name,i64 a.Parameters,zS a1 a.Body.length c2]) d rfl rfl (fun i j e=>(eR (v:=zA #[str b.Name,i64 b.Parameters,zS a4 b.Body.length c5]) (vs:=[str b.Name,i64 b.Parameters,zS a4 b.Body.length c5]) e rfl rfl (fun k l m=>(aH (v:=zB false) (aL (aI (aZ [] (fun f w=>∃ c,mE c=some R/\f 4=zB c/\aG G K (L) w) aE aE))))))))
theorem uJ {a b:(List Int)} {R:Bool} (hm:jK a b=some R) (g:aG G K (L) w) (h:aY K a1 c2 a) (i:aY K a4 c5 b):
  Calls prog 93 ([zS a1 a.length c2,zS a4 b.length c5]:List Value).toArray w (cK fun v w'=>v=zB R/\aG G K (L) w'):=by
 refine aM func93 rfl (by kernel_rfl) (by show (2:Nat)<=26;decide) ?_;unfold jK at hm
 refine aK (aH (v:=zB false) (aL (aI (aK (aO (v:=zS a1 a.length c2) (aC (aV (len:=a.length) fI rfl) (aO (v:=zS a4 b.length c5) (aC (aV (len:=b.length) fI rfl) (aC (rW rfl rfl) (aL ?_))))))))))
 rcases aJ hm with ⟨c,hm⟩|⟨c,hm⟩
 ·exact aE
 ·refine aP c rfl (aU (aF (aI (aK (aO (v:=zS a1 a.length c2) (aC (aV (len:=a.length) fI rfl) (aO (v:=i64 0) (aL (aQ [] (fun f w=>lQ=some R/\aG G K (L) w) aE ?_)))))))));obtain ⟨j,d,ho⟩:=aB hm
  exact bP [0,1,12] d (fun e f w=>f 13=i64 e/\aG G K (L) w) aE aE
theorem aAr {a b:aX} {R:Bool} (hm:aAD a b=some R) (d:aG G K (L) w) (g:aY K a1 c2 a.Values) (h:aY K a4 c5 b.Values):
  Calls prog 46 ([zA #[i64 a.Definition,zS a1 a.Values.length c2],zA #[i64 b.Definition,zS a4 b.Values.length c5]]:List Value).toArray w (cK fun v w'=>v=zB R/\aG G K (L) w'):=by
 refine aM func46 rfl (by kernel_rfl) (by show (2:Nat)<=17;decide) ?_;unfold aAD at hm
 exact aK (eR (v:=zA #[i64 a.Definition,zS a1 a.Values.length c2]) (vs:=[i64 a.Definition,zS a1 a.Values.length c2]) d rfl rfl (fun i j e=>(eR (v:=zA #[i64 b.Definition,zS a4 b.Values.length c5]) (vs:=[i64 b.Definition,zS a4 b.Values.length c5]) e rfl rfl (fun k l m=>(aH (v:=zB false) (aL (aI (aZ [] (fun f w=>∃ c,uI c=some R/\f 4=zB c/\aG G K (L) w) aE aE))))))))
theorem lI {b c:(List bB)} {R:Bool} (hm:cZ b c=some R) (J:aG G K (L) w) (h:aY K a1 c2 b) (i:aY K a4 c5 c):
  Calls prog 47 ([zS a1 b.length c2,zS a4 c.length c5]:List Value).toArray w (cK fun v w'=>v=zB R/\aG G K (L) w'):=by
 refine aM func47 rfl (by kernel_rfl) (by show (2:Nat)<=26;decide) ?_;unfold cZ at hm
 refine aK (aH (v:=zB false) (aL (aI (aK (aO (v:=zS a1 b.length c2) (aC (aV (len:=b.length) vJ rfl) (aO (v:=zS a4 c.length c5) (aC (aV (len:=c.length) vJ rfl) (aC (rW rfl rfl) (aL ?_))))))))))
 rcases aJ hm with ⟨j,hm⟩|⟨j,hm⟩
 ·exact aE
 ·refine aP j rfl (aU (aF (aI (aK (aO (v:=zS a1 b.length c2) (aC (aV (len:=b.length) vJ rfl) (aO (v:=i64 0) (aL (aQ [] (fun f w=>gI=some R/\aG G K (L) w) aE ?_)))))))));obtain ⟨V,o,ho⟩:=aB hm
  refine bP [0,1,12] o (fun d f w=>f 13=i64 d/\aG G K (L) w) aE ?_
  ·rintro d Z f a0 hm hr ⟨k,a⟩
   unfold gJ at hm
   refine aK (aC (dR k rfl) (aL (aI ?_)))
   rcases aJ hm with ⟨l,hm⟩|⟨l,hm⟩
   ·refine aS l rfl (aU (aF (aI (bK (aK (bO k (aH (v:=i64 d) (aL (aI (fY (C:=fun w'=>aG G K (L) w') Tryz_mixed (by kernel_rfl) (aG.mono a (eG.drew _)) (bD (fun _ a=>bE (v:=zS a1 b.length c2) rfl) (bD (fun _ a=>bE (v:=i64 d) rfl) ?_))))))))))));obtain ⟨e,m,hm⟩:=aB hm
    refine bD (fun _ a=>cL vJ rfl h rfl rfl rfl m) ?_;obtain ⟨a2,p,q⟩:=aY.el (sz:=3) rfl h m
    cases q
    refine bD (fun _ a=>dU (t:=0) (vs:=[str e.Left,str e.Right,str e.Result]) aKf a p rfl rfl rfl) (bD (fun _ a=>bE (v:=zS a4 c.length c5) rfl) (bD (fun _ a=>bE (v:=i64 d) rfl) ?_));obtain ⟨g,n,hm⟩:=aB hm
    refine bD (fun _ a=>cL vJ rfl i rfl rfl rfl n) ?_;obtain ⟨a3,r,u⟩:=aY.el (sz:=3) rfl i n
    cases u
    refine bD (fun _ a=>dU (t:=0) (vs:=[str g.Left,str g.Right,str g.Result]) aKf a r rfl rfl rfl) (bD (fun _ a=>R_neqG (eq_103 (x:=e) (y:=g)) rfl rfl) (vE (fun a5 a6=>(aF ?_))))
    rcases aJ hm with ⟨z,hm⟩|⟨z,hm⟩
    ·exact aE
    ·exact aE
   ·exact aE
theorem eW {e h:(List Definition)} {R:Bool} (hm:bA e h=some R) (hs:aG G K (L) w) (m:aY K a1 c2 e) (n:aY K a4 c5 h):
  Calls prog 43 ([zS a1 e.length c2,zS a4 h.length c5,Value.func (.func 44) #[] #[]]:List Value).toArray w (cK fun v w'=>v=zB R/\aG G K (L) w'):=by
 refine aM func43 rfl (by kernel_rfl) (by show (3:Nat)<=32;decide) ?_;unfold bA at hm
 refine aK (aH (v:=zB false) (aL (aI (aK (aO (v:=zS a1 e.length c2) (aC (aV (len:=e.length) qD rfl) (aO (v:=zS a4 h.length c5) (aC (aV (len:=h.length) qD rfl) (aC (rW rfl rfl) (aL ?_))))))))))
 rcases aJ hm with ⟨o,hm⟩|⟨o,hm⟩
 ·exact aE
 ·refine aP o rfl (aU (aF (aI (aK (aO (v:=zS a1 e.length c2) (aC (aV (len:=e.length) qD rfl) (aO (v:=i64 0) (aL (aQ [] (fun f w=>cO=some R/\aG G K (L) w) aE ?_)))))))));obtain ⟨b2,z,ho⟩:=aB hm
  refine bP [1,2,15,16] z (fun j f w=>f 17=i64 j/\aG G K (L) w) aE ?_
  ·rintro j b3 f b4 hm hr ⟨k,p⟩
   unfold cP at hm
   refine aK (aC (dR k rfl) (aL (aI ?_)))
   rcases aJ hm with ⟨q,hm⟩|⟨q,hm⟩
   ·refine aS q rfl (aU (aF (aI (bK (aK (bO k ?_))))));obtain ⟨a,r,hm⟩:=aB hm
    refine aC (cL qD rfl m rfl rfl k r) ?_;obtain ⟨b5,J,V⟩:=aY.el (sz:=3) rfl m r
    obtain ⟨c,d,rfl,Z⟩:=V
    refine aC (dU (t:=0) (vs:=[str a.Name,i64 a.Parameters,zS c a.Body.length d]) aIO p J rfl rfl rfl) (eA (vs:=[str ([]:aN),i64 0,zS none 0 0]) zeroValue94 p rfl (fun u b6 a0=>(aH (v:=i64 j) (eY (i:=0) (ns:=[str a.Name,i64 a.Parameters,zS c a.Body.length d]) (us:=[str a.Name,i64 a.Parameters,zS c a.Body.length d]) sizeOf94 a0 rfl rfl rfl rfl rfl (kI rfl) rfl rfl (fun a2 (x:aG G K (box u 94 [str a.Name,i64 a.Parameters,zS c a.Body.length d]::L) a2)=>(aL (aK (aO (v:=zS a4 h.length c5) (aO (v:=i64 j) ?_)))))))))
    obtain ⟨b,y,hm⟩:=aB hm
    refine aC (cL qD rfl n rfl rfl rfl y) ?_;obtain ⟨b7,a3,a5⟩:=aY.el (sz:=3) rfl n y
    obtain ⟨g,c48,rfl,a6⟩:=a5
    refine aC (dU (t:=0) (vs:=[str b.Name,i64 b.Parameters,zS g b.Body.length c48]) aIO x a3 rfl rfl rfl) (eA (vs:=[str ([]:aN),i64 0,zS none 0 0]) zeroValue94 x rfl (fun a7 b8 a8=>(eY (i:=0) (ns:=[str b.Name,i64 b.Parameters,zS g b.Body.length c48]) (us:=[str b.Name,i64 b.Parameters,zS g b.Body.length c48]) sizeOf94 a8 rfl rfl rfl rfl rfl (kI rfl) rfl rfl (fun a9 (l:aG G K (box a7 94 [str b.Name,i64 b.Parameters,zS g b.Body.length c48]::box u 94 [str a.Name,i64 a.Parameters,zS c a.Body.length d]::L) a9)=>(aL (aK (aO (v:=Value.func (.func 44) #[] #[]) (aC (kH (us:=[str a.Name,i64 a.Parameters,zS c a.Body.length d]) aIO l (i:=1) rfl rfl rfl rfl) (aC (kH (us:=[str b.Name,i64 b.Parameters,zS g b.Body.length c48]) aIO l (i:=0) rfl rfl rfl rfl) ?_)))))))))
    obtain ⟨b9,b0,hm⟩:=aB hm
    exact eI (vs:=[zA #[str a.Name,i64 a.Parameters,zS c a.Body.length d],zA #[str b.Name,i64 b.Parameters,zS g b.Body.length c48]]) (caps:=[]) (us:=[zA #[str a.Name,i64 a.Parameters,zS c a.Body.length d],zA #[str b.Name,i64 b.Parameters,zS g b.Body.length c48]]) rfl call44 rfl rfl (xJ b0 l Z a6) aE
   ·exact aE
theorem fB {e h:(List aX)} {R:Bool} (hm:bC e h=some R) (hs:aG G K (L) w) (m:aY K a1 c2 e) (n:aY K a4 c5 h):
  Calls prog 45 ([zS a1 e.length c2,zS a4 h.length c5,Value.func (.func 46) #[] #[]]:List Value).toArray w (cK fun v w'=>v=zB R/\aG G K (L) w'):=by
 refine aM func45 rfl (by kernel_rfl) (by show (3:Nat)<=32;decide) ?_;unfold bC at hm
 refine aK (aH (v:=zB false) (aL (aI (aK (aO (v:=zS a1 e.length c2) (aC (aV (len:=e.length) xH rfl) (aO (v:=zS a4 h.length c5) (aC (aV (len:=h.length) xH rfl) (aC (rW rfl rfl) (aL ?_))))))))))
 rcases aJ hm with ⟨o,hm⟩|⟨o,hm⟩
 ·exact aE
 ·refine aP o rfl (aU (aF (aI (aK (aO (v:=zS a1 e.length c2) (aC (aV (len:=e.length) xH rfl) (aO (v:=i64 0) (aL (aQ [] (fun f w=>cV=some R/\aG G K (L) w) aE ?_)))))))));obtain ⟨b2,z,ho⟩:=aB hm
  refine bP [1,2,15,16] z (fun j f w=>f 17=i64 j/\aG G K (L) w) aE ?_
  ·rintro j b3 f b4 hm hr ⟨k,p⟩
   unfold cW at hm
   refine aK (aC (dR k rfl) (aL (aI ?_)))
   rcases aJ hm with ⟨q,hm⟩|⟨q,hm⟩
   ·refine aS q rfl (aU (aF (aI (bK (aK (bO k ?_))))));obtain ⟨a,r,hm⟩:=aB hm
    refine aC (cL xH rfl m rfl rfl k r) ?_;obtain ⟨b5,J,V⟩:=aY.el (sz:=2) rfl m r
    obtain ⟨c,d,rfl,Z⟩:=V
    refine aC (dU (t:=0) (vs:=[i64 a.Definition,zS c a.Values.length d]) aKP p J rfl rfl rfl) (eA (vs:=[i64 0,zS none 0 0]) zeroValue99 p rfl (fun u b6 a0=>(aH (v:=i64 j) (eY (i:=0) (ns:=[i64 a.Definition,zS c a.Values.length d]) (us:=[i64 a.Definition,zS c a.Values.length d]) sizeOf99 a0 rfl rfl rfl rfl rfl (kI rfl) rfl rfl (fun a2 (x:aG G K (box u 99 [i64 a.Definition,zS c a.Values.length d]::L) a2)=>(aL (aK (aO (v:=zS a4 h.length c5) (aO (v:=i64 j) ?_)))))))))
    obtain ⟨b,y,hm⟩:=aB hm
    refine aC (cL xH rfl n rfl rfl rfl y) ?_;obtain ⟨b7,a3,a5⟩:=aY.el (sz:=2) rfl n y
    obtain ⟨g,c48,rfl,a6⟩:=a5
    refine aC (dU (t:=0) (vs:=[i64 b.Definition,zS g b.Values.length c48]) aKP x a3 rfl rfl rfl) (eA (vs:=[i64 0,zS none 0 0]) zeroValue99 x rfl (fun a7 b8 a8=>(eY (i:=0) (ns:=[i64 b.Definition,zS g b.Values.length c48]) (us:=[i64 b.Definition,zS g b.Values.length c48]) sizeOf99 a8 rfl rfl rfl rfl rfl (kI rfl) rfl rfl (fun a9 (l:aG G K (box a7 99 [i64 b.Definition,zS g b.Values.length c48]::box u 99 [i64 a.Definition,zS c a.Values.length d]::L) a9)=>(aL (aK (aO (v:=Value.func (.func 46) #[] #[]) (aC (kH (us:=[i64 a.Definition,zS c a.Values.length d]) aKP l (i:=1) rfl rfl rfl rfl) (aC (kH (us:=[i64 b.Definition,zS g b.Values.length c48]) aKP l (i:=0) rfl rfl rfl rfl) ?_)))))))))
    obtain ⟨b9,b0,hm⟩:=aB hm
    exact eI (vs:=[zA #[i64 a.Definition,zS c a.Values.length d],zA #[i64 b.Definition,zS g b.Values.length c48]]) (caps:=[]) (us:=[zA #[i64 a.Definition,zS c a.Values.length d],zA #[i64 b.Definition,zS g b.Values.length c48]]) rfl call46 rfl rfl (aAr b0 l Z a6) aE
   ·exact aE
theorem aDd {a b:bL} {R:Bool} (hm:wN a b=some R) (d:aG G K (L) w) (g:aY K a1 c2 a.Definitions) (h:aY K a4 c5 a.Components) (i:aY K a7 c8 a.Meetings) (j:aY K a10 c11 a.Allowed) (k:aY K a13 c14 a.Hidden) (l:aY K a16 c17 b.Definitions) (m:aY K a19 c20 b.Components) (n:aY K a22 c23 b.Meetings) (o:aY K a25 c26 b.Allowed) (p:aY K a28 c29 b.Hidden):
  Calls prog 19 ([zA #[zS a1 a.Definitions.length c2,zS a4 a.Components.length c5,zS a7 a.Meetings.length c8,zS a10 a.Allowed.length c11,zS a13 a.Hidden.length c14],zA #[zS a16 b.Definitions.length c17,zS a19 b.Components.length c20,zS a22 b.Meetings.length c23,zS a25 b.Allowed.length c26,zS a28 b.Hidden.length c29]]:List Value).toArray w (cK fun v w'=>v=zB R/\aG G K (L) w'):=by
 refine aM func19 rfl (by kernel_rfl) (by show (2:Nat)<=38;decide) ?_;unfold wN at hm
 exact aK (eR (v:=zA #[zS a1 a.Definitions.length c2,zS a4 a.Components.length c5,zS a7 a.Meetings.length c8,zS a10 a.Allowed.length c11,zS a13 a.Hidden.length c14]) (vs:=[zS a1 a.Definitions.length c2,zS a4 a.Components.length c5,zS a7 a.Meetings.length c8,zS a10 a.Allowed.length c11,zS a13 a.Hidden.length c14]) d rfl rfl (fun q r e=>(eR (v:=zA #[zS a16 b.Definitions.length c17,zS a19 b.Components.length c20,zS a22 b.Meetings.length c23,zS a25 b.Allowed.length c26,zS a28 b.Hidden.length c29]) (vs:=[zS a16 b.Definitions.length c17,zS a19 b.Components.length c20,zS a22 b.Meetings.length c23,zS a25 b.Allowed.length c26,zS a28 b.Hidden.length c29]) e rfl rfl (fun t u x=>(aH (v:=zB false) (aL (aI (aZ [] (fun f w=>∃ c,jU c=some R/\f 4=zB c/\aG G K (L) w) aE aE))))))))
theorem aIg {t:hJ} {k:Int} {R:Bool} (hm:pA t k=some R) (a:aG G K (L) w) (b:aY K a1 c2 t.L) (c:aY K a4 c5 t.E):
  Calls prog 49 ([zA (zCa t a1 c2 a4 c5),i64 k]:List Value).toArray w (cK fun v w'=>v=zB R/\aG G K (L) w'):=by
 exact aE
theorem aPd {i many:Int} {R:Bool} (hm:aBe i many=some R) (a:aG G K (L) w):
  Calls prog 51 ([i64 i,i64 many]:List Value).toArray w (cK fun v w'=>v=zB R/\aG G K (L) w'):=by
 exact aE
theorem aLw {t:hJ} {R:Bool} (hm:aCh t=some R) (y:aG G K (L) w) (hG:G.lo=0) (k:aY K a1 c2 t.L) (l:aY K a4 c5 t.E):
  Calls prog 20 ([zA (zCa t a1 c2 a4 c5)]:List Value).toArray w (cK fun v w'=>v=zB R/\aG G K (L) w'):=by
 let b:=(zC t a1 c2 a4 c5)
 refine aM func20 rfl (by kernel_rfl) (by show (1:Nat)<=109;decide) ?_;unfold aCh at hm
 refine aK (eR (v:=zA (zCa t a1 c2 a4 c5)) (vs:=b) y rfl rfl (fun c w8 b6=>(aH (v:=zB false) (aL (aI (aI (aZ [1] (fun f w=>∃ g,mA t g=some R/\f 30=zB g/\aG G K (box c 40 b::L) w) ?_ ?_)))))))
 ·rintro f b8 ⟨g,hm,z,J⟩
  unfold mA at hm
  refine aF ?_
  rcases aJ hm with ⟨m,hm⟩|⟨m,hm⟩
  ·exact aE
  ·refine aP m z (aU (aF (aI (aK (aC (bI (t':=2) fa_40_2 rfl rfl) (aC (dH sc_37 J (i:=0) rfl rfl rfl) (aC (aV (len:=t.L.length) cX rfl) (aO (v:=i64 0) (aL (aQ [1] (fun f w=>zF t=some R/\aG G K (box c 40 b::L) w) ?_ ?_))))))))))
   ·rintro f b9 ⟨hm,V⟩
    unfold zF at hm
    refine aF (aI (aK (aC (bI (t':=3) aIJ rfl rfl) (aC (dH sc_38 V (i:=0) rfl rfl rfl) (aC (aV (len:=t.E.length) aBC rfl) (aO (v:=i64 0) (aL (aQ [] (fun f w=>aHt=some R/\aG G K (L) w) aE ?_))))))));obtain ⟨c0,Z,ho⟩:=aB hm
    refine bP [1,65,66] Z (fun d f w=>f 67=i64 d/\aG G K (box c 40 b::L) w) aE ?_
    ·rintro d a0 f c1 hm hr ⟨h,n⟩
     unfold tC at hm
     refine aK (aC (dR h rfl) (aL (aI ?_)))
     rcases aJ hm with ⟨o,hm⟩|⟨o,hm⟩
     ·refine aS o rfl (aU (aF (aI (bK (aK (bO h ?_))))));obtain ⟨a,p,hm⟩:=aB hm
      refine aC (cL aBC rfl l rfl rfl h p) ?_;obtain ⟨c3,a2,a3⟩:=aY.el (sz:=3) rfl l p
      cases a3
      exact aC (dU (t:=0) (vs:=[i64 a.F,i64 a.B,i64 a.To]) ag_90 n a2 rfl rfl rfl) (eA (vs:=[i64 0,i64 0,i64 0]) zeroValue90 n rfl (fun a5 c4 a6=>(aH (v:=i64 d) (eY (i:=0) (ns:=[i64 a.F,i64 a.B,i64 a.To]) (us:=[i64 a.F,i64 a.B,i64 a.To]) sizeOf90 a6 rfl rfl rfl rfl rfl (kI rfl) rfl rfl (fun a7 (c6:aG G K (box a5 90 [i64 a.F,i64 a.B,i64 a.To]::box c 40 b::L) a7)=>(aL (aI (aZ [1,65,66,67] (fun f w=>∃ q,lZ d q=some a0/\f 107=zB q/\aG G K (box c 40 b::L) w) aE aE))))))))
     ·exact aE
   obtain ⟨c7,a8,ho⟩:=aB hm
   refine bP [1,32,33] a8 (fun e f w=>f 34=i64 e/\aG G K (box c 40 b::L) w) aE ?_
   ·rintro e a9 f c8 hm hr ⟨j,b0⟩
    unfold tD at hm
    refine aK (aC (dR j rfl) (aL (aI ?_)))
    rcases aJ hm with ⟨r,hm⟩|⟨r,hm⟩
    ·refine aS r rfl (aU (aF (aI (bK (aK (bO j ?_))))));obtain ⟨b1,u,hm⟩:=aB hm
     refine aC (cL cX rfl k rfl rfl j u) ?_;obtain ⟨c9,b2,b3⟩:=aY.el (sz:=1) rfl k u
     cases b3
     exact aC (cC (t:=0) nK b0 b2 rfl rfl) (aH (v:=i64 e) (aH (v:=str b1) (aL (aI (aZ [1,32,33,34] (fun f w=>∃ x,pB e x=some a9/\f 62=zB x/\aG G K (box c 40 b::L) w) aE aE)))))
    ·exact aE
 exact aE
theorem aAs {n:bH} {R:Int} (hm:jV n=some R) (d:aG G K (L) w):
  Calls prog 97 ([zA #[i64 n.Kind,i64 n.Variable,str n.B,zB n.Not]]:List Value).toArray w (cK fun v w'=>v=i64 R/\aG G K (L) w'):=by
 refine aM func97 rfl (by kernel_rfl) (by show (1:Nat)<=13;decide) ?_;unfold jV at hm
 refine aK (eR (v:=zA #[i64 n.Kind,i64 n.Variable,str n.B,zB n.Not]) (vs:=[i64 n.Kind,i64 n.Variable,str n.B,zB n.Not]) d rfl rfl (fun h j e=>(aH (v:=i64 0) (aL (aI (aK (aC (bI (t':=0) aAb rfl rfl) (aC (dH iK e (i:=0) rfl rfl rfl) (aL (bK (gY [4] (fun f w=>∃ a,lC n a=some R/\f 5=zB a/\aG G K (L) w) ?_ ?_)))))))))))
 ·rintro f k ⟨a,hm,g,l⟩
  unfold lC at hm
  rcases aJ hm with ⟨b,hm⟩|⟨b,hm⟩
  ·exact aE
  ·exact aP b g (gY [] (fun f w=>∃ c,iX c=some R/\f 8=zB c/\aG G K (L) w) aE aE)
 exact aE
theorem aMG {a:(List bH)} {R:Bool} (hm:aDV a=some R) (g:aG G K (L) w) (h:aY K a1 c2 a):
  Calls prog 53 ([zS a1 a.length c2]:List Value).toArray w (cK fun v w'=>v=zB R/\aG G K (L) w'):=by
 refine aM func53 rfl (by kernel_rfl) (by show (1:Nat)<=22;decide) ?_;unfold aDV at hm
 refine aK (aH (v:=zB false) (aL (aK (aH (v:=i64 1) (aL (aI (aK (aO (v:=zS a1 a.length c2) (aC (aV (len:=a.length) rX rfl) (aO (v:=i64 0) (aL (aQ [] (fun f w=>∃ b,aJl b=some R/\f 3=i64 b/\aG G K (L) w) aE ?_))))))))))));obtain ⟨i,c,ho⟩:=aB hm
 exact cG [6,7] c (fun d e f w=>f 3=i64 d/\f 8=i64 e/\aG G K (L) w) aE aE
theorem wZ {n:bH} {R:Bool} (hm:pL n=some R) (b:aG G K (L) w):
  Calls prog 98 ([zA #[i64 n.Kind,i64 n.Variable,str n.B,zB n.Not]]:List Value).toArray w (cK fun v w'=>v=zB R/\aG G K (L) w'):=by
 refine aM func98 rfl (by kernel_rfl) (by show (1:Nat)<=11;decide) ?_;unfold pL at hm
 exact aK (eR (v:=zA #[i64 n.Kind,i64 n.Variable,str n.B,zB n.Not]) (vs:=[i64 n.Kind,i64 n.Variable,str n.B,zB n.Not]) b rfl rfl (fun c d e=>(aH (v:=zB false) (aL (aI (aZ [] (fun f w=>∃ a,lR a=some R/\f 2=zB a/\aG G K (L) w) aE aE))))))
theorem rS {a b:aN} {R:(aN × Bool)} (hm:iA a b=some R) (c:aG G K (L) w):
  Calls prog 182 ([str a,str b]:List Value).toArray w (cK fun v w'=>v=Value.tuple #[str R.1,zB R.2]/\aG G K (L) w'):=by
 exact aE
theorem mC {a b:aN} {R:(aN × Bool)} (hm:kA a b=some R) (c:aG G K (L) w):
  Calls prog 149 ([str a,str b]:List Value).toArray w (cK fun v w'=>v=Value.tuple #[str R.1,zB R.2]/\aG G K (L) w'):=by
 exact aE
theorem aKq {a:aN} {R:Bool} (hm:aAl a=some R) (d:aG G K (L) w) (g:G.lo=0):
  Calls prog 99 ([str a]:List Value).toArray w (cK fun v w'=>v=zB R/\aG G K (L) w'):=by
 refine aM func99 rfl (by kernel_rfl) (by show (1:Nat)<=23;decide) ?_;unfold aAl at hm
 refine aK (aH (v:=zB false) (aL (aK (aO (v:=str a) ?_))));obtain ⟨b,e,hm⟩:=aB hm
 refine aW (vs:=[str a,str ([42]:aN)]) call149 rfl (mC e d) ?_
 rintro _ h ⟨rfl,i⟩
 exact aO (v:=Value.tuple #[str b.1,zB b.2]) (aC (iE rfl rfl) (aC (iE rfl rfl) (aH (v:=str b.1) (aH (v:=zB b.2) (aL (aI (aZ [] (fun f w=>∃ c,mU c=some R/\f 2=zB c/\aG G K (L) w) aE aE)))))))
end Gv
namespace Gv
open Gv.Hp renaming le_refl→zR
open Go.Value renaming slice→zS,bool→zB,pointer→zP,agg→zA,tuple→zT
open Gv.Hp renaming le_trans→zL
open Go Go.Proofs Go.Proofs.Tryz
set_option maxRecDepth 20000
set_option maxHeartbeats 40000000
variable {G:kE} {K:Hp} {L:List eT} {w:World} {a1 a4:Option Addr} {c2:Nat}
theorem aGl {n:bH} {R:Bool} (hm:oM n=some R) (e:aG G K (L) w) (h:G.lo=0):
  Calls prog 54 ([zA #[i64 n.Kind,i64 n.Variable,str n.B,zB n.Not]]:List Value).toArray w (cK fun v w'=>v=zB R/\aG G K (L) w'):=by
 let a:=[i64 n.Kind,i64 n.Variable,str n.B,zB n.Not]
 refine aM func54 rfl (by kernel_rfl) (by show (1:Nat)<=16;decide) ?_;unfold oM at hm
 refine aK (eR (v:=zA #[i64 n.Kind,i64 n.Variable,str n.B,zB n.Not]) (vs:=a) e rfl rfl (fun j k b=>(aH (v:=zB false) (aL (aI (aK (aC (kH (us:=a) aHR b (i:=0) rfl rfl rfl rfl) ?_)))))));obtain ⟨l,g,hm⟩:=aB hm
 refine aW (vs:=[zA #[i64 n.Kind,i64 n.Variable,str n.B,zB n.Not]]) call98 rfl (wZ g b) ?_
 rintro _ m ⟨rfl,o⟩
 refine aL ?_
 rcases aJ hm with ⟨c,hm⟩|⟨c,hm⟩
 ·exact aE
 ·exact aP c rfl (aU (aF (aI (aZ [] (fun f w=>∃ d,nV d=some R/\f 2=zB d/\aG G K (L) w) aE aE))))
theorem aHa {n:bH} {R:Bool} (hm:mV n=some R) (b:aG G K (L) w):
  Calls prog 100 ([zA #[i64 n.Kind,i64 n.Variable,str n.B,zB n.Not]]:List Value).toArray w (cK fun v w'=>v=zB R/\aG G K (L) w'):=by
 refine aM func100 rfl (by kernel_rfl) (by show (1:Nat)<=11;decide) ?_;unfold mV at hm
 exact aK (eR (v:=zA #[i64 n.Kind,i64 n.Variable,str n.B,zB n.Not]) (vs:=[i64 n.Kind,i64 n.Variable,str n.B,zB n.Not]) b rfl rfl (fun c d e=>(aH (v:=zB false) (aL (aI (aZ [] (fun f w=>∃ a,pM a=some R/\f 2=zB a/\aG G K (L) w) aE aE))))))
theorem aHb {n:bH} {R:Bool} (hm:qQ n=some R) (c:aG G K (L) w):
  Calls prog 55 ([zA #[i64 n.Kind,i64 n.Variable,str n.B,zB n.Not]]:List Value).toArray w (cK fun v w'=>v=zB R/\aG G K (L) w'):=by
 let a:=[i64 n.Kind,i64 n.Variable,str n.B,zB n.Not]
 refine aM func55 rfl (by kernel_rfl) (by show (1:Nat)<=16;decide) ?_;unfold qQ at hm
 exact aK (eR (v:=zA #[i64 n.Kind,i64 n.Variable,str n.B,zB n.Not]) (vs:=a) c rfl rfl (fun d e g=>(aH (v:=zB false) (aL (aI (aI (aZ [1] (fun f w=>∃ b,pN n b=some R/\f 9=zB b/\aG G K (box d 109 a::L) w) aE aE)))))))
theorem aJH {a:(List bH)} {k R:Int} (hm:kJ a k=some R) (g:aG G K (L) w) (h:aY K a1 c2 a):
  Calls prog 101 ([zS a1 a.length c2,i64 k]:List Value).toArray w (cK fun v w'=>v=i64 R/\aG G K (L) w'):=by
 refine aM func101 rfl (by kernel_rfl) (by show (2:Nat)<=19;decide) ?_;unfold kJ at hm
 refine aK (aH (v:=i64 0) (aL (aI (aK (aH (v:=i64 1) (aL (aQ [] (fun f w=>∃ b,aAE b=some R/\f 1=i64 b/\aG G K (L) w) aE ?_)))))));obtain ⟨i,c,ho⟩:=aB hm
 exact cG [0] c (fun d e f w=>f 1=i64 d/\f 5=i64 e/\aG G K (L) w) aE aE
theorem aNI {a:(List bH)} {k R:Int} (hm:aCi a k=some R) (i:aG G K (L) w) (j:aY K a1 c2 a):
  Calls prog 56 ([zS a1 a.length c2,i64 k]:List Value).toArray w (cK fun v w'=>v=i64 R/\aG G K (L) w'):=by
 refine aM func56 rfl (by kernel_rfl) (by show (2:Nat)<=38;decide) ?_;unfold aCi at hm
 refine aK (aH (v:=i64 0) (aL (aI (aK (aO (v:=i64 k) (aC (jI rfl rfl) (aH (v:=i64 (wr (k - 1))) (aL (aQ [] (fun f w=>aKR=some R/\aG G K (L) w) aE ?_)))))))));obtain ⟨l,e,ho⟩:=aB hm
 refine bP [0,1] e (fun b f w=>f 5=i64 b/\aG G K (L) w) aE ?_
 ·rintro b g f m hm hr ⟨h,n⟩
  unfold aAn at hm
  refine aI (aK (bO h (aC (aNY rfl rfl) (aL ?_))))
  rcases aJ hm with ⟨c,hm⟩|⟨c,hm⟩
  ·exact aS c rfl (aU (aF (aI (bK (aI (aZ [0,1,5] (fun f w=>∃ d,aAm b d=some g/\f 36=zB d/\aG G K (L) w) aE aE))))))
  ·exact aE
theorem aHc {b:(List bH)} {R:Bool} (hm:gK b=some R) (z:aG G K (L) w) (J:G.lo=0) (g:aY K a1 c2 b):
  Calls prog 21 ([zS a1 b.length c2]:List Value).toArray w (cK fun v w'=>v=zB R/\aG G K (L) w'):=by
 refine aM func21 rfl (by kernel_rfl) (by show (1:Nat)<=47;decide) ?_;unfold gK at hm
 refine aK (aH (v:=zB false) (aL (aI (aI (aZ [0] (fun f w=>∃ d,lT b d=some R/\f 13=zB d/\aG G K (L) w) ?_ ?_)))))
 ·rintro f V ⟨d,hm,n,Z⟩
  unfold lT at hm
  refine aF ?_
  rcases aJ hm with ⟨h,hm⟩|⟨h,hm⟩
  ·exact aE
  ·refine aP h n (aU (aF (aI (aK (aO (v:=zS a1 b.length c2) (aC (aV (len:=b.length) rX rfl) (aO (v:=i64 0) (aL (aQ [] (fun f w=>wO=some R/\aG G K (L) w) aE ?_)))))))));obtain ⟨a0,o,ho⟩:=aB hm
   refine bP [0,14,15] o (fun c f w=>f 16=i64 c/\aG G K (L) w) aE ?_
   ·rintro c p f a2 hm hr ⟨e,j⟩
    unfold lS at hm
    refine aK (aC (dR e rfl) (aL (aI ?_)))
    rcases aJ hm with ⟨k,hm⟩|⟨k,hm⟩
    ·refine aS k rfl (aU (aF (aI (bK (aK (bO e ?_))))));obtain ⟨a,l,hm⟩:=aB hm
     refine aC (cL rX rfl g rfl rfl e l) ?_;obtain ⟨a3,q,r⟩:=aY.el (sz:=4) rfl g l
     cases r
     exact aC (dU (t:=0) (vs:=[i64 a.Kind,i64 a.Variable,str a.B,zB a.Not]) aHR j q rfl rfl rfl) (eA (vs:=[i64 0,i64 0,str ([]:aN),zB false]) zeroValue109 j rfl (fun u a4 x=>(aH (v:=i64 c) (eY (i:=0) (ns:=[i64 a.Kind,i64 a.Variable,str a.B,zB a.Not]) (us:=[i64 a.Kind,i64 a.Variable,str a.B,zB a.Not]) sizeOf109 x rfl rfl rfl rfl rfl (kI rfl) rfl rfl (fun y (a5:aG G K (box u 109 [i64 a.Kind,i64 a.Variable,str a.B,zB a.Not]::L) y)=>(aL (aI (aZ [0,14,15,16] (fun f w=>∃ m,iB c m=some p/\f 45=zB m/\aG G K (L) w) aE aE))))))))
    ·exact aE
 exact aE
theorem aAt {rec_:(List bH)->Option ((Tr bH) × (List bH))} (ih:∀ {G:kE} {K:Hp} {L:List eT} {w:World} {c:(List bH)} {a1:Option Addr} {c2:Nat} {R:((Tr bH) × (List bH))} (hm:rec_ c=some R) (hs:aG G K (L) w) (g:aY K a1 c2 c),
  Calls prog 102 ([zS a1 c.length c2]:List Value).toArray w (cK fun v w'=>∃ d r u x,v=zT #[cH r 0,zS u R.2.length x]/\Hp.le K d/\trd d R.1 r/\aY d u x R.2/\aG G d (L) w'))
  {G:kE} {K:Hp} {L:List eT} {w:World} {c:(List bH)} {a1:Option Addr} {c2:Nat} {R:((Tr bH) × (List bH))} (hm:gP rec_ c=some R) (hs:aG G K (L) w) (g:aY K a1 c2 c):
  Calls prog 102 ([zS a1 c.length c2]:List Value).toArray w (cK fun v w'=>∃ d r u x,v=zT #[cH r 0,zS u R.2.length x]/\Hp.le K d/\trd d R.1 r/\aY d u x R.2/\aG G d (L) w'):=by
 refine aM func102 rfl (by kernel_rfl) (by show (1:Nat)<=38;decide) ?_;unfold gP at hm
 refine aK (aH (v:=zP none) (aH (v:=zS none 0 0) (aL (aK (aO (v:=zS a1 c.length c2) ?_)))));obtain ⟨a,q5,hm⟩:=aB hm
 refine aC (cL rX rfl g rfl rfl rfl q5) ?_;obtain ⟨g1,b6,c9⟩:=aY.el (sz:=4) rfl g q5
 cases c9
 refine aC (dU (t:=0) (vs:=[i64 a.Kind,i64 a.Variable,str a.B,zB a.Not]) aHR hs b6 rfl rfl rfl) (aC (aCG (vs:=[(0,zA #[i64 a.Kind,i64 a.Variable,str a.B,zB a.Not])]) (cs:=[i64 a.Kind,i64 a.Variable,str a.B,zB a.Not,zS none 0 0]) bs_160 rfl (by kernel_rfl)) (eR (v:=zA #[i64 a.Kind,i64 a.Variable,str a.B,zB a.Not,zS none 0 0]) (vs:=[i64 a.Kind,i64 a.Variable,str a.B,zB a.Not,zS none 0 0]) hs rfl rfl (fun b g2 b7=>(aH (v:=zP (some ⟨b,0,none⟩)) (aL (aK (aO (v:=zS a1 c.length c2) ?_)))))))
 obtain ⟨d0,b8,hm⟩:=aB hm
 obtain ⟨d1,d2,c0⟩:=Cut.ex 4 a1 c2 1
 have g3:=aY.cut' g b8 c0
 refine aC (aON rX g.room c0 rfl rfl rfl b8) (aH (v:=zS d1 d0.length d2) (aL (aI (aK (aO (v:=zS a1 c.length c2) (aC (cL rX rfl g rfl rfl rfl q5) (aC (dU (t:=0) (vs:=[i64 a.Kind,i64 a.Variable,str a.B,zB a.Not]) aHR b7 b6 rfl rfl rfl) ?_)))))));obtain ⟨g4,d3,hm⟩:=aB hm
 refine aW (vs:=[zA #[i64 a.Kind,i64 a.Variable,str a.B,zB a.Not]]) call97 rfl (aAs d3 b7) ?_
 rintro _ g5 ⟨rfl,d4⟩
 refine aO (v:=i64 0) (aL (aQ [4] (fun f w=>∃ y j z a0 a2 J V,Hp.le K y/\yG a j z=some R/\f 5=zS J z.length V/\aY y J V z/\aG G y (aT 112 y a0 a2 j::box b 160 [i64 a.Kind,i64 a.Variable,str a.B,zB a.Not,zS a0 j.length a2]::L) w) ?_ ?_))
 ·rintro f c1 ⟨y,j,z,a0,a2,J,V,d5,hm,d6,d7,d8⟩
  unfold yG at hm
  refine aF (aK (aO (v:=zP (some ⟨b,0,none⟩)) (bO d6 (aH (v:=zP (some ⟨b,0,none⟩)) (aH (v:=zS J z.length V) (aL ?_))))));obtain ⟨d9,c3,e0,a9⟩:=aG.giveSp d8 (zR _) .head
  replace a9:aG G d9 (box b 160 [i64 a.Kind,i64 a.Variable,str a.B,zB a.Not,zS a0 j.length a2]::L) c1:=a9
  obtain ⟨b0,b1,e1,b2,_⟩:=aG.lendBp a9 .head
  replace b2:aG G b0 (L) c1:=b2
  have e2:trd b0 (Tr.mk a j) (some ⟨b,0,none⟩):=trd_mk e1 (e0.mono b1)
  obtain rfl:=Option.some.inj hm
  exact aIA (retQ_2 results102 rfl rfl ⟨b0,(some ⟨b,0,none⟩),J,V,(tp2 (elp_b rfl) rfl),(zL (zL d5 c3) b1),e2,(d7.mono (zL c3 b1)),b2⟩)
 have g6:=aG.nil (α:=(Tr bH)) d4 112 K
 obtain ⟨g7,e5,ho⟩:=aB hm
 refine aBy [4,17] e5 (fun k a3 b3 f w=>∃ l m n a4 a5,Hp.le K l/\f 5=zS a4 a3.length a5/\f 18=i64 b3/\aY l a4 a5 a3/\aG G l (aT 112 l m n k::box b 160 [i64 a.Kind,i64 a.Variable,str a.B,zB a.Not,zS m k.length n]::L) w) aE ?_
 ·rintro k a3 b3 g8 f g9 hm hr ⟨l,m,n,a4,a5,e6,e7,c4,e8,e9⟩
  unfold mW at hm
  refine aK (aC (dR c4 rfl) (aL (aI ?_)))
  rcases aJ hm with ⟨c5,hm⟩|⟨c5,hm⟩
  ·refine aS c5 rfl (aU (aF (aI (bK (aK (aH (v:=zP none) (aL (aK (bO e7 ?_)))))))));obtain ⟨a6,f0,hm⟩:=aB hm
   refine aW (vs:=[zS a4 a3.length a5]) call102 rfl (ih f0 e9 e8) ?_
   rintro _ h0 ⟨e,o,b4,b5,rfl,c6,f1,f2,c7⟩
   refine aO (v:=zT #[cH o 0,zS b4 a6.2.length b5]) (aC (iE rfl rfl) (aC (iE rfl rfl) (aH (v:=cH o 0) (aH (v:=zS b4 a6.2.length b5) (aL (bQ (aO (v:=zP (some ⟨b,0,none⟩)) (aO (v:=zP (some ⟨b,0,none⟩)) (aC (vD rfl) (aC (bI (t':=4) qE rfl rfl) (aC (dH aDl c7 (i:=1) rfl rfl rfl) (aO (v:=cH o 0) (dK (Kt:=e) (xs:=([a6.1]:List (Tr bH))) (cs:=[cH o 0]) (vs:=[(0,cH o 0)]) aBF ez_112 rfl rfl c7 rfl (by kernel_rfl) rfl rfl rfl ⟨⟨o,rfl,f1⟩,trivial⟩ (fun f3 f4 (f5:aG G e (aT 112 e f3 1 ([a6.1]:List (Tr bH))::aT 112 l m n k::box b 160 [i64 a.Kind,i64 a.Variable,str a.B,zB a.Not,zS m k.length n]::L) f4)=>?_))))))))))))))
   obtain ⟨Z,f6,hm⟩:=aB hm
   exact WO_appO (i:=0) e aBF underlying158 ez_112 rfl rfl f5 rfl c6 (zR _) f6 rfl rfl rfl rfl (fun _ _ _ h=>El.one h) (fun p q f7 (f8:aG G e (aT 112 e p q Z::box b 160 [i64 a.Kind,i64 a.Variable,str a.B,zB a.Not,zS m k.length n]::L) f7)=>(aC (vD rfl) (aC (bI (t':=4) qE rfl rfl) (eY (i:=1) (ns:=[zS p Z.length q]) (us:=[i64 a.Kind,i64 a.Variable,str a.B,zB a.Not,zS p Z.length q]) sizeOf158 f8 rfl rfl rfl rfl rfl (kI rfl) rfl rfl (fun f9 (g0:aG G e (aT 112 e p q Z::box b 160 [i64 a.Kind,i64 a.Variable,str a.B,zB a.Not,zS p Z.length q]::L) f9)=>(bY (eV (aF (bQ (aC (oD c4 rfl) (aO (v:=i64 (wr (b3+1))) (aL ⟨_,(Option.some.inj hm).symm,gH,e,p,q,b4,b5,(zL e6 c6),rfl,rfl,f2,g0⟩))))))))))))
  ·exact aE
theorem aAu (n:Nat):∀ {G:kE} {K:Hp} {L:List eT} {w:World} {a:(List bH)} {a1:Option Addr} {c2:Nat} {R:((Tr bH) × (List bH))} (hm:gQ n a=some R) (b:aG G K (L) w) (c:aY K a1 c2 a),
  Calls prog 102 ([zS a1 a.length c2]:List Value).toArray w (cK fun v w'=>∃ d e g h,v=zT #[cH e 0,zS g R.2.length h]/\Hp.le K d/\trd d R.1 e/\aY d g h R.2/\aG G d (L) w'):=by
 induction n with
 |zero=>
  intro G K L w a a1 c2 R hm b c
  unfold gQ at hm
  cases hm
 |succ n ih=>
  intro G K L w a a1 c2 R hm b c
  exact aAt (rec_:=gQ n) (fun hm b c=>ih hm b c) hm b c
theorem aIh {f_:(List bH)} {R:((Tr bH) × (List bH))} (hm:aDt f_=some R) (hs:aG G K (L) w) (h3:aY K a1 c2 f_):
  Calls prog 102 ([zS a1 f_.length c2]:List Value).toArray w (cK fun v w'=>∃ K' ra1 ra2 rc2,v=zT #[cH ra1 0,zS ra2 R.2.length rc2]/\Hp.le K K'/\trd K' R.1 ra1/\aY K' ra2 rc2 R.2/\aG G K' (L) w'):=aAu 100000 hm hs h3
theorem aKr {a:(List bH)} {R:(Tr bH)} (hm:aFV a=some R) (d:aG G K (L) w) (e:aY K a1 c2 a):
  Calls prog 57 ([zS a1 a.length c2]:List Value).toArray w (cK fun v w'=>∃ b c,v=cH c 0/\Hp.le K b/\trd b R c/\aG G b (L) w'):=by
 exact aE
theorem oP {a:aN} {c:Bool} {R:aN} (hm:yH a c=some R) (e:aG G K (L) w):
  Calls prog 105 ([str a,zB c]:List Value).toArray w (cK fun v w'=>v=str R/\aG G K (L) w'):=by
 refine aM func105 rfl (by kernel_rfl) (by show (2:Nat)<=23;decide) ?_;unfold yH at hm
 refine aK (aH (v:=str ([]:aN)) (aL (aK (aO (v:=str a) ?_))));obtain ⟨b,g,hm⟩:=aB hm
 refine aW (vs:=[str a,str ([42]:aN)]) call149 rfl (mC g e) ?_
 rintro _ h ⟨rfl,i⟩
 exact aO (v:=zT #[str b.1,zB b.2]) (aC (iE rfl rfl) (aC (iE rfl rfl) (aH (v:=str b.1) (aH (v:=zB b.2) (aL (aI (aQ [1] (fun f w=>∃ d,pC c d=some R/\f 0=str d/\aG G K (L) w) aE aE)))))))
theorem uK {a:(List Int)} {b R:Int} (hm:eN a b=some R) (e:aG G K (L) w) (g:aY K a1 c2 a):
  Calls prog 151 ([zS a1 a.length c2,i64 b]:List Value).toArray w (cK fun v w'=>v=i64 R/\aG G K (L) w'):=by
 refine aM func151 rfl (by kernel_rfl) (by show (2:Nat)<=19;decide) ?_;unfold eN at hm
 refine aK (aH (v:=i64 0) (aL (aI (aK (aO (v:=zS a1 a.length c2) (aC (aV (len:=a.length) fI rfl) (aO (v:=i64 0) (aL (aQ [] (fun f w=>lU=some R/\aG G K (L) w) aE ?_)))))))));obtain ⟨h,c,ho⟩:=aB hm
 exact bP [0,1,7] c (fun d f w=>f 8=i64 d/\aG G K (L) w) aE aE
theorem jQ {a:(List Int)} {b:Int} {R:Bool} (hm:cB a b=some R) (c:aG G K (L) w) (d:aY K a1 c2 a):
  Calls prog 104 ([zS a1 a.length c2,i64 b]:List Value).toArray w (cK fun v w'=>v=zB R/\aG G K (L) w'):=by
 exact aE
theorem bM {rec_:(Tr bH)->Option aN} (g:∀ {G:kE} {K:Hp} {L:List eT} {w:World} {h:(Tr bH)} {a1:Option Addr} {R:aN} (hm:rec_ h=some R) (d:aG G K (L) w) (c:trd K h a1),
  Calls prog 58 ([cH a1 0]:List Value).toArray w (cK fun v w'=>v=str R/\aG G K (L) w')) {G:kE} {K:Hp} {L:List eT} {w:World} {a:(Tr bH)} {a1:Option Addr} {kinds:(List Int)} {a3:Option Addr} {c4:Nat} {R:aN} (hm:eH rec_ a kinds=some R) (d:aG G K (L) w) (c:trd K a a1) (j:aY K a3 c4 kinds):
  Calls prog 103 ([cH a1 0,zS a3 kinds.length c4]:List Value).toArray w (cK fun v w'=>v=str R/\aG G K (L) w'):=by
 refine aM func103 rfl (by kernel_rfl) (by show (2:Nat)<=18;decide) ?_;unfold eH at hm
 refine aK (aH (v:=str ([]:aN)) (aL (aI (aK (aO (v:=zS a3 kinds.length c4) (aO (v:=cH a1 0) ?_))))));obtain ⟨k,l,b,p⟩:=trd.el c
 replace b:eQ K a1 0 [i64 a.val.Kind,i64 a.val.Variable,str a.val.B,zB a.val.Not,zS k a.kids.length l]:=b
 refine aC (eD rfl b) (aC (cQ (k':=0+0) aMe rfl b rfl) (aC (cQ (k':=0+0) aAb rfl b rfl) (aC (cC (t:=0) iK d b rfl rfl) ?_)));obtain ⟨q,m,hm⟩:=aB hm
 refine aW (vs:=[zS a3 kinds.length c4,i64 a.val.Kind]) call104 rfl (jQ m d j) ?_
 rintro _ r ⟨rfl,i⟩
 refine aL ?_
 rcases aJ hm with ⟨e,hm⟩|⟨e,hm⟩
 ·refine aS e rfl (aK (aO (v:=cH a1 0) ?_));obtain ⟨u,n,hm⟩:=aB hm
  exact aW (vs:=[cH a1 0]) call58 rfl (g n i c) aE
 ·refine aP e rfl (aU (aF (aK (aO (v:=cH a1 0) ?_))));obtain ⟨x,o,hm⟩:=aB hm
  exact aW (vs:=[cH a1 0]) call58 rfl (g o i c) aE
theorem xK {rec_:(Tr bH)->Option aN} (k:∀ {G:kE} {K:Hp} {L:List eT} {w:World} {b:(Tr bH)} {a1:Option Addr} {R:aN} (hm:rec_ b=some R) (hs:aG G K (L) w) (h2:trd K b a1),
  Calls prog 58 ([cH a1 0]:List Value).toArray w (cK fun v w'=>v=str R/\aG G K (L) w'))
  {G:kE} {K:Hp} {L:List eT} {w:World} {b:(Tr bH)} {a1:Option Addr} {R:aN} (hm:gA rec_ b=some R) (hs:aG G K (L) w) (h2:trd K b a1):
  Calls prog 58 ([cH a1 0]:List Value).toArray w (cK fun v w'=>v=str R/\aG G K (L) w'):=by
 let m:=[i64 b.val.Kind,i64 b.val.Variable,str b.val.B,zB b.val.Not]
 let V:=[str b.val.B,zB b.val.Not]
 refine aM func58 rfl (by kernel_rfl) (by show (1:Nat)<=134;decide) ?_;unfold gA at hm
 refine aK (aH (v:=str ([]:aN)) (aL (aK (aH (v:=Value.func (.func 103) #[] #[]) (aL (aK (aO (v:=cH a1 0) ?_)))))));obtain ⟨a3,c4,a,l⟩:=trd.el h2
 replace a:eQ K a1 0 [i64 b.val.Kind,i64 b.val.Variable,str b.val.B,zB b.val.Not,zS a3 b.kids.length c4]:=a
 refine aC (eD rfl a) (aC (cQ (k':=0+0) aMe rfl a rfl) (aC (dU (t:=0) (vs:=m) aHR hs a rfl rfl rfl) (eA (vs:=[i64 0,i64 0,str ([]:aN),zB false]) zeroValue109 hs rfl (fun x w8 j8=>(eY (i:=0) (ns:=m) (us:=m) sizeOf109 j8 rfl rfl rfl rfl rfl (kI rfl) rfl rfl (fun j9 (u:aG G K (box x 109 m::L) j9)=>(aL (aI (aK (aC (bI (t':=0) aAb rfl rfl) (aC (dH iK u (i:=0) rfl rfl rfl) (aL (bK (aK (aC (dS rfl rfl) (aH (v:=zB (b.val.Kind == 0)) (aL ?_)))))))))))))))))
 rcases aJ hm with ⟨f6,hm⟩|⟨f6,hm⟩
 ·exact aE
 ·refine aP f6 rfl (aK (aC (dS rfl rfl) (aH (v:=zB (b.val.Kind == 1)) (aL ?_))))
  rcases aJ hm with ⟨f7,hm⟩|⟨f7,hm⟩
  ·exact aE
  ·refine aP f7 rfl (aK (aC (dS rfl rfl) (aH (v:=zB (b.val.Kind == 2)) (aL ?_))))
   rcases aJ hm with ⟨b5,hm⟩|⟨b5,hm⟩
   ·refine aS b5 rfl (aI (aZ [] (fun f w=>∃ f8,aCS f8=some R/\f 2=str f8/\aG G K (L) w) aE (aDC (C:=fun w'=>∃ L',aG G K L' w') [] Tryz_mixed (by kernel_rfl) (fun w22 k0=>?_))))
    have c:=aG.mono u k0
    refine eJ (i:=0) rfl (by kernel_rfl) ⟨_,c⟩ (fun _ _=>bE (v:=Value.func (.func 103) #[] #[]) rfl) (eJ (i:=1) rfl (by kernel_rfl) ⟨_,c⟩ (fun _ _=>bE (v:=cH a1 0) rfl) (eJ (i:=2) rfl (by kernel_rfl) ⟨_,c⟩ (fun _ _=>eD rfl a) (eJ (i:=3) rfl (by kernel_rfl) ⟨_,c⟩ (fun _ _=>cQ (k':=0+4) qE rfl a rfl) (eJ (i:=4) rfl (by kernel_rfl) ⟨_,c⟩ (fun _ ⟨_,c⟩=>cC (t:=4) aDl c a rfl rfl) ?_))));obtain ⟨e25,f9,hm⟩:=aB hm
    refine eJ (i:=5) rfl (by kernel_rfl) ⟨_,c⟩ (fun _ _=>cL aBF rfl l rfl rfl rfl f9) ?_;obtain ⟨a29,k1,k2⟩:=aY.el (sz:=1) rfl l f9
    obtain ⟨z,rfl,b6⟩:=k2
    refine eJ (i:=6) rfl (by kernel_rfl) ⟨_,c⟩ (fun _ ⟨_,c⟩=>cC (t:=0) aEu c k1 rfl rfl) (eJ (i:=10) rfl (by kernel_rfl) ⟨_,c⟩ (fun _ _=>bE (v:=Value.func (.func 103) #[] #[]) rfl) (eJ (i:=11) rfl (by kernel_rfl) ⟨_,c⟩ (fun _ _=>bE (v:=cH a1 0) rfl) (eJ (i:=12) rfl (by kernel_rfl) ⟨_,c⟩ (fun _ _=>eD rfl a) (eJ (i:=13) rfl (by kernel_rfl) ⟨_,c⟩ (fun _ _=>cQ (k':=0+4) qE rfl a rfl) (eJ (i:=14) rfl (by kernel_rfl) ⟨_,c⟩ (fun _ ⟨_,c⟩=>cC (t:=4) aDl c a rfl rfl) ?_)))))
    obtain ⟨e32,g0,hm⟩:=aB hm
    refine eJ (i:=15) rfl (by kernel_rfl) ⟨_,c⟩ (fun _ _=>cL aBF rfl l rfl rfl rfl g0) ?_;obtain ⟨a32,k3,k4⟩:=aY.el (sz:=1) rfl l g0
    obtain ⟨J,rfl,b8⟩:=k4
    refine eJ (i:=16) rfl (by kernel_rfl) ⟨_,c⟩ (fun _ ⟨_,c⟩=>cC (t:=0) aEu c k3 rfl rfl) (aGr (i:=7) (j:=17) (by kernel_rfl) rfl rfl ?_ ?_)
    ·refine dK (Kt:=K) (xs:=([2,3]:List Int)) (cs:=[i64 2,i64 3]) (vs:=[(0,i64 2),(1,i64 3)]) fI aAa rfl rfl c rfl (by kernel_rfl) rfl rfl rfl ⟨rfl,rfl,trivial⟩ (fun y k5 (b9:aG G K (aT 2 K y 2 ([2,3]:List Int)::box x 109 m::L) k5)=>(bY (aF ⟨fun _=>⟨_,b9⟩,?_⟩)))
     refine aGr (i:=8) (j:=17) (by kernel_rfl) rfl rfl ?_ ?_
     ·obtain ⟨K42,k6,k7,k8,k9⟩:=aG.lendSp b9 (zR _) .head
      obtain ⟨r47,l0,hm⟩:=aB hm
      refine eI (vs:=[cH z 0,zS y ([2,3]:List Int).length 2]) (caps:=[]) (us:=[cH z 0,zS y ([2,3]:List Int).length 2]) rfl call103 rfl rfl (bM k l0 k8 (b6.mono k6) k7) ?_
      rintro _ w49 ⟨rfl,l1⟩
      have c0:=k9 _ _ l1
      refine bY (aF ⟨fun _=>⟨_,c0⟩,?_⟩)
      obtain ⟨s52,l2,hm⟩:=aB hm
      refine eJ (i:=9) rfl (by kernel_rfl) ⟨_,c0⟩ (fun _ _=>eM rfl rfl l2) (gZ (i:=17) (by kernel_rfl) rfl (dK (Kt:=K) (xs:=([3]:List Int)) (cs:=[i64 3]) (vs:=[(0,i64 3)]) fI aAa rfl rfl c0 rfl (by kernel_rfl) rfl rfl rfl ⟨rfl,trivial⟩ (fun c1 l3 (g1:aG G K (aT 2 K c1 1 ([3]:List Int)::aT 2 K y 2 ([2,3]:List Int)::box x 109 m::L) l3)=>(bY (aF ⟨fun _=>⟨_,g1⟩,?_⟩)))))
      refine gZ (i:=18) (by kernel_rfl) rfl ?_;obtain ⟨K57,l4,l5,l6,l7⟩:=aG.lendSp g1 (zR _) .head
      obtain ⟨r62,l8,hm⟩:=aB hm
      refine eI (vs:=[cH J 0,zS c1 ([3]:List Int).length 1]) (caps:=[]) (us:=[cH J 0,zS c1 ([3]:List Int).length 1]) rfl call103 rfl rfl (bM k l8 l6 (b8.mono l4) l5) ?_
      rintro _ w64 ⟨rfl,l9⟩
      have c2:=l7 _ _ l9
      refine bY (aF ⟨fun _=>⟨_,c2⟩,?_⟩)
      obtain ⟨m0,m1,hm⟩:=aB hm
      exact eJ (i:=19) rfl (by kernel_rfl) ⟨_,c2⟩ (fun _ _=>eM rfl rfl m1) (eJ (i:=20) rfl (by kernel_rfl) ⟨_,c2⟩ (fun _ _=>eO (v:=str m0) rfl) (vH (by kernel_rfl) aE))
     ·refine dK (Kt:=K) (xs:=([3]:List Int)) (cs:=[i64 3]) (vs:=[(0,i64 3)]) fI aAa rfl rfl b9 rfl (by kernel_rfl) rfl rfl rfl ⟨rfl,trivial⟩ (fun c3 m2 (g2:aG G K (aT 2 K c3 1 ([3]:List Int)::aT 2 K y 2 ([2,3]:List Int)::box x 109 m::L) m2)=>(bY (aF ⟨fun _=>⟨_,g2⟩,?_⟩)))
      refine gZ (i:=8) (by kernel_rfl) rfl ?_;obtain ⟨K72,m3,m4,m5,m6⟩:=aG.lendSp g2 (zR _) zt1
      obtain ⟨r77,m7,hm⟩:=aB hm
      refine eI (vs:=[cH z 0,zS y ([2,3]:List Int).length 2]) (caps:=[]) (us:=[cH z 0,zS y ([2,3]:List Int).length 2]) rfl call103 rfl rfl (bM k m7 m5 (b6.mono m3) m4) ?_
      rintro _ w79 ⟨rfl,m8⟩
      have c5:=m6 _ _ m8
      refine bY (aF ⟨fun _=>⟨_,c5⟩,?_⟩)
      obtain ⟨s82,m9,hm⟩:=aB hm
      refine eJ (i:=9) rfl (by kernel_rfl) ⟨_,c5⟩ (fun _ _=>eM rfl rfl m9) (gZ (i:=18) (by kernel_rfl) rfl ?_);obtain ⟨K84,n0,n1,n2,n3⟩:=aG.lendSp c5 (zR _) zt1
      obtain ⟨r89,n4,hm⟩:=aB hm
      refine eI (vs:=[cH J 0,zS c3 ([3]:List Int).length 1]) (caps:=[]) (us:=[cH J 0,zS c3 ([3]:List Int).length 1]) rfl call103 rfl rfl (bM k n4 n2 (b8.mono n0) n1) ?_
      rintro _ w91 ⟨rfl,n5⟩
      have c6:=n3 _ _ n5
      refine bY (aF ⟨fun _=>⟨_,c6⟩,?_⟩)
      obtain ⟨n6,n7,hm⟩:=aB hm
      exact eJ (i:=19) rfl (by kernel_rfl) ⟨_,c6⟩ (fun _ _=>eM rfl rfl n7) (eJ (i:=20) rfl (by kernel_rfl) ⟨_,c6⟩ (fun _ _=>eO (v:=str n6) rfl) (vH (by kernel_rfl) aE))
    ·refine dK (Kt:=K) (xs:=([3]:List Int)) (cs:=[i64 3]) (vs:=[(0,i64 3)]) fI aAa rfl rfl c rfl (by kernel_rfl) rfl rfl rfl ⟨rfl,trivial⟩ (fun Z n8 (g3:aG G K (aT 2 K Z 1 ([3]:List Int)::box x 109 m::L) n8)=>(bY (aF ⟨fun _=>⟨_,g3⟩,?_⟩)))
     refine gZ (i:=7) (by kernel_rfl) rfl (dK (Kt:=K) (xs:=([2,3]:List Int)) (cs:=[i64 2,i64 3]) (vs:=[(0,i64 2),(1,i64 3)]) fI aAa rfl rfl g3 rfl (by kernel_rfl) rfl rfl rfl ⟨rfl,rfl,trivial⟩ (fun c7 n9 (g4:aG G K (aT 2 K c7 2 ([2,3]:List Int)::aT 2 K Z 1 ([3]:List Int)::box x 109 m::L) n9)=>(bY (aF ⟨fun _=>⟨_,g4⟩,?_⟩))))
     refine gZ (i:=8) (by kernel_rfl) rfl ?_;obtain ⟨a49,o0,o1,o2,o3⟩:=aG.lendSp g4 (zR _) .head
     obtain ⟨a50,o4,hm⟩:=aB hm
     refine eI (vs:=[cH z 0,zS c7 ([2,3]:List Int).length 2]) (caps:=[]) (us:=[cH z 0,zS c7 ([2,3]:List Int).length 2]) rfl call103 rfl rfl (bM k o4 o2 (b6.mono o0) o1) ?_
     rintro _ a51 ⟨rfl,o5⟩
     have c8:=o3 _ _ o5
     refine bY (aF ⟨fun _=>⟨_,c8⟩,?_⟩)
     obtain ⟨a52,o6,hm⟩:=aB hm
     refine eJ (i:=9) rfl (by kernel_rfl) ⟨_,c8⟩ (fun _ _=>eM rfl rfl o6) (gZ (i:=18) (by kernel_rfl) rfl ?_);obtain ⟨a53,o7,o8,o9,p0⟩:=aG.lendSp c8 (zR _) zt1
     obtain ⟨a55,p1,hm⟩:=aB hm
     refine eI (vs:=[cH J 0,zS Z ([3]:List Int).length 1]) (caps:=[]) (us:=[cH J 0,zS Z ([3]:List Int).length 1]) rfl call103 rfl rfl (bM k p1 o9 (b8.mono o7) o8) ?_
     rintro _ a56 ⟨rfl,p2⟩
     have c9:=p0 _ _ p2
     refine bY (aF ⟨fun _=>⟨_,c9⟩,?_⟩)
     obtain ⟨p3,p4,hm⟩:=aB hm
     exact eJ (i:=19) rfl (by kernel_rfl) ⟨_,c9⟩ (fun _ _=>eM rfl rfl p4) (eJ (i:=20) rfl (by kernel_rfl) ⟨_,c9⟩ (fun _ _=>eO (v:=str p3) rfl) (vH (by kernel_rfl) aE))
   ·refine aP b5 rfl (aK (aC (dS rfl rfl) (aH (v:=zB (b.val.Kind == 3)) (aL ?_))))
    rcases aJ hm with ⟨d0,hm⟩|⟨d0,hm⟩
    ·refine aS d0 rfl (aI (mJ (C:=fun w'=>∃ L',aG G K L' w') [(0,0),(1,0),(2,0),(3,0),(4,0),(5,0),(6,0),(10,0),(11,0),(12,0),(13,0),(14,0),(15,0),(16,0),(7,1),(8,1),(9,0),(17,1),(18,0),(19,0)] Tryz_mixed (by kernel_rfl) (fun _ hg=>⟨_,aG.mono u hg⟩) (fun a57 p5=>?_)))
     have n:=aG.mono u p5
     refine dI rfl (fun _ _=>bE (v:=Value.func (.func 103) #[] #[]) rfl) (dI rfl (fun _ _=>bE (v:=cH a1 0) rfl) (dI rfl (fun _ _=>eD rfl a) (dI rfl (fun _ _=>cQ (k':=0+4) qE rfl a rfl) (dI rfl (fun _ ⟨_,n⟩=>cC (t:=4) aDl n a rfl rfl) ?_))));obtain ⟨a58,g5,hm⟩:=aB hm
     refine dI rfl (fun _ _=>cL aBF rfl l rfl rfl rfl g5) ?_;obtain ⟨a59,p6,p7⟩:=aY.el (sz:=1) rfl l g5
     obtain ⟨g6,rfl,p8⟩:=p7
     refine dI rfl (fun _ ⟨_,n⟩=>cC (t:=0) aEu n p6 rfl rfl) (dI rfl (fun _ _=>bE (v:=Value.func (.func 103) #[] #[]) rfl) (dI rfl (fun _ _=>bE (v:=cH a1 0) rfl) (dI rfl (fun _ _=>eD rfl a) (dI rfl (fun _ _=>cQ (k':=0+4) qE rfl a rfl) (dI rfl (fun _ ⟨_,n⟩=>cC (t:=4) aDl n a rfl rfl) ?_)))));obtain ⟨a60,g7,hm⟩:=aB hm
     refine dI rfl (fun _ _=>cL aBF rfl l rfl rfl rfl g7) ?_;obtain ⟨a61,p9,q0⟩:=aY.el (sz:=1) rfl l g7
     obtain ⟨g8,rfl,q1⟩:=q0
     refine dI rfl (fun _ ⟨_,n⟩=>cC (t:=0) aEu n p9 rfl rfl) (vG rfl (dK (Kt:=K) (xs:=([3]:List Int)) (cs:=[i64 3]) (vs:=[(0,i64 3)]) fI aAa rfl rfl n rfl (by kernel_rfl) rfl rfl rfl ⟨rfl,trivial⟩ (fun d1 q2 (g9:aG G K (aT 2 K d1 1 ([3]:List Int)::box x 109 m::L) q2)=>(bY (aF ⟨⟨_,g9⟩,?_⟩)))))
     refine vG rfl ?_;obtain ⟨a62,q3,q4,q5,q6⟩:=aG.lendSp g9 (zR _) .head
     obtain ⟨a63,q7,hm⟩:=aB hm
     refine eI (vs:=[cH g6 0,zS d1 ([3]:List Int).length 1]) (caps:=[]) (us:=[cH g6 0,zS d1 ([3]:List Int).length 1]) rfl call103 rfl rfl (bM k q7 q5 (p8.mono q3) q4) ?_
     rintro _ a64 ⟨rfl,q8⟩
     have h0:=q6 _ _ q8
     refine bY (aF ⟨⟨_,h0⟩,?_⟩)
     obtain ⟨a65,q9,hm⟩:=aB hm
     refine dI rfl (fun _ _=>eM rfl rfl q9) (vG rfl ?_);obtain ⟨a66,r0,hm⟩:=aB hm
     have hcl:=bM k (kinds:=[]) r0 h0 q1 (kF (α:=Int) _)
     exact eI (vs:=[cH g8 0,zS none 0 0]) (caps:=[]) (us:=[cH g8 0,zS none 0 0]) rfl call103 rfl rfl hcl aE
    ·refine aP d0 rfl (aK (aC (dS rfl rfl) (aH (v:=zB (b.val.Kind == 4)) (aL ?_))))
     rcases aJ hm with ⟨d2,hm⟩|⟨d2,hm⟩
     ·refine aS d2 rfl (aI (aZ [] (fun f w=>∃ h1,aCT h1=some R/\f 2=str h1/\aG G K (L) w) aE ?_));obtain ⟨d3,o,h3,r1,a67⟩:=aG.lendBp u .head
      refine aDC (C:=fun w'=>∃ L',aG G d3 L' w') [] Tryz_mixed (by kernel_rfl) (fun a68 r2=>?_)
      have d:=aG.mono r1 r2
      refine eJ (i:=0) rfl (by kernel_rfl) ⟨_,d⟩ (fun _ _=>bI (t':=2) aFD rfl rfl) (eJ (i:=1) rfl (by kernel_rfl) ⟨_,d⟩ (fun _ ⟨_,d⟩=>cC (t:=2) nK d h3 rfl rfl) (eJ (i:=2) rfl (by kernel_rfl) ⟨_,d⟩ (fun _ _=>bI (t':=3) aIK rfl rfl) (eJ (i:=3) rfl (by kernel_rfl) ⟨_,d⟩ (fun _ ⟨_,d⟩=>cC (t:=3) sc_4 d h3 rfl rfl) (eJ (i:=7) rfl (by kernel_rfl) ⟨_,d⟩ (fun _ _=>bE (v:=Value.func (.func 103) #[] #[]) rfl) (eJ (i:=8) rfl (by kernel_rfl) ⟨_,d⟩ (fun _ _=>bE (v:=cH a1 0) rfl) (eJ (i:=9) rfl (by kernel_rfl) ⟨_,d⟩ (fun _ _=>eD rfl (a.mono o)) (eJ (i:=10) rfl (by kernel_rfl) ⟨_,d⟩ (fun _ _=>cQ (k':=0+4) qE rfl (a.mono o) rfl) (eJ (i:=11) rfl (by kernel_rfl) ⟨_,d⟩ (fun _ ⟨_,d⟩=>cC (t:=4) aDl d (a.mono o) rfl rfl) ?_))))))))
      obtain ⟨a70,h4,hm⟩:=aB hm
      refine eJ (i:=12) rfl (by kernel_rfl) ⟨_,d⟩ (fun _ _=>cL aBF rfl (l.mono o) rfl rfl rfl h4) ?_;obtain ⟨a71,r3,r4⟩:=aY.el (sz:=1) rfl l h4
      obtain ⟨a0,rfl,h5⟩:=r4
      refine eJ (i:=13) rfl (by kernel_rfl) ⟨_,d⟩ (fun _ ⟨_,d⟩=>cC (t:=0) aEu d (r3.mono o) rfl rfl) (aGr (i:=4) (j:=14) (by kernel_rfl) rfl rfl ?_ ?_)
      ·obtain ⟨a72,r5,hm⟩:=aB hm
       refine aW (vs:=V) call105 rfl (oP r5 d) ?_
       rintro _ a73 ⟨rfl,a2⟩
       refine bY (aF ⟨fun _=>⟨_,a2⟩,?_⟩)
       obtain ⟨a74,r6,hm⟩:=aB hm
       refine eJ (i:=5) rfl (by kernel_rfl) ⟨_,a2⟩ (fun _ _=>eM rfl rfl r6) ?_;obtain ⟨a75,r7,hm⟩:=aB hm
       refine eJ (i:=6) rfl (by kernel_rfl) ⟨_,a2⟩ (fun _ _=>eM rfl rfl r7) (gZ (i:=14) (by kernel_rfl) rfl (dK (Kt:=K) (xs:=([2,3]:List Int)) (cs:=[i64 2,i64 3]) (vs:=[(0,i64 2),(1,i64 3)]) fI aAa rfl rfl a2 rfl (by kernel_rfl) rfl rfl rfl ⟨rfl,rfl,trivial⟩ (fun d4 r8 (h7:aG G d3 (aT 2 K d4 2 ([2,3]:List Int)::L) r8)=>(bY (aF ⟨fun _=>⟨_,h7⟩,?_⟩)))))
       refine gZ (i:=15) (by kernel_rfl) rfl ?_;obtain ⟨a76,r9,s0,s1,s2⟩:=aG.lendSp h7 o .head
       obtain ⟨a77,s3,hm⟩:=aB hm
       refine eI (vs:=[cH a0 0,zS d4 ([2,3]:List Int).length 2]) (caps:=[]) (us:=[cH a0 0,zS d4 ([2,3]:List Int).length 2]) rfl call103 rfl rfl (bM k s3 s1 (h5.mono (zL o r9)) s0) ?_
       rintro _ a78 ⟨rfl,s4⟩
       have d5:=s2 _ _ s4
       refine bY (aF ⟨fun _=>⟨_,d5⟩,?_⟩)
       obtain ⟨s5,s6,hm⟩:=aB hm
       exact eJ (i:=16) rfl (by kernel_rfl) ⟨_,d5⟩ (fun _ _=>eM rfl rfl s6) (eJ (i:=17) rfl (by kernel_rfl) ⟨_,d5⟩ (fun _ _=>eO (v:=str s5) rfl) (vH (by kernel_rfl) aE))
      ·refine dK (Kt:=K) (xs:=([2,3]:List Int)) (cs:=[i64 2,i64 3]) (vs:=[(0,i64 2),(1,i64 3)]) fI aAa rfl rfl d rfl (by kernel_rfl) rfl rfl rfl ⟨rfl,rfl,trivial⟩ (fun d6 s7 (h8:aG G d3 (aT 2 K d6 2 ([2,3]:List Int)::L) s7)=>(bY (aF ⟨fun _=>⟨_,h8⟩,?_⟩)))
       refine gZ (i:=4) (by kernel_rfl) rfl ?_;obtain ⟨a79,s8,hm⟩:=aB hm
       refine aW (vs:=V) call105 rfl (oP s8 h8) ?_
       rintro _ a80 ⟨rfl,a4⟩
       refine bY (aF ⟨fun _=>⟨_,a4⟩,?_⟩)
       obtain ⟨a81,s9,hm⟩:=aB hm
       refine eJ (i:=5) rfl (by kernel_rfl) ⟨_,a4⟩ (fun _ _=>eM rfl rfl s9) ?_;obtain ⟨a82,t0,hm⟩:=aB hm
       refine eJ (i:=6) rfl (by kernel_rfl) ⟨_,a4⟩ (fun _ _=>eM rfl rfl t0) (gZ (i:=15) (by kernel_rfl) rfl ?_);obtain ⟨a83,t1,t2,t3,t4⟩:=aG.lendSp a4 o .head
       obtain ⟨a84,t5,hm⟩:=aB hm
       refine eI (vs:=[cH a0 0,zS d6 ([2,3]:List Int).length 2]) (caps:=[]) (us:=[cH a0 0,zS d6 ([2,3]:List Int).length 2]) rfl call103 rfl rfl (bM k t5 t3 (h5.mono (zL o t1)) t2) ?_
       rintro _ a85 ⟨rfl,t6⟩
       have d7:=t4 _ _ t6
       refine bY (aF ⟨fun _=>⟨_,d7⟩,?_⟩)
       obtain ⟨t7,t8,hm⟩:=aB hm
       exact eJ (i:=16) rfl (by kernel_rfl) ⟨_,d7⟩ (fun _ _=>eM rfl rfl t8) (eJ (i:=17) rfl (by kernel_rfl) ⟨_,d7⟩ (fun _ _=>eO (v:=str t7) rfl) (vH (by kernel_rfl) aE))
     ·refine aP d2 rfl (aK (aC (dS rfl rfl) (aH (v:=zB (b.val.Kind == 5)) (aL ?_))))
      rcases aJ hm with ⟨d8,hm⟩|⟨d8,hm⟩
      ·refine aS d8 rfl (aI (aZ [] (fun f w=>∃ h9,aCU h9=some R/\f 2=str h9/\aG G K (L) w) aE ?_));obtain ⟨d9,p,i0,t9,a86⟩:=aG.lendBp u .head
       refine aDC (C:=fun w'=>∃ L',aG G d9 L' w') [] Tryz_mixed (by kernel_rfl) (fun a87 u0=>?_)
       have e:=aG.mono t9 u0
       refine eJ (i:=0) rfl (by kernel_rfl) ⟨_,e⟩ (fun _ _=>bI (t':=2) aFD rfl rfl) (eJ (i:=1) rfl (by kernel_rfl) ⟨_,e⟩ (fun _ ⟨_,e⟩=>cC (t:=2) nK e i0 rfl rfl) (eJ (i:=2) rfl (by kernel_rfl) ⟨_,e⟩ (fun _ _=>bI (t':=3) aIK rfl rfl) (eJ (i:=3) rfl (by kernel_rfl) ⟨_,e⟩ (fun _ ⟨_,e⟩=>cC (t:=3) sc_4 e i0 rfl rfl) (eJ (i:=7) rfl (by kernel_rfl) ⟨_,e⟩ (fun _ _=>bE (v:=Value.func (.func 103) #[] #[]) rfl) (eJ (i:=8) rfl (by kernel_rfl) ⟨_,e⟩ (fun _ _=>bE (v:=cH a1 0) rfl) (eJ (i:=9) rfl (by kernel_rfl) ⟨_,e⟩ (fun _ _=>eD rfl (a.mono p)) (eJ (i:=10) rfl (by kernel_rfl) ⟨_,e⟩ (fun _ _=>cQ (k':=0+4) qE rfl (a.mono p) rfl) (eJ (i:=11) rfl (by kernel_rfl) ⟨_,e⟩ (fun _ ⟨_,e⟩=>cC (t:=4) aDl e (a.mono p) rfl rfl) ?_))))))))
       obtain ⟨a88,i1,hm⟩:=aB hm
       refine eJ (i:=12) rfl (by kernel_rfl) ⟨_,e⟩ (fun _ _=>cL aBF rfl (l.mono p) rfl rfl rfl i1) ?_;obtain ⟨a89,u1,u2⟩:=aY.el (sz:=1) rfl l i1
       obtain ⟨a5,rfl,i2⟩:=u2
       refine eJ (i:=13) rfl (by kernel_rfl) ⟨_,e⟩ (fun _ ⟨_,e⟩=>cC (t:=0) aEu e (u1.mono p) rfl rfl) (aGr (i:=4) (j:=14) (by kernel_rfl) rfl rfl ?_ ?_)
       ·obtain ⟨a90,u3,hm⟩:=aB hm
        refine aW (vs:=V) call105 rfl (oP u3 e) ?_
        rintro _ a91 ⟨rfl,a6⟩
        refine bY (aF ⟨fun _=>⟨_,a6⟩,?_⟩)
        obtain ⟨a92,u4,hm⟩:=aB hm
        refine eJ (i:=5) rfl (by kernel_rfl) ⟨_,a6⟩ (fun _ _=>eM rfl rfl u4) ?_;obtain ⟨a93,u5,hm⟩:=aB hm
        refine eJ (i:=6) rfl (by kernel_rfl) ⟨_,a6⟩ (fun _ _=>eM rfl rfl u5) (gZ (i:=14) (by kernel_rfl) rfl (dK (Kt:=K) (xs:=([2,3]:List Int)) (cs:=[i64 2,i64 3]) (vs:=[(0,i64 2),(1,i64 3)]) fI aAa rfl rfl a6 rfl (by kernel_rfl) rfl rfl rfl ⟨rfl,rfl,trivial⟩ (fun e0 u6 (i3:aG G d9 (aT 2 K e0 2 ([2,3]:List Int)::L) u6)=>(bY (aF ⟨fun _=>⟨_,i3⟩,?_⟩)))))
        refine gZ (i:=15) (by kernel_rfl) rfl ?_;obtain ⟨a94,u7,u8,u9,v0⟩:=aG.lendSp i3 p .head
        obtain ⟨a95,v1,hm⟩:=aB hm
        refine eI (vs:=[cH a5 0,zS e0 ([2,3]:List Int).length 2]) (caps:=[]) (us:=[cH a5 0,zS e0 ([2,3]:List Int).length 2]) rfl call103 rfl rfl (bM k v1 u9 (i2.mono (zL p u7)) u8) ?_
        rintro _ a97 ⟨rfl,v2⟩
        have e1:=v0 _ _ v2
        refine bY (aF ⟨fun _=>⟨_,e1⟩,?_⟩)
        obtain ⟨v3,v4,hm⟩:=aB hm
        exact eJ (i:=16) rfl (by kernel_rfl) ⟨_,e1⟩ (fun _ _=>eM rfl rfl v4) (eJ (i:=17) rfl (by kernel_rfl) ⟨_,e1⟩ (fun _ _=>eO (v:=str v3) rfl) (vH (by kernel_rfl) aE))
       ·refine dK (Kt:=K) (xs:=([2,3]:List Int)) (cs:=[i64 2,i64 3]) (vs:=[(0,i64 2),(1,i64 3)]) fI aAa rfl rfl e rfl (by kernel_rfl) rfl rfl rfl ⟨rfl,rfl,trivial⟩ (fun e2 v5 (i4:aG G d9 (aT 2 K e2 2 ([2,3]:List Int)::L) v5)=>(bY (aF ⟨fun _=>⟨_,i4⟩,?_⟩)))
        refine gZ (i:=4) (by kernel_rfl) rfl ?_;obtain ⟨a98,v6,hm⟩:=aB hm
        refine aW (vs:=V) call105 rfl (oP v6 i4) ?_
        rintro _ b00 ⟨rfl,a7⟩
        refine bY (aF ⟨fun _=>⟨_,a7⟩,?_⟩)
        obtain ⟨b01,v7,hm⟩:=aB hm
        refine eJ (i:=5) rfl (by kernel_rfl) ⟨_,a7⟩ (fun _ _=>eM rfl rfl v7) ?_;obtain ⟨b02,v8,hm⟩:=aB hm
        refine eJ (i:=6) rfl (by kernel_rfl) ⟨_,a7⟩ (fun _ _=>eM rfl rfl v8) (gZ (i:=15) (by kernel_rfl) rfl ?_);obtain ⟨b03,v9,w0,w1,w2⟩:=aG.lendSp a7 p .head
        obtain ⟨b04,w3,hm⟩:=aB hm
        refine eI (vs:=[cH a5 0,zS e2 ([2,3]:List Int).length 2]) (caps:=[]) (us:=[cH a5 0,zS e2 ([2,3]:List Int).length 2]) rfl call103 rfl rfl (bM k w3 w1 (i2.mono (zL p v9)) w0) ?_
        rintro _ b05 ⟨rfl,w4⟩
        have e3:=w2 _ _ w4
        refine bY (aF ⟨fun _=>⟨_,e3⟩,?_⟩)
        obtain ⟨w5,w6,hm⟩:=aB hm
        exact eJ (i:=16) rfl (by kernel_rfl) ⟨_,e3⟩ (fun _ _=>eM rfl rfl w6) (eJ (i:=17) rfl (by kernel_rfl) ⟨_,e3⟩ (fun _ _=>eO (v:=str w5) rfl) (vH (by kernel_rfl) aE))
      ·refine aP d8 rfl (aK (aC (dS rfl rfl) (aH (v:=zB (b.val.Kind == 7)) (aL ?_))))
       rcases aJ hm with ⟨e4,hm⟩|⟨e4,hm⟩
       ·refine aS e4 rfl (aI (aZ [] (fun f w=>∃ i5,aCV i5=some R/\f 2=str i5/\aG G K (L) w) aE ?_));obtain ⟨e5,q,w7,w9,b06⟩:=aG.lendBp u .head
        refine aDC (C:=fun w'=>∃ L',aG G e5 L' w') [] Tryz_mixed (by kernel_rfl) (fun b07 x0=>?_)
        have g:=aG.mono w9 x0
        refine eJ (i:=0) rfl (by kernel_rfl) ⟨_,g⟩ (fun _ _=>bI (t':=1) aMa rfl rfl) (eJ (i:=1) rfl (by kernel_rfl) ⟨_,g⟩ (fun _ ⟨_,g⟩=>cC (t:=1) iK g w7 rfl rfl) (eJ (i:=5) rfl (by kernel_rfl) ⟨_,g⟩ (fun _ _=>bE (v:=Value.func (.func 103) #[] #[]) rfl) (eJ (i:=6) rfl (by kernel_rfl) ⟨_,g⟩ (fun _ _=>bE (v:=cH a1 0) rfl) (eJ (i:=7) rfl (by kernel_rfl) ⟨_,g⟩ (fun _ _=>eD rfl (a.mono q)) (eJ (i:=8) rfl (by kernel_rfl) ⟨_,g⟩ (fun _ _=>cQ (k':=0+4) qE rfl (a.mono q) rfl) (eJ (i:=9) rfl (by kernel_rfl) ⟨_,g⟩ (fun _ ⟨_,g⟩=>cC (t:=4) aDl g (a.mono q) rfl rfl) ?_))))))
        obtain ⟨b08,i6,hm⟩:=aB hm
        refine eJ (i:=10) rfl (by kernel_rfl) ⟨_,g⟩ (fun _ _=>cL aBF rfl (l.mono q) rfl rfl rfl i6) ?_;obtain ⟨b09,x1,x2⟩:=aY.el (sz:=1) rfl l i6
        obtain ⟨a8,rfl,i7⟩:=x2
        refine eJ (i:=11) rfl (by kernel_rfl) ⟨_,g⟩ (fun _ ⟨_,g⟩=>cC (t:=0) aEu g (x1.mono q) rfl rfl) (aGr (i:=2) (j:=12) (by kernel_rfl) rfl rfl ?_ ?_)
        ·obtain ⟨b10,x3,hm⟩:=aB hm
         refine aW (vs:=[i64 b.val.Variable]) call106 rfl (uV g x3) ?_
         rintro _ b11 ⟨rfl,a9⟩
         refine bY (aF ⟨fun _=>⟨_,a9⟩,?_⟩)
         obtain ⟨b12,x4,hm⟩:=aB hm
         refine eJ (i:=3) rfl (by kernel_rfl) ⟨_,a9⟩ (fun _ _=>eM rfl rfl x4) ?_;obtain ⟨b13,x5,hm⟩:=aB hm
         refine eJ (i:=4) rfl (by kernel_rfl) ⟨_,a9⟩ (fun _ _=>eM rfl rfl x5) (gZ (i:=12) (by kernel_rfl) rfl (dK (Kt:=K) (xs:=([2,3]:List Int)) (cs:=[i64 2,i64 3]) (vs:=[(0,i64 2),(1,i64 3)]) fI aAa rfl rfl a9 rfl (by kernel_rfl) rfl rfl rfl ⟨rfl,rfl,trivial⟩ (fun e6 x6 (i8:aG G e5 (aT 2 K e6 2 ([2,3]:List Int)::L) x6)=>(bY (aF ⟨fun _=>⟨_,i8⟩,?_⟩)))))
         refine gZ (i:=13) (by kernel_rfl) rfl ?_;obtain ⟨b14,x7,x8,x9,y0⟩:=aG.lendSp i8 q .head
         obtain ⟨b15,y1,hm⟩:=aB hm
         refine eI (vs:=[cH a8 0,zS e6 ([2,3]:List Int).length 2]) (caps:=[]) (us:=[cH a8 0,zS e6 ([2,3]:List Int).length 2]) rfl call103 rfl rfl (bM k y1 x9 (i7.mono (zL q x7)) x8) ?_
         rintro _ b16 ⟨rfl,y2⟩
         have e7:=y0 _ _ y2
         refine bY (aF ⟨fun _=>⟨_,e7⟩,?_⟩)
         obtain ⟨y3,y4,hm⟩:=aB hm
         exact eJ (i:=14) rfl (by kernel_rfl) ⟨_,e7⟩ (fun _ _=>eM rfl rfl y4) (eJ (i:=15) rfl (by kernel_rfl) ⟨_,e7⟩ (fun _ _=>eO (v:=str y3) rfl) (vH (by kernel_rfl) aE))
        ·refine dK (Kt:=K) (xs:=([2,3]:List Int)) (cs:=[i64 2,i64 3]) (vs:=[(0,i64 2),(1,i64 3)]) fI aAa rfl rfl g rfl (by kernel_rfl) rfl rfl rfl ⟨rfl,rfl,trivial⟩ (fun e8 y5 (i9:aG G e5 (aT 2 K e8 2 ([2,3]:List Int)::L) y5)=>(bY (aF ⟨fun _=>⟨_,i9⟩,?_⟩)))
         refine gZ (i:=2) (by kernel_rfl) rfl ?_;obtain ⟨b17,y6,hm⟩:=aB hm
         refine aW (vs:=[i64 b.val.Variable]) call106 rfl (uV i9 y6) ?_
         rintro _ b18 ⟨rfl,b0⟩
         refine bY (aF ⟨fun _=>⟨_,b0⟩,?_⟩)
         obtain ⟨b19,y7,hm⟩:=aB hm
         refine eJ (i:=3) rfl (by kernel_rfl) ⟨_,b0⟩ (fun _ _=>eM rfl rfl y7) ?_;obtain ⟨b20,y8,hm⟩:=aB hm
         refine eJ (i:=4) rfl (by kernel_rfl) ⟨_,b0⟩ (fun _ _=>eM rfl rfl y8) (gZ (i:=13) (by kernel_rfl) rfl ?_);obtain ⟨b21,y9,z0,z1,z2⟩:=aG.lendSp b0 q .head
         obtain ⟨b22,z3,hm⟩:=aB hm
         refine eI (vs:=[cH a8 0,zS e8 ([2,3]:List Int).length 2]) (caps:=[]) (us:=[cH a8 0,zS e8 ([2,3]:List Int).length 2]) rfl call103 rfl rfl (bM k z3 z1 (i7.mono (zL q y9)) z0) ?_
         rintro _ b23 ⟨rfl,z4⟩
         have e9:=z2 _ _ z4
         refine bY (aF ⟨fun _=>⟨_,e9⟩,?_⟩)
         obtain ⟨z5,z6,hm⟩:=aB hm
         exact eJ (i:=14) rfl (by kernel_rfl) ⟨_,e9⟩ (fun _ _=>eM rfl rfl z6) (eJ (i:=15) rfl (by kernel_rfl) ⟨_,e9⟩ (fun _ _=>eO (v:=str z5) rfl) (vH (by kernel_rfl) aE))
       ·refine aP e4 rfl (aK (aC (dS rfl rfl) (aH (v:=zB (b.val.Kind == 8)) (aL ?_))))
        rcases aJ hm with ⟨j0,hm⟩|⟨j0,hm⟩
        ·refine aS j0 rfl (aI (aZ [] (fun f w=>∃ j1,aCW j1=some R/\f 2=str j1/\aG G K (L) w) aE ?_));obtain ⟨f0,r,z7,z8,b24⟩:=aG.lendBp u .head
         refine aDC (C:=fun w'=>∃ L',aG G f0 L' w') [] Tryz_mixed (by kernel_rfl) (fun b25 z9=>?_)
         have h:=aG.mono z8 z9
         refine eJ (i:=0) rfl (by kernel_rfl) ⟨_,h⟩ (fun _ _=>bI (t':=1) aMa rfl rfl) (eJ (i:=1) rfl (by kernel_rfl) ⟨_,h⟩ (fun _ ⟨_,h⟩=>cC (t:=1) iK h z7 rfl rfl) (eJ (i:=5) rfl (by kernel_rfl) ⟨_,h⟩ (fun _ _=>bE (v:=Value.func (.func 103) #[] #[]) rfl) (eJ (i:=6) rfl (by kernel_rfl) ⟨_,h⟩ (fun _ _=>bE (v:=cH a1 0) rfl) (eJ (i:=7) rfl (by kernel_rfl) ⟨_,h⟩ (fun _ _=>eD rfl (a.mono r)) (eJ (i:=8) rfl (by kernel_rfl) ⟨_,h⟩ (fun _ _=>cQ (k':=0+4) qE rfl (a.mono r) rfl) (eJ (i:=9) rfl (by kernel_rfl) ⟨_,h⟩ (fun _ ⟨_,h⟩=>cC (t:=4) aDl h (a.mono r) rfl rfl) ?_))))))
         obtain ⟨b26,j2,hm⟩:=aB hm
         refine eJ (i:=10) rfl (by kernel_rfl) ⟨_,h⟩ (fun _ _=>cL aBF rfl (l.mono r) rfl rfl rfl j2) ?_;obtain ⟨b27,a00,a01⟩:=aY.el (sz:=1) rfl l j2
         obtain ⟨b1,rfl,j3⟩:=a01
         refine eJ (i:=11) rfl (by kernel_rfl) ⟨_,h⟩ (fun _ ⟨_,h⟩=>cC (t:=0) aEu h (a00.mono r) rfl rfl) (aGr (i:=2) (j:=12) (by kernel_rfl) rfl rfl ?_ ?_)
         ·obtain ⟨b28,a02,hm⟩:=aB hm
          refine aW (vs:=[i64 b.val.Variable]) call106 rfl (uV h a02) ?_
          rintro _ b29 ⟨rfl,b2⟩
          refine bY (aF ⟨fun _=>⟨_,b2⟩,?_⟩)
          obtain ⟨b30,a03,hm⟩:=aB hm
          refine eJ (i:=3) rfl (by kernel_rfl) ⟨_,b2⟩ (fun _ _=>eM rfl rfl a03) ?_;obtain ⟨b31,a04,hm⟩:=aB hm
          refine eJ (i:=4) rfl (by kernel_rfl) ⟨_,b2⟩ (fun _ _=>eM rfl rfl a04) (gZ (i:=12) (by kernel_rfl) rfl (dK (Kt:=K) (xs:=([2,3]:List Int)) (cs:=[i64 2,i64 3]) (vs:=[(0,i64 2),(1,i64 3)]) fI aAa rfl rfl b2 rfl (by kernel_rfl) rfl rfl rfl ⟨rfl,rfl,trivial⟩ (fun f1 a05 (j4:aG G f0 (aT 2 K f1 2 ([2,3]:List Int)::L) a05)=>(bY (aF ⟨fun _=>⟨_,j4⟩,?_⟩)))))
          refine gZ (i:=13) (by kernel_rfl) rfl ?_;obtain ⟨b32,a06,a07,a08,a09⟩:=aG.lendSp j4 r .head
          obtain ⟨b33,a10,hm⟩:=aB hm
          refine eI (vs:=[cH b1 0,zS f1 ([2,3]:List Int).length 2]) (caps:=[]) (us:=[cH b1 0,zS f1 ([2,3]:List Int).length 2]) rfl call103 rfl rfl (bM k a10 a08 (j3.mono (zL r a06)) a07) ?_
          rintro _ b34 ⟨rfl,a11⟩
          have f2:=a09 _ _ a11
          refine bY (aF ⟨fun _=>⟨_,f2⟩,?_⟩)
          obtain ⟨a12,a13,hm⟩:=aB hm
          exact eJ (i:=14) rfl (by kernel_rfl) ⟨_,f2⟩ (fun _ _=>eM rfl rfl a13) (eJ (i:=15) rfl (by kernel_rfl) ⟨_,f2⟩ (fun _ _=>eO (v:=str a12) rfl) (vH (by kernel_rfl) aE))
         ·refine dK (Kt:=K) (xs:=([2,3]:List Int)) (cs:=[i64 2,i64 3]) (vs:=[(0,i64 2),(1,i64 3)]) fI aAa rfl rfl h rfl (by kernel_rfl) rfl rfl rfl ⟨rfl,rfl,trivial⟩ (fun f3 a14 (j5:aG G f0 (aT 2 K f3 2 ([2,3]:List Int)::L) a14)=>(bY (aF ⟨fun _=>⟨_,j5⟩,?_⟩)))
          refine gZ (i:=2) (by kernel_rfl) rfl ?_;obtain ⟨b35,a15,hm⟩:=aB hm
          refine aW (vs:=[i64 b.val.Variable]) call106 rfl (uV j5 a15) ?_
          rintro _ b36 ⟨rfl,b3⟩
          refine bY (aF ⟨fun _=>⟨_,b3⟩,?_⟩)
          obtain ⟨b37,a16,hm⟩:=aB hm
          refine eJ (i:=3) rfl (by kernel_rfl) ⟨_,b3⟩ (fun _ _=>eM rfl rfl a16) ?_;obtain ⟨b38,a17,hm⟩:=aB hm
          refine eJ (i:=4) rfl (by kernel_rfl) ⟨_,b3⟩ (fun _ _=>eM rfl rfl a17) (gZ (i:=13) (by kernel_rfl) rfl ?_);obtain ⟨b39,a18,a19,a20,a21⟩:=aG.lendSp b3 r .head
          obtain ⟨b40,a22,hm⟩:=aB hm
          refine eI (vs:=[cH b1 0,zS f3 ([2,3]:List Int).length 2]) (caps:=[]) (us:=[cH b1 0,zS f3 ([2,3]:List Int).length 2]) rfl call103 rfl rfl (bM k a22 a20 (j3.mono (zL r a18)) a19) ?_
          rintro _ b41 ⟨rfl,a23⟩
          have f4:=a21 _ _ a23
          refine bY (aF ⟨fun _=>⟨_,f4⟩,?_⟩)
          obtain ⟨a24,a25,hm⟩:=aB hm
          exact eJ (i:=14) rfl (by kernel_rfl) ⟨_,f4⟩ (fun _ _=>eM rfl rfl a25) (eJ (i:=15) rfl (by kernel_rfl) ⟨_,f4⟩ (fun _ _=>eO (v:=str a24) rfl) (vH (by kernel_rfl) aE))
        ·exact aE
theorem xL (n:Nat):∀ {G:kE} {K:Hp} {L:List eT} {w:World} {c:(Tr bH)} {a1:Option Addr} {R:aN} (hm:dX n c=some R) (a:aG G K (L) w) (b:trd K c a1),
  Calls prog 58 ([cH a1 0]:List Value).toArray w (cK fun v w'=>v=str R/\aG G K (L) w'):=by
 induction n with
 |zero=>
  intro G K L w c a1 R hm a b
  unfold dX at hm
  cases hm
 |succ n ih=>
  intro G K L w c a1 R hm a b
  exact xK (rec_:=dX n) (fun hm a b=>ih hm a b) hm a b
theorem aHd {x_:(Tr bH)} {R:aN} (hm:aCj x_=some R) (hs:aG G K (L) w) (h2:trd K x_ a1):
  Calls prog 58 ([cH a1 0]:List Value).toArray w (cK fun v w'=>v=str R/\aG G K (L) w'):=xL 100000 hm hs h2
theorem aIi {a:(List bH)} {R:aN} (hm:zH a=some R) (b:aG G K (L) w) (c:G.lo=0) (d:aY K a1 c2 a):
  Calls prog 22 ([zS a1 a.length c2]:List Value).toArray w (cK fun v w'=>v=str R/\aG G K (L) w'):=by
 exact aE
theorem xA {d:Definition} {R:Bool} (hm:wP d=some R) (a:aG G K (L) w) (b:aY K a1 c2 d.Body):
  Calls prog 185 ([zA #[str d.Name,i64 d.Parameters,zS a1 d.Body.length c2]]:List Value).toArray w (cK fun v w'=>v=zB R/\aG G K (L) w'):=by
 exact aE
theorem jA {b:(List Definition)} {R:Int} (hm:cT b=some R) (q:aG G K (L) w) (g:aY K a1 c2 b):
  Calls prog 186 ([zS a1 b.length c2,Value.func (.func 185) #[] #[]]:List Value).toArray w (cK fun v w'=>v=i64 R/\aG G K (L) w'):=by
 refine aM func186 rfl (by kernel_rfl) (by show (2:Nat)<=19;decide) ?_;unfold cT at hm
 refine aK (aH (v:=i64 0) (aL (aI (aK (aO (v:=zS a1 b.length c2) (aC (aV (len:=b.length) qD rfl) (aO (v:=i64 0) (aL (aQ [] (fun f w=>fG=some R/\aG G K (L) w) aE ?_)))))))));obtain ⟨r,l,ho⟩:=aB hm
 refine bP [0,1,7] l (fun c f w=>f 8=i64 c/\aG G K (L) w) aE ?_
 ·rintro c u f x hm hr ⟨h,i⟩
  unfold bW at hm
  refine aK (aC (dR h rfl) (aL (aI ?_)))
  rcases aJ hm with ⟨j,hm⟩|⟨j,hm⟩
  ·refine aS j rfl (aU (aF (aI (bK (aK (bO h (aH (v:=i64 c) (aL (aK (aO (v:=Value.func (.func 185) #[] #[]) (aO (v:=zS a1 b.length c2) (aO (v:=i64 c) ?_))))))))))));obtain ⟨a,k,hm⟩:=aB hm
   refine aC (cL qD rfl g rfl rfl rfl k) ?_;obtain ⟨y,m,n⟩:=aY.el (sz:=3) rfl g k
   obtain ⟨d,e,rfl,o⟩:=n
   refine aC (dU (t:=0) (vs:=[str a.Name,i64 a.Parameters,zS d a.Body.length e]) aIO i m rfl rfl rfl) ?_;obtain ⟨z,p,hm⟩:=aB hm
   exact eI (vs:=[zA #[str a.Name,i64 a.Parameters,zS d a.Body.length e]]) (caps:=[]) (us:=[zA #[str a.Name,i64 a.Parameters,zS d a.Body.length e]]) rfl call185 rfl rfl (xA p i o) aE
  ·exact aE
theorem iH {a:(List Definition)} {R:Bool} (hm:cM a=some R) (b:aG G K (L) w) (c:aY K a1 c2 a):
  Calls prog 184 ([zS a1 a.length c2,Value.func (.func 185) #[] #[]]:List Value).toArray w (cK fun v w'=>v=zB R/\aG G K (L) w'):=by
 exact aE
theorem aHe {a:(List Definition)} {R:Bool} (hm:wQ a=some R) (b:aG G K (L) w) (c:aY K a1 c2 a):
  Calls prog 153 ([zS a1 a.length c2]:List Value).toArray w (cK fun v w'=>v=zB R/\aG G K (L) w'):=by
 exact aE
theorem rZ {d:Definition} {p:aN} {a:Nat} {R:Bool} (hm:qR d p=some R) (b:aG G K (L) w) (c:aY K a1 c2 d.Body) (e:eQ K a4 a [str p]):
  Calls prog 187 ([zA #[str d.Name,i64 d.Parameters,zS a1 d.Body.length c2],cH a4 a]:List Value).toArray w (cK fun v w'=>v=zB R/\aG G K (L) w'):=by
 exact aE
theorem eX {b:(List Definition)} {h:aN} {c:Nat} {R:Int} (hm:cN b h=some R) (x:aG G K (L) w) (i:aY K a1 c2 b) (n:eQ K a4 c [str h]):
  Calls prog 186 ([zS a1 b.length c2,Value.func (.func 187) #[] #[cH a4 c]]:List Value).toArray w (cK fun v w'=>v=i64 R/\aG G K (L) w'):=by
 refine aM func186 rfl (by kernel_rfl) (by show (2:Nat)<=19;decide) ?_;unfold cN at hm
 refine aK (aH (v:=i64 0) (aL (aI (aK (aO (v:=zS a1 b.length c2) (aC (aV (len:=b.length) qD rfl) (aO (v:=i64 0) (aL (aQ [] (fun f w=>fD=some R/\aG G K (L) w) aE ?_)))))))));obtain ⟨y,o,ho⟩:=aB hm
 refine bP [0,1,7] o (fun d f w=>f 8=i64 d/\aG G K (L) w) aE ?_
 ·rintro d z f J hm hr ⟨j,k⟩
  unfold bR at hm
  refine aK (aC (dR j rfl) (aL (aI ?_)))
  rcases aJ hm with ⟨l,hm⟩|⟨l,hm⟩
  ·refine aS l rfl (aU (aF (aI (bK (aK (bO j (aH (v:=i64 d) (aL (aK (aO (v:=Value.func (.func 187) #[] #[cH a4 c]) (aO (v:=zS a1 b.length c2) (aO (v:=i64 d) ?_))))))))))));obtain ⟨a,m,hm⟩:=aB hm
   refine aC (cL qD rfl i rfl rfl rfl m) ?_;obtain ⟨V,p,q⟩:=aY.el (sz:=3) rfl i m
   obtain ⟨e,g,rfl,r⟩:=q
   refine aC (dU (t:=0) (vs:=[str a.Name,i64 a.Parameters,zS e a.Body.length g]) aIO k p rfl rfl rfl) ?_;obtain ⟨Z,u,hm⟩:=aB hm
   exact eI (vs:=[zA #[str a.Name,i64 a.Parameters,zS e a.Body.length g]]) (caps:=[cH a4 c]) (us:=[zA #[str a.Name,i64 a.Parameters,zS e a.Body.length g],cH a4 c]) rfl call187 rfl rfl (rZ u k r n) aE
  ·exact aE
theorem xB {a:(List Definition)} {b:aN} {R:Int} (hm:lV a b=some R) (d:aG G K (L) w) (e:aY K a1 c2 a):
  Calls prog 154 ([zS a1 a.length c2,str b]:List Value).toArray w (cK fun v w'=>v=i64 R/\aG G K (L) w'):=by
 refine aM func154 rfl (by kernel_rfl) (by show (2:Nat)<=8;decide) ?_;unfold lV at hm
 refine aK (eR (v:=str b) (vs:=[str b]) d rfl rfl (fun c l g=>(aH (v:=i64 0) (aL (aK (aO (v:=zS a1 a.length c2) (aC (xO (vs:=[zP (some ⟨c,0,none⟩)]) rfl) ?_)))))));obtain ⟨m,h,i,j,n⟩:=aG.lendBp g .head
 obtain ⟨o,k,hm⟩:=aB hm
 exact aW (vs:=[zS a1 a.length c2,Value.func (.func 187) #[] #[cH (some ⟨c,0,none⟩) 0]]) call186 rfl (eX k j (e.mono h) i) aE
theorem aCr {p:bG} {R:Int} (hm:tE p=some R) (b:aG G K (L) w) (d:aY K a1 c2 p.Arguments):
  Calls prog 224 ([zA #[i64 p.Kind,i64 p.Number,str p.Name,zS a1 p.Arguments.length c2]]:List Value).toArray w (cK fun v w'=>v=i64 R/\aG G K (L) w'):=by
 refine aM func224 rfl (by kernel_rfl) (by show (1:Nat)<=11;decide) ?_;unfold tE at hm
 exact aK (eR (v:=zA #[i64 p.Kind,i64 p.Number,str p.Name,zS a1 p.Arguments.length c2]) (vs:=[i64 p.Kind,i64 p.Number,str p.Name,zS a1 p.Arguments.length c2]) b rfl rfl (fun e g c=>(aH (v:=i64 0) (aL (aI (aK (aC (bI (t':=0) oH rfl rfl) (aC (dH iK c (i:=0) rfl rfl rfl) (aL (bK (gY [4] (fun f w=>∃ a,rP p a=some R/\f 5=zB a/\aG G K (L) w) aE aE)))))))))))
theorem aFu {d:Definition} {part R:Int} (hm:kQ d part=some R) (c:aG G K (L) w) (j:aY K a1 c2 d.Body):
  Calls prog 188 ([zA #[str d.Name,i64 d.Parameters,zS a1 d.Body.length c2],i64 part]:List Value).toArray w (cK fun v w'=>v=i64 R/\aG G K (L) w'):=by
 let a:=[str d.Name,i64 d.Parameters,zS a1 d.Body.length c2]
 refine aM func188 rfl (by kernel_rfl) (by show (2:Nat)<=25;decide) ?_;unfold kQ at hm
 refine aK (eR (v:=zA #[str d.Name,i64 d.Parameters,zS a1 d.Body.length c2]) (vs:=a) c rfl rfl (fun e k l=>(aH (v:=i64 0) (aL (aI (aK (aH (v:=i64 1) (aL (aQ [] (fun f w=>∃ b,mF b=some R/\f 1=i64 b/\aG G K (L) w) aE ?_)))))))));obtain ⟨m,g,ho⟩:=aB hm
 exact cG [2] g (fun h i f w=>f 1=i64 h/\f 5=i64 i/\aG G K (box e 94 a::L) w) aE aE
theorem nG {rec_:Int->dF->(List dF)->Definition->Definition->Option (Int × (List dF))} (ih:∀ {G:kE} {K:Hp} {L:List eT} {w:World} {d:Int} {p:dF} {b1:Nat} {k:(List dF)} {a2:Option Addr} {c3:Nat} {c:Definition} {a4:Option Addr} {q:Nat} {a7:Option Addr} {c8:Nat} {a10:Option Addr} {g:Nat} {b:Definition} {a13:Option Addr} {n:Nat} {a16:Option Addr} {c17:Nat} {R:(Int × (List dF))} (hm:rec_ d p k c b=some R) (hs:aG G K (aT 248 K a2 c3 k::box b1 244 [zS a2 k.length c3]::L) w) (h6:eQ K a4 q [str c.Name,i64 c.Parameters,zS a7 c.Body.length c8]) (h9:aY K a7 c8 c.Body) (a5:eQ K a10 g [Value.func (.func 225) #[] #[zP (some ⟨b1,0,none⟩),cH a13 n,cH a10 g]]) (a6:eQ K a13 n [str b.Name,i64 b.Parameters,zS a16 b.Body.length c17]) (a8:aY K a16 c17 b.Body),
  Calls prog 225 ([i64 d,zA #[i64 p.scope,zB p.behind],zP (some ⟨b1,0,none⟩),cH a4 q,cH a10 g]:List Value).toArray w (cK fun v w'=>∃ r u,v=i64 R.1/\aG G K (aT 248 K r u R.2::box b1 244 [zS r R.2.length u]::L) w'))
  {G:kE} {K:Hp} {L:List eT} {w:World} {d:Int} {p:dF} {b1:Nat} {k:(List dF)} {a2:Option Addr} {c3:Nat} {c:Definition} {a4:Option Addr} {q:Nat} {a7:Option Addr} {c8:Nat} {a10:Option Addr} {g:Nat} {b:Definition} {a13:Option Addr} {n:Nat} {a16:Option Addr} {c17:Nat} {R:(Int × (List dF))} (hm:dL rec_ d p k c b=some R) (hs:aG G K (aT 248 K a2 c3 k::box b1 244 [zS a2 k.length c3]::L) w) (h6:eQ K a4 q [str c.Name,i64 c.Parameters,zS a7 c.Body.length c8]) (h9:aY K a7 c8 c.Body) (a5:eQ K a10 g [Value.func (.func 225) #[] #[zP (some ⟨b1,0,none⟩),cH a13 n,cH a10 g]]) (a6:eQ K a13 n [str b.Name,i64 b.Parameters,zS a16 b.Body.length c17]) (a8:aY K a16 c17 b.Body):
  Calls prog 225 ([i64 d,zA #[i64 p.scope,zB p.behind],zP (some ⟨b1,0,none⟩),cH a4 q,cH a10 g]:List Value).toArray w (cK fun v w'=>∃ r u,v=i64 R.1/\aG G K (aT 248 K r u R.2::box b1 244 [zS r R.2.length u]::L) w'):=by
 let o:=[i64 p.scope,zB p.behind]
 refine aM func225 rfl (by kernel_rfl) (by show (5:Nat)<=45;decide) ?_;unfold dL at hm
 refine aK (eR (v:=zA #[i64 p.scope,zB p.behind]) (vs:=o) hs rfl rfl (fun J e5 V=>(aH (v:=i64 0) (aL (aK (aC (dH sc_244 V (i:=2) rfl rfl rfl) (aO (v:=i64 d) (aC (kH (us:=o) ag_248 V (i:=0) rfl rfl rfl rfl) ?_))))))));obtain ⟨e6,a9,hm⟩:=aB hm
 have c9:=eE V (i:=1) rfl a9
 refine aC (iP sl_244 rfl c9 rfl rfl rfl a9) ?_;obtain ⟨e,b7,hm⟩:=aB hm
 refine aDj (i:=1) (t:=0) (ns:=o) (e':=(⟨p.scope,p.behind⟩:dF)) sizeOf248 V rfl (zR _) rfl rfl rfl a9 b7 rfl rfl (kI rfl) rfl (fun cs h=>by cases h;rfl) (fun b8 (d0:aG G K (box J 248 o::aT 248 K a2 c3 e::box b1 244 [zS a2 k.length c3]::L) b8)=>?_)
 have b0:aG G K (box J 248 o::aT 248 K a2 c3 e::box b1 244 [zS a2 e.length c3]::L) b8:=by rw [←(uC b7)];exact d0
 refine aL (aK (aC (cQ (k':=q+2) aEq rfl h6 rfl) (aC (cC (t:=2) aDD b0 h6 rfl rfl) (aO (v:=i64 d) ?_))));obtain ⟨a,b9,hm⟩:=aB hm
 refine aC (cL rY rfl h9 rfl rfl rfl b9) ?_;obtain ⟨e7,d1,d2⟩:=aY.el (sz:=4) rfl h9 b9
 obtain ⟨l,m,rfl,d3⟩:=d2
 refine aC (dU (t:=0) (vs:=[i64 a.Kind,i64 a.Number,str a.Name,zS l a.Arguments.length m]) xR b0 d1 rfl rfl rfl) (eA (vs:=[i64 0,i64 0,str ([]:aN),zS none 0 0]) zeroValue147 b0 rfl (fun b2 e8 d4=>(eY (i:=0) (ns:=[i64 a.Kind,i64 a.Number,str a.Name,zS l a.Arguments.length m]) (us:=[i64 a.Kind,i64 a.Number,str a.Name,zS l a.Arguments.length m]) sizeOf147 d4 rfl rfl rfl rfl rfl (kI rfl) rfl rfl (fun d5 (b3:aG G K (box b2 147 [i64 a.Kind,i64 a.Number,str a.Name,zS l a.Arguments.length m]::box J 248 o::aT 248 K a2 c3 e::box b1 244 [zS a2 e.length c3]::L) d5)=>(aL (aK (aC (bI (t':=0) aQb rfl rfl) (aC (dH iK b3 (i:=1) rfl rfl rfl) (aC (bI (t':=0) oH rfl rfl) (aC (dH iK b3 (i:=0) rfl rfl rfl) (aC (dS rfl rfl) (aC (aCG (vs:=[(0,i64 p.scope),(1,zB (a.Kind == 1))]) (cs:=[i64 p.scope,zB (a.Kind == 1)]) bs_248 rfl (by kernel_rfl)) (eA (vs:=[i64 0,zB false]) zeroValue248 b3 rfl (fun Z e9 d6=>(eY (i:=0) (ns:=[i64 p.scope,zB (a.Kind == 1)]) (us:=[i64 p.scope,zB (a.Kind == 1)]) sizeOf248 d6 rfl rfl rfl rfl rfl (kI rfl) rfl rfl (fun d7 (f0:aG G K (box Z 248 [i64 p.scope,zB (a.Kind == 1)]::box b2 147 [i64 a.Kind,i64 a.Number,str a.Name,zS l a.Arguments.length m]::box J 248 o::aT 248 K a2 c3 e::box b1 244 [zS a2 e.length c3]::L) d7)=>(aL (gY [0,4,8,9] (fun f w=>∃ j,cU rec_ d b e a j=some R/\aG G K (box Z 248 [i64 j,zB (a.Kind == 1)]::box b2 147 [i64 a.Kind,i64 a.Number,str a.Name,zS l a.Arguments.length m]::aT 248 K a2 c3 e::box b1 244 [zS a2 e.length c3]::L) w) ?_ ?_))))))))))))))))))
 ·rintro f f1 ⟨j,hm,c0⟩
  unfold cU at hm
  refine aK (aO (v:=i64 d) (aC (oD rfl rfl) (aH (v:=i64 (wr (d+1))) (aL (aI (aK (aC (kH (us:=[i64 a.Kind,i64 a.Number,str a.Name,zS l a.Arguments.length m]) xR c0 (i:=1) rfl rfl rfl rfl) ?_)))))));obtain ⟨f2,d8,hm⟩:=aB hm
  refine aW (vs:=[zA #[i64 a.Kind,i64 a.Number,str a.Name,zS l a.Arguments.length m]]) call224 rfl (aCr d8 c0 d3) ?_
  rintro _ f3 ⟨rfl,f4⟩
  refine aO (v:=i64 0) (aL (aQ [] (fun f w=>∃ c1 b4 c2 c4,iN c1 b4=some R/\f 10=i64 c1/\aG G K (aT 248 K c2 c4 b4::box b1 244 [zS c2 b4.length c4]::L) w) aE ?_));obtain ⟨f5,d9,ho⟩:=aB hm
  refine aBy [4,9,36] d9 (fun a0 c5 x f w=>∃ y z,f 10=i64 a0/\f 37=i64 c5/\aG G K (box Z 248 [i64 j,zB (a.Kind == 1)]::aT 248 K y z x::box b1 244 [zS y x.length z]::L) w) aE ?_
  ·rintro a0 c5 x f6 f e0 hm hr ⟨y,z,e1,e2,b5⟩
   unfold eS at hm
   refine aK (aC (dR e2 rfl) (aL (aI ?_)))
   rcases aJ hm with ⟨c6,hm⟩|⟨c6,hm⟩
   ·refine aS c6 rfl (aU (aF (aI (bK (bQ (aC (cC (t:=0) sc_282 b5 a5 rfl rfl) (bO e1 (aC (kH (us:=[i64 j,zB (a.Kind == 1)]) ag_248 b5 (i:=0) rfl rfl rfl rfl) ?_))))))))
    have e3:aG G K (aT 248 K y z x::box b1 244 [zS y x.length z]::box Z 248 [i64 j,zB (a.Kind == 1)]::L) e0:=(aG.arr 3 [1,2,0] b5 rfl)
    obtain ⟨f7,e4,hm⟩:=aB hm
    exact eI (vs:=[i64 a0,zA #[i64 j,zB (a.Kind == 1)]]) (caps:=[zP (some ⟨b1,0,none⟩),cH a13 n,cH a10 g]) (us:=[i64 a0,zA #[i64 j,zB (a.Kind == 1)],zP (some ⟨b1,0,none⟩),cH a13 n,cH a10 g]) rfl call225 rfl rfl (ih (p:=⟨j,a.Kind == 1⟩) e4 e3 a6 a8 a5 a6 a8) aE
   ·exact aE
 exact aE
theorem nH (n:Nat):∀ {G:kE} {K:Hp} {L:List eT} {w:World} {l:Int} {p:dF} {b1:Nat} {c:(List dF)} {a2:Option Addr} {c3:Nat} {a:Definition} {a4:Option Addr} {m:Nat} {a7:Option Addr} {c8:Nat} {a10:Option Addr} {d:Nat} {b:Definition} {a13:Option Addr} {o:Nat} {a16:Option Addr} {c17:Nat} {R:(Int × (List dF))} (hm:cF n l p c a b=some R) (e:aG G K (aT 248 K a2 c3 c::box b1 244 [zS a2 c.length c3]::L) w) (g:eQ K a4 m [str a.Name,i64 a.Parameters,zS a7 a.Body.length c8]) (h:aY K a7 c8 a.Body) (i:eQ K a10 d [Value.func (.func 225) #[] #[zP (some ⟨b1,0,none⟩),cH a13 o,cH a10 d]]) (j:eQ K a13 o [str b.Name,i64 b.Parameters,zS a16 b.Body.length c17]) (k:aY K a16 c17 b.Body),
  Calls prog 225 ([i64 l,zA #[i64 p.scope,zB p.behind],zP (some ⟨b1,0,none⟩),cH a4 m,cH a10 d]:List Value).toArray w (cK fun v w'=>∃ q r,v=i64 R.1/\aG G K (aT 248 K q r R.2::box b1 244 [zS q R.2.length r]::L) w'):=by
 induction n with
 |zero=>
  intro G K L w l p b1 c a2 c3 a a4 m a7 c8 a10 d b a13 o a16 c17 R hm e g h i j k
  unfold cF at hm
  cases hm
 |succ n ih=>
  intro G K L w l p b1 c a2 c3 a a4 m a7 c8 a10 d b a13 o a16 c17 R hm e g h i j k
  exact nG (rec_:=cF n) (fun hm e g h i j k=>ih hm e g h i j k) hm e g h i j k
end Gv
