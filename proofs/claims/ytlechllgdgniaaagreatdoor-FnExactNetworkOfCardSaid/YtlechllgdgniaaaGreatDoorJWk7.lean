/- Walks, printed by program. -/
import Derived.Test.YtlechllgdgniaaaGreatDoorJWk5
set_option linter.all false
namespace Gv
open Gv.Hp renaming le_refl→zR
open Go.Value renaming slice→zS,bool→zB,agg→zA
open Option.some renaming inj→zI
open Go Go.Proofs Go.Proofs.Tryz
set_option maxRecDepth 20000
set_option maxHeartbeats 40000000
variable {G:pJ} {K:Hp} {L:List hQ} {w:World} {a1 a4 a7 a10 a13 a16 a19:Option Addr} {c2 c5 c8 c11 c14 c17 c20:Nat}
theorem aJl {p:Part} {b:(List Definition)} {a:fD} {R:Int} (hm:sJ p b a=some R) (J:aN G K (L) w) (h:cE K a1 c2 p.Arguments) (V:cE K a4 c5 b):
  Calls prog 165 ([zA #[i64 p.Kind,i64 p.Number,str p.Name,zS a1 p.Arguments.length c2],zS a4 b.length c5,zA #[i64 a.scope,zB a.behind]]:List Value).toArray w (eR fun v w'=>v=i64 R/\aN G K (L) w'):=by
 let c:=[i64 p.Kind,i64 p.Number,str p.Name,zS a1 p.Arguments.length c2]
 let e:=[i64 a.scope,zB a.behind]
 refine aQ func165 rfl (by kernel_rfl) (by show (3:Nat)<=77;decide) ?_;unfold sJ at hm
 refine aL (dQ (v:=zA #[i64 p.Kind,i64 p.Number,str p.Name,zS a1 p.Arguments.length c2]) (vs:=c) J rfl rfl (fun g w8 Z=>(dQ (v:=zA #[i64 a.scope,zB a.behind]) (vs:=e) Z rfl rfl (fun d b5 n=>(aD (v:=i64 0) (aG (aO (bZ (aL (aA (eH (us:=c) tG n (i:=1) rfl rfl rfl rfl) ?_))))))))));obtain ⟨a0,a2,hm⟩:=aC hm
 refine aT (vs:=[zA #[i64 p.Kind,i64 p.Number,str p.Name,zS a1 p.Arguments.length c2]]) call195 rfl (aJk a2 n h) ?_
 rintro _ b6 ⟨rfl,b8⟩
 refine aA (dA rfl) (aD (v:=zB (!a0)) (aG ?_))
 rcases aH hm with ⟨o,hm⟩|⟨o,hm⟩
 ·exact cA
 ·refine aJ o rfl (aO (cW [1,3,5] (fun f w=>∃ j,lI p b a j=some R/\f 11=zB j/\aN G K (box d 223 e::box g 162 c::L) w) ?_ ?_))
  ·rintro f b9 ⟨j,hm,a3,c0⟩
   unfold lI at hm
   refine aB ?_
   rcases aH hm with ⟨q,hm⟩|⟨q,hm⟩
   ·exact cA
   ·refine aJ q a3 (aO (cW [1,3,5] (fun f w=>∃ k,iZ p b a k=some R/\f 26=zB k/\aN G K (box d 223 e::box g 162 c::L) w) ?_ ?_))
    ·rintro f c1 ⟨k,hm,a5,r⟩
     unfold iZ at hm
     refine aB ?_
     rcases aH hm with ⟨t,hm⟩|⟨t,hm⟩
     ·exact cA
     ·refine aJ t a5 (aL (aA (eH (us:=c) tG r (i:=1) rfl rfl rfl rfl) (aI (v:=zS a4 b.length c5) ?_)));obtain ⟨a6,a7,hm⟩:=aC hm
      refine aT (vs:=[zA #[i64 p.Kind,i64 p.Number,str p.Name,zS a1 p.Arguments.length c2],zS a4 b.length c5]) call196 rfl (aIF a7 r h V) ?_
      rintro _ c3 ⟨rfl,c4⟩
      refine aA (dA rfl) (aD (v:=zB (!a6)) (aG ?_))
      rcases aH hm with ⟨u,hm⟩|⟨u,hm⟩
      ·exact cA
      ·refine aJ u rfl (aO (cW [3,5] (fun f w=>∃ l,nF p a l=some R/\f 54=zB l/\aN G K (box d 223 e::box g 162 c::L) w) ?_ ?_))
       ·rintro f c6 ⟨l,hm,a8,c7⟩
        unfold nF at hm
        refine aB ?_
        rcases aH hm with ⟨x,hm⟩|⟨x,hm⟩
        ·exact cA
        ·refine aJ x a8 (aO (cW [3,5] (fun f w=>∃ m,nE p a m=some R/\f 63=zB m/\aN G K (box d 223 e::box g 162 c::L) w) ?_ ?_))
         ·rintro f c8 ⟨m,hm,a9,y⟩
          unfold nE at hm
          refine aB ?_
          rcases aH hm with ⟨z,hm⟩|⟨z,hm⟩
          ·exact cA
          ·refine aJ z a9 (aL (aA (bA (t':=3) jC rfl rfl) (aA (bO pQ y (i:=1) rfl rfl rfl) (aA (yH (vs:=[Value.pointer (some ⟨d,0,none⟩)]) rfl) ?_))));obtain ⟨c9,b0,b1,b2,d0⟩:=aN.lendBp y .head
           obtain ⟨d1,b3,hm⟩:=aC hm
           exact aT (vs:=[zS a1 p.Arguments.length c2,Value.func (.func 198) #[] #[eJ (some ⟨d,0,none⟩) 0]]) call197 rfl (mQ b3 b2 (h.mono b0) b1) cA
         exact cA
       exact cA
    exact cA
  exact cA
theorem aKN {a:(List Definition)} {d:Definition} {R:(Int × Int)} (hm:zQ a d=some R) (l:aN G K (L) w) (u:cE K a1 c2 a) (m:cE K a4 c5 d.Body):
  Calls prog 119 ([zS a1 a.length c2,zA #[str d.Name,i64 d.Parameters,zS a4 d.Body.length c5]]:List Value).toArray w (eR fun v w'=>v=Value.tuple #[i64 R.1,i64 R.2]/\aN G K (L) w'):=by
 let b:=[str d.Name,i64 d.Parameters,zS a4 d.Body.length c5]
 refine aQ func119 rfl (by kernel_rfl) (by show (2:Nat)<=45;decide) ?_;unfold zQ at hm
 refine aL (dQ (v:=zA #[str d.Name,i64 d.Parameters,zS a4 d.Body.length c5]) (vs:=b) l rfl rfl (fun n x y=>(aD (v:=i64 0) (aD (v:=i64 0) (aG (aO (aO (cW [0,3] (fun f w=>∃ c,tV a d c=some R/\f 22=zB c/\aN G K (box n 89 b::L) w) ?_ ?_))))))))
 ·rintro f z ⟨c,hm,o,e⟩
  unfold tV at hm
  refine aB ?_
  rcases aH hm with ⟨g,hm⟩|⟨g,hm⟩
  ·exact cA
  ·refine aJ g o (aW (aB (aL (aA (eH (us:=b) aES e (i:=0) rfl rfl rfl rfl) ?_))));obtain ⟨h,p,hm⟩:=aC hm
   refine aT (vs:=[zA #[str d.Name,i64 d.Parameters,zS a4 d.Body.length c5]]) call164 rfl (aFp p e m) ?_
   rintro _ J ⟨j,k,rfl,q⟩
   refine aD (v:=zS j h.length k) (aG (aO (aL (aA (bA (t':=2) kT rfl rfl) (aA (bO yQ q (i:=1) rfl rfl rfl) (aA (bQ (len:=d.Body.length) jV rfl) (aI (v:=i64 0) (aG (bR [] (fun f w=>aAP=some R/\aN G K (L) w) cA ?_)))))))));obtain ⟨V,r,ho⟩:=aC hm
   exact dS [0,6,26,27] r (fun t f w=>f 28=i64 t/\aN G K (bB 223 K j k h::L) w) cA cA
 exact cA
theorem aFT {c:(List Definition)} {R:Bool} (hm:jS c=some R) (hs:aN G K (L) w) (k:cE K a1 c2 c):
  Calls prog 80 ([zS a1 c.length c2]:List Value).toArray w (eR fun v w'=>v=zB R/\aN G K (L) w'):=by
 refine aQ func80 rfl (by kernel_rfl) (by show (1:Nat)<=45;decide) ?_;unfold jS at hm
 refine aL (aD (v:=zB false) (aG (aO (aO (cW [0] (fun f w=>∃ l,kZ c l=some R/\f 15=zB l/\aN G K (L) w) ?_ ?_)))))
 ·rintro f w6 ⟨l,hm,J,b4⟩
  unfold kZ at hm
  refine aB ?_
  rcases aH hm with ⟨o,hm⟩|⟨o,hm⟩
  ·exact cA
  ·refine aJ o J (aW (aB (aO (aL (aI (v:=zS a1 c.length c2) (aA (bQ (len:=c.length) iW rfl) (aI (v:=i64 0) (aG (bR [] (fun f w=>nY=some R/\aN G K (L) w) cA ?_)))))))));obtain ⟨b5,V,ho⟩:=aC hm
   refine dS [0,16,17] V (fun j f w=>f 18=i64 j/\aN G K (L) w) cA ?_
   ·rintro j Z f b6 hm hr ⟨m,p⟩
    unfold kY at hm
    refine aL (aA (cM m rfl) (aG (aO ?_)))
    rcases aH hm with ⟨q,hm⟩|⟨q,hm⟩
    ·refine aM q rfl (aW (aB (aO (bZ (aL (bG m ?_))))));obtain ⟨a,r,hm⟩:=aC hm
     refine aA (cQ iW rfl k rfl rfl m r) ?_;obtain ⟨b7,a0,a2⟩:=cE.el (sz:=3) rfl k r
     obtain ⟨e,h,rfl,b8⟩:=a2
     refine aA (eK (t:=0) (vs:=[str a.Name,i64 a.Parameters,zS e a.Body.length h]) aES p a0 rfl rfl rfl) (cR (vs:=[str ([]:bK),i64 0,zS none 0 0]) zeroValue89 p rfl (fun n b9 a3=>(aD (v:=i64 j) (cO (i:=0) (ns:=[str a.Name,i64 a.Parameters,zS e a.Body.length h]) (us:=[str a.Name,i64 a.Parameters,zS e a.Body.length h]) sizeOf89 a3 rfl rfl rfl rfl rfl (dU rfl) rfl rfl (fun a4 (b:aN G K (box n 89 [str a.Name,i64 a.Parameters,zS e a.Body.length h]::L) a4)=>(aG (aO (aO (cW [0,4,16,17,18] (fun f w=>∃ u,kX c j a u=some Z/\f 35=zB u/\aN G K (box n 89 [str a.Name,i64 a.Parameters,zS e a.Body.length h]::L) w) cA (dB (C:=fun w'=>aN G K (box n 89 [str a.Name,i64 a.Parameters,zS e a.Body.length h]::L) w') cB (by kernel_rfl) (aN.mono b (dW.drew _)) (aY (fun _ b=>bA (t':=0) aBL rfl rfl) (aY (fun _ b=>bO fF b (i:=0) rfl rfl rfl) ?_))))))))))))
     obtain ⟨x,a5,hm⟩:=aC hm
     refine eV (vs:=[str a.Name]) (v:=zB x) call117 rfl (fun _ b=>(aIQ a5 b)) (aY (fun _ b=>dA rfl) (aY (fun _ b=>bJ (v:=zB (!x)) rfl) ?_))
     rcases aH hm with ⟨d,hm⟩|⟨d,hm⟩
     ·exact cA
     ·refine bW (g:=27) rfl rfl (cJ d) (aY (fun _ b=>bJ (v:=zS a1 c.length c2) rfl) (bW (g:=27) rfl rfl (cJ d) (aY (fun _ b=>bJ (v:=i64 j) rfl) (bW (g:=27) rfl rfl (cJ d) ?_))));obtain ⟨a6,y,hm⟩:=aC hm
      obtain ⟨a7,a8,z⟩:=Cut.ex 3 a1 c2 0
      have a9:=cE.cut' k y z
      refine aY (fun _ b=>R_slVH iW k.room z rfl rfl rfl y) (bW (g:=27) rfl rfl (cJ d) (aY (fun _ b=>bA (t':=0) aBL rfl rfl) (bW (g:=27) rfl rfl (cJ d) (aY (fun _ b=>bO fF b (i:=0) rfl rfl rfl) (bW (g:=27) rfl rfl (cJ d) ?_)))));obtain ⟨b0,b1,hm⟩:=aC hm
      exact eV (vs:=[zS a7 a6.length a8,str a.Name]) (v:=i64 b0) call118 rfl (fun _ b=>(aGC b1 b a9)) cA
    ·exact cA
 exact cA
theorem aJm {a:(List Definition)} {c:bL} {R:Bool} (hm:wT a c=some R) (d:aN G K (L) w) (e:cE K a1 c2 a) (g:cE K a4 c5 c.Values):
  Calls prog 84 ([zS a1 a.length c2,zA #[i64 c.Definition,zS a4 c.Values.length c5]]:List Value).toArray w (eR fun v w'=>v=zB R/\aN G K (L) w'):=by
 refine aQ func84 rfl (by kernel_rfl) (by show (2:Nat)<=27;decide) ?_;unfold wT at hm
 exact aL (dQ (v:=zA #[i64 c.Definition,zS a4 c.Values.length c5]) (vs:=[i64 c.Definition,zS a4 c.Values.length c5]) d rfl rfl (fun h i j=>(aD (v:=zB false) (aG (aO (cW [] (fun f w=>∃ b,nG b=some R/\f 4=zB b/\aN G K (L) w) cA cA))))))
theorem aGD {a b:bV} {R:Int} (hm:oS a b=some R) (l:aN G K (L) w):
  Calls prog 124 ([zA #[str a.Left,str a.Right,str a.Result],zA #[str b.Left,str b.Right,str b.Result]]:List Value).toArray w (eR fun v w'=>v=i64 R/\aN G K (L) w'):=by
 let c:=[str a.Left,str a.Right,str a.Result]
 let d:=[str b.Left,str b.Right,str b.Result]
 refine aQ func124 rfl (by kernel_rfl) (by show (2:Nat)<=16;decide) ?_;unfold oS at hm
 refine aL (dQ (v:=zA #[str a.Left,str a.Right,str a.Result]) (vs:=c) l rfl rfl (fun h r m=>(dQ (v:=zA #[str b.Left,str b.Right,str b.Result]) (vs:=d) m rfl rfl (fun j t e=>(aD (v:=i64 0) (aG (aL (aA (bA (t':=0) oK rfl rfl) (aA (bO fF e (i:=1) rfl rfl rfl) (aA (bA (t':=1) rC rfl rfl) (aA (bO fF e (i:=1) rfl rfl rfl) (eL (Kt:=K) (xs:=([a.Left,a.Right]:List bK)) (cs:=[str a.Left,str a.Right]) (vs:=[(0,str a.Left),(1,str a.Right)]) dL aCp rfl rfl e rfl (by kernel_rfl) rfl rfl rfl ⟨rfl,rfl,trivial⟩ (fun k n (g:aN G K (bB 9 K k 2 ([a.Left,a.Right]:List bK)::box j 93 d::box h 93 c::L) n)=>(aA (bA (t':=0) oK rfl rfl) (aA (bO fF g (i:=1) rfl rfl rfl) (aA (bA (t':=1) rC rfl rfl) (aA (bO fF g (i:=1) rfl rfl rfl) (eL (Kt:=K) (xs:=([b.Left,b.Right]:List bK)) (cs:=[str b.Left,str b.Right]) (vs:=[(0,str b.Left),(1,str b.Right)]) dL aCp rfl rfl g rfl (by kernel_rfl) rfl rfl rfl ⟨rfl,rfl,trivial⟩ (fun o p (q:aN G K (bB 9 K o 2 ([b.Left,b.Right]:List bK)::bB 9 K k 2 ([a.Left,a.Right]:List bK)::box j 93 d::box h 93 c::L) p)=>?_)))))))))))))))))))
 obtain ⟨u,x,y,z,J⟩:=aN.lendSp q (Hp.le_refl _) zt1
 exact cA
theorem aHU {o p:bV} {a:Nat} {R:Bool} (hm:xW o p=some R) (c:aN G K (L) w) (d:iR K a1 a [str p.Left,str p.Right,str p.Result]):
  Calls prog 126 ([zA #[str o.Left,str o.Right,str o.Result],eJ a1 a]:List Value).toArray w (eR fun v w'=>v=zB R/\aN G K (L) w'):=by
 refine aQ func126 rfl (by kernel_rfl) (by show (2:Nat)<=16;decide) ?_;unfold xW at hm
 exact aL (dQ (v:=zA #[str o.Left,str o.Right,str o.Result]) (vs:=[str o.Left,str o.Right,str o.Result]) c rfl rfl (fun e g h=>(aD (v:=zB false) (aG (aO (cW [] (fun f w=>∃ b,nN b=some R/\f 3=zB b/\aN G K (L) w) cA cA))))))
theorem mY {s_:(List bV)} {c:bV} {b:Nat} {R:Int} (hm:fG s_ c=some R) (p:aN G K (L) w) (e:cE K a1 c2 s_) (k:iR K a4 b [str c.Left,str c.Right,str c.Result]):
  Calls prog 170 ([zS a1 s_.length c2,Value.func (.func 126) #[] #[eJ a4 b]]:List Value).toArray w (eR fun v w'=>v=i64 R/\aN G K (L) w'):=by
 refine aQ func170 rfl (by kernel_rfl) (by show (2:Nat)<=19;decide) ?_;unfold fG at hm
 refine aL (aD (v:=i64 0) (aG (aO (aL (aI (v:=zS a1 s_.length c2) (aA (bQ (len:=s_.length) lV rfl) (aI (v:=i64 0) (aG (bR [] (fun f w=>eW=some R/\aN G K (L) w) cA ?_)))))))));obtain ⟨q,l,ho⟩:=aC hm
 refine dS [0,1,7] l (fun d f w=>f 8=i64 d/\aN G K (L) w) cA ?_
 ·rintro d r f u hm hr ⟨g,h⟩
  unfold dX at hm
  refine aL (aA (cM g rfl) (aG (aO ?_)))
  rcases aH hm with ⟨i,hm⟩|⟨i,hm⟩
  ·refine aM i rfl (aW (aB (aO (bZ (aL (bG g (aD (v:=i64 d) (aG (aL (aI (v:=Value.func (.func 126) #[] #[eJ a4 b]) (aI (v:=zS a1 s_.length c2) (aI (v:=i64 d) ?_))))))))))));obtain ⟨a,j,hm⟩:=aC hm
   refine aA (cQ lV rfl e rfl rfl rfl j) ?_;obtain ⟨x,m,n⟩:=cE.el (sz:=3) rfl e j
   cases n
   refine aA (eK (t:=0) (vs:=[str a.Left,str a.Right,str a.Result]) aJG h m rfl rfl rfl) ?_;obtain ⟨y,o,hm⟩:=aC hm
   exact rQ (vs:=[zA #[str a.Left,str a.Right,str a.Result]]) (caps:=[eJ a4 b]) (us:=[zA #[str a.Left,str a.Right,str a.Result],eJ a4 b]) rfl call126 rfl rfl (aHU o h k) cA
  ·exact cA
theorem mC {s_:(List bV)} {a:bV} {b:Nat} {R:Bool} (hm:dY s_ a=some R) (c:aN G K (L) w) (d:cE K a1 c2 s_) (e:iR K a4 b [str a.Left,str a.Right,str a.Result]):
  Calls prog 125 ([zS a1 s_.length c2,Value.func (.func 126) #[] #[eJ a4 b]]:List Value).toArray w (eR fun v w'=>v=zB R/\aN G K (L) w'):=by
 exact cA
theorem aJY {b:(List bV)} {R:Bool} (hm:rM b=some R) (hs:aN G K (L) w) (e:cE K a1 c2 b):
  Calls prog 85 ([zS a1 b.length c2]:List Value).toArray w (eR fun v w'=>v=zB R/\aN G K (L) w'):=by
 refine aQ func85 rfl (by kernel_rfl) (by show (1:Nat)<=56;decide) ?_;unfold rM at hm
 refine aL (aD (v:=zB false) (aG (aO (aL (aI (v:=zS a1 b.length c2) (aA (bQ (len:=b.length) lV rfl) (aI (v:=i64 0) (aG (bR [0] (fun f w=>xX b=some R/\aN G K (L) w) cA ?_)))))))));obtain ⟨a2,n,ho⟩:=aC hm
 refine dS [0,5,6] n (fun c f w=>f 7=i64 c/\aN G K (L) w) cA ?_
 ·rintro c o f a3 hm hr ⟨g,j⟩
  unfold kR at hm
  refine aL (aA (cM g rfl) (aG (aO ?_)))
  rcases aH hm with ⟨k,hm⟩|⟨k,hm⟩
  ·refine aM k rfl (aW (aB (aO (bZ (aL (bG g ?_))))));obtain ⟨a,l,hm⟩:=aC hm
   refine aA (cQ lV rfl e rfl rfl g l) ?_;obtain ⟨a4,p,q⟩:=cE.el (sz:=3) rfl e l
   cases q
   refine aA (eK (t:=0) (vs:=[str a.Left,str a.Right,str a.Result]) aJG j p rfl rfl rfl) (cR (vs:=[str ([]:bK),str ([]:bK),str ([]:bK)]) zeroValue93 j rfl (fun d a5 r=>(aD (v:=i64 c) (cO (i:=0) (ns:=[str a.Left,str a.Right,str a.Result]) (us:=[str a.Left,str a.Right,str a.Result]) sizeOf93 r rfl rfl rfl rfl rfl (dU rfl) rfl rfl (fun u (a6:aN G K (box d 93 [str a.Left,str a.Right,str a.Result]::L) u)=>(aG (aO (aO (cW [0,4,5,6,7] (fun f w=>∃ h,iU b c a h=some o/\f 48=zB h/\aN G K (box d 93 [str a.Left,str a.Right,str a.Result]::L) w) ?_ ?_)))))))))
   ·rintro f a7 ⟨h,hm,x,y⟩
    unfold iU at hm
    refine aB ?_
    rcases aH hm with ⟨m,hm⟩|⟨m,hm⟩
    ·exact cA
    ·refine aJ m x (aW (aB (aL (aI (v:=zS a1 b.length c2) (aA (yH (vs:=[Value.pointer (some ⟨d,0,none⟩)]) rfl) ?_)))));obtain ⟨a8,z,J,V,a9⟩:=aN.lendBp y .head
     obtain ⟨b0,Z,hm⟩:=aC hm
     exact aT (vs:=[zS a1 b.length c2,Value.func (.func 126) #[] #[eJ (some ⟨d,0,none⟩) 0]]) call125 rfl (mC Z V (e.mono z) J) cA
   exact cA
  ·exact cA
theorem aHV {a:(List bK)} {R:Bool} (hm:aDL a=some R) (o:aN G K (L) w) (d:cE K a1 c2 a):
  Calls prog 86 ([zS a1 a.length c2]:List Value).toArray w (eR fun v w'=>v=zB R/\aN G K (L) w'):=by
 refine aQ func86 rfl (by kernel_rfl) (by show (1:Nat)<=32;decide) ?_;unfold aDL at hm
 refine aL (aD (v:=zB false) (aG (aO (aL (aI (v:=zS a1 a.length c2) (aA (bQ (len:=a.length) dL rfl) (aI (v:=i64 0) (aG (bR [0] (fun f w=>aAQ a=some R/\aN G K (L) w) cA ?_)))))))));obtain ⟨p,i,ho⟩:=aC hm
 refine dS [0,5,6] i (fun b f w=>f 7=i64 b/\aN G K (L) w) cA ?_
 ·rintro b j f q hm hr ⟨c,k⟩
  unfold aAR at hm
  refine aL (aA (cM c rfl) (aG (aO ?_)))
  rcases aH hm with ⟨e,hm⟩|⟨e,hm⟩
  ·refine aM e rfl (aW (aB (aO (bZ (aL (bG c ?_))))));obtain ⟨l,g,hm⟩:=aC hm
   refine aA (cQ dL rfl d rfl rfl c g) ?_;obtain ⟨r,m,n⟩:=cE.el (sz:=1) rfl d g
   cases n
   exact aA (bX (t:=0) fF k m rfl rfl) (aD (v:=i64 b) (aD (v:=str l) (aG (aO (cW [0,5,6,7] (fun f w=>∃ h,vJ b h=some j/\f 27=zB h/\aN G K (L) w) cA cA)))))
  ·exact cA
theorem aHa {c:bL} {p:cP} {a:Nat} {R:Bool} (hm:vK c p=some R) (b:aN G K (L) w) (d:cE K a1 c2 c.Values) (e:iR K a4 a [zS a7 p.Definitions.length c8,zS a10 p.Components.length c11,zS a13 p.Meetings.length c14,zS a16 p.Allowed.length c17,zS a19 p.Hidden.length c20]) (g:cE K a7 c8 p.Definitions) (h:cE K a10 c11 p.Components) (i:cE K a13 c14 p.Meetings) (j:cE K a16 c17 p.Allowed) (k:cE K a19 c20 p.Hidden):
  Calls prog 83 ([zA #[i64 c.Definition,zS a1 c.Values.length c2],eJ a4 a]:List Value).toArray w (eR fun v w'=>v=zB R/\aN G K (L) w'):=by
 exact cA
theorem mB {s_:(List bL)} {a:cP} {c:Nat} {R:Int} (hm:eU s_ a=some R) (J:aN G K (L) w) (g:cE K a1 c2 s_) (l:iR K a4 c [zS a7 a.Definitions.length c8,zS a10 a.Components.length c11,zS a13 a.Meetings.length c14,zS a16 a.Allowed.length c17,zS a19 a.Hidden.length c20]) (m:cE K a7 c8 a.Definitions) (n:cE K a10 c11 a.Components) (o:cE K a13 c14 a.Meetings) (p:cE K a16 c17 a.Allowed) (q:cE K a19 c20 a.Hidden):
  Calls prog 120 ([zS a1 s_.length c2,Value.func (.func 83) #[] #[eJ a4 c]]:List Value).toArray w (eR fun v w'=>v=i64 R/\aN G K (L) w'):=by
 refine aQ func120 rfl (by kernel_rfl) (by show (2:Nat)<=19;decide) ?_;unfold eU at hm
 refine aL (aD (v:=i64 0) (aG (aO (aL (aI (v:=zS a1 s_.length c2) (aA (bQ (len:=s_.length) oJ rfl) (aI (v:=i64 0) (aG (bR [] (fun f w=>eM=some R/\aN G K (L) w) cA ?_)))))))));obtain ⟨V,r,ho⟩:=aC hm
 refine dS [0,1,7] r (fun d f w=>f 8=i64 d/\aN G K (L) w) cA ?_
 ·rintro d Z f a0 hm hr ⟨h,i⟩
  unfold dO at hm
  refine aL (aA (cM h rfl) (aG (aO ?_)))
  rcases aH hm with ⟨j,hm⟩|⟨j,hm⟩
  ·refine aM j rfl (aW (aB (aO (bZ (aL (bG h (aD (v:=i64 d) (aG (aL (aI (v:=Value.func (.func 83) #[] #[eJ a4 c]) (aI (v:=zS a1 s_.length c2) (aI (v:=i64 d) ?_))))))))))));obtain ⟨b,k,hm⟩:=aC hm
   refine aA (cQ oJ rfl g rfl rfl rfl k) ?_;obtain ⟨a2,u,x⟩:=cE.el (sz:=2) rfl g k
   obtain ⟨e,c48,rfl,y⟩:=x
   refine aA (eK (t:=0) (vs:=[i64 b.Definition,zS e b.Values.length c48]) aHo i u rfl rfl rfl) ?_;obtain ⟨a3,z,hm⟩:=aC hm
   exact rQ (vs:=[zA #[i64 b.Definition,zS e b.Values.length c48]]) (caps:=[eJ a4 c]) (us:=[zA #[i64 b.Definition,zS e b.Values.length c48],eJ a4 c]) rfl call83 rfl rfl (aHa z i y l m n o p q) cA
  ·exact cA
theorem lD {s_:(List bL)} {a:cP} {b:Nat} {R:Bool} (hm:dP s_ a=some R) (c:aN G K (L) w) (d:cE K a1 c2 s_) (e:iR K a4 b [zS a7 a.Definitions.length c8,zS a10 a.Components.length c11,zS a13 a.Meetings.length c14,zS a16 a.Allowed.length c17,zS a19 a.Hidden.length c20]) (g:cE K a7 c8 a.Definitions) (h:cE K a10 c11 a.Components) (i:cE K a13 c14 a.Meetings) (j:cE K a16 c17 a.Allowed) (k:cE K a19 c20 a.Hidden):
  Calls prog 82 ([zS a1 s_.length c2,Value.func (.func 83) #[] #[eJ a4 b]]:List Value).toArray w (eR fun v w'=>v=zB R/\aN G K (L) w'):=by
 exact cA
theorem aJn {s_:cP} {R:Int} (hm:wU s_=some R) (o:aN G K (L) w) (d:cE K a1 c2 s_.Definitions) (e:cE K a4 c5 s_.Components) (p:cE K a7 c8 s_.Meetings) (q:cE K a10 c11 s_.Allowed) (r:cE K a13 c14 s_.Hidden):
  Calls prog 48 ([zA #[zS a1 s_.Definitions.length c2,zS a4 s_.Components.length c5,zS a7 s_.Meetings.length c8,zS a10 s_.Allowed.length c11,zS a13 s_.Hidden.length c14]]:List Value).toArray w (eR fun v w'=>v=i64 R/\aN G K (L) w'):=by
 let h:=[zS a1 s_.Definitions.length c2,zS a4 s_.Components.length c5,zS a7 s_.Meetings.length c8,zS a10 s_.Allowed.length c11,zS a13 s_.Hidden.length c14]
 refine aQ func48 rfl (by kernel_rfl) (by show (1:Nat)<=35;decide) ?_;unfold wU at hm
 refine aL (dQ (v:=zA #[zS a1 s_.Definitions.length c2,zS a4 s_.Components.length c5,zS a7 s_.Meetings.length c8,zS a10 s_.Allowed.length c11,zS a13 s_.Hidden.length c14]) (vs:=h) o rfl rfl (fun c a2 j=>(aD (v:=i64 0) (aG (aO (bZ (aL (aA (bA (t':=0) pL rfl rfl) (aA (bO aDY j (i:=0) rfl rfl rfl) ?_)))))))));obtain ⟨t,u,hm⟩:=aC hm
 refine aT (vs:=[zS a1 s_.Definitions.length c2]) call80 rfl (aFT u j d) ?_
 rintro _ a3 ⟨rfl,k⟩
 refine aA (dA rfl) (aD (v:=zB (!t)) (aG ?_))
 rcases aH hm with ⟨l,hm⟩|⟨l,hm⟩
 ·exact cA
 ·refine aJ l rfl (aO (cW [1] (fun f w=>∃ m,qM s_ m=some R/\f 8=zB m/\aN G K (box c 38 h::L) w) cA (aV (aA (bA (t':=1) mD rfl rfl) (aA (bO aBn k (i:=0) rfl rfl rfl) (aA (bQ (len:=s_.Components.length) oJ rfl) ?_))))));obtain ⟨x,y,hm⟩:=aC hm
  refine aT (vs:=[i64 (s_.Components.length:Int),i64 1,i64 3]) call81 rfl (gA y k) ?_
  rintro _ a5 ⟨rfl,n⟩
  refine aA (dA rfl) (aI (v:=zB (!x)) ?_)
  rcases aH hm with ⟨b,hm⟩|⟨b,hm⟩
  ·exact cA
  ·refine bD b rfl rfl (aA (bA (t':=1) mD rfl rfl) (bD b rfl rfl (aA (bO aBn n (i:=0) rfl rfl rfl) (bD b rfl rfl (aA (yH (vs:=[Value.pointer (some ⟨c,0,none⟩)]) rfl) (bD b rfl rfl ?_))))));obtain ⟨a6,a,z,J,V⟩:=aN.lendBp n .head
   obtain ⟨a8,Z,hm⟩:=aC hm
   refine aT (vs:=[zS a4 s_.Components.length c5,Value.func (.func 83) #[] #[eJ (some ⟨c,0,none⟩) 0]]) call82 rfl (lD Z J (e.mono a) z (d.mono a) (e.mono a) (p.mono a) (q.mono a) (r.mono a)) ?_
   rintro _ a9 ⟨rfl,a0⟩
   have b0:=V _ _ a0
   exact cA
theorem aJo {s_:cP} {R:Bool} (hm:sK s_=some R) (a:aN G K (L) w) (b:cE K a1 c2 s_.Definitions) (c:cE K a4 c5 s_.Components) (d:cE K a7 c8 s_.Meetings) (e:cE K a10 c11 s_.Allowed) (g:cE K a13 c14 s_.Hidden):
  Calls prog 23 ([zA #[zS a1 s_.Definitions.length c2,zS a4 s_.Components.length c5,zS a7 s_.Meetings.length c8,zS a10 s_.Allowed.length c11,zS a13 s_.Hidden.length c14]]:List Value).toArray w (eR fun v w'=>v=zB R/\aN G K (L) w'):=by
 exact cA
theorem qU {s_ R:(List Edge)} (hm:fJ s_=some R) (hs:aN G K (bB 130 K a1 c2 s_::L) w):
  Calls prog 133 ([zS a1 s_.length c2]:List Value).toArray w (eR fun v w'=>∃ a7 a8,v=zS a7 R.length a8/\aN G K (bB 130 K a7 a8 R::L) w'):=by
 refine aQ func133 rfl (by kernel_rfl) (by show (1:Nat)<=61;decide) ?_;unfold fJ at hm
 refine aL (aD (v:=zS none 0 0) (aG (aO (aL (aI (v:=zS a1 s_.length c2) (aA (bQ (len:=s_.length) iI rfl) (aA (cM rfl rfl) (aG ?_))))))))
 rcases aH hm with ⟨c3,hm⟩|⟨c3,hm⟩
 ·exact cA
 ·refine aJ c3 rfl (aW (aB (aO (aL (aD (v:=i64 1) (aG (bR [0] (fun f w=>fW s_=some R/\aN G K (bB 130 K a1 c2 s_::L) w) cA ?_)))))));obtain ⟨f6,d8,ho⟩:=aC hm
  refine dS [0] d8 (fun d f w=>f 3=i64 d/\aN G K (bB 130 K a1 c2 s_::L) w) cA ?_
  ·rintro d b0 f f7 hm hr ⟨m,a⟩
   unfold fA at hm
   refine aO (aL (bG m (aI (v:=zS a1 s_.length c2) (aA (bQ (len:=s_.length) iI rfl) (aA (cM rfl rfl) (aG ?_))))))
   rcases aH hm with ⟨b1,hm⟩|⟨b1,hm⟩
   ·refine aM b1 rfl (aW (aB (aO (bR [0] (fun f w=>fX d=some b0/\f 3=i64 d/\aN G K (bB 130 K a1 c2 s_::L) w) ?_ ?_))))
    ·rintro f f8 ⟨hm,d9,e0⟩
     unfold fX at hm
     exact aB (aV (bG d9 (aA (cD rfl rfl) (aD (v:=i64 (wr (d+1))) (aG ⟨_,(zI hm).symm,aU,rfl,e0⟩)))))
    refine aO (dB (C:=fun w'=>aN G K (bB 130 K a1 c2 s_::L) w') cB (by kernel_rfl) (aN.mono a (dW.drew _)) (aY (fun _ a=>bJ (v:=zS a1 s_.length c2) rfl) (aY (fun _ a=>bJ m) ?_)));obtain ⟨o,a4,hm⟩:=aC hm
    have e:=fC a (i:=0) rfl a4
    refine aY (fun _ a=>gE iI rfl e rfl rfl rfl a4) (aY (fun _ a=>aHh (t:=0) (vs:=[i64 o.F,i64 o.B,i64 o.To]) tI a (i:=0) rfl a4 rfl rfl rfl rfl) (aY (fun _ a=>bJ (v:=zS a1 s_.length c2) rfl) (aY (fun _ a=>bJ m) (aY (fun _ a=>fY rfl rfl) ?_))));obtain ⟨p,b2,hm⟩:=aC hm
    refine aY (fun _ a=>gE iI rfl e rfl rfl rfl b2) (aY (fun _ a=>aHh (t:=0) (vs:=[i64 p.F,i64 p.B,i64 p.To]) tI a (i:=0) rfl b2 rfl rfl rfl rfl) (aY (fun _ a=>R_eqlG (eq_130 (x:=o) (y:=p)) rfl rfl) (dH (fun f9 e1=>(aB ?_)))))
    rcases aH hm with ⟨b3,hm⟩|⟨b3,hm⟩
    ·refine aM b3 rfl (aL (aI (v:=zS a1 s_.length c2) (bG m ?_)));obtain ⟨g,q,hm⟩:=aC hm
     have r:=aGm e1 (i:=0) rfl
     obtain ⟨j,k,u⟩:=Cut.ex 3 a1 c2 d
     refine aA (aMI iI r u rfl rfl rfl q) (aD (v:=zS j g.length k) (aG (aO (aL (aD (v:=i64 1) (aG (bR [] (fun f w=>∃ z J,eX z J=some b0/\f 0=zS a1 z.length c2/\f 3=i64 J/\aN G K (bB 130 K a1 c2 z::L) w) ?_ ?_)))))))
     ·rintro f g0 ⟨z,J,hm,b4,b5,b6⟩
      unfold eX at hm
      refine aB (aL (bG b4 (bG b5 ?_)));obtain ⟨g1,e2,hm⟩:=aC hm
      have e3:=aGm b6 (i:=0) rfl
      obtain ⟨g2,g3,b7⟩:=Cut.ex 3 a1 c2 J
      refine aA (aMI iI e3 b7 rfl rfl rfl e2) ?_;obtain ⟨b8,b9,hm⟩:=aC hm
      refine aON iI aGn rfl b6 (i:=0) rfl b7 rfl rfl b9 (fun c0 (c1:aN G K (bB 130 K a1 c2 b8::L) c0)=>(aG (aL (bG (v:=zS a1 b8.length c2) (Eq.trans b4 (congrArg (fun n=>zS a1 n c2) (ovw_len b9))) (bG b5 ?_)))));obtain ⟨a5,c4,hm⟩:=aC hm
      have e4:=aGm c1 (i:=0) rfl
      obtain ⟨c5,c6,c7⟩:=Cut.ex 3 a1 c2 0
      refine aA (R_slVH iI e4 c7 rfl rfl rfl c4) (aD (v:=zS c5 a5.length c6) (aG (aX (aZ (aK (aK (aK ?_)))))))
      have e5:=hr _ (zI hm).symm
      subst e5
      have hm:(some a5)=some R:=ho
      clear hr ho
      have g4:aN G K (bB 130 K c5 c6 a5::L) c0:=aN.cutP c1 (i:=0) rfl c4 c7
      exact cA
     obtain ⟨g5,e6,ho⟩:=aC hm
     refine mL [4] e6 (fun V Z a0 f w=>f 0=zS a1 V.length c2/\f 3=i64 Z/\f 5=i64 a0/\aN G K (bB 130 K a1 c2 V::L) w) cA ?_
     ·rintro V Z a0 e7 f g6 hm hr ⟨c8,c9,l,b⟩
      unfold eZ at hm
      refine aO (aL (bG l (aI (v:=zS j g.length k) (aA (bQ (len:=g.length) iI rfl) (aA (cM rfl rfl) (aG ?_))))))
      rcases aH hm with ⟨d0,hm⟩|⟨d0,hm⟩
      ·refine aM d0 rfl (aW (aB (aO (bR [4,5] (fun f w=>∃ a2 a6,eY a0 a2 a6=some e7/\f 0=zS a1 a2.length c2/\f 3=i64 a6/\aN G K (bB 130 K a1 c2 a2::L) w) ?_ ?_))))
       ·rintro f g7 ⟨a2,a6,hm,e8,e9,f0⟩
        unfold eY at hm
        exact aB (aV (bG l (aA (cD rfl rfl) (aD (v:=i64 (wr (a0+1))) (aG ⟨_,(zI hm).symm,aU,e8,e9,rfl,f0⟩)))))
       refine aO (dB (C:=fun w'=>aN G K (bB 130 K a1 c2 V::L) w') cB (by kernel_rfl) (aN.mono b (dW.drew _)) (aY (fun _ b=>bJ (v:=zS j g.length k) rfl) (aY (fun _ b=>bJ l) ?_)));obtain ⟨g8,d1,hm⟩:=aC hm
       obtain ⟨c,d2,hm⟩:=aC hm
       refine aY (fun _ b=>aOM iI e u q r rfl rfl rfl d1 rfl) (aY (fun _ b=>aHh (t:=0) (vs:=[i64 c.F,i64 c.B,i64 c.To]) tI b (i:=0) rfl d2 rfl rfl rfl rfl) (aY (fun _ b=>bJ (v:=zS j g.length k) rfl) (aY (fun _ b=>bJ l) (aY (fun _ b=>fY rfl rfl) ?_))));obtain ⟨g9,f1,hm⟩:=aC hm
       obtain ⟨a3,f2,hm⟩:=aC hm
       refine aY (fun _ b=>aOM iI e u q r rfl rfl rfl f1 rfl) (aY (fun _ b=>aHh (t:=0) (vs:=[i64 a3.F,i64 a3.B,i64 a3.To]) tI b (i:=0) rfl f2 rfl rfl rfl rfl) (aY (fun _ b=>R_neqG (eq_130 (x:=c) (y:=a3)) rfl rfl) (dH (fun h0 d3=>(aB ?_)))))
       rcases aH hm with ⟨d4,hm⟩|⟨d4,hm⟩
       ·refine aM d4 rfl (aL (bG c8 (bG c9 (aI (v:=zS j g.length k) (bG l (aA (aOM iI e u q r rfl rfl rfl d1 rfl) (aA (aHh (t:=0) (vs:=[i64 c.F,i64 c.B,i64 c.To]) tI d3 (i:=0) rfl d2 rfl rfl rfl rfl) ?_)))))));obtain ⟨h1,d5,hm⟩:=aC hm
        refine aA (gE iI rfl e rfl rfl rfl d5) ?_;obtain ⟨d6,d7,hm⟩:=aC hm
        exact mU (i:=0) (t:=0) (ns:=[i64 c.F,i64 c.B,i64 c.To]) (e':=(⟨c.F,c.B,c.To⟩:Edge)) sizeOf130 d3 rfl (Hp.le_refl _) rfl rfl rfl d5 d7 rfl rfl (dU rfl) rfl (fun cs h=>by cases h;rfl) (fun f3 (f4:aN G K (bB 130 K a1 c2 d6::L) f3)=>(aG (aV (bG c9 (aA (cD rfl rfl) (aD (v:=i64 (wr (Z+1))) (cC (bM (aB ⟨aU,d6,wr (Z+1),hm,(Eq.trans c8 (congrArg (fun n=>zS a1 n c2) (cH d7))),rfl,f4⟩)))))))))
       ·exact cA
      ·exact cA
    ·exact cA
   ·exact cA
theorem uL {s_ R:(List bK)} (hm:gG s_=some R) (hs:aN G K (bB 9 K a1 c2 s_::L) w):
  Calls prog 129 ([zS a1 s_.length c2]:List Value).toArray w (eR fun v w'=>∃ a0 a2,v=zS a0 R.length a2/\aN G K (bB 9 K a0 a2 R::L) w'):=by
 refine aQ func129 rfl (by kernel_rfl) (by show (1:Nat)<=61;decide) ?_;unfold gG at hm
 refine aL (aD (v:=zS none 0 0) (aG (aO (aL (aI (v:=zS a1 s_.length c2) (aA (bQ (len:=s_.length) dL rfl) (aA (cM rfl rfl) (aG ?_))))))))
 rcases aH hm with ⟨c3,hm⟩|⟨c3,hm⟩
 ·exact cA
 ·refine aJ c3 rfl (aW (aB (aO (aL (aD (v:=i64 1) (aG (bR [0] (fun f w=>gY s_=some R/\aN G K (bB 9 K a1 c2 s_::L) w) cA ?_)))))));obtain ⟨f1,d3,ho⟩:=aC hm
  refine dS [0] d3 (fun c f w=>f 3=i64 c/\aN G K (bB 9 K a1 c2 s_::L) w) cA ?_
  ·rintro c a4 f f2 hm hr ⟨l,a⟩
   unfold fV at hm
   refine aO (aL (bG l (aI (v:=zS a1 s_.length c2) (aA (bQ (len:=s_.length) dL rfl) (aA (cM rfl rfl) (aG ?_))))))
   rcases aH hm with ⟨a5,hm⟩|⟨a5,hm⟩
   ·refine aM a5 rfl (aW (aB (aO (bR [0] (fun f w=>gZ c=some a4/\f 3=i64 c/\aN G K (bB 9 K a1 c2 s_::L) w) ?_ ?_))))
    ·rintro f f3 ⟨hm,d4,d5⟩
     unfold gZ at hm
     exact aB (aV (bG d4 (aA (cD rfl rfl) (aD (v:=i64 (wr (c+1))) (aG ⟨_,(zI hm).symm,aU,rfl,d5⟩)))))
    refine aO (dB (C:=fun w'=>aN G K (bB 9 K a1 c2 s_::L) w') cB (by kernel_rfl) (aN.mono a (dW.drew _)) (aY (fun _ a=>bJ (v:=zS a1 s_.length c2) rfl) (aY (fun _ a=>bJ l) ?_)));obtain ⟨f4,J,hm⟩:=aC hm
    have d:=fC a (i:=0) rfl J
    refine aY (fun _ a=>gE dL rfl d rfl rfl rfl J) (aY (fun _ a=>aDa (t:=0) fF a (i:=0) rfl J rfl rfl rfl) (aY (fun _ a=>bJ (v:=zS a1 s_.length c2) rfl) (aY (fun _ a=>bJ l) (aY (fun _ a=>fY rfl rfl) ?_))));obtain ⟨f5,a6,hm⟩:=aC hm
    refine aY (fun _ a=>gE dL rfl d rfl rfl rfl a6) (aY (fun _ a=>aDa (t:=0) fF a (i:=0) rfl a6 rfl rfl rfl) (aY (fun _ a=>lR rfl rfl) (dH (fun f6 d6=>(aB ?_)))))
    rcases aH hm with ⟨a7,hm⟩|⟨a7,hm⟩
    ·refine aM a7 rfl (aL (aI (v:=zS a1 s_.length c2) (bG l ?_)));obtain ⟨e,m,hm⟩:=aC hm
     have o:=aGm d6 (i:=0) rfl
     obtain ⟨g,j,p⟩:=Cut.ex 1 a1 c2 c
     refine aA (aMI dL o p rfl rfl rfl m) (aD (v:=zS g e.length j) (aG (aO (aL (aD (v:=i64 1) (aG (bR [] (fun f w=>∃ q r,fR q r=some a4/\f 0=zS a1 q.length c2/\f 3=i64 r/\aN G K (bB 9 K a1 c2 q::L) w) ?_ ?_)))))))
     ·rintro f f7 ⟨q,r,hm,a8,a9,b0⟩
      unfold fR at hm
      refine aB (aL (bG a8 (bG a9 ?_)));obtain ⟨f8,d7,hm⟩:=aC hm
      have d8:=aGm b0 (i:=0) rfl
      obtain ⟨f9,g0,b1⟩:=Cut.ex 1 a1 c2 r
      refine aA (aMI dL d8 b1 rfl rfl rfl d7) ?_;obtain ⟨b2,b3,hm⟩:=aC hm
      refine aON dL aCp rfl b0 (i:=0) rfl b1 rfl rfl b3 (fun b4 (b5:aN G K (bB 9 K a1 c2 b2::L) b4)=>(aG (aL (bG (v:=zS a1 b2.length c2) (Eq.trans a8 (congrArg (fun n=>zS a1 n c2) (ovw_len b3))) (bG a9 ?_)))));obtain ⟨V,b6,hm⟩:=aC hm
      have d9:=aGm b5 (i:=0) rfl
      obtain ⟨b7,b8,b9⟩:=Cut.ex 1 a1 c2 0
      refine aA (R_slVH dL d9 b9 rfl rfl rfl b6) (aD (v:=zS b7 V.length b8) (aG (aX (aZ (aK (aK (aK ?_)))))))
      have e0:=hr _ (zI hm).symm
      subst e0
      have hm:(some V)=some R:=ho
      clear hr ho
      have g1:aN G K (bB 9 K b7 b8 V::L) b4:=aN.cutP b5 (i:=0) rfl b6 b9
      exact cA
     obtain ⟨g2,e1,ho⟩:=aC hm
     refine mL [4] e1 (fun u x y f w=>f 0=zS a1 u.length c2/\f 3=i64 x/\f 5=i64 y/\aN G K (bB 9 K a1 c2 u::L) w) cA ?_
     ·rintro u x y e2 f g3 hm hr ⟨c0,c1,k,b⟩
      unfold fU at hm
      refine aO (aL (bG k (aI (v:=zS g e.length j) (aA (bQ (len:=e.length) dL rfl) (aA (cM rfl rfl) (aG ?_))))))
      rcases aH hm with ⟨c4,hm⟩|⟨c4,hm⟩
      ·refine aM c4 rfl (aW (aB (aO (bR [4,5] (fun f w=>∃ z Z,fT y z Z=some e2/\f 0=zS a1 z.length c2/\f 3=i64 Z/\aN G K (bB 9 K a1 c2 z::L) w) ?_ ?_))))
       ·rintro f g4 ⟨z,Z,hm,e3,e4,e5⟩
        unfold fT at hm
        exact aB (aV (bG k (aA (cD rfl rfl) (aD (v:=i64 (wr (y+1))) (aG ⟨_,(zI hm).symm,aU,e3,e4,rfl,e5⟩)))))
       refine aO (dB (C:=fun w'=>aN G K (bB 9 K a1 c2 u::L) w') cB (by kernel_rfl) (aN.mono b (dW.drew _)) (aY (fun _ b=>bJ (v:=zS g e.length j) rfl) (aY (fun _ b=>bJ k) ?_)));obtain ⟨g5,c5,hm⟩:=aC hm
       obtain ⟨c6,c7,hm⟩:=aC hm
       refine aY (fun _ b=>aOM dL d p m o rfl rfl rfl c5 rfl) (aY (fun _ b=>aDa (t:=0) fF b (i:=0) rfl c7 rfl rfl rfl) (aY (fun _ b=>bJ (v:=zS g e.length j) rfl) (aY (fun _ b=>bJ k) (aY (fun _ b=>fY rfl rfl) ?_))));obtain ⟨g6,e6,hm⟩:=aC hm
       obtain ⟨g7,e7,hm⟩:=aC hm
       refine aY (fun _ b=>aOM dL d p m o rfl rfl rfl e6 rfl) (aY (fun _ b=>aDa (t:=0) fF b (i:=0) rfl e7 rfl rfl rfl) (aY (fun _ b=>sP rfl rfl) (dH (fun g8 c8=>(aB ?_)))))
       rcases aH hm with ⟨c9,hm⟩|⟨c9,hm⟩
       ·refine aM c9 rfl (aL (bG c0 (bG c1 (aI (v:=zS g e.length j) (bG k (aA (aOM dL d p m o rfl rfl rfl c5 rfl) (aA (aDa (t:=0) fF c8 (i:=0) rfl c7 rfl rfl rfl) ?_)))))));obtain ⟨g9,d0,hm⟩:=aC hm
        refine aA (gE dL rfl d rfl rfl rfl d0) ?_;obtain ⟨d1,d2,hm⟩:=aC hm
        exact mU (i:=0) (t:=0) (ns:=[str c6]) (e':=(c6:bK)) sizeOf9 c8 rfl (Hp.le_refl _) rfl rfl rfl d0 d2 rfl rfl (dU rfl) rfl (fun cs h=>by cases h;rfl) (fun e8 (e9:aN G K (bB 9 K a1 c2 d1::L) e8)=>(aG (aV (bG c1 (aA (cD rfl rfl) (aD (v:=i64 (wr (x+1))) (cC (bM (aB ⟨aU,d1,wr (x+1),hm,(Eq.trans c0 (congrArg (fun n=>zS a1 n c2) (cH d2))),rfl,e9⟩)))))))))
       ·exact cA
      ·exact cA
    ·exact cA
   ·exact cA
theorem vT {s_:(List bK)} {a:bK} {R:Int} (hm:gT s_ a=some R) (d:aN G K (L) w) (e:cE K a1 c2 s_):
  Calls prog 130 ([zS a1 s_.length c2,str a]:List Value).toArray w (eR fun v w'=>v=i64 R/\aN G K (L) w'):=by
 refine aQ func130 rfl (by kernel_rfl) (by show (2:Nat)<=19;decide) ?_;unfold gT at hm
 refine aL (aD (v:=i64 0) (aG (aO (aL (aI (v:=zS a1 s_.length c2) (aA (bQ (len:=s_.length) dL rfl) (aI (v:=i64 0) (aG (bR [] (fun f w=>iG=some R/\aN G K (L) w) cA ?_)))))))));obtain ⟨g,b,ho⟩:=aC hm
 exact dS [0,1,7] b (fun c f w=>f 8=i64 c/\aN G K (L) w) cA cA
end Gv
namespace Gv
open Gv.Hp renaming le_refl→zR
open Go.Value renaming slice→zS,bool→zB,pointer→zP,agg→zA,tuple→zT
open Option.some renaming inj→zI
open Gv.Hp renaming le_trans→zL
open Go Go.Proofs Go.Proofs.Tryz
set_option maxRecDepth 20000
set_option maxHeartbeats 40000000
variable {G:pJ} {K Kf:Hp} {L:List hQ} {w:World} {a1 a4 a7 a10 a13 a3 a2 a5 a8:Option Addr} {c2 c5 c8 c11 c14 c4 b1 c3 c6 c9:Nat}
theorem aJp {b c:Int} {a0:(List bK)} {V:(List vQ)} {R:eP} (hm:i_lts b c a0 V=some R) (hs:aN G K (L) w) (h3:cE K a1 c2 a0) (h6:cE K a4 c5 V):
  Calls prog 89 ([i64 b,i64 c,zS a1 a0.length c2,zS a4 V.length c5]:List Value).toArray w (eR fun v w'=>∃ a8 a9 b0 b1,v=zA (zCa R a8 a9 b0 b1)/\aN G K (bB 9 K a8 a9 R.L::bB 130 K b0 b1 R.E::L) w'):=by
 let j:=zG
 refine aQ func89 rfl (by kernel_rfl) (by show (4:Nat)<=55;decide) ?_;unfold i_lts at hm
 refine aL (cR (vs:=j) zeroValue60 hs rfl (fun m w8 d2=>(aG (aL (aI (v:=i64 b) (aI (v:=i64 c) (eL (Kt:=K) (xs:=([([116,97,117]:bK)]:List bK)) (cs:=[str ([116,97,117]:bK)]) (vs:=[(0,str ([116,97,117]:bK))]) dL aCp rfl rfl d2 rfl (by kernel_rfl) rfl rfl rfl ⟨rfl,trivial⟩ (fun d3 d4 (d5:aN G K (bB 9 K d3 1 ([([116,97,117]:bK)]:List bK)::box m 60 j::L) d4)=>(aI (v:=zS a1 a0.length c2) ?_)))))))));obtain ⟨o,d6,hm⟩:=aC hm
 refine aDT (i:=0) dL underlying25 aCp rfl rfl d5 rfl (zR _) h3 d6 rfl rfl rfl rfl (fun k l d7 (d8:aN G K (bB 9 K k l o::box m 60 j::L) d7)=>(aA (iA (vs:=[(0,i64 b),(1,i64 c),(2,zS k o.length l)]) (cs:=[i64 b,i64 c,zS k o.length l,zS none 0 0]) bs_60 rfl (by kernel_rfl)) (cR (vs:=j) zeroValue60 d8 rfl (fun p h8 d9=>(cO (i:=0) (ns:=[i64 b,i64 c,zS k o.length l,zS none 0 0]) (us:=[i64 b,i64 c,zS k o.length l,zS none 0 0]) sizeOf60 d9 rfl rfl rfl rfl rfl (dU rfl) rfl rfl (fun b2 (b3:aN G K (box p 60 [i64 b,i64 c,zS k o.length l,zS none 0 0]::bB 9 K k l o::box m 60 j::L) b2)=>(aG (aL (aA (bA (t':=2) rD rfl rfl) (aA (bO jG b3 (i:=0) rfl rfl rfl) ?_))))))))))
 have e0:aN G K (bB 9 K k l o::box p 60 [i64 b,i64 c,zS k o.length l,zS none 0 0]::box m 60 j::L) b2:=(aN.arr 2 [1,0] b3 rfl)
 obtain ⟨a2,e1,hm⟩:=aC hm
 refine aT (vs:=[zS k o.length l,Value.func (.func 128) #[] #[]]) call127 rfl (lib_SortStr e0 e1) ?_
 rintro _ e2 ⟨rfl,e3,e4⟩
 have b4:aN G K (bB 9 K k l a2::box p 60 [i64 b,i64 c,zS k a2.length l,zS none 0 0]::box m 60 j::L) e2:=by rw [←e3];exact e4
 refine aG (aL (aA (bA (t':=2) rD rfl rfl) (aA (bO jG b4 (i:=1) rfl rfl rfl) ?_)));obtain ⟨d,e5,hm⟩:=aC hm
 refine aT (vs:=[zS k a2.length l]) call129 rfl (uL e5 b4) ?_
 rintro _ h9 ⟨e,g,rfl,e6⟩
 refine aA (bA (t':=2) rD rfl rfl) (cO (i:=1) (ns:=[zS e d.length g]) (us:=[i64 b,i64 c,zS e d.length g,zS none 0 0]) sizeOf25 e6 rfl rfl rfl rfl rfl (dU rfl) rfl rfl (fun e7 (e8:aN G K (bB 9 K e g d::box p 60 [i64 b,i64 c,zS e d.length g,zS none 0 0]::box m 60 j::L) e7)=>(aG (aO (aL (aI (v:=zS a4 V.length c5) (aA (bQ (len:=V.length) aFo rfl) (aI (v:=i64 0) (aG (bR [8,9] (fun f w=>∃ Z q r,aHB b c d Z=some R/\aN G K (bB 130 K q r Z::bB 9 K e g d::box p 60 [i64 b,i64 c,zS e d.length g,zS q Z.length r]::box m 60 j::L) w) ?_ ?_))))))))))
 ·rintro f i0 ⟨Z,q,r,hm,b5⟩
  unfold aHB at hm
  refine aB (aL (aA (bA (t':=3) nX rfl rfl) (aA (bO aEa b5 (i:=2) rfl rfl rfl) ?_)));obtain ⟨b6,e9,hm⟩:=aC hm
  refine aT (vs:=[zS q Z.length r,Value.func (.func 132) #[] #[]]) call131 rfl (lib_SortEdge b5 e9) ?_
  rintro _ f0 ⟨rfl,f1,f2⟩
  have i1:aN G K (bB 130 K q r b6::bB 9 K e g d::box p 60 [i64 b,i64 c,zS e d.length g,zS q b6.length r]::box m 60 j::L) f0:=by rw [←f1];exact f2
  exact cA
 have i2:=aN.nil (α:=Edge) e8 130 K
 obtain ⟨i3,f3,ho⟩:=aC hm
 refine dN [8,9,25,26] f3 (fun u b8 f w=>∃ x y,f 27=i64 b8/\aN G K (bB 130 K x y u::bB 9 K e g d::box p 60 [i64 b,i64 c,zS e d.length g,zS x u.length y]::box m 60 j::L) w) cA ?_
 ·rintro u b8 i4 f i5 hm hr ⟨x,y,b9,c0⟩
  unfold aHC at hm
  refine aL (aA (cM b9 rfl) (aG (aO ?_)))
  rcases aH hm with ⟨c1,hm⟩|⟨c1,hm⟩
  ·refine aM c1 rfl (aW (aB (aO (bZ (aL ?_)))));obtain ⟨a,c3,hm⟩:=aC hm
   refine aA (cQ aFo rfl h6 rfl rfl b9 c3) ?_;obtain ⟨i6,f4,f5⟩:=cE.el (sz:=3) rfl h6 c3
   cases f5
   refine aA (eK (t:=0) (vs:=[i64 a.from_,str a.label,i64 a.to_]) ag_146 c0 f4 rfl rfl rfl) (cR (vs:=[i64 0,str ([]:bK),i64 0]) zeroValue146 c0 rfl (fun f6 i7 f7=>(cO (i:=0) (ns:=[i64 a.from_,str a.label,i64 a.to_]) (us:=[i64 a.from_,str a.label,i64 a.to_]) sizeOf146 f7 rfl rfl rfl rfl rfl (dU rfl) rfl rfl (fun f8 (f9:aN G K (box f6 146 [i64 a.from_,str a.label,i64 a.to_]::bB 130 K x y u::bB 9 K e g d::box p 60 [i64 b,i64 c,zS e d.length g,zS x u.length y]::box m 60 j::L) f8)=>(aG ?_)))))
   obtain ⟨i8,a3,a5,g0,i9⟩:=aN.lendBp f9 .head
   obtain ⟨a6,z,c4,c6,g1⟩:=aN.lendBp g0 zt2
   refine jJ (C:=fun w'=>∃ L',aN G a6 L' w') [(0,0),(1,0),(2,0),(3,0),(4,0),(5,0),(6,0),(7,0),(9,0),(10,0),(8,1),(11,0),(12,1),(13,1),(14,0),(15,2)] cB (by kernel_rfl) (fun _ hg=>⟨_,aN.mono c6 hg⟩) (fun j0 g2=>?_)
   have n:=aN.mono c6 g2
   refine dV rfl (fun _ _=>bA (t':=3) nX rfl rfl) (dV rfl (fun _ ⟨_,n⟩=>bX (t:=3) aEa n c4 rfl rfl) (dV rfl (fun _ _=>bA (t':=0) aTe rfl rfl) (dV rfl (fun _ ⟨_,n⟩=>bX (t:=0) dC n (a5.mono z) rfl rfl) (dV rfl (fun _ _=>bA (t':=2) rD rfl rfl) (dV rfl (fun _ ⟨_,n⟩=>bX (t:=2) jG n c4 rfl rfl) (dV rfl (fun _ _=>bA (t':=1) aQP rfl rfl) (dV rfl (fun _ ⟨_,n⟩=>bX (t:=1) fF n (a5.mono z) rfl rfl) (dV rfl (fun _ _=>bA (t':=2) aTf rfl rfl) (dV rfl (fun _ ⟨_,n⟩=>bX (t:=2) dC n (a5.mono z) rfl rfl) (pP rfl ?_))))))))))
   obtain ⟨j1,j2,g3,g4,g5⟩:=aN.lendSp n (zL a3 z) zt1
   obtain ⟨J,g6,hm⟩:=aC hm
   refine aT (vs:=[zS e d.length g,str a.label]) call130 rfl (vT g6 g4 g3) ?_
   rintro _ j3 ⟨rfl,g7⟩
   have c7:=g5 _ _ g7
   refine cC (aB ⟨⟨_,c7⟩,?_⟩)
   refine dV rfl (fun _ _=>iA (vs:=[(0,i64 a.from_),(1,i64 J),(2,i64 a.to_)]) (cs:=[i64 a.from_,i64 J,i64 a.to_]) aSk rfl (by kernel_rfl)) (pP rfl (eL (Kt:=K) (xs:=([⟨a.from_,J,a.to_⟩]:List Edge)) (cs:=[i64 a.from_,i64 J,i64 a.to_]) (vs:=[(0,zA #[i64 a.from_,i64 J,i64 a.to_])]) iI aGn rfl rfl c7 rfl (by kernel_rfl) rfl rfl rfl ⟨rfl,trivial⟩ (fun g8 g9 (c8:aN G a6 (bB 130 K g8 1 ([⟨a.from_,J,a.to_⟩]:List Edge)::bB 9 K e g d::bB 130 K x y u::box m 60 j::L) g9)=>(cC (aB ⟨⟨_,c8⟩,?_⟩)))))
   refine pP rfl ?_;obtain ⟨h0,h1,hm⟩:=aC hm
   refine lL (i:=1) iI underlying58 aGn rfl rfl c8 rfl (zL a3 z) (zL a3 z) h1 rfl rfl rfl rfl (fun _ h=>h) (fun h2 h4 h5 (c9:aN G a6 (bB 9 K e g d::bB 130 K h2 h4 h0::box m 60 j::L) h5)=>(cC (aB ⟨⟨_,c9⟩,?_⟩)))
   refine dV rfl (fun _ _=>bA (t':=3) nX rfl rfl) ?_
   have j4:=g1 _ _ c9
   exact cA
  ·exact cA
theorem aGV {a:(List vQ)} {R:(List bK)} (hm:aBx a=some R) (k:aN G K (L) w) (n:cE K a1 c2 a):
  Calls prog 90 ([zS a1 a.length c2]:List Value).toArray w (eR fun v w'=>∃ c d,v=zS c R.length d/\aN G K (bB 9 K c d R::L) w'):=by
 refine aQ func90 rfl (by kernel_rfl) (by show (1:Nat)<=19;decide) ?_;unfold aBx at hm
 refine aL (aD (v:=zS none 0 0) (aG (aL (aD (v:=zS none 0 0) (aG (aO (aL (aI (v:=zS a1 a.length c2) (aA (bQ (len:=a.length) aFo rfl) (aI (v:=i64 0) (aG (bR [] (fun f w=>∃ b e g,aCe b=some R/\f 3=zS e b.length g/\aN G K (bB 9 K e g b::L) w) cA ?_))))))))))))
 have o:=aN.nil (α:=bK) k 9 K
 obtain ⟨p,l,ho⟩:=aC hm
 exact dN [6,7] l (fun h m f w=>∃ i j,f 3=zS i h.length j/\f 8=i64 m/\aN G K (bB 9 K i j h::L) w) cA cA
theorem yL {t:eP} {k:Int} {R:Bool} (hm:pF t k=some R) (a:aN G K (L) w) (b:cE K a1 c2 t.L) (c:cE K a4 c5 t.E):
  Calls prog 134 ([zA (zCa t a1 c2 a4 c5),i64 k]:List Value).toArray w (eR fun v w'=>v=zB R/\aN G K (L) w'):=by
 exact cA
theorem aLR {t:eP} {R:Bool} (hm:aEq t=some R) (y:aN G K (L) w) (hG:G.lo=0) (k:cE K a1 c2 t.L) (l:cE K a4 c5 t.E):
  Calls prog 91 ([zA (zCa t a1 c2 a4 c5)]:List Value).toArray w (eR fun v w'=>v=zB R/\aN G K (L) w'):=by
 let b:=(zC t a1 c2 a4 c5)
 refine aQ func91 rfl (by kernel_rfl) (by show (1:Nat)<=109;decide) ?_;unfold aEq at hm
 refine aL (dQ (v:=zA (zCa t a1 c2 a4 c5)) (vs:=b) y rfl rfl (fun c w8 b6=>(aD (v:=zB false) (aG (aO (aO (cW [1] (fun f w=>∃ g,pH t g=some R/\f 30=zB g/\aN G K (box c 60 b::L) w) ?_ ?_)))))))
 ·rintro f b8 ⟨g,hm,z,J⟩
  unfold pH at hm
  refine aB ?_
  rcases aH hm with ⟨m,hm⟩|⟨m,hm⟩
  ·exact cA
  ·refine aJ m z (aW (aB (aO (aL (aA (bA (t':=2) rD rfl rfl) (aA (bO jG J (i:=0) rfl rfl rfl) (aA (bQ (len:=t.L.length) dL rfl) (aI (v:=i64 0) (aG (bR [1] (fun f w=>wY t=some R/\aN G K (box c 60 b::L) w) ?_ ?_))))))))))
   ·rintro f b9 ⟨hm,V⟩
    unfold wY at hm
    refine aB (aO (aL (aA (bA (t':=3) nX rfl rfl) (aA (bO aEa V (i:=0) rfl rfl rfl) (aA (bQ (len:=t.E.length) iI rfl) (aI (v:=i64 0) (aG (bR [] (fun f w=>aCf=some R/\aN G K (L) w) cA ?_))))))));obtain ⟨c0,Z,ho⟩:=aC hm
    refine dS [1,65,66] Z (fun d f w=>f 67=i64 d/\aN G K (box c 60 b::L) w) cA ?_
    ·rintro d a0 f c1 hm hr ⟨h,n⟩
     unfold wX at hm
     refine aL (aA (cM h rfl) (aG (aO ?_)))
     rcases aH hm with ⟨o,hm⟩|⟨o,hm⟩
     ·refine aM o rfl (aW (aB (aO (bZ (aL (bG h ?_))))));obtain ⟨a,p,hm⟩:=aC hm
      refine aA (cQ iI rfl l rfl rfl h p) ?_;obtain ⟨c3,a2,a3⟩:=cE.el (sz:=3) rfl l p
      cases a3
      exact aA (eK (t:=0) (vs:=[i64 a.F,i64 a.B,i64 a.To]) tI n a2 rfl rfl rfl) (cR (vs:=[i64 0,i64 0,i64 0]) zeroValue130 n rfl (fun a5 c4 a6=>(aD (v:=i64 d) (cO (i:=0) (ns:=[i64 a.F,i64 a.B,i64 a.To]) (us:=[i64 a.F,i64 a.B,i64 a.To]) sizeOf130 a6 rfl rfl rfl rfl rfl (dU rfl) rfl rfl (fun a7 (c6:aN G K (box a5 130 [i64 a.F,i64 a.B,i64 a.To]::box c 60 b::L) a7)=>(aG (aO (cW [1,65,66,67] (fun f w=>∃ q,nB d q=some a0/\f 107=zB q/\aN G K (box c 60 b::L) w) cA cA))))))))
     ·exact cA
   obtain ⟨c7,a8,ho⟩:=aC hm
   refine dS [1,32,33] a8 (fun e f w=>f 34=i64 e/\aN G K (box c 60 b::L) w) cA ?_
   ·rintro e a9 f c8 hm hr ⟨j,b0⟩
    unfold wZ at hm
    refine aL (aA (cM j rfl) (aG (aO ?_)))
    rcases aH hm with ⟨r,hm⟩|⟨r,hm⟩
    ·refine aM r rfl (aW (aB (aO (bZ (aL (bG j ?_))))));obtain ⟨b1,u,hm⟩:=aC hm
     refine aA (cQ dL rfl k rfl rfl j u) ?_;obtain ⟨c9,b2,b3⟩:=cE.el (sz:=1) rfl k u
     cases b3
     exact aA (bX (t:=0) fF b0 b2 rfl rfl) (aD (v:=i64 e) (aD (v:=str b1) (aG (aO (cW [1,32,33,34] (fun f w=>∃ x,pG e x=some a9/\f 62=zB x/\aN G K (box c 60 b::L) w) cA cA)))))
    ·exact cA
 exact cA
theorem jT {s_ R:(List Int)} (hm:eG s_=some R) (h:aN G K (L) w) (c:cE K a1 c2 s_):
  Calls prog 92 ([zS a1 s_.length c2]:List Value).toArray w (eR fun v w'=>∃ d e,v=zS d R.length e/\aN G K (bB 2 K d e R::L) w'):=by
 refine aQ func92 rfl (by kernel_rfl) (by show (1:Nat)<=8;decide) ?_;unfold eG at hm
 refine aL (aD (v:=zS none 0 0) (aG (aO (aL (aI (v:=zS a1 s_.length c2) (aA (aPF gF rfl rfl) (aG ?_)))))))
 rcases aKz c with ⟨j,k,l⟩|m
 ·subst j;subst k;subst l
  refine aMv rfl ?_
  replace hm:(some [])=some R:=hm
  exact cA
 ·refine aMw (Eq.trans rfl (congrArg zB m)) (aW (aB (aL (eL (Kt:=K) (xs:=([]:List Int)) (cs:=[]) (vs:=[]) gF aFx rfl rfl h rfl (by kernel_rfl) rfl rfl rfl trivial (fun n o (p:aN G K (bB 2 K n 0 ([]:List Int)::L) o)=>(aI (v:=zS a1 s_.length c2) ?_))))));obtain ⟨g,q,hm⟩:=aC hm
  refine aDT (i:=0) gF underlying78 aFx rfl rfl p rfl (zR _) c q rfl rfl rfl rfl (fun a b r (t:aN G K (bB 2 K a b g::L) r)=>(aD (v:=zS a g.length b) (aG ?_)));obtain rfl:=zI hm
  exact aX (aP results92 rfl ⟨a,b,rfl,t⟩)
theorem aIG {s_:cP} {R:(List bS)} (hm:tX s_=some R) (hs:aN G K (L) w) (h3:cE K a1 c2 s_.Definitions) (V:cE K a4 c5 s_.Components) (h9:cE K a7 c8 s_.Meetings) (e6:cE K a10 c11 s_.Allowed) (e7:cE K a13 c14 s_.Hidden):
  Calls prog 50 ([zA #[zS a1 s_.Definitions.length c2,zS a4 s_.Components.length c5,zS a7 s_.Meetings.length c8,zS a10 s_.Allowed.length c11,zS a13 s_.Hidden.length c14]]:List Value).toArray w (eR fun v w'=>∃ Z a0 p,v=zS Z R.length a0/\List.length p=List.length R/\aN G K (bB 100 K Z a0 (bT p R)::rows [2] p R::L) w'):=by
 let a2:=[zS a1 s_.Definitions.length c2,zS a4 s_.Components.length c5,zS a7 s_.Meetings.length c8,zS a10 s_.Allowed.length c11,zS a13 s_.Hidden.length c14]
 refine aQ func50 rfl (by kernel_rfl) (by show (1:Nat)<=24;decide) ?_;unfold tX at hm
 refine aL (dQ (v:=zA #[zS a1 s_.Definitions.length c2,zS a4 s_.Components.length c5,zS a7 s_.Meetings.length c8,zS a10 s_.Allowed.length c11,zS a13 s_.Hidden.length c14]) (vs:=a2) hs rfl rfl (fun b9 c0 a3=>(aD (v:=zS none 0 0) (aG (aL (aD (v:=zS none 0 0) (aG (aO (aL (aA (bA (t':=1) mD rfl rfl) (aA (bO aBn a3 (i:=0) rfl rfl rfl) (aA (bQ (len:=s_.Components.length) oJ rfl) (aI (v:=i64 0) (aG (bR [] (fun f w=>∃ k a5 a6 q,sZ k=some R/\f 3=zS a5 k.length a6/\List.length q=List.length k/\aN G K (bB 100 K a5 a6 (bT q k)::rows [2] q k::L) w) cA ?_)))))))))))))))
 have c1:aN G K (bB 100 K none 0 (bT ([]:List (Dp.Hd bS)) ([]:List bS))::rows [2] ([]:List (Dp.Hd bS)) ([]:List bS)::box b9 38 a2::L) c0:=aN.nil (α:=Cells _) (aN.rowsNil (α:=bS) (tys:=[2]) a3) 100 K
 obtain ⟨e8,c3,ho⟩:=aC hm
 refine dN [7,8] c3 (fun e r f w=>∃ h j b,f 3=zS h e.length j/\f 9=i64 r/\List.length b=List.length e/\aN G K (bB 100 K h j (bT b e)::rows [2] b e::L) w) ?_ ?_
 ·exact ⟨none,0,[],rfl,rfl,rfl,(aN.arr 3 [0,1] c1 rfl)⟩
 ·rintro e r e9 f f0 hm hr ⟨h,j,b,c4,u,a8,a9⟩
  unfold oT at hm
  refine aL (aA (cM u rfl) (aG (aO ?_)))
  rcases aH hm with ⟨b0,hm⟩|⟨b0,hm⟩
  ·refine aM b0 rfl (aW (aB (aO (bZ (aL ?_)))));obtain ⟨a,b1,hm⟩:=aC hm
   refine aA (cQ oJ rfl V rfl rfl u b1) ?_;obtain ⟨f1,c6,c7⟩:=cE.el (sz:=2) rfl V b1
   obtain ⟨l,m,rfl,c9⟩:=c7
   refine aA (eK (t:=0) (vs:=[i64 a.Definition,zS l a.Values.length m]) aHo a9 c6 rfl rfl rfl) (cR (vs:=[i64 0,zS none 0 0]) zeroValue91 a9 rfl (fun d0 f2 d1=>(cO (i:=0) (ns:=[i64 a.Definition,zS l a.Values.length m]) (us:=[i64 a.Definition,zS l a.Values.length m]) sizeOf91 d1 rfl rfl rfl rfl rfl (dU rfl) rfl rfl (fun d2 (d3:aN G K (box d0 91 [i64 a.Definition,zS l a.Values.length m]::bB 100 K h j (bT b e)::rows [2] b e::L) d2)=>(aG ?_)))))
   obtain ⟨o,d4,b2,b3,d5⟩:=aN.lendBp d3 .head
   refine jJ (C:=fun w'=>∃ L',aN G o L' w') [(0,0),(1,0),(2,0),(3,0),(4,0),(5,1),(6,0),(7,1),(8,1),(9,0)] cB (by kernel_rfl) (fun _ hg=>⟨_,aN.mono b3 hg⟩) (fun f3 d6=>?_)
   have n:=aN.mono b3 d6
   refine dV rfl (fun _ _=>bJ c4) (dV rfl (fun _ _=>bA (t':=0) aBM rfl rfl) (dV rfl (fun _ ⟨_,n⟩=>bX (t:=0) dC n b2 rfl rfl) (dV rfl (fun _ _=>bA (t':=1) xM rfl rfl) (dV rfl (fun _ ⟨_,n⟩=>bX (t:=1) aCq n b2 rfl rfl) (pP rfl ?_)))));obtain ⟨g,d7,hm⟩:=aC hm
   refine aT (vs:=[zS l a.Values.length m]) call92 rfl (jT d7 n (c9.mono d4)) ?_
   rintro _ d8 ⟨c,d,rfl,b4⟩
   refine cC (aB ⟨⟨_,b4⟩,?_⟩)
   refine dV rfl (fun _ _=>iA (vs:=[(0,i64 a.Definition),(1,i64 0),(2,zS c g.length d)]) (cs:=[i64 a.Definition,i64 0,zS c g.length d]) aKC rfl (by kernel_rfl)) (pP rfl ?_)
   have d9:aN G o (rows [2] ([(c,d)]:List (Dp.Hd bS)) ([⟨a.Definition,0,g⟩]:List bS)::bB 100 K h j (bT b e)::rows [2] b e::L) d8:=aN.rowsOneS (tys:=[2]) (hd:=((c,d):Dp.Hd bS)) (x:=(⟨a.Definition,0,g⟩:bS)) b4
   refine eL (Kt:=K) (xs:=bT ([(c,d)]:List (Dp.Hd bS)) ([⟨a.Definition,0,g⟩]:List bS)) (cs:=[i64 a.Definition,i64 0,zS c g.length d]) (vs:=[(0,zA #[i64 a.Definition,i64 0,zS c g.length d])]) sT aFn rfl rfl d9 rfl (by kernel_rfl) rfl rfl rfl ⟨rfl,trivial⟩ ?_
   intro e0 e1 (b5:aN G o (bB 100 K e0 1 (bT ([(c,d)]:List (Dp.Hd bS)) ([⟨a.Definition,0,g⟩]:List bS))::rows [2] ([(c,d)]:List (Dp.Hd bS)) ([⟨a.Definition,0,g⟩]:List bS)::bB 100 K h j (bT b e)::rows [2] b e::L) e1)
   refine cC (aB ⟨⟨_,b5⟩,?_⟩)
   refine pP rfl ?_;obtain ⟨y,b6,hm⟩:=aC hm
   refine WO_appD (i:=0) (tys:=[2]) (hds:=b) (hds2:=([(c,d)]:List (Dp.Hd bS))) sT underlying96 aFn rfl rfl b5 a8 rfl rfl rfl b6 rfl rfl rfl rfl ?_
   intro z J e2 (b7:aN G o (bB 100 K z J (bT (b++([(c,d)]:List (Dp.Hd bS))) y)::rows [2] (b++([(c,d)]:List (Dp.Hd bS))) y::L) e2)
   refine cC (aB ⟨⟨_,b7⟩,?_⟩)
   refine dV rfl (fun _ _=>gM (v:=zS z y.length J) rfl) (sQ ?_)
   have e3:=d5 _ _ b7
   exact bM (aB (aV (aA (cD u rfl) (aI (v:=i64 (wr (r+1))) (aG ⟨_,(zI hm).symm,aU,z,J,(b++([(c,d)]:List (Dp.Hd bS))),rfl,rfl,(aPz a8 rfl b6),(aN.arr 1 [] e3 rfl)⟩)))))
  ·exact cA
theorem aKO {n:Int} {R:Bool} (hm:aFe n=some R) (a:aN G K (L) w):
  Calls prog 230 ([i64 n]:List Value).toArray w (eR fun v w'=>v=zB R/\aN G K (L) w'):=by
 exact cA
theorem sE {s_:(List Int)} {R:Int} (hm:hJ s_=some R) (m:aN G K (L) w) (b:cE K a1 c2 s_):
  Calls prog 200 ([zS a1 s_.length c2,Value.func (.func 230) #[] #[]]:List Value).toArray w (eR fun v w'=>v=i64 R/\aN G K (L) w'):=by
 refine aQ func200 rfl (by kernel_rfl) (by show (2:Nat)<=19;decide) ?_;unfold hJ at hm
 refine aL (aD (v:=i64 0) (aG (aO (aL (aI (v:=zS a1 s_.length c2) (aA (bQ (len:=s_.length) gF rfl) (aI (v:=i64 0) (aG (bR [] (fun f w=>gI=some R/\aN G K (L) w) cA ?_)))))))));obtain ⟨n,i,ho⟩:=aC hm
 refine dS [0,1,7] i (fun a f w=>f 8=i64 a/\aN G K (L) w) cA ?_
 ·rintro a o f p hm hr ⟨c,d⟩
  unfold fK at hm
  refine aL (aA (cM c rfl) (aG (aO ?_)))
  rcases aH hm with ⟨e,hm⟩|⟨e,hm⟩
  ·refine aM e rfl (aW (aB (aO (bZ (aL (bG c (aD (v:=i64 a) (aG (aL (aI (v:=Value.func (.func 230) #[] #[]) (aI (v:=zS a1 s_.length c2) (aI (v:=i64 a) ?_))))))))))));obtain ⟨g,h,hm⟩:=aC hm
   refine aA (cQ gF rfl b rfl rfl rfl h) ?_;obtain ⟨q,j,k⟩:=cE.el (sz:=1) rfl b h
   cases k
   refine aA (bX (t:=0) dC d j rfl rfl) ?_;obtain ⟨r,l,hm⟩:=aC hm
   exact rQ (vs:=[i64 g]) (caps:=[]) (us:=[i64 g]) rfl call230 rfl rfl (aKO l d) cA
  ·exact cA
theorem qV {s_:(List Int)} {R:Bool} (hm:fL s_=some R) (a:aN G K (L) w) (b:cE K a1 c2 s_):
  Calls prog 166 ([zS a1 s_.length c2,Value.func (.func 230) #[] #[]]:List Value).toArray w (eR fun v w'=>v=zB R/\aN G K (L) w'):=by
 exact cA
theorem aOb {a:(List Int)} {R:Bool} (hm:aHD a=some R) (c:aN G K (L) w) (d:cE K a1 c2 a):
  Calls prog 179 ([zS a1 a.length c2]:List Value).toArray w (eR fun v w'=>v=zB R/\aN G K (L) w'):=by
 refine aQ func179 rfl (by kernel_rfl) (by show (1:Nat)<=11;decide) ?_;unfold aHD at hm
 exact aL (aD (v:=zB false) (aG (aO (cW [] (fun f w=>∃ b,aFf b=some R/\f 2=zB b/\aN G K (L) w) cA cA))))
theorem aLS {a:(List Int)} {R:bK} (hm:aEr a=some R) (b:aN G K (L) w) (c:G.lo=0) (d:cE K a1 c2 a):
  Calls prog 137 ([zS a1 a.length c2]:List Value).toArray w (eR fun v w'=>v=str R/\aN G K (L) w'):=by
 exact cA
theorem aKP {p:bS} {R:bK} (hm:aFg p=some R) (a:aN G K (L) w) (b:G.lo=0) (c:cE K a1 c2 p.Values):
  Calls prog 94 ([zA #[i64 p.Definition,i64 p.Part,zS a1 p.Values.length c2]]:List Value).toArray w (eR fun v w'=>v=str R/\aN G K (L) w'):=by
 exact cA
theorem aGW {p:bS} {R:bK} (hm:aBy p=some R) (a:aN G K (L) w) (b:G.lo=0) (c:cE K a1 c2 p.Values):
  Calls prog 51 ([zA #[i64 p.Definition,i64 p.Part,zS a1 p.Values.length c2]]:List Value).toArray w (eR fun v w'=>v=str R/\aN G K (L) w'):=by
 exact cA
theorem aJZ {rec_:(List bP)->Option ((Tr bP) × (List bP))} (ih:∀ {G:pJ} {K:Hp} {L:List hQ} {w:World} {e:(List bP)} {a1:Option Addr} {c2:Nat} {R:((Tr bP) × (List bP))} (hm:rec_ e=some R) (hs:aN G K (L) w) (g:cE K a1 c2 e),
  Calls prog 232 ([zS a1 e.length c2]:List Value).toArray w (eR fun v w'=>∃ c r u x,v=zT #[eJ r 0,zS u R.2.length x]/\Hp.le K c/\trd c R.1 r/\cE c u x R.2/\aN G c (L) w'))
  {G:pJ} {K:Hp} {L:List hQ} {w:World} {e:(List bP)} {a1:Option Addr} {c2:Nat} {R:((Tr bP) × (List bP))} (hm:mW rec_ e=some R) (hs:aN G K (L) w) (g:cE K a1 c2 e):
  Calls prog 232 ([zS a1 e.length c2]:List Value).toArray w (eR fun v w'=>∃ c r u x,v=zT #[eJ r 0,zS u R.2.length x]/\Hp.le K c/\trd c R.1 r/\cE c u x R.2/\aN G c (L) w'):=by
 refine aQ func232 rfl (by kernel_rfl) (by show (1:Nat)<=38;decide) ?_;unfold mW at hm
 refine aL (aD (v:=zP none) (aD (v:=zS none 0 0) (aG (aL (aI (v:=zS a1 e.length c2) ?_)))));obtain ⟨a,q5,hm⟩:=aC hm
 refine aA (cQ lE rfl g rfl rfl rfl q5) ?_;obtain ⟨g1,b6,c9⟩:=cE.el (sz:=2) rfl g q5
 cases c9
 refine aA (eK (t:=0) (vs:=[i64 a.Kind,i64 a.Value]) aGo hs b6 rfl rfl rfl) (aA (iA (vs:=[(0,zA #[i64 a.Kind,i64 a.Value])]) (cs:=[i64 a.Kind,i64 a.Value,zS none 0 0]) bs_291 rfl (by kernel_rfl)) (dQ (v:=zA #[i64 a.Kind,i64 a.Value,zS none 0 0]) (vs:=[i64 a.Kind,i64 a.Value,zS none 0 0]) hs rfl rfl (fun b g2 b7=>(aD (v:=zP (some ⟨b,0,none⟩)) (aG (aL (aI (v:=zS a1 e.length c2) ?_)))))));obtain ⟨d0,b8,hm⟩:=aC hm
 obtain ⟨d1,d2,c0⟩:=Cut.ex 2 a1 c2 1
 have g3:=cE.cut' g b8 c0
 refine aA (aMI lE g.room c0 rfl rfl rfl b8) (aD (v:=zS d1 d0.length d2) (aG (aO (aL (aI (v:=zS a1 e.length c2) (aA (cQ lE rfl g rfl rfl rfl q5) (aA (eK (t:=0) (vs:=[i64 a.Kind,i64 a.Value]) aGo b7 b6 rfl rfl rfl) ?_)))))));obtain ⟨g4,d3,hm⟩:=aC hm
 refine aT (vs:=[zA #[i64 a.Kind,i64 a.Value]]) call248 rfl (aCR d3 b7) ?_
 rintro _ g5 ⟨rfl,d4⟩
 refine aI (v:=i64 0) (aG (bR [4] (fun f w=>∃ y j z a0 a2 J V,Hp.le K y/\aCg a j z=some R/\f 5=zS J z.length V/\cE y J V z/\aN G y (bB 237 y a0 a2 j::box b 291 [i64 a.Kind,i64 a.Value,zS a0 j.length a2]::L) w) ?_ ?_))
 ·rintro f c1 ⟨y,j,z,a0,a2,J,V,d5,hm,d6,d7,d8⟩
  unfold aCg at hm
  refine aB (aL (aI (v:=zP (some ⟨b,0,none⟩)) (bG d6 (aD (v:=zP (some ⟨b,0,none⟩)) (aD (v:=zS J z.length V) (aG ?_))))));obtain ⟨d9,c3,e0,a9⟩:=aN.giveSp d8 (zR _) .head
  replace a9:aN G d9 (box b 291 [i64 a.Kind,i64 a.Value,zS a0 j.length a2]::L) c1:=a9
  obtain ⟨b0,b1,e1,b2,_⟩:=aN.lendBp a9 .head
  replace b2:aN G b0 (L) c1:=b2
  have e2:trd b0 (Tr.mk a j) (some ⟨b,0,none⟩):=trd_mk e1 (e0.mono b1)
  obtain rfl:=zI hm
  exact aX (nZ results232 rfl rfl ⟨b0,(some ⟨b,0,none⟩),J,V,(tp2 (elp_b rfl) rfl),(zL (zL d5 c3) b1),e2,(d7.mono (zL c3 b1)),b2⟩)
 have g6:=aN.nil (α:=(Tr bP)) d4 237 K
 obtain ⟨g7,e5,ho⟩:=aC hm
 refine mL [4,17] e5 (fun k a3 b3 f w=>∃ l m n a4 a5,Hp.le K l/\f 5=zS a4 a3.length a5/\f 18=i64 b3/\cE l a4 a5 a3/\aN G l (bB 237 l m n k::box b 291 [i64 a.Kind,i64 a.Value,zS m k.length n]::L) w) cA ?_
 ·rintro k a3 b3 g8 f g9 hm hr ⟨l,m,n,a4,a5,e6,e7,c4,e8,e9⟩
  unfold xA at hm
  refine aL (aA (cM c4 rfl) (aG (aO ?_)))
  rcases aH hm with ⟨c5,hm⟩|⟨c5,hm⟩
  ·refine aM c5 rfl (aW (aB (aO (bZ (aL (aD (v:=zP none) (aG (aL (bG e7 ?_)))))))));obtain ⟨a6,f0,hm⟩:=aC hm
   refine aT (vs:=[zS a4 a3.length a5]) call232 rfl (ih f0 e9 e8) ?_
   rintro _ h0 ⟨d,o,b4,b5,rfl,c6,f1,f2,c7⟩
   refine aI (v:=zT #[eJ o 0,zS b4 a6.2.length b5]) (aA (dF rfl rfl) (aA (dF rfl rfl) (aD (v:=eJ o 0) (aD (v:=zS b4 a6.2.length b5) (aG (aV (aI (v:=zP (some ⟨b,0,none⟩)) (aI (v:=zP (some ⟨b,0,none⟩)) (aA (lS rfl) (aA (bA (t':=2) aHv rfl rfl) (aA (bO aPM c7 (i:=1) rfl rfl rfl) (aI (v:=eJ o 0) (eL (Kt:=d) (xs:=([a6.1]:List (Tr bP))) (cs:=[eJ o 0]) (vs:=[(0,eJ o 0)]) aMK ez_237 rfl rfl c7 rfl (by kernel_rfl) rfl rfl rfl ⟨⟨o,rfl,f1⟩,trivial⟩ (fun f3 f4 (f5:aN G d (bB 237 d f3 1 ([a6.1]:List (Tr bP))::bB 237 l m n k::box b 291 [i64 a.Kind,i64 a.Value,zS m k.length n]::L) f4)=>?_))))))))))))))
   obtain ⟨Z,f6,hm⟩:=aC hm
   exact aBJ (i:=0) d aMK underlying289 ez_237 rfl rfl f5 rfl c6 (zR _) f6 rfl rfl rfl rfl (fun _ _ _ h=>El.one h) (fun p q f7 (f8:aN G d (bB 237 d p q Z::box b 291 [i64 a.Kind,i64 a.Value,zS m k.length n]::L) f7)=>(aA (lS rfl) (aA (bA (t':=2) aHv rfl rfl) (cO (i:=1) (ns:=[zS p Z.length q]) (us:=[i64 a.Kind,i64 a.Value,zS p Z.length q]) sizeOf289 f8 rfl rfl rfl rfl rfl (dU rfl) rfl rfl (fun f9 (g0:aN G d (bB 237 d p q Z::box b 291 [i64 a.Kind,i64 a.Value,zS p Z.length q]::L) f9)=>(cC (bM (aB (aV (aA (cD c4 rfl) (aI (v:=i64 (wr (b3+1))) (aG ⟨_,(zI hm).symm,aU,d,p,q,b4,b5,(zL e6 c6),rfl,rfl,f2,g0⟩))))))))))))
  ·exact cA
theorem aKa (n:Nat):∀ {G:pJ} {K:Hp} {L:List hQ} {w:World} {e:(List bP)} {a1:Option Addr} {c2:Nat} {R:((Tr bP) × (List bP))} (hm:mX n e=some R) (a:aN G K (L) w) (b:cE K a1 c2 e),
  Calls prog 232 ([zS a1 e.length c2]:List Value).toArray w (eR fun v w'=>∃ c d g h,v=zT #[eJ d 0,zS g R.2.length h]/\Hp.le K c/\trd c R.1 d/\cE c g h R.2/\aN G c (L) w'):=by
 induction n with
 |zero=>
  intro G K L w e a1 c2 R hm a b
  unfold mX at hm
  cases hm
 |succ n ih=>
  intro G K L w e a1 c2 R hm a b
  exact aJZ (rec_:=mX n) (fun hm a b=>ih hm a b) hm a b
theorem aLT {e:(List bP)} {R:((Tr bP) × (List bP))} (hm:aJe e=some R) (hs:aN G K (L) w) (h3:cE K a1 c2 e):
  Calls prog 232 ([zS a1 e.length c2]:List Value).toArray w (eR fun v w'=>∃ K' ra1 ra2 rc2,v=zT #[eJ ra1 0,zS ra2 R.2.length rc2]/\Hp.le K K'/\trd K' R.1 ra1/\cE K' ra2 rc2 R.2/\aN G K' (L) w'):=aKa 100000 hm hs h3
theorem aQX {e:(List bP)} {R:(Tr bP)} (hm:aPO e=some R) (c:aN G K (L) w) (d:cE K a1 c2 e):
  Calls prog 182 ([zS a1 e.length c2]:List Value).toArray w (eR fun v w'=>∃ a b,v=eJ b 0/\Hp.le K a/\trd a R b/\aN G a (L) w'):=by
 exact cA
theorem mZ {is:Bool} {R:Int} (hm:xZ is=some R) (a:aN G K (L) w):
  Calls prog 233 ([zB is]:List Value).toArray w (eR fun v w'=>v=i64 R/\aN G K (L) w'):=by
 exact cA
theorem aNg {c a b R:Int} (hm:aIl c a b=some R) (o:aN G K (L) w):
  Calls prog 234 ([i64 c,i64 a,i64 b]:List Value).toArray w (eR fun v w'=>v=i64 R/\aN G K (L) w'):=by
 refine aQ func234 rfl (by kernel_rfl) (by show (3:Nat)<=67;decide) ?_;unfold aIl at hm
 refine aL (aD (v:=i64 0) (aG (aO (aL (aI (v:=i64 c) (aG (bZ (aL (aA (cX rfl rfl) (aD (v:=zB (c == 0)) (aG ?_)))))))))))
 rcases aH hm with ⟨e,hm⟩|⟨e,hm⟩
 ·exact cA
 ·refine aJ e rfl (aL (aA (cX rfl rfl) (aD (v:=zB (c == 1)) (aG ?_))))
  rcases aH hm with ⟨g,hm⟩|⟨g,hm⟩
  ·exact cA
  ·refine aJ g rfl (aL (aA (cX rfl rfl) (aD (v:=zB (c == 2)) (aG ?_))))
   rcases aH hm with ⟨h,hm⟩|⟨h,hm⟩
   ·exact cA
   ·refine aJ h rfl (aL (aA (cX rfl rfl) (aD (v:=zB (c == 3)) (aG ?_))))
    rcases aH hm with ⟨i,hm⟩|⟨i,hm⟩
    ·exact cA
    ·refine aJ i rfl (aL (aA (cX rfl rfl) (aD (v:=zB (c == 4)) (aG ?_))))
     rcases aH hm with ⟨j,hm⟩|⟨j,hm⟩
     ·exact cA
     ·refine aJ j rfl (aL (aA (cX rfl rfl) (aD (v:=zB (c == 5)) (aG ?_))))
      rcases aH hm with ⟨k,hm⟩|⟨k,hm⟩
      ·exact cA
      ·refine aJ k rfl (aL (aA (cX rfl rfl) (aD (v:=zB (c == 6)) (aG ?_))))
       rcases aH hm with ⟨l,hm⟩|⟨l,hm⟩
       ·exact cA
       ·refine aJ l rfl (aL (aA (cX rfl rfl) (aD (v:=zB (c == 7)) (aG ?_))))
        rcases aH hm with ⟨d,hm⟩|⟨d,hm⟩
        ·exact aM d rfl (aO (cW [] (fun f w=>∃ m,aDx m=some R/\f 6=i64 m/\aN G K (L) w) cA cA))
        ·exact aJ d rfl (aW (bM (aB (aO (cW [] (fun f w=>∃ n,aDy n=some R/\f 6=i64 n/\aN G K (L) w) cA cA)))))
theorem aIH {rec_:(Tr bP)->(List Int)->Option Int} (g:∀ {G:pJ} {K:Hp} {L:List hQ} {w:World} {x_:(Tr bP)} {a1:Option Addr} {c:(List Int)} {a3:Option Addr} {c4:Nat} {R:Int} (hm:rec_ x_ c=some R) (a:aN G K (L) w) (i:trd K x_ a1) (e:cE K a3 c4 c),
  Calls prog 183 ([eJ a1 0,zS a3 c.length c4]:List Value).toArray w (eR fun v w'=>v=i64 R/\aN G K (L) w'))
  {G:pJ} {K:Hp} {L:List hQ} {w:World} {x_:(Tr bP)} {a1:Option Addr} {c:(List Int)} {a3:Option Addr} {c4:Nat} {R:Int} (hm:kJ rec_ x_ c=some R) (a:aN G K (L) w) (i:trd K x_ a1) (e:cE K a3 c4 c):
  Calls prog 183 ([eJ a1 0,zS a3 c.length c4]:List Value).toArray w (eR fun v w'=>v=i64 R/\aN G K (L) w'):=by
 refine aQ func183 rfl (by kernel_rfl) (by show (2:Nat)<=61;decide) ?_;unfold kJ at hm
 refine aL (aD (v:=i64 0) (aG (aO (aL (aI (v:=eJ a1 0) ?_)))));obtain ⟨o,p,b,d⟩:=trd.el i
 replace b:iR K a1 0 [i64 x_.val.Kind,i64 x_.val.Value,zS o x_.kids.length p]:=b
 refine aA (dG rfl b) (aA (cI (k':=0+0) aJH rfl b rfl) (aA (cI (k':=0+0) vY rfl b rfl) (aA (bX (t:=0) dC a b rfl rfl) (aG (bZ (aL (aA (cX rfl rfl) (aD (v:=zB (x_.val.Kind == 0)) (aG ?_)))))))))
 rcases aH hm with ⟨j,hm⟩|⟨j,hm⟩
 ·exact cA
 ·refine aJ j rfl (aL (aA (cX rfl rfl) (aD (v:=zB (x_.val.Kind == 1)) (aG ?_))))
  rcases aH hm with ⟨k,hm⟩|⟨k,hm⟩
  ·exact cA
  ·refine aJ k rfl (aL (aA (cX rfl rfl) (aD (v:=zB (x_.val.Kind == 3)) (aG ?_))))
   rcases aH hm with ⟨h,hm⟩|⟨h,hm⟩
   ·refine aM h rfl (aL (aI (v:=eJ a1 0) (aA (dG rfl b) (aA (cI (k':=0+2) aHv rfl b rfl) (aA (bX (t:=2) aPM a b rfl rfl) ?_)))));obtain ⟨b1,l,hm⟩:=aC hm
    refine aA (cQ aMK rfl d rfl rfl rfl l) ?_;obtain ⟨b2,q,r⟩:=cE.el (sz:=1) rfl d l
    obtain ⟨u,rfl,x⟩:=r
    refine aA (bX (t:=0) aSl a q rfl rfl) (aI (v:=zS a3 c.length c4) ?_);obtain ⟨b3,y,hm⟩:=aC hm
    exact aT (vs:=[eJ u 0,zS a3 c.length c4]) call183 rfl (g y a x e) cA
   ·refine aJ h rfl (aW (bM (aB (aO (dB (C:=fun w'=>aN G K (L) w') cB (by kernel_rfl) (aN.mono a (dW.drew _)) (aY (fun _ a=>bJ (v:=eJ a1 0) rfl) (aY (fun _ a=>dG rfl b) (aY (fun _ a=>cI (k':=0+0) aJH rfl b rfl) (aY (fun _ a=>cI (k':=0+1) kW rfl b rfl) (aY (fun _ a=>bX (t:=1) dC a b rfl rfl) (aY (fun _ a=>bJ (v:=eJ a1 0) rfl) (aY (fun _ a=>dG rfl b) (aY (fun _ a=>cI (k':=0+2) aHv rfl b rfl) (aY (fun _ a=>bX (t:=2) aPM a b rfl rfl) ?_))))))))))))))
    obtain ⟨b4,m,hm⟩:=aC hm
    refine aY (fun _ a=>cQ aMK rfl d rfl rfl rfl m) ?_;obtain ⟨b5,z,J⟩:=cE.el (sz:=1) rfl d m
    obtain ⟨V,rfl,Z⟩:=J
    refine aY (fun _ a=>bX (t:=0) aSl a z rfl rfl) (aY (fun _ a=>bJ (v:=zS a3 c.length c4) rfl) ?_);obtain ⟨a0,a2,hm⟩:=aC hm
    refine eV (vs:=[eJ V 0,zS a3 c.length c4]) (v:=i64 a0) call183 rfl (fun _ a=>(g a2 a Z e)) (aY (fun _ a=>bJ (v:=eJ a1 0) rfl) (aY (fun _ a=>dG rfl b) (aY (fun _ a=>cI (k':=0+2) aHv rfl b rfl) (aY (fun _ a=>bX (t:=2) aPM a b rfl rfl) ?_))));obtain ⟨b6,n,hm⟩:=aC hm
    refine aY (fun _ a=>cQ aMK rfl d rfl rfl rfl n) ?_;obtain ⟨b7,a4,a5⟩:=cE.el (sz:=1) rfl d n
    obtain ⟨a7,rfl,a8⟩:=a5
    refine aY (fun _ a=>bX (t:=0) aSl a a4 rfl rfl) (aY (fun _ a=>bJ (v:=zS a3 c.length c4) rfl) ?_);obtain ⟨a9,b0,hm⟩:=aC hm
    exact eV (vs:=[eJ a7 0,zS a3 c.length c4]) (v:=i64 a9) call183 rfl (fun _ a=>(g b0 a a8 e)) cA
theorem aII (n:Nat):∀ {G:pJ} {K:Hp} {L:List hQ} {w:World} {x_:(Tr bP)} {a1:Option Addr} {a:(List Int)} {a3:Option Addr} {c4:Nat} {R:Int} (hm:kK n x_ a=some R) (b:aN G K (L) w) (c:trd K x_ a1) (d:cE K a3 c4 a),
  Calls prog 183 ([eJ a1 0,zS a3 a.length c4]:List Value).toArray w (eR fun v w'=>v=i64 R/\aN G K (L) w'):=by
 induction n with
 |zero=>
  intro G K L w x_ a1 a a3 c4 R hm b c d
  unfold kK at hm
  cases hm
 |succ n ih=>
  intro G K L w x_ a1 a a3 c4 R hm b c d
  exact aIH (rec_:=kK n) (fun hm b c d=>ih hm b c d) hm b c d
theorem aKb {x_:(Tr bP)} {values:(List Int)} {R:Int} (hm:aGy x_ values=some R) (hs:aN G K (L) w) (h2:trd K x_ a1) (h5:cE K a3 c4 values):
  Calls prog 183 ([eJ a1 0,zS a3 values.length c4]:List Value).toArray w (eR fun v w'=>v=i64 R/\aN G K (L) w'):=aII 100000 hm hs h2 h5
theorem aGX {e:(List bP)} {a:(List Int)} {R:Int} (hm:yK e a=some R) (b:aN G K (L) w) (c:cE K a1 c2 e) (d:cE K a4 c5 a):
  Calls prog 142 ([zS a1 e.length c2,zS a4 a.length c5]:List Value).toArray w (eR fun v w'=>v=i64 R/\aN G K (L) w'):=by
 exact cA
theorem aEy {a:(List (List bP))} {b R:(List Int)} (hm:sL a b=some R) (l:aN G K (L) w) (o:cE K a1 c2 a) (p:cE K a4 c5 b):
  Calls prog 139 ([zS a1 a.length c2,zS a4 b.length c5]:List Value).toArray w (eR fun v w'=>∃ d e,v=zS d R.length e/\aN G K (bB 2 K d e R::L) w'):=by
 refine aQ func139 rfl (by kernel_rfl) (by show (2:Nat)<=22;decide) ?_;unfold sL at hm
 refine aL (aD (v:=zS none 0 0) (aG (aL (aD (v:=zS none 0 0) (aG (aO (aL (aI (v:=zS a1 a.length c2) (aA (bQ (len:=a.length) jR rfl) (aI (v:=i64 0) (aG (bR [] (fun f w=>∃ c g h,vL c=some R/\f 5=zS g c.length h/\aN G K (bB 2 K g h c::L) w) cA ?_))))))))))))
 have q:=aN.nil (α:=Int) l 2 K
 obtain ⟨r,m,ho⟩:=aC hm
 exact dN [1,8,9] m (fun i n f w=>∃ j k,f 5=zS j i.length k/\f 10=i64 n/\aN G K (bB 2 K j k i::L) w) cA cA
theorem aGE {d:(List Definition)} {c:(List dM)} {l:(List (bK × Bool))} {b:Nat} {s_:dM} {R:((List dM) × (List (bK × Bool)))} (hm:jH d c l s_=some R) (hs:aN G K (bB 108 Kf a5 c6 c::nW b l::box b1 154 [zS a2 d.length c3,zS a5 c.length c6,Value.map (some b)]::L) w) (hG:G.lo=0) (a3:Hp.le Kf K) (h4:cE K a2 c3 d) (p:cE Kf a8 c9 s_.Next.Values):
  Calls prog 140 ([zP (some ⟨b1,0,none⟩),zA #[str s_.B,i64 s_.Next.Definition,i64 s_.Next.Part,zS a8 s_.Next.Values.length c9]]:List Value).toArray w (eR fun v w'=>∃ q r,v=zT #[]/\aN G K (bB 108 Kf q r R.1::nW b R.2::box b1 154 [zS a2 d.length c3,zS q R.1.length r,Value.map (some b)]::L) w'):=by
 let e:=[str s_.B,i64 s_.Next.Definition,i64 s_.Next.Part,zS a8 s_.Next.Values.length c9]
 let u:=[zS a2 d.length c3,zS a5 c.length c6,Value.map (some b)]
 refine aQ func140 rfl (by kernel_rfl) (by show (2:Nat)<=34;decide) ?_;unfold jH at hm
 refine aL (dQ (v:=zA #[str s_.B,i64 s_.Next.Definition,i64 s_.Next.Part,zS a8 s_.Next.Values.length c9]) (vs:=e) hs rfl rfl (fun x d1 a=>(aG (aO (dB (C:=fun w'=>aN G K (box x 108 e::bB 108 Kf a5 c6 c::nW b l::box b1 154 u::L) w') cB (by kernel_rfl) (aN.mono a (dW.drew _)) (aY (fun _ a=>bA (t':=0) aHt rfl rfl) (aY (fun _ a=>bO fF a (i:=0) rfl rfl rfl) ?_)))))));obtain ⟨d2,a4,hm⟩:=aC hm
 refine aY (fun _ a=>aCZ rfl rfl a4) (aY (fun _ a=>bA (t':=1) aFz rfl rfl) (aY (fun _ a=>eH (us:=[i64 s_.Next.Definition,i64 s_.Next.Part,zS a8 s_.Next.Values.length c9]) aAe a (i:=0) rfl rfl rfl rfl) ?_));obtain ⟨a6,a7,hm⟩:=aC hm
 refine eV (vs:=[zA #[i64 s_.Next.Definition,i64 s_.Next.Part,zS a8 s_.Next.Values.length c9]]) (v:=str a6) call51 rfl (fun _ a=>(aGW a7 a hG (p.mono a3))) ?_;obtain ⟨g,a9,hm⟩:=aC hm
 refine aY (fun _ a=>aCZ rfl rfl a9) (aY (fun _ a=>gM (v:=str g) rfl) (dH (fun d3 m=>(aB (aL (aI (v:=zP (some ⟨b1,0,none⟩)) (aA (lS rfl) (aA (bA (t':=2) aQQ rfl rfl) (aA (bO sc_152 m (i:=3) rfl rfl rfl) (aI (v:=str g) (aA (R_look1 (kv:=l) (k:=g) (z:=(false:Bool)) runUnderlying152 ko_9 zeroValue4 m (i:=2) rfl rfl rfl) (aA (dA rfl) (aG ?_)))))))))))))
 rcases aH hm with ⟨y,hm⟩|⟨y,hm⟩
 ·refine aM y rfl (aL (aI (v:=zP (some ⟨b1,0,none⟩)) (aA (lS rfl) (aA (bA (t':=2) aQQ rfl rfl) (aA (bO sc_152 m (i:=3) rfl rfl rfl) (aI (v:=str g) ?_))))));obtain ⟨n,b0,hm⟩:=aC hm
  refine aQF (i:=2) (k:=g) (v:=true) runUnderlying152 ko_9 m rfl rfl rfl rfl b0 (fun b2 (b3:aN G K (box x 108 e::bB 108 Kf a5 c6 c::nW b n::box b1 154 u::L) b2)=>(aG ?_));obtain ⟨d4,d5,b4,b5,d6⟩:=aN.lendBp b3 .head
  obtain ⟨o,b6,b7,J,b8⟩:=aN.lendBp b5 zt2
  refine jJ (C:=fun w'=>∃ L',aN G o L' w') [(0,0),(1,0),(2,0),(3,0),(4,0),(5,1),(6,1),(7,1),(8,2),(9,2),(10,2)] cB (by kernel_rfl) (fun _ hg=>⟨_,aN.mono J hg⟩) (fun d7 b9=>?_)
  have j:=aN.mono J b9
  refine dV rfl (fun _ _=>bJ (v:=zP (some ⟨b1,0,none⟩)) rfl) (dV rfl (fun _ _=>bJ (v:=zP (some ⟨b1,0,none⟩)) rfl) (dV rfl (fun _ _=>lS rfl) (dV rfl (fun _ _=>bA (t':=1) aJI rfl rfl) (dV rfl (fun _ ⟨_,j⟩=>bX (t:=1) sc_104 j b7 rfl rfl) (pP rfl (aA (eK (t:=0) (vs:=e) aSj j (b4.mono b6) rfl rfl rfl) (cC (aB ⟨⟨_,j⟩,?_⟩))))))))
  refine pP rfl (eL (Kt:=Kf) (xs:=([s_]:List dM)) (cs:=e) (vs:=[(0,zA #[str s_.B,i64 s_.Next.Definition,i64 s_.Next.Part,zS a8 s_.Next.Values.length c9])]) tH aMJ rfl rfl j rfl (by kernel_rfl) rfl rfl rfl ⟨⟨a8,c9,rfl,p⟩,trivial⟩ (fun c0 c1 (V:aN G o (bB 108 Kf c0 1 ([s_]:List dM)::bB 108 Kf a5 c6 c::nW b n::L) c1)=>(cC (aB ⟨⟨_,V⟩,?_⟩))))
  refine pP rfl ?_;obtain ⟨c2,c4,hm⟩:=aC hm
  refine aBJ (i:=0) Kf tH underlying104 aMJ rfl rfl V rfl (zR _) (zR _) c4 rfl rfl rfl rfl (fun _ _ _ h=>El.one h) (fun c5 c7 c8 (Z:aN G o (bB 108 Kf c5 c7 c2::nW b n::L) c8)=>(cC (aB ⟨⟨_,Z⟩,?_⟩)))
  have d8:=b8 _ _ Z
  exact cA
 ·exact cA
end Gv
