/- Walks, printed by program. -/
import Derived.Test.YtmlgcbjkfcapaaaGreatDoorKWk1
import Derived.Test.YtmlgcbjkfcapaaaGreatDoorKWk5
import Derived.Test.YtmlgcbjkfcapaaaGreatDoorKWk6
import Derived.Test.YtmlgcbjkfcapaaaGreatDoorKWk7
set_option linter.all false
namespace Gv
open Go.Value renaming slice→zS,bool→zB,pointer→zP,agg→zA,tuple→zT,map→zM
open Option.some renaming inj→zI
open Gv.Hp renaming le_trans→zL
open Go Go.Proofs
set_option maxRecDepth 20000
set_option maxHeartbeats 40000000
variable {G:Env} {K Kf:Hp} {L:List qD} {w:World} {a1 a4 a7 a10 a13 a9 a2 a5 a8 a11 a14 a17 a20 a23 a25 a28 a34 a36 a16:Option Addr} {c2 c5 c8 c11 c14 b6 b1 c3 c6 c9 c12 c15 c18 c21 c24 c26 b33 c35 c17:Nat}
theorem aIB {b:(List aZ)} {R:Bool} (hs:aL G K (L) w) (m:bT K a1 c2 b) (e:aDr b=some R):
  Calls Tryz.prog 204 ([zS a1 b.length c2]:List Value).toArray w (fV fun v w'=>v=zB R∧aL G K (L) w'):=by
 refine aT Tryz.func204 rfl (by kernel_rfl) (by show (1:Nat)≤32;decide) ?_
 unfold aDr at e
 refine aAZ (pM (v:=zB false) (aAf (aH (aAZ (aBl (v:=zS a1 b.length c2) (aB (bQ (len:=b.length) cY rfl) (aBl (v:=i64 0) (aAf (bD (fun f w=>zU b=some R∧f 0=zS a1 b.length c2∧aL G K (L) w) ?_ ?_)))))))))
 ·rintro f w5 ⟨e,e4,a4⟩
  unfold zU at e
  refine aA (aAZ (aCv e4 (aB (bQ (len:=b.length) cY rfl) (aB (aEo rfl rfl) (pM (v:=zB (decide ((b.length:Int)≤12))) (aAf ?_))))))
  cases zI e
  exact bF (bC Tryz.results204 rfl ⟨rfl,a4⟩)
 obtain ⟨c1,a6,e⟩:=aI e
 refine cD a6 (fun (h:Int) f w=>f 0=zS a1 b.length c2∧f 5=zS a1 b.length c2∧f 6=i64 (b.length:Int)∧f 7=i64 h∧aL G K (L) w) ?_ ?_
 ·exact ⟨rfl,rfl,rfl,rfl,hs⟩
 ·rintro h y f c3 a z ⟨l,n,o,j,q⟩
  replace a:vN b h=some y:=a
  unfold vN at a
  refine aAZ (aB (cJ j o) (aAf (aH ?_)))
  rcases aK a with ⟨r,a⟩|⟨r,a⟩
  ·refine aO r rfl (aW (aA (aH (cU (aAZ (aCv j ?_))))))
   obtain ⟨i,J,a⟩:=aI a
   refine aB (cO cY rfl m n rfl j J) ?_
   obtain ⟨c4,a7,a8⟩:=bT.el (sz:=1) rfl m J
   cases a8
   refine aB (bH (t:=0) pK q a7 rfl rfl) (pM (v:=i64 h) (pM (v:=cL i) (aAf (aH (cS (fun f w=>∃ (u:Bool),vM h u=some y∧f 0=zS a1 b.length c2∧f 5=zS a1 b.length c2∧f 6=i64 (b.length:Int)∧f 7=i64 h∧f 27=zB u∧aL G K (L) w) ?_ ?_)))))
   ·rintro f c5 ⟨u,a,a9,b0,b1,b2,V,Z⟩
    unfold vM at a
    refine aA ?_
    rcases aK a with ⟨x,a⟩|⟨x,a⟩
    ·refine aO x V (aAZ (pM (v:=zB false) (aAf (bF (bN (aS (aS ?_)))))))
     have b3:=z _ (zI a).symm
     subst b3
     have e:(some false)=some R:=e
     cases zI e
     exact bN (aS (aS (bC Tryz.results204 rfl ⟨rfl,Z⟩)))
    ·exact aM x V (aW (bG (aA (aC (aB (cX b2 rfl) (aBl (v:=i64 (wr (h+1))) (aAf ⟨wr (h+1),(zI a).symm,a9,b0,b1,rfl,Z⟩)))))))
   refine aC (aBl (v:=cL i) ?_)
   obtain ⟨b5,b6,a⟩:=aI a
   refine aU (vs:=[cL i]) Tryz.call262 rfl (aEc q b6) ?_
   rintro _ c6 ⟨rfl,p⟩
   refine aB (dY rfl) (aBl (v:=zB (!b5)) ?_)
   rcases aK a with ⟨d,a⟩|⟨d,a⟩
   ·exact bA d rfl rfl (bA d rfl rfl (bA d rfl rfl (dQ (g:=18) rfl rfl (dQ (g:=18) rfl rfl (dQ (g:=18) rfl rfl (dQ (g:=18) rfl rfl (dQ (g:=18) rfl rfl (dQ (g:=18) rfl rfl (dQ (g:=18) rfl rfl (bA d rfl rfl (aB (bI (v:=zB true) d rfl rfl) (aAf ⟨true,a,l,n,o,j,rfl,p⟩))))))))))))
   ·refine bM d rfl rfl (aBl (v:=i64 h) (bM d rfl rfl (aB (mL rfl rfl) (bM d rfl rfl (aBl (v:=zB (decide (0 < h))) ?_)))))
    rcases aK a with ⟨c,a⟩|⟨c,a⟩
    ·refine bE c rfl rfl (aBl (v:=cL i) (bE c rfl rfl (aCv l (bE c rfl rfl (aBl (v:=i64 h) (bE c rfl rfl (aB (jS rfl rfl) (bE c rfl rfl ?_))))))))
     obtain ⟨k,a0,a⟩:=aI a
     refine aB (cO cY rfl m rfl rfl rfl a0) ?_
     obtain ⟨c7,b7,b8⟩:=bT.el (sz:=1) rfl m a0
     cases b8
     exact bE c rfl rfl (aB (bH (t:=0) pK p b7 rfl rfl) (bE c rfl rfl (aB (R_leqS rfl rfl) (bM d rfl rfl (aB (bI (v:=zB (wQ i k||i == k)) c rfl rfl) (aB (bJ (v:=zB (wQ i k||i == k)) d rfl rfl) (aAf ⟨(wQ i k||i == k),a,l,n,o,j,rfl,p⟩)))))))
    ·exact aV c rfl rfl (aV c rfl rfl (aV c rfl rfl (aV c rfl rfl (aV c rfl rfl (aV c rfl rfl (aV c rfl rfl (bM d rfl rfl (aB (bJ (v:=zB false) c rfl rfl) (aB (bJ (v:=zB false) d rfl rfl) (aAf ⟨false,a,l,n,o,j,rfl,p⟩))))))))))
  ·refine aM r rfl (cB (aY (aY ?_)))
   have b9:=z _ (zI a).symm
   subst b9
   have e:(zU b)=some R:=e
   exact bO (aA ⟨e,l,q⟩)
theorem aCI {p:cA} {R:Bool} (q:aL G K (L) w) (r:G.lo=0) (k:bT K a1 c2 p.S.L) (l:bT K a4 c5 p.S.E) (t:bT K a7 c8 p.M) (u:bT K a10 c11 p.C) (a:vO p=some R):
  Calls Tryz.prog 143 ([zA (zEa p a1 c2 a4 c5 a7 c8 a10 c11)]:List Value).toArray w (fV fun v w'=>v=zB R∧aL G K (L) w'):=by
 let m:=(zC p.S a1 c2 a4 c5)
 refine aT Tryz.func143 rfl (by kernel_rfl) (by show (1:Nat)≤18;decide) ?_
 unfold vO at a
 refine aAZ (dW (v:=zA (zEa p a1 c2 a4 c5 a7 c8 a10 c11)) (vs:=(zE p a1 c2 a4 c5 a7 c8 a10 c11)) q rfl rfl (fun a3 a5 n=>(pM (v:=zB false) (aAf (aH (cS (fun f w=>∃ (e:Bool),oX e=some R∧f 2=zB e∧aL G K (L) w) ?_ ?_))))))
 ·rintro f a6 ⟨e,a,x,y⟩
  unfold oX at a
  refine aA ?_
  cases zI a
  exact bF (bC Tryz.results143 rfl ⟨x,y⟩)
 refine aC (aB (bB (t':=0) iZ rfl rfl) (aB (dK (us:=m) fD n (i:=0) rfl rfl rfl rfl) ?_))
 obtain ⟨J,V,a⟩:=aI a
 refine aU (vs:=[zA (zCa p.S a1 c2 a4 c5)]) Tryz.call201 rfl (vR n r k l V) ?_
 rintro _ a8 ⟨rfl,d⟩
 refine aBl (v:=zB J) ?_
 rcases aK a with ⟨b,a⟩|⟨b,a⟩
 ·refine bE b rfl rfl (aB (bB (t':=0) iZ rfl rfl) (bE b rfl rfl (aB (dK (us:=m) fD d (i:=0) rfl rfl rfl rfl) (bE b rfl rfl (aB (bB (t':=4) aAr rfl rfl) (bE b rfl rfl (aB (bR mM d (i:=0) rfl rfl rfl) (bE b rfl rfl ?_))))))))
  obtain ⟨o,Z,a⟩:=aI a
  refine aU (vs:=[zA (zCa p.S a1 c2 a4 c5),zS a7 p.M.length c8]) Tryz.call203 rfl (aFp d k l t Z) ?_
  rintro _ a9 ⟨rfl,h⟩
  refine aB (bI (v:=zB o) b rfl rfl) (aBl (v:=zB o) ?_)
  rcases aK a with ⟨c,a⟩|⟨c,a⟩
  ·refine bE c rfl rfl (aB (bB (t':=5) aBp rfl rfl) (bE c rfl rfl (aB (bR jJ h (i:=0) rfl rfl rfl) (bE c rfl rfl ?_))))
   obtain ⟨j,a0,a⟩:=aI a
   refine aU (vs:=[zS a10 p.C.length c11]) Tryz.call204 rfl (aIB h u a0) ?_
   rintro _ b0 ⟨rfl,a2⟩
   exact aB (bI (v:=zB j) c rfl rfl) (pM (v:=zB j) (aAf ⟨j,a,rfl,(aL.arr 1 [] a2 rfl)⟩))
  ·exact aV c rfl rfl (aV c rfl rfl (aV c rfl rfl (aB (bJ (v:=zB false) c rfl rfl) (pM (v:=zB false) (aAf ⟨false,a,rfl,(aL.arr 1 [] h rfl)⟩)))))
 ·exact aV b rfl rfl (aV b rfl rfl (aV b rfl rfl (aV b rfl rfl (aV b rfl rfl (aB (bJ (v:=zB false) b rfl rfl) (aBl (v:=zB false) (aV (by decide:¬ false=true) rfl rfl (aV (by decide:¬ false=true) rfl rfl (aV (by decide:¬ false=true) rfl rfl (aB (bJ (v:=zB false) (by decide:¬ false=true) rfl rfl) (pM (v:=zB false) (aAf ⟨false,a,rfl,(aL.arr 1 [] d rfl)⟩))))))))))))
theorem aFq {t:dB} {R:Bool} (d:aL G K (L) w) (e:G.lo=0) (g:bT K a1 c2 t.L) (h:bT K a4 c5 t.E) (a:zV t=some R):
  Calls Tryz.prog 200 ([zA (zCa t a1 c2 a4 c5)]:List Value).toArray w (fV fun v w'=>v=zB R∧aL G K (L) w'):=by
 let b:=(zC t a1 c2 a4 c5)
 refine aT Tryz.func200 rfl (by kernel_rfl) (by show (1:Nat)≤6;decide) ?_
 unfold zV at a
 refine aAZ (dW (v:=zA (zCa t a1 c2 a4 c5)) (vs:=b) d rfl rfl (fun n o c=>(pM (v:=zB false) (aAf (aAZ (aB (dK (us:=b) fD c (i:=0) rfl rfl rfl rfl) ?_))))))
 obtain ⟨j,k,a⟩:=aI a
 refine aU (vs:=[zA (zCa t a1 c2 a4 c5)]) Tryz.call201 rfl (vR c e g h k) ?_
 rintro _ p ⟨rfl,l⟩
 refine aB (dY rfl) (pM (v:=zB (!j)) (aAf ?_))
 cases zI a
 exact bF (bC Tryz.results200 rfl ⟨rfl,(aL.arr 1 [] l rfl)⟩)
theorem rE {e:(List dB)} {R:Int} (z:aL G K (L) w) (J:G.lo=0) (o:bT K a1 c2 e) (b:eD e=some R):
  Calls Tryz.prog 259 ([zS a1 e.length c2,Value.func (.func 200) #[] #[]]:List Value).toArray w (fV fun v w'=>v=i64 R∧aL G K (L) w'):=by
 refine aT Tryz.func259 rfl (by kernel_rfl) (by show (2:Nat)≤19;decide) ?_
 unfold eD at b
 refine aAZ (pM (v:=i64 0) (aAf (aH (aAZ (aBl (v:=zS a1 e.length c2) (aB (bQ (len:=e.length) sl_225 rfl) (aBl (v:=i64 0) (aAf (bD (fun f w=>eX=some R∧aL G K (L) w) ?_ ?_)))))))))
 ·rintro f w4 ⟨b,V⟩
  unfold eX at b
  refine aA (aAZ (pM (v:=i64 (-1)) (aAf ?_)))
  cases zI b
  exact bF (bC Tryz.results259 rfl ⟨rfl,V⟩)
 obtain ⟨b2,a0,b⟩:=aI b
 refine cD a0 (fun (d:Int) f w=>f 0=zS a1 e.length c2∧f 1=Value.func (.func 200) #[] #[]∧f 7=i64 (e.length:Int)∧f 8=i64 d∧aL G K (L) w) ?_ ?_
 ·exact ⟨rfl,rfl,rfl,rfl,z⟩
 ·rintro d a2 f b3 a p ⟨q,r,u,g,h⟩
  replace a:eY e d=some a2:=a
  unfold eY at a
  refine aAZ (aB (cJ g u) (aAf (aH ?_)))
  rcases aK a with ⟨i,a⟩|⟨i,a⟩
  ·refine aO i rfl (aW (aA (aH (cU (aAZ (aCv g (pM (v:=i64 d) (aAf (aAZ (aCv r (aCv q (aBl (v:=i64 d) ?_))))))))))))
   obtain ⟨c,x,a⟩:=aI a
   refine aB (cO sl_225 rfl o rfl rfl rfl x) ?_
   obtain ⟨b4,a3,a4⟩:=bT.el (sz:=4) rfl o x
   obtain ⟨j,k,l,m,rfl,a5,a6⟩:=a4
   refine aB (gO (t:=0) (vs:=(zC c j k l m)) fD h a3 rfl rfl rfl) ?_
   obtain ⟨b5,a7,a⟩:=aI a
   refine kH (vs:=[zA (zCa c j k l m)]) (caps:=[]) (us:=[zA (zCa c j k l m)]) rfl Tryz.call200 rfl rfl (aFq h J a5 a6 a7) ?_
   rintro _ b6 ⟨rfl,y⟩
   refine aAf ?_
   rcases aK a with ⟨n,a⟩|⟨n,a⟩
   ·refine aO n rfl (aAZ (aBl (v:=i64 d) (pM (v:=i64 d) (aAf (bF (bN (aS (aS ?_))))))))
    have a8:=p _ (zI a).symm
    subst a8
    have b:(some d)=some R:=b
    cases zI b
    exact bN (aS (aS (bC Tryz.results259 rfl ⟨rfl,y⟩)))
   ·exact aM n rfl (aW (bG (aA (aC (aB (cX g rfl) (aBl (v:=i64 (wr (d+1))) (aAf ⟨wr (d+1),(zI a).symm,q,r,u,rfl,y⟩)))))))
  ·refine aM i rfl (cB (aY (aY ?_)))
   have b0:=p _ (zI a).symm
   subst b0
   have b:(eX)=some R:=b
   exact bO (aA ⟨b,h⟩)
theorem pG {a:(List dB)} {R:Bool} (c:aL G K (L) w) (d:G.lo=0) (e:bT K a1 c2 a) (b:eZ a=some R):
  Calls Tryz.prog 199 ([zS a1 a.length c2,Value.func (.func 200) #[] #[]]:List Value).toArray w (fV fun v w'=>v=zB R∧aL G K (L) w'):=by
 refine aT Tryz.func199 rfl (by kernel_rfl) (by show (2:Nat)≤9;decide) ?_
 unfold eZ at b
 refine aAZ (pM (v:=zB false) (aAf (aAZ (aBl (v:=zS a1 a.length c2) (aBl (v:=Value.func (.func 200) #[] #[]) ?_)))))
 obtain ⟨g,h,b⟩:=aI b
 refine aU (vs:=[zS a1 a.length c2,Value.func (.func 200) #[] #[]]) Tryz.call259 rfl (rE c d e h) ?_
 rintro _ k ⟨rfl,i⟩
 refine aB (tT rfl rfl) (pM (v:=zB (decide (0≤g))) (aAf ?_))
 cases zI b
 exact bF (bC Tryz.results199 rfl ⟨rfl,i⟩)
theorem aGQ {p:cA} {c:(List dB)} {R:Int} (q:aL G K (L) w) (h:G.lo=0) (r:bT K a1 c2 p.S.L) (t:bT K a4 c5 p.S.E) (u:bT K a7 c8 p.M) (x:bT K a10 c11 p.C) (y:bT K a13 c14 c) (a:aAV p c=some R):
  Calls Tryz.prog 140 ([zA (zEa p a1 c2 a4 c5 a7 c8 a10 c11),zS a13 c.length c14]:List Value).toArray w (fV fun v w'=>v=i64 R∧aL G K (L) w'):=by
 let j:=(zE p a1 c2 a4 c5 a7 c8 a10 c11)
 refine aT Tryz.func140 rfl (by kernel_rfl) (by show (2:Nat)≤12;decide) ?_
 unfold aAV at a
 refine aAZ (dW (v:=zA (zEa p a1 c2 a4 c5 a7 c8 a10 c11)) (vs:=j) q rfl rfl (fun a3 a5 k=>(pM (v:=i64 0) (aAf (aH (aH (cS (fun f w=>∃ (d:Bool),uN d=some R∧f 11=zB d∧aL G K (L) w) ?_ ?_)))))))
 ·rintro f a6 ⟨d,a,l,m⟩
  unfold uN at a
  refine aA ?_
  rcases aK a with ⟨e,a⟩|⟨e,a⟩
  ·refine aO e l (aAZ (pM (v:=i64 1) (aAf ?_)))
   cases zI a
   exact bF (aS (bC Tryz.results140 rfl ⟨rfl,m⟩))
  ·refine aM e l (aW (aA (aAZ (pM (v:=i64 0) (aAf ?_)))))
   cases zI a
   exact bF (bC Tryz.results140 rfl ⟨rfl,m⟩)
 refine aC (aB (dK (us:=j) xF k (i:=0) rfl rfl rfl rfl) ?_)
 obtain ⟨V,Z,a⟩:=aI a
 refine aU (vs:=[zA (zEa p a1 c2 a4 c5 a7 c8 a10 c11)]) Tryz.call143 rfl (aCI k h r t u x Z) ?_
 rintro _ a8 ⟨rfl,n⟩
 refine aB (dY rfl) (aBl (v:=zB (!V)) ?_)
 rcases aK a with ⟨b,a⟩|⟨b,a⟩
 ·exact bA b rfl rfl (bA b rfl rfl (aB (bI (v:=zB true) b rfl rfl) (aAf ⟨true,a,rfl,(aL.arr 1 [] n rfl)⟩)))
 ·refine bM b rfl rfl (aBl (v:=zS a13 c.length c14) (bM b rfl rfl ?_))
  obtain ⟨o,a0,a⟩:=aI a
  refine aU (vs:=[zS a13 c.length c14,Value.func (.func 200) #[] #[]]) Tryz.call199 rfl (pG n h y a0) ?_
  rintro _ a9 ⟨rfl,a2⟩
  exact aB (bJ (v:=zB o) b rfl rfl) (aAf ⟨o,a,rfl,(aL.arr 1 [] a2 rfl)⟩)
theorem aBk {p:cA} {k:Int} {R:Bool} (c:aL G K (L) w) (l:bT K a1 c2 p.S.L) (m:bT K a4 c5 p.S.E) (d:bT K a7 c8 p.M) (n:bT K a10 c11 p.C) (a:qY p k=some R):
  Calls Tryz.prog 142 ([zA (zEa p a1 c2 a4 c5 a7 c8 a10 c11),i64 k]:List Value).toArray w (fV fun v w'=>v=zB R∧aL G K (L) w'):=by
 refine aT Tryz.func142 rfl (by kernel_rfl) (by show (2:Nat)≤9;decide) ?_
 unfold qY at a
 refine aAZ (dW (v:=zA (zEa p a1 c2 a4 c5 a7 c8 a10 c11)) (vs:=(zE p a1 c2 a4 c5 a7 c8 a10 c11)) c rfl rfl (fun o q b=>(pM (v:=zB false) (aAf (aAZ (aB (bB (t':=4) aAr rfl rfl) (aB (bR mM b (i:=0) rfl rfl rfl) (aBl (v:=i64 k) ?_))))))))
 obtain ⟨e,g,a⟩:=aI a
 refine aU (vs:=[zS a7 p.M.length c8,i64 k]) Tryz.call183 rfl (mW b d g) ?_
 rintro _ r ⟨rfl,h⟩
 refine pM (v:=zB e) (aAf ?_)
 cases zI a
 exact bF (bC Tryz.results142 rfl ⟨rfl,(aL.arr 1 [] h rfl)⟩)
theorem oR {j:(List Bool)} {m:Int} {R:(List Bool)} (hs:aL G K (L) w) (h3:bT K a1 c2 j) (a:fM j m=some R):
  Calls Tryz.prog 141 ([zS a1 j.length c2,i64 m]:List Value).toArray w (fV fun v w'=>∃ (Z:Option Addr) (a0:Nat),v=zS Z R.length a0∧aL G K (aN 4 K Z a0 R::L) w'):=by
 refine aT Tryz.func141 rfl (by kernel_rfl) (by show (2:Nat)≤48;decide) ?_
 unfold fM at a
 refine aAZ (pM (v:=zS none 0 0) (aAf (aBQ (fun f w=>jD j m=some R∧f 0=zS a1 j.length c2∧f 1=i64 m∧aL G K (L) w) ?_ ?_)))
 ·rintro f w6 ⟨a,u,e5,b7⟩
  unfold jD at a
  refine aAZ (aCv u (aB (bQ (len:=j.length) fQ rfl) (aB (aEW Tryz.runUnderlying194 rfl ⟨_,Tryz.runUnderlying3⟩) (aCv e5 (aB (aEW Tryz.runUnderlying194 rfl ⟨_,Tryz.runUnderlying3⟩) ?_)))))
  obtain ⟨h,q9,a⟩:=aI a
  refine aU (vs:=[Value.int .u64 (aBO (j.length:Int)),Value.int .u64 (aBO m)]) Tryz.call202 rfl (lib_Mul b7 q9) ?_
  rintro _ e6 ⟨rfl,a2⟩
  refine aBl (v:=zT #[Value.int .u64 h.1,Value.int .u64 h.2]) (aB (bV rfl rfl) (aB (bV rfl rfl) (pM (v:=Value.int .u64 h.1) (pM (v:=Value.int .u64 h.2) (aAf (aBQ (fun f w=>jC j h=some R∧f 0=zS a1 j.length c2∧f 6=Value.int .u64 h.2∧aL G K (L) w) ?_ ?_))))))
  ·rintro f e7 ⟨a,b9,c0,c1⟩
   unfold jC at a
   refine aAZ (aCv c0 (aB (aId Tryz.runUnderlying3 rfl ⟨_,Tryz.runUnderlying194⟩) ?_))
   obtain ⟨b,c3,a⟩:=aI a
   refine aFt (e:=(false:Bool)) fQ ez_4 rfl rfl c1 rfl rfl rfl c3 rfl (fun c c4 (a3:aL G K (aN 4 K c b.length b::L) c4)=>(pM (v:=zS c b.length b.length) (aAf (aAZ (aBl (v:=zS c b.length b.length) (aCv b9 ?_))))))
   obtain ⟨c5,a4,a⟩:=aI a
   refine aGc fQ rfl a3 (i:=0) rfl Cut.whole rfl rfl rfl (aEY _ _ _) aEy (aIi rfl a3 h3) a4 (fun c6 (c7:aL G K (aN 4 K c b.length c5::L) c6)=>(pM (v:=i64 ((Nat.min j.length b.length):Int)) (aAf (aH (bD (fun f w=>∃ (p:List Bool),jB p=some R∧f 7=zS c p.length b.length∧aL G K (aN 4 K c b.length p::L) w) ?_ ?_)))))
   ·rintro f e8 ⟨p,a,c8,c9⟩
    unfold jB at a
    refine aA (aAZ (aCv c8 (pM (v:=zS c p.length b.length) (aAf ?_))))
    cases zI a
    exact bF (bC Tryz.results141 rfl ⟨c,b.length,rfl,c9⟩)
   obtain ⟨e9,d1,a⟩:=aI a
   refine cD d1 (fun (s:(List Bool × Int)) f w=>match s with|(k,o)=>f 7=zS c k.length b.length∧f 8=i64 o∧aL G K (aN 4 K c b.length k::L) w) ?_ ?_
   ·exact ⟨(Eq.trans rfl (congrArg (fun n=>zS c n b.length) (aCz a4))),rfl,c7⟩
   ·rintro ⟨k,o⟩ d2 f f0 d d3 ⟨q,r,x⟩
    replace d:fT k o=some d2:=d
    unfold fT at d
    refine aH (aAZ (aCv r (aCv q (aB (bQ (len:=k.length) fQ rfl) (aB (cJ rfl rfl) (aAf ?_))))))
    rcases aK d with ⟨y,d⟩|⟨y,d⟩
    ·refine aO y rfl (aW (aA (cU (eQ (C:=fun w'=>∃ L',aL G K L' w') [(0,0),(1,0),(2,0),(3,0),(4,0),(5,0),(6,0),(7,1),(8,0),(9,0)] bK (by kernel_rfl) (fun _ hg=>⟨_,aL.mono x hg⟩) (fun f1 d4=>?_)))))
     have t:=aL.mono x d4
     refine bS rfl (fun _ _=>aD r) (bS rfl (fun _ _=>aD q) (bS rfl (fun _ _=>aD r) ?_))
     obtain ⟨a5,d5,d⟩:=aI d
     have d6:=pA t (i:=0) rfl
     obtain ⟨f2,f3,a6⟩:=Cut.ex 1 c b.length o
     refine bS rfl (fun _ _=>aCL fQ d6 a6 rfl rfl rfl d5) (bS rfl (fun _ _=>aD q) (bS rfl (fun _ _=>aD r) ?_))
     obtain ⟨a7,a8,d⟩:=aI d
     have d7:=pA t (i:=0) rfl
     obtain ⟨f4,f5,a9⟩:=Cut.ex 1 c b.length 0
     refine bS rfl (fun _ _=>aGH fQ d7 a9 rfl rfl rfl a8) (lL rfl ?_)
     obtain ⟨b0,b1,d⟩:=aI d
     refine aGc fQ rfl t (i:=0) rfl a6 rfl rfl rfl (aEY _ _ _) aEy (aIj rfl t (i:=0) rfl a8 a9) b1 (fun d8 (b2:aL G K (aN 4 K c b.length b0::L) d8)=>(aF (aA ⟨⟨_,b2⟩,?_⟩)))
     exact bS rfl (fun _ _=>cX rfl rfl) (bS rfl (fun _ _=>aG (v:=i64 (wr (o+((Nat.min a7.length a5.length):Int)))) rfl) (kB (bG (aA ⟨(b0,wr (o+((Nat.min a7.length a5.length):Int))),(zI d).symm,(Eq.trans q (congrArg (fun n=>zS c n b.length) (aCz b1))),rfl,b2⟩))))
    ·refine aM y rfl (cB (aY (aY ?_)))
     have d9:=d3 _ (zI d).symm
     subst d9
     have a:(jB k)=some R:=a
     exact bO (aA ⟨k,a,q,x⟩)
  refine aH (cS (fun f w=>∃ (z:Bool),fU j h z=some R∧f 0=zS a1 j.length c2∧f 6=Value.int .u64 h.2∧f 26=zB z∧aL G K (L) w) ?_ ?_)
  ·rintro f f6 ⟨z,a,e0,e1,b3,e2⟩
   unfold fU at a
   refine aA ?_
   rcases aK a with ⟨J,a⟩|⟨J,a⟩
   ·refine aO J b3 (aC ?_)
    cases a
   ·exact aM J b3 (aW (aA ⟨a,e0,e1,e2⟩))
  refine aC (aBl (v:=Value.int .u64 h.1) (aB (mL rfl rfl) (aBl (v:=zB (decide (0 < h.1))) ?_)))
  rcases aK a with ⟨l,a⟩|⟨l,a⟩
  ·exact bA l rfl rfl (bA l rfl rfl (aB (bI (v:=zB true) l rfl rfl) (aAf ⟨true,a,u,rfl,rfl,a2⟩)))
  ·exact bM l rfl rfl (aBl (v:=Value.int .u64 h.2) (bM l rfl rfl (aB (mL rfl rfl) (aB (bJ (v:=zB (decide (9223372036854775807 < h.2))) l rfl rfl) (aAf ⟨decide (9223372036854775807 < h.2),a,u,rfl,rfl,a2⟩)))))
 refine aAZ (aBl (v:=i64 m) (aB (cJ rfl rfl) (aAf ?_)))
 rcases aK a with ⟨V,a⟩|⟨V,a⟩
 ·refine aO V rfl (aC ?_)
  cases a
 ·exact aM V rfl (aW (aA ⟨a,rfl,rfl,hs⟩))
theorem aCx {b:aZ} {to_:(Int × Int)} {o:Nat} {a:(List ((Int × Int) × Int))} {q:Nat} {p:(List Arc)} {d:Int} {r:Nat} {R:(List Arc)} (J:aL G K (aN 160 K a7 c8 p::box b6 145 [zS a7 p.length c8]::L) w) (V:fW K a1 o [zM (some q)]) (Z:rdM K q a) (a0:fW K a9 r [i64 d]) (c:mR b to_ a p d=some R):
  Calls Tryz.prog 156 ([cL b,zA #[i64 to_.1,i64 to_.2],bY a1 o,zP (some ⟨b6,0,none⟩),bY a9 r]:List Value).toArray w (fV fun v w'=>∃ (u:Option Addr) (x:Nat),v=zT #[]∧aL G K (aN 160 K u x R::box b6 145 [zS u R.length x]::L) w'):=by
 let y:=[i64 d,cL b,i64 ((nY a to_).getD 0)]
 refine aT Tryz.func156 rfl (by kernel_rfl) (by show (5:Nat)≤23;decide) ?_
 unfold mR at c
 refine aAZ (dW (v:=zA #[i64 to_.1,i64 to_.2]) (vs:=[i64 to_.1,i64 to_.2]) J rfl rfl (fun m b4 e=>(aAf (aAZ (aB (bH (t:=0) aFJ e V rfl rfl) (aB (dK (us:=[i64 to_.1,i64 to_.2]) aGI e (i:=0) rfl rfl rfl rfl) (aB (R_lookK (kv:=a) (k:=to_) (z:=(0:Int)) Tryz.runUnderlying173 aFK Tryz.zeroValue2 e Z rfl rfl) (aBl (v:=zT #[i64 ((nY a to_).getD 0),zB ((nY a to_).isSome)]) (aB (bV rfl rfl) (aB (bV rfl rfl) (pM (v:=i64 ((nY a to_).getD 0)) (pM (v:=zB ((nY a to_).isSome)) (aAf (aAZ (aBl (v:=zB ((nY a to_).isSome)) (aAf ?_))))))))))))))))
 rcases aK c with ⟨n,c⟩|⟨n,c⟩
 ·refine aO n rfl (aC (aB (bR sc_145 e (i:=2) rfl rfl rfl) (aB (bH (t:=0) sc_3 e a0 rfl rfl) (aBl (v:=cL b) (aBl (v:=i64 ((nY a to_).getD 0)) (aB (kU (vs:=[(0,i64 d),(1,cL b),(2,i64 ((nY a to_).getD 0))]) (cs:=y) bs_160 rfl (by kernel_rfl)) (dM (Kt:=K) (xs:=([⟨d,b,((nY a to_).getD 0)⟩]:List Arc)) (cs:=y) (vs:=[(0,zA #[i64 d,cL b,i64 ((nY a to_).getD 0)])]) aKQ ez_160 rfl rfl e rfl (by kernel_rfl) rfl rfl rfl ⟨rfl,trivial⟩ ?_)))))))
  intro a2 a3 (a4:aL G K (aN 160 K a2 1 ([⟨d,b,((nY a to_).getD 0)⟩]:List Arc)::box m 126 [i64 to_.1,i64 to_.2]::aN 160 K a7 c8 p::box b6 145 [zS a7 p.length c8]::L) a3)
  obtain ⟨l,a5,c⟩:=aI c
  refine iY (i:=1) aKQ Tryz.underlying145 ez_160 rfl rfl a4 rfl (Hp.le_refl _) (Hp.le_refl _) a5 rfl rfl rfl rfl (fun _ h=>h) (fun g j a6 (a8:aL G K (box m 126 [i64 to_.1,i64 to_.2]::aN 160 K g j l::box b6 145 [zS a7 p.length c8]::L) a6)=>(cC (i:=2) (ns:=[zS g l.length j]) (us:=[zS g l.length j]) Tryz.sizeOf145 a8 rfl rfl rfl rfl rfl (dL rfl) rfl rfl (fun b0 (b1:aL G K (box m 126 [i64 to_.1,i64 to_.2]::aN 160 K g j l::box b6 145 [zS g l.length j]::L) b0)=>?_)))
  cases zI c
  exact aF (yA Tryz.results156 ⟨g,j,rfl,(aL.arr 1 [] b1 rfl)⟩)
 ·refine aM n rfl ?_
  cases zI c
  exact aW (yA Tryz.results156 ⟨a7,c8,rfl,(aL.arr 1 [] e rfl)⟩)
theorem aDy {J V:Int} {o:(List aZ)} {r:(List Edge)} {b2:(List Int)} {b3:(List aZ)} {u x:Int} {p:(List aZ)} {q:(List Edge)} {Z:(List (List Int))} {n:(List ((Int × Int) × Int))} {l:Nat} {a0:(List (List aZ))} {pair:(List Int)} {a7:Nat} {d0:(List ((Int × Int) × Int))} {e2:Nat} {d1:(List Arc)} {d2:Int} {a9:Nat} {R:(List Arc)} (hs:aL G K (aN 38 Kf a20 c21 Z::fH l n::aN 22 Kf a23 c24 a0::box b1 176 [i64 J,i64 V,zS a2 o.length c3,zS a5 r.length c6,zS a8 b2.length c9,zS a11 b3.length c12,i64 u,i64 x,zS a14 p.length c15,zS a17 q.length c18,zS a20 Z.length c21,zM (some l),zS a23 a0.length c24]::aN 160 K a34 c35 d1::box b33 145 [zS a34 d1.length c35]::L) w) (j7:Hp.le Kf K) (h4:bT K a2 c3 o) (h7:bT K a5 c6 r) (j8:bT K a8 c9 b2) (j9:bT K a11 c12 b3) (f3:bT K a14 c15 p) (f4:bT K a17 c18 q) (b6:bT K a25 c26 pair) (f5:fW K a28 a7 [zM (some e2)]) (f6:rdM K e2 d0) (f7:fW K a36 a9 [i64 d2]) (g:oJ J V o r b2 b3 u x p q Z n a0 pair d0 d1 d2=some R):
  Calls Tryz.prog 145 ([zP (some ⟨b1,0,none⟩),zS a25 pair.length c26,Value.func (.func 156) #[] #[bY a28 a7,zP (some ⟨b33,0,none⟩),bY a36 a9]]:List Value).toArray w (fV fun v w'=>∃ (e3:Option Addr) (e4:Nat),v=zT #[]∧aL G K (aN 38 Kf a20 c21 Z::fH l n::aN 22 Kf a23 c24 a0::box b1 176 [i64 J,i64 V,zS a2 o.length c3,zS a5 r.length c6,zS a8 b2.length c9,zS a11 b3.length c12,i64 u,i64 x,zS a14 p.length c15,zS a17 q.length c18,zS a20 Z.length c21,zM (some l),zS a23 a0.length c24]::aN 160 K e3 e4 R::box b33 145 [zS e3 R.length e4]::L) w'):=by
 let a1:=[i64 J,i64 V,zS a2 o.length c3,zS a5 r.length c6,zS a8 b2.length c9,zS a11 b3.length c12,i64 u,i64 x,zS a14 p.length c15,zS a17 q.length c18,zS a20 Z.length c21,zM (some l),zS a23 a0.length c24]
 let a3:=aN 38 Kf a20 c21 Z
 let a4:=aN 22 Kf a23 c24 a0
 refine aT Tryz.func145 rfl (by kernel_rfl) (by show (3:Nat)≤56;decide) ?_
 unfold oJ at g
 refine aH ?_
 obtain ⟨f8,b7,f9,e5,g0⟩:=aL.lendB (i:=3) hs rfl
 refine eQ (C:=fun w'=>∃ L',aL G f8 L' w') [(0,0),(1,0),(2,0),(3,0),(4,0),(5,0),(6,0),(7,0),(10,0),(8,1),(9,0)] bK (by kernel_rfl) (fun _ hg=>⟨_,aL.mono e5 hg⟩) (fun k0 g1=>?_)
 have b4:=aL.mono e5 g1
 refine bS rfl (fun _ _=>aD (v:=zP (some ⟨b1,0,none⟩)) rfl) (bS rfl (fun _ _=>dJ rfl) (bS rfl (fun _ _=>bB (t':=0) oD rfl rfl) (bS rfl (fun _ _=>bB (t':=0) iZ rfl rfl) (bS rfl (fun _ ⟨_,b4⟩=>gO (t:=0) (vs:=[i64 J,i64 V,zS a2 o.length c3,zS a5 r.length c6]) fD b4 f9 rfl rfl rfl) (bS rfl (fun _ _=>aD (v:=zS a25 pair.length c26) rfl) ?_)))))
 obtain ⟨g2,e6,g⟩:=aI g
 refine bS rfl (fun _ _=>cO bW rfl (b6.mono b7) rfl rfl rfl e6) ?_
 obtain ⟨k1,g3,g4⟩:=bT.el (sz:=1) rfl b6 e6
 cases g4
 refine bS rfl (fun _ ⟨_,b4⟩=>bH (t:=0) cP b4 (g3.mono b7) rfl rfl) (bS rfl (fun _ _=>aD (v:=i64 0) rfl) (lL rfl ?_))
 obtain ⟨m,g5,g⟩:=aI g
 refine aU (vs:=[zA #[i64 J,i64 V,zS a2 o.length c3,zS a5 r.length c6],i64 g2]) Tryz.call121 rfl (uR (t:=⟨J,V,o,r⟩) b4 (h4.mono b7) (h7.mono b7) g5) ?_
 rintro _ k2 ⟨y,z,rfl,e7⟩
 refine aF (aA ⟨⟨_,e7⟩,?_⟩)
 refine bS rfl (fun _ _=>bQ (len:=m.length) cR rfl) (kB ?_)
 have g6:=g0 _ _ e7
 refine aA (bD (fun f w=>∃ (b8:List Arc) (b9:Option Addr) (c0:Nat),oN b8=some R∧aL G K (aN 160 K b9 c0 b8::box b1 176 a1::a3::fH l n::a4::box b33 145 [zS b9 b8.length c0]::L) w) ?_ ?_)
 ·rintro f k3 ⟨b8,b9,c0,g,g7⟩
  unfold oN at g
  cases zI g
  exact yA Tryz.results145 ⟨b9,c0,rfl,(aL.arr 5 [2,3,4,1,0] g7 rfl)⟩
 obtain ⟨k4,g9,g⟩:=aI g
 refine cD g9 (fun (s:(List Arc × Int)) f w=>match s with|(d,a6)=>∃ (h:Option Addr) (j:Nat),f 0=zP (some ⟨b1,0,none⟩)∧f 1=zS a25 pair.length c26∧f 2=Value.func (.func 156) #[] #[bY a28 a7,zP (some ⟨b33,0,none⟩),bY a36 a9]∧f 19=zS y m.length z∧f 20=i64 (m.length:Int)∧f 21=i64 a6∧aL G K (box b1 176 a1::aN 63 K y z m::a3::fH l n::a4::aN 160 K h j d::box b33 145 [zS h d.length j]::L) w) ?_ ?_
 ·exact ⟨a34,c35,rfl,rfl,rfl,rfl,rfl,rfl,g6⟩
 ·rintro ⟨d,a6⟩ e8 f k5 b h0 ⟨h,j,c1,d4,d5,d6,d7,c2,c4⟩
  replace b:iP o u x p q pair d0 d2 m d a6=some e8:=b
  unfold iP at b
  refine aAZ (aB (cJ c2 d7) (aAf (aH ?_)))
  rcases aK b with ⟨d8,b⟩|⟨d8,b⟩
  ·refine aO d8 rfl (aW (aA (aH (bD (fun f w=>∃ (b5:List Arc) (c5:Option Addr) (c7:Nat),iO a6 b5=some e8∧f 0=zP (some ⟨b1,0,none⟩)∧f 1=zS a25 pair.length c26∧f 2=Value.func (.func 156) #[] #[bY a28 a7,zP (some ⟨b33,0,none⟩),bY a36 a9]∧f 19=zS y m.length z∧f 20=i64 (m.length:Int)∧f 21=i64 a6∧aL G K (aN 160 K c5 c7 b5::box b1 176 a1::aN 63 K y z m::a3::fH l n::a4::box b33 145 [zS c5 b5.length c7]::L) w) ?_ ?_))))
   ·rintro f k6 ⟨b5,c5,c7,b,h1,h2,h3,h5,h6,h8,h9⟩
    unfold iO at b
    exact aA (aC (aB (cX h8 rfl) (aBl (v:=i64 (wr (a6+1))) (aAf ⟨(b5,wr (a6+1)),(zI b).symm,c5,c7,h1,h2,h3,h5,h6,rfl,(aL.arr 6 [1,2,3,4,5,0] h9 rfl)⟩))))
   refine aAZ ?_
   obtain ⟨a,d9,b⟩:=aI b
   have i0:=cG c4 (i:=1) rfl d9
   refine aB (dA cR rfl i0 d6 rfl c2 d9) (aB (wX (t:=0) (vs:=[i64 a.F,i64 a.B,i64 a.To]) mB c4 (i:=1) rfl d9 rfl rfl rfl rfl) (cF (vs:=[i64 0,i64 0,i64 0]) Tryz.zeroValue63 c4 rfl (fun c8 k7 i1=>(cC (i:=0) (ns:=[i64 a.F,i64 a.B,i64 a.To]) (us:=[i64 a.F,i64 a.B,i64 a.To]) Tryz.sizeOf63 i1 rfl rfl rfl rfl rfl (dL rfl) rfl rfl (fun i2 (e:aL G K (box c8 63 [i64 a.F,i64 a.B,i64 a.To]::box b1 176 a1::aN 63 K y z m::a3::fH l n::a4::aN 160 K h j d::box b33 145 [zS h d.length j]::L) i2)=>(aAf (aH (cT (C:=fun w'=>aL G K (box c8 63 [i64 a.F,i64 a.B,i64 a.To]::box b1 176 a1::aN 63 K y z m::a3::fH l n::a4::aN 160 K h j d::box b33 145 [zS h d.length j]::L) w') bK (by kernel_rfl) (aL.mono e (dE.drew _)) (aQ (fun _ e=>aD c1) (aQ (fun _ e=>dJ rfl) (aQ (fun _ e=>bB (t':=0) oD rfl rfl) (aQ (fun _ e=>bB (t':=0) iZ rfl rfl) (aQ (fun _ e=>bB (t':=2) gL rfl rfl) (aQ (fun _ e=>bR jJ e (i:=1) rfl rfl rfl) (aQ (fun _ e=>bB (t':=1) fP rfl rfl) (aQ (fun _ e=>bR cP e (i:=0) rfl rfl rfl) ?_))))))))))))))))
   obtain ⟨b0,e9,b⟩:=aI b
   refine aQ (fun _ e=>cO cY rfl h4 rfl rfl rfl e9) ?_
   obtain ⟨k8,i3,i4⟩:=bT.el (sz:=1) rfl h4 e9
   cases i4
   refine aQ (fun _ e=>bH (t:=0) pK e i3 rfl rfl) (aQ (fun _ e=>aG (v:=cL b0) rfl) (dC (fun k9 c=>(aA (aH (cT (C:=fun w'=>aL G K (box c8 63 [i64 a.F,i64 a.B,i64 a.To]::box b1 176 a1::aN 63 K y z m::a3::fH l n::a4::aN 160 K h j d::box b33 145 [zS h d.length j]::L) w') bK (by kernel_rfl) (aL.mono c (dE.drew _)) (aQ (fun _ c=>aD c1) (aQ (fun _ c=>dJ rfl) (aQ (fun _ c=>bB (t':=6) aDe rfl rfl) (aQ (fun _ c=>dK (us:=[i64 u,i64 x,zS a14 p.length c15,zS a17 q.length c18]) fD c (i:=1) rfl rfl rfl rfl) (aQ (fun _ c=>aD d4) ?_)))))))))))
   obtain ⟨i5,f0,b⟩:=aI b
   refine aQ (fun _ c=>cO bW rfl b6 rfl rfl rfl f0) ?_
   obtain ⟨l0,i6,i7⟩:=bT.el (sz:=1) rfl b6 f0
   cases i7
   refine aQ (fun _ c=>bH (t:=0) cP c i6 rfl rfl) (aQ (fun _ c=>aD (v:=cL b0) rfl) ?_)
   obtain ⟨k,i8,b⟩:=aI b
   refine iR (vs:=[zA #[i64 u,i64 x,zS a14 p.length c15,zS a17 q.length c18],i64 i5,cL b0]) (v:=zT #[i64 k.1,zB k.2]) Tryz.call205 rfl (fun _ c=>(rC (t:=⟨u,x,p,q⟩) c f3 f4 i8)) (aQ (fun _ c=>aD (v:=zT #[i64 k.1,zB k.2]) rfl) (aQ (fun _ c=>bV rfl rfl) (aQ (fun _ c=>bV rfl rfl) (aQ (fun _ c=>aG (v:=i64 k.1) rfl) (aQ (fun _ c=>aG (v:=zB k.2) rfl) (dC (fun i9 e0=>(aA (aAZ (aBl (v:=zB k.2) (aAf ?_)))))))))))
   rcases aK b with ⟨e1,b⟩|⟨e1,b⟩
   ·refine aO e1 rfl (aC (aCv d5 (aBl (v:=cL b0) (aB (bB (t':=2) iB rfl rfl) (aB (bR cP e0 (i:=0) rfl rfl rfl) (aBl (v:=i64 k.1) (aB (aBS (vs:=[(0,i64 a.To),(1,i64 k.1)]) (cs:=[i64 a.To,i64 k.1]) aDP aFI rfl (by kernel_rfl)) ?_)))))))
    have j0:aL G K (aN 160 K h j d::box b33 145 [zS h d.length j]::box c8 63 [i64 a.F,i64 a.B,i64 a.To]::box b1 176 a1::aN 63 K y z m::a3::fH l n::a4::L) i9:=(aL.arr 8 [6,7,0,1,2,3,4,5] e0 rfl)
    obtain ⟨j1,j2,b⟩:=aI b
    refine kH (vs:=[cL b0,zA #[i64 a.To,i64 k.1]]) (caps:=[bY a28 a7,zP (some ⟨b33,0,none⟩),bY a36 a9]) (us:=[cL b0,zA #[i64 a.To,i64 k.1],bY a28 a7,zP (some ⟨b33,0,none⟩),bY a36 a9]) rfl Tryz.call156 rfl rfl (aCx (to_:=⟨a.To,k.1⟩) j0 f5 f6 f7 j2) ?_
    rintro _ l1 ⟨j3,j4,rfl,j5⟩
    exact aF (bG (aA ⟨j1,j3,j4,b,c1,d4,d5,d6,d7,c2,(aL.arr 8 [0,3,4,5,6,7,1] j5 rfl)⟩))
   ·exact aM e1 rfl (aW (bG (aA ⟨d,h,j,b,c1,d4,d5,d6,d7,c2,(aL.arr 7 [6,1,2,3,4,5] e0 rfl)⟩)))
  ·refine aM d8 rfl (cB (aY (aY ?_)))
   have j6:=h0 _ (zI b).symm
   subst j6
   have g:(oN d)=some R:=g
   exact bO (aA ⟨d,h,j,g,(aL.arr 6 [5,0,2,3,4] c4 rfl)⟩)
theorem vS {c0 y:Int} {a4:(List aZ)} {b0:(List Edge)} {b2:(List Int)} {b3:(List aZ)} {c1 J:Int} {b4:(List aZ)} {b5:(List Edge)} {p:(List (List Int))} {c:(List ((Int × Int) × Int))} {h:Nat} {a7:(List (List aZ))} {e4:(List Bool)} {R:(dB × (List (List Int)))} (hs:aL G K (aN 38 Kf a20 c21 p::fH h c::aN 22 Kf a23 c24 a7::box b1 176 [i64 c0,i64 y,zS a2 a4.length c3,zS a5 b0.length c6,zS a8 b2.length c9,zS a11 b3.length c12,i64 c1,i64 J,zS a14 b4.length c15,zS a17 b5.length c18,zS a20 p.length c21,zM (some h),zS a23 a7.length c24]::L) w) (k4:Hp.le Kf K) (h4:bT K a2 c3 a4) (h7:bT K a5 c6 b0) (o3:bT K a8 c9 b2) (o4:bT K a11 c12 b3) (o5:bT K a14 c15 b4) (o6:bT K a17 c18 b5) (k6:bT K a25 c26 e4) (b:kM c0 y a4 b0 b2 b3 c1 J b4 b5 p c a7 e4=some R):
  Calls Tryz.prog 64 ([zP (some ⟨b1,0,none⟩),zS a25 e4.length c26]:List Value).toArray w (fV fun v w'=>∃ (k7:Option Addr) (k8:Nat) (k9:Option Addr) (l0:Nat) (l1:Option Addr) (l2:Nat) (g9:List (Dp.Hd (List Int))),v=zT #[zA (zCa R.1 k7 k8 k9 l0),zS l1 R.2.length l2]∧List.length g9=List.length R.2∧aL G K (aN 9 K k7 k8 R.1.L::aN 63 K k9 l0 R.1.E::aN 38 K l1 l2 (dR g9 R.2)::rows [2] g9 R.2::aN 38 Kf a20 c21 p::fH h c::aN 22 Kf a23 c24 a7::box b1 176 [i64 c0,i64 y,zS a2 a4.length c3,zS a5 b0.length c6,zS a8 b2.length c9,zS a11 b3.length c12,i64 c1,i64 J,zS a14 b4.length c15,zS a17 b5.length c18,zS a20 p.length c21,zM (some h),zS a23 a7.length c24]::L) w'):=by
 let V:=[i64 c0,i64 y,zS a2 a4.length c3,zS a5 b0.length c6,zS a8 b2.length c9,zS a11 b3.length c12,i64 c1,i64 J,zS a14 b4.length c15,zS a17 b5.length c18,zS a20 p.length c21,zM (some h),zS a23 a7.length c24]
 let q:=zG
 let r:=aN 38 Kf a20 c21 p
 let u:=aN 22 Kf a23 c24 a7
 refine aT Tryz.func64 rfl (by kernel_rfl) (by show (2:Nat)≤94;decide) ?_
 unfold kM at b
 refine aAZ (cF (vs:=q) Tryz.zeroValue29 hs rfl (fun d o7 l3=>(pM (v:=zS none 0 0) (aAf (aAZ (pM (v:=zS none 0 0) (aAf (aH (aAZ (aBl (v:=zP (some ⟨b1,0,none⟩)) (aB (dJ rfl) (aB (bB (t':=10) sE rfl rfl) (aB (bR qC l3 (i:=4) rfl rfl rfl) (aB (bQ (len:=p.length) fX rfl) (aBl (v:=i64 0) (aAf (bD (fun f w=>∃ (d5:List (List Int)) (e:Option Addr) (g:Nat) (f7:List (Dp.Hd (List Int))),kL c0 y a4 b0 b2 b3 c1 J b4 b5 p c a7 d5=some R∧f 0=zP (some ⟨b1,0,none⟩)∧f 4=zP (some ⟨d,0,none⟩)∧f 6=zS e d5.length g∧List.length f7=List.length d5∧aL G K (aN 38 K e g (dR f7 d5)::rows [2] f7 d5::box d 29 q::r::fH h c::u::box b1 176 V::L) w) ?_ ?_)))))))))))))))))
 ·rintro f w39 ⟨d5,e,g,f7,b,o8,o9,h0,p0,p1⟩
  unfold kL at b
  refine aA (aAZ (aCv h0 ?_))
  obtain ⟨a,p2,b⟩:=aI b
  refine aU (vs:=[zS e d5.length g,Value.func (.func 125) #[] #[]]) Tryz.call155 rfl (lib_SortRows p1 p0 p2) ?_
  rintro _ w47 ⟨l,rfl,l4,c2,p3⟩
  refine aAf (aAZ (aLT (Int × Int) Int p3 ?_))
  intro m p4 (p5:aL G K (fH m ([]:(List ((Int × Int) × Int)))::aN 38 K e g (dR l a)::rows [2] l a::box d 29 q::r::fH h c::u::box b1 176 V::L) p4)
  refine cF (vs:=[zM none]) Tryz.zeroValue173 p5 rfl (fun a0 w53 p6=>(cC (i:=0) (ns:=[zM (some m)]) (us:=[zM (some m)]) Tryz.sizeOf173 p6 rfl rfl rfl rfl rfl (dL rfl) rfl rfl ?_))
  intro p7 (p8:aL G K (box a0 173 [zM (some m)]::fH m ([]:(List ((Int × Int) × Int)))::aN 38 K e g (dR l a)::rows [2] l a::box d 29 q::r::fH h c::u::box b1 176 V::L) p7)
  refine aAf (aH (aAZ (aCv (v:=zS e a.length g) (Eq.trans h0 (congrArg (fun n=>zS e n g) l4)) (aB (bQ (len:=a.length) fX rfl) (aBl (v:=i64 0) (aAf (bD (fun f w=>∃ (a1:(List ((Int × Int) × Int))),kK c0 y a4 b0 b2 b3 c1 J b4 b5 p c a7 a a1=some R∧f 0=zP (some ⟨b1,0,none⟩)∧f 4=zP (some ⟨d,0,none⟩)∧f 6=zS e a.length g∧f 9=zP (some ⟨a0,0,none⟩)∧aL G K (box a0 173 [zM (some m)]::fH m a1::aN 38 K e g (dR l a)::rows [2] l a::box d 29 q::r::fH h c::u::box b1 176 V::L) w) ?_ ?_)))))))
  ·rintro f w62 ⟨a1,b,p9,q0,l5,q1,q2⟩
   unfold kK at b
   refine aA (aAZ (cF (vs:=[zS none 0 0]) Tryz.zeroValue145 q2 rfl (fun c4 w65 q3=>(aAf (aH (aAZ (aCv l5 (aB (bQ (len:=a.length) fX rfl) (aBl (v:=i64 0) (aAf (bD (fun f w=>∃ (c8:List Arc) (d6:Option Addr) (d7:Nat),kJ y a4 J a a1 c8=some R∧f 0=zP (some ⟨b1,0,none⟩)∧f 4=zP (some ⟨d,0,none⟩)∧f 6=zS e a.length g∧f 9=zP (some ⟨a0,0,none⟩)∧f 12=zP (some ⟨c4,0,none⟩)∧aL G K (aN 160 K d6 d7 c8::box c4 145 [zS d6 c8.length d7]::box a0 173 [zM (some m)]::fH m a1::aN 38 K e g (dR l a)::rows [2] l a::box d 29 q::r::fH h c::u::box b1 176 V::L) w) ?_ ?_)))))))))))
   ·rintro f w75 ⟨c8,d6,d7,b,h1,l6,l7,q4,q5,o⟩
    unfold kJ at b
    refine aA (aH (cT (C:=fun w'=>aL G K (aN 160 K d6 d7 c8::box c4 145 [zS d6 c8.length d7]::box a0 173 [zM (some m)]::fH m a1::aN 38 K e g (dR l a)::rows [2] l a::box d 29 q::r::fH h c::u::box b1 176 V::L) w') bK (by kernel_rfl) (aL.mono o (dE.drew _)) (aQ (fun _ o=>bR aFJ o (i:=2) rfl q4 rfl) (aQ (fun _ o=>aD h1) (aQ (fun _ o=>dJ rfl) (aQ (fun _ o=>bB (t':=0) oD rfl rfl) (aQ (fun _ o=>bB (t':=0) iZ rfl rfl) (aQ (fun _ o=>bB (t':=1) rM rfl rfl) (aQ (fun _ o=>bR cP o (i:=10) rfl rfl rfl) (aQ (fun _ o=>aD h1) (aQ (fun _ o=>dJ rfl) (aQ (fun _ o=>bB (t':=6) aDe rfl rfl) (aQ (fun _ o=>bB (t':=7) rM rfl rfl) (aQ (fun _ o=>bR cP o (i:=10) rfl rfl rfl) (aQ (fun _ o=>aBS (vs:=[(0,i64 y),(1,i64 J)]) (cs:=[i64 y,i64 J]) aDP aFI rfl (by kernel_rfl)) (aQ (fun _ o=>R_look1 (kv:=a1) (k:=⟨y,J⟩) (z:=(0:Int)) Tryz.runUnderlying173 aFK Tryz.zeroValue2 o (i:=3) rfl rfl rfl) (aQ (fun _ o=>aG (v:=i64 ((nY a1 ⟨y,J⟩).getD 0)) rfl) (dC (fun w79 q6=>(aA (aH ?_)))))))))))))))))))))
    obtain ⟨K81,l8,q7,q8,q9⟩:=aL.lendB (i:=1) q6 rfl
    obtain ⟨l9,h2,r0,m0,r1⟩:=aL.lendB (i:=9) q8 rfl
    refine eQ (C:=fun w'=>∃ L',aL G l9 L' w') [(0,0),(1,0),(2,0),(3,0),(4,0),(5,0),(6,0),(7,0),(8,0),(9,0),(11,0),(10,1),(12,1),(13,2)] bK (by kernel_rfl) (fun _ hg=>⟨_,aL.mono m0 hg⟩) (fun w91 r2=>?_)
    have f1:=aL.mono m0 r2
    refine bS rfl (fun _ _=>aD l7) (bS rfl (fun _ _=>bQ (len:=a.length) fX rfl) (bS rfl (fun _ _=>aD (v:=i64 ((nY a1 ⟨y,J⟩).getD 0)) rfl) (bS rfl (fun _ _=>aD h1) (bS rfl (fun _ _=>dJ rfl) (bS rfl (fun _ _=>bB (t':=0) oD rfl rfl) (bS rfl (fun _ _=>bB (t':=0) iZ rfl rfl) (bS rfl (fun _ _=>bB (t':=2) gL rfl rfl) (bS rfl (fun _ ⟨_,f1⟩=>bH (t:=2) jJ f1 r0 rfl rfl) (bS rfl (fun _ ⟨_,f1⟩=>bH (t:=0) sc_145 f1 (q7.mono h2) q5 rfl) (bS rfl (fun _ _=>aD l7) (lL rfl ?_)))))))))))
    obtain ⟨K95,r3,r4,r5,r6⟩:=aL.lendS (i:=0) f1 (zL l8 h2) rfl
    obtain ⟨x,r7,b⟩:=aI b
    refine aU (vs:=[i64 (a.length:Int),i64 ((nY a1 ⟨y,J⟩).getD 0),zS a2 a4.length c3,zS d6 c8.length d7]) Tryz.call118 rfl (aNx r5 (h4.mono (zL (zL l8 h2) r3)) r4 r7) ?_
    rintro _ a13 ⟨e5,e6,e7,e8,rfl,r8⟩
    have m1:=r6 _ _ r8
    refine aF (aA ⟨⟨_,m1⟩,?_⟩)
    refine lL rfl (cC (i:=7) (ns:=(zC x e5 e6 e7 e8)) (us:=(zC x e5 e6 e7 e8)) Tryz.sizeOf29 m1 rfl l6 rfl rfl rfl (dL rfl) rfl rfl (fun r9 (m2:aL G l9 (aN 160 K d6 d7 c8::aN 9 K e5 e6 x.L::aN 63 K e7 e8 x.E::box a0 173 [zM (some m)]::fH m a1::aN 38 K e g (dR l a)::rows [2] l a::box d 29 (zC x e5 e6 e7 e8)::r::fH h c::u::L) r9)=>(aF (aA ⟨⟨_,m2⟩,?_⟩))))
    have s0:=r1 _ _ m2
    have m3:=q9 _ _ s0
    refine aBn rfl (pM (v:=zS e a.length g) (aAf (kB (aA ?_))))
    cases zI b
    exact bF (aBo Tryz.results64 (kW (vs:=(zC x e5 e6 e7 e8)) rfl fD m3 (i:=9) rfl l6 rfl) (wY rfl rfl) ⟨e5,e6,e7,e8,e,g,l,rfl,c2,(aL.arr 13 [3,4,7,8,10,11,12,1] m3 rfl)⟩)
   have s2:=aL.nil (α:=Arc) q3 160 K
   obtain ⟨a15,s3,b⟩:=aI b
   refine cD s3 (fun (s:(List Arc × Int)) f w=>match s with|(b6,d0)=>∃ (d1:Option Addr) (d2:Nat),f 0=zP (some ⟨b1,0,none⟩)∧f 4=zP (some ⟨d,0,none⟩)∧f 6=zS e a.length g∧f 9=zP (some ⟨a0,0,none⟩)∧f 12=zP (some ⟨c4,0,none⟩)∧f 56=zS e a.length g∧f 57=i64 (a.length:Int)∧f 58=i64 d0∧aL G K (aN 160 K d1 d2 b6::box c4 145 [zS d1 b6.length d2]::box a0 173 [zM (some m)]::fH m a1::aN 38 K e g (dR l a)::rows [2] l a::box d 29 q::r::fH h c::u::box b1 176 V::L) w) ?_ ?_
   ·exact ⟨none,0,p9,q0,l5,q1,rfl,rfl,rfl,rfl,s2⟩
   ·rintro ⟨b6,d0⟩ s4 f a16 a9 s5 ⟨d1,d2,h3,m4,m5,h5,h6,m6,m7,f8,f9⟩
    replace a9:gH c0 y a4 b0 b2 b3 c1 J b4 b5 p c a7 a a1 b6 d0=some s4:=a9
    unfold gH at a9
    refine aAZ (aB (cJ f8 m7) (aAf (aH ?_)))
    rcases aK a9 with ⟨h8,a9⟩|⟨h8,a9⟩
    ·refine aO h8 rfl (aW (aA (aH (cU (aAZ (aCv f8 ?_))))))
     obtain ⟨h9,f2,a9⟩:=aI a9
     obtain ⟨⟨i0,i1⟩,i2⟩:=get_hd c2 f2
     have s6:=cG f9 (i:=4) rfl (aCZ c2 f2 i2)
     refine aB (dA fX rfl s6 m6 rfl f8 f2) (aB (kA (t:=0) mM f9 (i:=4) rfl (aCZ c2 f2 i2) rfl rfl rfl) (cF (vs:=[i64 0]) Tryz.zeroValue3 f9 rfl (fun i3 a18 s7=>(cC (i:=0) (ns:=[i64 d0]) (us:=[i64 d0]) Tryz.sizeOf3 s7 rfl rfl rfl rfl rfl (dL rfl) rfl rfl (fun m8 (s8:aL G K (box i3 3 [i64 d0]::aN 160 K d1 d2 b6::box c4 145 [zS d1 b6.length d2]::box a0 173 [zM (some m)]::fH m a1::aN 38 K e g (dR l a)::rows [2] l a::box d 29 q::r::fH h c::u::box b1 176 V::L) m8)=>(pM (v:=zS i0 h9.length i1) (aAf (aC (aCv h3 (aBl (v:=zS i0 h9.length i1) (aB (rL (vs:=[zP (some ⟨a0,0,none⟩),zP (some ⟨c4,0,none⟩),zP (some ⟨i3,0,none⟩)]) (lst3 h5 h6 rfl)) ?_)))))))))))
     obtain ⟨a19,d8,a21,s9,t0,t1⟩:=aL.lendD' (i:=5) s8 c2 rfl rfl
     obtain ⟨a22,d3,t2,t3,t4⟩:=aL.lendM (i:=4) t0 rfl
     obtain ⟨a24,c5,t5,t6,t7⟩:=aL.lendB (i:=3) t3 rfl
     obtain ⟨t8,b7,t9,u0,u1⟩:=aL.lendB (i:=0) t6 rfl
     have u2:aL G t8 (r::fH h c::u::box b1 176 V::aN 160 K d1 d2 b6::box c4 145 [zS d1 b6.length d2]::box d 29 q::L) m8:=(aL.arr 7 [3,4,5,6,0,1,2] u0 rfl)
     obtain ⟨u3,u4,a9⟩:=aI a9
     refine aU (vs:=[zP (some ⟨b1,0,none⟩),zS i0 h9.length i1,Value.func (.func 156) #[] #[bY (some ⟨a0,0,none⟩) 0,zP (some ⟨c4,0,none⟩),bY (some ⟨i3,0,none⟩) 0]]) Tryz.call145 rfl (aDy (Kf:=Kf) u2 (zL (zL (zL (zL k4 d8) d3) c5) b7) (h4.mono (zL (zL (zL d8 d3) c5) b7)) (h7.mono (zL (zL (zL d8 d3) c5) b7)) (o3.mono (zL (zL (zL d8 d3) c5) b7)) (o4.mono (zL (zL (zL d8 d3) c5) b7)) (o5.mono (zL (zL (zL d8 d3) c5) b7)) (o6.mono (zL (zL (zL d8 d3) c5) b7)) ((aIe (s9 _ _ _ i2 (aKf f2))).mono (zL (zL d3 c5) b7)) (t5.mono b7) (t2.mono (zL c5 b7)) t9 u4) ?_
     rintro _ a26 ⟨u5,u6,rfl,u7⟩
     have u8:=u1 _ _ u7
     have u9:=t7 _ _ u8
     have v0:=t4 _ _ u9
     have v1:=t1 _ _ v0
     exact aF (bG (aA (aC (aB (cX f8 rfl) (aBl (v:=i64 (wr (d0+1))) (aAf ⟨(u3,wr (d0+1)),(zI a9).symm,u5,u6,h3,m4,m5,h5,h6,m6,m7,rfl,(aL.arr 12 [9,10,3,2,0,1,11,5,6,7,8] v1 rfl)⟩))))))
    ·refine aM h8 rfl (cB (aY (aY ?_)))
     have v2:=s5 _ (zI a9).symm
     subst v2
     have b:(kJ y a4 J a a1 b6)=some R:=b
     exact bO (aA ⟨b6,d1,d2,b,h3,m4,m5,h5,h6,f9⟩)
  obtain ⟨a27,v3,b⟩:=aI b
  refine cD v3 (fun (s:((List ((Int × Int) × Int)) × Int)) f w=>match s with|(f3,d4)=>f 0=zP (some ⟨b1,0,none⟩)∧f 4=zP (some ⟨d,0,none⟩)∧f 6=zS e a.length g∧f 9=zP (some ⟨a0,0,none⟩)∧f 39=zS e a.length g∧f 40=i64 (a.length:Int)∧f 41=i64 d4∧aL G K (box a0 173 [zM (some m)]::fH m f3::aN 38 K e g (dR l a)::rows [2] l a::box d 29 q::r::fH h c::u::box b1 176 V::L) w) ?_ ?_
  ·exact ⟨o8,o9,(Eq.trans h0 (congrArg (fun n=>zS e n g) l4)),rfl,rfl,rfl,rfl,p8⟩
  ·rintro ⟨f3,d4⟩ v4 f a28 Z v5 ⟨m9,n0,n1,i4,n2,n3,g0,g1⟩
   replace Z:gI a f3 d4=some v4:=Z
   unfold gI at Z
   refine aAZ (aB (cJ g0 n3) (aAf (aH ?_)))
   rcases aK Z with ⟨i5,Z⟩|⟨i5,Z⟩
   ·refine aO i5 rfl (aW (aA (aH (cU (aAZ (aCv g0 ?_))))))
    obtain ⟨i6,d9,Z⟩:=aI Z
    obtain ⟨⟨i7,i8⟩,f4⟩:=get_hd c2 d9
    have v6:=cG g1 (i:=2) rfl (aCZ c2 d9 f4)
    refine aB (dA fX rfl v6 n2 rfl g0 d9) (aB (kA (t:=0) mM g1 (i:=2) rfl (aCZ c2 d9 f4) rfl rfl rfl) (pM (v:=i64 d4) (pM (v:=zS i7 i6.length i8) (aAf ?_))))
    obtain ⟨a29,a30,v7,v8,v9⟩:=aL.lendB (i:=0) g1 rfl
    obtain ⟨w0,w1,a31,i9,n4,w2⟩:=aL.lendD' (i:=1) v8 c2 rfl rfl
    refine eQ (C:=fun w'=>∃ L',aL G w0 L' w') [(0,0),(1,0),(2,0),(3,0),(4,0),(5,0),(6,0),(7,0),(8,0),(9,2)] bK (by kernel_rfl) (fun _ hg=>⟨_,aL.mono n4 hg⟩) (fun a33 w3=>?_)
    have e0:=aL.mono n4 w3
    refine bS rfl (fun _ ⟨_,e0⟩=>bH (t:=0) aFJ e0 (v7.mono w1) i4 rfl) (bS rfl (fun _ _=>aD (v:=zS i7 i6.length i8) rfl) ?_)
    obtain ⟨j0,j1,Z⟩:=aI Z
    have n5:=aCB (aIe (i9 _ _ _ f4 (aKf d9))) j1
    refine bS rfl (fun _ _=>dA bW rfl n5 rfl rfl rfl j1) ?_
    obtain ⟨a34,w4,w5⟩:=bT.el (sz:=1) rfl (aIe (i9 _ _ _ f4 (aKf d9))) j1
    cases w5
    refine bS rfl (fun _ ⟨_,e0⟩=>bH (t:=0) cP e0 w4 rfl rfl) (bS rfl (fun _ _=>aD (v:=zS i7 i6.length i8) rfl) ?_)
    obtain ⟨j2,n6,Z⟩:=aI Z
    refine bS rfl (fun _ _=>dA bW rfl n5 rfl rfl rfl n6) ?_
    obtain ⟨a35,w6,w7⟩:=bT.el (sz:=1) rfl (aIe (i9 _ _ _ f4 (aKf d9))) n6
    cases w7
    refine bS rfl (fun _ ⟨_,e0⟩=>bH (t:=0) cP e0 w6 rfl rfl) (bS rfl (fun _ _=>aBS (vs:=[(0,i64 j0),(1,i64 j2)]) (cs:=[i64 j0,i64 j2]) aDP aFI rfl (by kernel_rfl)) (bS rfl (fun _ _=>aD (v:=i64 d4) rfl) ?_))
    have w8:=w2 _ _ e0
    have w9:=v9 _ _ w8
    refine aBn rfl ?_
    obtain ⟨n7,x0,Z⟩:=aI Z
    exact aLW (i:=3) (k:=⟨j0,j2⟩) (v:=d4) Tryz.runUnderlying173 aFK w9 rfl rfl rfl rfl x0 (fun x1 (x2:aL G K (box a0 173 [zM (some m)]::aN 38 K e g (dR l a)::rows [2] l a::fH m n7::box d 29 q::r::fH h c::u::box b1 176 V::L) x1)=>(aAf (kB (bG (aA (aC (aB (cX g0 rfl) (aBl (v:=i64 (wr (d4+1))) (aAf ⟨(n7,wr (d4+1)),(zI Z).symm,m9,n0,n1,i4,n2,n3,rfl,(aL.arr 4 [0,3,1,2] x2 rfl)⟩)))))))))
   ·refine aM i5 rfl (cB (aY (aY ?_)))
    have x3:=v5 _ (zI Z).symm
    subst x3
    have b:(kK c0 y a4 b0 b2 b3 c1 J b4 b5 p c a7 a f3)=some R:=b
    exact bO (aA ⟨f3,b,m9,n0,n1,i4,g1⟩)
 have x4:aL G K (aN 38 K none 0 (dR ([]:List (Dp.Hd (List Int))) ([]:List (List Int)))::rows [2] ([]:List (Dp.Hd (List Int))) ([]:List (List Int))::box d 29 q::r::fH h c::u::box b1 176 V::L) o7:=aL.nil (α:=Cells _) (aL.rowsNil (α:=(List Int)) (tys:=[2]) l3) 38 K
 obtain ⟨a36,x5,b⟩:=aI b
 refine cD x5 (fun (s:(List (List Int) × Int)) f w=>match s with|(a6,c7)=>∃ (e1:Option Addr) (e2:Nat) (a3:List (Dp.Hd (List Int))),f 0=zP (some ⟨b1,0,none⟩)∧f 1=zS a25 e4.length c26∧f 4=zP (some ⟨d,0,none⟩)∧f 6=zS e1 a6.length e2∧f 19=zS a20 p.length c21∧f 20=i64 (p.length:Int)∧f 21=i64 c7∧List.length a3=List.length a6∧aL G K (aN 38 K e1 e2 (dR a3 a6)::rows [2] a3 a6::box d 29 q::r::fH h c::u::box b1 176 V::L) w) ?_ ?_
 ·exact ⟨none,0,[],rfl,rfl,rfl,rfl,rfl,rfl,rfl,rfl,x4⟩
 ·rintro ⟨a6,c7⟩ n8 f a37 j x6 ⟨e1,e2,a3,j3,j4,j5,j6,j7,j8,f5,g2,e9⟩
  replace j:gJ p e4 a6 c7=some n8:=j
  unfold gJ at j
  refine aAZ (aB (cJ f5 j8) (aAf (aH ?_)))
  rcases aK j with ⟨j9,j⟩|⟨j9,j⟩
  ·refine aO j9 rfl (aW (aA (aH (bD (fun f w=>∃ (e3:List (List Int)) (g3:Option Addr) (g4:Nat) (f6:List (Dp.Hd (List Int))),iW c7 e3=some n8∧f 0=zP (some ⟨b1,0,none⟩)∧f 1=zS a25 e4.length c26∧f 4=zP (some ⟨d,0,none⟩)∧f 6=zS g3 e3.length g4∧f 19=zS a20 p.length c21∧f 20=i64 (p.length:Int)∧f 21=i64 c7∧List.length f6=List.length e3∧aL G K (aN 38 K g3 g4 (dR f6 e3)::rows [2] f6 e3::box d 29 q::r::fH h c::u::box b1 176 V::L) w) ?_ ?_))))
   ·rintro f a38 ⟨e3,g3,g4,f6,j,x7,x8,x9,y0,y1,y2,y3,y4,y5⟩
    unfold iW at j
    exact aA (aC (aB (cX y3 rfl) (aBl (v:=i64 (wr (c7+1))) (aAf ⟨(e3,wr (c7+1)),(zI j).symm,g3,g4,f6,x7,x8,x9,y0,y1,y2,rfl,y4,y5⟩))))
   refine aAZ (aCv f5 ?_)
   obtain ⟨g5,k0,j⟩:=aI j
   have y6:=cG e9 (i:=3) rfl k0
   refine aB (dA fX rfl y6 j7 rfl f5 k0) ?_
   obtain ⟨a39,y7,y8⟩:=aBc (sz:=1) rfl e9 (i:=3) rfl k0
   obtain ⟨g6,g7,rfl,y9⟩:=y8
   refine aB (aEa (t:=0) (v:=zS g6 g5.length g7) mM y7 rfl rfl) (pM (v:=i64 c7) (pM (v:=zS g6 g5.length g7) (aAf (aAZ (aCv j4 (aBl (v:=i64 c7) ?_))))))
   obtain ⟨a40,n9,j⟩:=aI j
   refine aB (cO fQ rfl k6 rfl rfl rfl n9) ?_
   obtain ⟨a41,z0,z1⟩:=bT.el (sz:=1) rfl k6 n9
   cases z1
   refine aB (bH (t:=0) yE e9 z0 rfl rfl) (aAf ?_)
   rcases aK j with ⟨k1,j⟩|⟨k1,j⟩
   ·refine aO k1 rfl (aC (aCv j6 (aBl (v:=zS g6 g5.length g7) ?_)))
    obtain ⟨f0,z2,j⟩:=aI j
    refine aU (vs:=[zS g6 g5.length g7]) Tryz.call154 rfl (oM e9 (y9.mono k4) z2) ?_
    rintro _ z3 ⟨b8,b9,rfl,z4⟩
    have z5:aL G K (rows [2] ([(b8,b9)]:List (Dp.Hd (List Int))) [f0]::aN 38 K e1 e2 (dR a3 a6)::rows [2] a3 a6::box d 29 q::r::fH h c::u::box b1 176 V::L) z3:=aL.rowsOne z4
    refine dM (Kt:=K) (xs:=dR ([(b8,b9)]:List (Dp.Hd (List Int))) ([f0]:List (List Int))) (cs:=[zS b8 f0.length b9]) (vs:=[(0,zS b8 f0.length b9)]) fX aBV rfl rfl z5 rfl (by kernel_rfl) rfl rfl rfl ⟨rfl,trivial⟩ ?_
    intro z6 z7 (z8:aL G K (aN 38 K z6 1 (dR ([(b8,b9)]:List (Dp.Hd (List Int))) ([f0]:List (List Int)))::rows [2] ([(b8,b9)]:List (Dp.Hd (List Int))) ([f0]:List (List Int))::aN 38 K e1 e2 (dR a3 a6)::rows [2] a3 a6::box d 29 q::r::fH h c::u::box b1 176 V::L) z7)
    obtain ⟨g8,o0,j⟩:=aI j
    refine WO_appD (i:=0) (tys:=[2]) (hds:=a3) (hds2:=([(b8,b9)]:List (Dp.Hd (List Int)))) fX Tryz.underlying74 aBV rfl rfl z8 g2 rfl rfl rfl o0 rfl rfl rfl rfl ?_
    intro k2 k3 z9 (a00:aL G K (aN 38 K k2 k3 (dR (a3++([(b8,b9)]:List (Dp.Hd (List Int)))) g8)::rows [2] (a3++([(b8,b9)]:List (Dp.Hd (List Int)))) g8::box d 29 q::r::fH h c::u::box b1 176 V::L) z9)
    exact pM (v:=zS k2 g8.length k3) (aF (bG (aA ⟨g8,k2,k3,(a3++([(b8,b9)]:List (Dp.Hd (List Int)))),j,j3,j4,j5,rfl,j7,j8,f5,(app_len g2 rfl o0),a00⟩)))
   ·exact aM k1 rfl (aW (bG (aA ⟨a6,e1,e2,a3,j,j3,j4,j5,j6,j7,j8,f5,g2,e9⟩)))
  ·refine aM j9 rfl (cB (aY (aY ?_)))
   have a01:=x6 _ (zI j).symm
   subst a01
   have b:(kL c0 y a4 b0 b2 b3 c1 J b4 b5 p c a7 a6)=some R:=b
   exact bO (aA ⟨a6,e1,e2,a3,b,j3,j5,j6,g2,e9⟩)
theorem aFr {p:cA} {b:dB} {R:(cA × (List (List Int)) × Int)} (hs:aL G K (L) w) (hG:G.lo=0) (h3:bT K a1 c2 p.S.L) (h6:bT K a4 c5 p.S.E) (h9:bT K a7 c8 p.M) (d3:bT K a10 c11 p.C) (f7:bT K a13 c14 b.L) (f8:bT K a16 c17 b.E) (k:uO p b=some R):
  Calls Tryz.prog 61 ([zA (zEa p a1 c2 a4 c5 a7 c8 a10 c11),zA (zCa b a13 c14 a16 c17)]:List Value).toArray w (fV fun v w'=>∃ (i5:Option Addr) (i6:Nat) (i7:Option Addr) (i8:Nat) (i9:Option Addr) (j0:Nat) (j1:Option Addr) (j2:Nat) (j3:Option Addr) (j4:Nat) (f9:List (Dp.Hd (List Int))),v=zT #[zA (zEa R.1 i5 i6 i7 i8 i9 j0 j1 j2),zS j3 R.2.1.length j4,i64 R.2.2]∧List.length f9=List.length R.2.1∧aL G K (aN 9 K i5 i6 R.1.S.L::aN 63 K i7 i8 R.1.S.E::aN 2 K i9 j0 R.1.M::aN 9 K j1 j2 R.1.C::aN 38 K j3 j4 (dR f9 R.2.1)::rows [2] f9 R.2.1::L) w'):=by
 let Z:=(zE p a1 c2 a4 c5 a7 c8 a10 c11)
 let o:=zK
 let b0:=(zC b a13 c14 a16 c17)
 let j5:=aN 38 K none 0 (dR ([]:List (Dp.Hd (List Int))) ([]:List (List Int)))
 let e5:=aN 9 K none 0 ([]:List aZ)
 refine aT Tryz.func61 rfl (by kernel_rfl) (by show (2:Nat)≤67;decide) ?_
 unfold uO at k
 refine aAZ (dW (v:=zA (zEa p a1 c2 a4 c5 a7 c8 a10 c11)) (vs:=Z) hs rfl rfl (fun a0 w4 l7=>(dW (v:=zA (zCa b a13 c14 a16 c17)) (vs:=b0) l7 rfl rfl (fun c3 w5 l8=>(cF (vs:=o) Tryz.zeroValue44 l8 rfl (fun z w6 g0=>(pM (v:=zS none 0 0) (pM (v:=i64 0) (aAf (aH (aAZ (aB (dK (us:=Z) xF g0 (i:=2) rfl rfl rfl rfl) (aB (dK (us:=b0) fD g0 (i:=1) rfl rfl rfl rfl) (dM (Kt:=K) (xs:=([b]:List dB)) (cs:=b0) (vs:=[(0,zA (zCa b a13 c14 a16 c17))]) sl_225 ez_29 rfl rfl g0 rfl (by kernel_rfl) rfl rfl rfl ⟨⟨a13,c14,a16,c17,rfl,f7,f8⟩,trivial⟩ (fun b9 l9 (m0:aL G K (aN 29 K b9 1 ([b]:List dB)::box z 44 o::box c3 29 b0::box a0 44 Z::L) l9)=>?_)))))))))))))))
 obtain ⟨w7,e6,m1,m2,m3⟩:=aL.lendS (i:=0) m0 (Hp.le_refl _) rfl
 obtain ⟨e7,m4,k⟩:=aI k
 refine aU (vs:=[zA (zEa p a1 c2 a4 c5 a7 c8 a10 c11),zS b9 ([b]:List dB).length 1]) Tryz.call140 rfl (aGQ m2 hG (h3.mono e6) (h6.mono e6) (h9.mono e6) (d3.mono e6) m1 m4) ?_
 rintro _ w8 ⟨rfl,m5⟩
 have e8:=m3 _ _ m5
 refine pM (v:=i64 e7) (aAf (aAZ (aBl (v:=i64 e7) (aB (oZ rfl rfl) (aAf ?_)))))
 rcases aK k with ⟨g1,k⟩|⟨g1,k⟩
 ·refine aO g1 rfl (aAZ (aB (kU (vs:=[]) (cs:=o) bs_44 rfl (by kernel_rfl)) (aBl (v:=i64 e7) (cC (i:=1) (ns:=o) (us:=o) Tryz.sizeOf44 e8 rfl rfl rfl rfl rfl (dL rfl) rfl rfl (fun j6 (m6:aL G K (aN 29 K b9 1 ([b]:List dB)::box z 44 o::box c3 29 b0::box a0 44 Z::L) j6)=>(pM (v:=zS none 0 0) (pM (v:=i64 e7) (aAf ?_))))))))
  have m7:=aL.nil (α:=aZ) m6 9 K
  have m8:=aL.nil (α:=Edge) m7 63 K
  have m9:=aL.nil (α:=Int) m8 2 K
  have n0:=aL.nil (α:=aZ) m9 9 K
  have j7:aL G K (j5::rows [2] ([]:List (Dp.Hd (List Int))) ([]:List (List Int))::e5::aN 2 K none 0 ([]:List Int)::aN 63 K none 0 ([]:List Edge)::e5::aN 29 K b9 1 ([b]:List dB)::box z 44 o::box c3 29 b0::box a0 44 Z::L) j6:=aL.nil (α:=Cells _) (aL.rowsNil (α:=(List Int)) (tys:=[2]) n0) 38 K
  cases zI k
  exact bF (aS (aKJ Tryz.results61 (kW (vs:=o) rfl xF j7 (i:=7) rfl rfl rfl) (wY rfl rfl) (wY rfl rfl) ⟨none,0,none,0,none,0,none,0,none,0,([]:List (Dp.Hd (List Int))),rfl,rfl,(aL.arr 10 [5,4,3,2,0,1] j7 rfl)⟩))
 ·refine aM g1 rfl (aW (aA (aAZ (aB (dK (us:=Z) xF e8 (i:=3) rfl rfl rfl rfl) (aB (dK (us:=b0) fD e8 (i:=2) rfl rfl rfl rfl) ?_)))))
  obtain ⟨r,n2,k⟩:=aI k
  refine aU (vs:=[zA (zEa p a1 c2 a4 c5 a7 c8 a10 c11),zA (zCa b a13 c14 a16 c17)]) Tryz.call62 rfl (aCH e8 h3 h6 h9 d3 f7 f8 n2) ?_
  rintro _ w9 ⟨u,b2,b3,b4,b5,b6,c0,rfl,V,n3⟩
  refine pM (v:=zP (some ⟨c0,0,none⟩)) (aAf (aAZ (aBl (v:=zP (some ⟨c0,0,none⟩)) (dM (Kt:=K) (xs:=([true]:List Bool)) (cs:=[zB true]) (vs:=[(0,zB true)]) fQ ez_4 rfl rfl n3 rfl (by kernel_rfl) rfl rfl rfl ⟨rfl,trivial⟩ (fun d4 n4 (j8:aL G u (aN 4 K d4 1 ([true]:List Bool)::aN 38 u b2 b3 r.1::fH b4 r.2.1::aN 22 u b5 b6 r.2.2::box c0 176 [i64 p.S.N,i64 p.S.I,zS a1 p.S.L.length c2,zS a4 p.S.E.length c5,zS a7 p.M.length c8,zS a10 p.C.length c11,i64 b.N,i64 b.I,zS a13 b.L.length c14,zS a16 b.E.length c17,zS b2 r.1.length b3,zM (some b4),zS b5 r.2.2.length b6]::aN 29 K b9 1 ([b]:List dB)::box z 44 o::box c3 29 b0::box a0 44 Z::L) n4)=>(aBl (v:=zP (some ⟨c0,0,none⟩)) (aB (dJ rfl) (aB (bB (t':=10) sE rfl rfl) (aB (bR qC j8 (i:=4) rfl rfl rfl) (aB (bQ (len:=r.1.length) fX rfl) ?_))))))))))
  obtain ⟨x0,x1,n5,n6,n7⟩:=aL.lendS (i:=0) j8 V rfl
  obtain ⟨e9,n8,k⟩:=aI k
  refine aU (vs:=[zS d4 ([true]:List Bool).length 1,i64 (r.1.length:Int)]) Tryz.call141 rfl (oR n6 n5 n8) ?_
  rintro _ n9 ⟨f0,f1,rfl,o0⟩
  have o1:=n7 _ _ o0
  obtain ⟨o2,c4,o3,o4,o5⟩:=aL.lendS (i:=1) o1 V rfl
  have o6:aL G o2 (aN 38 u b2 b3 r.1::fH b4 r.2.1::aN 22 u b5 b6 r.2.2::box c0 176 [i64 p.S.N,i64 p.S.I,zS a1 p.S.L.length c2,zS a4 p.S.E.length c5,zS a7 p.M.length c8,zS a10 p.C.length c11,i64 b.N,i64 b.I,zS a13 b.L.length c14,zS a16 b.E.length c17,zS b2 r.1.length b3,zM (some b4),zS b5 r.2.2.length b6]::aN 4 K d4 1 ([true]:List Bool)::aN 29 K b9 1 ([b]:List dB)::box z 44 o::box c3 29 b0::box a0 44 Z::L) n9:=(aL.arr 5 [1,2,3,4,0] o4 rfl)
  obtain ⟨a,o7,k⟩:=aI k
  refine aU (vs:=[zP (some ⟨c0,0,none⟩),zS f0 e9.length f1]) Tryz.call64 rfl (vS (Kf:=u) o6 c4 (h3.mono (zL V c4)) (h6.mono (zL V c4)) (h9.mono (zL V c4)) (d3.mono (zL V c4)) (f7.mono (zL V c4)) (f8.mono (zL V c4)) o3 o7) ?_
  rintro _ x2 ⟨c,d,e,g,x,y,q,rfl,f2,o8⟩
  have o9:=o5 _ _ o8
  refine aBl (v:=zT #[zA (zCa a.1 c d e g),zS x a.2.length y]) (aB (bV rfl rfl) (aB (bV rfl rfl) (cF (vs:=zG) Tryz.zeroValue29 o9 rfl (fun g2 x3 p0=>(cC (i:=0) (ns:=(zC a.1 c d e g)) (us:=(zC a.1 c d e g)) Tryz.sizeOf29 p0 rfl rfl rfl rfl rfl (dL rfl) rfl rfl (fun p1 (p2:aL G u (box g2 29 (zC a.1 c d e g)::aN 4 K f0 f1 e9::aN 9 K c d a.1.L::aN 63 K e g a.1.E::aN 38 K x y (dR q a.2)::rows [2] q a.2::aN 38 u b2 b3 r.1::fH b4 r.2.1::aN 22 u b5 b6 r.2.2::box c0 176 [i64 p.S.N,i64 p.S.I,zS a1 p.S.L.length c2,zS a4 p.S.E.length c5,zS a7 p.M.length c8,zS a10 p.C.length c11,i64 b.N,i64 b.I,zS a13 b.L.length c14,zS a16 b.E.length c17,zS b2 r.1.length b3,zM (some b4),zS b5 r.2.2.length b6]::aN 4 K d4 1 ([true]:List Bool)::aN 29 K b9 1 ([b]:List dB)::box z 44 o::box c3 29 b0::box a0 44 Z::L) p1)=>(pM (v:=zS x a.2.length y) (aAf (aH (cS (fun f w=>∃ (l:List aZ) (a6:Nat) (m:Option Addr) (n:Nat),tR p a l=some R∧f 2=zP (some ⟨a0,0,none⟩)∧f 4=zP (some ⟨z,0,none⟩)∧f 10=zS x a.2.length y∧f 11=zP (some ⟨a6,0,none⟩)∧aL G u (aN 9 K m n l::box a6 44 [i64 a.1.N,i64 a.1.I,zS c a.1.L.length d,zS e a.1.E.length g,zS none 0 0,zS m l.length n]::aN 9 K c d a.1.L::aN 63 K e g a.1.E::aN 38 K x y (dR q a.2)::rows [2] q a.2::box z 44 o::box a0 44 Z::L) w) ?_ ?_))))))))))
  ·rintro f x4 ⟨l,a6,m,n,k,p3,p4,j9,p5,p6⟩
   unfold tR at k
   refine aA (aH (aAZ (aCv j9 (aB (bQ (len:=a.2.length) fX rfl) (aBl (v:=i64 0) (aAf (bD (fun f w=>∃ (a2:List Int) (a3:Option Addr) (a5:Nat),pE a l a2=some R∧f 4=zP (some ⟨z,0,none⟩)∧f 10=zS x a.2.length y∧f 11=zP (some ⟨a6,0,none⟩)∧aL G u (aN 2 K a3 a5 a2::aN 9 K m n l::box a6 44 [i64 a.1.N,i64 a.1.I,zS c a.1.L.length d,zS e a.1.E.length g,zS a3 a2.length a5,zS m l.length n]::aN 9 K c d a.1.L::aN 63 K e g a.1.E::aN 38 K x y (dR q a.2)::rows [2] q a.2::box z 44 o::L) w) ?_ ?_)))))))
   ·rintro f x5 ⟨a2,a3,a5,k,f3,p7,k0,k1⟩
    unfold pE at k
    refine aA (aH (aAZ (aB (dK (us:=[i64 a.1.N,i64 a.1.I,zS c a.1.L.length d,zS e a.1.E.length g,zS a3 a2.length a5,zS m l.length n]) xF k1 (i:=2) rfl k0 rfl rfl) ?_)))
    obtain ⟨x6,g3,p8,p9,q0⟩:=aL.lendS (i:=3) k1 V rfl
    obtain ⟨x7,g4,q1,q2,q3⟩:=aL.lendS (i:=3) p9 (zL V g3) rfl
    obtain ⟨x8,g5,q4,q5,q6⟩:=aL.lendS (i:=0) q2 (zL (zL V g3) g4) rfl
    obtain ⟨x9,g6,q7,q8,q9⟩:=aL.lendS (i:=0) q5 (zL (zL (zL V g3) g4) g5) rfl
    obtain ⟨y0,r0,k⟩:=aI k
    refine aU (vs:=[zA #[i64 a.1.N,i64 a.1.I,zS c a.1.L.length d,zS e a.1.E.length g,zS a3 a2.length a5,zS m l.length n]]) Tryz.call143 rfl (aCI (p:=⟨⟨a.1.N,a.1.I,a.1.L,a.1.E⟩,a2,l⟩) q8 hG (p8.mono (zL (zL g4 g5) g6)) (q1.mono (zL g5 g6)) (q4.mono g6) q7 r0) ?_
    rintro _ y1 ⟨rfl,r1⟩
    have r2:=q9 _ _ r1
    have r3:=q6 _ _ r2
    have r4:=q3 _ _ r3
    have g7:=q0 _ _ r4
    refine aB (dY rfl) (aAf ?_)
    rcases aK k with ⟨g8,k⟩|⟨g8,k⟩
    ·refine aO g8 rfl (aAZ (aB (kU (vs:=[]) (cs:=o) bs_44 rfl (by kernel_rfl)) (cC (i:=7) (ns:=o) (us:=o) Tryz.sizeOf44 g7 rfl f3 rfl rfl rfl (dL rfl) rfl rfl (fun k2 (r5:aL G u (aN 9 K c d a.1.L::aN 63 K e g a.1.E::aN 2 K a3 a5 a2::aN 9 K m n l::box a6 44 [i64 a.1.N,i64 a.1.I,zS c a.1.L.length d,zS e a.1.E.length g,zS a3 a2.length a5,zS m l.length n]::aN 38 K x y (dR q a.2)::rows [2] q a.2::box z 44 o::L) k2)=>(pM (v:=zS none 0 0) (pM (v:=i64 5) (aAf ?_)))))))
     have r6:=aL.nil (α:=aZ) r5 9 K
     have r7:=aL.nil (α:=Edge) r6 63 K
     have r8:=aL.nil (α:=Int) r7 2 K
     have r9:=aL.nil (α:=aZ) r8 9 K
     have k3:aL G u (j5::rows [2] ([]:List (Dp.Hd (List Int))) ([]:List (List Int))::e5::aN 2 K none 0 ([]:List Int)::aN 63 K none 0 ([]:List Edge)::e5::aN 9 K c d a.1.L::aN 63 K e g a.1.E::aN 2 K a3 a5 a2::aN 9 K m n l::box a6 44 [i64 a.1.N,i64 a.1.I,zS c a.1.L.length d,zS e a.1.E.length g,zS a3 a2.length a5,zS m l.length n]::aN 38 K x y (dR q a.2)::rows [2] q a.2::box z 44 o::L) k2:=aL.nil (α:=Cells _) (aL.rowsNil (α:=(List Int)) (tys:=[2]) r9) 38 K
     cases zI k
     exact bF (aS (aKJ Tryz.results61 (kW (vs:=o) rfl xF k3 (i:=13) rfl f3 rfl) (wY rfl rfl) (wY rfl rfl) ⟨none,0,none,0,none,0,none,0,none,0,([]:List (Dp.Hd (List Int))),rfl,rfl,(aL.weakK (aL.arr 14 [5,4,3,2,0,1] k3 rfl) V)⟩))
    ·refine aM g8 rfl (aW (aA (aAZ (aB (dK (us:=[i64 a.1.N,i64 a.1.I,zS c a.1.L.length d,zS e a.1.E.length g,zS a3 a2.length a5,zS m l.length n]) xF g7 (i:=4) rfl k0 rfl rfl) (aCv p7 (cC (i:=7) (ns:=[i64 a.1.N,i64 a.1.I,zS c a.1.L.length d,zS e a.1.E.length g,zS a3 a2.length a5,zS m l.length n]) (us:=[i64 a.1.N,i64 a.1.I,zS c a.1.L.length d,zS e a.1.E.length g,zS a3 a2.length a5,zS m l.length n]) Tryz.sizeOf44 g7 rfl f3 rfl rfl rfl (dL rfl) rfl rfl (fun s1 (k4:aL G u (aN 9 K c d a.1.L::aN 63 K e g a.1.E::aN 2 K a3 a5 a2::aN 9 K m n l::box a6 44 [i64 a.1.N,i64 a.1.I,zS c a.1.L.length d,zS e a.1.E.length g,zS a3 a2.length a5,zS m l.length n]::aN 38 K x y (dR q a.2)::rows [2] q a.2::box z 44 [i64 a.1.N,i64 a.1.I,zS c a.1.L.length d,zS e a.1.E.length g,zS a3 a2.length a5,zS m l.length n]::L) s1)=>(pM (v:=zS x a.2.length y) (pM (v:=i64 0) (aAf ?_))))))))))
     cases zI k
     exact bF (aKJ Tryz.results61 (kW (vs:=[i64 a.1.N,i64 a.1.I,zS c a.1.L.length d,zS e a.1.E.length g,zS a3 a2.length a5,zS m l.length n]) rfl xF k4 (i:=7) rfl f3 rfl) (wY rfl rfl) (wY rfl rfl) ⟨c,d,e,g,a3,a5,m,n,x,y,q,rfl,f2,(aL.weakK (aL.arr 8 [0,1,2,3,5,6] k4 rfl) V)⟩)
   have s3:=aL.nil (α:=Int) p6 2 K
   obtain ⟨y2,s4,k⟩:=aI k
   refine cD s4 (fun (s:(List Int × Int)) f w=>match s with|(b1,a8)=>∃ (b7:Option Addr) (b8:Nat),f 2=zP (some ⟨a0,0,none⟩)∧f 4=zP (some ⟨z,0,none⟩)∧f 10=zS x a.2.length y∧f 11=zP (some ⟨a6,0,none⟩)∧f 42=zS x a.2.length y∧f 43=i64 (a.2.length:Int)∧f 44=i64 a8∧aL G u (aN 2 K b7 b8 b1::aN 9 K m n l::box a6 44 [i64 a.1.N,i64 a.1.I,zS c a.1.L.length d,zS e a.1.E.length g,zS b7 b1.length b8,zS m l.length n]::aN 9 K c d a.1.L::aN 63 K e g a.1.E::aN 38 K x y (dR q a.2)::rows [2] q a.2::box z 44 o::box a0 44 Z::L) w) ?_ ?_
   ·exact ⟨none,0,p3,p4,j9,p5,rfl,rfl,rfl,s3⟩
   ·rintro ⟨b1,a8⟩ k5 f y3 J s5 ⟨b7,b8,g9,h0,h1,d9,h2,h4,e0,a9⟩
    replace J:lC p a b1 a8=some k5:=J
    unfold lC at J
    refine aAZ (aB (cJ e0 h4) (aAf (aH ?_)))
    rcases aK J with ⟨h5,J⟩|⟨h5,J⟩
    ·refine aO h5 rfl (aW (aA (aH (bD (fun f w=>∃ (e1:List Int) (f4:Option Addr) (f5:Nat),mV a8 e1=some k5∧f 2=zP (some ⟨a0,0,none⟩)∧f 4=zP (some ⟨z,0,none⟩)∧f 10=zS x a.2.length y∧f 11=zP (some ⟨a6,0,none⟩)∧f 42=zS x a.2.length y∧f 43=i64 (a.2.length:Int)∧f 44=i64 a8∧aL G u (aN 2 K f4 f5 e1::aN 9 K m n l::box a6 44 [i64 a.1.N,i64 a.1.I,zS c a.1.L.length d,zS e a.1.E.length g,zS f4 e1.length f5,zS m l.length n]::aN 9 K c d a.1.L::aN 63 K e g a.1.E::aN 38 K x y (dR q a.2)::rows [2] q a.2::box z 44 o::box a0 44 Z::L) w) ?_ ?_))))
     ·rintro f y4 ⟨e1,f4,f5,J,s6,s7,s8,s9,t0,t1,t2,t3⟩
      unfold mV at J
      exact aA (aC (aB (cX t2 rfl) (aBl (v:=i64 (wr (a8+1))) (aAf ⟨(e1,wr (a8+1)),(zI J).symm,f4,f5,s6,s7,s8,s9,t0,t1,rfl,t3⟩))))
     refine aAZ (aCv e0 ?_)
     obtain ⟨k6,d5,J⟩:=aI J
     obtain ⟨⟨k7,k8⟩,f6⟩:=get_hd f2 d5
     have t4:=cG a9 (i:=5) rfl (aCZ f2 d5 f6)
     refine aB (dA fX rfl t4 h2 rfl e0 d5) (aB (kA (t:=0) mM a9 (i:=5) rfl (aCZ f2 d5 f6) rfl rfl rfl) (pM (v:=i64 a8) (pM (v:=zS k7 k6.length k8) (aAf (aH (cT (C:=fun w'=>aL G u (aN 2 K b7 b8 b1::aN 9 K m n l::box a6 44 [i64 a.1.N,i64 a.1.I,zS c a.1.L.length d,zS e a.1.E.length g,zS b7 b1.length b8,zS m l.length n]::aN 9 K c d a.1.L::aN 63 K e g a.1.E::aN 38 K x y (dR q a.2)::rows [2] q a.2::box z 44 o::box a0 44 Z::L) w') bK (by kernel_rfl) (aL.mono a9 (dE.drew _)) (aQ (fun _ a9=>dK (us:=Z) xF a9 (i:=8) rfl g9 rfl rfl) (aQ (fun _ a9=>aD (v:=zS k7 k6.length k8) rfl) ?_))))))))
     obtain ⟨t5,h7,J⟩:=aI J
     have t6:=cG (aL.rowOut (i:=6) a9 rfl f6 (aKf d5)) (i:=0) rfl h7
     refine aQ (fun _ a9=>dA bW rfl t6 rfl rfl rfl h7) (aQ (fun _ a9=>kA (t:=0) cP (aL.rowOut (i:=6) a9 rfl f6 (aKf d5)) (i:=0) rfl h7 rfl rfl rfl) ?_)
     obtain ⟨t7,t8,J⟩:=aI J
     refine iR (vs:=[zA (zEa p a1 c2 a4 c5 a7 c8 a10 c11),i64 t5]) (v:=zB t7) Tryz.call142 rfl (fun _ a9=>(aBk a9 (h3.mono V) (h6.mono V) (h9.mono V) (d3.mono V) t8)) (dC (fun y5 h8=>(aA ?_)))
     rcases aK J with ⟨i0,J⟩|⟨i0,J⟩
     ·refine aO i0 rfl (aC (aB (bB (t':=4) aAr d9 rfl) (aB (bR mM h8 (i:=2) rfl rfl rfl) (aBl (v:=i64 a8) (dM (Kt:=K) (xs:=([a8]:List Int)) (cs:=[i64 a8]) (vs:=[(0,i64 a8)]) bW tU rfl rfl h8 rfl (by kernel_rfl) rfl rfl rfl ⟨rfl,trivial⟩ (fun t9 u0 (u1:aL G u (aN 2 K t9 1 ([a8]:List Int)::aN 2 K b7 b8 b1::aN 9 K m n l::box a6 44 [i64 a.1.N,i64 a.1.I,zS c a.1.L.length d,zS e a.1.E.length g,zS b7 b1.length b8,zS m l.length n]::aN 9 K c d a.1.L::aN 63 K e g a.1.E::aN 38 K x y (dR q a.2)::rows [2] q a.2::box z 44 o::box a0 44 Z::L) u0)=>?_))))))
      obtain ⟨d6,u2,J⟩:=aI J
      exact iY (i:=0) bW Tryz.underlying38 tU rfl rfl u1 rfl V V u2 rfl rfl rfl rfl (fun _ h=>h) (fun d7 d8 u3 (u4:aL G u (aN 2 K d7 d8 d6::aN 9 K m n l::box a6 44 [i64 a.1.N,i64 a.1.I,zS c a.1.L.length d,zS e a.1.E.length g,zS b7 b1.length b8,zS m l.length n]::aN 9 K c d a.1.L::aN 63 K e g a.1.E::aN 38 K x y (dR q a.2)::rows [2] q a.2::box z 44 o::box a0 44 Z::L) u3)=>(aB (bB (t':=4) aAr d9 rfl) (cC (i:=2) (ns:=[zS d7 d6.length d8]) (us:=[i64 a.1.N,i64 a.1.I,zS c a.1.L.length d,zS e a.1.E.length g,zS d7 d6.length d8,zS m l.length n]) Tryz.sizeOf38 u4 rfl rfl rfl rfl rfl (dL rfl) rfl rfl (fun u5 (u6:aL G u (aN 2 K d7 d8 d6::aN 9 K m n l::box a6 44 [i64 a.1.N,i64 a.1.I,zS c a.1.L.length d,zS e a.1.E.length g,zS d7 d6.length d8,zS m l.length n]::aN 9 K c d a.1.L::aN 63 K e g a.1.E::aN 38 K x y (dR q a.2)::rows [2] q a.2::box z 44 o::box a0 44 Z::L) u5)=>(aF (bG (aA ⟨d6,d7,d8,J,g9,h0,h1,d9,h2,h4,e0,u6⟩)))))))
     ·exact aM i0 rfl (aW (bG (aA ⟨b1,b7,b8,J,g9,h0,h1,d9,h2,h4,e0,h8⟩)))
    ·refine aM h5 rfl (cB (aY (aY ?_)))
     have u7:=s5 _ (zI J).symm
     subst u7
     have k:(pE a l b1)=some R:=k
     exact bO (aA ⟨b1,b7,b8,k,h0,h1,d9,(aL.arr 9 [0,1,2,3,4,5,6,7] a9 rfl)⟩)
  obtain ⟨y6,k9,u8,u9,l0⟩:=aL.lendB (i:=0) p2 rfl
  obtain ⟨v0,i1,v1,v2,l1⟩:=aL.lendB (i:=13) u9 rfl
  refine aAg (C:=fun w'=>∃ L',aL G v0 L' w') [6] bK (by kernel_rfl) (fun y7 v3=>?_)
  have c1:=aL.mono v2 v3
  refine gN (i:=0) rfl (by kernel_rfl) ⟨_,c1⟩ (fun _ ⟨_,c1⟩=>gO (t:=0) (vs:=(zC a.1 c d e g)) fD c1 (u8.mono i1) rfl rfl rfl) (gN (i:=1) rfl (by kernel_rfl) ⟨_,c1⟩ (fun _ _=>bB (t':=5) aBp rfl rfl) (gN (i:=2) rfl (by kernel_rfl) ⟨_,c1⟩ (fun _ ⟨_,c1⟩=>bH (t:=5) jJ c1 v1 rfl rfl) (qE (i:=3) (j:=5) (by kernel_rfl) rfl rfl ?_ ?_)))
  ·obtain ⟨c6,v4,k⟩:=aI k
   refine aU (vs:=[zS a10 p.C.length c11]) Tryz.call84 rfl (cM c1 (d3.mono (zL (zL V k9) i1)) v4) ?_
   rintro _ y8 ⟨c7,c9,rfl,i2⟩
   refine aF (aA ⟨fun _=>⟨_,i2⟩,?_⟩)
   refine gN (i:=4) rfl (by kernel_rfl) ⟨_,i2⟩ (fun _ _=>kU (vs:=[(0,zA (zCa a.1 c d e g)),(2,zS c7 c6.length c9)]) (cs:=[i64 a.1.N,i64 a.1.I,zS c a.1.L.length d,zS e a.1.E.length g,zS none 0 0,zS c7 c6.length c9]) bs_44 rfl (by kernel_rfl)) (cW (i:=5) (by kernel_rfl) rfl (cF (vs:=o) Tryz.zeroValue44 i2 rfl (fun l2 y9 l3=>(aF (aA ⟨fun _=>⟨_,l3⟩,?_⟩)))))
   refine cW (i:=6) (by kernel_rfl) rfl ?_
   have v5:=l1 _ _ l3
   have v6:=l0 _ _ v5
   refine cC (i:=2) (ns:=[i64 a.1.N,i64 a.1.I,zS c a.1.L.length d,zS e a.1.E.length g,zS none 0 0,zS c7 c6.length c9]) (us:=[i64 a.1.N,i64 a.1.I,zS c a.1.L.length d,zS e a.1.E.length g,zS none 0 0,zS c7 c6.length c9]) Tryz.sizeOf44 v6 rfl rfl rfl rfl rfl (dL rfl) rfl rfl (fun v7 (v8:aL G u (box g2 29 (zC a.1 c d e g)::box a0 44 Z::box l2 44 [i64 a.1.N,i64 a.1.I,zS c a.1.L.length d,zS e a.1.E.length g,zS none 0 0,zS c7 c6.length c9]::aN 9 K c7 c9 c6::aN 4 K f0 f1 e9::aN 9 K c d a.1.L::aN 63 K e g a.1.E::aN 38 K x y (dR q a.2)::rows [2] q a.2::aN 38 u b2 b3 r.1::fH b4 r.2.1::aN 22 u b5 b6 r.2.2::box c0 176 [i64 p.S.N,i64 p.S.I,zS a1 p.S.L.length c2,zS a4 p.S.E.length c5,zS a7 p.M.length c8,zS a10 p.C.length c11,i64 b.N,i64 b.I,zS a13 b.L.length c14,zS a16 b.E.length c17,zS b2 r.1.length b3,zM (some b4),zS b5 r.2.2.length b6]::aN 4 K d4 1 ([true]:List Bool)::aN 29 K b9 1 ([b]:List dB)::box z 44 o::box c3 29 b0::L) v7)=>(aF (aA ⟨no_c rfl,?_⟩)))
   exact kQ (by kernel_rfl) (aA ⟨c6,l2,c7,c9,k,rfl,rfl,rfl,rfl,(aL.arr 17 [3,2,5,6,7,8,15,1] v8 rfl)⟩)
  ·refine cF (vs:=o) Tryz.zeroValue44 c1 rfl (fun l4 z0 l5=>(aF (aA ⟨fun _=>⟨_,l5⟩,?_⟩)))
   refine cW (i:=3) (by kernel_rfl) rfl ?_
   obtain ⟨d0,v9,k⟩:=aI k
   refine aU (vs:=[zS a10 p.C.length c11]) Tryz.call84 rfl (cM l5 (d3.mono (zL (zL V k9) i1)) v9) ?_
   rintro _ z1 ⟨d1,d2,rfl,i3⟩
   refine aF (aA ⟨fun _=>⟨_,i3⟩,?_⟩)
   refine gN (i:=4) rfl (by kernel_rfl) ⟨_,i3⟩ (fun _ _=>kU (vs:=[(0,zA (zCa a.1 c d e g)),(2,zS d1 d0.length d2)]) (cs:=[i64 a.1.N,i64 a.1.I,zS c a.1.L.length d,zS e a.1.E.length g,zS none 0 0,zS d1 d0.length d2]) bs_44 rfl (by kernel_rfl)) (cW (i:=6) (by kernel_rfl) rfl ?_)
   have w0:=l1 _ _ i3
   have w1:=l0 _ _ w0
   refine cC (i:=3) (ns:=[i64 a.1.N,i64 a.1.I,zS c a.1.L.length d,zS e a.1.E.length g,zS none 0 0,zS d1 d0.length d2]) (us:=[i64 a.1.N,i64 a.1.I,zS c a.1.L.length d,zS e a.1.E.length g,zS none 0 0,zS d1 d0.length d2]) Tryz.sizeOf44 w1 rfl rfl rfl rfl rfl (dL rfl) rfl rfl (fun w2 (w3:aL G u (box g2 29 (zC a.1 c d e g)::box a0 44 Z::aN 9 K d1 d2 d0::box l4 44 [i64 a.1.N,i64 a.1.I,zS c a.1.L.length d,zS e a.1.E.length g,zS none 0 0,zS d1 d0.length d2]::aN 4 K f0 f1 e9::aN 9 K c d a.1.L::aN 63 K e g a.1.E::aN 38 K x y (dR q a.2)::rows [2] q a.2::aN 38 u b2 b3 r.1::fH b4 r.2.1::aN 22 u b5 b6 r.2.2::box c0 176 [i64 p.S.N,i64 p.S.I,zS a1 p.S.L.length c2,zS a4 p.S.E.length c5,zS a7 p.M.length c8,zS a10 p.C.length c11,i64 b.N,i64 b.I,zS a13 b.L.length c14,zS a16 b.E.length c17,zS b2 r.1.length b3,zM (some b4),zS b5 r.2.2.length b6]::aN 4 K d4 1 ([true]:List Bool)::aN 29 K b9 1 ([b]:List dB)::box z 44 o::box c3 29 b0::L) w2)=>(aF (aA ⟨no_c rfl,?_⟩)))
   exact kQ (by kernel_rfl) (aA ⟨d0,l4,d1,d2,k,rfl,rfl,rfl,rfl,(aL.arr 17 [2,3,5,6,7,8,15,1] w3 rfl)⟩)
theorem aGR {b R:aZ} (g:aL G K (L) w) (h:G.lo=0) (c:aAW b=some R):
  Calls Tryz.prog 208 ([cL b]:List Value).toArray w (fV fun v w'=>v=cL R∧aL G K (L) w'):=by
 refine aT Tryz.func208 rfl (by kernel_rfl) (by show (1:Nat)≤13;decide) ?_
 unfold aAW at c
 refine aAZ (pM (v:=cL ([]:aZ)) (aAf (aAZ (aBl (v:=cL b) ?_))))
 obtain ⟨a,i,c⟩:=aI c
 refine aU (vs:=[cL b]) Tryz.call161 rfl (aDt g h i) ?_
 rintro _ l ⟨d,e,rfl,j⟩
 refine aBl (v:=zT #[cL a.1,zS d a.2.1.length e,zB a.2.2]) (aB (bV rfl rfl) (aB (bV rfl rfl) (aB (bV rfl rfl) (pM (v:=cL a.1) (pM (v:=zS d a.2.1.length e) (pM (v:=zB a.2.2) (aAf (aAZ (aBl (v:=cL a.1) (pM (v:=cL a.1) (aAf ?_)))))))))))
 cases zI c
 exact bF (bC Tryz.results208 rfl ⟨rfl,(aL.arr 1 [] j rfl)⟩)
theorem xY {p:cA} {c:aZ} {R:Bool} (h:aL G K (L) w) (j:G.lo=0) (r:bT K a1 c2 p.S.L) (t:bT K a4 c5 p.S.E) (u:bT K a7 c8 p.M) (k:bT K a10 c11 p.C) (b:lZ p c=some R):
  Calls Tryz.prog 150 ([zA (zEa p a1 c2 a4 c5 a7 c8 a10 c11),cL c]:List Value).toArray w (fV fun v w'=>v=zB R∧aL G K (L) w'):=by
 let d:=(zE p a1 c2 a4 c5 a7 c8 a10 c11)
 refine aT Tryz.func150 rfl (by kernel_rfl) (by show (2:Nat)≤10;decide) ?_
 unfold lZ at b
 refine aAZ (dW (v:=zA (zEa p a1 c2 a4 c5 a7 c8 a10 c11)) (vs:=d) h rfl rfl (fun l x a=>(pM (v:=zB false) (aAf (aH (cT (C:=fun w'=>aL G K (box l 44 d::L) w') bK (by kernel_rfl) (aL.mono a (dE.drew _)) (aQ (fun _ a=>bB (t':=5) aBp rfl rfl) (aQ (fun _ a=>bR jJ a (i:=0) rfl rfl rfl) (aQ (fun _ a=>aD (v:=cL c) rfl) ?_)))))))))
 obtain ⟨e,m,b⟩:=aI b
 refine iR (vs:=[cL c]) (v:=cL e) Tryz.call208 rfl (fun _ a=>(aGR a j m)) ?_
 obtain ⟨g,n,b⟩:=aI b
 refine iR (vs:=[zS a10 p.C.length c11,cL e]) (v:=zB g) Tryz.call207 rfl (fun _ a=>(mC a k n)) (aQ (fun _ a=>aG (v:=zB g) rfl) (dC (fun y o=>(aA ?_))))
 cases zI b
 exact bF (bC Tryz.results150 rfl ⟨rfl,(aL.arr 1 [] o rfl)⟩)
theorem aAl {c:aZ} {to_:Int} {p:(List Bool)} {d:Nat} {R:Bool} (b:aL G K (L) w) (h:fW K a1 d [zS a4 p.length c5]) (e:bT K a4 c5 p) (a:lJ c to_ p=some R):
  Calls Tryz.prog 206 ([cL c,i64 to_,bY a1 d]:List Value).toArray w (fV fun v w'=>v=zB R∧aL G K (L) w'):=by
 refine aT Tryz.func206 rfl (by kernel_rfl) (by show (3:Nat)≤10;decide) ?_
 unfold lJ at a
 refine aAZ (pM (v:=zB false) (aAf (aAZ (aB (bH (t:=0) aGg b h rfl rfl) (aBl (v:=i64 to_) ?_)))))
 obtain ⟨i,g,a⟩:=aI a
 refine aB (cO fQ rfl e rfl rfl rfl g) ?_
 obtain ⟨m,j,k⟩:=bT.el (sz:=1) rfl e g
 cases k
 refine aB (bH (t:=0) yE b j rfl rfl) (pM (v:=zB i) (aAf ?_))
 cases zI a
 exact bF (bC Tryz.results206 rfl ⟨rfl,b⟩)
end Gv
