/- Walks, printed by program. -/
import Derived.Test.YtohbafhnoifmoaaGreatDoorTJWk1
import Derived.Test.YtohbafhnoifmoaaGreatDoorTJWk4
import Derived.Test.YtohbafhnoifmoaaGreatDoorTJWk6
import Derived.Test.YtohbafhnoifmoaaGreatDoorTJWk7
import Derived.Test.YtohbafhnoifmoaaGreatDoorTJWk8
set_option linter.all false
namespace Gv
open Go.Value renaming slice→zS,bool→zB,pointer→zP,agg→zA,tuple→zT
open Option.some renaming inj→zI
open Gv.Hp renaming le_trans→zL,le_refl→zR
open Go Go.Proofs Go.Proofs.Tryz
set_option maxRecDepth 20000
set_option maxHeartbeats 40000000
variable {G:Env} {K:Hp} {L:List nJ} {w:World} {a1 a4 a7 a10 a13 a16:Option Addr} {c2 c5 c8 c14 c17 c11:Nat}
theorem aHO {e:(List aU)} {R:Bool} (q:aI G K (L) w) (n:cX K a1 c2 e) (c:aCv e=some R):
  Calls Tryz.prog 57 ([zS a1 e.length c2]:List Value).toArray w (gK fun v w'=>v=zB R∧aI G K (L) w'):=by
 refine aW func57 rfl (by kernel_rfl) (by show (1:Nat)≤53;decide) ?_
 unfold aCv at c
 refine aL (aF (v:=zB false) (aG (aQ (aQ (cN (fun f w=>∃ (u:Bool),rN e u=some R∧f 0=zS a1 e.length c2∧f 17=zB u∧aI G K (L) w) ?_ ?_)))))
 ·rintro f w7 ⟨u,c,e5,e6,a2⟩
  unfold rN at c
  refine aA ?_
  rcases aH c with ⟨x,c⟩|⟨x,c⟩
  ·refine aM x e6 (aL (aF (v:=zB false) (aG ?_)))
   obtain rfl:=zI c
   exact bM (aV (bP results57 rfl ⟨rfl,a2⟩))
  ·refine aJ x e6 (bA (aA (aQ (aL (aF (v:=i64 1) (aG (bB (fun f w=>aAI=some R∧aI G K (L) w) ?_ ?_)))))))
   ·rintro f d4 ⟨c,b3⟩
    unfold aAI at c
    refine aA (aL (aF (v:=zB true) (aG ?_)))
    obtain rfl:=zI c
    exact bM (bP results57 rfl ⟨rfl,b3⟩)
   obtain ⟨d5,b5,c⟩:=aB c
   refine cE b5 (fun (o:Int) f w=>f 0=zS a1 e.length c2∧f 3=i64 o∧aI G K (L) w) ?_ ?_
   ·exact ⟨e5,rfl,a2⟩
   ·rintro o a3 f d6 b a4 ⟨l,k,a⟩
    replace b:rM e o=some a3:=b
    unfold rM at b
    refine aQ (aL (aN k (aN l (aD (bU (len:=e.length) bX rfl) (aD (cL rfl rfl) (aG ?_))))))
    rcases aH b with ⟨y,b⟩|⟨y,b⟩
    ·refine aM y rfl (bA (aA (aQ (cY (aQ (cN (fun f w=>∃ (z:Bool),oJ o z=some a3∧f 0=zS a1 e.length c2∧f 3=i64 o∧f 52=zB z∧aI G K (L) w) ?_ ?_))))))
     ·rintro f d7 ⟨z,b,b6,b7,a5,a6⟩
      unfold oJ at b
      refine aA ?_
      rcases aH b with ⟨J,b⟩|⟨J,b⟩
      ·refine aM J a5 (aL (aF (v:=zB false) (aG (bM (bV (aV (aV ?_)))))))
       have b8:=a4 _ (zI b).symm
       subst b8
       have c:(some false)=some R:=c
       obtain rfl:=zI c
       exact bV (aV (aV (bP results57 rfl ⟨rfl,a6⟩)))
      ·exact aJ J a5 (bA (bC (aA (aP (aN b7 (aD (cP rfl rfl) (aF (v:=i64 (wr (o+1))) (aG ⟨wr (o+1),(zI b).symm,b6,rfl,a6⟩))))))))
     refine eR (C:=fun w'=>aI G K (L) w') bZ (by kernel_rfl) (aI.mono a (eC.drew _)) (bF (fun _ a=>bE l) (bF (fun _ a=>bE k) ?_))
     obtain ⟨p,r,b⟩:=aB b
     refine bF (fun _ a=>dI bX rfl n rfl rfl rfl r) ?_
     obtain ⟨d8,V,c0⟩:=cX.el (sz:=1) rfl n r
     cases c0
     refine bF (fun _ a=>bH (t:=0) qB a V rfl rfl) ?_
     obtain ⟨a7,c1,b⟩:=aB b
     refine pZ (vs:=[str p]) (v:=zB a7) call96 rfl (fun _ a=>(aHN a c1)) (bF (fun _ a=>eJ rfl) (bF (fun _ a=>bE (v:=zB (!a7)) rfl) ?_))
     rcases aH b with ⟨h,b⟩|⟨h,b⟩
     ·refine bI (g:=30) rfl rfl (cQ h) (bI (g:=30) rfl rfl (cQ h) (bI (g:=30) rfl rfl (cQ h) (bI (g:=30) rfl rfl (cQ h) (bI (g:=30) rfl rfl (cQ h) (bF (fun _ a=>bL (v:=zB true) h rfl rfl) (bF (fun _ a=>bE (v:=zB true) rfl) (bI (g:=37) rfl rfl (cQ (rfl:true=true)) (bI (g:=37) rfl rfl (cQ (rfl:true=true)) (bI (g:=37) rfl rfl (cQ (rfl:true=true)) (dD (g:=40) rfl rfl (dD (g:=40) rfl rfl (dD (g:=40) rfl rfl (dD (g:=40) rfl rfl (dD (g:=40) rfl rfl (dD (g:=40) rfl rfl (dD (g:=40) rfl rfl (dD (g:=40) rfl rfl (dD (g:=40) rfl rfl (dD (g:=40) rfl rfl (bI (g:=37) rfl rfl (cQ (rfl:true=true)) (bF (fun _ a=>bL (v:=zB true) (rfl:true=true) rfl rfl) (fE (fun d9 c3=>?_)))))))))))))))))))))))
      exact aA ⟨true,b,l,k,rfl,c3⟩
     ·refine cC (g:=30) rfl rfl (dF h) (bF (fun _ a=>bE l) (cC (g:=30) rfl rfl (dF h) (bF (fun _ a=>bE k) (cC (g:=30) rfl rfl (dF h) (bF (fun _ a=>dI bX rfl n rfl rfl rfl r) (cC (g:=30) rfl rfl (dF h) (bF (fun _ a=>bH (t:=0) qB a V rfl rfl) (cC (g:=30) rfl rfl (dF h) (bF (fun _ a=>zX rfl rfl) (bF (fun _ a=>bK (v:=zB (p == ([116,97,117]:aU))) h rfl rfl) (bF (fun _ a=>bE (v:=zB (p == ([116,97,117]:aU))) rfl) ?_)))))))))))
      rcases aH b with ⟨i,b⟩|⟨i,b⟩
      ·exact bI (g:=37) rfl rfl (cQ i) (bI (g:=37) rfl rfl (cQ i) (bI (g:=37) rfl rfl (cQ i) (dD (g:=40) rfl rfl (dD (g:=40) rfl rfl (dD (g:=40) rfl rfl (dD (g:=40) rfl rfl (dD (g:=40) rfl rfl (dD (g:=40) rfl rfl (dD (g:=40) rfl rfl (dD (g:=40) rfl rfl (dD (g:=40) rfl rfl (dD (g:=40) rfl rfl (bI (g:=37) rfl rfl (cQ i) (bF (fun _ a=>bL (v:=zB true) i rfl rfl) (fE (fun e0 c4=>(aA ⟨true,b,l,k,rfl,c4⟩)))))))))))))))))
      ·refine cC (g:=37) rfl rfl (dF i) (bF (fun _ a=>bE k) (cC (g:=37) rfl rfl (dF i) (bF (fun _ a=>kZ rfl rfl) (cC (g:=37) rfl rfl (dF i) (bF (fun _ a=>bE (v:=zB (decide (1 < o))) rfl) ?_)))))
       rcases aH b with ⟨d,b⟩|⟨d,b⟩
       ·refine cC (g:=40) rfl rfl d (bF (fun _ a=>bE l) (cC (g:=40) rfl rfl d (bF (fun _ a=>bE k) (cC (g:=40) rfl rfl d (bF (fun _ a=>kH rfl rfl) (cC (g:=40) rfl rfl d ?_))))))
        obtain ⟨Z,a8,b⟩:=aB b
        refine bF (fun _ a=>dI bX rfl n rfl rfl rfl a8) ?_
        obtain ⟨e1,c5,c6⟩:=cX.el (sz:=1) rfl n a8
        cases c6
        exact cC (g:=40) rfl rfl d (bF (fun _ a=>bH (t:=0) qB a c5 rfl rfl) (cC (g:=40) rfl rfl d (bF (fun _ a=>bE l) (cC (g:=40) rfl rfl d (bF (fun _ a=>bE k) (cC (g:=40) rfl rfl d (bF (fun _ a=>dI bX rfl n rfl rfl rfl r) (cC (g:=40) rfl rfl d (bF (fun _ a=>bH (t:=0) qB a V rfl rfl) (cC (g:=40) rfl rfl d (bF (fun _ a=>R_geqS rfl rfl) (cC (g:=37) rfl rfl (dF i) (bF (fun _ a=>bL (v:=zB (!wU Z p)) d rfl rfl) (bF (fun _ a=>bK (v:=zB (!wU Z p)) i rfl rfl) (fE (fun e2 c7=>(aA ⟨!wU Z p,b,l,k,rfl,c7⟩)))))))))))))))))
       ·exact bI (g:=40) rfl rfl (dQ d) (bI (g:=40) rfl rfl (dQ d) (bI (g:=40) rfl rfl (dQ d) (bI (g:=40) rfl rfl (dQ d) (bI (g:=40) rfl rfl (dQ d) (bI (g:=40) rfl rfl (dQ d) (bI (g:=40) rfl rfl (dQ d) (bI (g:=40) rfl rfl (dQ d) (bI (g:=40) rfl rfl (dQ d) (bI (g:=40) rfl rfl (dQ d) (cC (g:=37) rfl rfl (dF i) (bF (fun _ a=>bK (v:=zB false) d rfl rfl) (bF (fun _ a=>bK (v:=zB false) i rfl rfl) (fE (fun e3 c8=>(aA ⟨false,b,l,k,rfl,c8⟩)))))))))))))))
    ·refine aJ y rfl (cA (aT (aT ?_)))
     have d0:=a4 _ (zI b).symm
     subst d0
     have c:(aAI)=some R:=c
     exact bJ (aA ⟨c,a⟩)
 refine aP (aO (v:=zS a1 e.length c2) (aD (bU (len:=e.length) bX rfl) (aD (gE rfl rfl) (aO (v:=zB ((e.length:Int) == 0)) ?_))))
 rcases aH c with ⟨m,c⟩|⟨m,c⟩
 ·exact aX m rfl rfl (aX m rfl rfl (aX m rfl rfl (aD (bL (v:=zB true) m rfl rfl) (aO (v:=zB true) (aX (rfl:true=true) rfl rfl (aX (rfl:true=true) rfl rfl (aX (rfl:true=true) rfl rfl (aX (rfl:true=true) rfl rfl (aD (bL (v:=zB true) (rfl:true=true) rfl rfl) (aG ⟨true,c,rfl,rfl,q⟩))))))))))
 ·refine bG m rfl rfl (aO (v:=zS a1 e.length c2) (bG m rfl rfl (aD (bU (len:=e.length) bX rfl) (bG m rfl rfl (aD (kZ rfl rfl) (aD (bK (v:=zB (decide (12 < (e.length:Int)))) m rfl rfl) (aO (v:=zB (decide (12 < (e.length:Int)))) ?_)))))))
  rcases aH c with ⟨j,c⟩|⟨j,c⟩
  ·exact aX j rfl rfl (aX j rfl rfl (aX j rfl rfl (aX j rfl rfl (aD (bL (v:=zB true) j rfl rfl) (aG ⟨true,c,rfl,rfl,q⟩)))))
  ·refine bG j rfl rfl (aO (v:=zS a1 e.length c2) (bG j rfl rfl ?_))
   obtain ⟨a9,b0,c⟩:=aB c
   refine aD (dI bX rfl n rfl rfl rfl b0) ?_
   obtain ⟨e4,d1,d2⟩:=cX.el (sz:=1) rfl n b0
   cases d2
   exact bG j rfl rfl (aD (bH (t:=0) qB q d1 rfl rfl) (bG j rfl rfl (aD (aId rfl rfl) (aD (bK (v:=zB (!(a9 == ([116,97,117]:aU)))) j rfl rfl) (aG ⟨!(a9 == ([116,97,117]:aU)),c,rfl,rfl,q⟩)))))
theorem aGl {t:cG} {k:Nat} {R:Bool} (a:aI G K (L) w) (e:kK K a1 k (zC t a4 c5 a7 c8)) (h6:cX K a4 c5 t.L) (z:cX K a7 c8 t.E) (d:aFh t=some R):
  Calls Tryz.prog 28 ([cU a1 k]:List Value).toArray w (gK fun v w'=>v=zB R∧aI G K (L) w'):=by
 refine aW func28 rfl (by kernel_rfl) (by show (1:Nat)≤101;decide) ?_
 unfold aFh at d
 refine aL (aF (v:=zB false) (aG (aQ (aQ (cN (fun f w=>∃ (Z:Bool),wO t Z=some R∧f 0=cU a1 k∧f 39=zB Z∧aI G K (L) w) ?_ ?_)))))
 ·rintro f g8 ⟨Z,d,c9,b6,b7⟩
  unfold wO at d
  refine aA ?_
  rcases aH d with ⟨a0,d⟩|⟨a0,d⟩
  ·refine aM a0 b6 (aL (aF (v:=zB false) (aG ?_)))
   obtain rfl:=zI d
   exact bM (aV (bP results28 rfl ⟨rfl,b7⟩))
  ·refine aJ a0 b6 (bA (aA (aQ (aL (aF (v:=i64 0) (aG (bB (fun f w=>aDZ=some R∧aI G K (L) w) ?_ ?_)))))))
   ·rintro f g9 ⟨d,d1⟩
    unfold aDZ at d
    refine aA (aL (aF (v:=zB true) (aG ?_)))
    obtain rfl:=zI d
    exact bM (bP results28 rfl ⟨rfl,d1⟩)
   obtain ⟨h0,d3,d⟩:=aB d
   refine cE d3 (fun (q:Int) f w=>f 0=cU a1 k∧f 3=i64 q∧aI G K (L) w) ?_ ?_
   ·exact ⟨c9,rfl,b7⟩
   ·rintro q a2 f h1 b a3 ⟨r,u,x⟩
    replace b:aAh t q=some a2:=b
    unfold aAh at b
    refine aQ (aL (aN u (aN r (aD (cJ rfl e) (aD (bO (k':=k+3) cV rfl e rfl) (aD (bH (t:=3) fH x e rfl rfl) (aD (bU (len:=t.E.length) cM rfl) (aD (cL rfl rfl) (aG ?_)))))))))
    rcases aH b with ⟨a5,b⟩|⟨a5,b⟩
    ·refine aM a5 rfl (bA (aA (aQ (cY (aL (aN r (aD (cJ rfl e) (aD (bO (k':=k+3) cV rfl e rfl) (aD (bH (t:=3) fH x e rfl rfl) (aN u ?_))))))))))
     obtain ⟨l,b8,b⟩:=aB b
     refine aD (dI cM rfl z rfl rfl rfl b8) ?_
     obtain ⟨h2,d4,d5⟩:=cX.el (sz:=3) rfl z b8
     cases d5
     refine aD (gT (t:=0) (vs:=[i64 l.F,i64 l.B,i64 l.To]) mQ x d4 rfl rfl rfl) (bW (vs:=[i64 0,i64 0,i64 0]) zeroValue69 x rfl (fun y h4 d6=>(bY (i:=0) (ns:=[i64 l.F,i64 l.B,i64 l.To]) (us:=[i64 l.F,i64 l.B,i64 l.To]) sizeOf69 d6 rfl rfl rfl rfl rfl (dE rfl) rfl rfl (fun d7 (c:aI G K (box y 69 [i64 l.F,i64 l.B,i64 l.To]::L) d7)=>(aG (aQ (aQ (cN (fun f w=>∃ (a6:Bool),aAg t q l a6=some a2∧f 0=cU a1 k∧f 3=i64 q∧f 4=zP (some ⟨y,0,none⟩)∧f 87=zB a6∧aI G K (box y 69 [i64 l.F,i64 l.B,i64 l.To]::L) w) ?_ ?_))))))))
     ·rintro f h5 ⟨a6,b,a8,J,d8,b9,V⟩
      unfold aAg at b
      refine aA ?_
      rcases aH b with ⟨a9,b⟩|⟨a9,b⟩
      ·refine aM a9 b9 (aL (aF (v:=zB false) (aG (bM (aV (bV (aV (aV ?_))))))))
       have d9:=a3 _ (zI b).symm
       subst d9
       have d:(some false)=some R:=d
       obtain rfl:=zI d
       exact bV (aV (aV (bP results28 rfl ⟨rfl,(aI.arr 1 [] V rfl)⟩)))
      ·refine aJ a9 b9 (bA (aA (aQ (cN (fun f w=>∃ (b0:Bool),aCw q b0=some a2∧f 0=cU a1 k∧f 3=i64 q∧f 100=zB b0∧aI G K (L) w) ?_ ?_))))
       ·rintro f h7 ⟨b0,b,e1,e2,c0,c1⟩
        unfold aCw at b
        refine aA ?_
        rcases aH b with ⟨b1,b⟩|⟨b1,b⟩
        ·refine aM b1 c0 (aL (aF (v:=zB false) (aG (bM (bV (aV (aV ?_)))))))
         have e3:=a3 _ (zI b).symm
         subst e3
         have d:(some false)=some R:=d
         obtain rfl:=zI d
         exact bV (aV (aV (bP results28 rfl ⟨rfl,c1⟩)))
        ·exact aJ b1 c0 (bA (bC (aA (aP (aN e2 (aD (cP rfl rfl) (aF (v:=i64 (wr (q+1))) (aG ⟨wr (q+1),(zI b).symm,e1,rfl,c1⟩))))))))
       refine aP (aN J (aD (kZ rfl rfl) (aO (v:=zB (decide (0 < q))) ?_)))
       rcases aH b with ⟨m,b⟩|⟨m,b⟩
       ·refine bD m rfl rfl (aN a8 (bD m rfl rfl (aD (cJ rfl e) (bD m rfl rfl (aD (bO (k':=k+3) cV rfl e rfl) (bD m rfl rfl (aD (bH (t:=3) fH V e rfl rfl) (bD m rfl rfl (aN J (bD m rfl rfl (aD (kH rfl rfl) (bD m rfl rfl ?_))))))))))))
        obtain ⟨h8,c2,b⟩:=aB b
        refine aD (dI cM rfl z rfl rfl rfl c2) ?_
        obtain ⟨i0,e5,e6⟩:=cX.el (sz:=3) rfl z c2
        cases e6
        refine bD m rfl rfl ?_
        obtain ⟨i1,e7,e8,e9,f0⟩:=aI.lendB (i:=0) V rfl
        obtain ⟨c3,f1,b⟩:=aB b
        refine aS (vs:=[cU a7 ((wr (q - 1)).toNat * 3+0),cU (some ⟨y,0,none⟩) 0]) call58 (lst2 rfl d8) (aEM e9 (e5.mono e7) e8 f1) ?_
        rintro _ i2 ⟨rfl,f2⟩
        have f3:=f0 _ _ f2
        exact bD m rfl rfl (aD (eJ rfl) (aD (bL (v:=zB (!c3)) m rfl rfl) (aG ⟨!c3,b,a8,J,rfl,(aI.arr 1 [] f3 rfl)⟩)))
       ·exact aR m rfl rfl (aR m rfl rfl (aR m rfl rfl (aR m rfl rfl (aR m rfl rfl (aR m rfl rfl (aR m rfl rfl (aR m rfl rfl (aR m rfl rfl (aD (bK (v:=zB false) m rfl rfl) (aG ⟨false,b,a8,J,rfl,(aI.arr 1 [] V rfl)⟩))))))))))
     refine eR (C:=fun w'=>aI G K (box y 69 [i64 l.F,i64 l.B,i64 l.To]::L) w') bZ (by kernel_rfl) (aI.mono c (eC.drew _)) (bF (fun _ c=>bT (t':=0) hQ rfl rfl) (bF (fun _ c=>dS cK c (i:=0) rfl rfl rfl) (bF (fun _ c=>bE r) (bF (fun _ c=>cJ rfl e) (bF (fun _ c=>bO (k':=k+0) gS rfl e rfl) (bF (fun _ c=>bH (t:=0) cK c e rfl rfl) (bF (fun _ c=>kH rfl rfl) ?_)))))))
     obtain ⟨c4,f4,b⟩:=aB b
     refine pZ (vs:=[i64 l.F,i64 0,i64 (wr (t.N - 1))]) (v:=zB c4) call56 rfl (fun _ c=>(uS c f4)) (bF (fun _ c=>eJ rfl) (bF (fun _ c=>bE (v:=zB (!c4)) rfl) ?_))
     rcases aH b with ⟨n,b⟩|⟨n,b⟩
     ·refine bI (g:=65) rfl rfl (cQ n) (bI (g:=65) rfl rfl (cQ n) (bI (g:=65) rfl rfl (cQ n) (bI (g:=65) rfl rfl (cQ n) (bI (g:=65) rfl rfl (cQ n) (bI (g:=65) rfl rfl (cQ n) (bI (g:=65) rfl rfl (cQ n) (bI (g:=65) rfl rfl (cQ n) (bI (g:=65) rfl rfl (cQ n) (bF (fun _ c=>bL (v:=zB true) n rfl rfl) (bF (fun _ c=>bE (v:=zB true) rfl) (bI (g:=76) rfl rfl (cQ (rfl:true=true)) (bI (g:=76) rfl rfl (cQ (rfl:true=true)) (bI (g:=76) rfl rfl (cQ (rfl:true=true)) (bI (g:=76) rfl rfl (cQ (rfl:true=true)) (bI (g:=76) rfl rfl (cQ (rfl:true=true)) (bI (g:=76) rfl rfl (cQ (rfl:true=true)) (bI (g:=76) rfl rfl (cQ (rfl:true=true)) (bI (g:=76) rfl rfl (cQ (rfl:true=true)) (bI (g:=76) rfl rfl (cQ (rfl:true=true)) (bI (g:=76) rfl rfl (cQ (rfl:true=true)) (bF (fun _ c=>bL (v:=zB true) (rfl:true=true) rfl rfl) (fE (fun i3 f5=>?_)))))))))))))))))))))))
      exact aA ⟨true,b,r,u,rfl,rfl,f5⟩
     ·refine cC (g:=65) rfl rfl (dF n) (bF (fun _ c=>bT (t':=2) gR rfl rfl) (cC (g:=65) rfl rfl (dF n) (bF (fun _ c=>dS cK c (i:=0) rfl rfl rfl) (cC (g:=65) rfl rfl (dF n) (bF (fun _ c=>bE r) (cC (g:=65) rfl rfl (dF n) (bF (fun _ c=>cJ rfl e) (cC (g:=65) rfl rfl (dF n) (bF (fun _ c=>bO (k':=k+0) gS rfl e rfl) (cC (g:=65) rfl rfl (dF n) (bF (fun _ c=>bH (t:=0) cK c e rfl rfl) (cC (g:=65) rfl rfl (dF n) (bF (fun _ c=>kH rfl rfl) (cC (g:=65) rfl rfl (dF n) ?_))))))))))))))
      obtain ⟨b2,f6,b⟩:=aB b
      refine pZ (vs:=[i64 l.To,i64 0,i64 (wr (t.N - 1))]) (v:=zB b2) call56 rfl (fun _ c=>(uS c f6)) (cC (g:=65) rfl rfl (dF n) (bF (fun _ c=>eJ rfl) (bF (fun _ c=>bK (v:=zB (!b2)) n rfl rfl) (bF (fun _ c=>bE (v:=zB (!b2)) rfl) ?_))))
      rcases aH b with ⟨j,b⟩|⟨j,b⟩
      ·exact bI (g:=76) rfl rfl (cQ j) (bI (g:=76) rfl rfl (cQ j) (bI (g:=76) rfl rfl (cQ j) (bI (g:=76) rfl rfl (cQ j) (bI (g:=76) rfl rfl (cQ j) (bI (g:=76) rfl rfl (cQ j) (bI (g:=76) rfl rfl (cQ j) (bI (g:=76) rfl rfl (cQ j) (bI (g:=76) rfl rfl (cQ j) (bI (g:=76) rfl rfl (cQ j) (bF (fun _ c=>bL (v:=zB true) j rfl rfl) (fE (fun i4 f7=>(aA ⟨true,b,r,u,rfl,rfl,f7⟩)))))))))))))
      ·refine cC (g:=76) rfl rfl (dF j) (bF (fun _ c=>bT (t':=1) iZ rfl rfl) (cC (g:=76) rfl rfl (dF j) (bF (fun _ c=>dS cK c (i:=0) rfl rfl rfl) (cC (g:=76) rfl rfl (dF j) (bF (fun _ c=>bE r) (cC (g:=76) rfl rfl (dF j) (bF (fun _ c=>cJ rfl e) (cC (g:=76) rfl rfl (dF j) (bF (fun _ c=>bO (k':=k+2) fL rfl e rfl) (cC (g:=76) rfl rfl (dF j) (bF (fun _ c=>bH (t:=2) iT c e rfl rfl) (cC (g:=76) rfl rfl (dF j) (bF (fun _ c=>bU (len:=t.L.length) bX rfl) (cC (g:=76) rfl rfl (dF j) (bF (fun _ c=>kH rfl rfl) (cC (g:=76) rfl rfl (dF j) ?_))))))))))))))))
       obtain ⟨b3,f8,b⟩:=aB b
       exact pZ (vs:=[i64 l.B,i64 0,i64 (wr ((t.L.length:Int) - 1))]) (v:=zB b3) call56 rfl (fun _ c=>(uS c f8)) (cC (g:=76) rfl rfl (dF j) (bF (fun _ c=>eJ rfl) (bF (fun _ c=>bK (v:=zB (!b3)) j rfl rfl) (fE (fun i5 f9=>(aA ⟨!b3,b,r,u,rfl,rfl,f9⟩))))))
    ·refine aJ a5 rfl (cA (aT (aT ?_)))
     have g0:=a3 _ (zI b).symm
     subst g0
     have d:(aDZ)=some R:=d
     exact bJ (aA ⟨d,x⟩)
 refine eR (C:=fun w'=>aI G K (L) w') bZ (by kernel_rfl) (aI.mono a (eC.drew _)) (bF (fun _ a=>bE (v:=cU a1 k) rfl) (bF (fun _ a=>cJ rfl e) (bF (fun _ a=>bO (k':=k+0) gS rfl e rfl) (bF (fun _ a=>bH (t:=0) cK a e rfl rfl) ?_))))
 obtain ⟨c6,g1,d⟩:=aB d
 refine pZ (vs:=[i64 t.N,i64 1,i64 40]) (v:=zB c6) call56 rfl (fun _ a=>(uS a g1)) (bF (fun _ a=>eJ rfl) (bF (fun _ a=>bE (v:=zB (!c6)) rfl) ?_))
 rcases aH d with ⟨h,d⟩|⟨h,d⟩
 ·refine bI (g:=11) rfl rfl (cQ h) (bI (g:=11) rfl rfl (cQ h) (bI (g:=11) rfl rfl (cQ h) (bI (g:=11) rfl rfl (cQ h) (bI (g:=11) rfl rfl (cQ h) (bI (g:=11) rfl rfl (cQ h) (bI (g:=11) rfl rfl (cQ h) (bI (g:=11) rfl rfl (cQ h) (bI (g:=11) rfl rfl (cQ h) (bI (g:=11) rfl rfl (cQ h) (bI (g:=11) rfl rfl (cQ h) (bF (fun _ a=>bL (v:=zB true) h rfl rfl) (bF (fun _ a=>bE (v:=zB true) rfl) (bI (g:=24) rfl rfl (cQ (rfl:true=true)) (bI (g:=24) rfl rfl (cQ (rfl:true=true)) (bI (g:=24) rfl rfl (cQ (rfl:true=true)) (bI (g:=24) rfl rfl (cQ (rfl:true=true)) (bI (g:=24) rfl rfl (cQ (rfl:true=true)) (bI (g:=24) rfl rfl (cQ (rfl:true=true)) (bF (fun _ a=>bL (v:=zB true) (rfl:true=true) rfl rfl) (bF (fun _ a=>bE (v:=zB true) rfl) (bI (g:=32) rfl rfl (cQ (rfl:true=true)) (bI (g:=32) rfl rfl (cQ (rfl:true=true)) (bI (g:=32) rfl rfl (cQ (rfl:true=true)) ?_)))))))))))))))))))))))
  exact bI (g:=32) rfl rfl (cQ (rfl:true=true)) (bI (g:=32) rfl rfl (cQ (rfl:true=true)) (bI (g:=32) rfl rfl (cQ (rfl:true=true)) (bF (fun _ a=>bL (v:=zB true) (rfl:true=true) rfl rfl) (fE (fun i6 g2=>(aA ⟨true,d,rfl,rfl,g2⟩))))))
 ·refine cC (g:=11) rfl rfl (dF h) (bF (fun _ a=>bE (v:=cU a1 k) rfl) (cC (g:=11) rfl rfl (dF h) (bF (fun _ a=>cJ rfl e) (cC (g:=11) rfl rfl (dF h) (bF (fun _ a=>bO (k':=k+1) oP rfl e rfl) (cC (g:=11) rfl rfl (dF h) (bF (fun _ a=>bH (t:=1) cK a e rfl rfl) (cC (g:=11) rfl rfl (dF h) (bF (fun _ a=>bE (v:=cU a1 k) rfl) (cC (g:=11) rfl rfl (dF h) (bF (fun _ a=>cJ rfl e) (cC (g:=11) rfl rfl (dF h) (bF (fun _ a=>bO (k':=k+0) gS rfl e rfl) (cC (g:=11) rfl rfl (dF h) (bF (fun _ a=>bH (t:=0) cK a e rfl rfl) (cC (g:=11) rfl rfl (dF h) (bF (fun _ a=>kH rfl rfl) (cC (g:=11) rfl rfl (dF h) ?_))))))))))))))))))
  obtain ⟨b4,g3,d⟩:=aB d
  refine pZ (vs:=[i64 t.I,i64 0,i64 (wr (t.N - 1))]) (v:=zB b4) call56 rfl (fun _ a=>(uS a g3)) (cC (g:=11) rfl rfl (dF h) (bF (fun _ a=>eJ rfl) (bF (fun _ a=>bK (v:=zB (!b4)) h rfl rfl) (bF (fun _ a=>bE (v:=zB (!b4)) rfl) ?_))))
  rcases aH d with ⟨o,d⟩|⟨o,d⟩
  ·exact bI (g:=24) rfl rfl (cQ o) (bI (g:=24) rfl rfl (cQ o) (bI (g:=24) rfl rfl (cQ o) (bI (g:=24) rfl rfl (cQ o) (bI (g:=24) rfl rfl (cQ o) (bI (g:=24) rfl rfl (cQ o) (bF (fun _ a=>bL (v:=zB true) o rfl rfl) (bF (fun _ a=>bE (v:=zB true) rfl) (bI (g:=32) rfl rfl (cQ (rfl:true=true)) (bI (g:=32) rfl rfl (cQ (rfl:true=true)) (bI (g:=32) rfl rfl (cQ (rfl:true=true)) (bI (g:=32) rfl rfl (cQ (rfl:true=true)) (bI (g:=32) rfl rfl (cQ (rfl:true=true)) (bI (g:=32) rfl rfl (cQ (rfl:true=true)) (bF (fun _ a=>bL (v:=zB true) (rfl:true=true) rfl rfl) (fE (fun i7 g4=>(aA ⟨true,d,rfl,rfl,g4⟩)))))))))))))))))
  ·refine cC (g:=24) rfl rfl (dF o) (bF (fun _ a=>bE (v:=cU a1 k) rfl) (cC (g:=24) rfl rfl (dF o) (bF (fun _ a=>cJ rfl e) (cC (g:=24) rfl rfl (dF o) (bF (fun _ a=>bO (k':=k+2) fL rfl e rfl) (cC (g:=24) rfl rfl (dF o) (bF (fun _ a=>bH (t:=2) iT a e rfl rfl) (cC (g:=24) rfl rfl (dF o) ?_))))))))
   obtain ⟨b5,g5,d⟩:=aB d
   refine pZ (vs:=[zS a4 t.L.length c5]) (v:=zB b5) call57 rfl (fun _ a=>(aHO a h6 g5)) (cC (g:=24) rfl rfl (dF o) (bF (fun _ a=>eJ rfl) (bF (fun _ a=>bK (v:=zB (!b5)) o rfl rfl) (bF (fun _ a=>bE (v:=zB (!b5)) rfl) ?_))))
   rcases aH d with ⟨p,d⟩|⟨p,d⟩
   ·exact bI (g:=32) rfl rfl (cQ p) (bI (g:=32) rfl rfl (cQ p) (bI (g:=32) rfl rfl (cQ p) (bI (g:=32) rfl rfl (cQ p) (bI (g:=32) rfl rfl (cQ p) (bI (g:=32) rfl rfl (cQ p) (bF (fun _ a=>bL (v:=zB true) p rfl rfl) (fE (fun i8 g6=>(aA ⟨true,d,rfl,rfl,g6⟩)))))))))
   ·exact cC (g:=32) rfl rfl (dF p) (bF (fun _ a=>bE (v:=cU a1 k) rfl) (cC (g:=32) rfl rfl (dF p) (bF (fun _ a=>cJ rfl e) (cC (g:=32) rfl rfl (dF p) (bF (fun _ a=>bO (k':=k+3) cV rfl e rfl) (cC (g:=32) rfl rfl (dF p) (bF (fun _ a=>bH (t:=3) fH a e rfl rfl) (cC (g:=32) rfl rfl (dF p) (bF (fun _ a=>bU (len:=t.E.length) cM rfl) (cC (g:=32) rfl rfl (dF p) (bF (fun _ a=>kZ rfl rfl) (bF (fun _ a=>bK (v:=zB (decide (300 < (t.E.length:Int)))) p rfl rfl) (fE (fun i9 g7=>(aA ⟨decide (300 < (t.E.length:Int)),d,rfl,rfl,g7⟩)))))))))))))))
theorem aJQ {a:cG} {k2:Nat} {b:cG} {a5:Nat} {R:(cG × cG × Bool)} (hs:aI G K (L) w) (h3:kK K a1 k2 (zC a a4 c5 a7 c8)) (h6:cX K a4 c5 a.L) (h9:cX K a7 c8 a.E) (d1:kK K a10 a5 (zC b a13 c14 a16 c17)) (d2:cX K a13 c14 b.L) (d3:cX K a16 c17 b.E) (o:aGj a b=some R):
  Calls Tryz.prog 29 ([cU a1 k2,cU a10 a5]:List Value).toArray w (gK fun v w'=>∃ (a9:Option Addr) (b0:Nat) (b1:Option Addr) (b2:Nat) (b3:Option Addr) (b4:Nat) (b5:Option Addr) (b6:Nat),v=zT #[zA (zCa R.1 a9 b0 b1 b2),zA (zCa R.2.1 b3 b4 b5 b6),zB R.2.2]∧aI G K (aK 9 K a9 b0 R.1.L::aK 69 K b1 b2 R.1.E::aK 9 K b3 b4 R.2.1.L::aK 69 K b5 b6 R.2.1.E::L) w'):=by
 let q:=zG
 refine aW func29 rfl (by kernel_rfl) (by show (2:Nat)≤31;decide) ?_
 unfold aGj at o
 refine aL (bW (vs:=q) zeroValue27 hs rfl (fun u g4 d4=>(bW (vs:=q) zeroValue27 d4 rfl (fun x g5 d5=>(aF (v:=zB false) (aG (aL (aO (v:=cU a1 k2) ?_))))))))
 obtain ⟨c,d6,o⟩:=aB o
 refine aS (vs:=[cU a1 k2]) call23 rfl (aCC d5 h3 h6 h9 d6) ?_
 rintro _ g6 ⟨e,h,j,k,y,z,p,rfl,g7,d7⟩
 refine aO (v:=zT #[zA (zCa c.1 e h j k),zS y c.2.1.length z,zB c.2.2]) (aD (bQ rfl rfl) (aD (bQ rfl rfl) (aD (bQ rfl rfl) (bW (vs:=q) zeroValue27 d7 rfl (fun b7 g8 d8=>(bY (i:=0) (ns:=(zC c.1 e h j k)) (us:=(zC c.1 e h j k)) sizeOf27 d8 rfl rfl rfl rfl rfl (dE rfl) rfl rfl (fun d9 (e0:aI G K (box b7 27 (zC c.1 e h j k)::aK 9 K e h c.1.L::aK 69 K j k c.1.E::aK 35 K y z (eD p c.2.1)::rows [2] p c.2.1::box x 27 q::box u 27 q::L) d9)=>(aF (v:=zS y c.2.1.length z) (aF (v:=zB c.2.2) (aG (aL (aO (v:=cU a10 a5) ?_))))))))))))
 obtain ⟨d,e1,o⟩:=aB o
 refine aS (vs:=[cU a10 a5]) call23 rfl (aCC e0 d1 d2 d3 e1) ?_
 rintro _ g9 ⟨l,c45,m,n,V,Z,r,rfl,h0,e2⟩
 refine aO (v:=zT #[zA (zCa d.1 l c45 m n),zS V d.2.1.length Z,zB d.2.2]) (aD (bQ rfl rfl) (aD (bQ rfl rfl) (aD (bQ rfl rfl) (bW (vs:=q) zeroValue27 e2 rfl (fun e3 h1 e4=>(bY (i:=0) (ns:=(zC d.1 l c45 m n)) (us:=(zC d.1 l c45 m n)) sizeOf27 e4 rfl rfl rfl rfl rfl (dE rfl) rfl rfl (fun e5 (e6:aI G K (box e3 27 (zC d.1 l c45 m n)::aK 9 K l c45 d.1.L::aK 69 K m n d.1.E::aK 35 K V Z (eD r d.2.1)::rows [2] r d.2.1::box b7 27 (zC c.1 e h j k)::aK 9 K e h c.1.L::aK 69 K j k c.1.E::aK 35 K y z (eD p c.2.1)::rows [2] p c.2.1::box x 27 q::box u 27 q::L) e5)=>(aF (v:=zS V d.2.1.length Z) (aF (v:=zB d.2.2) (aG (aQ (cN (fun f w=>∃ (a6:Bool),aBe c d a6=some R∧f 4=zP (some ⟨u,0,none⟩)∧f 5=zP (some ⟨x,0,none⟩)∧f 6=zB a6∧aI G K (aK 9 K l c45 d.1.L::aK 69 K m n d.1.E::aK 9 K e h c.1.L::aK 69 K j k c.1.E::box x 27 (zC d.1 l c45 m n)::box u 27 (zC c.1 e h j k)::L) w) ?_ ?_))))))))))))
 ·rintro f h2 ⟨a6,o,e7,e8,e9,a8⟩
  unfold aBe at o
  refine aA ?_
  obtain rfl:=zI o
  exact bM (aCS results29 (fV (vs:=(zC c.1 e h j k)) rfl dJ a8 (i:=5) rfl e7 rfl) (fV (vs:=(zC d.1 l c45 m n)) rfl dJ a8 (i:=4) rfl e8 rfl) (qA rfl e9) ⟨e,h,j,k,l,c45,m,n,rfl,(aI.arr 6 [2,3,0,1] a8 rfl)⟩)
 obtain ⟨h4,h5,f1,f2,b8⟩:=aI.lendB (i:=0) e6 rfl
 obtain ⟨a0,f3,f4,b9,c0⟩:=aI.lendB (i:=4) f2 rfl
 refine fK (C:=fun w'=>∃ L',aI G a0 L' w') [(0,0),(1,0),(2,1),(3,1),(4,0),(5,0),(6,1),(7,1),(8,2)] bZ (by kernel_rfl) (fun _ hg=>⟨_,aI.mono b9 hg⟩) (fun h7 f5=>?_)
 have J:=aI.mono b9 f5
 refine bS rfl (fun _ ⟨_,J⟩=>gT (t:=0) (vs:=(zC c.1 e h j k)) dJ J f4 rfl rfl rfl) (bS rfl (fun _ ⟨_,J⟩=>gT (t:=0) (vs:=(zC d.1 l c45 m n)) dJ J (f1.mono f3) rfl rfl rfl) (kY rfl (aO (v:=zB c.2.2) (aZ (aA ⟨⟨_,J⟩,?_⟩)))))
 refine kY rfl (aO (v:=zB c.2.2) (aZ (aA ⟨⟨_,J⟩,?_⟩)))
 rcases aH o with ⟨a2,o⟩|⟨a2,o⟩
 ·refine WE_vg rfl rfl rfl a2 (fun _ _=>bE (v:=zB d.2.2) rfl) (bS rfl (fun _ _=>bL (v:=zB d.2.2) a2 rfl rfl) (kY rfl (bY (i:=9) (ns:=(zC c.1 e h j k)) (us:=(zC c.1 e h j k)) sizeOf27 J rfl rfl rfl rfl rfl (dE rfl) rfl rfl (fun f6 (c1:aI G a0 (aK 9 K l c45 d.1.L::aK 69 K m n d.1.E::aK 35 K V Z (eD r d.2.1)::rows [2] r d.2.1::aK 9 K e h c.1.L::aK 69 K j k c.1.E::aK 35 K y z (eD p c.2.1)::rows [2] p c.2.1::box x 27 q::box u 27 (zC c.1 e h j k)::L) f6)=>(aZ (aA ⟨⟨_,c1⟩,?_⟩))))))
  refine kY rfl (bY (i:=8) (ns:=(zC d.1 l c45 m n)) (us:=(zC d.1 l c45 m n)) sizeOf27 c1 rfl rfl rfl rfl rfl (dE rfl) rfl rfl (fun f7 (c2:aI G a0 (aK 9 K l c45 d.1.L::aK 69 K m n d.1.E::aK 35 K V Z (eD r d.2.1)::rows [2] r d.2.1::aK 9 K e h c.1.L::aK 69 K j k c.1.E::aK 35 K y z (eD p c.2.1)::rows [2] p c.2.1::box x 27 (zC d.1 l c45 m n)::box u 27 (zC c.1 e h j k)::L) f7)=>(aZ (aA ⟨⟨_,c2⟩,?_⟩))))
  have f8:=c0 _ _ c2
  have f9:=b8 _ _ f8
  exact aGa rfl (aF (v:=zB d.2.2) (aG (lF (aA ⟨d.2.2,o,rfl,rfl,rfl,(aI.arr 10 [2,3,6,7] f9 rfl)⟩))))
 ·refine WE_off rfl rfl rfl (dQ a2) (bS rfl (fun _ _=>bK (v:=zB false) a2 rfl rfl) (kY rfl (bY (i:=9) (ns:=(zC c.1 e h j k)) (us:=(zC c.1 e h j k)) sizeOf27 J rfl rfl rfl rfl rfl (dE rfl) rfl rfl (fun g0 (c3:aI G a0 (aK 9 K l c45 d.1.L::aK 69 K m n d.1.E::aK 35 K V Z (eD r d.2.1)::rows [2] r d.2.1::aK 9 K e h c.1.L::aK 69 K j k c.1.E::aK 35 K y z (eD p c.2.1)::rows [2] p c.2.1::box x 27 q::box u 27 (zC c.1 e h j k)::L) g0)=>(aZ (aA ⟨⟨_,c3⟩,?_⟩))))))
  refine kY rfl (bY (i:=8) (ns:=(zC d.1 l c45 m n)) (us:=(zC d.1 l c45 m n)) sizeOf27 c3 rfl rfl rfl rfl rfl (dE rfl) rfl rfl (fun g1 (c4:aI G a0 (aK 9 K l c45 d.1.L::aK 69 K m n d.1.E::aK 35 K V Z (eD r d.2.1)::rows [2] r d.2.1::aK 9 K e h c.1.L::aK 69 K j k c.1.E::aK 35 K y z (eD p c.2.1)::rows [2] p c.2.1::box x 27 (zC d.1 l c45 m n)::box u 27 (zC c.1 e h j k)::L) g1)=>(aZ (aA ⟨⟨_,c4⟩,?_⟩))))
  have g2:=c0 _ _ c4
  have g3:=b8 _ _ g2
  exact aGa rfl (aF (v:=zB false) (aG (lF (aA ⟨false,o,rfl,rfl,rfl,(aI.arr 10 [2,3,6,7] g3 rfl)⟩))))
theorem aGm {d:cG} {j:Nat} {k:Int} {l:aU} {R:Int} (hs:aI G K (L) w) (e:kK K a1 j (zC d a4 c5 a7 c8)) (h6:cX K a4 c5 d.L) (n:cX K a7 c8 d.E) (i:aHU d k l=some R):
  Calls Tryz.prog 60 ([cU a1 j,i64 k,str l]:List Value).toArray w (gK fun v w'=>v=i64 R∧aI G K (L) w'):=by
 refine aW func60 rfl (by kernel_rfl) (by show (3:Nat)≤57;decide) ?_
 unfold aHU at i
 refine aL (aF (v:=i64 0) (aG (aQ (aL (aF (v:=i64 0) (aG (bB (fun f w=>aEa=some R∧aI G K (L) w) ?_ ?_)))))))
 ·rintro f d8 ⟨i,c1⟩
  unfold aEa at i
  refine aA (aL (aF (v:=i64 (-1)) (aG ?_)))
  obtain rfl:=zI i
  exact bM (bP results60 rfl ⟨rfl,c1⟩)
 obtain ⟨d9,c3,i⟩:=aB i
 refine cE c3 (fun (h:Int) f w=>f 0=cU a1 j∧f 1=i64 k∧f 2=str l∧f 7=i64 h∧aI G K (L) w) ?_ ?_
 ·exact ⟨rfl,rfl,rfl,rfl,hs⟩
 ·rintro h u f e0 c a9 ⟨x,y,b0,z,J⟩
  replace c:aFI d k l h=some u:=c
  unfold aFI at c
  refine aQ (aQ (cN (fun f w=>∃ (V:Bool),aEc d k l h V=some u∧f 0=cU a1 j∧f 1=i64 k∧f 2=str l∧f 7=i64 h∧f 18=zB V∧aI G K (L) w) ?_ ?_))
  ·rintro f e1 ⟨V,c,o,Z,a0,p,b1,a⟩
   unfold aEc at c
   refine aA ?_
   rcases aH c with ⟨a2,c⟩|⟨a2,c⟩
   ·refine aM a2 b1 (bA (aA (aQ (cY (aQ (cN (fun f w=>∃ (a3:Bool),aEb d h a3=some u∧f 0=cU a1 j∧f 1=i64 k∧f 2=str l∧f 7=i64 h∧f 48=zB a3∧aI G K (L) w) ?_ ?_))))))
    ·rintro f e2 ⟨a3,c,b2,c4,c6,b3,b4,q⟩
     unfold aEb at c
     refine aA ?_
     rcases aH c with ⟨a5,c⟩|⟨a5,c⟩
     ·refine aM a5 b4 (aL (aN b2 (aD (cJ rfl e) (aD (bO (k':=j+3) cV rfl e rfl) (aD (bH (t:=3) fH q e rfl rfl) (aN b3 ?_))))))
      obtain ⟨b5,b6,c⟩:=aB c
      refine aD (dI cM rfl n rfl rfl rfl b6) ?_
      obtain ⟨e3,b7,c7⟩:=cX.el (sz:=3) rfl n b6
      cases c7
      refine aD (bO (k':=h.toNat * 3+2) gR rfl b7 rfl) (aD (bH (t:=2) cK q b7 rfl rfl) (aF (v:=i64 b5.To) (aG (bM (bV (aV (aV ?_)))))))
      have c9:=a9 _ (zI c).symm
      subst c9
      have i:(some b5.To)=some R:=i
      obtain rfl:=zI i
      exact bV (aV (aV (bP results60 rfl ⟨rfl,q⟩)))
     ·exact aJ a5 b4 (bA (bC (aA (aP (aN b3 (aD (cP rfl rfl) (aF (v:=i64 (wr (h+1))) (aG ⟨wr (h+1),(zI c).symm,b2,c4,c6,rfl,q⟩))))))))
    refine eR (C:=fun w'=>aI G K (L) w') bZ (by kernel_rfl) (aI.mono a (eC.drew _)) (bF (fun _ a=>bE o) (bF (fun _ a=>cJ rfl e) (bF (fun _ a=>bO (k':=j+3) cV rfl e rfl) (bF (fun _ a=>bH (t:=3) fH a e rfl rfl) (bF (fun _ a=>bE p) ?_)))))
    obtain ⟨d1,a6,c⟩:=aB c
    refine bF (fun _ a=>dI cM rfl n rfl rfl rfl a6) ?_
    obtain ⟨e4,r,d2⟩:=cX.el (sz:=3) rfl n a6
    cases d2
    refine bF (fun _ a=>bO (k':=h.toNat * 3+0) hQ rfl r rfl) (bF (fun _ a=>bH (t:=0) cK a r rfl rfl) (bF (fun _ a=>bE Z) (bF (fun _ a=>gE rfl rfl) (bF (fun _ a=>bE (v:=zB (d1.F == k)) rfl) ?_))))
    rcases aH c with ⟨b,c⟩|⟨b,c⟩
    ·refine cC (g:=31) rfl rfl b (bF (fun _ a=>bE o) (cC (g:=31) rfl rfl b (bF (fun _ a=>cJ rfl e) (cC (g:=31) rfl rfl b (bF (fun _ a=>bO (k':=j+2) fL rfl e rfl) (cC (g:=31) rfl rfl b (bF (fun _ a=>bH (t:=2) iT a e rfl rfl) (cC (g:=31) rfl rfl b (bF (fun _ a=>bE o) (cC (g:=31) rfl rfl b (bF (fun _ a=>cJ rfl e) (cC (g:=31) rfl rfl b (bF (fun _ a=>bO (k':=j+3) cV rfl e rfl) (cC (g:=31) rfl rfl b (bF (fun _ a=>bH (t:=3) fH a e rfl rfl) (cC (g:=31) rfl rfl b (bF (fun _ a=>bE p) (cC (g:=31) rfl rfl b (bF (fun _ a=>dI cM rfl n rfl rfl rfl a6) (cC (g:=31) rfl rfl b (bF (fun _ a=>bO (k':=h.toNat * 3+1) iZ rfl r rfl) (cC (g:=31) rfl rfl b (bF (fun _ a=>bH (t:=1) cK a r rfl rfl) ?_)))))))))))))))))))))))
     refine cC (g:=31) rfl rfl b ?_
     obtain ⟨b8,b9,c⟩:=aB c
     refine bF (fun _ a=>dI bX rfl h6 rfl rfl rfl b9) ?_
     obtain ⟨e5,d3,d4⟩:=cX.el (sz:=1) rfl h6 b9
     cases d4
     exact cC (g:=31) rfl rfl b (bF (fun _ a=>bH (t:=0) qB a d3 rfl rfl) (cC (g:=31) rfl rfl b (bF (fun _ a=>bE a0) (cC (g:=31) rfl rfl b (bF (fun _ a=>zX rfl rfl) (bF (fun _ a=>bL (v:=zB (b8 == l)) b rfl rfl) (fE (fun e6 d5=>(aA ⟨b8 == l,c,o,Z,a0,p,rfl,d5⟩)))))))))
    ·exact bI (g:=31) rfl rfl (dQ b) (bI (g:=31) rfl rfl (dQ b) (bI (g:=31) rfl rfl (dQ b) (bI (g:=31) rfl rfl (dQ b) (bI (g:=31) rfl rfl (dQ b) (bI (g:=31) rfl rfl (dQ b) (bI (g:=31) rfl rfl (dQ b) (bI (g:=31) rfl rfl (dQ b) (bI (g:=31) rfl rfl (dQ b) (bI (g:=31) rfl rfl (dQ b) (bI (g:=31) rfl rfl (dQ b) (bI (g:=31) rfl rfl (dQ b) (bI (g:=31) rfl rfl (dQ b) (bI (g:=31) rfl rfl (dQ b) (bI (g:=31) rfl rfl (dQ b) (bI (g:=31) rfl rfl (dQ b) (bF (fun _ a=>bK (v:=zB false) b rfl rfl) (fE (fun e7 d6=>(aA ⟨false,c,o,Z,a0,p,rfl,d6⟩)))))))))))))))))))
   ·refine aJ a2 b1 (cA (aT (aT ?_)))
    have d7:=a9 _ (zI c).symm
    subst d7
    have i:(aEa)=some R:=i
    exact bJ (aA ⟨i,a⟩)
  refine aP (aN z (aN x (aD (cJ rfl e) (aD (bO (k':=j+3) cV rfl e rfl) (aD (bH (t:=3) fH J e rfl rfl) (aD (bU (len:=d.E.length) cM rfl) (aD (cL rfl rfl) (aO (v:=zB (decide (h < (d.E.length:Int)))) ?_))))))))
  rcases aH c with ⟨m,c⟩|⟨m,c⟩
  ·exact bD m rfl rfl (aN y (bD m rfl rfl (aD (zV rfl rfl) (aD (bL (v:=zB (decide (0≤k))) m rfl rfl) (aG ⟨decide (0≤k),c,x,y,b0,z,rfl,J⟩)))))
  ·exact aR m rfl rfl (aR m rfl rfl (aD (bK (v:=zB false) m rfl rfl) (aG ⟨false,c,x,y,b0,z,rfl,J⟩)))
theorem aGU {a:cG} {k2:Nat} {b:cG} {b2:Nat} {a8:Bool} {R:((List aU) × Bool)} (hs:aI G K (L) w) (h3:kK K a1 k2 (zC a a4 c5 a7 c8)) (h6:cX K a4 c5 a.L) (h9:cX K a7 c8 a.E) (i2:kK K a10 b2 (zC b a13 c14 a16 c17)) (r7:cX K a13 c14 b.L) (v8:cX K a16 c17 b.E) (hm:aEH a b a8=some R):
  Calls Tryz.prog 30 ([cU a1 k2,cU a10 b2,zB a8]:List Value).toArray w (gK fun v w'=>∃ (r8:Option Addr) (r9:Nat),v=zT #[zS r8 R.1.length r9,zB R.2]∧aI G K (aK 9 K r8 r9 R.1::L) w'):=by
 refine aW func30 rfl (by kernel_rfl) (by show (3:Nat)≤153;decide) ?_
 unfold aEH at hm
 refine aL (aF (v:=zS none 0 0) (aF (v:=zB false) (aG (aQ (fK (C:=fun w'=>∃ L',aI G K L' w') [(1,0),(2,0),(3,0),(4,0),(6,0),(7,0),(8,0),(9,0),(0,1),(5,1),(10,1),(11,1),(12,0)] bZ (by kernel_rfl) (fun _ hg=>⟨_,aI.mono hs hg⟩) (fun w19 v9=>?_))))))
 have f1:=aI.mono hs v9
 refine bS rfl (fun _ _=>bE (v:=cU a1 k2) rfl) (bS rfl (fun _ _=>cJ rfl h3) (bS rfl (fun _ _=>bO (k':=k2+2) fL rfl h3 rfl) (bS rfl (fun _ ⟨_,f1⟩=>bH (t:=2) iT f1 h3 rfl rfl) (bS rfl (fun _ _=>bE (v:=cU a10 b2) rfl) (bS rfl (fun _ _=>cJ rfl i2) (bS rfl (fun _ _=>bO (k':=b2+2) fL rfl i2 rfl) (bS rfl (fun _ ⟨_,f1⟩=>bH (t:=2) iT f1 i2 rfl rfl) (kY rfl (bR (Kt:=K) (xs:=([]:List aU)) (cs:=[]) (vs:=[]) bX gJ rfl rfl f1 rfl (by kernel_rfl) rfl rfl rfl trivial (fun w0 w1 (s0:aI G K (aK 9 K w0 0 ([]:List aU)::L) w1)=>(aZ (aA ⟨⟨_,s0⟩,?_⟩))))))))))))
 refine kY rfl ?_
 obtain ⟨w2,w3,hm⟩:=aB hm
 refine lW (i:=0) bX underlying24 gJ rfl rfl s0 rfl (zR _) h6 w3 rfl rfl rfl rfl (fun w4 w5 w6 (s1:aI G K (aK 9 K w4 w5 w2::L) w6)=>(aZ (aA ⟨⟨_,s1⟩,?_⟩)))
 refine kY rfl ?_
 obtain ⟨d6,w7,hm⟩:=aB hm
 refine lW (i:=0) bX underlying24 gJ rfl rfl s1 rfl (zR _) r7 w7 rfl rfl rfl rfl (fun d7 d8 w8 (s2:aI G K (aK 9 K d7 d8 d6::L) w8)=>(aZ (aA ⟨⟨_,s2⟩,?_⟩)))
 refine kY rfl ?_
 obtain ⟨K38,b13,w9,x0,x1⟩:=aI.lendS (i:=0) s2 (zR _) rfl
 obtain ⟨d,x2,hm⟩:=aB hm
 refine aS (vs:=[zS d7 d6.length d8]) call59 rfl (aEL x0 w9 x2) ?_
 rintro _ w47 ⟨j,k,rfl,x3⟩
 have s3:=x1 _ _ x3
 refine aZ (aA ⟨⟨_,s3⟩,?_⟩)
 refine bS rfl (fun _ _=>dV (v:=zS j d.length k) rfl) (lF (aA (aL (bR (Kt:=K) (xs:=([0]:List Int)) (cs:=[i64 0]) (vs:=[(0,i64 0)]) cF jC rfl rfl s3 rfl (by kernel_rfl) rfl rfl rfl ⟨rfl,trivial⟩ (fun d9 x4 (x5:aI G K (aK 2 K d9 1 ([0]:List Int)::aK 9 K d7 d8 d6::aK 9 K j k d::L) x4)=>(aF (v:=zS d9 ([0]:List Int).length 1) (aG (aL (bR (Kt:=K) (xs:=([0]:List Int)) (cs:=[i64 0]) (vs:=[(0,i64 0)]) cF jC rfl rfl x5 rfl (by kernel_rfl) rfl rfl rfl ⟨rfl,trivial⟩ (fun f2 x6 (x7:aI G K (aK 2 K f2 1 ([0]:List Int)::aK 2 K d9 1 ([0]:List Int)::aK 9 K d7 d8 d6::aK 9 K j k d::L) x6)=>(aF (v:=zS f2 ([0]:List Int).length 1) (aG (aL (bR (Kt:=K) (xs:=([(-1)]:List Int)) (cs:=[i64 (-1)]) (vs:=[(0,i64 (-1))]) aIv ez_3 rfl rfl x7 rfl (by kernel_rfl) rfl rfl rfl ⟨rfl,trivial⟩ (fun i3 x8 (x9:aI G K (aK 3 K i3 1 ([(-1)]:List Int)::aK 2 K f2 1 ([0]:List Int)::aK 2 K d9 1 ([0]:List Int)::aK 9 K d7 d8 d6::aK 9 K j k d::L) x8)=>(aF (v:=zS i3 ([(-1)]:List Int).length 1) (aG (aL (bR (Kt:=K) (xs:=([([]:aU)]:List aU)) (cs:=[str ([]:aU)]) (vs:=[(0,str ([]:aU))]) bX gJ rfl rfl x9 rfl (by kernel_rfl) rfl rfl rfl ⟨rfl,trivial⟩ (fun n3 y0 (y1:aI G K (aK 9 K n3 1 ([([]:aU)]:List aU)::aK 3 K i3 1 ([(-1)]:List Int)::aK 2 K f2 1 ([0]:List Int)::aK 2 K d9 1 ([0]:List Int)::aK 9 K d7 d8 d6::aK 9 K j k d::L) y0)=>(aF (v:=zS n3 ([([]:aU)]:List aU).length 1) (aG (aQ ?_)))))))))))))))))))))))
 refine aL (aF (v:=i64 0) (aG (bB (fun f w=>yS=some R∧aI G K (L) w) ?_ ?_)))
 ·rintro f w62 ⟨hm,y2⟩
  unfold yS at hm
  refine aA (aL (aF (v:=zS none 0 0) (aF (v:=zB false) (aG ?_))))
  have y3:=aI.nil (α:=aU) y2 9 K
  obtain rfl:=zI hm
  exact bM (kF results30 rfl rfl ⟨none,0,rfl,y3⟩)
 obtain ⟨b16,y5,hm⟩:=aB hm
 refine cE y5 (fun (s:(List Int × List Int × List Int × List aU × Int)) f w=>match s with|(f3,i4,i5,i6,x)=>∃ (i7:Option Addr) (i8:Nat) (i9:Option Addr) (j0:Nat) (j1:Option Addr) (j2:Nat) (j3:Option Addr) (j4:Nat),f 0=cU a1 k2∧f 1=cU a10 b2∧f 2=zB a8∧f 8=zS j d.length k∧f 9=zS i7 f3.length i8∧f 10=zS i9 i4.length j0∧f 11=zS j1 i5.length j2∧f 12=zS j3 i6.length j4∧f 13=i64 x∧aI G K (aK 9 K j3 j4 i6::aK 3 K j1 j2 i5::aK 2 K i9 j0 i4::aK 2 K i7 i8 f3::aK 9 K j k d::L) w) ?_ ?_
 ·exact ⟨d9,1,f2,1,i3,1,n3,1,rfl,rfl,rfl,rfl,rfl,rfl,rfl,rfl,rfl,(aI.arr 5 [0,1,2,3] y1 rfl)⟩
 ·rintro ⟨f3,i4,i5,i6,x⟩ f4 f b17 V s4 ⟨i7,i8,i9,j0,j1,j2,j3,j4,y6,y7,y8,y9,s5,z0,z1,z2,s6,s7⟩
  replace V:aBq a b a8 d f3 i4 i5 i6 x=some f4:=V
  unfold aBq at V
  refine aQ (aL (aN s6 (aN s5 (aD (bU (len:=f3.length) cF rfl) (aD (cL rfl rfl) (aG ?_))))))
  rcases aH V with ⟨n4,V⟩|⟨n4,V⟩
  ·refine aM n4 rfl (bA (aA (aQ (bB (fun f w=>∃ (f5:List Int) (f6:List Int) (f7:List Int) (f8:List aU) (j5:Option Addr) (j6:Nat) (j7:Option Addr) (j8:Nat) (j9:Option Addr) (k0:Nat) (k1:Option Addr) (k3:Nat),aCx x f5 f6 f7 f8=some f4∧f 0=cU a1 k2∧f 1=cU a10 b2∧f 2=zB a8∧f 8=zS j d.length k∧f 9=zS j5 f5.length j6∧f 10=zS j7 f6.length j8∧f 11=zS j9 f7.length k0∧f 12=zS k1 f8.length k3∧f 13=i64 x∧aI G K (aK 9 K k1 k3 f8::aK 3 K j9 k0 f7::aK 2 K j7 j8 f6::aK 2 K j5 j6 f5::aK 9 K j k d::L) w) ?_ ?_))))
   ·rintro f b18 ⟨f5,f6,f7,f8,j5,j6,j7,j8,j9,k0,k1,k3,V,z3,z4,z5,z6,z7,z8,z9,a00,a01,a02⟩
    unfold aCx at V
    exact aA (aP (aN a01 (aD (cP rfl rfl) (aF (v:=i64 (wr (x+1))) (aG ⟨(f5,f6,f7,f8,wr (x+1)),(zI V).symm,j5,j6,j7,j8,j9,k0,k1,k3,z3,z4,z5,z6,z7,z8,z9,a00,rfl,a02⟩)))))
   refine aL (aF (v:=i64 1) (aG (bB (fun f w=>∃ (f9:List Int) (g0:List Int) (g1:List Int) (g2:List aU) (k4:Option Addr) (k5:Nat) (k6:Option Addr) (k7:Nat) (k8:Option Addr) (k9:Nat) (l0:Option Addr) (l1:Nat),yT x f9 g0 g1 g2=some f4∧f 0=cU a1 k2∧f 1=cU a10 b2∧f 2=zB a8∧f 8=zS j d.length k∧f 9=zS k4 f9.length k5∧f 10=zS k6 g0.length k7∧f 11=zS k8 g1.length k9∧f 12=zS l0 g2.length l1∧f 13=i64 x∧aI G K (aK 9 K l0 l1 g2::aK 3 K k8 k9 g1::aK 2 K k6 k7 g0::aK 2 K k4 k5 f9::aK 9 K j k d::L) w) ?_ ?_)))
   ·rintro f b19 ⟨f9,g0,g1,g2,k4,k5,k6,k7,k8,k9,l0,l1,V,a03,a04,a05,a06,a07,a08,a09,a11,a12,a14⟩
    unfold yT at V
    exact bC (aA ⟨f9,g0,g1,g2,k4,k5,k6,k7,k8,k9,l0,l1,V,a03,a04,a05,a06,a07,a08,a09,a11,a12,a14⟩)
   obtain ⟨b20,a15,V⟩:=aB V
   refine cE a15 (fun (s:(List Int × List Int × List Int × List aU × Int)) f w=>match s with|(u,o,l,e,a9)=>∃ (a0:Option Addr) (a2:Nat) (z:Option Addr) (J:Nat) (p:Option Addr) (q:Nat) (m:Option Addr) (n:Nat),f 0=cU a1 k2∧f 1=cU a10 b2∧f 2=zB a8∧f 8=zS j d.length k∧f 9=zS a0 u.length a2∧f 10=zS z o.length J∧f 11=zS p l.length q∧f 12=zS m e.length n∧f 13=i64 x∧f 14=i64 a9∧aI G K (aK 9 K m n e::aK 3 K p q l::aK 2 K z J o::aK 2 K a0 a2 u::aK 9 K j k d::L) w) ?_ ?_
   ·exact ⟨i7,i8,i9,j0,j1,j2,j3,j4,y6,y7,y8,y9,s5,z0,z1,z2,s6,rfl,s7⟩
   ·rintro ⟨u,o,l,e,a9⟩ c1 f b21 c s8 ⟨a0,a2,z,J,p,q,m,n,e0,e1,e2,c2,e3,e4,g3,g4,c4,c6,a6⟩
    replace c:aBp a b a8 d x u o l e a9=some c1:=c
    unfold aBp at c
    refine aQ (aL (aN c6 (aN c2 (aD (bU (len:=d.length) bX rfl) (aD (cL rfl rfl) (aG ?_))))))
    rcases aH c with ⟨n5,c⟩|⟨n5,c⟩
    ·refine aM n5 rfl (bA (aA (aQ (bB (fun f w=>∃ (g5:List Int) (g6:List Int) (g7:List Int) (g8:List aU) (l2:Option Addr) (l3:Nat) (l4:Option Addr) (l5:Nat) (l6:Option Addr) (l7:Nat) (l8:Option Addr) (l9:Nat),tH a9 g5 g6 g7 g8=some c1∧f 0=cU a1 k2∧f 1=cU a10 b2∧f 2=zB a8∧f 8=zS j d.length k∧f 9=zS l2 g5.length l3∧f 10=zS l4 g6.length l5∧f 11=zS l6 g7.length l7∧f 12=zS l8 g8.length l9∧f 13=i64 x∧f 14=i64 a9∧aI G K (aK 9 K l8 l9 g8::aK 3 K l6 l7 g7::aK 2 K l4 l5 g6::aK 2 K l2 l3 g5::aK 9 K j k d::L) w) ?_ ?_))))
     ·rintro f b22 ⟨g5,g6,g7,g8,l2,l3,l4,l5,l6,l7,l8,l9,c,a17,a18,a19,a20,a21,a22,a24,a25,a26,a27,a29⟩
      unfold tH at c
      exact aA (aP (aN a27 (aD (cP rfl rfl) (aF (v:=i64 (wr (a9+1))) (aG ⟨(g5,g6,g7,g8,wr (a9+1)),(zI c).symm,l2,l3,l4,l5,l6,l7,l8,l9,a17,a18,a19,a20,a21,a22,a24,a25,a26,rfl,a29⟩)))))
     refine aQ (eR (C:=fun w'=>aI G K (aK 9 K m n e::aK 3 K p q l::aK 2 K z J o::aK 2 K a0 a2 u::aK 9 K j k d::L) w') bZ (by kernel_rfl) (aI.mono a6 (eC.drew _)) (bF (fun _ a6=>bE e0) (bF (fun _ a6=>bE e3) (bF (fun _ a6=>bE c4) ?_))))
     obtain ⟨a30,n6,c⟩:=aB c
     have s9:=dA a6 (i:=3) rfl n6
     refine bF (fun _ a6=>dT cF rfl s9 rfl rfl rfl n6) (bF (fun _ a6=>gP (t:=0) cK a6 (i:=3) rfl n6 rfl rfl rfl) (bF (fun _ a6=>bE c2) (bF (fun _ a6=>bE c6) ?_)))
     obtain ⟨b3,b7,c⟩:=aB c
     have m0:=dA a6 (i:=4) rfl b7
     refine bF (fun _ a6=>dT bX rfl m0 rfl rfl rfl b7) (bF (fun _ a6=>gP (t:=0) qB a6 (i:=4) rfl b7 rfl rfl rfl) ?_)
     obtain ⟨a3,a31,c⟩:=aB c
     refine pZ (vs:=[cU a1 k2,i64 a30,str b3]) (v:=i64 a3) call60 rfl (fun _ a6=>(aGm a6 h3 h6 h9 a31)) (bF (fun _ a6=>dV (v:=i64 a3) rfl) (fE (fun b23 b0=>(aA (aQ (eR (C:=fun w'=>aI G K (aK 9 K m n e::aK 3 K p q l::aK 2 K z J o::aK 2 K a0 a2 u::aK 9 K j k d::L) w') bZ (by kernel_rfl) (aI.mono b0 (eC.drew _)) (bF (fun _ b0=>bE e1) (bF (fun _ b0=>bE e4) (bF (fun _ b0=>bE c4) ?_)))))))))
     obtain ⟨a32,n7,c⟩:=aB c
     have t0:=dA b0 (i:=2) rfl n7
     refine bF (fun _ b0=>dT cF rfl t0 rfl rfl rfl n7) (bF (fun _ b0=>gP (t:=0) cK b0 (i:=2) rfl n7 rfl rfl rfl) (bF (fun _ b0=>bE c2) (bF (fun _ b0=>bE c6) (bF (fun _ b0=>dT bX rfl m0 rfl rfl rfl b7) (bF (fun _ b0=>gP (t:=0) qB b0 (i:=4) rfl b7 rfl rfl rfl) ?_)))))
     obtain ⟨r,a33,c⟩:=aB c
     refine pZ (vs:=[cU a10 b2,i64 a32,str b3]) (v:=i64 r) call60 rfl (fun _ b0=>(aGm b0 i2 r7 v8 a33)) (bF (fun _ b0=>dV (v:=i64 r) rfl) (fE (fun b24 m1=>(aA (aQ (aQ (cN (fun f w=>∃ (n8:Bool),nN x u o l e a9 b3 a3 r n8=some c1∧f 0=cU a1 k2∧f 1=cU a10 b2∧f 2=zB a8∧f 8=zS j d.length k∧f 9=zS a0 u.length a2∧f 10=zS z o.length J∧f 11=zS p l.length q∧f 12=zS m e.length n∧f 13=i64 x∧f 14=i64 a9∧f 15=i64 a3∧f 16=i64 r∧f 82=zB n8∧aI G K (aK 9 K m n e::aK 3 K p q l::aK 2 K z J o::aK 2 K a0 a2 u::aK 9 K j k d::L) w) ?_ ?_)))))))
     ·rintro f b25 ⟨n8,c,n9,o0,o1,o2,o3,o4,o5,o6,o7,o8,o9,p0,t1,p1⟩
      unfold nN at c
      refine aA ?_
      rcases aH c with ⟨p2,c⟩|⟨p2,c⟩
      ·exact aM p2 t1 (cA (aT (bJ (aA ⟨u,o,l,e,a0,a2,z,J,p,q,m,n,c,n9,o0,o1,o2,o3,o4,o5,o6,o7,o8,p1⟩))))
      ·refine aJ p2 t1 (bA (aA (aQ (aQ (cN (fun f w=>∃ (p3:Bool),wG x u o l e a9 b3 a3 r p3=some c1∧f 0=cU a1 k2∧f 1=cU a10 b2∧f 2=zB a8∧f 8=zS j d.length k∧f 9=zS a0 u.length a2∧f 10=zS z o.length J∧f 11=zS p l.length q∧f 12=zS m e.length n∧f 13=i64 x∧f 14=i64 a9∧f 15=i64 a3∧f 16=i64 r∧f 88=zB p3∧aI G K (aK 9 K m n e::aK 3 K p q l::aK 2 K z J o::aK 2 K a0 a2 u::aK 9 K j k d::L) w) ?_ ?_)))))
       ·rintro f b26 ⟨p3,c,a35,a36,a37,t2,a38,a39,t3,t4,t5,t6,a40,a41,t7,p4⟩
        unfold wG at c
        refine aA ?_
        rcases aH c with ⟨p5,c⟩|⟨p5,c⟩
        ·refine aM p5 t7 (aL (aN t2 (aN t6 (aD (dT bX rfl m0 rfl rfl rfl b7) (aD (gP (t:=0) qB p4 (i:=4) rfl b7 rfl rfl rfl) (bR (Kt:=K) (xs:=([b3]:List aU)) (cs:=[str b3]) (vs:=[(0,str b3)]) bX gJ rfl rfl p4 rfl (by kernel_rfl) rfl rfl rfl ⟨rfl,trivial⟩ (fun p6 a42 (a43:aI G K (aK 9 K p6 1 ([b3]:List aU)::aK 9 K m n e::aK 3 K p q l::aK 2 K z J o::aK 2 K a0 a2 u::aK 9 K j k d::L) a42)=>(aF (v:=zS p6 ([b3]:List aU).length 1) (aG (aQ (aL (aN t5 (aF (v:=i64 x) (aG (bB (fun f w=>∃ (c7:List aU) (g9:Option Addr) (h0:Nat),yU c7=some c1∧f 17=zS g9 c7.length h0∧aI G K (aK 9 K g9 h0 c7::L) w) ?_ ?_)))))))))))))))
         ·rintro f b27 ⟨c7,g9,h0,c,a44,a46⟩
          unfold yU at c
          refine aA (aL (aN a44 (aF (v:=zS g9 c7.length h0) (aF (v:=zB true) (aG (bM (aV (bV (aV (aV (aV ?_)))))))))))
          have a47:=s8 _ (zI c).symm
          subst a47
          have V:(some (.inr (.inr (c7,true))))=some f4:=V
          refine bV (aV (bV (aV (aV (aV ?_)))))
          have a48:=s4 _ (zI V).symm
          subst a48
          have hm:(some (c7,true))=some R:=hm
          obtain rfl:=zI hm
          exact bV (aV (aV (kF results30 rfl rfl ⟨g9,h0,rfl,a46⟩)))
         obtain ⟨b28,a51,c⟩:=aB c
         refine cE a51 (fun (s:(List aU × Int)) f w=>match s with|(c3,p7)=>∃ (e5:Option Addr) (e6:Nat),f 11=zS p l.length q∧f 12=zS m e.length n∧f 17=zS e5 c3.length e6∧f 18=i64 p7∧aI G K (aK 9 K e5 e6 c3::aK 9 K m n e::aK 3 K p q l::L) w) ?_ ?_
         ·exact ⟨p6,1,t3,t4,rfl,rfl,(aI.arr 6 [0,1,2] a43 rfl)⟩
         ·rintro ⟨c3,p7⟩ a52 f b29 b5 a54 ⟨e5,e6,t8,t9,u0,p8,m2⟩
          replace b5:aCy l e c3 p7=some a52:=b5
          unfold aCy at b5
          refine aQ (aL (aN p8 (aD (kZ rfl rfl) (aG ?_))))
          rcases aH b5 with ⟨p9,b5⟩|⟨p9,b5⟩
          ·refine aM p9 rfl (bA (aA (aQ (cY (aP (aN t9 (aN p8 ?_)))))))
           obtain ⟨h1,q0,b5⟩:=aB b5
           have a55:=dA m2 (i:=1) rfl q0
           refine aD (dT bX rfl a55 rfl rfl rfl q0) (aD (gP (t:=0) qB m2 (i:=1) rfl q0 rfl rfl rfl) (bR (Kt:=K) (xs:=([h1]:List aU)) (cs:=[str h1]) (vs:=[(0,str h1)]) bX gJ rfl rfl m2 rfl (by kernel_rfl) rfl rfl rfl ⟨rfl,trivial⟩ (fun u1 u2 (a57:aI G K (aK 9 K u1 1 ([h1]:List aU)::aK 9 K e5 e6 c3::aK 9 K m n e::aK 3 K p q l::L) u2)=>(aN u0 ?_))))
           obtain ⟨q1,a58,b5⟩:=aB b5
           have a60:aI G K (aK 9 K e5 e6 c3::aK 9 K u1 1 ([h1]:List aU)::aK 9 K m n e::aK 3 K p q l::L) u2:=(aI.arr 2 [1,0] a57 rfl)
           refine dG (i:=0) bX underlying24 gJ rfl rfl a60 rfl (zR _) (zR _) a58 rfl rfl rfl rfl (fun _ h=>h) (fun q2 q3 a61 (q4:aI G K (aK 9 K q2 q3 q1::aK 9 K m n e::aK 3 K p q l::L) a61)=>(aF (v:=zS q2 q1.length q3) (aZ (bC (aA (aP (aN t8 (aN p8 ?_))))))))
           obtain ⟨u3,q5,b5⟩:=aB b5
           have a62:=dA q4 (i:=2) rfl q5
           exact aD (dT aIv rfl a62 rfl rfl rfl q5) (aD (gP (t:=0) sc_3 q4 (i:=2) rfl q5 rfl rfl rfl) (aF (v:=i64 u3) (aG ⟨(q1,u3),(zI b5).symm,q2,q3,t8,t9,rfl,rfl,q4⟩)))
          ·refine aJ p9 rfl (cA (aT (aT ?_)))
           have a63:=a54 _ (zI b5).symm
           subst a63
           have c:(yU c3)=some c1:=c
           exact bJ (aA ⟨c3,e5,e6,c,u0,(aI.arr 3 [0] m2 rfl)⟩)
        ·refine aJ p5 t7 (bA (aA (aL (aF (v:=zB false) (aG (aQ (aL (aF (v:=i64 0) (aG (bB (fun f w=>∃ (q6:Bool),yV x u o l e a9 b3 a3 r q6=some c1∧f 0=cU a1 k2∧f 1=cU a10 b2∧f 2=zB a8∧f 8=zS j d.length k∧f 9=zS a0 u.length a2∧f 10=zS z o.length J∧f 11=zS p l.length q∧f 12=zS m e.length n∧f 13=i64 x∧f 14=i64 a9∧f 15=i64 a3∧f 16=i64 r∧f 19=zB q6∧aI G K (aK 9 K m n e::aK 3 K p q l::aK 2 K z J o::aK 2 K a0 a2 u::aK 9 K j k d::L) w) ?_ ?_))))))))))
         ·rintro f b30 ⟨q6,c,u4,u5,u6,q7,u7,u8,u9,v0,q8,q9,a64,a65,a66,v1⟩
          unfold yV at c
          refine aA (aL (aN a66 (aD (eJ rfl) (aG ?_))))
          rcases aH c with ⟨r0,c⟩|⟨r0,c⟩
          ·refine aM r0 rfl (aL (aN u7 (aN a64 (bR (Kt:=K) (xs:=([a3]:List Int)) (cs:=[i64 a3]) (vs:=[(0,i64 a3)]) cF jC rfl rfl v1 rfl (by kernel_rfl) rfl rfl rfl ⟨rfl,trivial⟩ (fun a67 a68 (a69:aI G K (aK 2 K a67 1 ([a3]:List Int)::aK 9 K m n e::aK 3 K p q l::aK 2 K z J o::aK 2 K a0 a2 u::aK 9 K j k d::L) a68)=>?_)))))
           obtain ⟨b8,a70,c⟩:=aB c
           refine dG (i:=3) cF underlying35 jC rfl rfl a69 rfl (zR _) (zR _) a70 rfl rfl rfl rfl (fun _ h=>h) (fun b9 c0 a71 (a72:aI G K (aK 9 K m n e::aK 3 K p q l::aK 2 K z J o::aK 2 K b9 c0 b8::aK 9 K j k d::L) a71)=>(aF (v:=zS b9 b8.length c0) (aG (aL (aN u8 (aN a65 (bR (Kt:=K) (xs:=([r]:List Int)) (cs:=[i64 r]) (vs:=[(0,i64 r)]) cF jC rfl rfl a72 rfl (by kernel_rfl) rfl rfl rfl ⟨rfl,trivial⟩ (fun a73 a74 (a75:aI G K (aK 2 K a73 1 ([r]:List Int)::aK 9 K m n e::aK 3 K p q l::aK 2 K z J o::aK 2 K b9 c0 b8::aK 9 K j k d::L) a74)=>?_))))))))
           obtain ⟨c9,a76,c⟩:=aB c
           refine dG (i:=2) cF underlying35 jC rfl rfl a75 rfl (zR _) (zR _) a76 rfl rfl rfl rfl (fun _ h=>h) (fun d0 d1 a77 (a78:aI G K (aK 9 K m n e::aK 3 K p q l::aK 2 K d0 d1 c9::aK 2 K b9 c0 b8::aK 9 K j k d::L) a77)=>(aF (v:=zS d0 c9.length d1) (aG (aL (aN u9 (aN q8 (bR (Kt:=K) (xs:=([x]:List Int)) (cs:=[i64 x]) (vs:=[(0,i64 x)]) aIv ez_3 rfl rfl a78 rfl (by kernel_rfl) rfl rfl rfl ⟨rfl,trivial⟩ (fun a79 a80 (a81:aI G K (aK 3 K a79 1 ([x]:List Int)::aK 9 K m n e::aK 3 K p q l::aK 2 K d0 d1 c9::aK 2 K b9 c0 b8::aK 9 K j k d::L) a80)=>?_))))))))
           obtain ⟨h2,a82,c⟩:=aB c
           refine dG (i:=1) aIv underlying92 ez_3 rfl rfl a81 rfl (zR _) (zR _) a82 rfl rfl rfl rfl (fun _ h=>h) (fun h4 h5 a83 (v2:aI G K (aK 9 K m n e::aK 3 K h4 h5 h2::aK 2 K d0 d1 c9::aK 2 K b9 c0 b8::aK 9 K j k d::L) a83)=>(aF (v:=zS h4 h2.length h5) (aG (aP (aN v0 (aN q7 (aN q9 (aD (dT bX rfl m0 rfl rfl rfl b7) (aD (gP (t:=0) qB v2 (i:=4) rfl b7 rfl rfl rfl) (bR (Kt:=K) (xs:=([b3]:List aU)) (cs:=[str b3]) (vs:=[(0,str b3)]) bX gJ rfl rfl v2 rfl (by kernel_rfl) rfl rfl rfl ⟨rfl,trivial⟩ (fun a84 a85 (a86:aI G K (aK 9 K a84 1 ([b3]:List aU)::aK 9 K m n e::aK 3 K h4 h5 h2::aK 2 K d0 d1 c9::aK 2 K b9 c0 b8::aK 9 K j k d::L) a85)=>?_)))))))))))
           obtain ⟨r1,a87,c⟩:=aB c
           exact dG (i:=0) bX underlying24 gJ rfl rfl a86 rfl (zR _) (zR _) a87 rfl rfl rfl rfl (fun _ h=>h) (fun r2 r3 a88 (a89:aI G K (aK 9 K r2 r3 r1::aK 3 K h4 h5 h2::aK 2 K d0 d1 c9::aK 2 K b9 c0 b8::aK 9 K j k d::L) a88)=>(aF (v:=zS r2 r1.length r3) (aZ (bC (aA ⟨b8,c9,h2,r1,b9,c0,d0,d1,h4,h5,r2,r3,c,u4,u5,u6,q7,rfl,rfl,rfl,rfl,q8,q9,a89⟩)))))
          ·exact aJ r0 rfl (bA (bC (aA ⟨u,o,l,e,a0,a2,z,J,p,q,m,n,c,u4,u5,u6,q7,u7,u8,u9,v0,q8,q9,v1⟩)))
         obtain ⟨b31,a90,c⟩:=aB c
         refine cE a90 (fun (s:(Bool × Int)) f w=>match s with|(e7,d2)=>f 0=cU a1 k2∧f 1=cU a10 b2∧f 2=zB a8∧f 8=zS j d.length k∧f 9=zS a0 u.length a2∧f 10=zS z o.length J∧f 11=zS p l.length q∧f 12=zS m e.length n∧f 13=i64 x∧f 14=i64 a9∧f 15=i64 a3∧f 16=i64 r∧f 19=zB e7∧f 20=i64 d2∧aI G K (aK 9 K m n e::aK 3 K p q l::aK 2 K z J o::aK 2 K a0 a2 u::aK 9 K j k d::L) w) ?_ ?_
         ·exact ⟨a35,a36,a37,t2,a38,a39,t3,t4,t5,t6,a40,a41,rfl,rfl,p4⟩
         ·rintro ⟨e7,d2⟩ v3 f b32 y a91 ⟨m3,m4,m5,m6,e8,h7,m7,m8,m9,n0,h8,i0,v4,e9,f0⟩
          replace y:aCz u o a3 r e7 d2=some v3:=y
          unfold aCz at y
          refine aQ (aL (aN e9 (aN e8 (aD (bU (len:=u.length) cF rfl) (aD (cL rfl rfl) (aG ?_))))))
          rcases aH y with ⟨r4,y⟩|⟨r4,y⟩
          ·refine aM r4 rfl (bA (aA (aQ (cY (cN (fun f w=>∃ (n1:Bool),tI d2 n1=some v3∧f 0=cU a1 k2∧f 1=cU a10 b2∧f 2=zB a8∧f 8=zS j d.length k∧f 9=zS a0 u.length a2∧f 10=zS z o.length J∧f 11=zS p l.length q∧f 12=zS m e.length n∧f 13=i64 x∧f 14=i64 a9∧f 15=i64 a3∧f 16=i64 r∧f 19=zB n1∧f 20=i64 d2∧aI G K (aK 9 K m n e::aK 3 K p q l::aK 2 K z J o::aK 2 K a0 a2 u::aK 9 K j k d::L) w) ?_ ?_)))))
           ·rintro f b33 ⟨n1,y,a92,a93,a94,a95,a96,a97,a98,a99,b00,b01,b02,b03,b04,b05,b06⟩
            unfold tI at y
            exact bC (aA (aP (aN b05 (aD (cP rfl rfl) (aF (v:=i64 (wr (d2+1))) (aG ⟨(n1,wr (d2+1)),(zI y).symm,a92,a93,a94,a95,a96,a97,a98,a99,b00,b01,b02,b03,b04,rfl,b06⟩))))))
           refine aP (aN v4 (aO (v:=zB e7) ?_))
           rcases aH y with ⟨Z,y⟩|⟨Z,y⟩
           ·exact aX Z rfl rfl (aX Z rfl rfl (aX Z rfl rfl (aX Z rfl rfl (aX Z rfl rfl (aX Z rfl rfl (aX Z rfl rfl (dP (g:=123) rfl rfl (dP (g:=123) rfl rfl (dP (g:=123) rfl rfl (dP (g:=123) rfl rfl (dP (g:=123) rfl rfl (dP (g:=123) rfl rfl (aX Z rfl rfl (aD (bL (v:=zB true) Z rfl rfl) (aF (v:=zB true) (aG ⟨true,y,m3,m4,m5,m6,e8,h7,m7,m8,m9,n0,h8,i0,rfl,e9,f0⟩))))))))))))))))
           ·refine bG Z rfl rfl (aN e8 (bG Z rfl rfl (aN e9 (bG Z rfl rfl ?_))))
            obtain ⟨b07,v5,y⟩:=aB y
            refine aD (dT cF rfl s9 rfl rfl rfl v5) (bG Z rfl rfl (aD (gP (t:=0) cK f0 (i:=3) rfl v5 rfl rfl rfl) (bG Z rfl rfl (aN h8 (bG Z rfl rfl (aD (gE rfl rfl) (bG Z rfl rfl (aO (v:=zB (b07 == a3)) ?_))))))))
            rcases aH y with ⟨b4,y⟩|⟨b4,y⟩
            ·refine bD b4 rfl rfl (aN h7 (bD b4 rfl rfl (aN e9 (bD b4 rfl rfl ?_))))
             obtain ⟨n2,v6,y⟩:=aB y
             exact aD (dT cF rfl t0 rfl rfl rfl v6) (bD b4 rfl rfl (aD (gP (t:=0) cK f0 (i:=2) rfl v6 rfl rfl rfl) (bD b4 rfl rfl (aN i0 (bD b4 rfl rfl (aD (gE rfl rfl) (bG Z rfl rfl (aD (bL (v:=zB (n2 == r)) b4 rfl rfl) (aD (bK (v:=zB (n2 == r)) Z rfl rfl) (aF (v:=zB (n2 == r)) (aG ⟨n2 == r,y,m3,m4,m5,m6,e8,h7,m7,m8,m9,n0,h8,i0,rfl,e9,f0⟩)))))))))))
            ·exact aR b4 rfl rfl (aR b4 rfl rfl (aR b4 rfl rfl (aR b4 rfl rfl (aR b4 rfl rfl (aR b4 rfl rfl (bG Z rfl rfl (aD (bK (v:=zB false) b4 rfl rfl) (aD (bK (v:=zB false) Z rfl rfl) (aF (v:=zB false) (aG ⟨false,y,m3,m4,m5,m6,e8,h7,m7,m8,m9,n0,h8,i0,rfl,e9,f0⟩))))))))))
          ·refine aJ r4 rfl (cA (aT (aT ?_)))
           have b08:=a91 _ (zI y).symm
           subst b08
           have c:(yV x u o l e a9 b3 a3 r e7)=some c1:=c
           exact bJ (aA ⟨e7,c,m3,m4,m5,m6,e8,h7,m7,m8,m9,n0,h8,i0,v4,f0⟩)
       refine aP (aN o9 (aD (cL rfl rfl) (aO (v:=zB (decide (a3 < 0))) ?_)))
       rcases aH c with ⟨d3,c⟩|⟨d3,c⟩
       ·exact aX d3 rfl rfl (aX d3 rfl rfl (aD (bL (v:=zB true) d3 rfl rfl) (aG ⟨true,c,n9,o0,o1,o2,o3,o4,o5,o6,o7,o8,o9,p0,rfl,p1⟩)))
       ·exact bG d3 rfl rfl (aN p0 (bG d3 rfl rfl (aD (cL rfl rfl) (aD (bK (v:=zB (decide (r < 0))) d3 rfl rfl) (aG ⟨decide (r < 0),c,n9,o0,o1,o2,o3,o4,o5,o6,o7,o8,o9,p0,rfl,p1⟩)))))
     refine aP (aO (v:=i64 a3) (aD (cL rfl rfl) (aO (v:=zB (decide (a3 < 0))) ?_)))
     rcases aH c with ⟨d4,c⟩|⟨d4,c⟩
     ·refine bD d4 rfl rfl (aO (v:=i64 r) (bD d4 rfl rfl (aD (cL rfl rfl) (aD (bL (v:=zB (decide (r < 0))) d4 rfl rfl) (aO (v:=zB (decide (r < 0))) ?_)))))
      rcases aH c with ⟨b6,c⟩|⟨b6,c⟩
      ·exact aX b6 rfl rfl (aX b6 rfl rfl (aX b6 rfl rfl (dP (g:=78) rfl rfl (dP (g:=78) rfl rfl (aX b6 rfl rfl (aD (bL (v:=zB true) b6 rfl rfl) (aG ⟨true,c,e0,e1,e2,c2,e3,e4,g3,g4,c4,c6,rfl,rfl,rfl,m1⟩)))))))
      ·exact bG b6 rfl rfl (aO (v:=i64 r) (bG b6 rfl rfl (aD (cL rfl rfl) (bG b6 rfl rfl (aO (v:=zB (decide (r < 0))) (aR b6 rfl rfl (aR b6 rfl rfl (bG b6 rfl rfl (aD (bK (v:=zB false) b6 rfl rfl) (aD (bK (v:=zB false) b6 rfl rfl) (aG ⟨false,c,e0,e1,e2,c2,e3,e4,g3,g4,c4,c6,rfl,rfl,rfl,m1⟩)))))))))))
     ·refine aR d4 rfl rfl (aR d4 rfl rfl (aD (bK (v:=zB false) d4 rfl rfl) (aO (v:=zB false) (bG (by decide:¬ false=true) rfl rfl (aO (v:=i64 r) (bG (by decide:¬ false=true) rfl rfl (aD (cL rfl rfl) (bG (by decide:¬ false=true) rfl rfl (aO (v:=zB (decide (r < 0))) ?_)))))))))
      rcases aH c with ⟨d5,c⟩|⟨d5,c⟩
      ·exact bD d5 rfl rfl (aN e2 (bD d5 rfl rfl (aD (eJ rfl) (bG (by decide:¬ false=true) rfl rfl (aD (bL (v:=zB (!a8)) d5 rfl rfl) (aD (bK (v:=zB (!a8)) (by decide:¬ false=true) rfl rfl) (aG ⟨!a8,c,e0,e1,e2,c2,e3,e4,g3,g4,c4,c6,rfl,rfl,rfl,m1⟩)))))))
      ·exact aR d5 rfl rfl (aR d5 rfl rfl (bG (by decide:¬ false=true) rfl rfl (aD (bK (v:=zB false) d5 rfl rfl) (aD (bK (v:=zB false) (by decide:¬ false=true) rfl rfl) (aG ⟨false,c,e0,e1,e2,c2,e3,e4,g3,g4,c4,c6,rfl,rfl,rfl,m1⟩)))))
    ·refine aJ n5 rfl (cA (aT (aT ?_)))
     have b09:=s8 _ (zI c).symm
     subst b09
     have V:(yT x u o l e)=some f4:=V
     exact bJ (aA ⟨u,o,l,e,a0,a2,z,J,p,q,m,n,V,e0,e1,e2,c2,e3,e4,g3,g4,c4,a6⟩)
  ·refine aJ n4 rfl (cA (aT (aT ?_)))
   have b10:=s4 _ (zI V).symm
   subst b10
   have hm:(yS)=some R:=hm
   exact bJ (aA ⟨hm,(aI.arr 5 [] s7 rfl)⟩)
theorem aFO {a b:cG} {R:(Bool × (List aU) × Int)} (hs:aI G K (L) w) (h3:cX K a1 c2 a.L) (h6:cX K a4 c5 a.E) (h9:cX K a7 c8 b.L) (b6:cX K a10 c11 b.E) (d:rO a b=some R):
  Calls Tryz.prog 9 ([zA (zCa a a1 c2 a4 c5),zA (zCa b a7 c8 a10 c11)]:List Value).toArray w (gK fun v w'=>∃ (b7:Option Addr) (b8:Nat),v=zT #[zB R.1,zS b7 R.2.1.length b8,i64 R.2.2]∧aI G K (aK 9 K b7 b8 R.2.1::L) w'):=by
 let z:=(zC b a7 c8 a10 c11)
 let J:=(zC a a1 c2 a4 c5)
 let a3:=zG
 refine aW func9 rfl (by kernel_rfl) (by show (2:Nat)≤32;decide) ?_
 unfold rO at d
 refine aL (iI (v:=zA (zCa a a1 c2 a4 c5)) (vs:=J) hs rfl rfl (fun n j5 d0=>(iI (v:=zA (zCa b a7 c8 a10 c11)) (vs:=z) d0 rfl rfl (fun o j6 d1=>(aF (v:=zB false) (aF (v:=zS none 0 0) (aF (v:=i64 0) (aG (aQ (aQ (cN (fun f w=>∃ (a5:Bool),pN a b a5=some R∧f 2=zP (some ⟨n,0,none⟩)∧f 3=zP (some ⟨o,0,none⟩)∧f 17=zB a5∧aI G K (box o 27 z::box n 27 J::L) w) ?_ ?_)))))))))))
 ·rintro f j7 ⟨a5,d,d2,d3,b9,c0⟩
  unfold pN at d
  refine aA ?_
  rcases aH d with ⟨a6,d⟩|⟨a6,d⟩
  ·refine aM a6 b9 (aL (aF (v:=zB false) (aF (v:=zS none 0 0) (aF (v:=i64 1) (aG ?_)))))
   have d4:=aI.nil (α:=aU) c0 9 K
   obtain rfl:=zI d
   exact bM (aV (xO results9 rfl rfl rfl ⟨none,0,rfl,(aI.arr 3 [0] d4 rfl)⟩))
  ·refine aJ a6 b9 (bA (aA (aL ?_)))
   obtain ⟨j8,V,d6,d7,d8⟩:=aI.lendB (i:=1) c0 rfl
   obtain ⟨j9,t,d9,e0,e1⟩:=aI.lendB (i:=0) d7 rfl
   obtain ⟨c,e2,d⟩:=aB d
   refine aS (vs:=[cU (some ⟨n,0,none⟩) 0,cU (some ⟨o,0,none⟩) 0]) call29 (lst2 d2 d3) (aJQ e0 (d6.mono t) (h3.mono (zL V t)) (h6.mono (zL V t)) d9 (h9.mono (zL V t)) (b6.mono (zL V t)) e2) ?_
   rintro _ k0 ⟨h,j,k,l,p,c45,q,r,rfl,e3⟩
   have e4:=e1 _ _ e3
   have e5:=d8 _ _ e4
   refine aO (v:=zT #[zA (zCa c.1 h j k l),zA (zCa c.2.1 p c45 q r),zB c.2.2]) (aD (bQ rfl rfl) (aD (bQ rfl rfl) (aD (bQ rfl rfl) (bW (vs:=a3) zeroValue27 e5 rfl (fun a8 k1 e6=>(bW (vs:=a3) zeroValue27 e6 rfl (fun a9 k2 e7=>(bY (i:=1) (ns:=(zC c.1 h j k l)) (us:=(zC c.1 h j k l)) sizeOf27 e7 rfl rfl rfl rfl rfl (dE rfl) rfl rfl (fun e8 (e9:aI G K (box a9 27 a3::box a8 27 (zC c.1 h j k l)::box n 27 J::box o 27 z::aK 9 K h j c.1.L::aK 69 K k l c.1.E::aK 9 K p c45 c.2.1.L::aK 69 K q r c.2.1.E::L) e8)=>(bY (i:=0) (ns:=(zC c.2.1 p c45 q r)) (us:=(zC c.2.1 p c45 q r)) sizeOf27 e9 rfl rfl rfl rfl rfl (dE rfl) rfl rfl (fun f0 (c1:aI G K (box a9 27 (zC c.2.1 p c45 q r)::box a8 27 (zC c.1 h j k l)::box n 27 J::box o 27 z::aK 9 K h j c.1.L::aK 69 K k l c.1.E::aK 9 K p c45 c.2.1.L::aK 69 K q r c.2.1.E::L) f0)=>(aF (v:=zB c.2.2) (aG (aQ (aL (aO (v:=zB c.2.2) (aD (eJ rfl) (aG ?_))))))))))))))))))
   rcases aH d with ⟨b0,d⟩|⟨b0,d⟩
   ·refine aM b0 rfl (aL (aF (v:=zB false) (aF (v:=zS none 0 0) (aF (v:=i64 5) (aG ?_)))))
    have f1:=aI.nil (α:=aU) c1 9 K
    obtain rfl:=zI d
    exact bM (aV (xO results9 rfl rfl rfl ⟨none,0,rfl,(aI.arr 9 [0] f1 rfl)⟩))
   ·refine aJ b0 rfl (bA (aA (aL ?_)))
    obtain ⟨k3,b1,f3,f4,f5⟩:=aI.lendS (i:=4) c1 (zR _) rfl
    obtain ⟨k4,b2,f6,f7,f8⟩:=aI.lendS (i:=4) f4 b1 rfl
    obtain ⟨k5,Z,f9,g0,g1⟩:=aI.lendB (i:=1) f7 rfl
    obtain ⟨k6,a0,g2,g3,g4⟩:=aI.lendS (i:=3) g0 (zL (zL b1 b2) Z) rfl
    obtain ⟨k7,a2,g5,g6,g7⟩:=aI.lendS (i:=3) g3 (zL (zL (zL b1 b2) Z) a0) rfl
    obtain ⟨k8,u,g8,g9,h0⟩:=aI.lendB (i:=0) g6 rfl
    obtain ⟨e,h1,d⟩:=aB d
    refine aS (vs:=[cU (some ⟨a8,0,none⟩) 0,cU (some ⟨a9,0,none⟩) 0,zB true]) call30 rfl (aGU g9 (f9.mono (zL (zL a0 a2) u)) (f3.mono (zL (zL (zL (zL b2 Z) a0) a2) u)) (f6.mono (zL (zL (zL Z a0) a2) u)) g8 (g2.mono (zL a2 u)) (g5.mono u) h1) ?_
    rintro _ k9 ⟨x,y,rfl,h2⟩
    have h4:=h0 _ _ h2
    have h5:=g7 _ _ h4
    have h7:=g4 _ _ h5
    have h8:=g1 _ _ h7
    have i0:=f8 _ _ h8
    have i1:=f5 _ _ i0
    refine aO (v:=zT #[zS x e.1.length y,zB e.2]) (aD (bQ rfl rfl) (aD (bQ rfl rfl) (aF (v:=zS x e.1.length y) (aF (v:=zB e.2) (aG (aL (aO (v:=zB e.2) (aD (eJ rfl) (aO (v:=zS x e.1.length y) (aF (v:=zB (!e.2)) (aF (v:=zS x e.1.length y) (aF (v:=i64 0) (aG ?_)))))))))))))
    obtain rfl:=zI d
    exact bM (xO results9 rfl rfl rfl ⟨x,y,rfl,(aI.arr 9 [6] i1 rfl)⟩)
 refine aP ?_
 obtain ⟨l0,c3,i3,i4,i5⟩:=aI.lendB (i:=1) d1 rfl
 obtain ⟨i6,i7,d⟩:=aB d
 refine aS (vs:=[cU (some ⟨n,0,none⟩) 0]) call28 rfl (aGl i4 i3 (h3.mono c3) (h6.mono c3) i7) ?_
 rintro _ l1 ⟨rfl,i8⟩
 have c4:=i5 _ _ i8
 refine aD (eJ rfl) (aO (v:=zB (!i6)) ?_)
 rcases aH d with ⟨m,d⟩|⟨m,d⟩
 ·exact aX m rfl rfl (aX m rfl rfl (aD (bL (v:=zB true) m rfl rfl) (aG ⟨true,d,rfl,rfl,rfl,(aI.arr 2 [1,0] c4 rfl)⟩)))
 ·refine bG m rfl rfl ?_
  obtain ⟨l2,c6,i9,j0,j1⟩:=aI.lendB (i:=1) c4 rfl
  obtain ⟨c7,j2,d⟩:=aB d
  refine aS (vs:=[cU (some ⟨o,0,none⟩) 0]) call28 rfl (aGl j0 i9 (h9.mono c6) (b6.mono c6) j2) ?_
  rintro _ l3 ⟨rfl,j3⟩
  have j4:=j1 _ _ j3
  exact bG m rfl rfl (aD (eJ rfl) (aD (bK (v:=zB (!c7)) m rfl rfl) (aG ⟨!c7,d,rfl,rfl,rfl,j4⟩)))
theorem aGV {t:cG} {n:Int} {R:(cG × Int)} (hs:aI G K (L) w) (J:G.lo=0) (V:cX K a1 c2 t.L) (Z:cX K a4 c5 t.E) (b:aBf t n=some R):
  Calls Tryz.prog 31 ([zA (zCa t a1 c2 a4 c5),i64 n]:List Value).toArray w (gK fun v w'=>∃ (a0:Option Addr) (a2:Nat) (a3:Option Addr) (a5:Nat),v=zT #[zA (zCa R.1 a0 a2 a3 a5),i64 R.2]∧aI G K (aK 9 K a0 a2 R.1.L::aK 69 K a3 a5 R.1.E::L) w'):=by
 let c:=zG
 let j:=(zC t a1 c2 a4 c5)
 let a6:=[zA (zCa t a1 c2 a4 c5)]
 refine aW func31 rfl (by kernel_rfl) (by show (2:Nat)≤29;decide) ?_
 unfold aBf at b
 refine aL (iI (v:=zA (zCa t a1 c2 a4 c5)) (vs:=j) hs rfl rfl (fun l w8 b5=>(bW (vs:=c) zeroValue27 b5 rfl (fun m e2 a7=>(aF (v:=i64 0) (aG (aQ (cY (aL (aD (eI (us:=j) dJ a7 (i:=1) rfl rfl rfl rfl) ?_))))))))))
 obtain ⟨b6,b8,b⟩:=aB b
 refine aS (vs:=a6) call34 rfl (lP a7 J V Z b8) ?_
 rintro _ e3 ⟨rfl,a8⟩
 refine aD (eJ rfl) (aF (v:=zB (!b6)) (aG ?_))
 rcases aH b with ⟨q,b⟩|⟨q,b⟩
 ·refine aM q rfl (aL (aD (dL (vs:=[]) (cs:=c) rW rfl (by kernel_rfl)) (bY (i:=0) (ns:=c) (us:=c) sizeOf27 a8 rfl rfl rfl rfl rfl (dE rfl) rfl rfl (fun b9 (c0:aI G K (box m 27 c::box l 27 j::L) b9)=>(aF (v:=i64 1) (aG ?_))))))
  have c1:=aI.nil (α:=aU) c0 9 K
  have a9:=aI.nil (α:=Edge) c1 69 K
  obtain rfl:=zI b
  exact bM (bV (aV (aGb results31 (fV (vs:=c) rfl dJ a9 (i:=2) rfl rfl rfl) (qA rfl rfl) ⟨none,0,none,0,rfl,(aI.arr 4 [1,0] a9 rfl)⟩)))
 ·refine aJ q rfl (aL (aO (v:=i64 n) ?_))
  obtain ⟨c4,c6,b⟩:=aB b
  refine aS (vs:=[i64 n,i64 0,i64 12]) call61 rfl (rS a8 c6) ?_
  rintro _ e4 ⟨rfl,r⟩
  refine aD (eJ rfl) (aF (v:=zB (!c4)) (aG ?_))
  rcases aH b with ⟨u,b⟩|⟨u,b⟩
  ·refine aM u rfl (aL (aD (dL (vs:=[]) (cs:=c) rW rfl (by kernel_rfl)) (bY (i:=0) (ns:=c) (us:=c) sizeOf27 r rfl rfl rfl rfl rfl (dE rfl) rfl rfl (fun c7 (c8:aI G K (box m 27 c::box l 27 j::L) c7)=>(aF (v:=i64 2) (aG ?_))))))
   have c9:=aI.nil (α:=aU) c8 9 K
   have b0:=aI.nil (α:=Edge) c9 69 K
   obtain rfl:=zI b
   exact bM (bV (aV (aGb results31 (fV (vs:=c) rfl dJ b0 (i:=2) rfl rfl rfl) (qA rfl rfl) ⟨none,0,none,0,rfl,(aI.arr 4 [1,0] b0 rfl)⟩)))
  ·refine aJ u rfl (bA (bC (aA (aL (aD (eI (us:=j) dJ r (i:=1) rfl rfl rfl rfl) ?_)))))
   obtain ⟨a,d1,b⟩:=aB b
   refine aS (vs:=a6) call37 rfl (jU r J V Z d1) ?_
   rintro _ e5 ⟨k,d,e,g,h,o,p,rfl,b1,d2⟩
   refine aO (v:=zT #[zA (zCa a.1 d e g h),zS o a.2.1.length p,zB a.2.2]) (aD (bQ rfl rfl) (aD (bQ rfl rfl) (aD (bQ rfl rfl) (bW (vs:=c) zeroValue27 d2 rfl (fun x e6 d3=>(bY (i:=0) (ns:=(zC a.1 d e g h)) (us:=(zC a.1 d e g h)) sizeOf27 d3 rfl rfl rfl rfl rfl (dE rfl) rfl rfl (fun d4 (y:aI G k (box x 27 (zC a.1 d e g h)::aK 9 K d e a.1.L::aK 69 K g h a.1.E::aK 35 k o p a.2.1::box m 27 c::box l 27 j::L) d4)=>(aF (v:=zS o a.2.1.length p) (aF (v:=zB a.2.2) (aG (aQ (aL (aO (v:=zB a.2.2) (aD (eJ rfl) (aG ?_)))))))))))))))
   rcases aH b with ⟨z,b⟩|⟨z,b⟩
   ·refine aM z rfl (aL (aD (dL (vs:=[]) (cs:=c) rW rfl (by kernel_rfl)) (bY (i:=4) (ns:=c) (us:=c) sizeOf27 y rfl rfl rfl rfl rfl (dE rfl) rfl rfl (fun d5 (d6:aI G k (box x 27 (zC a.1 d e g h)::aK 9 K d e a.1.L::aK 69 K g h a.1.E::aK 35 k o p a.2.1::box m 27 c::box l 27 j::L) d5)=>(aF (v:=i64 5) (aG ?_))))))
    have d7:=aI.nil (α:=aU) d6 9 K
    have b2:=aI.nil (α:=Edge) d7 69 K
    obtain rfl:=zI b
    exact bM (aV (aGb results31 (fV (vs:=c) rfl dJ b2 (i:=6) rfl rfl rfl) (qA rfl rfl) ⟨none,0,none,0,rfl,(aI.weakK (aI.arr 8 [1,0] b2 rfl) b1)⟩))
   ·refine aJ z rfl (bA (aA (aL (aD (eI (us:=(zC a.1 d e g h)) dJ y (i:=0) rfl rfl rfl rfl) (bY (i:=4) (ns:=(zC a.1 d e g h)) (us:=(zC a.1 d e g h)) sizeOf27 y rfl rfl rfl rfl rfl (dE rfl) rfl rfl (fun d9 (b3:aI G k (box x 27 (zC a.1 d e g h)::aK 9 K d e a.1.L::aK 69 K g h a.1.E::aK 35 k o p a.2.1::box m 27 (zC a.1 d e g h)::box l 27 j::L) d9)=>(aF (v:=i64 0) (aG ?_))))))))
    obtain rfl:=zI b
    exact bM (aGb results31 (fV (vs:=(zC a.1 d e g h)) rfl dJ b3 (i:=4) rfl rfl rfl) (qA rfl rfl) ⟨d,e,g,h,rfl,(aI.weakK (aI.arr 6 [1,2] b3 rfl) b1)⟩)
theorem aIM {t:cG} {k:Int} {R:(List Edge)} (hs:aI G K (L) w) (h3:cX K a1 c2 t.L) (h6:cX K a4 c5 t.E) (c:aBY t k=some R):
  Calls Tryz.prog 32 ([zA (zCa t a1 c2 a4 c5),i64 k]:List Value).toArray w (gK fun v w'=>∃ (a8:Option Addr) (a9:Nat),v=zS a8 R.length a9∧aI G K (aK 69 K a8 a9 R::L) w'):=by
 refine aW func32 rfl (by kernel_rfl) (by show (2:Nat)≤25;decide) ?_
 unfold aBY at c
 refine aL (iI (v:=zA (zCa t a1 c2 a4 c5)) (vs:=(zC t a1 c2 a4 c5)) hs rfl rfl (fun b7 w8 b0=>(aF (v:=zS none 0 0) (aG (aL (aF (v:=zS none 0 0) (aG (aQ (aL (aD (bT (t':=3) cV rfl rfl) (aD (dS fH b0 (i:=0) rfl rfl rfl) (aD (bU (len:=t.E.length) cM rfl) (aO (v:=i64 0) (aG (bB (fun f w=>∃ (l:List Edge) (m:Option Addr) (n:Nat),yW l=some R∧f 5=zS m l.length n∧aI G K (aK 69 K m n l::L) w) ?_ ?_)))))))))))))))
 ·rintro f e3 ⟨l,m,n,c,b4,b5⟩
  unfold yW at c
  refine aA (aL (aN b4 (aF (v:=zS m l.length n) (aG ?_))))
  obtain rfl:=zI c
  exact bM (bP results32 rfl ⟨m,n,rfl,b5⟩)
 have b8:=aI.nil (α:=Edge) b0 69 K
 obtain ⟨e4,b9,c⟩:=aB c
 refine cE b9 (fun (s:(List Edge × Int)) f w=>match s with|(d,e)=>∃ (g:Option Addr) (j:Nat),f 1=i64 k∧f 5=zS g d.length j∧f 9=zS a4 t.E.length c5∧f 10=i64 (t.E.length:Int)∧f 11=i64 e∧aI G K (aK 69 K g j d::L) w) ?_ ?_
 ·exact ⟨none,0,rfl,rfl,rfl,rfl,rfl,(aI.arr 2 [0] b8 rfl)⟩
 ·rintro ⟨d,e⟩ b1 f e5 b c0 ⟨g,j,x,y,z,J,p,V⟩
  replace b:uQ t k d e=some b1:=b
  unfold uQ at b
  refine aL (aD (cL p J) (aG (aQ ?_)))
  rcases aH b with ⟨Z,b⟩|⟨Z,b⟩
  ·refine aM Z rfl (bA (aA (aQ (bB (fun f w=>∃ (o:List Edge) (q:Option Addr) (r:Nat),yX e o=some b1∧f 1=i64 k∧f 5=zS q o.length r∧f 9=zS a4 t.E.length c5∧f 10=i64 (t.E.length:Int)∧f 11=i64 e∧aI G K (aK 69 K q r o::L) w) ?_ ?_))))
   ·rintro f e6 ⟨o,q,r,b,c1,c3,c4,c6,c7,c8⟩
    unfold yX at b
    exact aA (aP (aD (cP c7 rfl) (aO (v:=i64 (wr (e+1))) (aG ⟨(o,wr (e+1)),(zI b).symm,q,r,c1,c3,c4,c6,rfl,c8⟩))))
   refine aL ?_
   obtain ⟨a,b2,b⟩:=aB b
   refine aD (dI cM rfl h6 z rfl p b2) ?_
   obtain ⟨e7,c9,d0⟩:=cX.el (sz:=3) rfl h6 b2
   cases d0
   refine aD (gT (t:=0) (vs:=[i64 a.F,i64 a.B,i64 a.To]) mQ V c9 rfl rfl rfl) (bW (vs:=[i64 0,i64 0,i64 0]) zeroValue69 V rfl (fun a0 e8 d1=>(bY (i:=0) (ns:=[i64 a.F,i64 a.B,i64 a.To]) (us:=[i64 a.F,i64 a.B,i64 a.To]) sizeOf69 d1 rfl rfl rfl rfl rfl (dE rfl) rfl rfl (fun d2 (u:aI G K (box a0 69 [i64 a.F,i64 a.B,i64 a.To]::aK 69 K g j d::L) d2)=>(aG (aL (aD (bT (t':=0) hQ rfl rfl) (aD (dS cK u (i:=0) rfl rfl rfl) (aN x (aD (gE rfl rfl) (aG ?_)))))))))))
   rcases aH b with ⟨a2,b⟩|⟨a2,b⟩
   ·refine aM a2 rfl (aP (aN y (aD (eI (us:=[i64 a.F,i64 a.B,i64 a.To]) mQ u (i:=0) rfl rfl rfl rfl) (bR (Kt:=K) (xs:=([a]:List Edge)) (cs:=[i64 a.F,i64 a.B,i64 a.To]) (vs:=[(0,zA #[i64 a.F,i64 a.B,i64 a.To])]) cM gZ rfl rfl u rfl (by kernel_rfl) rfl rfl rfl ⟨rfl,trivial⟩ (fun d3 d4 (d5:aI G K (aK 69 K d3 1 ([a]:List Edge)::box a0 69 [i64 a.F,i64 a.B,i64 a.To]::aK 69 K g j d::L) d4)=>?_)))))
    obtain ⟨a3,d6,b⟩:=aB b
    exact dG (i:=1) cM underlying25 gZ rfl rfl d5 rfl (zR _) (zR _) d6 rfl rfl rfl rfl (fun _ h=>h) (fun a5 a6 d7 (d8:aI G K (box a0 69 [i64 a.F,i64 a.B,i64 a.To]::aK 69 K a5 a6 a3::L) d7)=>(aF (v:=zS a5 a3.length a6) (aZ (bC (aA ⟨a3,a5,a6,b,x,rfl,z,J,p,(aI.arr 1 [] d8 rfl)⟩)))))
   ·exact aJ a2 rfl (bA (bC (aA ⟨d,g,j,b,x,y,z,J,p,(aI.arr 1 [] u rfl)⟩)))
  ·refine aJ Z rfl (cA (aT (aT ?_)))
   have d9:=c0 _ (zI b).symm
   subst d9
   have c:(yW d)=some R:=c
   exact bJ (aA ⟨d,g,j,c,y,V⟩)
end Gv
