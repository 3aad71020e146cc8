/- Walks, printed by program. -/
import Derived.Test.YtfhgggimcgajdaaGreatDoorJWk5
set_option linter.all false
namespace Gv
open Gv.Hp renaming le_refl→zR
open Go.Value renaming slice→zS,bool→zB,pointer→zP,agg→zA,tuple→zT
open Option.some renaming inj→zI
open Go Go.Proofs Go.Proofs.Tryz
set_option maxRecDepth 20000
set_option maxHeartbeats 40000000
variable {G:qG} {K Kf:Hp} {L:List iU} {w:World} {a1 a4 a7 a10 a13 a16 a19 a3 a2 a5 a8:Option Addr} {c2 c8 c11 c14 c17 c20 c5 c4 b1 c3 c6 c9:Nat}
theorem aJk {d:(List bU)} {R:Bool} (hm:qX d=some R) (hs:aM G K (L) w) (n:bY K a1 c2 d):
  Calls prog 109 ([zS a1 d.length c2]:List Value).toArray w (eK fun v w'=>v=zB R/\aM G K (L) w'):=by
 refine aP func109 rfl (by kernel_rfl) (by show (1:Nat)<=56;decide) ?_;unfold qX at hm
 refine aJ (aD (v:=zB false) (aF (aN (aJ (aG (v:=zS a1 d.length c2) (aA (bO (len:=d.length) mB rfl) (aG (v:=i64 0) (aF (bM [0] (fun f w=>xM d=some R/\aM G K (L) w) ?_ ?_)))))))))
 ·rintro f w4 ⟨hm,a7⟩
  unfold xM at hm
  refine aB (aJ (aG (v:=zS a1 d.length c2) (aA (bO (len:=d.length) mB rfl) (aA (vR rfl rfl) (aD (v:=zB (decide ((d.length:Int)<=6))) (aF ?_))))));obtain rfl:=zI hm
  exact aX (aO results109 rfl ⟨rfl,a7⟩)
 obtain ⟨e0,a9,ho⟩:=aC hm
 refine dP [0,5,6] a9 (fun l f w=>f 7=i64 l/\aM G K (L) w) ?_ ?_
 ·exact ⟨rfl,hs⟩
 ·rintro l b0 f e1 hm hr ⟨p,r⟩
  unfold kF at hm
  refine aJ (aA (cF p rfl) (aF (aN ?_)))
  rcases aH hm with ⟨u,hm⟩|⟨u,hm⟩
  ·refine aL u rfl (aW (aB (aN (bX (aJ (bF p ?_))))));obtain ⟨b,O,hm⟩:=aC hm
   refine aA (cG mB rfl n rfl rfl p O) ?_;obtain ⟨e2,b1,b2⟩:=bY.el (sz:=3) rfl n O
   cases b2
   refine aA (dZ (t:=0) (vs:=[bE b.Left,bE b.Right,bE b.Result]) aEO r b1 rfl rfl rfl) (eA (vs:=[bE ([]:bJ),bE ([]:bJ),bE ([]:bJ)]) zeroValue107 r rfl (fun o e3 b3=>(aD (v:=i64 l) (eD (i:=0) (ns:=[bE b.Left,bE b.Right,bE b.Result]) (us:=[bE b.Left,bE b.Right,bE b.Result]) sizeOf107 b3 rfl rfl rfl rfl rfl (gJ rfl) rfl rfl (fun b4 (a:aM G K (box o 107 [bE b.Left,bE b.Right,bE b.Result]::L) b4)=>(aF (aN (aN (cP [0,4,5,6,7] (fun f w=>∃ x,iK d l b x=some b0/\f 48=zB x/\aM G K (box o 107 [bE b.Left,bE b.Right,bE b.Result]::L) w) ?_ ?_)))))))))
   ·rintro f e4 ⟨x,hm,a0,a2⟩
    unfold iK at hm
    refine aB ?_
    rcases aH hm with ⟨y,hm⟩|⟨y,hm⟩
    ·refine aL y a0 (aJ (aD (v:=zB false) (aF (aX (aK (aY (aK (aK ?_))))))))
     have b5:=hr _ (zI hm).symm
     subst b5
     have hm:(some false)=some R:=ho
     clear hr ho
     obtain rfl:=zI hm
     exact aY (aK (aK (aO results109 rfl ⟨rfl,(aM.arr 1 [] a2 rfl)⟩)))
    ·refine aI y a0 (aW (aB (aJ (aG (v:=zS a1 d.length c2) (aA (yA (vs:=[zP (some ⟨o,0,none⟩)]) rfl) ?_)))));obtain ⟨e5,b7,b8,b9,c0⟩:=aM.lendBp a2 .head
     obtain ⟨e6,c1,hm⟩:=aC hm
     refine aQ (vs:=[zS a1 d.length c2,Value.func (.func 151) #[] #[eP (some ⟨o,0,none⟩) 0]]) call150 rfl (lO c1 b9 (n.mono b7) b8) ?_
     rintro _ e7 ⟨rfl,c3⟩
     have a3:=c0 _ _ c3
     refine aF ?_
     rcases aH hm with ⟨z,hm⟩|⟨z,hm⟩
     ·refine aL z rfl (aJ (aD (v:=zB false) (aF (aX (aY (aK (aK ?_)))))))
      have c4:=hr _ (zI hm).symm
      subst c4
      have hm:(some false)=some R:=ho
      clear hr ho
      obtain rfl:=zI hm
      exact aY (aK (aK (aO results109 rfl ⟨rfl,(aM.arr 1 [] a3 rfl)⟩)))
     ·exact aI z rfl (aW (bH (aB (aU (aA (cA p rfl) (aG (v:=i64 (wr (l+1))) (aF ⟨_,(zI hm).symm,aT,rfl,(aM.arr 1 [] a3 rfl)⟩)))))))
   refine dU (C:=fun w'=>aM G K (box o 107 [bE b.Left,bE b.Right,bE b.Result]::L) w') cI (by kernel_rfl) (aM.mono a (eH.drew _)) (bG (fun _ a=>bC (t':=0) kM rfl rfl) (bG (fun _ a=>bQ fA a (i:=0) rfl rfl rfl) ?_));obtain ⟨a4,c6,hm⟩:=aC hm
   refine eU (vs:=[bE b.Left]) (v:=zB a4) call148 rfl (fun _ a=>(nS c6 a)) (bG (fun _ a=>dA rfl) (bG (fun _ a=>bP (v:=zB (!a4)) rfl) ?_))
   rcases aH hm with ⟨j,hm⟩|⟨j,hm⟩
   ·refine bW (g:=16) rfl rfl (eM j) (bW (g:=16) rfl rfl (eM j) (bW (g:=16) rfl rfl (eM j) (bW (g:=16) rfl rfl (eM j) (bG (fun _ a=>bI (v:=zB true) j rfl rfl) (bG (fun _ a=>bP (v:=zB true) rfl) (bW (g:=22) rfl rfl (eM (rfl:true=true)) (bW (g:=22) rfl rfl (eM (rfl:true=true)) (bW (g:=22) rfl rfl (eM (rfl:true=true)) (bW (g:=22) rfl rfl (eM (rfl:true=true)) (bG (fun _ a=>bI (v:=zB true) (rfl:true=true) rfl rfl) (bG (fun _ a=>bP (v:=zB true) rfl) (bW (g:=28) rfl rfl (eM (rfl:true=true)) (bW (g:=28) rfl rfl (eM (rfl:true=true)) (bW (g:=28) rfl rfl (eM (rfl:true=true)) (bW (g:=28) rfl rfl (eM (rfl:true=true)) (bW (g:=28) rfl rfl (eM (rfl:true=true)) (bG (fun _ a=>bI (v:=zB true) (rfl:true=true) rfl rfl) (bG (fun _ a=>bP (v:=zB true) rfl) (bW (g:=35) rfl rfl (eM (rfl:true=true)) (bW (g:=35) rfl rfl (eM (rfl:true=true)) (bW (g:=35) rfl rfl (eM (rfl:true=true)) (cV (g:=38) rfl rfl (cV (g:=38) rfl rfl ?_)))))))))))))))))))))))
    exact cV (g:=38) rfl rfl (cV (g:=38) rfl rfl (cV (g:=38) rfl rfl (cV (g:=38) rfl rfl (cV (g:=38) rfl rfl (cV (g:=38) rfl rfl (bW (g:=35) rfl rfl (eM (rfl:true=true)) (bG (fun _ a=>bI (v:=zB true) (rfl:true=true) rfl rfl) (eT (fun e8 c7=>(aB ⟨aT,true,hm,rfl,c7⟩))))))))))
   ·refine cQ (g:=16) rfl rfl (eW j) (bG (fun _ a=>bC (t':=1) mC rfl rfl) (cQ (g:=16) rfl rfl (eW j) (bG (fun _ a=>bQ fA a (i:=0) rfl rfl rfl) (cQ (g:=16) rfl rfl (eW j) ?_))));obtain ⟨J,c8,hm⟩:=aC hm
    refine eU (vs:=[bE b.Right]) (v:=zB J) call148 rfl (fun _ a=>(nS c8 a)) (cQ (g:=16) rfl rfl (eW j) (bG (fun _ a=>dA rfl) (bG (fun _ a=>bL (v:=zB (!J)) j rfl rfl) (bG (fun _ a=>bP (v:=zB (!J)) rfl) ?_))))
    rcases aH hm with ⟨k,hm⟩|⟨k,hm⟩
    ·refine bW (g:=22) rfl rfl (eM k) (bW (g:=22) rfl rfl (eM k) (bW (g:=22) rfl rfl (eM k) (bW (g:=22) rfl rfl (eM k) (bG (fun _ a=>bI (v:=zB true) k rfl rfl) (bG (fun _ a=>bP (v:=zB true) rfl) (bW (g:=28) rfl rfl (eM (rfl:true=true)) (bW (g:=28) rfl rfl (eM (rfl:true=true)) (bW (g:=28) rfl rfl (eM (rfl:true=true)) (bW (g:=28) rfl rfl (eM (rfl:true=true)) (bW (g:=28) rfl rfl (eM (rfl:true=true)) (bG (fun _ a=>bI (v:=zB true) (rfl:true=true) rfl rfl) (bG (fun _ a=>bP (v:=zB true) rfl) (bW (g:=35) rfl rfl (eM (rfl:true=true)) (bW (g:=35) rfl rfl (eM (rfl:true=true)) (bW (g:=35) rfl rfl (eM (rfl:true=true)) (cV (g:=38) rfl rfl (cV (g:=38) rfl rfl (cV (g:=38) rfl rfl (cV (g:=38) rfl rfl (cV (g:=38) rfl rfl (cV (g:=38) rfl rfl (cV (g:=38) rfl rfl (cV (g:=38) rfl rfl ?_)))))))))))))))))))))))
     exact bW (g:=35) rfl rfl (eM (rfl:true=true)) (bG (fun _ a=>bI (v:=zB true) (rfl:true=true) rfl rfl) (eT (fun e9 c9=>(aB ⟨aT,true,hm,rfl,c9⟩))))
    ·refine cQ (g:=22) rfl rfl (eW k) (bG (fun _ a=>bC (t':=2) rF rfl rfl) (cQ (g:=22) rfl rfl (eW k) (bG (fun _ a=>bQ fA a (i:=0) rfl rfl rfl) (cQ (g:=22) rfl rfl (eW k) ?_))));obtain ⟨V,d0,hm⟩:=aC hm
     refine eU (vs:=[bE b.Result]) (v:=zB V) call148 rfl (fun _ a=>(nS d0 a)) (cQ (g:=22) rfl rfl (eW k) (bG (fun _ a=>dA rfl) (bG (fun _ a=>bL (v:=zB (!V)) k rfl rfl) (bG (fun _ a=>bP (v:=zB (!V)) rfl) ?_))))
     rcases aH hm with ⟨e,hm⟩|⟨e,hm⟩
     ·exact bW (g:=28) rfl rfl (eM e) (bW (g:=28) rfl rfl (eM e) (bW (g:=28) rfl rfl (eM e) (bW (g:=28) rfl rfl (eM e) (bW (g:=28) rfl rfl (eM e) (bG (fun _ a=>bI (v:=zB true) e rfl rfl) (bG (fun _ a=>bP (v:=zB true) rfl) (bW (g:=35) rfl rfl (eM (rfl:true=true)) (bW (g:=35) rfl rfl (eM (rfl:true=true)) (bW (g:=35) rfl rfl (eM (rfl:true=true)) (cV (g:=38) rfl rfl (cV (g:=38) rfl rfl (cV (g:=38) rfl rfl (cV (g:=38) rfl rfl (cV (g:=38) rfl rfl (cV (g:=38) rfl rfl (cV (g:=38) rfl rfl (cV (g:=38) rfl rfl (bW (g:=35) rfl rfl (eM (rfl:true=true)) (bG (fun _ a=>bI (v:=zB true) (rfl:true=true) rfl rfl) (eT (fun f0 d1=>(aB ⟨aT,true,hm,rfl,d1⟩))))))))))))))))))))))
     ·refine cQ (g:=28) rfl rfl (eW e) (bG (fun _ a=>bC (t':=0) kM rfl rfl) (cQ (g:=28) rfl rfl (eW e) (bG (fun _ a=>bQ fA a (i:=0) rfl rfl rfl) (cQ (g:=28) rfl rfl (eW e) (bG (fun _ a=>bC (t':=1) mC rfl rfl) (cQ (g:=28) rfl rfl (eW e) (bG (fun _ a=>bQ fA a (i:=0) rfl rfl rfl) (cQ (g:=28) rfl rfl (eW e) (bG (fun _ a=>aLK rfl rfl) (bG (fun _ a=>bL (v:=zB (!(qF b.Left b.Right||b.Left == b.Right))) e rfl rfl) (bG (fun _ a=>bP (v:=zB (!(qF b.Left b.Right||b.Left == b.Right))) rfl) ?_)))))))))))
      rcases aH hm with ⟨h,hm⟩|⟨h,hm⟩
      ·exact bW (g:=35) rfl rfl (eM h) (bW (g:=35) rfl rfl (eM h) (bW (g:=35) rfl rfl (eM h) (cV (g:=38) rfl rfl (cV (g:=38) rfl rfl (cV (g:=38) rfl rfl (cV (g:=38) rfl rfl (cV (g:=38) rfl rfl (cV (g:=38) rfl rfl (cV (g:=38) rfl rfl (cV (g:=38) rfl rfl (bW (g:=35) rfl rfl (eM h) (bG (fun _ a=>bI (v:=zB true) h rfl rfl) (eT (fun f1 d2=>(aB ⟨aT,true,hm,rfl,d2⟩)))))))))))))))
      ·refine cQ (g:=35) rfl rfl (eW h) (bG (fun _ a=>bP (v:=i64 l) rfl) (cQ (g:=35) rfl rfl (eW h) (bG (fun _ a=>nN rfl rfl) (cQ (g:=35) rfl rfl (eW h) (bG (fun _ a=>bP (v:=zB (decide (0 < l))) rfl) ?_)))))
       rcases aH hm with ⟨c,hm⟩|⟨c,hm⟩
       ·refine cQ (g:=38) rfl rfl c (bG (fun _ a=>bP (v:=zS a1 d.length c2) rfl) (cQ (g:=38) rfl rfl c (bG (fun _ a=>bP (v:=i64 l) rfl) (cQ (g:=38) rfl rfl c (bG (fun _ a=>iW rfl rfl) (cQ (g:=38) rfl rfl c ?_))))));obtain ⟨m,a5,hm⟩:=aC hm
        refine bG (fun _ a=>cG mB rfl n rfl rfl rfl a5) ?_;obtain ⟨f2,d3,d4⟩:=bY.el (sz:=3) rfl n a5
        cases d4
        refine cQ (g:=38) rfl rfl c (bG (fun _ a=>dZ (t:=0) (vs:=[bE m.Left,bE m.Right,bE m.Result]) aEO a d3 rfl rfl rfl) (cQ (g:=38) rfl rfl c (bG (fun _ a=>fQ (us:=[bE b.Left,bE b.Right,bE b.Result]) aEO a (i:=0) rfl rfl rfl rfl) (cQ (g:=38) rfl rfl c ?_))));obtain ⟨q,d5,hm⟩:=aC hm
        exact eU (vs:=[zA #[bE m.Left,bE m.Right,bE m.Result],zA #[bE b.Left,bE b.Right,bE b.Result]]) (v:=i64 q) call149 rfl (fun _ a=>(aGi d5 a)) (cQ (g:=38) rfl rfl c (bG (fun _ a=>sO rfl rfl) (cQ (g:=35) rfl rfl (eW h) (bG (fun _ a=>bI (v:=zB (decide (0<=q))) c rfl rfl) (bG (fun _ a=>bL (v:=zB (decide (0<=q))) h rfl rfl) (eT (fun f3 d6=>(aB ⟨aT,decide (0<=q),hm,rfl,d6⟩))))))))
       ·exact bW (g:=38) rfl rfl (eB c) (bW (g:=38) rfl rfl (eB c) (bW (g:=38) rfl rfl (eB c) (bW (g:=38) rfl rfl (eB c) (bW (g:=38) rfl rfl (eB c) (bW (g:=38) rfl rfl (eB c) (bW (g:=38) rfl rfl (eB c) (bW (g:=38) rfl rfl (eB c) (cQ (g:=35) rfl rfl (eW h) (bG (fun _ a=>bL (v:=zB false) c rfl rfl) (bG (fun _ a=>bL (v:=zB false) h rfl rfl) (eT (fun f4 d7=>(aB ⟨aT,false,hm,rfl,d7⟩)))))))))))))
  ·refine aI u rfl (cD (bA (bA ?_)))
   have d8:=hr _ (zI hm).symm
   subst d8
   have hm:(xM d)=some R:=ho
   clear hr ho
   exact bR (aB ⟨aT,hm,r⟩)
theorem aHk {c:(List bJ)} {R:Bool} (hm:aDx c=some R) (x:aM G K (L) w) (i:bY K a1 c2 c):
  Calls prog 110 ([zS a1 c.length c2]:List Value).toArray w (eK fun v w'=>v=zB R/\aM G K (L) w'):=by
 refine aP func110 rfl (by kernel_rfl) (by show (1:Nat)<=32;decide) ?_;unfold aDx at hm
 refine aJ (aD (v:=zB false) (aF (aN (aJ (aG (v:=zS a1 c.length c2) (aA (bO (len:=c.length) hH rfl) (aG (v:=i64 0) (aF (bM [0] (fun f w=>aAJ c=some R/\aM G K (L) w) ?_ ?_)))))))))
 ·rintro f w4 ⟨hm,y⟩
  unfold aAJ at hm
  refine aB (aJ (aG (v:=zS a1 c.length c2) (aA (bO (len:=c.length) hH rfl) (aA (vR rfl rfl) (aD (v:=zB (decide ((c.length:Int)<=12))) (aF ?_))))));obtain rfl:=zI hm
  exact aX (aO results110 rfl ⟨rfl,y⟩)
 obtain ⟨b0,J,ho⟩:=aC hm
 refine dP [0,5,6] J (fun e f w=>f 7=i64 e/\aM G K (L) w) ?_ ?_
 ·exact ⟨rfl,x⟩
 ·rintro e V f b1 hm hr ⟨j,l⟩
  unfold aAK at hm
  refine aJ (aA (cF j rfl) (aF (aN ?_)))
  rcases aH hm with ⟨m,hm⟩|⟨m,hm⟩
  ·refine aL m rfl (aW (aB (aN (bX (aJ (bF j ?_))))));obtain ⟨d,p,hm⟩:=aC hm
   refine aA (cG hH rfl i rfl rfl j p) ?_;obtain ⟨b2,O,a0⟩:=bY.el (sz:=1) rfl i p
   cases a0
   refine aA (cC (t:=0) fA l O rfl rfl) (aD (v:=i64 e) (aD (v:=bE d) (aF (aN (cP [0,5,6,7] (fun f w=>∃ n,uY e n=some V/\f 27=zB n/\aM G K (L) w) ?_ ?_)))))
   ·rintro f b3 ⟨n,hm,q,r⟩
    unfold uY at hm
    refine aB ?_
    rcases aH hm with ⟨o,hm⟩|⟨o,hm⟩
    ·refine aL o q (aJ (aD (v:=zB false) (aF (aX (aY (aK (aK ?_)))))))
     have a2:=hr _ (zI hm).symm
     subst a2
     have hm:(some false)=some R:=ho
     clear hr ho
     obtain rfl:=zI hm
     exact aY (aK (aK (aO results110 rfl ⟨rfl,r⟩)))
    ·exact aI o q (aW (bH (aB (aU (aA (cA j rfl) (aG (v:=i64 (wr (e+1))) (aF ⟨_,(zI hm).symm,aT,rfl,r⟩)))))))
   refine aU (aG (v:=bE d) ?_);obtain ⟨a4,a5,hm⟩:=aC hm
   refine aQ (vs:=[bE d]) call148 rfl (nS a5 l) ?_
   rintro _ b4 ⟨rfl,k⟩
   refine aA (dA rfl) (aG (v:=zB (!a4)) ?_)
   rcases aH hm with ⟨b,hm⟩|⟨b,hm⟩
   ·exact aR b rfl rfl (aR b rfl rfl (aR b rfl rfl (cL (g:=18) rfl rfl (cL (g:=18) rfl rfl (cL (g:=18) rfl rfl (cL (g:=18) rfl rfl (cL (g:=18) rfl rfl (cL (g:=18) rfl rfl (cL (g:=18) rfl rfl (aR b rfl rfl (aA (bI (v:=zB true) b rfl rfl) (aF ⟨aT,true,hm,rfl,k⟩))))))))))))
   ·refine bD b rfl rfl (aG (v:=i64 e) (bD b rfl rfl (aA (nN rfl rfl) (bD b rfl rfl (aG (v:=zB (decide (0 < e))) ?_)))))
    rcases aH hm with ⟨a,hm⟩|⟨a,hm⟩
    ·refine bB a rfl rfl (aG (v:=bE d) (bB a rfl rfl (aG (v:=zS a1 c.length c2) (bB a rfl rfl (aG (v:=i64 e) (bB a rfl rfl (aA (iW rfl rfl) (bB a rfl rfl ?_))))))));obtain ⟨h,u,hm⟩:=aC hm
     refine aA (cG hH rfl i rfl rfl rfl u) ?_;obtain ⟨b5,a6,a7⟩:=bY.el (sz:=1) rfl i u
     cases a7
     exact bB a rfl rfl (aA (cC (t:=0) fA k a6 rfl rfl) (bB a rfl rfl (aA (R_leqS rfl rfl) (bD b rfl rfl (aA (bI (v:=zB (qF d h||d == h)) a rfl rfl) (aA (bL (v:=zB (qF d h||d == h)) b rfl rfl) (aF ⟨aT,(qF d h||d == h),hm,rfl,k⟩)))))))
    ·exact aV a rfl rfl (aV a rfl rfl (aV a rfl rfl (aV a rfl rfl (aV a rfl rfl (aV a rfl rfl (aV a rfl rfl (bD b rfl rfl (aA (bL (v:=zB false) a rfl rfl) (aA (bL (v:=zB false) b rfl rfl) (aF ⟨aT,false,hm,rfl,k⟩))))))))))
  ·refine aI m rfl (cD (bA (bA ?_)))
   have a8:=hr _ (zI hm).symm
   subst a8
   have hm:(aAJ c)=some R:=ho
   clear hr ho
   exact bR (aB ⟨aT,hm,l⟩)
theorem aGD {c:bT} {p:bZ} {a:Nat} {R:Bool} (hm:uZ c p=some R) (g:aM G K (L) w) (h:bY K a1 c2 c.Values) (d:iG K a4 a [zS a7 p.Definitions.length c8,zS a10 p.Components.length c11,zS a13 p.Meetings.length c14,zS a16 p.Allowed.length c17,zS a19 p.Hidden.length c20]) (j:bY K a7 c8 p.Definitions) (o:bY K a10 c11 p.Components) (q:bY K a13 c14 p.Meetings) (r:bY K a16 c17 p.Allowed) (u:bY K a19 c20 p.Hidden):
  Calls prog 107 ([zA #[i64 c.Definition,zS a1 c.Values.length c2],eP a4 a]:List Value).toArray w (eK fun v w'=>v=zB R/\aM G K (L) w'):=by
 let e:=[i64 c.Definition,zS a1 c.Values.length c2]
 refine aP func107 rfl (by kernel_rfl) (by show (2:Nat)<=9;decide) ?_;unfold uZ at hm
 refine aJ (dM (v:=zA #[i64 c.Definition,zS a1 c.Values.length c2]) (vs:=e) g rfl rfl (fun x y b=>(aD (v:=zB false) (aF (aJ (aA (cH (k':=a+0) zW rfl d rfl) (aA (cC (t:=0) aGR b d rfl rfl) (aA (fQ (us:=e) aFQ b (i:=0) rfl rfl rfl rfl) ?_))))))));obtain ⟨k,l,hm⟩:=aC hm
 refine aQ (vs:=[zS a7 p.Definitions.length c8,zA #[i64 c.Definition,zS a1 c.Values.length c2]]) call108 rfl (aIE l b j h) ?_
 rintro _ z ⟨rfl,m⟩
 refine aA (dA rfl) (aD (v:=zB (!k)) (aF ?_));obtain rfl:=zI hm
 exact aX (aO results107 rfl ⟨rfl,(aM.arr 1 [] m rfl)⟩)
theorem lN {s_:(List bT)} {a:bZ} {d:Nat} {R:Int} (hm:eL s_ a=some R) (n:aM G K (L) w) (k:bY K a1 c2 s_) (o:iG K a4 d [zS a7 a.Definitions.length c8,zS a10 a.Components.length c11,zS a13 a.Meetings.length c14,zS a16 a.Allowed.length c17,zS a19 a.Hidden.length c20]) (p:bY K a7 c8 a.Definitions) (q:bY K a10 c11 a.Components) (r:bY K a13 c14 a.Meetings) (u:bY K a16 c17 a.Allowed) (x:bY K a19 c20 a.Hidden):
  Calls prog 145 ([zS a1 s_.length c2,Value.func (.func 107) #[] #[eP a4 d]]:List Value).toArray w (eK fun v w'=>v=i64 R/\aM G K (L) w'):=by
 refine aP func145 rfl (by kernel_rfl) (by show (2:Nat)<=19;decide) ?_;unfold eL at hm
 refine aJ (aD (v:=i64 0) (aF (aN (aJ (aG (v:=zS a1 s_.length c2) (aA (bO (len:=s_.length) vV rfl) (aG (v:=i64 0) (aF (bM [] (fun f w=>eC=some R/\aM G K (L) w) ?_ ?_)))))))))
 ·rintro f a8 ⟨hm,y⟩
  unfold eC at hm
  refine aB (aJ (aD (v:=i64 (-1)) (aF ?_)));obtain rfl:=zI hm
  exact aX (aO results145 rfl ⟨rfl,y⟩)
 obtain ⟨a9,J,ho⟩:=aC hm
 refine dP [0,1,7] J (fun b f w=>f 8=i64 b/\aM G K (L) w) ?_ ?_
 ·exact ⟨rfl,n⟩
 ·rintro b b0 f b1 hm hr ⟨e,g⟩
  unfold dK at hm
  refine aJ (aA (cF e rfl) (aF (aN ?_)))
  rcases aH hm with ⟨h,hm⟩|⟨h,hm⟩
  ·refine aL h rfl (aW (aB (aN (bX (aJ (bF e (aD (v:=i64 b) (aF (aJ (aG (v:=Value.func (.func 107) #[] #[eP a4 d]) (aG (v:=zS a1 s_.length c2) (aG (v:=i64 b) ?_))))))))))));obtain ⟨c,l,hm⟩:=aC hm
   refine aA (cG vV rfl k rfl rfl rfl l) ?_;obtain ⟨b2,V,O⟩:=bY.el (sz:=2) rfl k l
   obtain ⟨i,c48,rfl,a0⟩:=O
   refine aA (dZ (t:=0) (vs:=[i64 c.Definition,zS i c.Values.length c48]) aFQ g V rfl rfl rfl) ?_;obtain ⟨b3,a2,hm⟩:=aC hm
   refine sZ (vs:=[zA #[i64 c.Definition,zS i c.Values.length c48]]) (caps:=[eP a4 d]) (us:=[zA #[i64 c.Definition,zS i c.Values.length c48],eP a4 d]) rfl call107 rfl rfl (aGD a2 g a0 o p q r u x) ?_
   rintro _ b4 ⟨rfl,m⟩
   refine aF ?_
   rcases aH hm with ⟨j,hm⟩|⟨j,hm⟩
   ·refine aL j rfl (aJ (aG (v:=i64 b) (aD (v:=i64 b) (aF (aX (aY (aK (aK ?_))))))))
    have a3:=hr _ (zI hm).symm
    subst a3
    have hm:(some b)=some R:=ho
    clear hr ho
    obtain rfl:=zI hm
    exact aY (aK (aK (aO results145 rfl ⟨rfl,m⟩)))
   ·exact aI j rfl (aW (bH (aB (aU (aA (cA e rfl) (aG (v:=i64 (wr (b+1))) (aF ⟨_,(zI hm).symm,aT,rfl,m⟩)))))))
  ·refine aI h rfl (cD (bA (bA ?_)))
   have a6:=hr _ (zI hm).symm
   subst a6
   have hm:(eC)=some R:=ho
   clear hr ho
   exact bR (aB ⟨aT,hm,g⟩)
theorem kR {s_:(List bT)} {a:bZ} {b:Nat} {R:Bool} (hm:dL s_ a=some R) (c:aM G K (L) w) (d:bY K a1 c2 s_) (e:iG K a4 b [zS a7 a.Definitions.length c8,zS a10 a.Components.length c11,zS a13 a.Meetings.length c14,zS a16 a.Allowed.length c17,zS a19 a.Hidden.length c20]) (g:bY K a7 c8 a.Definitions) (h:bY K a10 c11 a.Components) (i:bY K a13 c14 a.Meetings) (j:bY K a16 c17 a.Allowed) (k:bY K a19 c20 a.Hidden):
  Calls prog 106 ([zS a1 s_.length c2,Value.func (.func 107) #[] #[eP a4 b]]:List Value).toArray w (eK fun v w'=>v=zB R/\aM G K (L) w'):=by
 refine aP func106 rfl (by kernel_rfl) (by show (2:Nat)<=9;decide) ?_;unfold dL at hm
 refine aJ (aD (v:=zB false) (aF (aJ (aG (v:=zS a1 s_.length c2) (aG (v:=Value.func (.func 107) #[] #[eP a4 b]) ?_)))));obtain ⟨l,m,hm⟩:=aC hm
 refine aQ (vs:=[zS a1 s_.length c2,Value.func (.func 107) #[] #[eP a4 b]]) call145 rfl (lN m c d e g h i j k) ?_
 rintro _ p ⟨rfl,n⟩
 refine aA (sO rfl rfl) (aD (v:=zB (decide (0<=l))) (aF ?_));obtain rfl:=zI hm
 exact aX (aO results106 rfl ⟨rfl,n⟩)
theorem aIF {s_:bZ} {R:Int} (hm:wQ s_=some R) (hs:aM G K (L) w) (t:bY K a1 c2 s_.Definitions) (u:bY K a4 c5 s_.Components) (x:bY K a7 c8 s_.Meetings) (y:bY K a10 c11 s_.Allowed) (z:bY K a13 c14 s_.Hidden):
  Calls prog 80 ([zA #[zS a1 s_.Definitions.length c2,zS a4 s_.Components.length c5,zS a7 s_.Meetings.length c8,zS a10 s_.Allowed.length c11,zS a13 s_.Hidden.length c14]]:List Value).toArray w (eK fun v w'=>v=i64 R/\aM G K (L) w'):=by
 let J:=[zS a1 s_.Definitions.length c2,zS a4 s_.Components.length c5,zS a7 s_.Meetings.length c8,zS a10 s_.Allowed.length c11,zS a13 s_.Hidden.length c14]
 refine aP func80 rfl (by kernel_rfl) (by show (1:Nat)<=35;decide) ?_;unfold wQ at hm
 refine aJ (dM (v:=zA #[zS a1 s_.Definitions.length c2,zS a4 s_.Components.length c5,zS a7 s_.Meetings.length c8,zS a10 s_.Allowed.length c11,zS a13 s_.Hidden.length c14]) (vs:=J) hs rfl rfl (fun c d0 V=>(aD (v:=i64 0) (aF (aN (bX (aJ (aA (bC (t':=0) zW rfl rfl) (aA (bQ aGR V (i:=0) rfl rfl rfl) ?_)))))))));obtain ⟨a3,a5,hm⟩:=aC hm
 refine aQ (vs:=[zS a1 s_.Definitions.length c2]) call105 rfl (aFw a5 V t) ?_
 rintro _ d1 ⟨rfl,d⟩
 refine aA (dA rfl) (aD (v:=zB (!a3)) (aF ?_))
 rcases aH hm with ⟨e,hm⟩|⟨e,hm⟩
 ·refine aL e rfl (aJ (aD (v:=i64 1) (aF ?_)));obtain rfl:=zI hm
  exact aX (aY (aK (aO results80 rfl ⟨rfl,(aM.arr 1 [] d rfl)⟩)))
 ·refine aI e rfl (aN (cP [1] (fun f w=>∃ h,pV s_ h=some R/\f 8=zB h/\aM G K (box c 37 J::L) w) ?_ ?_))
  ·rintro f d2 ⟨h,hm,O,j⟩
   unfold pV at hm
   refine aB ?_
   rcases aH hm with ⟨k,hm⟩|⟨k,hm⟩
   ·refine aL k O (aJ (aD (v:=i64 2) (aF ?_)));obtain rfl:=zI hm
    exact aX (aY (aK (aO results80 rfl ⟨rfl,(aM.arr 1 [] j rfl)⟩)))
   ·refine aI k O (aJ (aA (bC (t':=2) aCR rfl rfl) (aA (bQ aKF j (i:=0) rfl rfl rfl) ?_)));obtain ⟨a9,b0,hm⟩:=aC hm
    refine aQ (vs:=[zS a7 s_.Meetings.length c8]) call109 rfl (aJk b0 j x) ?_
    rintro _ d3 ⟨rfl,l⟩
    refine aA (dA rfl) (aD (v:=zB (!a9)) (aF ?_))
    rcases aH hm with ⟨m,hm⟩|⟨m,hm⟩
    ·refine aL m rfl (aJ (aD (v:=i64 3) (aF ?_)));obtain rfl:=zI hm
     exact aX (aY (aK (aO results80 rfl ⟨rfl,(aM.arr 1 [] l rfl)⟩)))
    ·refine aI m rfl (aJ (aA (bC (t':=3) aCS rfl rfl) (aA (bQ zV l (i:=0) rfl rfl rfl) ?_)));obtain ⟨b2,b3,hm⟩:=aC hm
     refine aQ (vs:=[zS a10 s_.Allowed.length c11]) call110 rfl (aHk b3 l y) ?_
     rintro _ d4 ⟨rfl,n⟩
     refine aA (dA rfl) (aD (v:=zB (!b2)) (aF ?_))
     rcases aH hm with ⟨o,hm⟩|⟨o,hm⟩
     ·refine aL o rfl (aJ (aD (v:=i64 4) (aF ?_)));obtain rfl:=zI hm
      exact aX (aY (aK (aO results80 rfl ⟨rfl,(aM.arr 1 [] n rfl)⟩)))
     ·refine aI o rfl (aJ (aA (bC (t':=4) aEu rfl rfl) (aA (bQ zV n (i:=0) rfl rfl rfl) ?_)));obtain ⟨b5,b6,hm⟩:=aC hm
      refine aQ (vs:=[zS a13 s_.Hidden.length c14]) call110 rfl (aHk b6 n z) ?_
      rintro _ d5 ⟨rfl,a0⟩
      refine aA (dA rfl) (aD (v:=zB (!b5)) (aF ?_))
      rcases aH hm with ⟨p,hm⟩|⟨p,hm⟩
      ·refine aL p rfl (aJ (aD (v:=i64 5) (aF ?_)));obtain rfl:=zI hm
       exact aX (aY (aK (aO results80 rfl ⟨rfl,(aM.arr 1 [] a0 rfl)⟩)))
      ·refine aI p rfl (aW (bH (aB (aJ (aD (v:=i64 0) (aF ?_))))));obtain rfl:=zI hm
       exact aX (aO results80 rfl ⟨rfl,(aM.arr 1 [] a0 rfl)⟩)
  refine aU (aA (bC (t':=1) uM rfl rfl) (aA (bQ aGs d (i:=0) rfl rfl rfl) (aA (bO (len:=s_.Components.length) vV rfl) ?_)));obtain ⟨b9,c0,hm⟩:=aC hm
  refine aQ (vs:=[i64 (s_.Components.length:Int),i64 1,i64 3]) call58 rfl (fK c0 d) ?_
  rintro _ d6 ⟨rfl,q⟩
  refine aA (dA rfl) (aG (v:=zB (!b9)) ?_)
  rcases aH hm with ⟨a,hm⟩|⟨a,hm⟩
  ·exact aR a rfl rfl (aR a rfl rfl (aR a rfl rfl (aR a rfl rfl (aA (bI (v:=zB true) a rfl rfl) (aD (v:=zB true) (aF ⟨aT,true,hm,rfl,q⟩))))))
  ·refine bD a rfl rfl (aA (bC (t':=1) uM rfl rfl) (bD a rfl rfl (aA (bQ aGs q (i:=0) rfl rfl rfl) (bD a rfl rfl (aA (yA (vs:=[zP (some ⟨c,0,none⟩)]) rfl) (bD a rfl rfl ?_))))));obtain ⟨d7,b,c1,c3,c4⟩:=aM.lendBp q .head
   obtain ⟨r,c6,hm⟩:=aC hm
   refine aQ (vs:=[zS a4 s_.Components.length c5,Value.func (.func 107) #[] #[eP (some ⟨c,0,none⟩) 0]]) call106 rfl (kR c6 c3 (u.mono b) c1 (t.mono b) (u.mono b) (x.mono b) (y.mono b) (z.mono b)) ?_
   rintro _ d8 ⟨rfl,c7⟩
   have c9:=c4 _ _ c7
   exact aA (bL (v:=zB r) a rfl rfl) (aD (v:=zB r) (aF ⟨aT,r,hm,rfl,c9⟩))
theorem aIG {s_:bZ} {R:Bool} (hm:sH s_=some R) (c:aM G K (L) w) (d:bY K a1 c2 s_.Definitions) (e:bY K a4 c5 s_.Components) (g:bY K a7 c8 s_.Meetings) (h:bY K a10 c11 s_.Allowed) (j:bY K a13 c14 s_.Hidden):
  Calls prog 56 ([zA #[zS a1 s_.Definitions.length c2,zS a4 s_.Components.length c5,zS a7 s_.Meetings.length c8,zS a10 s_.Allowed.length c11,zS a13 s_.Hidden.length c14]]:List Value).toArray w (eK fun v w'=>v=zB R/\aM G K (L) w'):=by
 let a:=[zS a1 s_.Definitions.length c2,zS a4 s_.Components.length c5,zS a7 s_.Meetings.length c8,zS a10 s_.Allowed.length c11,zS a13 s_.Hidden.length c14]
 refine aP func56 rfl (by kernel_rfl) (by show (1:Nat)<=6;decide) ?_;unfold sH at hm
 refine aJ (dM (v:=zA #[zS a1 s_.Definitions.length c2,zS a4 s_.Components.length c5,zS a7 s_.Meetings.length c8,zS a10 s_.Allowed.length c11,zS a13 s_.Hidden.length c14]) (vs:=a) c rfl rfl (fun o p b=>(aD (v:=zB false) (aF (aJ (aA (fQ (us:=a) aFf b (i:=0) rfl rfl rfl rfl) ?_))))));obtain ⟨k,l,hm⟩:=aC hm
 refine aQ (vs:=[zA #[zS a1 s_.Definitions.length c2,zS a4 s_.Components.length c5,zS a7 s_.Meetings.length c8,zS a10 s_.Allowed.length c11,zS a13 s_.Hidden.length c14]]) call80 rfl (aIF l b d e g h j) ?_
 rintro _ q ⟨rfl,m⟩
 refine aA (cK rfl rfl) (aD (v:=zB (k == 0)) (aF ?_));obtain rfl:=zI hm
 exact aX (aO results56 rfl ⟨rfl,(aM.arr 1 [] m rfl)⟩)
theorem aGj {x_:rZ} {R:Bool} (hm:oB x_=some R) (h:aM G K (L) w):
  Calls prog 57 ([zA #[i64 x_.policy,i64 x_.seed]]:List Value).toArray w (eK fun v w'=>v=zB R/\aM G K (L) w'):=by
 refine aP func57 rfl (by kernel_rfl) (by show (1:Nat)<=11;decide) ?_;unfold oB at hm
 refine aJ (dM (v:=zA #[i64 x_.policy,i64 x_.seed]) (vs:=[i64 x_.policy,i64 x_.seed]) h rfl rfl (fun q r e=>(aD (v:=zB false) (aF (aN (cP [] (fun f w=>∃ b,lJ b=some R/\f 2=zB b/\aM G K (L) w) ?_ ?_))))))
 ·rintro f t ⟨b,hm,j,k⟩
  unfold lJ at hm
  refine aB ?_;obtain rfl:=zI hm
  exact aX (aO results57 rfl ⟨j,k⟩)
 refine aU (aA (bC (t':=0) aOA rfl rfl) (aA (bQ dC e (i:=0) rfl rfl rfl) ?_));obtain ⟨m,n,hm⟩:=aC hm
 refine aQ (vs:=[i64 x_.policy,i64 0,i64 2]) call58 rfl (fK n e) ?_
 rintro _ u ⟨rfl,c⟩
 refine aG (v:=zB m) ?_
 rcases aH hm with ⟨a,hm⟩|⟨a,hm⟩
 ·refine bB a rfl rfl (aA (bC (t':=1) fa_60_1 rfl rfl) (bB a rfl rfl (aA (bQ dC c (i:=0) rfl rfl rfl) (bB a rfl rfl ?_))));obtain ⟨d,o,hm⟩:=aC hm
  refine aQ (vs:=[i64 x_.seed,i64 0,i64 65535]) call58 rfl (fK o c) ?_
  rintro _ x ⟨rfl,p⟩
  exact aA (bI (v:=zB d) a rfl rfl) (aD (v:=zB d) (aF ⟨aT,d,hm,rfl,(aM.arr 1 [] p rfl)⟩))
 ·exact aV a rfl rfl (aV a rfl rfl (aV a rfl rfl (aA (bL (v:=zB false) a rfl rfl) (aD (v:=zB false) (aF ⟨aT,false,hm,rfl,(aM.arr 1 [] c rfl)⟩)))))
theorem aMs {s_:bZ} {x_:rZ} {b R:Int} (hm:aHG s_ x_ b=some R) (p:aM G K (L) w) (q:bY K a1 c2 s_.Definitions) (r:bY K a4 c5 s_.Components) (t:bY K a7 c8 s_.Meetings) (u:bY K a10 c11 s_.Allowed) (x:bY K a13 c14 s_.Hidden):
  Calls prog 27 ([zA #[zS a1 s_.Definitions.length c2,zS a4 s_.Components.length c5,zS a7 s_.Meetings.length c8,zS a10 s_.Allowed.length c11,zS a13 s_.Hidden.length c14],zA #[i64 x_.policy,i64 x_.seed],i64 b]:List Value).toArray w (eK fun v w'=>v=i64 R/\aM G K (L) w'):=by
 let k:=[zS a1 s_.Definitions.length c2,zS a4 s_.Components.length c5,zS a7 s_.Meetings.length c8,zS a10 s_.Allowed.length c11,zS a13 s_.Hidden.length c14]
 refine aP func27 rfl (by kernel_rfl) (by show (3:Nat)<=20;decide) ?_;unfold aHG at hm
 refine aJ (dM (v:=zA #[zS a1 s_.Definitions.length c2,zS a4 s_.Components.length c5,zS a7 s_.Meetings.length c8,zS a10 s_.Allowed.length c11,zS a13 s_.Hidden.length c14]) (vs:=k) p rfl rfl (fun a8 a9 y=>(dM (v:=zA #[i64 x_.policy,i64 x_.seed]) (vs:=[i64 x_.policy,i64 x_.seed]) y rfl rfl (fun b0 b1 l=>(aD (v:=i64 0) (aF (aN (bX (aJ (aA (fQ (us:=k) aFf l (i:=1) rfl rfl rfl rfl) ?_))))))))));obtain ⟨z,J,hm⟩:=aC hm
 refine aQ (vs:=[zA #[zS a1 s_.Definitions.length c2,zS a4 s_.Components.length c5,zS a7 s_.Meetings.length c8,zS a10 s_.Allowed.length c11,zS a13 s_.Hidden.length c14]]) call56 rfl (aIG J l q r t u x) ?_
 rintro _ b2 ⟨rfl,c⟩
 refine aA (dA rfl) (aD (v:=zB (!z)) (aF ?_))
 rcases aH hm with ⟨d,hm⟩|⟨d,hm⟩
 ·refine aL d rfl (aJ (aD (v:=i64 1) (aF ?_)));obtain rfl:=zI hm
  exact aX (aY (aK (aO results27 rfl ⟨rfl,(aM.arr 2 [] c rfl)⟩)))
 ·refine aI d rfl (aN (cP [] (fun f w=>∃ e,qY e=some R/\f 11=zB e/\aM G K (L) w) ?_ ?_))
  ·rintro f b3 ⟨e,hm,m,n⟩
   unfold qY at hm
   refine aB ?_
   rcases aH hm with ⟨h,hm⟩|⟨h,hm⟩
   ·refine aL h m (aJ (aD (v:=i64 2) (aF ?_)));obtain rfl:=zI hm
    exact aX (aY (aK (aO results27 rfl ⟨rfl,n⟩)))
   ·refine aI h m (aW (bH (aB (aJ (aD (v:=i64 0) (aF ?_))))));obtain rfl:=zI hm
    exact aX (aO results27 rfl ⟨rfl,n⟩)
  refine aU (aA (fQ (us:=[i64 x_.policy,i64 x_.seed]) ag_60 c (i:=0) rfl rfl rfl rfl) ?_);obtain ⟨a2,a3,hm⟩:=aC hm
  refine aQ (vs:=[zA #[i64 x_.policy,i64 x_.seed]]) call57 rfl (aGj a3 c) ?_
  rintro _ b4 ⟨rfl,o⟩
  refine aA (dA rfl) (aG (v:=zB (!a2)) ?_)
  rcases aH hm with ⟨a,hm⟩|⟨a,hm⟩
  ·exact aR a rfl rfl (aR a rfl rfl (aR a rfl rfl (aA (bI (v:=zB true) a rfl rfl) (aD (v:=zB true) (aF ⟨aT,true,hm,rfl,(aM.arr 2 [] o rfl)⟩)))))
  ·refine bD a rfl rfl (aG (v:=i64 b) (bD a rfl rfl ?_));obtain ⟨j,a5,hm⟩:=aC hm
   refine aQ (vs:=[i64 b,i64 0,i64 60]) call58 rfl (fK a5 o) ?_
   rintro _ b5 ⟨rfl,a6⟩
   exact bD a rfl rfl (aA (dA rfl) (aA (bL (v:=zB (!j)) a rfl rfl) (aD (v:=zB (!j)) (aF ⟨aT,!j,hm,rfl,(aM.arr 2 [] a6 rfl)⟩))))
theorem aIp {c:(List Int)} {d R:bJ} (hm:aDS c d=some R) (V:aM G K (L) w) (O:G.lo=0) (u:bY K a1 c2 c):
  Calls prog 160 ([zS a1 c.length c2,bE d]:List Value).toArray w (eK fun v w'=>v=bE R/\aM G K (L) w'):=by
 refine aP func160 rfl (by kernel_rfl) (by show (2:Nat)<=27;decide) ?_;unfold aDS at hm
 refine aJ (aD (v:=bE ([]:bJ)) (aF (aJ (aG (v:=zS a1 c.length c2) (aA (bO (len:=c.length) fN rfl) ?_)))));obtain ⟨a,q5,hm⟩:=aC hm
 refine aLM (e:=([]:bJ)) hH ez_9 rfl rfl V rfl rfl rfl q5 rfl (fun b w7 (a3:aM G K (bN 9 K b a.length a::L) w7)=>(aD (v:=zS b a.length a.length) (aF (aN (aJ (aG (v:=zS a1 c.length c2) (aA (bO (len:=c.length) fN rfl) (aG (v:=i64 0) (aF (bM [1] (fun f w=>∃ g,aCr d g=some R/\f 5=zS b g.length a.length/\aM G K (bN 9 K b a.length g::L) w) ?_ ?_))))))))))
 ·rintro f c5 ⟨g,hm,a4,a5⟩
  unfold aCr at hm
  refine aB (aJ (bF a4 (aG (v:=bE d) ?_)));obtain ⟨c6,c7,a7,a8,a9⟩:=aM.lendSp a5 (zR _) .head
  obtain ⟨b0,b1,hm⟩:=aC hm
  refine aQ (vs:=[zS b g.length a.length,bE d]) call163 rfl (aPI a8 O a7 b1) ?_
  rintro _ c8 ⟨rfl,b2⟩
  have b3:=a9 _ _ b2
  refine aD (v:=bE b0) (aF ?_);obtain rfl:=zI hm
  exact aX (aO results160 rfl ⟨rfl,(aM.arr 1 [] b3 rfl)⟩)
 obtain ⟨c9,b5,ho⟩:=aC hm
 refine dD [1,11,12] b5 (fun j k f w=>f 5=zS b j.length a.length/\f 13=i64 k/\aM G K (bN 9 K b a.length j::L) w) ?_ ?_
 ·exact ⟨rfl,rfl,a3⟩
 ·rintro j k d0 f d1 hm hr ⟨m,l,o⟩
  unfold aCs at hm
  refine aJ (aA (cF l rfl) (aF (aN ?_)))
  rcases aH hm with ⟨p,hm⟩|⟨p,hm⟩
  ·refine aL p rfl (aW (aB (aN (bX (aJ (bF l ?_))))));obtain ⟨q,x,hm⟩:=aC hm
   refine aA (cG fN rfl u rfl rfl l x) ?_;obtain ⟨d2,b6,b7⟩:=bY.el (sz:=1) rfl u x
   cases b7
   refine aA (cC (t:=0) dC o b6 rfl rfl) (aD (v:=i64 k) (aD (v:=i64 q) (aF (aU (bF m (aG (v:=i64 k) (aG (v:=i64 q) ?_)))))));obtain ⟨y,b8,hm⟩:=aC hm
   refine aQ (vs:=[i64 q]) call86 rfl (uG o b8) ?_
   rintro _ d3 ⟨rfl,z⟩
   obtain ⟨d4,r,hm⟩:=aC hm
   have b9:=gC z (i:=0) rfl r
   refine aA (fT hH rfl b9 rfl rfl rfl r) ?_;obtain ⟨c0,J,hm⟩:=aC hm
   exact oZ (i:=0) (t:=0) (ns:=[bE y]) (e':=(y:bJ)) sizeOf9 z rfl (zR _) rfl rfl rfl r J rfl rfl (gJ rfl) rfl (fun cs h=>by cases h;rfl) (fun c1 (c3:aM G K (bN 9 K b a.length c0::L) c1)=>(cW (bH (aB (aU (aA (cA l rfl) (aG (v:=i64 (wr (k+1))) (aF ⟨_,(zI hm).symm,aT,(Eq.trans m (congrArg (fun n=>zS b n a.length) (cE J))),rfl,c3⟩))))))))
  ·refine aI p rfl (cD (bA (bA ?_)))
   have c4:=hr _ (zI hm).symm
   subst c4
   have hm:(aCr d j)=some R:=ho
   clear hr ho
   exact bR (aB ⟨aT,j,hm,m,o⟩)
theorem aEb {b:bJ} {a:(List Int)} {R:(bJ × Bool)} (hm:zD b a=some R) (n:aM G K (L) w) (q:G.lo=0) (o:bY K a1 c2 a):
  Calls prog 116 ([bE b,zS a1 a.length c2]:List Value).toArray w (eK fun v w'=>v=zT #[bE R.1,zB R.2]/\aM G K (L) w'):=by
 refine aP func116 rfl (by kernel_rfl) (by show (2:Nat)<=37;decide) ?_;unfold zD at hm
 refine aJ (aD (v:=bE ([]:bJ)) (aD (v:=zB false) (aF (aN (bX (aJ (aG (v:=bE b) (aA (kS rfl rfl) (aD (v:=zB (b == ([116,97,117]:bJ))) (aF ?_))))))))))
 rcases aH hm with ⟨e,hm⟩|⟨e,hm⟩
 ·refine aL e rfl (aJ (aG (v:=zS a1 a.length c2) (aA (bO (len:=a.length) fN rfl) (aA (cK rfl rfl) (aD (v:=bE ([116,97,117]:bJ)) (aD (v:=zB ((a.length:Int) == 0)) (aF ?_)))))));obtain rfl:=zI hm
  exact aX (aY (aK (kJ results116 rfl rfl ⟨rfl,n⟩)))
 ·refine aI e rfl (aN (cP [0,1] (fun f w=>∃ h,vA b a h=some R/\f 12=zB h/\aM G K (L) w) ?_ ?_))
  ·rintro f w8 ⟨h,hm,p,i⟩
   unfold vA at hm
   refine aB ?_
   rcases aH hm with ⟨j,hm⟩|⟨j,hm⟩
   ·refine aL j p (aJ (aD (v:=bE ([]:bJ)) (aD (v:=zB false) (aF ?_))));obtain rfl:=zI hm
    exact aX (aY (aK (kJ results116 rfl rfl ⟨rfl,i⟩)))
   ·refine aI j p (aJ (aG (v:=zS a1 a.length c2) (aA (bO (len:=a.length) fN rfl) (aA (cK rfl rfl) (aD (v:=zB ((a.length:Int) == 0)) (aF ?_))))))
    rcases aH hm with ⟨k,hm⟩|⟨k,hm⟩
    ·refine aL k rfl (aJ (aG (v:=bE b) (aD (v:=bE b) (aD (v:=zB true) (aF ?_)))));obtain rfl:=zI hm
     exact aX (aY (aK (kJ results116 rfl rfl ⟨rfl,i⟩)))
    ·refine aI k rfl (aW (bH (aB (aJ (aG (v:=bE b) ?_)))));obtain ⟨a7,x,hm⟩:=aC hm
     refine aA (qH rfl rfl x) (aG (v:=zS a1 a.length c2) ?_);obtain ⟨a8,y,hm⟩:=aC hm
     refine aQ (vs:=[zS a1 a.length c2,bE ([44]:bJ)]) call160 rfl (aIp y i q o) ?_
     rintro _ a9 ⟨rfl,z⟩
     obtain ⟨b0,J,hm⟩:=aC hm
     refine aA (qH rfl rfl J) ?_;obtain ⟨V,O,hm⟩:=aC hm
     refine aA (qH rfl rfl O) (aD (v:=bE V) (aD (v:=zB true) (aF ?_)));obtain rfl:=zI hm
     exact aX (kJ results116 rfl rfl ⟨rfl,z⟩)
  refine aU (aG (v:=bE b) ?_);obtain ⟨a2,a3,hm⟩:=aC hm
  refine aQ (vs:=[bE b]) call148 rfl (nS a3 n) ?_
  rintro _ b1 ⟨rfl,l⟩
  refine aA (dA rfl) (aG (v:=zB (!a2)) ?_)
  rcases aH hm with ⟨c,hm⟩|⟨c,hm⟩
  ·exact aR c rfl rfl (aR c rfl rfl (aR c rfl rfl (aA (bI (v:=zB true) c rfl rfl) (aG (v:=zB true) (aR (rfl:true=true) rfl rfl (aR (rfl:true=true) rfl rfl (aR (rfl:true=true) rfl rfl (aA (bI (v:=zB true) (rfl:true=true) rfl rfl) (aD (v:=zB true) (aF ⟨aT,true,hm,rfl,l⟩))))))))))
  ·refine bD c rfl rfl (aG (v:=zS a1 a.length c2) (bD c rfl rfl (aA (bO (len:=a.length) fN rfl) (bD c rfl rfl (aA (nN rfl rfl) (aA (bL (v:=zB (decide (2 < (a.length:Int)))) c rfl rfl) (aG (v:=zB (decide (2 < (a.length:Int)))) ?_)))))))
   rcases aH hm with ⟨d,hm⟩|⟨d,hm⟩
   ·exact aR d rfl rfl (aR d rfl rfl (aR d rfl rfl (aA (bI (v:=zB true) d rfl rfl) (aD (v:=zB true) (aF ⟨aT,true,hm,rfl,l⟩)))))
   ·refine bD d rfl rfl (aG (v:=zS a1 a.length c2) (bD d rfl rfl ?_));obtain ⟨m,a4,hm⟩:=aC hm
    refine aQ (vs:=[zS a1 a.length c2]) call147 rfl (aFx a4 l o) ?_
    rintro _ b2 ⟨rfl,a5⟩
    exact bD d rfl rfl (aA (dA rfl) (aA (bL (v:=zB (!m)) d rfl rfl) (aD (v:=zB (!m)) (aF ⟨aT,!m,hm,rfl,a5⟩))))
theorem aJl {rec_:(List bS)->Option ((Tr bS) × (List bS))} (ih:∀ {G:qG} {K:Hp} {L:List iU} {w:World} {e:(List bS)} {a1:Option Addr} {c2:Nat} {R:((Tr bS) × (List bS))} (hm:rec_ e=some R) (hs:aM G K (L) w) (m:bY K a1 c2 e),
  Calls prog 221 ([zS a1 e.length c2]:List Value).toArray w (eK fun v w'=>∃ c u x y,v=zT #[eP u 0,zS x R.2.length y]/\Hp.le K c/\trd c R.1 u/\bY c x y R.2/\aM G c (L) w'))
  {G:qG} {K:Hp} {L:List iU} {w:World} {e:(List bS)} {a1:Option Addr} {c2:Nat} {R:((Tr bS) × (List bS))} (hm:mH rec_ e=some R) (hs:aM G K (L) w) (m:bY K a1 c2 e):
  Calls prog 221 ([zS a1 e.length c2]:List Value).toArray w (eK fun v w'=>∃ c u x y,v=zT #[eP u 0,zS x R.2.length y]/\Hp.le K c/\trd c R.1 u/\bY c x y R.2/\aM G c (L) w'):=by
 refine aP func221 rfl (by kernel_rfl) (by show (1:Nat)<=38;decide) ?_;unfold mH at hm
 refine aJ (aD (v:=zP none) (aD (v:=zS none 0 0) (aF (aJ (aG (v:=zS a1 e.length c2) ?_)))));obtain ⟨a,q5,hm⟩:=aC hm
 refine aA (cG lX rfl m rfl rfl rfl q5) ?_;obtain ⟨g4,b7,d5⟩:=bY.el (sz:=2) rfl m q5
 cases d5
 refine aA (dZ (t:=0) (vs:=[i64 a.Kind,i64 a.Value]) aFR hs b7 rfl rfl rfl) (aA (lQ (vs:=[(0,zA #[i64 a.Kind,i64 a.Value])]) (cs:=[i64 a.Kind,i64 a.Value,zS none 0 0]) bs_286 rfl (by kernel_rfl)) (dM (v:=zA #[i64 a.Kind,i64 a.Value,zS none 0 0]) (vs:=[i64 a.Kind,i64 a.Value,zS none 0 0]) hs rfl rfl (fun b g5 b8=>(aD (v:=zP (some ⟨b,0,none⟩)) (aF (aJ (aG (v:=zS a1 e.length c2) ?_)))))));obtain ⟨d6,c0,hm⟩:=aC hm
 obtain ⟨c1,c3,c4⟩:=Cut.ex 2 a1 c2 1
 have d7:=bY.cut' m c0 c4
 refine aA (R_slVL lX m.room c4 rfl rfl rfl c0) (aD (v:=zS c1 d6.length c3) (aF (aN (aJ (aG (v:=zS a1 e.length c2) (aA (cG lX rfl m rfl rfl rfl q5) (aA (dZ (t:=0) (vs:=[i64 a.Kind,i64 a.Value]) aFR b8 b7 rfl rfl rfl) ?_)))))));obtain ⟨g6,d8,hm⟩:=aC hm
 refine aQ (vs:=[zA #[i64 a.Kind,i64 a.Value]]) call247 rfl (aCy d8 b8) ?_
 rintro _ g7 ⟨rfl,d9⟩
 refine aG (v:=i64 0) (aF (bM [4] (fun f w=>∃ z n J a4 a5 V O,Hp.le K z/\aBN a n J=some R/\f 5=zS V J.length O/\bY z V O J/\aM G z (bN 246 z a4 a5 n::box b 286 [i64 a.Kind,i64 a.Value,zS a4 n.length a5]::L) w) ?_ ?_))
 ·rintro f c5 ⟨z,n,J,a4,a5,V,O,e0,hm,e1,e2,e3⟩
  unfold aBN at hm
  refine aB (aJ (aG (v:=zP (some ⟨b,0,none⟩)) (bF e1 (aD (v:=zP (some ⟨b,0,none⟩)) (aD (v:=zS V J.length O) (aF ?_))))));obtain ⟨e5,c6,e6,a9⟩:=aM.giveSp e3 (zR _) .head
  replace a9:aM G e5 (box b 286 [i64 a.Kind,i64 a.Value,zS a4 n.length a5]::L) c5:=a9
  obtain ⟨b0,b1,e7,b2,_⟩:=aM.lendBp a9 .head
  replace b2:aM G b0 (L) c5:=b2
  have e8:trd b0 (Tr.mk a n) (some ⟨b,0,none⟩):=trd_mk e7 (e6.mono b1)
  obtain rfl:=zI hm
  exact aX (kJ results221 rfl rfl ⟨b0,(some ⟨b,0,none⟩),V,O,(tp2 (elp_b rfl) rfl),(Hp.le_trans (Hp.le_trans e0 c6) b1),e8,(e2.mono (Hp.le_trans c6 b1)),b2⟩)
 have f0:=aM.nil (α:=(Tr bS)) d9 246 K
 obtain ⟨g8,f1,ho⟩:=aC hm
 refine jP [4,17] f1 (fun g o b3 f w=>∃ j k l a0 a2,Hp.le K j/\f 5=zS a0 o.length a2/\f 18=i64 b3/\bY j a0 a2 o/\aM G j (bN 246 j k l g::box b 286 [i64 a.Kind,i64 a.Value,zS k g.length l]::L) w) ?_ ?_
 ·exact ⟨K,none,0,c1,c3,(zR _),rfl,rfl,d7,f0⟩
 ·rintro g o b3 g9 f h0 hm hr ⟨j,k,l,a0,a2,c7,c8,c9,d0,d1⟩
  unfold wR at hm
  refine aJ (aA (cF c9 rfl) (aF (aN ?_)))
  rcases aH hm with ⟨b4,hm⟩|⟨b4,hm⟩
  ·refine aL b4 rfl (aW (aB (aN (bX (aJ (aD (v:=zP none) (aF (aJ (bF c8 ?_)))))))));obtain ⟨a6,f2,hm⟩:=aC hm
   refine aQ (vs:=[zS a0 o.length a2]) call221 rfl (ih f2 d1 d0) ?_
   rintro _ h1 ⟨d,p,b5,b6,rfl,d2,f3,f4,d3⟩
   refine aG (v:=zT #[eP p 0,zS b5 a6.2.length b6]) (aA (cJ rfl rfl) (aA (cJ rfl rfl) (aD (v:=eP p 0) (aD (v:=zS b5 a6.2.length b6) (aF (aU (aG (v:=zP (some ⟨b,0,none⟩)) (aG (v:=zP (some ⟨b,0,none⟩)) (aA (qL rfl) (aA (bC (t':=2) aGT rfl rfl) (aA (bQ aOB d3 (i:=1) rfl rfl rfl) (aG (v:=eP p 0) (gA (Kt:=d) (xs:=([a6.1]:List (Tr bS))) (cs:=[eP p 0]) (vs:=[(0,eP p 0)]) aMa ez_246 rfl rfl d3 rfl (by kernel_rfl) rfl rfl rfl ⟨⟨p,rfl,f3⟩,trivial⟩ (fun f5 f6 (f7:aM G d (bN 246 d f5 1 ([a6.1]:List (Tr bS))::bN 246 j k l g::box b 286 [i64 a.Kind,i64 a.Value,zS k g.length l]::L) f6)=>?_))))))))))))))
   obtain ⟨a3,f8,hm⟩:=aC hm
   exact aEr (i:=0) d aMa underlying284 ez_246 rfl rfl f7 rfl d2 (zR _) f8 rfl rfl rfl rfl (fun _ _ _ h=>El.one h) (fun q r f9 (g0:aM G d (bN 246 d q r a3::box b 286 [i64 a.Kind,i64 a.Value,zS k g.length l]::L) f9)=>(aA (qL rfl) (aA (bC (t':=2) aGT rfl rfl) (eD (i:=1) (ns:=[zS q a3.length r]) (us:=[i64 a.Kind,i64 a.Value,zS q a3.length r]) sizeOf284 g0 rfl rfl rfl rfl rfl (gJ rfl) rfl rfl (fun g1 (g2:aM G d (bN 246 d q r a3::box b 286 [i64 a.Kind,i64 a.Value,zS q a3.length r]::L) g1)=>(cW (bH (aB (aU (aA (cA c9 rfl) (aG (v:=i64 (wr (b3+1))) (aF ⟨_,(zI hm).symm,aT,d,q,r,b5,b6,(Hp.le_trans c7 d2),rfl,rfl,f4,g2⟩))))))))))))
  ·refine aI b4 rfl (cD (bA (bA ?_)))
   have g3:=hr _ (zI hm).symm
   subst g3
   have hm:(aBN a g o)=some R:=ho
   clear hr ho
   exact bR (aB ⟨aT,j,g,o,k,l,a0,a2,c7,hm,c8,d0,d1⟩)
theorem aJm (n:Nat):∀ {G:qG} {K:Hp} {L:List iU} {w:World} {e:(List bS)} {a1:Option Addr} {c2:Nat} {R:((Tr bS) × (List bS))} (hm:mJ n e=some R) (a:aM G K (L) w) (b:bY K a1 c2 e),
  Calls prog 221 ([zS a1 e.length c2]:List Value).toArray w (eK fun v w'=>∃ c d g h,v=zT #[eP d 0,zS g R.2.length h]/\Hp.le K c/\trd c R.1 d/\bY c g h R.2/\aM G c (L) w'):=by
 induction n with
 |zero=>
  intro G K L w e a1 c2 R hm a b
  unfold mJ at hm
  cases hm
 |succ n ih=>
  intro G K L w e a1 c2 R hm a b
  exact aJl (rec_:=mJ n) (fun hm a b=>ih hm a b) hm a b
theorem aLg {e:(List bS)} {R:((Tr bS) × (List bS))} (hm:aIy e=some R) (hs:aM G K (L) w) (h3:bY K a1 c2 e):
  Calls prog 221 ([zS a1 e.length c2]:List Value).toArray w (eK fun v w'=>∃ K' ra1 ra2 rc2,v=zT #[eP ra1 0,zS ra2 R.2.length rc2]/\Hp.le K K'/\trd K' R.1 ra1/\bY K' ra2 rc2 R.2/\aM G K' (L) w'):=aJm 100000 hm hs h3
theorem aPK {e:(List bS)} {R:(Tr bS)} (hm:aOE e=some R) (i:aM G K (L) w) (j:bY K a1 c2 e):
  Calls prog 188 ([zS a1 e.length c2]:List Value).toArray w (eK fun v w'=>∃ b c,v=eP c 0/\Hp.le K b/\trd b R c/\aM G b (L) w'):=by
 refine aP func188 rfl (by kernel_rfl) (by show (1:Nat)<=11;decide) ?_;unfold aOE at hm
 refine aJ (aD (v:=zP none) (aF (aJ (aG (v:=zS a1 e.length c2) ?_))));obtain ⟨d,k,hm⟩:=aC hm
 refine aQ (vs:=[zS a1 e.length c2]) call221 rfl (aLg k i j) ?_
 rintro _ q ⟨l,a,g,h,rfl,m,n,r,o⟩
 refine aG (v:=zT #[eP a 0,zS g d.2.length h]) (aA (cJ rfl rfl) (aA (cJ rfl rfl) (aD (v:=eP a 0) (aD (v:=zS g d.2.length h) (aF (aJ (aG (v:=eP a 0) (aD (v:=eP a 0) (aF ?_)))))))));obtain rfl:=zI hm
 exact aX (aO results188 rfl ⟨l,a,rfl,m,n,o⟩)
theorem mM {is:Bool} {R:Int} (hm:xN is=some R) (b:aM G K (L) w):
  Calls prog 222 ([zB is]:List Value).toArray w (eK fun v w'=>v=i64 R/\aM G K (L) w'):=by
 refine aP func222 rfl (by kernel_rfl) (by show (1:Nat)<=4;decide) ?_;unfold xN at hm
 refine aJ (aD (v:=i64 0) (aF (aN (aJ (aG (v:=zB is) (aF ?_))))))
 rcases aH hm with ⟨a,hm⟩|⟨a,hm⟩
 ·refine aL a rfl (aJ (aD (v:=i64 1) (aF ?_)));obtain rfl:=zI hm
  exact aX (aK (aO results222 rfl ⟨rfl,b⟩))
 ·refine aI a rfl (aW (aB (aJ (aD (v:=i64 0) (aF ?_)))));obtain rfl:=zI hm
  exact aX (aO results222 rfl ⟨rfl,b⟩)
theorem aMt {c a b R:Int} (hm:aHH c a b=some R) (d:aM G K (L) w):
  Calls prog 223 ([i64 c,i64 a,i64 b]:List Value).toArray w (eK fun v w'=>v=i64 R/\aM G K (L) w'):=by
 refine aP func223 rfl (by kernel_rfl) (by show (3:Nat)<=67;decide) ?_;unfold aHH at hm
 refine aJ (aD (v:=i64 0) (aF (aN (aJ (aG (v:=i64 c) (aF (bX (aJ (aA (cK rfl rfl) (aD (v:=zB (c == 0)) (aF ?_)))))))))))
 rcases aH hm with ⟨i,hm⟩|⟨i,hm⟩
 ·refine aL i rfl (aJ (aG (v:=i64 a) (aG (v:=i64 b) (aA (cA rfl rfl) ?_))));obtain ⟨z,J,hm⟩:=aC hm
  refine aA (aIj rfl rfl J) (aD (v:=i64 z) (aF ?_));obtain rfl:=zI hm
  exact aX (aY (aK (aO results223 rfl ⟨rfl,d⟩)))
 ·refine aI i rfl (aJ (aA (cK rfl rfl) (aD (v:=zB (c == 1)) (aF ?_))))
  rcases aH hm with ⟨j,hm⟩|⟨j,hm⟩
  ·refine aL j rfl (aJ (aG (v:=i64 a) (aG (v:=i64 b) (aA (iW rfl rfl) (aA (cA rfl rfl) ?_)))));obtain ⟨O,q7,hm⟩:=aC hm
   refine aA (aIj rfl rfl q7) (aD (v:=i64 O) (aF ?_));obtain rfl:=zI hm
   exact aX (aY (aK (aO results223 rfl ⟨rfl,d⟩)))
  ·refine aI j rfl (aJ (aA (cK rfl rfl) (aD (v:=zB (c == 2)) (aF ?_))))
   rcases aH hm with ⟨k,hm⟩|⟨k,hm⟩
   ·refine aL k rfl (aJ (aG (v:=i64 a) (aG (v:=i64 b) (aA (R_mul rfl rfl) ?_))));obtain ⟨a2,a3,hm⟩:=aC hm
    refine aA (aIj rfl rfl a3) (aD (v:=i64 a2) (aF ?_));obtain rfl:=zI hm
    exact aX (aY (aK (aO results223 rfl ⟨rfl,d⟩)))
   ·refine aI k rfl (aJ (aA (cK rfl rfl) (aD (v:=zB (c == 3)) (aF ?_))))
    rcases aH hm with ⟨l,hm⟩|⟨l,hm⟩
    ·refine aL l rfl (aJ (aG (v:=i64 a) (aG (v:=i64 b) (aA (cK rfl rfl) ?_))));obtain ⟨a5,a6,hm⟩:=aC hm
     refine aQ (vs:=[zB (a == b)]) call222 rfl (mM a6 d) ?_
     rintro _ d8 ⟨rfl,a7⟩
     refine aD (v:=i64 a5) (aF ?_);obtain rfl:=zI hm
     exact aX (aY (aK (aO results223 rfl ⟨rfl,a7⟩)))
    ·refine aI l rfl (aJ (aA (cK rfl rfl) (aD (v:=zB (c == 4)) (aF ?_))))
     rcases aH hm with ⟨m,hm⟩|⟨m,hm⟩
     ·refine aL m rfl (aJ (aG (v:=i64 a) (aG (v:=i64 b) (aA (fV rfl rfl) ?_))));obtain ⟨a9,b0,hm⟩:=aC hm
      refine aQ (vs:=[zB (a != b)]) call222 rfl (mM b0 d) ?_
      rintro _ d9 ⟨rfl,b1⟩
      refine aD (v:=i64 a9) (aF ?_);obtain rfl:=zI hm
      exact aX (aY (aK (aO results223 rfl ⟨rfl,b1⟩)))
     ·refine aI m rfl (aJ (aA (cK rfl rfl) (aD (v:=zB (c == 5)) (aF ?_))))
      rcases aH hm with ⟨n,hm⟩|⟨n,hm⟩
      ·refine aL n rfl (aJ (aG (v:=i64 a) (aG (v:=i64 b) (aA (cF rfl rfl) ?_))));obtain ⟨b3,b4,hm⟩:=aC hm
       refine aQ (vs:=[zB (decide (a < b))]) call222 rfl (mM b4 d) ?_
       rintro _ e0 ⟨rfl,b5⟩
       refine aD (v:=i64 b3) (aF ?_);obtain rfl:=zI hm
       exact aX (aY (aK (aO results223 rfl ⟨rfl,b5⟩)))
      ·refine aI n rfl (aJ (aA (cK rfl rfl) (aD (v:=zB (c == 6)) (aF ?_))))
       rcases aH hm with ⟨o,hm⟩|⟨o,hm⟩
       ·refine aL o rfl (aJ (aG (v:=i64 a) (aG (v:=i64 b) (aA (vR rfl rfl) ?_))));obtain ⟨b7,b8,hm⟩:=aC hm
        refine aQ (vs:=[zB (decide (a<=b))]) call222 rfl (mM b8 d) ?_
        rintro _ e1 ⟨rfl,b9⟩
        refine aD (v:=i64 b7) (aF ?_);obtain rfl:=zI hm
        exact aX (aY (aK (aO results223 rfl ⟨rfl,b9⟩)))
       ·refine aI o rfl (aJ (aA (cK rfl rfl) (aD (v:=zB (c == 7)) (aF ?_))))
        rcases aH hm with ⟨p,hm⟩|⟨p,hm⟩
        ·refine aL p rfl (aN (cP [] (fun f w=>∃ q,aDj q=some R/\f 6=i64 q/\aM G K (L) w) ?_ ?_))
         ·rintro f e2 ⟨q,hm,c2,c3⟩
          unfold aDj at hm
          refine aB ?_;obtain rfl:=zI hm
          exact aX (aY (aK (aO results223 rfl ⟨c2,c3⟩)))
         refine aU (aG (v:=i64 a) (aA (fV rfl rfl) (aG (v:=zB (a != 0)) ?_)))
         rcases aH hm with ⟨e,hm⟩|⟨e,hm⟩
         ·refine bB e rfl rfl (aG (v:=i64 b) (bB e rfl rfl (aA (fV rfl rfl) (aA (bI (v:=zB (b != 0)) e rfl rfl) ?_))));obtain ⟨t,c6,hm⟩:=aC hm
          refine aQ (vs:=[zB (b != 0)]) call222 rfl (mM c6 d) ?_
          rintro _ e3 ⟨rfl,c7⟩
          exact aD (v:=i64 t) (aF ⟨aT,t,hm,rfl,c7⟩)
         ·refine aV e rfl rfl (aV e rfl rfl (aA (bL (v:=zB false) e rfl rfl) ?_));obtain ⟨u,c8,hm⟩:=aC hm
          refine aQ (vs:=[zB false]) call222 rfl (mM c8 d) ?_
          rintro _ e4 ⟨rfl,d0⟩
          exact aD (v:=i64 u) (aF ⟨aT,u,hm,rfl,d0⟩)
        ·refine aI p rfl (aW (bH (aB (aN (cP [] (fun f w=>∃ r,aDk r=some R/\f 6=i64 r/\aM G K (L) w) ?_ ?_)))))
         ·rintro f e5 ⟨r,hm,d1,d2⟩
          unfold aDk at hm
          refine aB ?_;obtain rfl:=zI hm
          exact aX (aO results223 rfl ⟨d1,d2⟩)
         refine aU (aG (v:=i64 a) (aA (fV rfl rfl) (aG (v:=zB (a != 0)) ?_)))
         rcases aH hm with ⟨h,hm⟩|⟨h,hm⟩
         ·refine aR h rfl rfl (aR h rfl rfl (aA (bI (v:=zB true) h rfl rfl) ?_));obtain ⟨x,d4,hm⟩:=aC hm
          refine aQ (vs:=[zB true]) call222 rfl (mM d4 d) ?_
          rintro _ e6 ⟨rfl,d5⟩
          exact aD (v:=i64 x) (aF ⟨aT,x,hm,rfl,d5⟩)
         ·refine bD h rfl rfl (aG (v:=i64 b) (bD h rfl rfl (aA (fV rfl rfl) (aA (bL (v:=zB (b != 0)) h rfl rfl) ?_))));obtain ⟨y,d6,hm⟩:=aC hm
          refine aQ (vs:=[zB (b != 0)]) call222 rfl (mM d6 d) ?_
          rintro _ e7 ⟨rfl,d7⟩
          exact aD (v:=i64 y) (aF ⟨aT,y,hm,rfl,d7⟩)
theorem aIa {rec_:(Tr bS)->(List Int)->Option Int} (g:∀ {G:qG} {K:Hp} {L:List iU} {w:World} {x_:(Tr bS)} {a1:Option Addr} {c:(List Int)} {a3:Option Addr} {c4:Nat} {R:Int} (hm:rec_ x_ c=some R) (a:aM G K (L) w) (k:trd K x_ a1) (d:bY K a3 c4 c),
  Calls prog 189 ([eP a1 0,zS a3 c.length c4]:List Value).toArray w (eK fun v w'=>v=i64 R/\aM G K (L) w'))
  {G:qG} {K:Hp} {L:List iU} {w:World} {x_:(Tr bS)} {a1:Option Addr} {c:(List Int)} {a3:Option Addr} {c4:Nat} {R:Int} (hm:jW rec_ x_ c=some R) (a:aM G K (L) w) (k:trd K x_ a1) (d:bY K a3 c4 c):
  Calls prog 189 ([eP a1 0,zS a3 c.length c4]:List Value).toArray w (eK fun v w'=>v=i64 R/\aM G K (L) w'):=by
 refine aP func189 rfl (by kernel_rfl) (by show (2:Nat)<=61;decide) ?_;unfold jW at hm
 refine aJ (aD (v:=i64 0) (aF (aN (aJ (aG (v:=eP a1 0) ?_)))));obtain ⟨u,x,b,e⟩:=trd.el k
 replace b:iG K a1 0 [i64 x_.val.Kind,i64 x_.val.Value,zS u x_.kids.length x]:=b
 refine aA (eR rfl b) (aA (cH (k':=0+0) aIV rfl b rfl) (aA (cH (k':=0+0) vT rfl b rfl) (aA (cC (t:=0) dC a b rfl rfl) (aF (bX (aJ (aA (cK rfl rfl) (aD (v:=zB (x_.val.Kind == 0)) (aF ?_)))))))))
 rcases aH hm with ⟨h,hm⟩|⟨h,hm⟩
 ·refine aL h rfl (aJ (aG (v:=eP a1 0) (aA (eR rfl b) (aA (cH (k':=0+0) aIV rfl b rfl) (aA (cH (k':=0+1) kL rfl b rfl) (aA (cC (t:=1) dC a b rfl rfl) (aD (v:=i64 x_.val.Value) (aF ?_))))))));obtain rfl:=zI hm
  exact aX (aY (aK (aO results189 rfl ⟨rfl,a⟩)))
 ·refine aI h rfl (aJ (aA (cK rfl rfl) (aD (v:=zB (x_.val.Kind == 1)) (aF ?_))))
  rcases aH hm with ⟨i,hm⟩|⟨i,hm⟩
  ·refine aL i rfl (aJ (aG (v:=zS a3 c.length c4) (aG (v:=eP a1 0) (aA (eR rfl b) (aA (cH (k':=0+0) aIV rfl b rfl) (aA (cH (k':=0+1) kL rfl b rfl) (aA (cC (t:=1) dC a b rfl rfl) ?_)))))));obtain ⟨z,l,hm⟩:=aC hm
   refine aA (cG fN rfl d rfl rfl rfl l) ?_;obtain ⟨c9,J,V⟩:=bY.el (sz:=1) rfl d l
   cases V
   refine aA (cC (t:=0) dC a J rfl rfl) (aD (v:=i64 z) (aF ?_));obtain rfl:=zI hm
   exact aX (aY (aK (aO results189 rfl ⟨rfl,a⟩)))
  ·refine aI i rfl (aJ (aA (cK rfl rfl) (aD (v:=zB (x_.val.Kind == 3)) (aF ?_))))
   rcases aH hm with ⟨j,hm⟩|⟨j,hm⟩
   ·refine aL j rfl (aJ (aG (v:=eP a1 0) (aA (eR rfl b) (aA (cH (k':=0+2) aGT rfl b rfl) (aA (cC (t:=2) aOB a b rfl rfl) ?_)))));obtain ⟨d0,m,hm⟩:=aC hm
    refine aA (cG aMa rfl e rfl rfl rfl m) ?_;obtain ⟨d1,a0,a2⟩:=bY.el (sz:=1) rfl e m
    obtain ⟨a4,rfl,a5⟩:=a2
    refine aA (cC (t:=0) sc_246 a a0 rfl rfl) (aG (v:=zS a3 c.length c4) ?_);obtain ⟨a7,a8,hm⟩:=aC hm
    refine aQ (vs:=[eP a4 0,zS a3 c.length c4]) call189 rfl (g a8 a a5 d) ?_
    rintro _ d2 ⟨rfl,a9⟩
    refine aA (cK rfl rfl) ?_;obtain ⟨b0,b1,hm⟩:=aC hm
    refine aQ (vs:=[zB (a7 == 0)]) call222 rfl (mM b1 a9) ?_
    rintro _ d3 ⟨rfl,b2⟩
    refine aD (v:=i64 b0) (aF ?_);obtain rfl:=zI hm
    exact aX (aY (aK (aO results189 rfl ⟨rfl,b2⟩)))
   ·refine aI j rfl (aW (bH (aB (aN (dU (C:=fun w'=>aM G K (L) w') cI (by kernel_rfl) (aM.mono a (eH.drew _)) (bG (fun _ a=>bP (v:=eP a1 0) rfl) (bG (fun _ a=>eR rfl b) (bG (fun _ a=>cH (k':=0+0) aIV rfl b rfl) (bG (fun _ a=>cH (k':=0+1) kL rfl b rfl) (bG (fun _ a=>cC (t:=1) dC a b rfl rfl) (bG (fun _ a=>bP (v:=eP a1 0) rfl) (bG (fun _ a=>eR rfl b) (bG (fun _ a=>cH (k':=0+2) aGT rfl b rfl) (bG (fun _ a=>cC (t:=2) aOB a b rfl rfl) ?_))))))))))))))
    obtain ⟨d4,n,hm⟩:=aC hm
    refine bG (fun _ a=>cG aMa rfl e rfl rfl rfl n) ?_;obtain ⟨d5,b4,b5⟩:=bY.el (sz:=1) rfl e n
    obtain ⟨b6,rfl,b7⟩:=b5
    refine bG (fun _ a=>cC (t:=0) sc_246 a b4 rfl rfl) (bG (fun _ a=>bP (v:=zS a3 c.length c4) rfl) ?_);obtain ⟨o,b8,hm⟩:=aC hm
    refine eU (vs:=[eP b6 0,zS a3 c.length c4]) (v:=i64 o) call189 rfl (fun _ a=>(g b8 a b7 d)) (bG (fun _ a=>bP (v:=eP a1 0) rfl) (bG (fun _ a=>eR rfl b) (bG (fun _ a=>cH (k':=0+2) aGT rfl b rfl) (bG (fun _ a=>cC (t:=2) aOB a b rfl rfl) ?_))));obtain ⟨d6,p,hm⟩:=aC hm
    refine bG (fun _ a=>cG aMa rfl e rfl rfl rfl p) ?_;obtain ⟨d7,b9,c0⟩:=bY.el (sz:=1) rfl e p
    obtain ⟨c1,rfl,c2⟩:=c0
    refine bG (fun _ a=>cC (t:=0) sc_246 a b9 rfl rfl) (bG (fun _ a=>bP (v:=zS a3 c.length c4) rfl) ?_);obtain ⟨q,c3,hm⟩:=aC hm
    refine eU (vs:=[eP c1 0,zS a3 c.length c4]) (v:=i64 q) call189 rfl (fun _ a=>(g c3 a c2 d)) ?_;obtain ⟨r,c5,hm⟩:=aC hm
    refine eU (vs:=[i64 x_.val.Value,i64 o,i64 q]) (v:=i64 r) call223 rfl (fun _ a=>(aMt c5 a)) (bG (fun _ a=>fG (v:=i64 r) rfl) (eT (fun d8 c6=>(aB ?_))));obtain rfl:=zI hm
    exact aX (aO results189 rfl ⟨rfl,c6⟩)
theorem aIb (n:Nat):∀ {G:qG} {K:Hp} {L:List iU} {w:World} {x_:(Tr bS)} {a1:Option Addr} {a:(List Int)} {a3:Option Addr} {c4:Nat} {R:Int} (hm:jX n x_ a=some R) (b:aM G K (L) w) (c:trd K x_ a1) (d:bY K a3 c4 a),
  Calls prog 189 ([eP a1 0,zS a3 a.length c4]:List Value).toArray w (eK fun v w'=>v=i64 R/\aM G K (L) w'):=by
 induction n with
 |zero=>
  intro G K L w x_ a1 a a3 c4 R hm b c d
  unfold jX at hm
  cases hm
 |succ n ih=>
  intro G K L w x_ a1 a a3 c4 R hm b c d
  exact aIa (rec_:=jX n) (fun hm b c d=>ih hm b c d) hm b c d
theorem aJn {x_:(Tr bS)} {values:(List Int)} {R:Int} (hm:aGc x_ values=some R) (hs:aM G K (L) w) (h2:trd K x_ a1) (h5:bY K a3 c4 values):
  Calls prog 189 ([eP a1 0,zS a3 values.length c4]:List Value).toArray w (eK fun v w'=>v=i64 R/\aM G K (L) w'):=aIb 100000 hm hs h2 h5
theorem aGy {e:(List bS)} {a:(List Int)} {R:Int} (hm:yG e a=some R) (c:aM G K (L) w) (d:bY K a1 c2 e) (g:bY K a4 c5 a):
  Calls prog 155 ([zS a1 e.length c2,zS a4 a.length c5]:List Value).toArray w (eK fun v w'=>v=i64 R/\aM G K (L) w'):=by
 refine aP func155 rfl (by kernel_rfl) (by show (2:Nat)<=9;decide) ?_;unfold yG at hm
 refine aJ (aD (v:=i64 0) (aF (aJ (aG (v:=zS a1 e.length c2) ?_))));obtain ⟨p,h,hm⟩:=aC hm
 refine aQ (vs:=[zS a1 e.length c2]) call188 rfl (aPK h c d) ?_
 rintro _ q ⟨r,i,rfl,b,j,k⟩
 refine aG (v:=zS a4 a.length c5) ?_;obtain ⟨l,m,hm⟩:=aC hm
 refine aQ (vs:=[eP i 0,zS a4 a.length c5]) call189 rfl (aJn m k j (g.mono b)) ?_
 rintro _ t ⟨rfl,n⟩
 refine aD (v:=i64 l) (aF ?_);obtain rfl:=zI hm
 exact aX (aO results155 rfl ⟨rfl,(aM.weakK n b)⟩)
theorem aEc {b:(List (List bS))} {c R:(List Int)} (hm:sJ b c=some R) (hs:aM G K (L) w) (z:bY K a1 c2 b) (h6:bY K a4 c5 c):
  Calls prog 152 ([zS a1 b.length c2,zS a4 c.length c5]:List Value).toArray w (eK fun v w'=>∃ J V,v=zS J R.length V/\aM G K (bN 2 K J V R::L) w'):=by
 refine aP func152 rfl (by kernel_rfl) (by show (2:Nat)<=22;decide) ?_;unfold sJ at hm
 refine aJ (aD (v:=zS none 0 0) (aF (aJ (aD (v:=zS none 0 0) (aF (aN (aJ (aG (v:=zS a1 b.length c2) (aA (bO (len:=b.length) lE rfl) (aG (v:=i64 0) (aF (bM [] (fun f w=>∃ d e g,vB d=some R/\f 5=zS e d.length g/\aM G K (bN 2 K e g d::L) w) ?_ ?_))))))))))))
 ·rintro f c6 ⟨d,e,g,hm,a6,a7⟩
  unfold vB at hm
  refine aB (aJ (bF a6 (aD (v:=zS e d.length g) (aF ?_))));obtain rfl:=zI hm
  exact aX (aO results152 rfl ⟨e,g,rfl,a7⟩)
 have b0:=aM.nil (α:=Int) hs 2 K
 obtain ⟨c7,b1,ho⟩:=aC hm
 refine dD [1,8,9] b1 (fun a m f w=>∃ j k,f 5=zS j a.length k/\f 10=i64 m/\aM G K (bN 2 K j k a::L) w) ?_ ?_
 ·exact ⟨none,0,rfl,rfl,b0⟩
 ·rintro a m c8 f d0 hm hr ⟨j,k,O,n,o⟩
  unfold pW at hm
  refine aJ (aA (cF n rfl) (aF (aN ?_)))
  rcases aH hm with ⟨p,hm⟩|⟨p,hm⟩
  ·refine aL p rfl (aW (aB (aN (bX (aJ ?_)))));obtain ⟨q,a0,hm⟩:=aC hm
   refine aA (cG lE rfl z rfl rfl n a0) ?_;obtain ⟨d1,b2,b3⟩:=bY.el (sz:=1) rfl z a0
   obtain ⟨r,u,rfl,b4⟩:=b3
   refine aA (cC (t:=0) aFP o b2 rfl rfl) (aD (v:=zS r q.length u) (aF (aU (bF O (aG (v:=zS r q.length u) (aG (v:=zS a4 c.length c5) ?_))))));obtain ⟨l,b5,hm⟩:=aC hm
   refine aQ (vs:=[zS r q.length u,zS a4 c.length c5]) call155 rfl (aGy b5 o b4 h6) ?_
   rintro _ d2 ⟨rfl,b6⟩
   refine gA (Kt:=K) (xs:=([l]:List Int)) (cs:=[i64 l]) (vs:=[(0,i64 l)]) fN aFe rfl rfl b6 rfl (by kernel_rfl) rfl rfl rfl ⟨rfl,trivial⟩ (fun b7 b8 (b9:aM G K (bN 2 K b7 1 ([l]:List Int)::bN 2 K j k a::L) b8)=>?_);obtain ⟨a2,c0,hm⟩:=aC hm
   exact qM (i:=0) fN underlying68 aFe rfl rfl b9 rfl (zR _) (zR _) c0 rfl rfl rfl rfl (fun _ h=>h) (fun x y c1 (c3:aM G K (bN 2 K x y a2::L) c1)=>(aD (v:=zS x a2.length y) (cW (bH (aB (aU (aA (cA n rfl) (aG (v:=i64 (wr (m+1))) (aF ⟨_,(zI hm).symm,aT,x,y,rfl,rfl,c3⟩)))))))))
  ·refine aI p rfl (cD (bA (bA ?_)))
   have c4:=hr _ (zI hm).symm
   subst c4
   have hm:(vB a)=some R:=ho
   clear hr ho
   exact bR (aB ⟨aT,a,j,k,hm,O,o⟩)
theorem aKh {n:Int} {R:Bool} (hm:aEE n=some R) (a:aM G K (L) w):
  Calls prog 268 ([i64 n]:List Value).toArray w (eK fun v w'=>v=zB R/\aM G K (L) w'):=by
 refine aP func268 rfl (by kernel_rfl) (by show (1:Nat)<=6;decide) ?_;unfold aEE at hm
 refine aJ (aD (v:=zB false) (aF (aJ (aG (v:=i64 n) ?_))));obtain ⟨b,c,hm⟩:=aC hm
 refine aQ (vs:=[i64 n,i64 (-1000000000000),i64 1000000000000]) call58 rfl (fK c a) ?_
 rintro _ g ⟨rfl,d⟩
 refine aA (dA rfl) (aD (v:=zB (!b)) (aF ?_));obtain rfl:=zI hm
 exact aX (aO results268 rfl ⟨rfl,d⟩)
theorem rY {s_:(List Int)} {R:Int} (hm:gO s_=some R) (k:aM G K (L) w) (g:bY K a1 c2 s_):
  Calls prog 219 ([zS a1 s_.length c2,Value.func (.func 268) #[] #[]]:List Value).toArray w (eK fun v w'=>v=i64 R/\aM G K (L) w'):=by
 refine aP func219 rfl (by kernel_rfl) (by show (2:Nat)<=19;decide) ?_;unfold gO at hm
 refine aJ (aD (v:=i64 0) (aF (aN (aJ (aG (v:=zS a1 s_.length c2) (aA (bO (len:=s_.length) fN rfl) (aG (v:=i64 0) (aF (bM [] (fun f w=>fY=some R/\aM G K (L) w) ?_ ?_)))))))))
 ·rintro f y ⟨hm,l⟩
  unfold fY at hm
  refine aB (aJ (aD (v:=i64 (-1)) (aF ?_)));obtain rfl:=zI hm
  exact aX (aO results219 rfl ⟨rfl,l⟩)
 obtain ⟨z,n,ho⟩:=aC hm
 refine dP [0,1,7] n (fun a f w=>f 8=i64 a/\aM G K (L) w) ?_ ?_
 ·exact ⟨rfl,k⟩
 ·rintro a J f V hm hr ⟨b,c⟩
  unfold fC at hm
  refine aJ (aA (cF b rfl) (aF (aN ?_)))
  rcases aH hm with ⟨d,hm⟩|⟨d,hm⟩
  ·refine aL d rfl (aW (aB (aN (bX (aJ (bF b (aD (v:=i64 a) (aF (aJ (aG (v:=Value.func (.func 268) #[] #[]) (aG (v:=zS a1 s_.length c2) (aG (v:=i64 a) ?_))))))))))));obtain ⟨h,i,hm⟩:=aC hm
   refine aA (cG fN rfl g rfl rfl rfl i) ?_;obtain ⟨O,o,p⟩:=bY.el (sz:=1) rfl g i
   cases p
   refine aA (cC (t:=0) dC c o rfl rfl) ?_;obtain ⟨a0,q,hm⟩:=aC hm
   refine sZ (vs:=[i64 h]) (caps:=[]) (us:=[i64 h]) rfl call268 rfl rfl (aKh q c) ?_
   rintro _ a2 ⟨rfl,j⟩
   refine aF ?_
   rcases aH hm with ⟨e,hm⟩|⟨e,hm⟩
   ·refine aL e rfl (aJ (aG (v:=i64 a) (aD (v:=i64 a) (aF (aX (aY (aK (aK ?_))))))))
    have r:=hr _ (zI hm).symm
    subst r
    have hm:(some a)=some R:=ho
    clear hr ho
    obtain rfl:=zI hm
    exact aY (aK (aK (aO results219 rfl ⟨rfl,j⟩)))
   ·exact aI e rfl (aW (bH (aB (aU (aA (cA b rfl) (aG (v:=i64 (wr (a+1))) (aF ⟨_,(zI hm).symm,aT,rfl,j⟩)))))))
  ·refine aI d rfl (cD (bA (bA ?_)))
   have x:=hr _ (zI hm).symm
   subst x
   have hm:(fY)=some R:=ho
   clear hr ho
   exact bR (aB ⟨aT,hm,c⟩)
theorem qC {s_:(List Int)} {R:Bool} (hm:fD s_=some R) (a:aM G K (L) w) (b:bY K a1 c2 s_):
  Calls prog 183 ([zS a1 s_.length c2,Value.func (.func 268) #[] #[]]:List Value).toArray w (eK fun v w'=>v=zB R/\aM G K (L) w'):=by
 refine aP func183 rfl (by kernel_rfl) (by show (2:Nat)<=9;decide) ?_;unfold fD at hm
 refine aJ (aD (v:=zB false) (aF (aJ (aG (v:=zS a1 s_.length c2) (aG (v:=Value.func (.func 268) #[] #[]) ?_)))));obtain ⟨c,d,hm⟩:=aC hm
 refine aQ (vs:=[zS a1 s_.length c2,Value.func (.func 268) #[] #[]]) call219 rfl (rY d a b) ?_
 rintro _ h ⟨rfl,e⟩
 refine aA (sO rfl rfl) (aD (v:=zB (decide (0<=c))) (aF ?_));obtain rfl:=zI hm
 exact aX (aO results183 rfl ⟨rfl,e⟩)
theorem aNc {b:(List Int)} {R:Bool} (hm:aGW b=some R) (e:aM G K (L) w) (h:bY K a1 c2 b):
  Calls prog 258 ([zS a1 b.length c2]:List Value).toArray w (eK fun v w'=>v=zB R/\aM G K (L) w'):=by
 refine aP func258 rfl (by kernel_rfl) (by show (1:Nat)<=11;decide) ?_;unfold aGW at hm
 refine aJ (aD (v:=zB false) (aF (aN (cP [] (fun f w=>∃ c,aEF c=some R/\f 2=zB c/\aM G K (L) w) ?_ ?_))))
 ·rintro f n ⟨c,hm,i,j⟩
  unfold aEF at hm
  refine aB ?_;obtain rfl:=zI hm
  exact aX (aO results258 rfl ⟨i,j⟩)
 refine aU (aG (v:=zS a1 b.length c2) (aA (bO (len:=b.length) fN rfl) (aA (vR rfl rfl) (aG (v:=zB (decide ((b.length:Int)<=64))) ?_))))
 rcases aH hm with ⟨a,hm⟩|⟨a,hm⟩
 ·refine bB a rfl rfl (aG (v:=zS a1 b.length c2) (bB a rfl rfl ?_));obtain ⟨d,l,hm⟩:=aC hm
  refine aQ (vs:=[zS a1 b.length c2,Value.func (.func 268) #[] #[]]) call183 rfl (qC l e h) ?_
  rintro _ o ⟨rfl,m⟩
  exact bB a rfl rfl (aA (dA rfl) (aA (bI (v:=zB (!d)) a rfl rfl) (aD (v:=zB (!d)) (aF ⟨aT,!d,hm,rfl,m⟩))))
 ·exact aV a rfl rfl (aV a rfl rfl (aV a rfl rfl (aA (bL (v:=zB false) a rfl rfl) (aD (v:=zB false) (aF ⟨aT,false,hm,rfl,e⟩)))))
theorem aLh {a:(List Int)} {R:bJ} (hm:aDT a=some R) (g:aM G K (L) w) (h:G.lo=0) (e:bY K a1 c2 a):
  Calls prog 234 ([zS a1 a.length c2]:List Value).toArray w (eK fun v w'=>v=bE R/\aM G K (L) w'):=by
 refine aP func234 rfl (by kernel_rfl) (by show (1:Nat)<=13;decide) ?_;unfold aDT at hm
 refine aJ (aD (v:=bE ([]:bJ)) (aF (aN (bX (aJ (aG (v:=zS a1 a.length c2) ?_))))));obtain ⟨i,j,hm⟩:=aC hm
 refine aQ (vs:=[zS a1 a.length c2]) call258 rfl (aNc j g e) ?_
 rintro _ q ⟨rfl,b⟩
 refine aA (dA rfl) (aD (v:=zB (!i)) (aF ?_))
 rcases aH hm with ⟨c,hm⟩|⟨c,hm⟩
 ·refine aL c rfl (aJ (aD (v:=bE ([]:bJ)) (aF ?_)));obtain rfl:=zI hm
  exact aX (aY (aK (aO results234 rfl ⟨rfl,b⟩)))
 ·refine aI c rfl (aJ (aG (v:=zS a1 a.length c2) (aA (bO (len:=a.length) fN rfl) (aA (cK rfl rfl) (aD (v:=zB ((a.length:Int) == 0)) (aF ?_))))))
  rcases aH hm with ⟨d,hm⟩|⟨d,hm⟩
  ·refine aL d rfl (aJ (aD (v:=bE ([45]:bJ)) (aF ?_)));obtain rfl:=zI hm
   exact aX (aY (aK (aO results234 rfl ⟨rfl,b⟩)))
  ·refine aI d rfl (aW (bH (aB (aJ (aG (v:=zS a1 a.length c2) ?_)))));obtain ⟨m,n,hm⟩:=aC hm
   refine aQ (vs:=[zS a1 a.length c2,bE ([44]:bJ)]) call160 rfl (aIp n b h e) ?_
   rintro _ r ⟨rfl,o⟩
   refine aD (v:=bE m) (aF ?_);obtain rfl:=zI hm
   exact aX (aO results234 rfl ⟨rfl,o⟩)
theorem aKi {p:aZ} {R:bJ} (hm:aEG p=some R) (c:aM G K (L) w) (d:G.lo=0) (e:bY K a1 c2 p.Values):
  Calls prog 197 ([zA #[i64 p.Definition,i64 p.Part,zS a1 p.Values.length c2]]:List Value).toArray w (eK fun v w'=>v=bE R/\aM G K (L) w'):=by
 let b:=[i64 p.Definition,i64 p.Part,zS a1 p.Values.length c2]
 refine aP func197 rfl (by kernel_rfl) (by show (1:Nat)<=11;decide) ?_;unfold aEG at hm
 refine aJ (dM (v:=zA #[i64 p.Definition,i64 p.Part,zS a1 p.Values.length c2]) (vs:=b) c rfl rfl (fun g t a=>(aD (v:=bE ([]:bJ)) (aF (aN (dU (C:=fun w'=>aM G K (box g 70 b::L) w') cI (by kernel_rfl) (aM.mono a (eH.drew _)) (bG (fun _ a=>bC (t':=1) aBy rfl rfl) (bG (fun _ a=>bQ dC a (i:=0) rfl rfl rfl) ?_))))))));obtain ⟨h,j,hm⟩:=aC hm
 refine eU (vs:=[i64 p.Part]) (v:=bE h) call86 rfl (fun _ a=>(uG a j)) ?_;obtain ⟨u,k,hm⟩:=aC hm
 refine bG (fun _ a=>qH rfl rfl k) (bG (fun _ a=>bC (t':=2) xD rfl rfl) (bG (fun _ a=>bQ vL a (i:=0) rfl rfl rfl) ?_));obtain ⟨l,m,hm⟩:=aC hm
 refine eU (vs:=[zS a1 p.Values.length c2]) (v:=bE l) call234 rfl (fun _ a=>(aLh m a d e)) ?_;obtain ⟨n,o,hm⟩:=aC hm
 refine bG (fun _ a=>qH rfl rfl o) (bG (fun _ a=>fG (v:=bE n) rfl) (eT (fun x q=>(aB ?_))));obtain rfl:=zI hm
 exact aX (aO results197 rfl ⟨rfl,(aM.arr 1 [] q rfl)⟩)
theorem aGz {p:aZ} {R:bJ} (hm:aBm p=some R) (c:aM G K (L) w) (d:G.lo=0) (e:bY K a1 c2 p.Values):
  Calls prog 162 ([zA #[i64 p.Definition,i64 p.Part,zS a1 p.Values.length c2]]:List Value).toArray w (eK fun v w'=>v=bE R/\aM G K (L) w'):=by
 let b:=[i64 p.Definition,i64 p.Part,zS a1 p.Values.length c2]
 refine aP func162 rfl (by kernel_rfl) (by show (1:Nat)<=10;decide) ?_;unfold aBm at hm
 refine aJ (dM (v:=zA #[i64 p.Definition,i64 p.Part,zS a1 p.Values.length c2]) (vs:=b) c rfl rfl (fun g t a=>(aD (v:=bE ([]:bJ)) (aF (aN (dU (C:=fun w'=>aM G K (box g 70 b::L) w') cI (by kernel_rfl) (aM.mono a (eH.drew _)) (bG (fun _ a=>bC (t':=0) aBx rfl rfl) (bG (fun _ a=>bQ dC a (i:=0) rfl rfl rfl) ?_))))))));obtain ⟨h,j,hm⟩:=aC hm
 refine eU (vs:=[i64 p.Definition]) (v:=bE h) call86 rfl (fun _ a=>(uG a j)) ?_;obtain ⟨u,k,hm⟩:=aC hm
 refine bG (fun _ a=>qH rfl rfl k) (bG (fun _ a=>fQ (us:=b) vM a (i:=0) rfl rfl rfl rfl) ?_);obtain ⟨l,m,hm⟩:=aC hm
 refine eU (vs:=[zA #[i64 p.Definition,i64 p.Part,zS a1 p.Values.length c2]]) (v:=bE l) call197 rfl (fun _ a=>(aKi m a d e)) ?_;obtain ⟨n,o,hm⟩:=aC hm
 refine bG (fun _ a=>qH rfl rfl o) (bG (fun _ a=>fG (v:=bE n) rfl) (eT (fun x q=>(aB ?_))));obtain rfl:=zI hm
 exact aX (aO results162 rfl ⟨rfl,(aM.arr 1 [] q rfl)⟩)
theorem gW {s_ R:(List Int)} (hm:dH s_=some R) (c:aM G K (L) w) (d:bY K a1 c2 s_):
  Calls prog 61 ([zS a1 s_.length c2]:List Value).toArray w (eK fun v w'=>∃ e g,v=zS e R.length g/\aM G K (bN 2 K e g R::L) w'):=by
 refine aP func61 rfl (by kernel_rfl) (by show (1:Nat)<=8;decide) ?_;unfold dH at hm
 refine aJ (aD (v:=zS none 0 0) (aF (aN (aJ (aG (v:=zS a1 s_.length c2) (aA (R_isNil fN rfl rfl) (aF ?_)))))))
 rcases nil_cases d with ⟨j,k,l⟩|m
 ·subst j;subst k;subst l
  refine W_cond_t rfl ?_
  replace hm:(some [])=some R:=hm
  refine aJ (aD (v:=zS none 0 0) (aF ?_))
  have n:=aM.nil (α:=Int) c 2 K
  obtain rfl:=zI hm
  exact aX (aK (aO results61 rfl ⟨none,0,rfl,n⟩))
 ·refine W_cond_f (Eq.trans rfl (congrArg zB m)) (aW (aB (aJ (gA (Kt:=K) (xs:=([]:List Int)) (cs:=[]) (vs:=[]) fN aFe rfl rfl c rfl (by kernel_rfl) rfl rfl rfl trivial (fun p q (r:aM G K (bN 2 K p 0 ([]:List Int)::L) q)=>(aG (v:=zS a1 s_.length c2) ?_))))));obtain ⟨h,t,hm⟩:=aC hm
  refine aOl (i:=0) fN underlying68 aFe rfl rfl r rfl (zR _) d t rfl rfl rfl rfl (fun a b u (x:aM G K (bN 2 K a b h::L) u)=>(aD (v:=zS a h.length b) (aF ?_)));obtain rfl:=zI hm
  exact aX (aO results61 rfl ⟨a,b,rfl,x⟩)
theorem aGk {c:(List Definition)} {d:(List cM)} {p:(List (bJ × Bool))} {a:Nat} {s_:cM} {R:((List cM) × (List (bJ × Bool)))} (hm:iX c d p s_=some R) (hs:aM G K (bN 127 Kf a5 c6 d::mN a p::box b1 174 [zS a2 c.length c3,zS a5 d.length c6,Value.map (some a)]::L) w) (hG:G.lo=0) (a7:Hp.le Kf K) (h4:bY K a2 c3 c) (y:bY Kf a8 c9 s_.Next.Values):
  Calls prog 153 ([zP (some ⟨b1,0,none⟩),zA #[bE s_.B,i64 s_.Next.Definition,i64 s_.Next.Part,zS a8 s_.Next.Values.length c9]]:List Value).toArray w (eK fun v w'=>∃ J V,v=zT #[]/\aM G K (bN 127 Kf J V R.1::mN a R.2::box b1 174 [zS a2 c.length c3,zS J R.1.length V,Value.map (some a)]::L) w'):=by
 let e:=[bE s_.B,i64 s_.Next.Definition,i64 s_.Next.Part,zS a8 s_.Next.Values.length c9]
 let O:=[zS a2 c.length c3,zS a5 d.length c6,Value.map (some a)]
 refine aP func153 rfl (by kernel_rfl) (by show (2:Nat)<=34;decide) ?_;unfold iX at hm
 refine aJ (dM (v:=zA #[bE s_.B,i64 s_.Next.Definition,i64 s_.Next.Part,zS a8 s_.Next.Values.length c9]) (vs:=e) hs rfl rfl (fun r d8 b=>(aF (aN (dU (C:=fun w'=>aM G K (box r 127 e::bN 127 Kf a5 c6 d::mN a p::box b1 174 O::L) w') cI (by kernel_rfl) (aM.mono b (eH.drew _)) (bG (fun _ b=>bC (t':=0) tA rfl rfl) (bG (fun _ b=>bQ fA b (i:=0) rfl rfl rfl) ?_)))))));obtain ⟨d9,a9,hm⟩:=aC hm
 refine bG (fun _ b=>qH rfl rfl a9) (bG (fun _ b=>bC (t':=1) zX rfl rfl) (bG (fun _ b=>fQ (us:=[i64 s_.Next.Definition,i64 s_.Next.Part,zS a8 s_.Next.Values.length c9]) vM b (i:=0) rfl rfl rfl rfl) ?_));obtain ⟨b0,b2,hm⟩:=aC hm
 refine eU (vs:=[zA #[i64 s_.Next.Definition,i64 s_.Next.Part,zS a8 s_.Next.Values.length c9]]) (v:=bE b0) call162 rfl (fun _ b=>(aGz b2 b hG (y.mono a7))) ?_;obtain ⟨l,b3,hm⟩:=aC hm
 refine bG (fun _ b=>qH rfl rfl b3) (bG (fun _ b=>fG (v:=bE l) rfl) (eT (fun e0 m=>(aB (aJ (aG (v:=zP (some ⟨b1,0,none⟩)) (aA (qL rfl) (aA (bC (t':=2) aPF rfl rfl) (aA (bQ aOC m (i:=3) rfl rfl rfl) (aG (v:=bE l) (aA (R_look1 (kv:=p) (k:=l) (z:=(false:Bool)) runUnderlying138 ko_9 zeroValue4 m (i:=2) rfl rfl rfl) (aA (dA rfl) (aF ?_)))))))))))))
 rcases aH hm with ⟨u,hm⟩|⟨u,hm⟩
 ·refine aL u rfl (aJ (aG (v:=zP (some ⟨b1,0,none⟩)) (aA (qL rfl) (aA (bC (t':=2) aPF rfl rfl) (aA (bQ aOC m (i:=3) rfl rfl rfl) (aG (v:=bE l) ?_))))));obtain ⟨q,b4,hm⟩:=aC hm
  refine aPx (i:=2) (k:=l) (v:=true) runUnderlying138 ko_9 m rfl rfl rfl rfl b4 (fun b5 (b6:aM G K (box r 127 e::bN 127 Kf a5 c6 d::mN a q::box b1 174 O::L) b5)=>(aF ?_));obtain ⟨e1,e2,b7,b8,b9⟩:=aM.lendBp b6 .head
  obtain ⟨x,c0,c1,a0,c2⟩:=aM.lendBp b8 zt2
  refine kT (C:=fun w'=>∃ L',aM G x L' w') [(0,0),(1,0),(2,0),(3,0),(4,0),(5,1),(6,1),(7,1),(8,2),(9,2),(10,2)] cI (by kernel_rfl) (fun _ hg=>⟨_,aM.mono a0 hg⟩) (fun e3 c4=>?_)
  have n:=aM.mono a0 c4
  refine dB rfl (fun _ _=>bP (v:=zP (some ⟨b1,0,none⟩)) rfl) (dB rfl (fun _ _=>bP (v:=zP (some ⟨b1,0,none⟩)) rfl) (dB rfl (fun _ _=>qL rfl) (dB rfl (fun _ _=>bC (t':=1) aIW rfl rfl) (dB rfl (fun _ ⟨_,n⟩=>cC (t:=1) aBg n c1 rfl rfl) (yC rfl (aA (dZ (t:=0) (vs:=e) aJV n (b7.mono c0) rfl rfl rfl) (cW (aB ⟨⟨_,n⟩,?_⟩))))))))
  refine yC rfl (gA (Kt:=Kf) (xs:=([s_]:List cM)) (cs:=e) (vs:=[(0,zA #[bE s_.B,i64 s_.Next.Definition,i64 s_.Next.Part,zS a8 s_.Next.Values.length c9])]) lY aLX rfl rfl n rfl (by kernel_rfl) rfl rfl rfl ⟨⟨a8,c9,rfl,y⟩,trivial⟩ (fun c5 c7 (a1:aM G x (bN 127 Kf c5 1 ([s_]:List cM)::bN 127 Kf a5 c6 d::mN a q::L) c7)=>(cW (aB ⟨⟨_,a1⟩,?_⟩))))
  refine yC rfl ?_;obtain ⟨o,c8,hm⟩:=aC hm
  refine aEr (i:=0) Kf lY underlying122 aLX rfl rfl a1 rfl (zR _) (zR _) c8 rfl rfl rfl rfl (fun _ _ _ h=>El.one h) (fun g j d0 (a3:aM G x (bN 127 Kf g j o::mN a q::L) d0)=>(cW (aB ⟨⟨_,a3⟩,?_⟩)))
  have d1:=c2 _ _ a3
  have d2:=b9 _ _ d1
  refine WE_s rfl (aA (qL rfl) (aF (WE_s rfl (aA (bC (t':=1) aIW rfl rfl) (aF (WE_s rfl (eD (i:=1) (ns:=[zS g o.length j]) (us:=[zS a2 c.length c3,zS g o.length j,Value.map (some a)]) sizeOf122 d2 rfl rfl rfl rfl rfl (gJ rfl) rfl rfl (fun d3 (d4:aM G K (box r 127 e::box b1 174 [zS a2 c.length c3,zS g o.length j,Value.map (some a)]::bN 127 Kf g j o::mN a q::L) d3)=>(aF (yB ?_))))))))));obtain rfl:=zI hm
  exact aHy results153 ⟨g,j,rfl,(aM.arr 4 [2,3,1] d4 rfl)⟩
 ·refine aI u rfl ?_;obtain rfl:=zI hm
  exact aW (aHy results153 ⟨a5,c6,rfl,(aM.arr 1 [] m rfl)⟩)
end Gv
namespace Gv
open Gv.Hp renaming le_refl→zR
open Go.Value renaming slice→zS,bool→zB,pointer→zP,agg→zA,tuple→zT,map→zM
open Option.some renaming inj→zI
open Gv.Hp renaming le_trans→zL
open Go Go.Proofs Go.Proofs.Tryz
set_option maxRecDepth 20000
set_option maxHeartbeats 40000000
variable {G:qG} {K Kf:Hp} {L:List iU} {w:World} {b1 c3 c6 c9 c2 c5 c8 c11 c14 c12 c15 c18 c21 c26 c29:Nat} {a2 a5 a8 a1 a4 a7 a10 a13 a11 a14 a17 a20 a25 a28:Option Addr}
theorem aER {rec_:(List Definition)->(List cM)->(List (bJ × Bool))->Int->Int->(List Int)->Option ((List cM) × (List (bJ × Bool)))} (ih:∀ {G:qG} {K:Hp} {L:List iU} {w:World} {Kf:Hp} {b1:Nat} {j:(List Definition)} {a2:Option Addr} {c3:Nat} {o:(List cM)} {a5:Option Addr} {c6:Nat} {e:(List (bJ × Bool))} {c:Nat} {k:Int} {part:Int} {g:(List Int)} {a8:Option Addr} {c9:Nat} {R:((List cM) × (List (bJ × Bool)))} (hm:rec_ j o e k part g=some R) (hs:aM G K (bN 127 Kf a5 c6 o::mN c e::box b1 174 [zS a2 j.length c3,zS a5 o.length c6,zM (some c)]::L) w) (hG:G.lo=0) (b7:Hp.le Kf K) (h4:bY K a2 c3 j) (b0:bY K a8 c9 g),
  Calls prog 111 ([zP (some ⟨b1,0,none⟩),i64 k,i64 part,zS a8 g.length c9]:List Value).toArray w (eK fun v w'=>∃ K' d2 d3,v=zT #[]/\Hp.le K K'/\aM G K' (bN 127 K' d2 d3 R.1::mN c R.2::box b1 174 [zS a2 j.length c3,zS d2 R.1.length d3,zM (some c)]::L) w'))
  {G:qG} {K:Hp} {L:List iU} {w:World} {Kf:Hp} {b1:Nat} {j:(List Definition)} {a2:Option Addr} {c3:Nat} {o:(List cM)} {a5:Option Addr} {c6:Nat} {e:(List (bJ × Bool))} {c:Nat} {k:Int} {part:Int} {g:(List Int)} {a8:Option Addr} {c9:Nat} {R:((List cM) × (List (bJ × Bool)))} (hm:dN rec_ j o e k part g=some R) (hs:aM G K (bN 127 Kf a5 c6 o::mN c e::box b1 174 [zS a2 j.length c3,zS a5 o.length c6,zM (some c)]::L) w) (hG:G.lo=0) (b7:Hp.le Kf K) (h4:bY K a2 c3 j) (b0:bY K a8 c9 g):
  Calls prog 111 ([zP (some ⟨b1,0,none⟩),i64 k,i64 part,zS a8 g.length c9]:List Value).toArray w (eK fun v w'=>∃ K' d2 d3,v=zT #[]/\Hp.le K K'/\aM G K' (bN 127 K' d2 d3 R.1::mN c R.2::box b1 174 [zS a2 j.length c3,zS d2 R.1.length d3,zM (some c)]::L) w'):=by
 let n:=[zS a2 j.length c3,zS a5 o.length c6,zM (some c)]
 let h6:=[zP (some ⟨b1,0,none⟩),i64 k,i64 (wr (part+1)),zS a8 g.length c9]
 let b9:=bN 127 Kf a5 c6 o
 let c0:=bN 127 K a5 c6 o
 refine aP func111 rfl (by kernel_rfl) (by show (4:Nat)<=118;decide) ?_;unfold dN at hm
 refine aJ (aG (v:=zP (some ⟨b1,0,none⟩)) (aA (qL rfl) (aA (bC (t':=0) fa_174_0 rfl rfl) (aA (bQ aGR hs (i:=2) rfl rfl rfl) (aG (v:=i64 k) ?_)))));obtain ⟨b,h7,hm⟩:=aC hm
 refine aA (cG jO rfl h4 rfl rfl rfl h7) ?_;obtain ⟨t7,k0,k1⟩:=bY.el (sz:=3) rfl h4 h7
 obtain ⟨l,m,rfl,d4⟩:=k1
 refine aA (dZ (t:=0) (vs:=[bE b.Name,i64 b.Parameters,zS l b.Body.length m]) aCK hs k0 rfl rfl rfl) (eA (vs:=[bE ([]:bJ),i64 0,zS none 0 0]) zeroValue104 hs rfl (fun u t8 k2=>(eD (i:=0) (ns:=[bE b.Name,i64 b.Parameters,zS l b.Body.length m]) (us:=[bE b.Name,i64 b.Parameters,zS l b.Body.length m]) sizeOf104 k2 rfl rfl rfl rfl rfl (gJ rfl) rfl rfl (fun k3 (f4:aM G K (box u 104 [bE b.Name,i64 b.Parameters,zS l b.Body.length m]::b9::mN c e::box b1 174 n::L) k3)=>(aF (aJ (aA (bC (t':=2) jJ rfl rfl) (aA (bQ qO f4 (i:=0) rfl rfl rfl) (aG (v:=i64 part) ?_)))))))))
 obtain ⟨a,h8,hm⟩:=aC hm
 refine aA (cG iH rfl d4 rfl rfl rfl h8) ?_;obtain ⟨t9,k4,k5⟩:=bY.el (sz:=4) rfl d4 h8
 obtain ⟨p,q,rfl,f5⟩:=k5
 refine aA (dZ (t:=0) (vs:=[i64 a.Kind,i64 a.Number,bE a.Name,zS p a.Arguments.length q]) yD f4 k4 rfl rfl rfl) (eA (vs:=[i64 0,i64 0,bE ([]:bJ),zS none 0 0]) zeroValue152 f4 rfl (fun J u0 k6=>(eD (i:=0) (ns:=[i64 a.Kind,i64 a.Number,bE a.Name,zS p a.Arguments.length q]) (us:=[i64 a.Kind,i64 a.Number,bE a.Name,zS p a.Arguments.length q]) sizeOf152 k6 rfl rfl rfl rfl rfl (gJ rfl) rfl rfl (fun d5 (b2:aM G K (box J 152 [i64 a.Kind,i64 a.Number,bE a.Name,zS p a.Arguments.length q]::box u 104 [bE b.Name,i64 b.Parameters,zS l b.Body.length m]::b9::mN c e::box b1 174 n::L) d5)=>(aF (aJ (aA (bC (t':=0) eY rfl rfl) (aA (bQ dC b2 (i:=0) rfl rfl rfl) (aF (bM [] (fun f w=>∃ d6 e3 f6 e4 e5,Hp.le K d6/\gQ e3 f6=some R/\aM G d6 (bN 127 d6 e4 e5 e3::mN c f6::box b1 174 [zS a2 j.length c3,zS e4 e3.length e5,zM (some c)]::L) w) ?_ ?_))))))))))
 ·rintro f u1 ⟨d6,e3,f6,e4,e5,k7,hm,k8⟩
  unfold gQ at hm
  obtain rfl:=zI hm
  exact aHy results111 ⟨d6,e4,e5,rfl,k7,k8⟩
 refine aJ (aA (cK rfl rfl) (aD (v:=zB (a.Kind == 1)) (aF ?_)))
 rcases aH hm with ⟨f7,hm⟩|⟨f7,hm⟩
 ·refine aL f7 rfl (aN ?_);obtain ⟨l0,f8,h9,i0,l1⟩:=aM.lendBp b2 .head
  refine kT (C:=fun w'=>∃ L',aM G l0 L' w') [(0,0),(1,0),(2,0),(3,0),(4,0),(5,1),(6,1),(7,0),(8,0),(9,0),(10,0),(11,0)] cI (by kernel_rfl) (fun _ hg=>⟨_,aM.mono i0 hg⟩) (fun u2 l2=>?_)
  have d7:=aM.mono i0 l2
  refine dB rfl (fun _ _=>bC (t':=2) lD rfl rfl) (dB rfl (fun _ ⟨_,d7⟩=>cC (t:=2) fA d7 h9 rfl rfl) (dB rfl (fun _ _=>bC (t':=3) jI rfl rfl) (dB rfl (fun _ ⟨_,d7⟩=>cC (t:=3) qN d7 h9 rfl rfl) (dB rfl (fun _ _=>bP (v:=zS a8 g.length c9) rfl) (yC rfl ?_)))));obtain ⟨e6,l3,hm⟩:=aC hm
  refine aQ (vs:=[zS p a.Arguments.length q,zS a8 g.length c9]) call152 rfl (aEc l3 d7 (f5.mono f8) (b0.mono f8)) ?_
  rintro _ u3 ⟨e7,e8,rfl,i1⟩
  refine cW (aB ⟨⟨_,i1⟩,?_⟩)
  refine yC rfl ?_;obtain ⟨u4,u5,l4,l5,l6⟩:=aM.lendSp i1 f8 .head
  obtain ⟨a0,l7,hm⟩:=aC hm
  refine aQ (vs:=[bE a.Name,zS e7 e6.length e8]) call116 rfl (aEb l7 l5 hG l4) ?_
  rintro _ u6 ⟨rfl,l8⟩
  have i2:=l6 _ _ l8
  refine cW (aB ⟨⟨_,i2⟩,?_⟩)
  refine dB rfl (fun _ _=>bP (v:=zT #[bE a0.1,zB a0.2]) rfl) (dB rfl (fun _ _=>cJ rfl rfl) (dB rfl (fun _ _=>cJ rfl rfl) (dB rfl (fun _ _=>fG (v:=bE a0.1) rfl) (dB rfl (fun _ _=>fG (v:=zB a0.2) rfl) (yB ?_)))))
  have l9:=l1 _ _ i2
  refine aB (aJ (aG (v:=i64 k) (aG (v:=i64 part) (aA (cA rfl rfl) (aG (v:=zS a8 g.length c9) ?_)))));obtain ⟨a1,m0,hm⟩:=aC hm
  refine aQ (vs:=[zS a8 g.length c9]) call61 rfl (gW m0 l9 b0) ?_
  rintro _ u7 ⟨a3,a4,rfl,m1⟩
  refine aA (lQ (vs:=[(0,i64 k),(1,i64 (wr (part+1))),(2,zS a3 a1.length a4)]) (cs:=[i64 k,i64 (wr (part+1)),zS a3 a1.length a4]) aLW rfl (by kernel_rfl)) (eA (vs:=[i64 0,i64 0,zS none 0 0]) zeroValue70 m1 rfl (fun c1 u8 m2=>(eD (i:=0) (ns:=[i64 k,i64 (wr (part+1)),zS a3 a1.length a4]) (us:=[i64 k,i64 (wr (part+1)),zS a3 a1.length a4]) sizeOf70 m2 rfl rfl rfl rfl rfl (gJ rfl) rfl rfl (fun m3 (f9:aM G K (box c1 70 [i64 k,i64 (wr (part+1)),zS a3 a1.length a4]::bN 2 K a3 a4 a1::box J 152 [i64 a.Kind,i64 a.Number,bE a.Name,zS p a.Arguments.length q]::bN 2 K e7 e8 e6::box u 104 [bE b.Name,i64 b.Parameters,zS l b.Body.length m]::b9::mN c e::box b1 174 n::L) m3)=>(aF (zO [0,10,12] (fun f w=>∃ V O x a6 a7,oC j o e a0 V O x=some R/\aM G K (bN 2 K a6 a7 x::box c1 70 [i64 V,i64 O,zS a6 x.length a7]::b9::mN c e::box b1 174 n::L) w) ?_ ?_))))))
  ·rintro f g0 ⟨V,O,x,a6,a7,hm,i3⟩
   unfold oC at hm
   refine aU (aG (v:=zP (some ⟨b1,0,none⟩)) (aG (v:=bE a0.1) (aA (fQ (us:=[i64 V,i64 O,zS a6 x.length a7]) vM i3 (i:=1) rfl rfl rfl rfl) (aA (lQ (vs:=[(0,bE a0.1),(1,zA #[i64 V,i64 O,zS a6 x.length a7])]) (cs:=[bE a0.1,i64 V,i64 O,zS a6 x.length a7]) bs_127 rfl (by kernel_rfl)) ?_))));obtain ⟨c2,g1,m4,g2⟩:=aM.giveSp i3 (zR _) .head
   replace g2:aM G c2 (box c1 70 [i64 V,i64 O,zS a6 x.length a7]::b9::mN c e::box b1 174 n::L) g0:=g2
   have m5:aM G c2 (box c1 70 [i64 V,i64 O,zS a6 x.length a7]::bN 127 c2 a5 c6 o::mN c e::box b1 174 n::L) g0:=aM.weak (i:=1) g2 rfl (fun _ h=>bN.mono (zL b7 g1) h)
   have m6:aM G c2 (bN 127 c2 a5 c6 o::mN c e::box b1 174 n::box c1 70 [i64 V,i64 O,zS a6 x.length a7]::L) g0:=(aM.arr 4 [1,2,3,0] m5 rfl)
   obtain ⟨i4,m7,hm⟩:=aC hm
   refine aQ (vs:=[zP (some ⟨b1,0,none⟩),zA #[bE a0.1,i64 V,i64 O,zS a6 x.length a7]]) call153 rfl (aGk (Kf:=c2) (s_:=⟨a0.1,⟨V,O,x⟩⟩) m7 m6 hG (zR _) (h4.mono g1) m4) ?_
   rintro _ u9 ⟨m8,m9,rfl,n0⟩
   exact cW (bH (aB ⟨aT,c2,i4.1,i4.2,m8,m9,g1,hm,(aM.arr 4 [0,1,2] n0 rfl)⟩))
  refine aJ (aA (bC (t':=2) jJ rfl rfl) (aA (bQ qO f9 (i:=4) rfl rfl rfl) (aG (v:=i64 part) (aA (cA rfl rfl) ?_))));obtain ⟨d,i5,hm⟩:=aC hm
  refine aA (cG iH rfl d4 rfl rfl rfl i5) ?_;obtain ⟨v0,n1,n2⟩:=bY.el (sz:=4) rfl d4 i5
  obtain ⟨d0,d1,rfl,n3⟩:=n2
  refine aA (dZ (t:=0) (vs:=[i64 d.Kind,i64 d.Number,bE d.Name,zS d0 d.Arguments.length d1]) yD f9 n1 rfl rfl rfl) (eA (vs:=[i64 0,i64 0,bE ([]:bJ),zS none 0 0]) zeroValue152 f9 rfl (fun i6 v1 n4=>(eD (i:=0) (ns:=[i64 d.Kind,i64 d.Number,bE d.Name,zS d0 d.Arguments.length d1]) (us:=[i64 d.Kind,i64 d.Number,bE d.Name,zS d0 d.Arguments.length d1]) sizeOf152 n4 rfl rfl rfl rfl rfl (gJ rfl) rfl rfl (fun n5 (g3:aM G K (box i6 152 [i64 d.Kind,i64 d.Number,bE d.Name,zS d0 d.Arguments.length d1]::box c1 70 [i64 k,i64 (wr (part+1)),zS a3 a1.length a4]::bN 2 K a3 a4 a1::box J 152 [i64 a.Kind,i64 a.Number,bE a.Name,zS p a.Arguments.length q]::bN 2 K e7 e8 e6::box u 104 [bE b.Name,i64 b.Parameters,zS l b.Body.length m]::b9::mN c e::box b1 174 n::L) n5)=>(aF (aJ (aA (bC (t':=0) eY rfl rfl) (aA (bQ dC g3 (i:=0) rfl rfl rfl) (aA (cK rfl rfl) (aF ?_))))))))))
  rcases aH hm with ⟨g4,hm⟩|⟨g4,hm⟩
  ·refine aL g4 rfl ?_;obtain ⟨n6,i7,i8,i9,n7⟩:=aM.lendBp g3 .head
   refine kT (C:=fun w'=>∃ L',aM G n6 L' w') [(0,0),(1,0),(2,0),(3,0),(4,0),(5,1),(6,0),(7,2)] cI (by kernel_rfl) (fun _ hg=>⟨_,aM.mono i9 hg⟩) (fun v2 n8=>?_)
   have d8:=aM.mono i9 n8
   refine dB rfl (fun _ _=>bC (t':=1) jH rfl rfl) (dB rfl (fun _ ⟨_,d8⟩=>cC (t:=1) dC d8 i8 rfl rfl) (dB rfl (fun _ _=>bC (t':=3) jI rfl rfl) (dB rfl (fun _ ⟨_,d8⟩=>cC (t:=3) qN d8 i8 rfl rfl) (dB rfl (fun _ _=>bP (v:=zS a8 g.length c9) rfl) (yC rfl ?_)))));obtain ⟨c4,n9,hm⟩:=aC hm
   refine aQ (vs:=[zS d0 d.Arguments.length d1,zS a8 g.length c9]) call152 rfl (aEc n9 d8 (n3.mono i7) (b0.mono i7)) ?_
   rintro _ v3 ⟨c5,c7,rfl,j0⟩
   refine cW (aB ⟨⟨_,j0⟩,?_⟩)
   refine dB rfl (fun _ _=>lQ (vs:=[(0,i64 d.Number),(1,i64 0),(2,zS c5 c4.length c7)]) (cs:=[i64 d.Number,i64 0,zS c5 c4.length c7]) aLW rfl (by kernel_rfl)) ?_
   have o0:=n7 _ _ j0
   exact WE_s rfl (eD (i:=2) (ns:=[i64 d.Number,i64 0,zS c5 c4.length c7]) (us:=[i64 d.Number,i64 0,zS c5 c4.length c7]) sizeOf70 o0 rfl rfl rfl rfl rfl (gJ rfl) rfl rfl (fun o1 (o2:aM G K (box i6 152 [i64 d.Kind,i64 d.Number,bE d.Name,zS d0 d.Arguments.length d1]::bN 2 K c5 c7 c4::box c1 70 [i64 d.Number,i64 0,zS c5 c4.length c7]::bN 2 K a3 a4 a1::box J 152 [i64 a.Kind,i64 a.Number,bE a.Name,zS p a.Arguments.length q]::bN 2 K e7 e8 e6::box u 104 [bE b.Name,i64 b.Parameters,zS l b.Body.length m]::b9::mN c e::box b1 174 n::L) o1)=>(aF (yB (aB ⟨aT,d.Number,0,c4,c5,c7,hm,(aM.arr 7 [1,2] o2 rfl)⟩)))))
  ·exact aI g4 rfl (aW (aB ⟨aT,k,wr (part+1),a1,a3,a4,hm,(aM.arr 6 [2,1] g3 rfl)⟩))
 ·refine aI f7 rfl (aJ (aA (cK rfl rfl) (aD (v:=zB (a.Kind == 2)) (aF ?_))))
  rcases aH hm with ⟨g5,hm⟩|⟨g5,hm⟩
  ·refine aL g5 rfl (aJ (aG (v:=zP (some ⟨b1,0,none⟩)) (aG (v:=i64 k) (aG (v:=i64 part) (aA (cA rfl rfl) (aG (v:=zS a8 g.length c9) ?_))))))
   have o3:aM G K (box J 152 [i64 a.Kind,i64 a.Number,bE a.Name,zS p a.Arguments.length q]::box u 104 [bE b.Name,i64 b.Parameters,zS l b.Body.length m]::c0::mN c e::box b1 174 n::L) d5:=aM.weak (i:=2) b2 rfl (fun _ h=>bN.mono b7 h)
   have o4:aM G K (c0::mN c e::box b1 174 n::box J 152 [i64 a.Kind,i64 a.Number,bE a.Name,zS p a.Arguments.length q]::box u 104 [bE b.Name,i64 b.Parameters,zS l b.Body.length m]::L) d5:=(aM.arr 5 [2,3,4,0,1] o3 rfl)
   obtain ⟨v4,o5,hm⟩:=aC hm
   refine aQ (vs:=h6) call111 rfl (ih (Kf:=K) o5 o4 hG (zR _) h4 b0) ?_
   rintro _ v5 ⟨o6,v6,v7,rfl,e9,j1⟩
   refine aF (aU (aG (v:=zP (some ⟨b1,0,none⟩)) (aG (v:=i64 k) (aA (fQ (us:=[bE b.Name,i64 b.Parameters,zS l b.Body.length m]) aCK j1 (i:=4) rfl rfl rfl rfl) (aG (v:=i64 part) (aA (cA rfl rfl) ?_))))));obtain ⟨o7,o8,hm⟩:=aC hm
   refine aQ (vs:=[zA #[bE b.Name,i64 b.Parameters,zS l b.Body.length m],i64 (wr (part+1))]) call154 rfl (aBd o8 j1 (d4.mono e9)) ?_
   rintro _ v8 ⟨rfl,o9⟩
   refine aG (v:=zS a8 g.length c9) ?_;obtain ⟨j2,p0,hm⟩:=aC hm
   refine aQ (vs:=[zP (some ⟨b1,0,none⟩),i64 k,i64 o7,zS a8 g.length c9]) call111 rfl (ih (Kf:=o6) p0 o9 hG (zR _) (h4.mono e9) (b0.mono e9)) ?_
   rintro _ v9 ⟨p1,p2,p3,rfl,p4,p5⟩
   exact cW (bH (aB ⟨aT,p1,j2.1,j2.2,p2,p3,(zL e9 p4),hm,(aM.arr 5 [0,1,2] p5 rfl)⟩))
  ·refine aI g5 rfl (aJ (aA (cK rfl rfl) (aD (v:=zB (a.Kind == 3)) (aF ?_))))
   rcases aH hm with ⟨g6,hm⟩|⟨g6,hm⟩
   ·refine aL g6 rfl (aJ (aA (bC (t':=3) jI rfl rfl) (aA (bQ qN b2 (i:=0) rfl rfl rfl) ?_)));obtain ⟨p6,j3,hm⟩:=aC hm
    refine aA (cG lE rfl f5 rfl rfl rfl j3) ?_;obtain ⟨w0,p7,p8⟩:=bY.el (sz:=1) rfl f5 j3
    obtain ⟨p9,q0,rfl,q1⟩:=p8
    refine aA (cC (t:=0) aFP b2 p7 rfl rfl) (aG (v:=zS a8 g.length c9) ?_);obtain ⟨w1,q2,hm⟩:=aC hm
    refine aQ (vs:=[zS p9 p6.length q0,zS a8 g.length c9]) call155 rfl (aGy q2 b2 q1 b0) ?_
    rintro _ g7 ⟨rfl,j4⟩
    refine aA (fV rfl rfl) (aF ?_)
    rcases aH hm with ⟨g8,hm⟩|⟨g8,hm⟩
    ·refine aL g8 rfl (aU (aG (v:=zP (some ⟨b1,0,none⟩)) (aG (v:=i64 k) (aG (v:=i64 part) (aA (cA rfl rfl) (aG (v:=zS a8 g.length c9) ?_))))))
     have q3:aM G K (box J 152 [i64 a.Kind,i64 a.Number,bE a.Name,zS p a.Arguments.length q]::box u 104 [bE b.Name,i64 b.Parameters,zS l b.Body.length m]::c0::mN c e::box b1 174 n::L) g7:=aM.weak (i:=2) j4 rfl (fun _ h=>bN.mono b7 h)
     have q4:aM G K (c0::mN c e::box b1 174 n::box J 152 [i64 a.Kind,i64 a.Number,bE a.Name,zS p a.Arguments.length q]::box u 104 [bE b.Name,i64 b.Parameters,zS l b.Body.length m]::L) g7:=(aM.arr 5 [2,3,4,0,1] q3 rfl)
     obtain ⟨j5,q5,hm⟩:=aC hm
     refine aQ (vs:=h6) call111 rfl (ih (Kf:=K) q5 q4 hG (zR _) h4 b0) ?_
     rintro _ w2 ⟨q6,q7,q8,rfl,q9,r0⟩
     exact cW (bH (aB ⟨aT,q6,j5.1,j5.2,q7,q8,q9,hm,(aM.arr 5 [0,1,2] r0 rfl)⟩))
    ·refine aI g8 rfl ?_
     have r1:aM G K (box J 152 [i64 a.Kind,i64 a.Number,bE a.Name,zS p a.Arguments.length q]::box u 104 [bE b.Name,i64 b.Parameters,zS l b.Body.length m]::c0::mN c e::box b1 174 n::L) g7:=aM.weak (i:=2) j4 rfl (fun _ h=>bN.mono b7 h)
     exact aW (bH (aB ⟨aT,K,o,e,a5,c6,(zR _),hm,(aM.arr 2 [] r1 rfl)⟩))
   ·refine aI g6 rfl (aJ (aA (cK rfl rfl) (aD (v:=zB (a.Kind == 4)) (aF ?_))))
    rcases aH hm with ⟨g9,hm⟩|⟨g9,hm⟩
    ·refine aL g9 rfl (aJ (aA (bC (t':=1) jH rfl rfl) (aA (bQ dC b2 (i:=0) rfl rfl rfl) (aA (cA rfl rfl) (aG (v:=i64 0) (aF (bM [] (fun f w=>∃ d9 e0 f0 f1 f2,Hp.le K d9/\oD e0 f0=some R/\aM G d9 (bN 127 d9 f1 f2 e0::mN c f0::box b1 174 [zS a2 j.length c3,zS f1 e0.length f2,zM (some c)]::L) w) ?_ ?_)))))))
     ·rintro f w3 ⟨d9,e0,f0,f1,f2,r2,hm,r3⟩
      unfold oD at hm
      exact bH (aB ⟨aT,d9,e0,f0,f1,f2,r2,hm,r3⟩)
     have r4:aM G K (box J 152 [i64 a.Kind,i64 a.Number,bE a.Name,zS p a.Arguments.length q]::box u 104 [bE b.Name,i64 b.Parameters,zS l b.Body.length m]::c0::mN c e::box b1 174 n::L) d5:=aM.weak (i:=2) b2 rfl (fun _ h=>bN.mono b7 h)
     obtain ⟨w4,r5,ho⟩:=aC hm
     refine jP [0,1,2,3,103] r5 (fun r b5 b3 f w=>∃ a9 y z,Hp.le K a9/\f 104=i64 b3/\aM G a9 (bN 127 a9 y z r::mN c b5::box b1 174 [zS a2 j.length c3,zS y r.length z,zM (some c)]::L) w) ?_ ?_
     ·exact ⟨K,a5,c6,(zR _),rfl,(aM.arr 2 [] r4 rfl)⟩
     ·rintro r b5 b3 w5 f w6 hm hr ⟨a9,y,z,c8,h0,j6⟩
      unfold gD at hm
      refine aJ (aA (cF h0 rfl) (aF (aN ?_)))
      rcases aH hm with ⟨h1,hm⟩|⟨h1,hm⟩
      ·refine aL h1 rfl (aW (aB (aN (bX (aJ (bF h0 (aD (v:=i64 b3) (aF (aU (aG (v:=zP (some ⟨b1,0,none⟩)) (aG (v:=i64 k) (aG (v:=i64 part) (aA (cA rfl rfl) (aG (v:=zS a8 g.length c9) ?_))))))))))))));obtain ⟨r6,r8,hm⟩:=aC hm
       refine aQ (vs:=[zS a8 g.length c9]) call61 rfl (gW r8 j6 (b0.mono c8)) ?_
       rintro _ w7 ⟨r9,s0,rfl,s1⟩
       refine aG (v:=i64 b3) (gA (Kt:=K) (xs:=([b3]:List Int)) (cs:=[i64 b3]) (vs:=[(0,i64 b3)]) fN aFe rfl rfl s1 rfl (by kernel_rfl) rfl rfl rfl ⟨rfl,trivial⟩ (fun s2 s3 (s4:aM G a9 (bN 2 K s2 1 ([b3]:List Int)::bN 2 K r9 s0 r6::bN 127 a9 y z r::mN c b5::box b1 174 [zS a2 j.length c3,zS y r.length z,zM (some c)]::L) s3)=>?_));obtain ⟨j7,s5,hm⟩:=aC hm
       refine qM (i:=0) fN underlying68 aFe rfl rfl s4 rfl c8 c8 s5 rfl rfl rfl rfl (fun _ h=>h) (fun j8 j9 h2 (s6:aM G a9 (bN 2 K j8 j9 j7::bN 127 a9 y z r::mN c b5::box b1 174 [zS a2 j.length c3,zS y r.length z,zM (some c)]::L) h2)=>?_);obtain ⟨f3,h3,s7,h5⟩:=aM.giveSp s6 c8 .head
       replace h5:aM G f3 (bN 127 a9 y z r::mN c b5::box b1 174 [zS a2 j.length c3,zS y r.length z,zM (some c)]::L) h2:=h5
       have s8:aM G f3 (bN 127 f3 y z r::mN c b5::box b1 174 [zS a2 j.length c3,zS y r.length z,zM (some c)]::L) h2:=aM.weak (i:=0) h5 rfl (fun _ h=>bN.mono h3 h)
       obtain ⟨w8,s9,hm⟩:=aC hm
       refine aQ (vs:=[zP (some ⟨b1,0,none⟩),i64 k,i64 (wr (part+1)),zS j8 j7.length j9]) call111 rfl (ih (Kf:=f3) s9 s8 hG (zR _) (h4.mono (zL c8 h3)) s7) ?_
       rintro _ w9 ⟨t0,t1,t2,rfl,t3,t4⟩
       exact cW (bH (aB (aU (aA (cA h0 rfl) (aG (v:=i64 (wr (b3+1))) (aF ⟨_,(zI hm).symm,aT,t0,t1,t2,(zL (zL c8 h3) t3),rfl,t4⟩))))))
      ·refine aI h1 rfl (cD (bA (bA ?_)))
       have t5:=hr _ (zI hm).symm
       subst t5
       have hm:(oD r b5)=some R:=ho
       clear hr ho
       exact bR (aB ⟨aT,a9,r,b5,y,z,c8,hm,j6⟩)
    ·refine aI g9 rfl ?_
     have t6:aM G K (box J 152 [i64 a.Kind,i64 a.Number,bE a.Name,zS p a.Arguments.length q]::box u 104 [bE b.Name,i64 b.Parameters,zS l b.Body.length m]::c0::mN c e::box b1 174 n::L) d5:=aM.weak (i:=2) b2 rfl (fun _ h=>bN.mono b7 h)
     exact aW (bH (aB ⟨aT,K,o,e,a5,c6,(zR _),hm,(aM.arr 2 [] t6 rfl)⟩))
theorem aES (n:Nat):∀ {G:qG} {K:Hp} {L:List iU} {w:World} {Kf:Hp} {b1:Nat} {a:(List Definition)} {a2:Option Addr} {c3:Nat} {c:(List cM)} {a5:Option Addr} {c6:Nat} {l:(List (bJ × Bool))} {b:Nat} {k:Int} {part:Int} {d:(List Int)} {a8:Option Addr} {c9:Nat} {R:((List cM) × (List (bJ × Bool)))} (hm:cB n a c l k part d=some R) (e:aM G K (bN 127 Kf a5 c6 c::mN b l::box b1 174 [zS a2 a.length c3,zS a5 c.length c6,zM (some b)]::L) w) (g:G.lo=0) (h:Hp.le Kf K) (i:bY K a2 c3 a) (j:bY K a8 c9 d),
  Calls prog 111 ([zP (some ⟨b1,0,none⟩),i64 k,i64 part,zS a8 d.length c9]:List Value).toArray w (eK fun v w'=>∃ m o p,v=zT #[]/\Hp.le K m/\aM G m (bN 127 m o p R.1::mN b R.2::box b1 174 [zS a2 a.length c3,zS o R.1.length p,zM (some b)]::L) w'):=by
 induction n with
 |zero=>
  intro G K L w Kf b1 a a2 c3 c a5 c6 l b k part d a8 c9 R hm e g h i j
  unfold cB at hm
  cases hm
 |succ n ih=>
  intro G K L w Kf b1 a a2 c3 c a5 c6 l b k part d a8 c9 R hm e g h i j
  exact aER (rec_:=cB n) (fun hm e g h i j=>ih hm e g h i j) hm e g h i j
theorem aGl {x0_:(List Definition)} {x1_:(List cM)} {x2_M:(List (bJ × Bool))} {r7:Nat} {k part:Int} {values:(List Int)} {R:((List cM) × (List (bJ × Bool)))} (hm:aAL x0_ x1_ x2_M k part values=some R) (hs:aM G K (bN 127 Kf a5 c6 x1_::mN r7 x2_M::box b1 174 [zS a2 x0_.length c3,zS a5 x1_.length c6,zM (some r7)]::L) w) (hG:G.lo=0) (hKf:Hp.le Kf K) (h4:bY K a2 c3 x0_) (h10:bY K a8 c9 values):
  Calls prog 111 ([zP (some ⟨b1,0,none⟩),i64 k,i64 part,zS a8 values.length c9]:List Value).toArray w (eK fun v w'=>∃ K' ra1 rc1,v=zT #[]/\Hp.le K K'/\aM G K' (bN 127 K' ra1 rc1 R.1::mN r7 R.2::box b1 174 [zS a2 x0_.length c3,zS ra1 R.1.length rc1,zM (some r7)]::L) w'):=aES 100000 hm hs hG hKf h4 h10
theorem aOK {b:(List Definition)} {p:aZ} {R:((List cM) × Bool)} (hm:aGd b p=some R) (r:aM G K (L) w) (t:G.lo=0) (u:bY K a1 c2 b) (x:bY K a4 c5 p.Values):
  Calls prog 81 ([zS a1 b.length c2,zA #[i64 p.Definition,i64 p.Part,zS a4 p.Values.length c5]]:List Value).toArray w (eK fun v w'=>∃ l o q,v=zT #[zS o R.1.length q,zB R.2]/\Hp.le K l/\aM G l (bN 127 l o q R.1::L) w'):=by
 let g:=[i64 p.Definition,i64 p.Part,zS a4 p.Values.length c5]
 refine aP func81 rfl (by kernel_rfl) (by show (2:Nat)<=29;decide) ?_;unfold aGd at hm
 refine aJ (dM (v:=zA #[i64 p.Definition,i64 p.Part,zS a4 p.Values.length c5]) (vs:=g) r rfl rfl (fun m w8 y=>(aD (v:=zS none 0 0) (aD (v:=zB false) (aF (aJ (aG (v:=zS a1 b.length c2) (aPv bJ Bool y ?_))))))))
 intro c z (J:aM G K (mN c ([]:(List (bJ × Bool)))::box m 70 g::L) z)
 refine aA (lQ (vs:=[(0,zS a1 b.length c2),(2,zM (some c))]) (cs:=[zS a1 b.length c2,zS none 0 0,zM (some c)]) bs_174 rfl (by kernel_rfl)) (dM (v:=zA #[zS a1 b.length c2,zS none 0 0,zM (some c)]) (vs:=[zS a1 b.length c2,zS none 0 0,zM (some c)]) J rfl rfl (fun d V h=>(aD (v:=zP (some ⟨d,0,none⟩)) (aF (aJ (aG (v:=zP (some ⟨d,0,none⟩)) (aA (bC (t':=0) aBx rfl rfl) (aA (bQ dC h (i:=2) rfl rfl rfl) (aA (bC (t':=1) aBy rfl rfl) (aA (bQ dC h (i:=2) rfl rfl rfl) (aA (bC (t':=2) xD rfl rfl) (aA (bQ vL h (i:=2) rfl rfl rfl) ?_))))))))))))
 have O:=aM.nil (α:=cM) h 127 K
 have a0:aM G K (bN 127 K none 0 ([]:List cM)::mN c ([]:(List (bJ × Bool)))::box d 174 [zS a1 b.length c2,zS none 0 0,zM (some c)]::box m 70 g::L) V:=(aM.arr 3 [0,2,1] O rfl)
 obtain ⟨e,a2,hm⟩:=aC hm
 refine aQ (vs:=[zP (some ⟨d,0,none⟩),i64 p.Definition,i64 p.Part,zS a4 p.Values.length c5]) call111 rfl (aGl (Kf:=K) a2 a0 t (zR _) u x) ?_
 rintro _ a8 ⟨n,j,k,rfl,a3,a⟩
 refine aF (aN (dU (C:=fun w'=>aM G n (bN 127 n j k e.1::mN c e.2::box d 174 [zS a1 b.length c2,zS j e.1.length k,zM (some c)]::box m 70 g::L) w') cI (by kernel_rfl) (aM.mono a (eH.drew _)) (bG (fun _ a=>bP (v:=zP (some ⟨d,0,none⟩)) rfl) (bG (fun _ a=>qL rfl) (bG (fun _ a=>bC (t':=1) aIW rfl rfl) (bG (fun _ a=>bQ aBg a (i:=2) rfl rfl rfl) (bG (fun _ a=>bP (v:=zP (some ⟨d,0,none⟩)) rfl) (bG (fun _ a=>qL rfl) (bG (fun _ a=>bC (t':=1) aIW rfl rfl) (bG (fun _ a=>bQ aBg a (i:=2) rfl rfl rfl) (bG (fun _ a=>bO (len:=e.1.length) lY rfl) (bG (fun _ a=>vR rfl rfl) (bG (fun _ a=>fG (v:=zS j e.1.length k) rfl) (bG (fun _ a=>fG (v:=zB (decide ((e.1.length:Int)<=200))) rfl) (eT (fun a9 a5=>(aB ?_)))))))))))))))))
 obtain rfl:=zI hm
 exact aX (kJ results81 rfl rfl ⟨n,j,k,rfl,a3,(aM.arr 4 [0] a5 rfl)⟩)
theorem aIH {c:(List bJ)} {R:((List Int) × Bool)} (hm:wS c=some R) (hs:aM G K (L) w) (hG:G.lo=0) (x:bY K a1 c2 c):
  Calls prog 113 ([zS a1 c.length c2]:List Value).toArray w (eK fun v w'=>∃ y z,v=zT #[zS y R.1.length z,zB R.2]/\aM G K (bN 2 K y z R.1::L) w'):=by
 refine aP func113 rfl (by kernel_rfl) (by show (1:Nat)<=28;decide) ?_;unfold wS at hm
 refine aJ (aD (v:=zS none 0 0) (aD (v:=zB false) (aF (aJ (aD (v:=zS none 0 0) (aF (aN (aJ (aG (v:=zS a1 c.length c2) (aA (bO (len:=c.length) hH rfl) (aG (v:=i64 0) (aF (bM [] (fun f w=>∃ d e g,vC d=some R/\f 4=zS e d.length g/\aM G K (bN 2 K e g d::L) w) ?_ ?_)))))))))))))
 ·rintro f w8 ⟨d,e,g,hm,e7,a6⟩
  unfold vC at hm
  refine aB (aJ (bF e7 (aD (v:=zS e d.length g) (aD (v:=zB true) (aF ?_)))));obtain rfl:=zI hm
  exact aX (kJ results113 rfl rfl ⟨e,g,rfl,a6⟩)
 have a8:=aM.nil (α:=Int) hs 2 K
 obtain ⟨c5,a9,ho⟩:=aC hm
 refine dD [9,10] a9 (fun b l f w=>∃ j k,f 4=zS j b.length k/\f 11=i64 l/\aM G K (bN 2 K j k b::L) w) ?_ ?_
 ·exact ⟨none,0,rfl,rfl,a8⟩
 ·rintro b l c7 f c8 hm hr ⟨j,k,J,m,n⟩
  unfold pX at hm
  refine aJ (aA (cF m rfl) (aF (aN ?_)))
  rcases aH hm with ⟨o,hm⟩|⟨o,hm⟩
  ·refine aL o rfl (aW (aB (aN (bX (aJ ?_)))));obtain ⟨p,V,hm⟩:=aC hm
   refine aA (cG hH rfl x rfl rfl m V) ?_;obtain ⟨c9,b0,b1⟩:=bY.el (sz:=1) rfl x V
   cases b1
   refine aA (cC (t:=0) fA n b0 rfl rfl) (aD (v:=bE p) (aF (aJ (aG (v:=bE p) ?_))));obtain ⟨a,b2,hm⟩:=aC hm
   refine aQ (vs:=[bE p]) call157 rfl (aKU n hG b2) ?_
   rintro _ d0 ⟨rfl,O⟩
   refine aG (v:=zT #[i64 a.1,zB a.2]) (aA (cJ rfl rfl) (aA (cJ rfl rfl) (aD (v:=i64 a.1) (aD (v:=zB a.2) (aF (aN (aJ (aG (v:=zB a.2) (aA (dA rfl) (aF ?_))))))))))
   rcases aH hm with ⟨q,hm⟩|⟨q,hm⟩
   ·refine aL q rfl (aJ (aD (v:=zS none 0 0) (aD (v:=zB false) (aF (aX (aK (aY (aK (aK ?_)))))))))
    have b3:=hr _ (zI hm).symm
    subst b3
    have hm:(some ([],false))=some R:=ho
    clear hr ho
    have b4:=aM.nil (α:=Int) O 2 K
    obtain rfl:=zI hm
    exact aY (aK (aK (kJ results113 rfl rfl ⟨none,0,rfl,(aM.arr 2 [0] b4 rfl)⟩)))
   ·refine aI q rfl (aW (aB (aU (bF J (aG (v:=i64 a.1) (gA (Kt:=K) (xs:=([a.1]:List Int)) (cs:=[i64 a.1]) (vs:=[(0,i64 a.1)]) fN aFe rfl rfl O rfl (by kernel_rfl) rfl rfl rfl ⟨rfl,trivial⟩ (fun b6 b7 (b8:aM G K (bN 2 K b6 1 ([a.1]:List Int)::bN 2 K j k b::L) b7)=>?_)))))));obtain ⟨a0,b9,hm⟩:=aC hm
    exact qM (i:=0) fN underlying68 aFe rfl rfl b8 rfl (zR _) (zR _) b9 rfl rfl rfl rfl (fun _ h=>h) (fun r u c0 (c1:aM G K (bN 2 K r u a0::L) c0)=>(aD (v:=zS r a0.length u) (cW (bH (aB (aU (aA (cA m rfl) (aG (v:=i64 (wr (l+1))) (aF ⟨_,(zI hm).symm,aT,r,u,rfl,rfl,c1⟩)))))))))
  ·refine aI o rfl (cD (bA (bA ?_)))
   have c3:=hr _ (zI hm).symm
   subst c3
   have hm:(vC b)=some R:=ho
   clear hr ho
   exact bR (aB ⟨aT,b,j,k,hm,J,n⟩)
theorem vH {s_ b:bJ} {R:Bool} (hm:iE s_ b=some R) (e:aM G K (L) w):
  Calls prog 196 ([bE s_,bE b]:List Value).toArray w (eK fun v w'=>v=zB R/\aM G K (L) w'):=by
 refine aP func196 rfl (by kernel_rfl) (by show (2:Nat)<=21;decide) ?_;unfold iE at hm
 refine aJ (aD (v:=zB false) (aF (aN (cP [] (fun f w=>∃ c,fR c=some R/\f 4=zB c/\aM G K (L) w) ?_ ?_))))
 ·rintro f l ⟨c,hm,h,i⟩
  unfold fR at hm
  refine aB ?_;obtain rfl:=zI hm
  exact aX (aO results196 rfl ⟨h,i⟩)
 refine aU (aG (v:=bE s_) (aA (fX runUnderlying9 rfl) (aG (v:=bE b) (aA (fX runUnderlying9 rfl) (aA (sO rfl rfl) (aG (v:=zB (decide ((b.length:Int)<=(s_.length:Int)))) ?_))))))
 rcases aH hm with ⟨a,hm⟩|⟨a,hm⟩
 ·refine bB a rfl rfl (aG (v:=bE s_) (bB a rfl rfl (aG (v:=bE s_) (bB a rfl rfl (aA (fX runUnderlying9 rfl) (bB a rfl rfl (aG (v:=bE b) (bB a rfl rfl (aA (fX runUnderlying9 rfl) (bB a rfl rfl (aA (iW rfl rfl) (bB a rfl rfl ?_))))))))))));obtain ⟨d,k,hm⟩:=aC hm
  exact aA (R_slSL runUnderlying9 rfl rfl k) (bB a rfl rfl (aG (v:=bE b) (bB a rfl rfl (aA (kS rfl rfl) (aA (bI (v:=zB (d == b)) a rfl rfl) (aD (v:=zB (d == b)) (aF ⟨aT,d == b,hm,rfl,e⟩)))))))
 ·exact aV a rfl rfl (aV a rfl rfl (aV a rfl rfl (aV a rfl rfl (aV a rfl rfl (aV a rfl rfl (aV a rfl rfl (aV a rfl rfl (aV a rfl rfl (aA (bL (v:=zB false) a rfl rfl) (aD (v:=zB false) (aF ⟨aT,false,hm,rfl,e⟩)))))))))))
theorem uJ {s_ a R:bJ} (hm:gZ s_ a=some R) (d:aM G K (L) w):
  Calls prog 159 ([bE s_,bE a]:List Value).toArray w (eK fun v w'=>v=bE R/\aM G K (L) w'):=by
 refine aP func159 rfl (by kernel_rfl) (by show (2:Nat)<=16;decide) ?_;unfold gZ at hm
 refine aJ (aD (v:=bE ([]:bJ)) (aF (aN (aJ (aG (v:=bE s_) (aG (v:=bE a) ?_))))));obtain ⟨k,e,hm⟩:=aC hm
 refine aQ (vs:=[bE s_,bE a]) call196 rfl (vH e d) ?_
 rintro _ l ⟨rfl,c⟩
 refine aF ?_
 rcases aH hm with ⟨b,hm⟩|⟨b,hm⟩
 ·refine aL b rfl (aJ (aG (v:=bE s_) (aG (v:=bE s_) (aA (fX runUnderlying9 rfl) (aG (v:=bE a) (aA (fX runUnderlying9 rfl) (aA (iW rfl rfl) ?_)))))));obtain ⟨g,h,hm⟩:=aC hm
  refine aA (R_slSH runUnderlying9 rfl rfl h) (aD (v:=bE g) (aF ?_));obtain rfl:=zI hm
  exact aX (aK (aO results159 rfl ⟨rfl,c⟩))
 ·refine aI b rfl (aW (aB (aJ (aG (v:=bE s_) (aD (v:=bE s_) (aF ?_))))));obtain rfl:=zI hm
  exact aX (aO results159 rfl ⟨rfl,c⟩)
theorem aEm {s_ a R:bJ} (hm:lK s_ a=some R) (b:aM G K (L) w):
  Calls prog 115 ([bE s_,bE a]:List Value).toArray w (eK fun v w'=>v=bE R/\aM G K (L) w'):=by
 refine aP func115 rfl (by kernel_rfl) (by show (2:Nat)<=8;decide) ?_;unfold lK at hm
 refine aJ (aD (v:=bE ([]:bJ)) (aF (aJ (aG (v:=bE s_) (aG (v:=bE a) ?_)))));obtain ⟨c,d,hm⟩:=aC hm
 refine aQ (vs:=[bE s_,bE a]) call159 rfl (uJ d b) ?_
 rintro _ h ⟨rfl,e⟩
 refine aD (v:=bE c) (aF ?_);obtain rfl:=zI hm
 exact aX (aO results115 rfl ⟨rfl,e⟩)
theorem aBq {s_:bJ} {R:(bJ × (List Int) × Bool)} (hm:tZ s_=some R) (V:aM G K (L) w) (p:G.lo=0):
  Calls prog 82 ([bE s_]:List Value).toArray w (eK fun v w'=>∃ q r,v=zT #[bE R.1,zS q R.2.1.length r,zB R.2.2]/\aM G K (bN 2 K q r R.2.1::L) w'):=by
 refine aP func82 rfl (by kernel_rfl) (by show (1:Nat)<=43;decide) ?_;unfold tZ at hm
 refine aJ (aD (v:=bE ([]:bJ)) (aD (v:=zS none 0 0) (aD (v:=zB false) (aF (aJ (aG (v:=bE s_) ?_))))));obtain ⟨a,O,hm⟩:=aC hm
 refine aQ (vs:=[bE s_,bE ([40]:bJ)]) call112 rfl (lib_Cut V O) ?_
 rintro _ w3 ⟨rfl,t⟩
 refine aG (v:=zT #[bE a.1,bE a.2.1,zB a.2.2]) (aA (cJ rfl rfl) (aA (cJ rfl rfl) (aA (cJ rfl rfl) (aD (v:=bE a.1) (aD (v:=bE a.2.1) (aD (v:=zB a.2.2) (aF (aJ (aD (v:=zS none 0 0) (aF (zO [0,5] (fun f w=>∃ d e h,pY s_ a d=some R/\f 8=zS e d.length h/\aM G K (bN 2 K e h d::L) w) ?_ ?_)))))))))))
 ·rintro f w9 ⟨d,e,h,hm,u,a0⟩
  unfold pY at hm
  refine aN (aJ (aG (v:=bE a.1) (bF u ?_)));obtain ⟨c9,d0,a1,a2,a3⟩:=aM.lendSp a0 (zR _) .head
  obtain ⟨b,a4,hm⟩:=aC hm
  refine aQ (vs:=[bE a.1,zS e d.length h]) call116 rfl (aEb a4 a2 p a1) ?_
  rintro _ d1 ⟨rfl,a5⟩
  have x:=a3 _ _ a5
  refine aG (v:=zT #[bE b.1,zB b.2]) (aA (cJ rfl rfl) (aA (cJ rfl rfl) (aD (v:=bE b.1) (aD (v:=zB b.2) (aF (aN (cP [5,8] (fun f w=>∃ j,tY a d j=some R/\f 40=zB j/\aM G K (bN 2 K e h d::L) w) ?_ ?_)))))))
  ·rintro f d2 ⟨j,hm,y,z⟩
   unfold tY at hm
   refine aB ?_
   rcases aH hm with ⟨k,hm⟩|⟨k,hm⟩
   ·refine aL k y (aJ (aD (v:=bE ([]:bJ)) (aD (v:=zS none 0 0) (aD (v:=zB false) (aF ?_)))))
    have a7:=aM.nil (α:=Int) z 2 K
    obtain rfl:=zI hm
    exact aX (aK (aCI results82 rfl rfl rfl ⟨none,0,rfl,(aM.arr 2 [0] a7 rfl)⟩))
   ·refine aI k y (aW (aB (aJ (aG (v:=bE a.1) (bF u (aD (v:=bE a.1) (aD (v:=zS e d.length h) (aD (v:=zB true) (aF ?_)))))))));obtain rfl:=zI hm
    exact aX (aCI results82 rfl rfl rfl ⟨e,h,rfl,z⟩)
  refine aU (aG (v:=zB b.2) (aA (dA rfl) (aG (v:=zB (!b.2)) ?_)))
  rcases aH hm with ⟨c,hm⟩|⟨c,hm⟩
  ·exact aR c rfl rfl (aR c rfl rfl (aR c rfl rfl (aA (bI (v:=zB true) c rfl rfl) (aF ⟨aT,true,hm,rfl,x⟩))))
  ·exact bD c rfl rfl (aG (v:=bE b.1) (bD c rfl rfl (aG (v:=bE s_) (bD c rfl rfl (aA (vO rfl rfl) (aA (bL (v:=zB (!(b.1 == s_))) c rfl rfl) (aF ⟨aT,!(b.1 == s_),hm,rfl,x⟩)))))))
 refine aJ (aG (v:=zB a.2.2) (aF ?_))
 rcases aH hm with ⟨l,hm⟩|⟨l,hm⟩
 ·refine aL l rfl (aJ (aD (v:=zB false) (aF (aJ (aG (v:=bE a.2.1) ?_)))));obtain ⟨b0,b1,hm⟩:=aC hm
  refine aQ (vs:=[bE a.2.1,bE ([41]:bJ)]) call115 rfl (aEm b1 t) ?_
  rintro _ d3 ⟨rfl,b2⟩
  obtain ⟨b3,b4,hm⟩:=aC hm
  refine aQ (vs:=[bE b0,bE ([44]:bJ)]) call114 rfl (lib_Split b2 b4) ?_
  rintro _ d4 ⟨b5,b6,rfl,b7⟩
  obtain ⟨d5,d6,b8,b9,c0⟩:=aM.lendSp b7 (zR _) .head
  obtain ⟨i,c1,hm⟩:=aC hm
  refine aQ (vs:=[zS b5 b3.length b6]) call113 rfl (aIH c1 b9 p b8) ?_
  rintro _ d7 ⟨m,n,rfl,c2⟩
  have J:=c0 _ _ c2
  refine aG (v:=zT #[zS m i.1.length n,zB i.2]) (aA (cJ rfl rfl) (aA (cJ rfl rfl) (aD (v:=zS m i.1.length n) (aD (v:=zB i.2) (aF (aJ (aG (v:=zB i.2) (aA (dA rfl) (aF ?_)))))))))
  rcases aH hm with ⟨o,hm⟩|⟨o,hm⟩
  ·refine aL o rfl (aJ (aD (v:=bE ([]:bJ)) (aD (v:=zS none 0 0) (aD (v:=zB false) (aF ?_)))))
   have c3:=aM.nil (α:=Int) J 2 K
   obtain rfl:=zI hm
   exact aX (aK (aCI results82 rfl rfl rfl ⟨none,0,rfl,(aM.arr 3 [0] c3 rfl)⟩))
  ·exact aI o rfl (aW (aB ⟨aT,i.1,m,n,hm,rfl,(aM.arr 1 [] J rfl)⟩))
 ·refine aI l rfl ?_
  have c5:=aM.nil (α:=Int) t 2 K
  exact aW (aB ⟨aT,[],none,0,hm,rfl,c5⟩)
theorem aAZ {p R:aZ} (hm:qZ p=some R) (m:aM G K (L) w) (n:bY K a1 c2 p.Values):
  Calls prog 119 ([zA #[i64 p.Definition,i64 p.Part,zS a1 p.Values.length c2]]:List Value).toArray w (eK fun v w'=>∃ d e,v=zA #[i64 R.Definition,i64 R.Part,zS d R.Values.length e]/\aM G K (bN 2 K d e R.Values::L) w'):=by
 refine aP func119 rfl (by kernel_rfl) (by show (1:Nat)<=8;decide) ?_;unfold qZ at hm
 refine aJ (dM (v:=zA #[i64 p.Definition,i64 p.Part,zS a1 p.Values.length c2]) (vs:=[i64 p.Definition,i64 p.Part,zS a1 p.Values.length c2]) m rfl rfl (fun g y o=>(eA (vs:=[i64 0,i64 0,zS none 0 0]) zeroValue70 o rfl (fun h z j=>(aF (aJ (aA (bC (t':=2) xD rfl rfl) (aA (bQ vL j (i:=1) rfl rfl rfl) ?_))))))));obtain ⟨c,q,hm⟩:=aC hm
 refine aQ (vs:=[zS a1 p.Values.length c2]) call61 rfl (gW q j n) ?_
 rintro _ J ⟨a,b,rfl,r⟩
 refine aA (bC (t':=2) xD rfl rfl) (eD (i:=2) (ns:=[zS a c.length b]) (us:=[i64 p.Definition,i64 p.Part,zS a c.length b]) sizeOf68 r rfl rfl rfl rfl rfl (gJ rfl) rfl rfl (fun t (k:aM G K (bN 2 K a b c::box h 70 [i64 0,i64 0,zS none 0 0]::box g 70 [i64 p.Definition,i64 p.Part,zS a c.length b]::L) t)=>(aF (aJ (aA (fQ (us:=[i64 p.Definition,i64 p.Part,zS a c.length b]) vM k (i:=2) rfl rfl rfl rfl) (eD (i:=1) (ns:=[i64 p.Definition,i64 p.Part,zS a c.length b]) (us:=[i64 p.Definition,i64 p.Part,zS a c.length b]) sizeOf70 k rfl rfl rfl rfl rfl (gJ rfl) rfl rfl (fun u (l:aM G K (bN 2 K a b c::box h 70 [i64 p.Definition,i64 p.Part,zS a c.length b]::box g 70 [i64 p.Definition,i64 p.Part,zS a c.length b]::L) u)=>(aF ?_))))))))
 obtain rfl:=zI hm
 exact aX (aEs results119 (aBY (vs:=[i64 p.Definition,i64 p.Part,zS a c.length b]) rfl vM l (i:=1) rfl rfl rfl) ⟨a,b,rfl,(aM.arr 3 [0] l rfl)⟩)
theorem aJo {n R:(List aZ)} (hm:aAM n=some R) (hs:aM G K (L) w) (h3:bY K a1 c2 n):
  Calls prog 118 ([zS a1 n.length c2]:List Value).toArray w (eK fun v w'=>∃ a4 a6 u,v=zS a4 R.length a6/\List.length u=List.length R/\aM G K (bN 70 K a4 a6 (bK u R)::rows [2] u R::L) w'):=by
 refine aP func118 rfl (by kernel_rfl) (by show (1:Nat)<=19;decide) ?_;unfold aAM at hm
 refine aJ (aD (v:=zS none 0 0) (aF (aJ (aD (v:=zS none 0 0) (aF (aN (aJ (aG (v:=zS a1 n.length c2) (aA (bO (len:=n.length) gP rfl) (aG (v:=i64 0) (aF (bM [] (fun f w=>∃ k o p q,xO k=some R/\f 3=zS o k.length p/\List.length q=List.length k/\aM G K (bN 70 K o p (bK q k)::rows [2] q k::L) w) ?_ ?_))))))))))))
 ·rintro f d5 ⟨k,o,p,q,hm,e9,b3,b4⟩
  unfold xO at hm
  refine aB (aJ (bF e9 (aD (v:=zS o k.length p) (aF ?_))));obtain rfl:=zI hm
  exact aX (aO results118 rfl ⟨o,p,q,rfl,b3,b4⟩)
 have b6:aM G K (bN 70 K none 0 (bK ([]:List (Dp.Hd aZ)) ([]:List aZ))::rows [2] ([]:List (Dp.Hd aZ)) ([]:List aZ)::L) w:=aM.nil (α:=aIk _) (aM.rowsNil (α:=aZ) (tys:=[2]) hs) 70 K
 obtain ⟨d6,b7,ho⟩:=aC hm
 refine dD [6,7] b7 (fun c y f w=>∃ l m b,f 3=zS l c.length m/\f 8=i64 y/\List.length b=List.length c/\aM G K (bN 70 K l m (bK b c)::rows [2] b c::L) w) ?_ ?_
 ·exact ⟨none,0,[],rfl,rfl,rfl,b6⟩
 ·rintro c y d7 f d8 hm hr ⟨l,m,b,a7,z,J,V⟩
  unfold rO at hm
  refine aJ (aA (cF z rfl) (aF (aN ?_)))
  rcases aH hm with ⟨c48,hm⟩|⟨c48,hm⟩
  ·refine aL c48 rfl (aW (aB (aN (bX (aJ ?_)))));obtain ⟨a,a8,hm⟩:=aC hm
   refine aA (cG gP rfl h3 rfl rfl z a8) ?_;obtain ⟨d9,b8,b9⟩:=bY.el (sz:=3) rfl h3 a8
   obtain ⟨h,j,rfl,c0⟩:=b9
   refine aA (dZ (t:=0) (vs:=[i64 a.Definition,i64 a.Part,zS h a.Values.length j]) vM V b8 rfl rfl rfl) (eA (vs:=[i64 0,i64 0,zS none 0 0]) zeroValue70 V rfl (fun r e0 c1=>(eD (i:=0) (ns:=[i64 a.Definition,i64 a.Part,zS h a.Values.length j]) (us:=[i64 a.Definition,i64 a.Part,zS h a.Values.length j]) sizeOf70 c1 rfl rfl rfl rfl rfl (gJ rfl) rfl rfl (fun c3 (a9:aM G K (box r 70 [i64 a.Definition,i64 a.Part,zS h a.Values.length j]::bN 70 K l m (bK b c)::rows [2] b c::L) c3)=>(aF (aU (bF a7 (aA (fQ (us:=[i64 a.Definition,i64 a.Part,zS h a.Values.length j]) vM a9 (i:=0) rfl rfl rfl rfl) ?_))))))))
   obtain ⟨d,c4,hm⟩:=aC hm
   refine aQ (vs:=[zA #[i64 a.Definition,i64 a.Part,zS h a.Values.length j]]) call119 rfl (aAZ c4 a9 c0) ?_
   rintro _ c5 ⟨e,g,rfl,c7⟩
   have c8:aM G K (rows [2] ([(e,g)]:List (Dp.Hd aZ)) ([d]:List aZ)::box r 70 [i64 a.Definition,i64 a.Part,zS h a.Values.length j]::bN 70 K l m (bK b c)::rows [2] b c::L) c5:=aM.rowsOneS (tys:=[2]) (hd:=((e,g):Dp.Hd aZ)) (x:=(d:aZ)) c7
   refine gA (Kt:=K) (xs:=bK ([(e,g)]:List (Dp.Hd aZ)) ([d]:List aZ)) (cs:=[i64 d.Definition,i64 d.Part,zS e d.Values.length g]) (vs:=[(0,zA #[i64 d.Definition,i64 d.Part,zS e d.Values.length g])]) gP aGt rfl rfl c8 rfl (by kernel_rfl) rfl rfl rfl ⟨rfl,trivial⟩ ?_
   intro c9 d0 (d1:aM G K (bN 70 K c9 1 (bK ([(e,g)]:List (Dp.Hd aZ)) ([d]:List aZ))::rows [2] ([(e,g)]:List (Dp.Hd aZ)) ([d]:List aZ)::box r 70 [i64 a.Definition,i64 a.Part,zS h a.Values.length j]::bN 70 K l m (bK b c)::rows [2] b c::L) d0)
   obtain ⟨O,b0,hm⟩:=aC hm
   refine aOt (i:=1) (tys:=[2]) (hds:=b) (hds2:=([(e,g)]:List (Dp.Hd aZ))) gP underlying30 aGt rfl rfl d1 J rfl rfl rfl b0 rfl rfl rfl rfl ?_
   intro a0 a2 d2 (d3:aM G K (bN 70 K a0 a2 (bK (b++([(e,g)]:List (Dp.Hd aZ))) O)::rows [2] (b++([(e,g)]:List (Dp.Hd aZ))) O::box r 70 [i64 a.Definition,i64 a.Part,zS h a.Values.length j]::L) d2)
   exact aD (v:=zS a0 O.length a2) (cW (bH (aB (aU (aA (cA z rfl) (aG (v:=i64 (wr (y+1))) (aF ⟨_,(zI hm).symm,aT,a0,a2,(b++([(e,g)]:List (Dp.Hd aZ))),rfl,rfl,(aLs J rfl b0),(aM.arr 3 [0,1] d3 rfl)⟩)))))))
  ·refine aI c48 rfl (cD (bA (bA ?_)))
   have d4:=hr _ (zI hm).symm
   subst d4
   have hm:(xO c)=some R:=ho
   clear hr ho
   exact bR (aB ⟨aT,c,l,m,b,hm,a7,J,V⟩)
theorem aLi {j:(List aZ)} {R:bJ} (hm:aDU j=some R) (hs:aM G K (L) w) (z:G.lo=0) (J:bY K a1 c2 j):
  Calls prog 120 ([zS a1 j.length c2]:List Value).toArray w (eK fun v w'=>v=bE R/\aM G K (L) w'):=by
 refine aP func120 rfl (by kernel_rfl) (by show (1:Nat)<=20;decide) ?_;unfold aDU at hm
 refine aJ (aD (v:=bE ([]:bJ)) (aF (aJ (aD (v:=zS none 0 0) (aF (aN (aJ (aG (v:=zS a1 j.length c2) (aA (bO (len:=j.length) gP rfl) (aG (v:=i64 0) (aF (bM [] (fun f w=>∃ k l m,wT k=some R/\f 3=zS l k.length m/\aM G K (bN 9 K l m k::L) w) ?_ ?_))))))))))))
 ·rintro f w8 ⟨k,l,m,hm,e7,a6⟩
  unfold wT at hm
  refine aB (aJ (bF e7 ?_));obtain ⟨d4,d5,a7,a8,a9⟩:=aM.lendSp a6 (zR _) .head
  obtain ⟨b0,b1,hm⟩:=aC hm
  refine aQ (vs:=[zS l k.length m,bE ([32]:bJ)]) call163 rfl (aPI a8 z a7 b1) ?_
  rintro _ d6 ⟨rfl,b2⟩
  have b3:=a9 _ _ b2
  refine aD (v:=bE b0) (aF ?_);obtain rfl:=zI hm
  exact aX (aO results120 rfl ⟨rfl,(aM.arr 1 [] b3 rfl)⟩)
 have b5:=aM.nil (α:=bJ) hs 9 K
 obtain ⟨d7,b6,ho⟩:=aC hm
 refine dD [6,7] b6 (fun d o f w=>∃ e g,f 3=zS e d.length g/\f 8=i64 o/\aM G K (bN 9 K e g d::L) w) ?_ ?_
 ·exact ⟨none,0,rfl,rfl,b5⟩
 ·rintro d o d8 f d9 hm hr ⟨e,g,V,p,q⟩
  unfold wU at hm
  refine aJ (aA (cF p rfl) (aF (aN ?_)))
  rcases aH hm with ⟨r,hm⟩|⟨r,hm⟩
  ·refine aL r rfl (aW (aB (aN (bX (aJ ?_)))));obtain ⟨a,O,hm⟩:=aC hm
   refine aA (cG gP rfl J rfl rfl p O) ?_;obtain ⟨e0,b7,b8⟩:=bY.el (sz:=3) rfl J O
   obtain ⟨b,c,rfl,b9⟩:=b8
   refine aA (dZ (t:=0) (vs:=[i64 a.Definition,i64 a.Part,zS b a.Values.length c]) vM q b7 rfl rfl rfl) (eA (vs:=[i64 0,i64 0,zS none 0 0]) zeroValue70 q rfl (fun u e1 c0=>(eD (i:=0) (ns:=[i64 a.Definition,i64 a.Part,zS b a.Values.length c]) (us:=[i64 a.Definition,i64 a.Part,zS b a.Values.length c]) sizeOf70 c0 rfl rfl rfl rfl rfl (gJ rfl) rfl rfl (fun c1 (a0:aM G K (box u 70 [i64 a.Definition,i64 a.Part,zS b a.Values.length c]::bN 9 K e g d::L) c1)=>(aF (aU (bF V (aA (fQ (us:=[i64 a.Definition,i64 a.Part,zS b a.Values.length c]) vM a0 (i:=0) rfl rfl rfl rfl) ?_))))))))
   obtain ⟨n,c3,hm⟩:=aC hm
   refine aQ (vs:=[zA #[i64 a.Definition,i64 a.Part,zS b a.Values.length c]]) call162 rfl (aGz c3 a0 z b9) ?_
   rintro _ e2 ⟨rfl,c4⟩
   refine gA (Kt:=K) (xs:=([n]:List bJ)) (cs:=[bE n]) (vs:=[(0,bE n)]) hH ez_9 rfl rfl c4 rfl (by kernel_rfl) rfl rfl rfl ⟨rfl,trivial⟩ (fun c5 c7 (c8:aM G K (bN 9 K c5 1 ([n]:List bJ)::box u 70 [i64 a.Definition,i64 a.Part,zS b a.Values.length c]::bN 9 K e g d::L) c7)=>?_);obtain ⟨a2,c9,hm⟩:=aC hm
   exact qM (i:=1) hH underlying25 ez_9 rfl rfl c8 rfl (zR _) (zR _) c9 rfl rfl rfl rfl (fun _ h=>h) (fun x y d0 (d1:aM G K (box u 70 [i64 a.Definition,i64 a.Part,zS b a.Values.length c]::bN 9 K x y a2::L) d0)=>(aD (v:=zS x a2.length y) (cW (bH (aB (aU (aA (cA p rfl) (aG (v:=i64 (wr (o+1))) (aF ⟨_,(zI hm).symm,aT,x,y,rfl,rfl,(aM.arr 1 [] d1 rfl)⟩)))))))))
  ·refine aI r rfl (cD (bA (bA ?_)))
   have d2:=hr _ (zI hm).symm
   subst d2
   have hm:(wT d)=some R:=ho
   clear hr ho
   exact bR (aB ⟨aT,d,e,g,hm,V,q⟩)
theorem aET {m:bU} {p:bJ} {e:Nat} {c:bJ} {h:Nat} {R:Bool} (hm:oU m p c=some R) (l:aM G K (L) w) (j:iG K a1 e [bE p]) (k:iG K a4 h [bE c]):
  Calls prog 165 ([zA #[bE m.Left,bE m.Right,bE m.Result],eP a1 e,eP a4 h]:List Value).toArray w (eK fun v w'=>v=zB R/\aM G K (L) w'):=by
 refine aP func165 rfl (by kernel_rfl) (by show (3:Nat)<=19;decide) ?_;unfold oU at hm
 refine aJ (dM (v:=zA #[bE m.Left,bE m.Right,bE m.Result]) (vs:=[bE m.Left,bE m.Right,bE m.Result]) l rfl rfl (fun r u b=>(aD (v:=zB false) (aF (aN (cP [] (fun f w=>∃ d,jY d=some R/\f 4=zB d/\aM G K (L) w) ?_ ?_))))))
 ·rintro f x ⟨d,hm,n,o⟩
  unfold jY at hm
  refine aB ?_;obtain rfl:=zI hm
  exact aX (aO results165 rfl ⟨n,o⟩)
 refine aU (aA (bC (t':=0) kM rfl rfl) (aA (bQ fA b (i:=0) rfl rfl rfl) (aA (cC (t:=0) fA b j rfl rfl) (aA (cC (t:=0) fA b k rfl rfl) (aA (R_minS rfl rfl) (aA (kS rfl rfl) (aG (v:=zB (m.Left == (mnS p c))) ?_)))))))
 rcases aH hm with ⟨a,hm⟩|⟨a,hm⟩
 ·exact bB a rfl rfl (aA (bC (t':=1) mC rfl rfl) (bB a rfl rfl (aA (bQ fA b (i:=0) rfl rfl rfl) (bB a rfl rfl (aA (cC (t:=0) fA b j rfl rfl) (bB a rfl rfl (aA (cC (t:=0) fA b k rfl rfl) (bB a rfl rfl (aA (R_maxS rfl rfl) (bB a rfl rfl (aA (kS rfl rfl) (aA (bI (v:=zB (m.Right == (mxS p c))) a rfl rfl) (aD (v:=zB (m.Right == (mxS p c))) (aF ⟨aT,m.Right == (mxS p c),hm,rfl,(aM.arr 1 [] b rfl)⟩))))))))))))))
 ·exact aV a rfl rfl (aV a rfl rfl (aV a rfl rfl (aV a rfl rfl (aV a rfl rfl (aV a rfl rfl (aA (bL (v:=zB false) a rfl rfl) (aD (v:=zB false) (aF ⟨aT,false,hm,rfl,(aM.arr 1 [] b rfl)⟩))))))))
theorem lP {s_:(List bU)} {j:bJ} {c:Nat} {k:bJ} {d:Nat} {R:Int} (hm:eO s_ j k=some R) (o:aM G K (L) w) (l:bY K a1 c2 s_) (p:iG K a4 c [bE j]) (q:iG K a7 d [bE k]):
  Calls prog 164 ([zS a1 s_.length c2,Value.func (.func 165) #[] #[eP a4 c,eP a7 d]]:List Value).toArray w (eK fun v w'=>v=i64 R/\aM G K (L) w'):=by
 refine aP func164 rfl (by kernel_rfl) (by show (2:Nat)<=19;decide) ?_;unfold eO at hm
 refine aJ (aD (v:=i64 0) (aF (aN (aJ (aG (v:=zS a1 s_.length c2) (aA (bO (len:=s_.length) mB rfl) (aG (v:=i64 0) (aF (bM [] (fun f w=>eF=some R/\aM G K (L) w) ?_ ?_)))))))))
 ·rintro f a2 ⟨hm,r⟩
  unfold eF at hm
  refine aB (aJ (aD (v:=i64 (-1)) (aF ?_)));obtain rfl:=zI hm
  exact aX (aO results164 rfl ⟨rfl,r⟩)
 obtain ⟨a3,x,ho⟩:=aC hm
 refine dP [0,1,7] x (fun b f w=>f 8=i64 b/\aM G K (L) w) ?_ ?_
 ·exact ⟨rfl,o⟩
 ·rintro b a5 f a6 hm hr ⟨e,g⟩
  unfold dO at hm
  refine aJ (aA (cF e rfl) (aF (aN ?_)))
  rcases aH hm with ⟨h,hm⟩|⟨h,hm⟩
  ·refine aL h rfl (aW (aB (aN (bX (aJ (bF e (aD (v:=i64 b) (aF (aJ (aG (v:=Value.func (.func 165) #[] #[eP a4 c,eP a7 d]) (aG (v:=zS a1 s_.length c2) (aG (v:=i64 b) ?_))))))))))));obtain ⟨a,m,hm⟩:=aC hm
   refine aA (cG mB rfl l rfl rfl rfl m) ?_;obtain ⟨a8,y,z⟩:=bY.el (sz:=3) rfl l m
   cases z
   refine aA (dZ (t:=0) (vs:=[bE a.Left,bE a.Right,bE a.Result]) aEO g y rfl rfl rfl) ?_;obtain ⟨a9,J,hm⟩:=aC hm
   refine sZ (vs:=[zA #[bE a.Left,bE a.Right,bE a.Result]]) (caps:=[eP a4 c,eP a7 d]) (us:=[zA #[bE a.Left,bE a.Right,bE a.Result],eP a4 c,eP a7 d]) rfl call165 rfl rfl (aET J g p q) ?_
   rintro _ b0 ⟨rfl,n⟩
   refine aF ?_
   rcases aH hm with ⟨i,hm⟩|⟨i,hm⟩
   ·refine aL i rfl (aJ (aG (v:=i64 b) (aD (v:=i64 b) (aF (aX (aY (aK (aK ?_))))))))
    have V:=hr _ (zI hm).symm
    subst V
    have hm:(some b)=some R:=ho
    clear hr ho
    obtain rfl:=zI hm
    exact aY (aK (aK (aO results164 rfl ⟨rfl,n⟩)))
   ·exact aI i rfl (aW (bH (aB (aU (aA (cA e rfl) (aG (v:=i64 (wr (b+1))) (aF ⟨_,(zI hm).symm,aT,rfl,n⟩)))))))
  ·refine aI h rfl (cD (bA (bA ?_)))
   have a0:=hr _ (zI hm).symm
   subst a0
   have hm:(eF)=some R:=ho
   clear hr ho
   exact bR (aB ⟨aT,hm,g⟩)
theorem aGE {s_:bZ} {a b:bJ} {R:(bJ × Bool)} (hm:mV s_ a b=some R) (o:aM G K (L) w) (h3:bY K a1 c2 s_.Definitions) (h6:bY K a4 c5 s_.Components) (e:bY K a7 c8 s_.Meetings) (b1:bY K a10 c11 s_.Allowed) (b2:bY K a13 c14 s_.Hidden):
  Calls prog 121 ([zA #[zS a1 s_.Definitions.length c2,zS a4 s_.Components.length c5,zS a7 s_.Meetings.length c8,zS a10 s_.Allowed.length c11,zS a13 s_.Hidden.length c14],bE a,bE b]:List Value).toArray w (eK fun v w'=>v=zT #[bE R.1,zB R.2]/\aM G K (L) w'):=by
 refine aP func121 rfl (by kernel_rfl) (by show (3:Nat)<=21;decide) ?_;unfold mV at hm
 refine aJ (dM (v:=zA #[zS a1 s_.Definitions.length c2,zS a4 s_.Components.length c5,zS a7 s_.Meetings.length c8,zS a10 s_.Allowed.length c11,zS a13 s_.Hidden.length c14]) (vs:=[zS a1 s_.Definitions.length c2,zS a4 s_.Components.length c5,zS a7 s_.Meetings.length c8,zS a10 s_.Allowed.length c11,zS a13 s_.Hidden.length c14]) o rfl rfl (fun b3 b4 p=>(dM (v:=bE a) (vs:=[bE a]) p rfl rfl (fun h b5 q=>(dM (v:=bE b) (vs:=[bE b]) q rfl rfl (fun j b6 k=>(aD (v:=bE ([]:bJ)) (aD (v:=zB false) (aF (aJ (aA (bC (t':=2) aCR rfl rfl) (aA (bQ aKF k (i:=2) rfl rfl rfl) (aA (yA (vs:=[zP (some ⟨h,0,none⟩),zP (some ⟨j,0,none⟩)]) rfl) ?_)))))))))))))
 obtain ⟨b7,r,u,x,y⟩:=aM.lendBp k zt1
 obtain ⟨b8,l,z,J,V⟩:=aM.lendBp x .head
 obtain ⟨c,O,hm⟩:=aC hm
 refine aQ (vs:=[zS a7 s_.Meetings.length c8,Value.func (.func 165) #[] #[eP (some ⟨h,0,none⟩) 0,eP (some ⟨j,0,none⟩) 0]]) call164 rfl (lP O J (e.mono (zL r l)) (u.mono l) z) ?_
 rintro _ b9 ⟨rfl,a0⟩
 have a2:=V _ _ a0
 have d:=y _ _ a2
 refine aD (v:=i64 c) (aF (aN (aJ (aG (v:=i64 c) (aA (cF rfl rfl) (aF ?_))))))
 rcases aH hm with ⟨g,hm⟩|⟨g,hm⟩
 ·refine aL g rfl (aJ (aD (v:=bE ([]:bJ)) (aD (v:=zB false) (aF ?_))));obtain rfl:=zI hm
  exact aX (aK (kJ results121 rfl rfl ⟨rfl,(aM.arr 3 [] d rfl)⟩))
 ·refine aI g rfl (aW (aB (aJ (aA (bC (t':=2) aCR rfl rfl) (aA (bQ aKF d (i:=2) rfl rfl rfl) (aG (v:=i64 c) ?_))))));obtain ⟨a5,m,hm⟩:=aC hm
  refine aA (cG mB rfl e rfl rfl rfl m) ?_;obtain ⟨c0,n,a6⟩:=bY.el (sz:=3) rfl e m
  cases a6
  refine aA (cH (k':=c.toNat * 3+2) rF rfl n rfl) (aA (cC (t:=2) fA d n rfl rfl) (aD (v:=bE a5.Result) (aD (v:=zB true) (aF ?_))));obtain rfl:=zI hm
  exact aX (kJ results121 rfl rfl ⟨rfl,(aM.arr 3 [] d rfl)⟩)
theorem vP {s_:(List bJ)} {c:bJ} {R:Int} (hm:gK s_ c=some R) (j:aM G K (L) w) (h:bY K a1 c2 s_):
  Calls prog 161 ([zS a1 s_.length c2,bE c]:List Value).toArray w (eK fun v w'=>v=i64 R/\aM G K (L) w'):=by
 refine aP func161 rfl (by kernel_rfl) (by show (2:Nat)<=19;decide) ?_;unfold gK at hm
 refine aJ (aD (v:=i64 0) (aF (aN (aJ (aG (v:=zS a1 s_.length c2) (aA (bO (len:=s_.length) hH rfl) (aG (v:=i64 0) (aF (bM [] (fun f w=>gU=some R/\aM G K (L) w) ?_ ?_)))))))))
 ·rintro f u ⟨hm,k⟩
  unfold gU at hm
  refine aB (aJ (aD (v:=i64 (-1)) (aF ?_)));obtain rfl:=zI hm
  exact aX (aO results161 rfl ⟨rfl,k⟩)
 obtain ⟨x,m,ho⟩:=aC hm
 refine dP [0,1,7] m (fun a f w=>f 8=i64 a/\aM G K (L) w) ?_ ?_
 ·exact ⟨rfl,j⟩
 ·rintro a y f z hm hr ⟨d,b⟩
  unfold fU at hm
  refine aJ (aA (cF d rfl) (aF (aN ?_)))
  rcases aH hm with ⟨e,hm⟩|⟨e,hm⟩
  ·refine aL e rfl (aW (aB (aN (bX (aJ (bF d (aD (v:=i64 a) (aF (aJ (aG (v:=bE c) (aG (v:=zS a1 s_.length c2) (aG (v:=i64 a) ?_))))))))))));obtain ⟨J,i,hm⟩:=aC hm
   refine aA (cG hH rfl h rfl rfl rfl i) ?_;obtain ⟨V,n,o⟩:=bY.el (sz:=1) rfl h i
   cases o
   refine aA (cC (t:=0) fA b n rfl rfl) (aA (kS rfl rfl) (aF ?_))
   rcases aH hm with ⟨g,hm⟩|⟨g,hm⟩
   ·refine aL g rfl (aJ (aG (v:=i64 a) (aD (v:=i64 a) (aF (aX (aY (aK (aK ?_))))))))
    have p:=hr _ (zI hm).symm
    subst p
    have hm:(some a)=some R:=ho
    clear hr ho
    obtain rfl:=zI hm
    exact aY (aK (aK (aO results161 rfl ⟨rfl,b⟩)))
   ·exact aI g rfl (aW (bH (aB (aU (aA (cA d rfl) (aG (v:=i64 (wr (a+1))) (aF ⟨_,(zI hm).symm,aT,rfl,b⟩)))))))
  ·refine aI e rfl (cD (bA (bA ?_)))
   have r:=hr _ (zI hm).symm
   subst r
   have hm:(gU)=some R:=ho
   clear hr ho
   exact bR (aB ⟨aT,hm,b⟩)
theorem lB {s_:(List bJ)} {a:bJ} {R:Bool} (hm:dJ s_ a=some R) (b:aM G K (L) w) (c:bY K a1 c2 s_):
  Calls prog 117 ([zS a1 s_.length c2,bE a]:List Value).toArray w (eK fun v w'=>v=zB R/\aM G K (L) w'):=by
 refine aP func117 rfl (by kernel_rfl) (by show (2:Nat)<=9;decide) ?_;unfold dJ at hm
 refine aJ (aD (v:=zB false) (aF (aJ (aG (v:=zS a1 s_.length c2) (aG (v:=bE a) ?_)))));obtain ⟨d,e,hm⟩:=aC hm
 refine aQ (vs:=[zS a1 s_.length c2,bE a]) call161 rfl (vP e b c) ?_
 rintro _ i ⟨rfl,g⟩
 refine aA (sO rfl rfl) (aD (v:=zB (decide (0<=d))) (aF ?_));obtain rfl:=zI hm
 exact aX (aO results117 rfl ⟨rfl,g⟩)
theorem aCz {a7:(List Definition)} {a9:(List bT)} {b0:(List bU)} {a4 a3:(List bJ)} {a0:(List aZ)} {J:(List bV)} {q:List (Dp.Hd bV)} {r:(List (bJ × Bool))} {e:Nat} {a1:bJ} {c4:(List Int)} {c d:Int} {b2:(List aZ)} {R:((List bV) × (List (bJ × Bool)))} (hm:kG a7 a9 b0 a4 a3 a0 J r a1 c4 c d b2=some R) (hs:aM G K (bN 99 K a20 c21 (bK q J)::rows [70,2] q J::mN e r::box b1 140 [zS a2 a7.length c3,zS a5 a9.length c6,zS a8 b0.length c9,zS a11 a4.length c12,zS a14 a3.length c15,zS a17 a0.length c18,zS a20 J.length c21,zM (some e)]::L) w) (hG:G.lo=0) (h4:bY K a2 c3 a7) (h7:bY K a5 c6 a9) (n6:bY K a8 c9 b0) (h3:bY K a11 c12 a4) (h5:bY K a14 c15 a3) (h6:bY K a17 c18 a0) (d0:List.length q=List.length J) (h8:bY K a25 c26 c4) (d1:bY K a28 c29 b2):
  Calls prog 83 ([zP (some ⟨b1,0,none⟩),bE a1,zS a25 c4.length c26,i64 c,i64 d,zS a28 b2.length c29]:List Value).toArray w (eK fun v w'=>∃ f1 f2 d8,v=zT #[]/\List.length d8=List.length R.1/\aM G K (bN 99 K f1 f2 (bK d8 R.1)::rows [70,2] d8 R.1::mN e R.2::box b1 140 [zS a2 a7.length c3,zS a5 a9.length c6,zS a8 b0.length c9,zS a11 a4.length c12,zS a14 a3.length c15,zS a17 a0.length c18,zS f1 R.1.length f2,zM (some e)]::L) w'):=by
 let u:=[zS a2 a7.length c3,zS a5 a9.length c6,zS a8 b0.length c9,zS a11 a4.length c12,zS a14 a3.length c15,zS a17 a0.length c18,zS a20 J.length c21,zM (some e)]
 let V:=bN 99 K a20 c21 (bK q J)
 let O:=rows [70,2] q J
 refine aP func83 rfl (by kernel_rfl) (by show (6:Nat)<=101;decide) ?_;unfold kG at hm
 refine aN (aN (cP [0,1,2,3,4,5] (fun f w=>∃ d9,kY a3 a0 J r a1 c4 c d b2 d9=some R/\f 27=zB d9/\aM G K (V::O::mN e r::box b1 140 u::L) w) ?_ ?_))
 ·rintro f n7 ⟨d9,hm,f3,e0⟩
  unfold kY at hm
  refine aB ?_
  rcases aH hm with ⟨e1,hm⟩|⟨e1,hm⟩
  ·refine aL e1 f3 ?_;obtain rfl:=zI hm
   exact aX (aK (retQ_0 results83 ⟨a20,c21,q,rfl,d0,e0⟩))
  ·refine aI e1 f3 (aW (aB (zO [0,3,4,5] (fun f w=>∃ d2 c5 d3 d4,fL a0 J r c d b2 d2 c5=some R/\f 1=bE d2/\f 2=zS d3 c5.length d4/\bY K d3 d4 c5/\aM G K (V::O::mN e r::box b1 140 u::L) w) ?_ ?_)))
   ·rintro f n8 ⟨d2,c5,d3,d4,hm,i0,i1,i2,i3⟩
    unfold fL at hm
    refine aJ (bF i0 (bF i1 ?_));obtain ⟨m,i4,hm⟩:=aC hm
    refine aQ (vs:=[bE d2,zS d3 c5.length d4]) call116 rfl (aEb i4 i3 hG i2) ?_
    rintro _ n9 ⟨rfl,f4⟩
    refine aG (v:=zT #[bE m.1,zB m.2]) (aA (cJ rfl rfl) (aA (cJ rfl rfl) (aD (v:=bE m.1) (aD (v:=zB m.2) (aF (aJ (aG (v:=zP (some ⟨b1,0,none⟩)) (aA (qL rfl) (aA (bC (t':=5) fa_140_1 rfl rfl) (aA (bQ sc_30 f4 (i:=3) rfl rfl rfl) ?_))))))))));obtain ⟨d5,i5,hm⟩:=aC hm
    refine aQ (vs:=[zS a17 a0.length c18]) call118 rfl (aJo i5 f4 h6) ?_
    rintro _ o0 ⟨a,b,y,rfl,b3,f5⟩
    refine aD (v:=zS a d5.length b) (aF (aJ (aG (v:=zS a d5.length b) (aG (v:=i64 c) (aG (v:=zS a28 b2.length c29) ?_)))));obtain ⟨b5,f6,hm⟩:=aC hm
    refine aA (cG gP rfl d1 rfl rfl rfl f6) ?_;obtain ⟨o1,i6,i7⟩:=bY.el (sz:=3) rfl d1 f6
    obtain ⟨f7,f8,rfl,i8⟩:=i7
    refine aA (dZ (t:=0) (vs:=[i64 b5.Definition,i64 b5.Part,zS f7 b5.Values.length f8]) vM f5 i6 rfl rfl rfl) ?_;obtain ⟨f9,i9,hm⟩:=aC hm
    refine aQ (vs:=[zA #[i64 b5.Definition,i64 b5.Part,zS f7 b5.Values.length f8]]) call119 rfl (aAZ i9 f5 i8) ?_
    rintro _ j0 ⟨o,p,rfl,g0⟩
    obtain ⟨o2,d6,hm⟩:=aC hm
    obtain ⟨⟨o3,o4⟩,g1⟩:=aCJ b3 d6
    have g2:=gC g0 (i:=1) rfl (kK b3 d6 g1)
    refine aA (fT gP rfl g2 rfl rfl rfl d6) ?_
    have j1:aM G K (bN 2 K o p f9.Values::bN 70 K a b (bK y d5)::rows [2] y d5::V::O::mN e r::box b1 140 u::L) j0:=g0
    obtain ⟨b6,a6,hm⟩:=aC hm
    refine aJR (i:=0) (tys:=[2]) (hd':=((o,p):Dp.Hd aZ)) (e':=(f9:aZ)) (hds:=y) sizeOf70 j1 b3 rfl rfl rfl rfl rfl d6 g1 a6 rfl ?_
    intro j2 (e2:aM G K (bN 70 K a b (bK (List.set y c.toNat (o,p)) b6)::rows [2] (List.set y c.toNat (o,p)) b6::V::O::mN e r::box b1 140 u::L) j2)
    refine aF (zO [0,3,4,12] (fun f w=>∃ h j,kX J r c d m h=some R/\f 14=zS a h.length b/\List.length j=List.length h/\aM G K (bN 70 K a b (bK j h)::rows [2] j h::V::O::mN e r::box b1 140 u::L) w) ?_ ?_)
    ·rintro f o5 ⟨h,j,hm,g3,g4,j3⟩
     unfold kX at hm
     refine aJ (aG (v:=bE m.1) ?_);obtain ⟨o6,j4,hm⟩:=aC hm
     refine aA (qH rfl rfl j4) (aG (v:=i64 c) ?_);obtain ⟨o7,j5,hm⟩:=aC hm
     refine aQ (vs:=[i64 c]) call86 rfl (uG j3 j5) ?_
     rintro _ o8 ⟨rfl,j6⟩
     obtain ⟨o9,j7,hm⟩:=aC hm
     refine aA (qH rfl rfl j7) ?_;obtain ⟨p0,j8,hm⟩:=aC hm
     refine aA (qH rfl rfl j8) (aG (v:=i64 d) ?_);obtain ⟨p1,j9,hm⟩:=aC hm
     refine aQ (vs:=[i64 d]) call86 rfl (uG j6 j9) ?_
     rintro _ p2 ⟨rfl,k0⟩
     obtain ⟨p3,k1,hm⟩:=aC hm
     refine aA (qH rfl rfl k1) ?_;obtain ⟨p4,k2,hm⟩:=aC hm
     refine aA (qH rfl rfl k2) (bF g3 ?_);obtain ⟨p5,p6,k3,p7,k4,k5⟩:=aM.lendD' (i:=0) k0 g4 rfl rfl
     obtain ⟨p8,k6,hm⟩:=aC hm
     refine aQ (vs:=[zS a h.length b]) call120 rfl (aLi k6 k4 hG k3) ?_
     rintro _ p9 ⟨rfl,k7⟩
     have c7:=k5 _ _ k7
     obtain ⟨c8,k8,hm⟩:=aC hm
     refine aA (qH rfl rfl k8) (aD (v:=bE c8) (aF (aJ (aG (v:=zP (some ⟨b1,0,none⟩)) (aA (qL rfl) (aA (bC (t':=7) aPG rfl rfl) (aA (bQ aOC c7 (i:=5) rfl rfl rfl) (aG (v:=bE c8) (aA (R_look1 (kv:=r) (k:=c8) (z:=(false:Bool)) runUnderlying138 ko_9 zeroValue4 c7 (i:=4) rfl rfl rfl) (aA (dA rfl) (aF ?_)))))))))))
     rcases aH hm with ⟨e3,hm⟩|⟨e3,hm⟩
     ·refine aL e3 rfl (aJ (aG (v:=zP (some ⟨b1,0,none⟩)) (aA (qL rfl) (aA (bC (t':=7) aPG rfl rfl) (aA (bQ aOC c7 (i:=5) rfl rfl rfl) (aG (v:=bE c8) ?_))))));obtain ⟨b7,k9,hm⟩:=aC hm
      refine aPx (i:=4) (k:=c8) (v:=true) runUnderlying138 ko_9 c7 rfl rfl rfl rfl k9 (fun e4 (g5:aM G K (bN 70 K a b (bK j h)::rows [2] j h::V::O::mN e b7::box b1 140 u::L) e4)=>(aF (aU (aG (v:=zP (some ⟨b1,0,none⟩)) (aG (v:=zP (some ⟨b1,0,none⟩)) (aA (qL rfl) (aA (bC (t':=6) aIX rfl rfl) (aA (bQ sc_94 g5 (i:=5) rfl rfl rfl) (aG (v:=bE m.1) (aG (v:=i64 c) (aG (v:=i64 d) (bF g3 (aA (lQ (vs:=[(0,bE m.1),(1,i64 c),(2,i64 d),(3,zS a h.length b)]) (cs:=[bE m.1,i64 c,i64 d,zS a h.length b]) bs_99 rfl (by kernel_rfl)) ?_)))))))))))))
      have l0:aM G K (bN 70 K a b (bK j h)::aDG [2] j h::V::O::mN e b7::box b1 140 u::L) e4:=aM.closeL (i:=1) g5 rfl g4
      have l1:aM G K (rows [70,2] ([((a,b),j)]:List (Dp.Hd bV)) ([⟨m.1,c,d,h⟩]:List bV)::V::O::mN e b7::box b1 140 u::L) e4:=aM.rowsOneS (tys:=[70,2]) (hd:=(((a,b),j):Dp.Hd bV)) (x:=(⟨m.1,c,d,h⟩:bV)) l0
      refine gA (Kt:=K) (xs:=bK ([((a,b),j)]:List (Dp.Hd bV)) ([⟨m.1,c,d,h⟩]:List bV)) (cs:=[bE m.1,i64 c,i64 d,zS a h.length b]) (vs:=[(0,zA #[bE m.1,i64 c,i64 d,zS a h.length b])]) qI ez_99 rfl rfl l1 rfl (by kernel_rfl) rfl rfl rfl ⟨rfl,trivial⟩ ?_
      intro l2 l3 (l4:aM G K (bN 99 K l2 1 (bK ([((a,b),j)]:List (Dp.Hd bV)) ([⟨m.1,c,d,h⟩]:List bV))::rows [70,2] ([((a,b),j)]:List (Dp.Hd bV)) ([⟨m.1,c,d,h⟩]:List bV)::V::O::mN e b7::box b1 140 u::L) l3)
      obtain ⟨b4,g6,hm⟩:=aC hm
      refine aOt (i:=0) (tys:=[70,2]) (hds:=q) (hds2:=([((a,b),j)]:List (Dp.Hd bV))) qI underlying94 ez_99 rfl rfl l4 d0 rfl rfl rfl g6 rfl rfl rfl rfl ?_
      intro b8 b9 l5 (l6:aM G K (bN 99 K b8 b9 (bK (q++([((a,b),j)]:List (Dp.Hd bV))) b4)::rows [70,2] (q++([((a,b),j)]:List (Dp.Hd bV))) b4::mN e b7::box b1 140 u::L) l5)
      refine aA (qL rfl) (aA (bC (t':=6) aIX rfl rfl) (eD (i:=3) (ns:=[zS b8 b4.length b9]) (us:=[zS a2 a7.length c3,zS a5 a9.length c6,zS a8 b0.length c9,zS a11 a4.length c12,zS a14 a3.length c15,zS a17 a0.length c18,zS b8 b4.length b9,zM (some e)]) sizeOf94 l6 rfl rfl rfl rfl rfl (gJ rfl) rfl rfl ?_))
      intro l7 (l8:aM G K (bN 99 K b8 b9 (bK (q++([((a,b),j)]:List (Dp.Hd bV))) b4)::rows [70,2] (q++([((a,b),j)]:List (Dp.Hd bV))) b4::mN e b7::box b1 140 [zS a2 a7.length c3,zS a5 a9.length c6,zS a8 b0.length c9,zS a11 a4.length c12,zS a14 a3.length c15,zS a17 a0.length c18,zS b8 b4.length b9,zM (some e)]::L) l7)
      obtain rfl:=zI hm
      exact cW (aHy results83 ⟨b8,b9,(q++([((a,b),j)]:List (Dp.Hd bV))),rfl,(aLs d0 rfl g6),l8⟩)
     ·refine aI e3 rfl ?_;obtain rfl:=zI hm
      exact aW (aHy results83 ⟨a20,c21,q,rfl,d0,(aM.arr 2 [] c7 rfl)⟩)
    refine aJ (aG (v:=i64 d) (aA (sO rfl rfl) (aF ?_)))
    rcases aH hm with ⟨e5,hm⟩|⟨e5,hm⟩
    ·refine aL e5 rfl (aU (bF (v:=zS a b6.length b) (Eq.trans rfl (congrArg (fun n=>zS a n b) (cE a6))) (aG (v:=i64 d) (aG (v:=zS a28 b2.length c29) ?_))));obtain ⟨c0,g7,hm⟩:=aC hm
     refine aA (cG gP rfl d1 rfl rfl rfl g7) ?_;obtain ⟨q0,m1,m2⟩:=bY.el (sz:=3) rfl d1 g7
     obtain ⟨g8,g9,rfl,m3⟩:=m2
     refine aA (dZ (t:=0) (vs:=[i64 c0.Definition,i64 c0.Part,zS g8 c0.Values.length g9]) vM e2 m1 rfl rfl rfl) ?_;obtain ⟨h0,m4,hm⟩:=aC hm
     refine aQ (vs:=[zA #[i64 c0.Definition,i64 c0.Part,zS g8 c0.Values.length g9]]) call119 rfl (aAZ m4 e2 m3) ?_
     rintro _ m5 ⟨c1,c2,rfl,m6⟩
     obtain ⟨q1,e6,hm⟩:=aC hm
     refine aA (fT gP rfl g2 rfl rfl rfl e6) ?_;obtain ⟨⟨q2,q3⟩,m7⟩:=aCJ (aCQ (hd:=((o,p):Dp.Hd aZ)) b3 a6) e6
     have m8:aM G K (bN 2 K c1 c2 h0.Values::bN 70 K a b (bK (List.set y c.toNat (o,p)) b6)::rows [2] (List.set y c.toNat (o,p)) b6::V::O::mN e r::box b1 140 u::L) m5:=m6
     obtain ⟨e7,e8,hm⟩:=aC hm
     refine aJR (i:=0) (tys:=[2]) (hd':=((c1,c2):Dp.Hd aZ)) (e':=(h0:aZ)) (hds:=(List.set y c.toNat (o,p))) sizeOf70 m8 (aCQ (hd:=((o,p):Dp.Hd aZ)) b3 a6) rfl rfl rfl rfl rfl e6 m7 e8 rfl ?_
     intro m9 (n0:aM G K (bN 70 K a b (bK (List.set (List.set y c.toNat (o,p)) d.toNat (c1,c2)) e7)::rows [2] (List.set (List.set y c.toNat (o,p)) d.toNat (c1,c2)) e7::V::O::mN e r::box b1 140 u::L) m9)
     exact aF ⟨aT,e7,(List.set (List.set y c.toNat (o,p)) d.toNat (c1,c2)),hm,(Eq.trans (Eq.trans rfl (congrArg (fun n=>zS a n b) (cE a6))) (congrArg (fun n=>zS a n b) (cE e8))),(aCQ (hd:=((c1,c2):Dp.Hd aZ)) (aCQ (hd:=((o,p):Dp.Hd aZ)) b3 a6) e8),n0⟩
    ·exact aI e5 rfl (aW (aB ⟨aT,b6,(List.set y c.toNat (o,p)),hm,(Eq.trans rfl (congrArg (fun n=>zS a n b) (cE a6))),(aCQ (hd:=((o,p):Dp.Hd aZ)) b3 a6),e2⟩))
   refine aJ (aG (v:=zP (some ⟨b1,0,none⟩)) (aA (qL rfl) (aA (bC (t':=0) aMb rfl rfl) (aA (bC (t':=4) aEu rfl rfl) (aA (bQ zV e0 (i:=3) rfl rfl rfl) (aG (v:=bE a1) ?_))))));obtain ⟨q4,n1,hm⟩:=aC hm
   refine aQ (vs:=[zS a14 a3.length c15,bE a1]) call117 rfl (lB n1 e0 h5) ?_
   rintro _ q5 ⟨rfl,h1⟩
   refine aF ?_
   rcases aH hm with ⟨e9,hm⟩|⟨e9,hm⟩
   ·exact aL e9 rfl (aU (aD (v:=bE ([116,97,117]:bJ)) (aD (v:=zS none 0 0) (aF ⟨aT,([116,97,117]:bJ),[],none,0,hm,rfl,rfl,aCP _,h1⟩))))
   ·exact aI e9 rfl (aW (aB ⟨aT,a1,c4,a25,c26,hm,rfl,rfl,h8,h1⟩))
 refine aU (aG (v:=bE a1) (aA (vO rfl rfl) (aG (v:=zB (!(a1 == ([116,97,117]:bJ)))) ?_)))
 rcases aH hm with ⟨l,hm⟩|⟨l,hm⟩
 ·refine bB l rfl rfl (aG (v:=zP (some ⟨b1,0,none⟩)) (bB l rfl rfl (aA (qL rfl) (bB l rfl rfl (aA (bC (t':=0) aMb rfl rfl) (bB l rfl rfl (aA (bC (t':=3) aCS rfl rfl) (bB l rfl rfl (aA (bQ zV hs (i:=3) rfl rfl rfl) (bB l rfl rfl (aG (v:=bE a1) (bB l rfl rfl ?_))))))))))));obtain ⟨h2,n2,hm⟩:=aC hm
  refine aQ (vs:=[zS a11 a4.length c12,bE a1]) call117 rfl (lB n2 hs h3) ?_
  rintro _ q6 ⟨rfl,n3⟩
  exact bB l rfl rfl (aA (dA rfl) (aA (bI (v:=zB (!h2)) l rfl rfl) (aF ⟨aT,!h2,hm,rfl,n3⟩)))
 ·exact aV l rfl rfl (aV l rfl rfl (aV l rfl rfl (aV l rfl rfl (aV l rfl rfl (aV l rfl rfl (aV l rfl rfl (aV l rfl rfl (aA (bL (v:=zB false) l rfl rfl) (aF ⟨aT,false,hm,rfl,hs⟩)))))))))
theorem yJ {b c:(List Int)} {R:Bool} (hm:fW b c=some R) (j:aM G K (L) w) (k:bY K a1 c2 b) (l:bY K a4 c5 c):
  Calls prog 122 ([zS a1 b.length c2,zS a4 c.length c5]:List Value).toArray w (eK fun v w'=>v=zB R/\aM G K (L) w'):=by
 refine aP func122 rfl (by kernel_rfl) (by show (2:Nat)<=26;decide) ?_;unfold fW at hm
 refine aJ (aD (v:=zB false) (aF (aN (aJ (aG (v:=zS a1 b.length c2) (aA (bO (len:=b.length) fN rfl) (aG (v:=zS a4 c.length c5) (aA (bO (len:=c.length) fN rfl) (aA (fV rfl rfl) (aF ?_))))))))))
 rcases aH hm with ⟨e,hm⟩|⟨e,hm⟩
 ·refine aL e rfl (aJ (aD (v:=zB false) (aF ?_)));obtain rfl:=zI hm
  exact aX (aK (aO results122 rfl ⟨rfl,j⟩))
 ·refine aI e rfl (aW (aB (aN (aJ (aG (v:=zS a1 b.length c2) (aA (bO (len:=b.length) fN rfl) (aG (v:=i64 0) (aF (bM [] (fun f w=>iF=some R/\aM G K (L) w) ?_ ?_)))))))))
  ·rintro f w9 ⟨hm,q⟩
   unfold iF at hm
   refine aB (aJ (aD (v:=zB true) (aF ?_)));obtain rfl:=zI hm
   exact aX (aO results122 rfl ⟨rfl,q⟩)
  obtain ⟨a3,u,ho⟩:=aC hm
  refine dP [0,1,12] u (fun d f w=>f 13=i64 d/\aM G K (L) w) ?_ ?_
  ·exact ⟨rfl,j⟩
  ·rintro d a5 f a6 hm hr ⟨g,a⟩
   unfold gE at hm
   refine aJ (aA (cF g rfl) (aF (aN ?_)))
   rcases aH hm with ⟨h,hm⟩|⟨h,hm⟩
   ·refine aL h rfl (aW (aB (aN (bX (aJ (bF g (aD (v:=i64 d) (aF (aN (dU (C:=fun w'=>aM G K (L) w') cI (by kernel_rfl) (aM.mono a (eH.drew _)) (bG (fun _ a=>bP (v:=zS a1 b.length c2) rfl) (bG (fun _ a=>bP (v:=i64 d) rfl) ?_))))))))))));obtain ⟨a7,m,hm⟩:=aC hm
    refine bG (fun _ a=>cG fN rfl k rfl rfl rfl m) ?_;obtain ⟨a8,x,y⟩:=bY.el (sz:=1) rfl k m
    cases y
    refine bG (fun _ a=>cC (t:=0) dC a x rfl rfl) (bG (fun _ a=>bP (v:=zS a4 c.length c5) rfl) (bG (fun _ a=>bP (v:=i64 d) rfl) ?_));obtain ⟨a9,n,hm⟩:=aC hm
    refine bG (fun _ a=>cG fN rfl l rfl rfl rfl n) ?_;obtain ⟨b0,z,J⟩:=bY.el (sz:=1) rfl l n
    cases J
    refine bG (fun _ a=>cC (t:=0) dC a z rfl rfl) (bG (fun _ a=>fV rfl rfl) (eT (fun b1 o=>(aB ?_))))
    rcases aH hm with ⟨i,hm⟩|⟨i,hm⟩
    ·refine aL i rfl (aJ (aD (v:=zB false) (aF (aX (aY (aK (aK ?_)))))))
     have V:=hr _ (zI hm).symm
     subst V
     have hm:(some false)=some R:=ho
     clear hr ho
     obtain rfl:=zI hm
     exact aY (aK (aK (aO results122 rfl ⟨rfl,o⟩)))
    ·exact aI i rfl (aW (bH (aB (aU (aA (cA g rfl) (aG (v:=i64 (wr (d+1))) (aF ⟨_,(zI hm).symm,aT,rfl,o⟩)))))))
   ·refine aI h rfl (cD (bA (bA ?_)))
    have a0:=hr _ (zI hm).symm
    subst a0
    have hm:(iF)=some R:=ho
    clear hr ho
    exact bR (aB ⟨aT,hm,a⟩)
theorem aEU {j:(List Definition)} {k:(List bT)} {l:(List bU)} {m n:(List bJ)} {p:(List aZ)} {c0:(List bV)} {d2:List (Dp.Hd bV)} {g1:(List (bJ × Bool))} {e:Nat} {c1 c2:Int} {a b:(List cM)} {R:((List bV) × (List (bJ × Bool)))} (hm:oV j k l m n p c0 g1 c1 c2 a b=some R) (hs:aM G K (bN 99 K a20 c21 (bK d2 c0)::rows [70,2] d2 c0::mN e g1::box b1 140 [zS a2 j.length c3,zS a5 k.length c6,zS a8 l.length c9,zS a11 m.length c12,zS a14 n.length c15,zS a17 p.length c18,zS a20 c0.length c21,zM (some e)]::L) w) (hG:G.lo=0) (h4:bY K a2 c3 j) (h7:bY K a5 c6 k) (g4:bY K a8 c9 l) (g5:bY K a11 c12 m) (g6:bY K a14 c15 n) (i7:bY K a17 c18 p) (i8:List.length d2=List.length c0) (g7:bY K a25 c26 a) (g8:bY K a28 c29 b):
  Calls prog 84 ([zP (some ⟨b1,0,none⟩),i64 c1,i64 c2,zS a25 a.length c26,zS a28 b.length c29]:List Value).toArray w (eK fun v w'=>∃ g9 h0 e7,v=zT #[]/\List.length e7=List.length R.1/\aM G K (bN 99 K g9 h0 (bK e7 R.1)::rows [70,2] e7 R.1::mN e R.2::box b1 140 [zS a2 j.length c3,zS a5 k.length c6,zS a8 l.length c9,zS a11 m.length c12,zS a14 n.length c15,zS a17 p.length c18,zS g9 R.1.length h0,zM (some e)]::L) w'):=by
 refine aP func84 rfl (by kernel_rfl) (by show (5:Nat)<=77;decide) ?_;unfold oV at hm
 refine aJ (aG (v:=zS a25 a.length c26) (aA (bO (len:=a.length) lY rfl) (aG (v:=i64 0) (aF (bM [] (fun f w=>∃ b6 e8 d3 d4 c4,iN b6 e8=some R/\List.length c4=List.length b6/\aM G K (bN 99 K d3 d4 (bK c4 b6)::rows [70,2] c4 b6::mN e e8::box b1 140 [zS a2 j.length c3,zS a5 k.length c6,zS a8 l.length c9,zS a11 m.length c12,zS a14 n.length c15,zS a17 p.length c18,zS d3 b6.length d4,zM (some e)]::L) w) ?_ ?_)))))
 ·rintro f o5 ⟨b6,e8,d3,d4,c4,hm,i9,j0⟩
  unfold iN at hm
  obtain rfl:=zI hm
  exact aHy results84 ⟨d3,d4,c4,rfl,i9,j0⟩
 obtain ⟨o6,j2,ho⟩:=aC hm
 refine jP [0,1,2,4,22,23] j2 (fun a0 c5 b7 f w=>∃ a9 b0 a7,f 24=i64 b7/\List.length a7=List.length a0/\aM G K (bN 99 K a9 b0 (bK a7 a0)::rows [70,2] a7 a0::mN e c5::box b1 140 [zS a2 j.length c3,zS a5 k.length c6,zS a8 l.length c9,zS a11 m.length c12,zS a14 n.length c15,zS a17 p.length c18,zS a9 a0.length b0,zM (some e)]::L) w) ?_ ?_
 ·exact ⟨a20,c21,d2,rfl,i8,hs⟩
 ·rintro a0 c5 b7 e9 f o7 hm hr ⟨a9,b0,a7,f0,h1,f1⟩
  unfold gH at hm
  refine aJ (aA (cF f0 rfl) (aF (aN ?_)))
  rcases aH hm with ⟨f2,hm⟩|⟨f2,hm⟩
  ·refine aL f2 rfl (aW (aB (aN (bM [0,1,2,4,22,23,24] (fun f w=>∃ b8 f3 d5 d6 c7,mK b7 b8 f3=some e9/\List.length c7=List.length b8/\aM G K (bN 99 K d5 d6 (bK c7 b8)::rows [70,2] c7 b8::mN e f3::box b1 140 [zS a2 j.length c3,zS a5 k.length c6,zS a8 l.length c9,zS a11 m.length c12,zS a14 n.length c15,zS a17 p.length c18,zS d5 b8.length d6,zM (some e)]::L) w) ?_ ?_))))
   ·rintro f o8 ⟨b8,f3,d5,d6,c7,hm,j3,j4⟩
    unfold mK at hm
    exact aB (aU (aA (cA f0 rfl) (aG (v:=i64 (wr (b7+1))) (aF ⟨_,(zI hm).symm,aT,d5,d6,c7,rfl,j3,j4⟩))))
   refine aJ ?_;obtain ⟨c,h2,hm⟩:=aC hm
   refine aA (cG lY rfl g7 rfl rfl f0 h2) ?_;obtain ⟨o9,j5,j6⟩:=bY.el (sz:=4) rfl g7 h2
   obtain ⟨q,r,rfl,j7⟩:=j6
   refine aA (dZ (t:=0) (vs:=[bE c.B,i64 c.Next.Definition,i64 c.Next.Part,zS q c.Next.Values.length r]) aJV f1 j5 rfl rfl rfl) (eA (vs:=[bE ([]:bJ),i64 0,i64 0,zS none 0 0]) zeroValue127 f1 rfl (fun b2 p0 j8=>(eD (i:=0) (ns:=[bE c.B,i64 c.Next.Definition,i64 c.Next.Part,zS q c.Next.Values.length r]) (us:=[bE c.B,i64 c.Next.Definition,i64 c.Next.Part,zS q c.Next.Values.length r]) sizeOf127 j8 rfl rfl rfl rfl rfl (gJ rfl) rfl rfl (fun j9 (h3:aM G K (box b2 127 [bE c.B,i64 c.Next.Definition,i64 c.Next.Part,zS q c.Next.Values.length r]::bN 99 K a9 b0 (bK a7 a0)::rows [70,2] a7 a0::mN e c5::box b1 140 [zS a2 j.length c3,zS a5 k.length c6,zS a8 l.length c9,zS a11 m.length c12,zS a14 n.length c15,zS a17 p.length c18,zS a9 a0.length b0,zM (some e)]::L) j9)=>(aF (aJ (aA (bC (t':=0) tA rfl rfl) (aA (bQ fA h3 (i:=0) rfl rfl rfl) ?_))))))))
   obtain ⟨o,k0,hm⟩:=aC hm
   refine aQ (vs:=[bE c.B]) call82 rfl (aBq k0 h3 hG) ?_
   rintro _ p1 ⟨z,J,rfl,k1⟩
   refine aG (v:=zT #[bE o.1,zS z o.2.1.length J,zB o.2.2]) (aA (cJ rfl rfl) (aA (cJ rfl rfl) (aA (cJ rfl rfl) (aD (v:=bE o.1) (aD (v:=zS z o.2.1.length J) (aD (v:=zB o.2.2) (aF (aJ (aG (v:=zS a28 b.length c29) (aA (bO (len:=b.length) lY rfl) (aG (v:=i64 0) (aF (bM [0,1,2,4,22,23,24] (fun f w=>∃ b3 d7 d8 d9 c8,iO b7 b3 d7=some e9/\List.length c8=List.length b3/\aM G K (bN 99 K d8 d9 (bK c8 b3)::rows [70,2] c8 b3::mN e d7::box b1 140 [zS a2 j.length c3,zS a5 k.length c6,zS a8 l.length c9,zS a11 m.length c12,zS a14 n.length c15,zS a17 p.length c18,zS d8 b3.length d9,zM (some e)]::L) w) ?_ ?_)))))))))))))
   ·rintro f p2 ⟨b3,d7,d8,d9,c8,hm,k2,k3⟩
    unfold iO at hm
    exact bH (aB ⟨aT,b3,d7,d8,d9,c8,hm,k2,k3⟩)
   obtain ⟨p3,k4,ho⟩:=aC hm
   refine jP [0,1,2,4,11,12,13,22,23,24,35,36] k4 (fun h a1 d0 f w=>∃ x y u,f 37=i64 d0/\List.length u=List.length h/\aM G K (bN 2 K z J o.2.1::box b2 127 [bE c.B,i64 c.Next.Definition,i64 c.Next.Part,zS q c.Next.Values.length r]::bN 99 K x y (bK u h)::rows [70,2] u h::mN e a1::box b1 140 [zS a2 j.length c3,zS a5 k.length c6,zS a8 l.length c9,zS a11 m.length c12,zS a14 n.length c15,zS a17 p.length c18,zS x h.length y,zM (some e)]::L) w) ?_ ?_
   ·exact ⟨a9,b0,a7,rfl,h1,k1⟩
   ·rintro h a1 d0 h5 f p4 hm hr ⟨x,y,u,f4,f5,f6⟩
    unfold gG at hm
    refine aJ (aA (cF f4 rfl) (aF (aN ?_)))
    rcases aH hm with ⟨f7,hm⟩|⟨f7,hm⟩
    ·refine aL f7 rfl (aW (aB (aN (bM [0,1,2,4,11,12,13,22,23,24,35,36,37] (fun f w=>∃ b9 f8 e0 e1 d1,iP d0 b9 f8=some h5/\List.length d1=List.length b9/\aM G K (bN 99 K e0 e1 (bK d1 b9)::rows [70,2] d1 b9::bN 2 K z J o.2.1::box b2 127 [bE c.B,i64 c.Next.Definition,i64 c.Next.Part,zS q c.Next.Values.length r]::mN e f8::box b1 140 [zS a2 j.length c3,zS a5 k.length c6,zS a8 l.length c9,zS a11 m.length c12,zS a14 n.length c15,zS a17 p.length c18,zS e0 b9.length e1,zM (some e)]::L) w) ?_ ?_))))
     ·rintro f p5 ⟨b9,f8,e0,e1,d1,hm,k5,k6⟩
      unfold iP at hm
      exact aB (aU (aA (cA f4 rfl) (aG (v:=i64 (wr (d0+1))) (aF ⟨_,(zI hm).symm,aT,e0,e1,d1,rfl,k5,(aM.arr 4 [2,3,0,1] k6 rfl)⟩))))
     refine aJ ?_;obtain ⟨d,h6,hm⟩:=aC hm
     refine aA (cG lY rfl g8 rfl rfl f4 h6) ?_;obtain ⟨p6,k7,k8⟩:=bY.el (sz:=4) rfl g8 h6
     obtain ⟨V,O,rfl,k9⟩:=k8
     refine aA (dZ (t:=0) (vs:=[bE d.B,i64 d.Next.Definition,i64 d.Next.Part,zS V d.Next.Values.length O]) aJV f6 k7 rfl rfl rfl) (eA (vs:=[bE ([]:bJ),i64 0,i64 0,zS none 0 0]) zeroValue127 f6 rfl (fun e2 p7 l0=>(eD (i:=0) (ns:=[bE d.B,i64 d.Next.Definition,i64 d.Next.Part,zS V d.Next.Values.length O]) (us:=[bE d.B,i64 d.Next.Definition,i64 d.Next.Part,zS V d.Next.Values.length O]) sizeOf127 l0 rfl rfl rfl rfl rfl (gJ rfl) rfl rfl (fun l1 (h8:aM G K (box e2 127 [bE d.B,i64 d.Next.Definition,i64 d.Next.Part,zS V d.Next.Values.length O]::bN 2 K z J o.2.1::box b2 127 [bE c.B,i64 c.Next.Definition,i64 c.Next.Part,zS q c.Next.Values.length r]::bN 99 K x y (bK u h)::rows [70,2] u h::mN e a1::box b1 140 [zS a2 j.length c3,zS a5 k.length c6,zS a8 l.length c9,zS a11 m.length c12,zS a14 n.length c15,zS a17 p.length c18,zS x h.length y,zM (some e)]::L) l1)=>(aF (aJ (aA (bC (t':=0) tA rfl rfl) (aA (bQ fA h8 (i:=0) rfl rfl rfl) ?_))))))))
     obtain ⟨a3,l2,hm⟩:=aC hm
     refine aQ (vs:=[bE d.B]) call82 rfl (aBq l2 h8 hG) ?_
     rintro _ p8 ⟨e3,e4,rfl,h9⟩
     refine aG (v:=zT #[bE a3.1,zS e3 a3.2.1.length e4,zB a3.2.2]) (aA (cJ rfl rfl) (aA (cJ rfl rfl) (aA (cJ rfl rfl) (aD (v:=bE a3.1) (aD (v:=zS e3 a3.2.1.length e4) (aD (v:=zB a3.2.2) (aF (aJ (aG (v:=zP (some ⟨b1,0,none⟩)) (aA (qL rfl) (aA (bC (t':=0) aMb rfl rfl) (aA (fQ (us:=[zS a2 j.length c3,zS a5 k.length c6,zS a8 l.length c9,zS a11 m.length c12,zS a14 n.length c15]) aFf h9 (i:=7) rfl rfl rfl rfl) (aG (v:=bE o.1) (aG (v:=bE a3.1) ?_))))))))))))))
     obtain ⟨a4,l3,hm⟩:=aC hm
     refine aQ (vs:=[zA #[zS a2 j.length c3,zS a5 k.length c6,zS a8 l.length c9,zS a11 m.length c12,zS a14 n.length c15],bE o.1,bE a3.1]) call121 rfl (aGE (s_:=⟨j,k,l,m,n⟩) l3 h9 h4 h7 g4 g5 g6) ?_
     rintro _ p9 ⟨rfl,i0⟩
     refine aG (v:=zT #[bE a4.1,zB a4.2]) (aA (cJ rfl rfl) (aA (cJ rfl rfl) (aD (v:=bE a4.1) (aD (v:=zB a4.2) (aF (aN (cP [0,1,2,4,11,12,13,16,20,22,23,24,35,36,37] (fun f w=>∃ f9,gF j k l m n p c1 c2 c o h a1 d0 d a4 f9=some h5/\f 63=zB f9/\aM G K (box e2 127 [bE d.B,i64 d.Next.Definition,i64 d.Next.Part,zS V d.Next.Values.length O]::bN 2 K z J o.2.1::box b2 127 [bE c.B,i64 c.Next.Definition,i64 c.Next.Part,zS q c.Next.Values.length r]::bN 99 K x y (bK u h)::rows [70,2] u h::mN e a1::box b1 140 [zS a2 j.length c3,zS a5 k.length c6,zS a8 l.length c9,zS a11 m.length c12,zS a14 n.length c15,zS a17 p.length c18,zS x h.length y,zM (some e)]::L) w) ?_ ?_)))))))
     ·rintro f q0 ⟨f9,hm,i1,e5⟩
      unfold gF at hm
      refine aB ?_
      rcases aH hm with ⟨g0,hm⟩|⟨g0,hm⟩
      ·refine aL g0 i1 (aU (aG (v:=zP (some ⟨b1,0,none⟩)) (aG (v:=bE a4.1) (aG (v:=zS z o.2.1.length J) (aG (v:=i64 c1) (aG (v:=i64 c2) (aA (bC (t':=1) zX rfl rfl) (aA (fQ (us:=[i64 c.Next.Definition,i64 c.Next.Part,zS q c.Next.Values.length r]) vM e5 (i:=2) rfl rfl rfl rfl) (aA (bC (t':=1) zX rfl rfl) (aA (fQ (us:=[i64 d.Next.Definition,i64 d.Next.Part,zS V d.Next.Values.length O]) vM e5 (i:=0) rfl rfl rfl rfl) (gA (Kt:=K) (xs:=([c.Next,d.Next]:List aZ)) (cs:=[i64 c.Next.Definition,i64 c.Next.Part,zS q c.Next.Values.length r,i64 d.Next.Definition,i64 d.Next.Part,zS V d.Next.Values.length O]) (vs:=[(0,zA #[i64 c.Next.Definition,i64 c.Next.Part,zS q c.Next.Values.length r]),(1,zA #[i64 d.Next.Definition,i64 d.Next.Part,zS V d.Next.Values.length O])]) gP aGt rfl rfl e5 rfl (by kernel_rfl) rfl rfl rfl ⟨⟨q,r,rfl,j7⟩,⟨V,O,rfl,k9⟩,trivial⟩ (fun i2 i3 (l4:aM G K (bN 70 K i2 2 ([c.Next,d.Next]:List aZ)::box e2 127 [bE d.B,i64 d.Next.Definition,i64 d.Next.Part,zS V d.Next.Values.length O]::bN 2 K z J o.2.1::box b2 127 [bE c.B,i64 c.Next.Definition,i64 c.Next.Part,zS q c.Next.Values.length r]::bN 99 K x y (bK u h)::rows [70,2] u h::mN e a1::box b1 140 [zS a2 j.length c3,zS a5 k.length c6,zS a8 l.length c9,zS a11 m.length c12,zS a14 n.length c15,zS a17 p.length c18,zS x h.length y,zM (some e)]::L) i3)=>?_))))))))))))
       obtain ⟨q1,b4,l5,l6,l7⟩:=aM.lendSp l4 (zR _) zt2
       obtain ⟨l8,b5,l9,m0,m1⟩:=aM.lendSp l6 b4 .head
       have m2:aM G l8 (bN 99 K x y (bK u h)::rows [70,2] u h::mN e a1::box b1 140 [zS a2 j.length c3,zS a5 k.length c6,zS a8 l.length c9,zS a11 m.length c12,zS a14 n.length c15,zS a17 p.length c18,zS x h.length y,zM (some e)]::box e2 127 [bE d.B,i64 d.Next.Definition,i64 d.Next.Part,zS V d.Next.Values.length O]::box b2 127 [bE c.B,i64 c.Next.Definition,i64 c.Next.Part,zS q c.Next.Values.length r]::L) i3:=(aM.arr 6 [2,3,4,5,0,1] m0 rfl)
       obtain ⟨i4,m3,hm⟩:=aC hm
       refine aQ (vs:=[zP (some ⟨b1,0,none⟩),bE a4.1,zS z o.2.1.length J,i64 c1,i64 c2,zS i2 ([c.Next,d.Next]:List aZ).length 2]) call83 rfl (aCz m3 m2 hG (h4.mono (zL b4 b5)) (h7.mono (zL b4 b5)) (g4.mono (zL b4 b5)) (g5.mono (zL b4 b5)) (g6.mono (zL b4 b5)) (i7.mono (zL b4 b5)) f5 (l5.mono b5) l9) ?_
       rintro _ q2 ⟨m4,m5,m6,rfl,m7,m8⟩
       have m9:=m1 _ _ m8
       have n0:=l7 _ _ m9
       exact cW (bH (aB ⟨aT,i4.1,i4.2,m4,m5,m6,hm,m7,(aM.arr 8 [2,3,0,7,4,5] n0 rfl)⟩))
      ·exact aI g0 i1 (aW (bH (aB ⟨aT,h,a1,x,y,u,hm,f5,(aM.arr 5 [3,4,1,2] e5 rfl)⟩)))
     refine aU (aG (v:=zB a4.2) (aG (v:=zB a4.2) ?_))
     rcases aH hm with ⟨a6,hm⟩|⟨a6,hm⟩
     ·refine bB a6 rfl rfl (aG (v:=zS z o.2.1.length J) (bB a6 rfl rfl (aG (v:=zS e3 a3.2.1.length e4) (bB a6 rfl rfl ?_))));obtain ⟨q3,n1,n2,n3,n4⟩:=aM.lendSp i0 (zR _) zt2
      obtain ⟨q4,n5,n6,n7,n8⟩:=aM.lendSp n3 n1 .head
      obtain ⟨i5,n9,hm⟩:=aC hm
      refine aQ (vs:=[zS z o.2.1.length J,zS e3 a3.2.1.length e4]) call122 rfl (yJ n9 n7 (n2.mono n5) n6) ?_
      rintro _ q5 ⟨rfl,o0⟩
      have o1:=n8 _ _ o0
      have o2:=n4 _ _ o1
      exact aA (bI (v:=zB i5) a6 rfl rfl) (aF ⟨aT,i5,hm,rfl,(aM.arr 3 [2,0] o2 rfl)⟩)
     ·exact aV a6 rfl rfl (aV a6 rfl rfl (aV a6 rfl rfl (aA (bL (v:=zB false) a6 rfl rfl) (aF ⟨aT,false,hm,rfl,(aM.arr 1 [] i0 rfl)⟩))))
    ·refine aI f7 rfl (cD (bA (bA ?_)))
     have o3:=hr _ (zI hm).symm
     subst o3
     have hm:(iO b7 h a1)=some e9:=ho
     clear hr ho
     exact bR (aB ⟨aT,h,a1,x,y,u,hm,f5,(aM.arr 2 [] f6 rfl)⟩)
  ·refine aI f2 rfl (cD (bA (bA ?_)))
   have o4:=hr _ (zI hm).symm
   subst o4
   have hm:(iN a0 c5)=some R:=ho
   clear hr ho
   exact bR (aB ⟨aT,a0,c5,a9,b0,a7,hm,h1,f1⟩)
end Gv
