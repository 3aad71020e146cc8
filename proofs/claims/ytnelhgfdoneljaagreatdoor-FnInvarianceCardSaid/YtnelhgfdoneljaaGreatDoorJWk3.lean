/- Walks, printed by program. -/
import Derived.Test.YtnelhgfdoneljaaGreatDoorJWk1
set_option linter.all false
namespace Gv
open Gv.Hp renaming le_refl→zR
open Go.Value renaming slice→zS,bool→zB
open Option.some renaming inj→zI
open Gv.Hp renaming le_trans→zL
open Go Go.Proofs Go.Proofs.Tryz
set_option maxRecDepth 20000
set_option maxHeartbeats 40000000
variable {G:tO} {K:Hp} {L:List fJ} {w:World} {a1 a4 a7 a10 a2:Option Addr} {c2 c5 c8 c11 b1 c3:Nat}
theorem sC {a b:(List Int)} {R:Bool} (hm:vK a b=some R) (g:aF G K (L) w) (h:bL K a1 c2 a) (i:bL K a4 c5 b):
  Calls prog 65 ([zS a1 a.length c2,zS a4 b.length c5]:List Value).toArray w (eC fun v w'=>v=zB R/\aF G K (L) w'):=by
 refine aN func65 rfl (by kernel_rfl) (by show (2:Nat)<=26;decide) ?_;unfold vK at hm
 refine aJ (aI (v:=zB false) (aH (aK (aJ (aG (v:=zS a1 a.length c2) (aD (bC (len:=a.length) bN rfl) (aG (v:=zS a4 b.length c5) (aD (bC (len:=b.length) bN rfl) (aD (aFx rfl rfl) (aH ?_))))))))))
 rcases aL hm with ⟨c,hm⟩|⟨c,hm⟩
 ·exact aM
 ·refine bG c rfl (aW (aC (aK (aJ (aI (v:=i64 0) (aH (aO [] (fun f w=>aGB=some R/\aF G K (L) w) aM ?_)))))));obtain ⟨j,d,ho⟩:=aB hm
  exact eY [0,1] d (fun e f w=>f 5=i64 e/\aF G K (L) w) aM aM
theorem aDM {t:bQ} {j:Nat} {p:(List Int)} {k:Int} {R:(List Bool)} (hm:aBm t p k=some R) (hs:aF G K (L) w) (d:dT K a1 j (zC t a4 c5 a7 c8)) (h6:bL K a4 c5 t.L) (h9:bL K a7 c8 t.E) (d5:bL K a10 c11 p):
  Calls prog 130 ([bY a1 j,zS a10 p.length c11,i64 k]:List Value).toArray w (eC fun v w'=>∃ b4 b5,v=zS b4 R.length b5/\aF G K (own 4 K b4 b5 R::L) w'):=by
 refine aN func130 rfl (by kernel_rfl) (by show (3:Nat)<=58;decide) ?_;unfold aBm at hm
 refine aJ (aI (v:=zS none 0 0) (aH (aJ (aG (v:=bY a1 j) (aD (cQ rfl d) (aD (cJ (k':=j+0) fA rfl d rfl) (aD (aU (t:=0) cR hs d rfl rfl) ?_)))))));obtain ⟨a,d6,hm⟩:=aB hm
 refine xD (e:=(false:Bool)) cS aFu rfl rfl hs rfl rfl rfl d6 rfl (fun b d7 (b6:aF G K (own 4 K b a.length a::L) d7)=>(aI (v:=zS b a.length a.length) (aH (aJ (aG (v:=zS b a.length a.length) (aG (v:=i64 k) ?_))))));obtain ⟨g5,Z,hm⟩:=aB hm
 have r:=cA b6 (i:=0) rfl Z
 refine aD (cM cS rfl r rfl rfl rfl Z) ?_;obtain ⟨d8,b7,hm⟩:=aB hm
 refine gA (i:=0) (t:=0) (ns:=[zB true]) (e':=(true:Bool)) sizeOf4 b6 rfl (zR _) rfl rfl rfl Z b7 rfl rfl (eV rfl) rfl (fun cs h=>by cases h;rfl) (fun d9 (e0:aF G K (own 4 K b a.length d8::L) d9)=>(aH (aK (aJ (aI (v:=zB true) (aH (aO [] (fun f w=>∃ a0,aFE a0=some R/\f 7=zS b a0.length a.length/\aF G K (own 4 K b a.length a0::L) w) aM ?_)))))));obtain ⟨g6,e1,ho⟩:=aB hm
 refine bO [0,1] e1 (fun a2 b8 f w=>f 7=zS b a2.length a.length/\f 8=zB b8/\aF G K (own 4 K b a.length a2::L) w) ?_ ?_
 ·exact ⟨(Eq.trans rfl (congrArg (fun n=>zS b n a.length) (eL b7))),rfl,e0⟩
 ·rintro a2 b8 b9 f g7 hm hr ⟨g8,e2,g9⟩
  unfold qK at hm
  refine aK (aJ (aY e2 (aH ?_)))
  rcases aL hm with ⟨c0,hm⟩|⟨c0,hm⟩
  ·refine aR c0 rfl (aW (aC (aO [0,1] (fun f w=>∃ u a3,aCH u a3=some b9/\f 7=zS b u.length a.length/\f 8=zB a3/\aF G K (own 4 K b a.length u::L) w) ?_ ?_)))
   ·rintro f h0 ⟨u,a3,hm,e3,e4,e5⟩
    unfold aCH at hm
    exact aC ⟨_,(zI hm).symm,bF,e3,e4,e5⟩
   refine aJ (aI (v:=zB false) (aH (aJ (aI (v:=i64 0) (aH (aO [0,1] (fun f w=>∃ a5 c1,aFF a5 c1=some b9/\f 7=zS b a5.length a.length/\f 8=zB c1/\aF G K (own 4 K b a.length a5::L) w) aM ?_))))));obtain ⟨h1,e6,ho⟩:=aB hm
   refine oI [0,1] e6 (fun m a6 o f w=>f 7=zS b m.length a.length/\f 8=zB a6/\f 9=i64 o/\aF G K (own 4 K b a.length m::L) w) aM ?_
   ·rintro m a6 o c2 f h2 hm hr ⟨x,h4,a8,y⟩
    unfold nW at hm
    refine aK (aJ (aY a8 (aG (v:=bY a1 j) (aD (cQ rfl d) (aD (cJ (k':=j+3) fK rfl d rfl) (aD (aU (t:=3) oJ y d rfl rfl) (aD (bC (len:=t.E.length) cP rfl) (aD (cK rfl rfl) (aH ?_)))))))))
    rcases aL hm with ⟨c3,hm⟩|⟨c3,hm⟩
    ·refine aR c3 rfl (aW (aC (aK (aO [0,1,9] (fun f w=>∃ z a9,qJ o z a9=some c2/\f 7=zS b z.length a.length/\f 8=zB a9/\aF G K (own 4 K b a.length z::L) w) ?_ ?_))))
     ·rintro f h5 ⟨z,a9,hm,e7,e8,e9⟩
      unfold qJ at hm
      exact aC (aS (aY a8 (aD (cN rfl rfl) (aI (v:=i64 (wr (o+1))) (aH ⟨_,(zI hm).symm,bF,e7,e8,rfl,e9⟩)))))
     refine aJ (aG (v:=bY a1 j) (aD (cQ rfl d) (aD (cJ (k':=j+3) fK rfl d rfl) (aD (aU (t:=3) oJ y d rfl rfl) (aY a8 ?_)))));obtain ⟨c,c4,hm⟩:=aB hm
     refine aD (dM cP rfl h9 rfl rfl rfl c4) ?_;obtain ⟨h7,f0,f1⟩:=bL.el (sz:=3) rfl h9 c4
     cases f1
     refine aD (jQ (t:=0) (vs:=[i64 c.F,i64 c.B,i64 c.To]) tE y f0 rfl rfl rfl) (bV (vs:=[i64 0,i64 0,i64 0]) zeroValue51 y rfl (fun J h8 f2=>(dJ (i:=0) (ns:=[i64 c.F,i64 c.B,i64 c.To]) (us:=[i64 c.F,i64 c.B,i64 c.To]) sizeOf51 f2 rfl rfl rfl rfl rfl (eV rfl) rfl rfl (fun f3 (q:aF G K (box J 51 [i64 c.F,i64 c.B,i64 c.To]::own 4 K b a.length m::L) f3)=>(aH (aK (bP [0,1,7,8,9,10] (fun f w=>∃ b0,lB m a6 o c b0=some c2/\f 52=zB b0/\aF G K (box J 51 [i64 c.F,i64 c.B,i64 c.To]::own 4 K b a.length m::L) w) ?_ ?_)))))))
     ·rintro f i0 ⟨b0,hm,f4,c6⟩
      unfold lB at hm
      refine aC ?_
      rcases aL hm with ⟨c7,hm⟩|⟨c7,hm⟩
      ·refine aR c7 f4 (aJ (aY x (aD (bH (t':=2) uK rfl rfl) (aD (eM cR c6 (i:=0) rfl rfl rfl) ?_))));obtain ⟨i1,c9,hm⟩:=aB hm
       refine aD (cM cS rfl r rfl rfl rfl c9) ?_;obtain ⟨d0,d1,hm⟩:=aB hm
       exact gA (i:=1) (t:=0) (ns:=[zB true]) (e':=(true:Bool)) sizeOf4 c6 rfl (zR _) rfl rfl rfl c9 d1 rfl rfl (eV rfl) rfl (fun cs h=>by cases h;rfl) (fun f5 (f6:aF G K (box J 51 [i64 c.F,i64 c.B,i64 c.To]::own 4 K b a.length d0::L) f5)=>(aH (aS (aI (v:=zB true) (aV (cH (aC ⟨bF,d0,true,hm,(Eq.trans x (congrArg (fun n=>zS b n a.length) (eL d1))),rfl,(aF.arr 1 [] f6 rfl)⟩)))))))
      ·exact aM
     refine aS (aY x (aD (bH (t':=0) uJ rfl rfl) (aD (eM cR q (i:=0) rfl rfl rfl) ?_)));obtain ⟨f7,d2,hm⟩:=aB hm
     refine aD (cM cS rfl r rfl rfl rfl d2) (aD (lA (t:=0) aDv q (i:=1) rfl d2 rfl rfl rfl) (aG (v:=zB f7) ?_))
     rcases aL hm with ⟨l,hm⟩|⟨l,hm⟩
     ·refine cO l rfl rfl (aY x (cO l rfl rfl (aD (bH (t':=2) uK rfl rfl) (cO l rfl rfl (aD (eM cR q (i:=0) rfl rfl rfl) (cO l rfl rfl ?_))))));obtain ⟨d3,d4,hm⟩:=aB hm
      refine aD (cM cS rfl r rfl rfl rfl d4) (cO l rfl rfl (aD (lA (t:=0) aDv q (i:=1) rfl d4 rfl rfl rfl) (cO l rfl rfl (aD (aDH rfl) (aD (eX (v:=zB (!d3)) l rfl rfl) (aG (v:=zB (!d3)) ?_))))))
      rcases aL hm with ⟨b1,hm⟩|⟨b1,hm⟩
      ·refine cO b1 rfl rfl (aG (v:=zS a10 p.length c11) (cO b1 rfl rfl ?_));obtain ⟨i2,f8,f9,g0,g1⟩:=aF.lendBp q .head
       obtain ⟨i3,g2,hm⟩:=aB hm
       refine aP (vs:=[bY (some ⟨J,0,none⟩) 0,zS a10 p.length c11]) call60 rfl (qG g2 g0 f9 (d5.mono f8)) ?_
       rintro _ i4 ⟨rfl,g3⟩
       have i5:=g1 _ _ g3
       exact aM
      ·exact aM
     ·exact aM
    ·exact aM
  ·exact aM
theorem aJJ {a:(List Int)} {n:Int} {R:(List Int)} (hm:aDa a n=some R) (hs:aF G K (L) w) (y:bL K a1 c2 a):
  Calls prog 131 ([zS a1 a.length c2,i64 n]:List Value).toArray w (eC fun v w'=>∃ z J,v=zS z R.length J/\aF G K (own 2 K z J R::L) w'):=by
 refine aN func131 rfl (by kernel_rfl) (by show (2:Nat)<=49;decide) ?_;unfold aDa at hm
 refine aJ (aI (v:=zS none 0 0) (aH (aJ (bX (Kt:=K) (xs:=([]:List Int)) (cs:=[]) (vs:=[]) bN kQ rfl rfl hs rfl (by kernel_rfl) rfl rfl rfl trivial (fun Z w5 (d0:aF G K (own 2 K Z 0 ([]:List Int)::L) w5)=>(aI (v:=zS Z ([]:List Int).length 0) (aH (aJ (aI (v:=zB false) (aH (aK (aJ (aI (v:=i64 0) (aH (aO [1] (fun f w=>∃ e j k l,aCl n e j=some R/\f 5=zS k e.length l/\f 6=zB j/\aF G K (own 2 K k l e::L) w) ?_ ?_)))))))))))))))
 ·rintro f d1 ⟨e,j,k,l,hm,d2,d3,d4⟩
  unfold aCl at hm
  exact aC (gT [] (fun f w=>∃ m a0 a2,aCk m=some R/\f 5=zS a0 m.length a2/\aF G K (own 2 K a0 a2 m::L) w) aM aM)
 obtain ⟨d5,b7,ho⟩:=aB hm
 refine oI [0,1] b7 (fun b o g f w=>∃ c d,f 5=zS c b.length d/\f 6=zB o/\f 7=i64 g/\aF G K (own 2 K c d b::L) w) aM ?_
 ·rintro b o g a3 f d6 hm hr ⟨c,d,b8,d7,a5,d8⟩
  unfold rJ at hm
  refine aK (aJ (aY a5 (aG (v:=zS a1 a.length c2) (aD (bC (len:=a.length) bN rfl) (aD (cK rfl rfl) (aH ?_))))))
  rcases aL hm with ⟨a6,hm⟩|⟨a6,hm⟩
  ·refine aR a6 rfl (aW (aC (aK (cD (gT [0,1,7] (fun f w=>∃ p a7 a9 b0,vL a g p a7=some a3/\f 5=zS a9 p.length b0/\f 6=zB a7/\aF G K (own 2 K a9 b0 p::L) w) aM (aK (bP [0,1,5,6,7] (fun f w=>∃ q,vM a n b o g q=some a3/\f 24=zB q/\aF G K (own 2 K c d b::L) w) ?_ ?_)))))))
   ·rintro f d9 ⟨q,hm,b9,b1⟩
    unfold vM at hm
    refine aC ?_
    rcases aL hm with ⟨b2,hm⟩|⟨b2,hm⟩
    ·refine aR b2 b9 (aJ (aI (v:=zB true) (aH (aJ (aG (v:=zS a1 a.length c2) (aY a5 ?_))))));obtain ⟨e0,b3,hm⟩:=aB hm
     refine aD (dM bN rfl y rfl rfl rfl b3) ?_;obtain ⟨e1,c0,c1⟩:=bL.el (sz:=1) rfl y b3
     cases c1
     refine aD (aU (t:=0) cR b1 c0 rfl rfl) (aG (v:=i64 n) (aD (aBX rfl rfl) (aH ?_)))
     rcases aL hm with ⟨b4,hm⟩|⟨b4,hm⟩
     ·refine aR b4 rfl (aS (aY b8 (aG (v:=i64 n) (bX (Kt:=K) (xs:=([n]:List Int)) (cs:=[i64 n]) (vs:=[(0,i64 n)]) bN kQ rfl rfl b1 rfl (by kernel_rfl) rfl rfl rfl ⟨rfl,trivial⟩ (fun c3 c4 (c5:aF G K (own 2 K c3 1 ([n]:List Int)::own 2 K c d b::L) c4)=>?_)))));obtain ⟨r,c6,hm⟩:=aB hm
      exact eQ (i:=0) bN underlying32 kQ rfl rfl c5 rfl (zR _) (zR _) c6 rfl rfl rfl rfl (fun _ h=>h) (fun u x c7 (c8:aF G K (own 2 K u x r::L) c7)=>(aI (v:=zS u r.length x) (aH ⟨bF,r,true,u,x,hm,rfl,rfl,c8⟩)))
     ·exact aM
    ·exact aM
   exact aM
  ·exact aM
theorem aDj {t:bQ} {b:Nat} {p:(List Int)} {k:Int} {R:(List Int)} (hm:zF t p k=some R) (hs:aF G K (L) w) (c:dT K a1 b (zC t a4 c5 a7 c8)) (h6:bL K a4 c5 t.L) (y:bL K a7 c8 t.E) (a5:bL K a10 c11 p):
  Calls prog 100 ([bY a1 b,zS a10 p.length c11,i64 k]:List Value).toArray w (eC fun v w'=>∃ a6 a8,v=zS a6 R.length a8/\aF G K (own 2 K a6 a8 R::L) w'):=by
 refine aN func100 rfl (by kernel_rfl) (by show (3:Nat)<=56;decide) ?_;unfold zF at hm
 refine aJ (aI (v:=zS none 0 0) (aH (aJ (aG (v:=bY a1 b) (aG (v:=zS a10 p.length c11) (aG (v:=i64 k) ?_))))));obtain ⟨d,b9,hm⟩:=aB hm
 refine aP (vs:=[bY a1 b,zS a10 p.length c11,i64 k]) call130 rfl (aDM b9 hs c h6 y a5) ?_
 rintro _ e3 ⟨e,h,rfl,c0⟩
 refine aI (v:=zS e d.length h) (aH (aJ (bX (Kt:=K) (xs:=([]:List Int)) (cs:=[]) (vs:=[]) bN kQ rfl rfl c0 rfl (by kernel_rfl) rfl rfl rfl trivial (fun a9 c1 (e4:aF G K (own 2 K a9 0 ([]:List Int)::own 4 K e h d::L) c1)=>(aI (v:=zS a9 ([]:List Int).length 0) (aH (aK (aJ (aI (v:=i64 0) (aH (aO [] (fun f w=>∃ z b0 b1,aEy z=some R/\f 8=zS b0 z.length b1/\aF G K (own 2 K b0 b1 z::L) w) aM ?_)))))))))));obtain ⟨e5,c2,ho⟩:=aB hm
 refine bO [0,1,7] c2 (fun j l f w=>∃ m n,f 8=zS m j.length n/\f 9=i64 l/\aF G K (own 2 K m n j::own 4 K e h d::L) w) aM ?_
 ·rintro j l b2 f e6 hm hr ⟨m,n,e7,J,o⟩
  unfold jS at hm
  refine aK (aJ (aY J (aG (v:=bY a1 b) (aD (cQ rfl c) (aD (cJ (k':=b+3) fK rfl c rfl) (aD (aU (t:=3) oJ o c rfl rfl) (aD (bC (len:=t.E.length) cP rfl) (aD (cK rfl rfl) (aH ?_)))))))))
  rcases aL hm with ⟨b3,hm⟩|⟨b3,hm⟩
  ·refine aR b3 rfl (aW (aC (aK (aO [0,1,7,9] (fun f w=>∃ q r u,oO l q=some b2/\f 8=zS r q.length u/\aF G K (own 2 K r u q::own 4 K e h d::L) w) ?_ ?_))))
   ·rintro f e8 ⟨q,r,u,hm,c3,c4⟩
    unfold oO at hm
    exact aC (aS (aY J (aD (cN rfl rfl) (aI (v:=i64 (wr (l+1))) (aH ⟨_,(zI hm).symm,bF,r,u,c3,rfl,c4⟩)))))
   refine aJ (aG (v:=bY a1 b) (aD (cQ rfl c) (aD (cJ (k':=b+3) fK rfl c rfl) (aD (aU (t:=3) oJ o c rfl rfl) (aY J ?_)))));obtain ⟨a,b4,hm⟩:=aB hm
   refine aD (dM cP rfl y rfl rfl rfl b4) ?_;obtain ⟨e9,c6,c7⟩:=bL.el (sz:=3) rfl y b4
   cases c7
   refine aD (jQ (t:=0) (vs:=[i64 a.F,i64 a.B,i64 a.To]) tE o c6 rfl rfl rfl) (bV (vs:=[i64 0,i64 0,i64 0]) zeroValue51 o rfl (fun Z f0 c9=>(dJ (i:=0) (ns:=[i64 a.F,i64 a.B,i64 a.To]) (us:=[i64 a.F,i64 a.B,i64 a.To]) sizeOf51 c9 rfl rfl rfl rfl rfl (eV rfl) rfl rfl (fun d0 (x:aF G K (box Z 51 [i64 a.F,i64 a.B,i64 a.To]::own 2 K m n j::own 4 K e h d::L) d0)=>(aH (aK (bP [0,1,7,8,9,10] (fun f w=>∃ a0,lS p j l a a0=some b2/\f 41=zB a0/\aF G K (box Z 51 [i64 a.F,i64 a.B,i64 a.To]::own 2 K m n j::own 4 K e h d::L) w) ?_ ?_)))))))
   ·rintro f f1 ⟨a0,hm,d1,d2⟩
    unfold lS at hm
    refine aC ?_
    rcases aL hm with ⟨b5,hm⟩|⟨b5,hm⟩
    ·refine aR b5 d1 ?_;obtain ⟨d3,f2,f3,b6,f4⟩:=aF.lendBp d2 .head
     refine cV (C:=fun w'=>∃ L',aF G d3 L' w') [(0,0),(1,0),(2,0),(3,0),(4,0),(5,0),(6,0),(7,0),(8,0),(9,0),(10,0),(11,0),(12,1),(13,0)] Tryz_mixed (by kernel_rfl) (fun _ hg=>⟨_,aF.mono b6 hg⟩) (fun f5 d4=>?_)
     have f6:=aF.mono b6 d4
     exact aM
    ·exact aM
   refine aS (aG (v:=zS e d.length h) (aD (bH (t':=0) uJ rfl rfl) (aD (eM cR x (i:=0) rfl rfl rfl) ?_)));obtain ⟨d5,a2,hm⟩:=aB hm
   have d6:=cA x (i:=2) rfl a2
   refine aD (cM cS rfl d6 rfl rfl rfl a2) (aD (lA (t:=0) aDv x (i:=2) rfl a2 rfl rfl rfl) (aG (v:=zB d5) ?_))
   rcases aL hm with ⟨a3,hm⟩|⟨a3,hm⟩
   ·refine cO a3 rfl rfl (aG (v:=zS a10 p.length c11) (cO a3 rfl rfl ?_));obtain ⟨f7,d7,d8,d9,e0⟩:=aF.lendBp x .head
    obtain ⟨f8,e1,hm⟩:=aB hm
    refine aP (vs:=[bY (some ⟨Z,0,none⟩) 0,zS a10 p.length c11]) call60 rfl (qG e1 d9 d8 (a5.mono d7)) ?_
    rintro _ f9 ⟨rfl,e2⟩
    have g0:=e0 _ _ e2
    exact aM
   ·exact aM
  ·exact aM
theorem aDk {t:bQ} {k2:Nat} {p:(List Int)} {e2:Bool} {R:(List Int)} (hm:zH t p e2=some R) (hs:aF G K (L) w) (h3:dT K a1 k2 (zC t a4 c5 a7 c8)) (h6:bL K a4 c5 t.L) (h9:bL K a7 c8 t.E) (a5:bL K a10 c11 p):
  Calls prog 64 ([bY a1 k2,zS a10 p.length c11,zB e2]:List Value).toArray w (eC fun v w'=>∃ e5 e6,v=zS e5 R.length e6/\aF G K (own 2 K e5 e6 R::L) w'):=by
 refine aN func64 rfl (by kernel_rfl) (by show (3:Nat)<=96;decide) ?_;unfold zH at hm
 refine aJ (aI (v:=zS none 0 0) (aH (aJ (aG (v:=bY a1 k2) (aG (v:=zS a10 p.length c11) ?_)))));obtain ⟨n,h1,hm⟩:=aB hm
 refine aP (vs:=[bY a1 k2,zS a10 p.length c11]) call62 rfl (wU h1 hs h3 h6 h9 a5) ?_
 rintro _ n2 ⟨o,q,rfl,h2⟩
 refine aI (v:=zS o n.length q) (aH (aJ (bX (Kt:=K) (xs:=([]:List (List Int))) (cs:=[]) (vs:=[]) iG aBg rfl rfl h2 rfl (by kernel_rfl) rfl rfl rfl trivial (fun e7 h4 (n3:aF G K (own 32 K e7 0 ([]:List (List Int))::own 4 K o q n::L) h4)=>(aI (v:=zS e7 ([]:List (List Int)).length 0) (aH (aK (aJ (aI (v:=i64 0) (aH (aO [1] (fun f w=>∃ b e k l,Hp.le K b/\uM p e=some R/\f 8=zS k e.length l/\aF G b (own 32 b k l e::L) w) ?_ ?_)))))))))))
 ·rintro f n4 ⟨b,e,k,l,b1,hm,e8,h5⟩
  unfold uM at hm
  refine aC (aJ (bX (Kt:=K) (xs:=([]:List Int)) (cs:=[]) (vs:=[]) bN kQ rfl rfl h5 rfl (by kernel_rfl) rfl rfl rfl trivial (fun e9 h7 (n5:aF G b (own 2 K e9 0 ([]:List Int)::own 32 b k l e::L) h7)=>(aI (v:=zS e9 ([]:List Int).length 0) (aH (aJ (aI (v:=i64 0) (aH (aK (aJ (aI (v:=i64 0) (aH (aO [] (fun f w=>∃ c1 f0 f1,aEz c1=some R/\f 11=zS f0 c1.length f1/\aF G b (own 2 K f0 f1 c1::L) w) aM ?_)))))))))))))
  obtain ⟨n6,h8,ho⟩:=aB hm
  refine oI [1,8] h8 (fun j c2 a3 f w=>∃ r u,f 11=zS r j.length u/\f 12=i64 c2/\f 13=i64 a3/\aF G b (own 2 K r u j::own 32 b k l e::L) w) aM ?_
  ·rintro j c2 a3 c3 f n7 hm hr ⟨r,u,n8,n9,b2,o0⟩
   unfold aEB at hm
   refine aK (aJ (aY b2 (aG (v:=zS a10 p.length c11) (aD (bC (len:=p.length) bN rfl) (aD (cK rfl rfl) (aH ?_))))))
   rcases aL hm with ⟨f2,hm⟩|⟨f2,hm⟩
   ·refine aR f2 rfl (aW (aC (aK (aO [1,8,13] (fun f w=>∃ b3 c4 b4 b5,aBn a3 b3 c4=some c3/\f 11=zS b4 b3.length b5/\f 12=i64 c4/\aF G b (own 2 K b4 b5 b3::own 32 b k l e::L) w) ?_ ?_))))
    ·rintro f o1 ⟨b3,c4,b4,b5,hm,i0,i1,i2⟩
     unfold aBn at hm
     exact aC (aS (aY b2 (aD (cN rfl rfl) (aI (v:=i64 (wr (a3+1))) (aH ⟨_,(zI hm).symm,bF,b4,b5,i0,i1,rfl,i2⟩)))))
    refine aJ (aI (v:=i64 (-1)) (aH (aK (aJ (aI (v:=i64 0) (aH (aO [1,8,11,12,13] (fun f w=>∃ c6,aBp j c2 a3 c6=some c3/\f 14=i64 c6/\aF G b (own 2 K r u j::own 32 b k l e::L) w) ?_ ?_)))))))
    ·rintro f o2 ⟨c6,hm,o3,o4⟩
     unfold aBp at hm
     exact aC (gT [1,8,11,13] (fun f w=>∃ f3 f4,aBo j a3 f3 f4=some c3/\f 12=i64 f3/\f 14=i64 f4/\aF G b (own 2 K r u j::own 32 b k l e::L) w) aM aM)
    obtain ⟨o5,i3,ho⟩:=aB hm
    refine bO [1,8,11,12,13] i3 (fun b6 a6 f w=>f 14=i64 b6/\f 15=i64 a6/\aF G b (own 2 K r u j::own 32 b k l e::L) w) aM ?_
    ·rintro b6 a6 c7 f o6 hm hr ⟨o7,c9,o8⟩
     unfold aEA at hm
     refine aK (aK (bP [1,8,11,12,13,14,15] (fun f w=>∃ d0,wB p e j a3 b6 a6 d0=some c7/\f 59=zB d0/\aF G b (own 2 K r u j::own 32 b k l e::L) w) ?_ ?_))
     ·rintro f o9 ⟨d0,hm,i4,i5⟩
      unfold wB at hm
      refine aC ?_
      rcases aL hm with ⟨f5,hm⟩|⟨f5,hm⟩
      ·refine aR f5 i4 (aW (aC (aK (aO [1,8,11,12,13,15] (fun f w=>∃ d1,wA a6 d1=some c7/\f 14=i64 d1/\aF G b (own 2 K r u j::own 32 b k l e::L) w) ?_ ?_))))
       ·rintro f p0 ⟨d1,hm,i6,i7⟩
        unfold wA at hm
        exact aC (aS (aY c9 (aD (cN rfl rfl) (aI (v:=i64 (wr (a6+1))) (aH ⟨_,(zI hm).symm,bF,i6,rfl,i7⟩)))))
       refine aK (bP [1,8,11,12,13,14,15] (fun f w=>∃ f6,aBq j b6 a6 f6=some c7/\f 81=zB f6/\aF G b (own 2 K r u j::own 32 b k l e::L) w) aM ?_);obtain ⟨i8,b7,d2,a,f7⟩:=aF.lendSp i5 (zR _) zt1
       refine mK (C:=fun w'=>aF G i8 (own 2 K r u j::L) w') Tryz_mixed (by kernel_rfl) (aF.mono a (dZ.drew _)) (cC (fun _ a=>aT (v:=zS a10 p.length c11) rfl) (cC (fun _ a=>aT c9) ?_));obtain ⟨i9,f8,hm⟩:=aB hm
       refine cC (fun _ a=>dM bN rfl (a5.mono (zL b1 b7)) rfl rfl rfl f8) ?_;obtain ⟨p1,j0,j1⟩:=bL.el (sz:=1) rfl a5 f8
       cases j1
       refine cC (fun _ a=>aU (t:=0) cR a (j0.mono (zL b1 b7)) rfl rfl) (cC (fun _ a=>aT (v:=zS a10 p.length c11) rfl) (cC (fun _ a=>aT b2) ?_));obtain ⟨j2,f9,hm⟩:=aB hm
       refine cC (fun _ a=>dM bN rfl (a5.mono (zL b1 b7)) rfl rfl rfl f9) ?_;obtain ⟨p2,j3,j4⟩:=bL.el (sz:=1) rfl a5 f9
       cases j4
       refine cC (fun _ a=>aU (t:=0) cR a (j3.mono (zL b1 b7)) rfl rfl) (cC (fun _ a=>qS rfl rfl) (cC (fun _ a=>aT (v:=zB (i9 == j2)) rfl) ?_))
       rcases aL hm with ⟨c,hm⟩|⟨c,hm⟩
       ·refine kE (g:=71) rfl rfl c (cC (fun _ a=>aT e8) (kE (g:=71) rfl rfl c (cC (fun _ a=>aT c9) (kE (g:=71) rfl rfl c ?_))));obtain ⟨j5,d3,hm⟩:=aB hm
        have g0:=aFe d2 d3
        refine cC (fun _ a=>cM iG rfl g0 rfl rfl rfl d3) (kE (g:=71) rfl rfl c ?_);obtain ⟨p3,j6,j7⟩:=bL.el (sz:=1) rfl d2 d3
        obtain ⟨j8,j9,rfl,k0⟩:=j7
        refine cC (fun _ a=>aU (t:=0) vU a j6 rfl rfl) (kE (g:=71) rfl rfl c (cC (fun _ a=>aT e8) (kE (g:=71) rfl rfl c (cC (fun _ a=>aT b2) (kE (g:=71) rfl rfl c ?_)))));obtain ⟨k1,g1,hm⟩:=aB hm
        refine cC (fun _ a=>cM iG rfl g0 rfl rfl rfl g1) (kE (g:=71) rfl rfl c ?_);obtain ⟨p4,k3,k4⟩:=bL.el (sz:=1) rfl d2 g1
        obtain ⟨k5,k6,rfl,k7⟩:=k4
        refine cC (fun _ a=>aU (t:=0) vU a k3 rfl rfl) (kE (g:=71) rfl rfl c ?_);obtain ⟨g2,k8,hm⟩:=aB hm
        refine aFc (vs:=[zS j8 j5.length j9,zS k5 k1.length k6]) (v:=zB g2) call65 rfl (fun _ a=>(sC k8 a k0 k7)) (cC (fun _ a=>eX (v:=zB g2) c rfl rfl) (uV (fun p5 k9=>?_)))
        have p6:=f7 _ _ k9
        exact aM
       ·refine jI (g:=71) rfl rfl (gS c) (jI (g:=71) rfl rfl (gS c) (jI (g:=71) rfl rfl (gS c) (jI (g:=71) rfl rfl (gS c) (jI (g:=71) rfl rfl (gS c) (jI (g:=71) rfl rfl (gS c) (jI (g:=71) rfl rfl (gS c) (jI (g:=71) rfl rfl (gS c) (jI (g:=71) rfl rfl (gS c) (cC (fun _ a=>fF (v:=zB false) c rfl rfl) (uV (fun p7 l0=>?_)))))))))))
        have p8:=f7 _ _ l0
        exact aM
      ·exact aM
     exact aM
   ·exact aM
 obtain ⟨p9,l1,ho⟩:=aB hm
 refine bO [0,1,2,7] l1 (fun m a8 f w=>∃ d x y,Hp.le K d/\f 8=zS x m.length y/\f 9=i64 a8/\aF G d (own 32 d x y m::own 4 K o q n::L) w) aM ?_
 ·rintro m a8 g3 f q0 hm hr ⟨d,x,y,z,l2,d4,g4⟩
  unfold iX at hm
  refine aK (aJ (aY d4 (aG (v:=bY a1 k2) (aD (cQ rfl (h3.mono z)) (aD (cJ (k':=k2+0) fA rfl (h3.mono z) rfl) (aD (aU (t:=0) cR g4 (h3.mono z) rfl rfl) (aD (cK rfl rfl) (aH ?_))))))))
  rcases aL hm with ⟨g5,hm⟩|⟨g5,hm⟩
  ·refine aR g5 rfl (aW (aC (aK (cD (aJ (aG (v:=bY a1 k2) (aG (v:=zS a10 p.length c11) (aY d4 ?_))))))));obtain ⟨b0,l3,hm⟩:=aB hm
   refine aP (vs:=[bY a1 k2,zS a10 p.length c11,i64 a8]) call100 rfl (aDj l3 g4 (h3.mono z) (h6.mono z) (h9.mono z) (a5.mono z)) ?_
   rintro _ q1 ⟨b8,b9,rfl,q2⟩
   refine aI (v:=zS b8 b0.length b9) (aH (gT [0,1,2,7,8,9] (fun f w=>∃ J Z a0,mM m a8 J=some g3/\f 10=zS Z J.length a0/\aF G d (own 2 K Z a0 J::own 32 d x y m::own 4 K o q n::L) w) ?_ ?_))
   ·rintro f l4 ⟨J,Z,a0,hm,l5,l6⟩
    unfold mM at hm
    refine aS (aY l2 (aY l5 ?_))
    have l7:aF G d (rows [2] ([(Z,a0)]:List (Dp.Hd (List Int))) [J]::own 32 d x y m::own 4 K o q n::L) l4:=aF.rowsOne l6
    refine bX (Kt:=K) (xs:=aX ([(Z,a0)]:List (Dp.Hd (List Int))) ([J]:List (List Int))) (cs:=[zS Z J.length a0]) (vs:=[(0,zS Z J.length a0)]) iG aBg rfl rfl l7 rfl (by kernel_rfl) rfl rfl rfl ⟨rfl,trivial⟩ ?_
    intro l8 g6 (l9:aF G d (own 32 K l8 1 (aX ([(Z,a0)]:List (Dp.Hd (List Int))) ([J]:List (List Int)))::rows [2] ([(Z,a0)]:List (Dp.Hd (List Int))) ([J]:List (List Int))::own 32 d x y m::own 4 K o q n::L) g6)
    obtain ⟨c0,g7,m0,_,d5,_⟩:=aF.lendD' (i:=0) l9 rfl rfl rfl
    replace d5:aF G c0 (own 32 d x y m::own 4 K o q n::L) g6:=d5
    obtain ⟨g8,m1,hm⟩:=aB hm
    exact aDs (i:=0) iG underlying81 aBg rfl rfl d5 rfl g7 m0 m1 rfl rfl rfl rfl (fun d6 d7 m2 (m3:aF G c0 (own 32 c0 d6 d7 g8::own 4 K o q n::L) m2)=>(aI (v:=zS d6 g8.length d7) (aV (cH (aC (aS (aY d4 (aD (cN rfl rfl) (aI (v:=i64 (wr (a8+1))) (aH ⟨_,(zI hm).symm,bF,c0,d6,d7,(zL z g7),rfl,rfl,m3⟩))))))))))
   refine aK (bP [0,1,2,7,8,9,10] (fun f w=>∃ d8,mN m a8 b0 d8=some g3/\f 38=zB d8/\aF G d (own 2 K b8 b9 b0::own 32 d x y m::own 4 K o q n::L) w) ?_ ?_)
   ·rintro f q3 ⟨d8,hm,m4,m5⟩
    unfold mN at hm
    refine aC ?_
    rcases aL hm with ⟨g9,hm⟩|⟨g9,hm⟩
    ·refine aR g9 m4 (aS (aG (v:=zS b8 b0.length b9) (bX (Kt:=K) (xs:=([(-1)]:List Int)) (cs:=[i64 (-1)]) (vs:=[(0,i64 (-1))]) bN kQ rfl rfl m5 rfl (by kernel_rfl) rfl rfl rfl ⟨rfl,trivial⟩ (fun m6 m7 (m8:aF G d (own 2 K m6 1 ([(-1)]:List Int)::own 2 K b8 b9 b0::own 32 d x y m::own 4 K o q n::L) m7)=>?_))));obtain ⟨d9,m9,hm⟩:=aB hm
     exact eQ (i:=0) bN underlying32 kQ rfl rfl m8 rfl z z m9 rfl rfl rfl rfl (fun _ h=>h) (fun e0 e1 n0 (n1:aF G d (own 2 K e0 e1 d9::own 32 d x y m::own 4 K o q n::L) n0)=>(aI (v:=zS e0 d9.length e1) (aH ⟨bF,d9,e0,e1,hm,rfl,n1⟩)))
    ·exact aM
   exact aM
  ·exact aM
theorem aEN {t:bQ} {a:Nat} {g:Bool} {R:(List Int)} (hm:aDb t g=some R) (m:aF G K (L) w) (h:dT K a1 a (zC t a4 c5 a7 c8)) (r:bL K a4 c5 t.L) (u:bL K a7 c8 t.E):
  Calls prog 34 ([bY a1 a,zB g]:List Value).toArray w (eC fun v w'=>∃ n o,v=zS n R.length o/\aF G K (own 2 K n o R::L) w'):=by
 refine aN func34 rfl (by kernel_rfl) (by show (2:Nat)<=21;decide) ?_;unfold aDb at hm
 refine aJ (aI (v:=zS none 0 0) (aH (aJ (aG (v:=bY a1 a) (aD (cQ rfl h) (aD (cJ (k':=a+0) fA rfl h rfl) (aD (aU (t:=0) cR m h rfl rfl) ?_)))))));obtain ⟨i,x,hm⟩:=aB hm
 refine xD (e:=(0:Int)) bN kQ rfl rfl m rfl rfl rfl x rfl (fun p y (b9:aF G K (own 2 K p i.length i::L) y)=>(aI (v:=zS p i.length i.length) (aH (cD ?_))));obtain ⟨c0,z,ho⟩:=aB hm
 refine eY [0,1] z (fun b f w=>∃ c d,f 5=zS c b.length d/\aF G K (own 2 K c d b::L) w) aM ?_
 ·rintro b c1 f c2 hm hr ⟨c,d,q,J⟩
  unfold wC at hm
  refine cD (aJ (aG (v:=bY a1 a) (aY q (aG (v:=zB g) ?_))));obtain ⟨c3,j,Z,a0,a2⟩:=aF.lendSp J (zR _) .head
  obtain ⟨k,a3,hm⟩:=aB hm
  refine aP (vs:=[bY a1 a,zS c b.length d,zB g]) call64 rfl (aDk a3 a0 (h.mono j) (r.mono j) (u.mono j) Z) ?_
  rintro _ c4 ⟨l,c45,rfl,a5⟩
  have a6:=a2 _ _ a5
  refine aI (v:=zS l k.length c45) (aH (aK (aJ (aG (v:=zS l k.length c45) (aY q ?_)))));obtain ⟨c6,a8,a9,b0,b1⟩:=aF.lendSp a6 (zR _) zt1
  obtain ⟨c7,b2,b3,b4,b5⟩:=aF.lendSp b0 a8 .head
  obtain ⟨c9,b6,hm⟩:=aB hm
  refine aP (vs:=[zS l k.length c45,zS c b.length d]) call65 rfl (sC b6 b4 (a9.mono b2) b3) ?_
  rintro _ d0 ⟨rfl,b7⟩
  have b8:=b5 _ _ b7
  have d1:=b1 _ _ b8
  exact aM
theorem aDN {t:bQ} {b:Nat} {c:Bool} {R:bQ} (hm:aBr t c=some R) (hs:aF G K (L) w) (o:dT K a1 b (zC t a4 c5 a7 c8)) (p:bL K a4 c5 t.L) (q:bL K a7 c8 t.E):
  Calls prog 17 ([bY a1 b,zB c]:List Value).toArray w (eC fun v w'=>∃ r u x y,v=Value.agg (zCa R r u x y)/\aF G K (own 9 K r u R.L::own 51 K x y R.E::L) w'):=by
 let j:=zG
 refine aN func17 rfl (by kernel_rfl) (by show (2:Nat)<=14;decide) ?_;unfold aBr at hm
 refine aJ (bV (vs:=j) zeroValue29 hs rfl (fun a6 f2 a8=>(aH (aJ (aG (v:=bY a1 b) (aG (v:=bY a1 b) ?_))))));obtain ⟨z,a9,hm⟩:=aB hm
 refine aP (vs:=[bY a1 b]) call32 rfl (aAs a9 a8 o p q) ?_
 rintro _ f3 ⟨J,Z,rfl,b0⟩
 obtain ⟨f4,k,b1,b2,b3⟩:=aF.lendSp b0 (zR _) .head
 obtain ⟨a,b4,hm⟩:=aB hm
 refine aP (vs:=[bY a1 b,zS J z.length Z]) call31 rfl (aBF b4 b2 (o.mono k) (p.mono k) (q.mono k) b1) ?_
 rintro _ f5 ⟨d,e,g,h,rfl,b5⟩
 have b6:=b3 _ _ b5
 refine bV (vs:=j) zeroValue29 b6 rfl (fun l f6 b7=>(dJ (i:=0) (ns:=(zC a d e g h)) (us:=(zC a d e g h)) sizeOf29 b7 rfl rfl rfl rfl rfl (eV rfl) rfl rfl (fun b8 (b9:aF G K (box l 29 (zC a d e g h)::own 2 K J Z z::own 9 K d e a.L::own 51 K g h a.E::box a6 29 j::L) b8)=>(aH (aJ (aG (v:=zB c) ?_))))));obtain ⟨f7,c0,c1,c2,c3⟩:=aF.lendSp b9 (zR _) zt2
 obtain ⟨f8,c4,c6,c7,c9⟩:=aF.lendSp c2 c0 zt2
 obtain ⟨f9,a0,d0,d1,d2⟩:=aF.lendBp c7 .head
 obtain ⟨d3,d4,hm⟩:=aB hm
 refine aP (vs:=[bY (some ⟨l,0,none⟩) 0,zB c]) call34 rfl (aEN d4 d1 d0 (c1.mono (zL c4 a0)) (c6.mono a0)) ?_
 rintro _ g0 ⟨d5,d6,rfl,d7⟩
 have d8:=d2 _ _ d7
 have d9:=c9 _ _ d8
 have e0:=c3 _ _ d9
 refine aG (v:=zB c) ?_;obtain ⟨g1,a2,e1,e2,g2⟩:=aF.lendSp e0 (zR _) .head
 obtain ⟨g3,a3,e3,e4,g4⟩:=aF.lendSp e2 a2 .head
 obtain ⟨g5,m,e5,e6,g6⟩:=aF.lendBp e4 .head
 obtain ⟨g7,n,e7,e8,e9⟩:=aF.lendSp e6 (zL (zL a2 a3) m) .head
 obtain ⟨g8,f0,hm⟩:=aB hm
 refine aP (vs:=[bY (some ⟨l,0,none⟩) 0,zS d5 d3.length d6,zB c]) call33 rfl (aBG f0 e8 (e5.mono n) (e1.mono (zL (zL a3 m) n)) (e3.mono (zL m n)) e7) ?_
 rintro _ g9 ⟨h0,h1,h2,h4,rfl,f1⟩
 have h5:=e9 _ _ f1
 exact aM
theorem aBH {t:bQ} {b:Nat} {p:(List Int)} {R:bQ} (hm:qL t p=some R) (hs:aF G K (L) w) (c:dT K a1 b (zC t a4 c5 a7 c8)) (h6:bL K a4 c5 t.L) (o:bL K a7 c8 t.E) (c0:bL K a10 c11 p):
  Calls prog 35 ([bY a1 b,zS a10 p.length c11]:List Value).toArray w (eC fun v w'=>∃ q r u x,v=Value.agg (zCa R q r u x)/\aF G K (own 9 K q r R.L::own 51 K u x R.E::L) w'):=by
 let d:=zG
 refine aN func35 rfl (by kernel_rfl) (by show (2:Nat)<=56;decide) ?_;unfold qL at hm
 refine aJ (bV (vs:=d) zeroValue29 hs rfl (fun e c1 a6=>(aH (aJ (bX (Kt:=K) (xs:=([]:List Edge)) (cs:=[]) (vs:=[]) cP qT rfl rfl a6 rfl (by kernel_rfl) rfl rfl rfl trivial (fun y a8 (c2:aF G K (own 51 K y 0 ([]:List Edge)::box e 29 d::L) a8)=>(aI (v:=zS y ([]:List Edge).length 0) (aH (aK (aJ (aI (v:=i64 0) (aH (aO [0,1,4] (fun f w=>∃ g m n,sT t p g=some R/\f 5=zS m g.length n/\aF G K (own 51 K m n g::box e 29 d::L) w) ?_ ?_)))))))))))))
 ·rintro f c3 ⟨g,m,n,hm,c4,z⟩
  unfold sT at hm
  refine aC (aK (cV (C:=fun w'=>∃ L',aF G K L' w') [(0,0),(2,0),(3,0),(4,0),(5,0),(6,0),(7,0),(8,0),(9,0),(10,0),(11,0),(12,0),(13,0),(1,1),(14,1),(15,2)] Tryz_mixed (by kernel_rfl) (fun _ hg=>⟨_,aF.mono z hg⟩) (fun c6 a9=>?_)))
  have c7:=aF.mono z a9
  exact aM
 obtain ⟨c9,b0,ho⟩:=aB hm
 refine bO [0,1,4] b0 (fun h J f w=>∃ j k,f 5=zS j h.length k/\f 6=i64 J/\aF G K (own 51 K j k h::box e 29 d::L) w) aM ?_
 ·rintro h J d0 f d1 hm hr ⟨j,k,d2,Z,l⟩
  unfold oP at hm
  refine aK (aJ (aY Z (aG (v:=bY a1 b) (aD (cQ rfl c) (aD (cJ (k':=b+3) fK rfl c rfl) (aD (aU (t:=3) oJ l c rfl rfl) (aD (bC (len:=t.E.length) cP rfl) (aD (cK rfl rfl) (aH ?_)))))))))
  rcases aL hm with ⟨a0,hm⟩|⟨a0,hm⟩
  ·refine aR a0 rfl (aW (aC (aK (cD (aJ (aG (v:=bY a1 b) (aD (cQ rfl c) (aD (cJ (k':=b+3) fK rfl c rfl) (aD (aU (t:=3) oJ l c rfl rfl) (aY Z ?_))))))))));obtain ⟨a,a2,hm⟩:=aB hm
   refine aD (dM cP rfl o rfl rfl rfl a2) ?_;obtain ⟨d3,b1,b2⟩:=bL.el (sz:=3) rfl o a2
   cases b2
   refine aD (jQ (t:=0) (vs:=[i64 a.F,i64 a.B,i64 a.To]) tE l b1 rfl rfl rfl) (bV (vs:=[i64 0,i64 0,i64 0]) zeroValue51 l rfl (fun b3 d4 b4=>(dJ (i:=0) (ns:=[i64 a.F,i64 a.B,i64 a.To]) (us:=[i64 a.F,i64 a.B,i64 a.To]) sizeOf51 b4 rfl rfl rfl rfl rfl (eV rfl) rfl rfl (fun b5 (b6:aF G K (box b3 51 [i64 a.F,i64 a.B,i64 a.To]::own 51 K j k h::box e 29 d::L) b5)=>(aH ?_)))));obtain ⟨b7,d5,d6,a3,d7⟩:=aF.lendBp b6 .head
   refine cV (C:=fun w'=>∃ L',aF G b7 L' w') [(0,0),(1,0),(2,0),(3,0),(4,0),(5,0),(6,0),(7,0),(8,0),(9,0),(10,0),(11,0),(12,0),(13,0),(14,1),(15,1),(16,0)] Tryz_mixed (by kernel_rfl) (fun _ hg=>⟨_,aF.mono a3 hg⟩) (fun d8 b8=>?_)
   have d9:=aF.mono a3 b8
   exact aM
  ·exact aM
theorem aEO {t:bQ} {a:Nat} {p:(List Int)} {k:Int} {R:(List Int)} (hm:aDc t p k=some R) (hs:aF G K (L) w) (b:dT K a1 a (zC t a4 c5 a7 c8)) (h6:bL K a4 c5 t.L) (o:bL K a7 c8 t.E) (b3:bL K a10 c11 p):
  Calls prog 132 ([bY a1 a,zS a10 p.length c11,i64 k]:List Value).toArray w (eC fun v w'=>∃ q r,v=zS q R.length r/\aF G K (own 2 K q r R::L) w'):=by
 refine aN func132 rfl (by kernel_rfl) (by show (3:Nat)<=55;decide) ?_;unfold aDc at hm
 refine aJ (aI (v:=zS none 0 0) (aH (aJ (bX (Kt:=K) (xs:=([]:List Int)) (cs:=[]) (vs:=[]) bN kQ rfl rfl hs rfl (by kernel_rfl) rfl rfl rfl trivial (fun u a3 (b4:aF G K (own 2 K u 0 ([]:List Int)::L) a3)=>(aI (v:=zS u ([]:List Int).length 0) (aH (aK (aJ (aI (v:=i64 0) (aH (aO [] (fun f w=>∃ i x y,aGC i=some R/\f 7=zS x i.length y/\aF G K (own 2 K x y i::L) w) aM ?_))))))))))));obtain ⟨b5,a5,ho⟩:=aB hm
 refine bO [0,1,2] a5 (fun j c f w=>∃ l m,f 7=zS l j.length m/\f 8=i64 c/\aF G K (own 2 K l m j::L) w) aM ?_
 ·rintro j c a6 f b6 hm hr ⟨l,m,b7,n,d⟩
  unfold nA at hm
  refine aK (aJ (aY n (aG (v:=bY a1 a) (aD (cQ rfl b) (aD (cJ (k':=a+3) fK rfl b rfl) (aD (aU (t:=3) oJ d b rfl rfl) (aD (bC (len:=t.E.length) cP rfl) (aD (cK rfl rfl) (aH ?_)))))))))
  rcases aL hm with ⟨z,hm⟩|⟨z,hm⟩
  ·refine aR z rfl (aW (aC (aK (aO [0,1,2,8] (fun f w=>∃ e g h,wD c e=some a6/\f 7=zS g e.length h/\aF G K (own 2 K g h e::L) w) ?_ ?_))))
   ·rintro f b8 ⟨e,g,h,hm,a8,a9⟩
    unfold wD at hm
    exact aC (aS (aY n (aD (cN rfl rfl) (aI (v:=i64 (wr (c+1))) (aH ⟨_,(zI hm).symm,bF,g,h,a8,rfl,a9⟩)))))
   refine aJ (aG (v:=bY a1 a) (aD (cQ rfl b) (aD (cJ (k':=a+3) fK rfl b rfl) (aD (aU (t:=3) oJ d b rfl rfl) (aY n ?_)))));obtain ⟨b9,J,hm⟩:=aB hm
   refine aD (dM cP rfl o rfl rfl rfl J) ?_;obtain ⟨c0,Z,b0⟩:=bL.el (sz:=3) rfl o J
   cases b0
   refine aD (cJ (k':=c.toNat * 3+0) uJ rfl Z rfl) (aD (aU (t:=0) cR d Z rfl rfl) (aG (v:=i64 k) (aD (qS rfl rfl) (aH ?_))))
   rcases aL hm with ⟨a0,hm⟩|⟨a0,hm⟩
   ·refine aR a0 rfl (cV (C:=fun w'=>∃ L',aF G K L' w') [(0,0),(1,0),(2,0),(3,0),(4,0),(5,0),(6,0),(7,0),(8,0),(9,0),(10,0),(11,0),(12,0),(13,0),(14,0),(15,0),(16,0),(17,0),(18,0),(19,0),(20,0),(21,0),(22,0),(23,0),(24,1),(25,0)] Tryz_mixed (by kernel_rfl) (fun _ hg=>⟨_,aF.mono d hg⟩) (fun c1 b1=>?_))
    have c2:=aF.mono d b1
    exact aM
   ·exact aM
  ·exact aM
theorem aDl {t:bQ} {q:Nat} {p R:(List Int)} (hm:zJ t p=some R) (hs:aF G K (L) w) (h3:dT K a1 q (zC t a4 c5 a7 c8)) (h6:bL K a4 c5 t.L) (h9:bL K a7 c8 t.E) (a0:bL K a10 c11 p):
  Calls prog 101 ([bY a1 q,zS a10 p.length c11]:List Value).toArray w (eC fun v w'=>∃ d1 d2,v=zS d1 R.length d2/\aF G K (own 2 K d1 d2 R::L) w'):=by
 refine aN func101 rfl (by kernel_rfl) (by show (2:Nat)<=78;decide) ?_;unfold zJ at hm
 refine aJ (aI (v:=zS none 0 0) (aH (aJ (bX (Kt:=K) (xs:=([]:List (List Int))) (cs:=[]) (vs:=[]) iG aBg rfl rfl hs rfl (by kernel_rfl) rfl rfl rfl trivial (fun d3 f7 (k7:aF G K (own 32 K d3 0 ([]:List (List Int))::L) f7)=>(aI (v:=zS d3 ([]:List (List Int)).length 0) (aH (aK (aJ (aI (v:=i64 0) (aH (aO [1] (fun f w=>∃ b d h j,Hp.le K b/\mO p d=some R/\f 5=zS h d.length j/\aF G b (own 32 b h j d::L) w) ?_ ?_))))))))))))
 ·rintro f k8 ⟨b,d,h,j,a3,hm,d4,f8⟩
  unfold mO at hm
  refine aC (aJ (bX (Kt:=K) (xs:=([]:List Int)) (cs:=[]) (vs:=[]) bN kQ rfl rfl f8 rfl (by kernel_rfl) rfl rfl rfl trivial (fun d5 f9 (k9:aF G b (own 2 K d5 0 ([]:List Int)::own 32 b h j d::L) f9)=>(aI (v:=zS d5 ([]:List Int).length 0) (aH (aJ (aI (v:=i64 0) (aH (aK (aJ (aI (v:=i64 0) (aH (aO [] (fun f w=>∃ b4 d6 d7,aEC b4=some R/\f 7=zS d6 b4.length d7/\aF G b (own 2 K d6 d7 b4::L) w) aM ?_)))))))))))))
  obtain ⟨l0,g0,ho⟩:=aB hm
  refine oI [1,5] g0 (fun e b5 o f w=>∃ k l,f 7=zS k e.length l/\f 8=i64 b5/\f 9=i64 o/\aF G b (own 2 K k l e::own 32 b h j d::L) w) aM ?_
  ·rintro e b5 o b6 f l1 hm hr ⟨k,l,l2,l3,a5,l4⟩
   unfold jT at hm
   refine aK (aJ (aY a5 (aG (v:=zS a10 p.length c11) (aD (bC (len:=p.length) bN rfl) (aD (cK rfl rfl) (aH ?_))))))
   rcases aL hm with ⟨d8,hm⟩|⟨d8,hm⟩
   ·refine aR d8 rfl (aW (aC (aK (aO [1,5,9] (fun f w=>∃ a6 b7 a8 a9,wE o a6 b7=some b6/\f 7=zS a8 a6.length a9/\f 8=i64 b7/\aF G b (own 2 K a8 a9 a6::own 32 b h j d::L) w) ?_ ?_))))
    ·rintro f l5 ⟨a6,b7,a8,a9,hm,g1,g2,g3⟩
     unfold wE at hm
     exact aC (aS (aY a5 (aD (cN rfl rfl) (aI (v:=i64 (wr (o+1))) (aH ⟨_,(zI hm).symm,bF,a8,a9,g1,g2,rfl,g3⟩)))))
    refine aJ (aI (v:=i64 (-1)) (aH (aK (aJ (aI (v:=i64 0) (aH (aO [1,5,7,8,9] (fun f w=>∃ b8,wG e b5 o b8=some b6/\f 10=i64 b8/\aF G b (own 2 K k l e::own 32 b h j d::L) w) ?_ ?_)))))))
    ·rintro f l6 ⟨b8,hm,l7,l8⟩
     unfold wG at hm
     exact aC (gT [1,5,7,9] (fun f w=>∃ d9 e0,wF e o d9 e0=some b6/\f 8=i64 d9/\f 10=i64 e0/\aF G b (own 2 K k l e::own 32 b h j d::L) w) aM aM)
    obtain ⟨l9,g4,ho⟩:=aB hm
    refine bO [1,5,7,8,9] g4 (fun b0 r f w=>f 10=i64 b0/\f 11=i64 r/\aF G b (own 2 K k l e::own 32 b h j d::L) w) aM ?_
    ·rintro b0 r b9 f m0 hm hr ⟨m1,c0,m2⟩
     unfold lU at hm
     refine aK (aK (bP [1,5,7,8,9,10,11] (fun f w=>∃ c1,lT p d e o b0 r c1=some b9/\f 41=zB c1/\aF G b (own 2 K k l e::own 32 b h j d::L) w) ?_ ?_))
     ·rintro f m3 ⟨c1,hm,g5,g6⟩
      unfold lT at hm
      refine aC ?_
      rcases aL hm with ⟨e1,hm⟩|⟨e1,hm⟩
      ·refine aR e1 g5 (aW (aC (aK (aO [1,5,7,8,9,11] (fun f w=>∃ c2,oQ r c2=some b9/\f 10=i64 c2/\aF G b (own 2 K k l e::own 32 b h j d::L) w) ?_ ?_))))
       ·rintro f m4 ⟨c2,hm,g7,g8⟩
        unfold oQ at hm
        exact aC (aS (aY c0 (aD (cN rfl rfl) (aI (v:=i64 (wr (r+1))) (aH ⟨_,(zI hm).symm,bF,g7,rfl,g8⟩)))))
       refine aK (bP [1,5,7,8,9,10,11] (fun f w=>∃ e2,oR e b0 r e2=some b9/\f 63=zB e2/\aF G b (own 2 K k l e::own 32 b h j d::L) w) aM ?_);obtain ⟨g9,b1,c3,a,e3⟩:=aF.lendSp g6 (zR _) zt1
       refine mK (C:=fun w'=>aF G g9 (own 2 K k l e::L) w') Tryz_mixed (by kernel_rfl) (aF.mono a (dZ.drew _)) (cC (fun _ a=>aT (v:=zS a10 p.length c11) rfl) (cC (fun _ a=>aT c0) ?_));obtain ⟨h0,e4,hm⟩:=aB hm
       refine cC (fun _ a=>dM bN rfl (a0.mono (zL a3 b1)) rfl rfl rfl e4) ?_;obtain ⟨m5,h1,h2⟩:=bL.el (sz:=1) rfl a0 e4
       cases h2
       refine cC (fun _ a=>aU (t:=0) cR a (h1.mono (zL a3 b1)) rfl rfl) (cC (fun _ a=>aT (v:=zS a10 p.length c11) rfl) (cC (fun _ a=>aT a5) ?_));obtain ⟨h4,e5,hm⟩:=aB hm
       refine cC (fun _ a=>dM bN rfl (a0.mono (zL a3 b1)) rfl rfl rfl e5) ?_;obtain ⟨m6,h5,h7⟩:=bL.el (sz:=1) rfl a0 e5
       cases h7
       refine cC (fun _ a=>aU (t:=0) cR a (h5.mono (zL a3 b1)) rfl rfl) (cC (fun _ a=>qS rfl rfl) (cC (fun _ a=>aT (v:=zB (h0 == h4)) rfl) ?_))
       rcases aL hm with ⟨c,hm⟩|⟨c,hm⟩
       ·refine kE (g:=53) rfl rfl c (cC (fun _ a=>aT d4) (kE (g:=53) rfl rfl c (cC (fun _ a=>aT c0) (kE (g:=53) rfl rfl c ?_))));obtain ⟨h8,c4,hm⟩:=aB hm
        have e6:=aFe c3 c4
        refine cC (fun _ a=>cM iG rfl e6 rfl rfl rfl c4) (kE (g:=53) rfl rfl c ?_);obtain ⟨m7,i0,i1⟩:=bL.el (sz:=1) rfl c3 c4
        obtain ⟨i2,i3,rfl,i4⟩:=i1
        refine cC (fun _ a=>aU (t:=0) vU a i0 rfl rfl) (kE (g:=53) rfl rfl c (cC (fun _ a=>aT d4) (kE (g:=53) rfl rfl c (cC (fun _ a=>aT a5) (kE (g:=53) rfl rfl c ?_)))));obtain ⟨i5,e7,hm⟩:=aB hm
        refine cC (fun _ a=>cM iG rfl e6 rfl rfl rfl e7) (kE (g:=53) rfl rfl c ?_);obtain ⟨m8,i6,i7⟩:=bL.el (sz:=1) rfl c3 e7
        obtain ⟨i8,i9,rfl,j0⟩:=i7
        refine cC (fun _ a=>aU (t:=0) vU a i6 rfl rfl) (kE (g:=53) rfl rfl c ?_);obtain ⟨e8,j1,hm⟩:=aB hm
        refine aFc (vs:=[zS i2 h8.length i3,zS i8 i5.length i9]) (v:=zB e8) call65 rfl (fun _ a=>(sC j1 a i4 j0)) (cC (fun _ a=>eX (v:=zB e8) c rfl rfl) (uV (fun m9 j2=>?_)))
        have n0:=e3 _ _ j2
        exact aM
       ·refine jI (g:=53) rfl rfl (gS c) (jI (g:=53) rfl rfl (gS c) (jI (g:=53) rfl rfl (gS c) (jI (g:=53) rfl rfl (gS c) (jI (g:=53) rfl rfl (gS c) (jI (g:=53) rfl rfl (gS c) (jI (g:=53) rfl rfl (gS c) (jI (g:=53) rfl rfl (gS c) (jI (g:=53) rfl rfl (gS c) (cC (fun _ a=>fF (v:=zB false) c rfl rfl) (uV (fun n1 j3=>?_)))))))))))
        have n2:=e3 _ _ j3
        exact aM
      ·exact aM
     exact aM
   ·exact aM
 obtain ⟨n3,j4,ho⟩:=aB hm
 refine bO [0,1] j4 (fun u b2 f w=>∃ m x y,Hp.le K m/\f 5=zS x u.length y/\f 6=i64 b2/\aF G m (own 32 m x y u::L) w) aM ?_
 ·rintro u b2 n4 f n5 hm hr ⟨m,x,y,n,j5,c6,e9⟩
  unfold iY at hm
  refine aK (aJ (aY c6 (aG (v:=bY a1 q) (aD (cQ rfl (h3.mono n)) (aD (cJ (k':=q+0) fA rfl (h3.mono n) rfl) (aD (aU (t:=0) cR e9 (h3.mono n) rfl rfl) (aD (cK rfl rfl) (aH ?_))))))))
  rcases aL hm with ⟨f0,hm⟩|⟨f0,hm⟩
  ·refine aR f0 rfl (aW (aC (aK (cD (aS (aY j5 (aG (v:=bY a1 q) (aG (v:=zS a10 p.length c11) (aY c6 ?_)))))))));obtain ⟨z,j6,hm⟩:=aB hm
   refine aP (vs:=[bY a1 q,zS a10 p.length c11,i64 b2]) call132 rfl (aEO j6 e9 (h3.mono n) (h6.mono n) (h9.mono n) (a0.mono n)) ?_
   rintro _ j7 ⟨J,Z,rfl,j8⟩
   have j9:aF G m (rows [2] ([(J,Z)]:List (Dp.Hd (List Int))) [z]::own 32 m x y u::L) j7:=aF.rowsOne j8
   refine bX (Kt:=K) (xs:=aX ([(J,Z)]:List (Dp.Hd (List Int))) ([z]:List (List Int))) (cs:=[zS J z.length Z]) (vs:=[(0,zS J z.length Z)]) iG aBg rfl rfl j9 rfl (by kernel_rfl) rfl rfl rfl ⟨rfl,trivial⟩ ?_
   intro k0 f1 (k1:aF G m (own 32 K k0 1 (aX ([(J,Z)]:List (Dp.Hd (List Int))) ([z]:List (List Int)))::rows [2] ([(J,Z)]:List (Dp.Hd (List Int))) ([z]:List (List Int))::own 32 m x y u::L) f1)
   obtain ⟨b3,f2,k3,_,c7,_⟩:=aF.lendD' (i:=0) k1 rfl rfl rfl
   replace c7:aF G b3 (own 32 m x y u::L) f1:=c7
   obtain ⟨f3,k4,hm⟩:=aB hm
   exact aDs (i:=0) iG underlying81 aBg rfl rfl c7 rfl f2 k3 k4 rfl rfl rfl rfl (fun c9 d0 k5 (k6:aF G b3 (own 32 b3 c9 d0 f3::L) k5)=>(aI (v:=zS c9 f3.length d0) (aV (cH (aC (aS (aY c6 (aD (cN rfl rfl) (aI (v:=i64 (wr (b2+1))) (aH ⟨_,(zI hm).symm,bF,b3,c9,d0,(zL n f2),rfl,rfl,k6⟩))))))))))
  ·exact aM
theorem aHp {t:bQ} {a:Nat} {R:((List Int) × Int)} (hm:zM t=some R) (m:aF G K (L) w) (g:dT K a1 a (zC t a4 c5 a7 c8)) (u:bL K a4 c5 t.L) (x:bL K a7 c8 t.E):
  Calls prog 66 ([bY a1 a]:List Value).toArray w (eC fun v w'=>∃ n o,v=Value.tuple #[zS n R.1.length o,i64 R.2]/\aF G K (own 2 K n o R.1::L) w'):=by
 refine aN func66 rfl (by kernel_rfl) (by show (1:Nat)<=23;decide) ?_;unfold zM at hm
 refine aJ (aI (v:=zS none 0 0) (aI (v:=i64 0) (aH (aJ (aG (v:=bY a1 a) (aD (cQ rfl g) (aD (cJ (k':=a+0) fA rfl g rfl) (aD (aU (t:=0) cR m g rfl rfl) ?_))))))));obtain ⟨h,y,hm⟩:=aB hm
 refine xD (e:=(0:Int)) bN kQ rfl rfl m rfl rfl rfl y rfl (fun p z (c0:aF G K (own 2 K p h.length h::L) z)=>(aI (v:=zS p h.length h.length) (aH (aJ (aI (v:=i64 0) (aH (cD ?_)))))));obtain ⟨c1,J,ho⟩:=aB hm
 refine bO [0] J (fun b q f w=>∃ c d,f 4=zS c b.length d/\f 5=i64 q/\aF G K (own 2 K c d b::L) w) aM ?_
 ·rintro b q c2 f c3 hm hr ⟨c,d,r,c4,Z⟩
  unfold lV at hm
  refine aK (cD (aJ (aG (v:=bY a1 a) (aY r ?_))));obtain ⟨c6,i,a0,a2,a3⟩:=aF.lendSp Z (zR _) .head
  obtain ⟨j,a5,hm⟩:=aB hm
  refine aP (vs:=[bY a1 a,zS c b.length d]) call101 rfl (aDl a5 a2 (g.mono i) (u.mono i) (x.mono i) a0) ?_
  rintro _ c7 ⟨k,l,rfl,a6⟩
  have a8:=a3 _ _ a6
  refine aI (v:=zS k j.length l) (aH (aK (aJ (aG (v:=zS k j.length l) (aY r ?_)))));obtain ⟨c9,a9,b0,b1,b2⟩:=aF.lendSp a8 (zR _) zt1
  obtain ⟨d0,b3,b4,b5,b6⟩:=aF.lendSp b1 a9 .head
  obtain ⟨d1,b7,hm⟩:=aB hm
  refine aP (vs:=[zS k j.length l,zS c b.length d]) call65 rfl (sC b7 b5 (b0.mono b3) b4) ?_
  rintro _ d2 ⟨rfl,b8⟩
  have b9:=b6 _ _ b8
  have d3:=b2 _ _ b9
  exact aM
theorem aEP {t:bQ} {a:Nat} {R:(List Int)} (hm:aFj t=some R) (d:aF G K (L) w) (e:dT K a1 a (zC t a4 c5 a7 c8)) (g:bL K a4 c5 t.L) (h:bL K a7 c8 t.E):
  Calls prog 36 ([bY a1 a]:List Value).toArray w (eC fun v w'=>∃ b c,v=zS b R.length c/\aF G K (own 2 K b c R::L) w'):=by
 exact aM
theorem aDO {t:bQ} {b:Nat} {R:bQ} (hm:aBs t=some R) (hs:aF G K (L) w) (n:dT K a1 b (zC t a4 c5 a7 c8)) (o:bL K a4 c5 t.L) (p:bL K a7 c8 t.E):
  Calls prog 19 ([bY a1 b]:List Value).toArray w (eC fun v w'=>∃ q r u x,v=Value.agg (zCa R q r u x)/\aF G K (own 9 K q r R.L::own 51 K u x R.E::L) w'):=by
 let h:=zG
 refine aN func19 rfl (by kernel_rfl) (by show (1:Nat)<=10;decide) ?_;unfold aBs at hm
 refine aJ (bV (vs:=h) zeroValue29 hs rfl (fun a5 f1 a6=>(aH (aJ (aG (v:=bY a1 b) (aG (v:=bY a1 b) ?_))))));obtain ⟨y,a8,hm⟩:=aB hm
 refine aP (vs:=[bY a1 b]) call32 rfl (aAs a8 a6 n o p) ?_
 rintro _ f2 ⟨z,J,rfl,a9⟩
 obtain ⟨f3,j,b0,b1,b2⟩:=aF.lendSp a9 (zR _) .head
 obtain ⟨a,b3,hm⟩:=aB hm
 refine aP (vs:=[bY a1 b,zS z y.length J]) call31 rfl (aBF b3 b1 (n.mono j) (o.mono j) (p.mono j) b0) ?_
 rintro _ f4 ⟨c,d,e,g,rfl,b4⟩
 have b5:=b2 _ _ b4
 refine bV (vs:=h) zeroValue29 b5 rfl (fun k f5 b6=>(dJ (i:=0) (ns:=(zC a c d e g)) (us:=(zC a c d e g)) sizeOf29 b6 rfl rfl rfl rfl rfl (eV rfl) rfl rfl (fun b7 (b8:aF G K (box k 29 (zC a c d e g)::own 2 K z J y::own 9 K c d a.L::own 51 K e g a.E::box a5 29 h::L) b7)=>(aH (aJ ?_)))));obtain ⟨f6,b9,c0,c1,c2⟩:=aF.lendSp b8 (zR _) zt2
 obtain ⟨f7,c3,c4,c6,c7⟩:=aF.lendSp c1 b9 zt2
 obtain ⟨f8,Z,c9,d0,d1⟩:=aF.lendBp c6 .head
 obtain ⟨d2,d3,hm⟩:=aB hm
 refine aP (vs:=[bY (some ⟨k,0,none⟩) 0]) call36 rfl (aEP d3 d0 c9 (c0.mono (zL c3 Z)) (c4.mono Z)) ?_
 rintro _ f9 ⟨d4,d5,rfl,d6⟩
 have d7:=d1 _ _ d6
 have d8:=c7 _ _ d7
 have d9:=c2 _ _ d8
 obtain ⟨g0,a0,e0,e1,g1⟩:=aF.lendSp d9 (zR _) .head
 obtain ⟨g2,a2,e2,e3,g3⟩:=aF.lendSp e1 a0 .head
 obtain ⟨g4,l,e4,e5,g5⟩:=aF.lendBp e3 .head
 obtain ⟨g6,m,e6,e7,e8⟩:=aF.lendSp e5 (zL (zL a0 a2) l) .head
 obtain ⟨g7,e9,hm⟩:=aB hm
 refine aP (vs:=[bY (some ⟨k,0,none⟩) 0,zS d4 d2.length d5]) call35 rfl (aBH e9 e7 (e4.mono m) (e0.mono (zL (zL a2 l) m)) (e2.mono (zL l m)) e6) ?_
 rintro _ g8 ⟨g9,h0,h1,h2,rfl,f0⟩
 have h4:=e8 _ _ f0
 exact aM
theorem aAB {a:(List UInt8)} {n o:Int} {R:((List aQ) × Int × Int)} (hm:rK a n o=some R) (hs:aF G K (box b1 63 [zS a2 a.length c3,i64 n,Value.int .u64 o]::L) w) (h4:bL K a2 c3 a):
  Calls prog 58 ([Value.pointer (some ⟨b1,0,none⟩)]:List Value).toArray w (eC fun v w'=>∃ y z,v=zS y R.1.length z/\aF G K (own 9 K y z R.1::box b1 63 [zS a2 a.length c3,i64 R.2.1,Value.int .u64 R.2.2]::L) w'):=by
 let J:=box b1 63 [zS a2 a.length c3,i64 n,Value.int .u64 o]
 refine aN func58 rfl (by kernel_rfl) (by show (1:Nat)<=35;decide) ?_;unfold rK at hm
 refine aJ (aI (v:=zS none 0 0) (aH (aJ (bX (Kt:=K) (xs:=([([116,97,117]:aQ)]:List aQ)) (cs:=[str ([116,97,117]:aQ)]) (vs:=[(0,str ([116,97,117]:aQ))]) fD aGu rfl rfl hs rfl (by kernel_rfl) rfl rfl rfl ⟨rfl,trivial⟩ (fun p w6 (b5:aF G K (own 9 K p 1 ([([116,97,117]:aQ)]:List aQ)::J::L) w6)=>(aI (v:=zS p ([([116,97,117]:aQ)]:List aQ).length 1) (aH (aJ (bX (Kt:=K) (xs:=([([97]:aQ),([98]:aQ),([99]:aQ),([103,101,116,40,48,41]:aQ),([103,101,116,40,49,41]:aQ)]:List aQ)) (cs:=[str ([97]:aQ),str ([98]:aQ),str ([99]:aQ),str ([103,101,116,40,48,41]:aQ),str ([103,101,116,40,49,41]:aQ)]) (vs:=[(0,str ([97]:aQ)),(1,str ([98]:aQ)),(2,str ([99]:aQ)),(3,str ([103,101,116,40,48,41]:aQ)),(4,str ([103,101,116,40,49,41]:aQ))]) fD aGu rfl rfl b5 rfl (by kernel_rfl) rfl rfl rfl ⟨rfl,rfl,rfl,rfl,rfl,trivial⟩ (fun b w9 (c1:aF G K (own 9 K b 5 ([([97]:aQ),([98]:aQ),([99]:aQ),([103,101,116,40,48,41]:aQ),([103,101,116,40,49,41]:aQ)]:List aQ)::own 9 K p 1 ([([116,97,117]:aQ)]:List aQ)::J::L) w9)=>(aI (v:=zS b ([([97]:aQ),([98]:aQ),([99]:aQ),([103,101,116,40,48,41]:aQ),([103,101,116,40,49,41]:aQ)]:List aQ).length 5) (aH (aK (aJ (aI (v:=i64 0) (aH (aO [] (fun f w=>∃ h c d q r,qV h c d=some R/\f 3=zS q h.length r/\aF G K (own 9 K q r h::box b1 63 [zS a2 a.length c3,i64 c,Value.int .u64 d]::L) w) ?_ ?_)))))))))))))))))
 ·rintro f c2 ⟨h,c,d,q,r,hm,c4,c5⟩
  unfold qV at hm
  exact aC (gT [] (fun f w=>∃ t Z a0,qU c d t=some R/\f 3=zS Z t.length a0/\aF G K (own 9 K Z a0 t::box b1 63 [zS a2 a.length c3,i64 c,Value.int .u64 d]::L) w) aM aM)
 obtain ⟨c6,b7,ho⟩:=aB hm
 refine vT [0,4] b7 (fun a1 a3 e g f w=>∃ i j,f 3=zS i e.length j/\f 5=i64 g/\aF G K (own 9 K b 5 ([([97]:aQ),([98]:aQ),([99]:aQ),([103,101,116,40,48,41]:aQ),([103,101,116,40,49,41]:aQ)]:List aQ)::own 9 K i j e::box b1 63 [zS a2 a.length c3,i64 a1,Value.int .u64 a3]::L) w) aM ?_
 ·rintro a1 a3 e g a4 f c7 hm hr ⟨i,j,c8,a6,c9⟩
  unfold kG at hm
  refine aK (aJ (aY a6 (aG (v:=zS b ([([97]:aQ),([98]:aQ),([99]:aQ),([103,101,116,40,48,41]:aQ),([103,101,116,40,49,41]:aQ)]:List aQ).length 5) (aD (bC (len:=([([97]:aQ),([98]:aQ),([99]:aQ),([103,101,116,40,48,41]:aQ),([103,101,116,40,49,41]:aQ)]:List aQ).length) fD rfl) (aD (cK rfl rfl) (aH ?_))))))
  rcases aL hm with ⟨a7,hm⟩|⟨a7,hm⟩
  ·refine aR a7 rfl (aW (aC (aK (aO [0,4,5] (fun f w=>∃ u x k l m,iI g u x k=some a4/\f 3=zS l k.length m/\aF G K (own 9 K l m k::own 9 K b 5 ([([97]:aQ),([98]:aQ),([99]:aQ),([103,101,116,40,48,41]:aQ),([103,101,116,40,49,41]:aQ)]:List aQ)::box b1 63 [zS a2 a.length c3,i64 u,Value.int .u64 x]::L) w) ?_ ?_))))
   ·rintro f d0 ⟨u,x,k,l,m,hm,b8,b9⟩
    unfold iI at hm
    exact aC (aS (aY a6 (aD (cN rfl rfl) (aI (v:=i64 (wr (g+1))) (aH ⟨_,(zI hm).symm,bF,l,m,b8,rfl,(aF.arr 2 [1,0] b9 rfl)⟩)))))
   exact aK (bP [0,3,4,5] (fun f w=>∃ a9 b0 b2,nB e g a9 b0 b2=some a4/\f 20=zB b2/\aF G K (own 9 K b 5 ([([97]:aQ),([98]:aQ),([99]:aQ),([103,101,116,40,48,41]:aQ),([103,101,116,40,49,41]:aQ)]:List aQ)::own 9 K i j e::box b1 63 [zS a2 a.length c3,i64 a9,Value.int .u64 b0]::L) w) aM aM)
  ·exact aM
end Gv
namespace Gv
open Gv.Hp renaming le_refl→zR
open Go.Value renaming slice→zS,bool→zB,pointer→zP,agg→zA
open Option.some renaming inj→zI
open Gv.Hp renaming le_trans→zL
open Go Go.Proofs Go.Proofs.Tryz
set_option maxRecDepth 20000
set_option maxHeartbeats 40000000
variable {G:tO} {K:Hp} {L:List fJ} {w:World} {b1 c3 c9 c12 c2 c5:Nat} {a2 a5 a8 a11 a1 a4:Option Addr}
theorem aDm {b:(List UInt8)} {e6 e7:Int} {R:(bQ × Int × Int)} (hm:zN b e6 e7=some R) (hs:aF G K (box b1 63 [zS a2 b.length c3,i64 e6,Value.int .u64 e7]::L) w) (o:bL K a2 c3 b):
  Calls prog 28 ([zP (some ⟨b1,0,none⟩)]:List Value).toArray w (eC fun v w'=>∃ i4 i5 i6 i7,v=zA (zCa R.1 i4 i5 i6 i7)/\aF G K (own 9 K i4 i5 R.1.L::own 51 K i6 i7 R.1.E::box b1 63 [zS a2 b.length c3,i64 R.2.1,Value.int .u64 R.2.2]::L) w'):=by
 let e:=zG
 refine aN func28 rfl (by kernel_rfl) (by show (1:Nat)<=125;decide) ?_;unfold zN at hm
 refine aJ (bV (vs:=e) zeroValue29 hs rfl (fun g w6 k9=>(aH (aJ (aG (v:=zP (some ⟨b1,0,none⟩)) ?_)))))
 have l0:aF G K (box b1 63 [zS a2 b.length c3,i64 e6,Value.int .u64 e7]::box g 29 e::L) w6:=(aF.arr 2 [1,0] k9 rfl)
 obtain ⟨j,l1,hm⟩:=aB hm
 refine aP (vs:=[zP (some ⟨b1,0,none⟩),i64 4]) call15 rfl (aZ l1 l0 o) ?_
 rintro _ t9 ⟨rfl,l2⟩
 refine aD (cN rfl rfl) (aI (v:=i64 (wr (1+j.1))) (aH (aJ (aG (v:=i64 (wr (1+j.1))) (aG (v:=zP (some ⟨b1,0,none⟩)) (aG (v:=i64 (wr (1+j.1))) (aD (oH rfl rfl) ?_)))))));obtain ⟨p,l3,hm⟩:=aB hm
 refine aP (vs:=[zP (some ⟨b1,0,none⟩),i64 (wr (7 - (wr (1+j.1))))]) call15 rfl (aZ l3 l2 o) ?_
 rintro _ u0 ⟨rfl,l4⟩
 refine aD (cN rfl rfl) (aI (v:=i64 (wr ((wr (1+j.1))+p.1))) (aH (aJ (aG (v:=zP (some ⟨b1,0,none⟩)) ?_))));obtain ⟨a,l5,hm⟩:=aB hm
 refine aP (vs:=[zP (some ⟨b1,0,none⟩)]) call58 rfl (aAB l5 l4 o) ?_
 rintro _ u1 ⟨c,d,rfl,l6⟩
 refine aI (v:=zS c a.1.length d) (aH (aJ (bX (Kt:=K) (xs:=([]:List Int)) (cs:=[]) (vs:=[]) bN kQ rfl rfl l6 rfl (by kernel_rfl) rfl rfl rfl trivial (fun e8 l7 (l8:aF G K (own 2 K e8 0 ([]:List Int)::own 9 K c d a.1::box b1 63 [zS a2 b.length c3,i64 a.2.1,Value.int .u64 a.2.2]::box g 29 e::L) l7)=>(aI (v:=zS e8 ([]:List Int).length 0) (aH (aK (aJ (aI (v:=i64 0) (aH (aO [0,2,3,4,5] (fun f w=>∃ b7 b8 k l m,qB b j p a b7 b8 k=some R/\f 6=zS l k.length m/\aF G K (own 2 K l m k::own 9 K c d a.1::box b1 63 [zS a2 b.length c3,i64 b7,Value.int .u64 b8]::box g 29 e::L) w) ?_ ?_)))))))))))
 ·rintro f u2 ⟨b7,b8,k,l,m,hm,i8,l9⟩
  unfold qB at hm
  refine aC (aJ (bX (Kt:=K) (xs:=([]:List Edge)) (cs:=[]) (vs:=[]) cP qT rfl rfl l9 rfl (by kernel_rfl) rfl rfl rfl trivial (fun e9 i9 (m0:aF G K (own 51 K e9 0 ([]:List Edge)::own 2 K l m k::own 9 K c d a.1::box b1 63 [zS a2 b.length c3,i64 b7,Value.int .u64 b8]::box g 29 e::L) i9)=>(aI (v:=zS e9 ([]:List Edge).length 0) (aH (aK (aJ (aG (v:=zP (some ⟨b1,0,none⟩)) (aG (v:=i64 (wr (1+j.1))) (aD (R_mul rfl rfl) (aD (cN rfl rfl) ?_)))))))))))
  have m1:aF G K (box b1 63 [zS a2 b.length c3,i64 b7,Value.int .u64 b8]::own 51 K e9 0 ([]:List Edge)::own 2 K l m k::own 9 K c d a.1::box g 29 e::L) i9:=(aF.arr 4 [3,0,1,2] m0 rfl)
  obtain ⟨m2,m3,hm⟩:=aB hm
  refine aP (vs:=[zP (some ⟨b1,0,none⟩),i64 (wr (2+(wr (2 * (wr (1+j.1))))))]) call15 rfl (aZ m3 m1 o) ?_
  rintro _ u3 ⟨rfl,u4⟩
  refine aI (v:=i64 m2.1) (aH (aO [0,2,4,5] (fun f w=>∃ c1 c2 b9 c4 c48,rM b j p a c1 c2 b9=some R/\f 8=zS c4 b9.length c48/\aF G K (own 51 K c4 c48 b9::box b1 63 [zS a2 b.length c3,i64 c1,Value.int .u64 c2]::own 9 K c d a.1::box g 29 e::L) w) ?_ ?_))
  ·rintro f m4 ⟨c1,c2,b9,c4,c48,hm,m5,m6⟩
   unfold rM at hm
   refine aC (gT [0,2,4,5] (fun f w=>∃ j0 j1 f0 j2 j3,rL b j p a j0 j1 f0=some R/\f 8=zS j2 f0.length j3/\aF G K (own 51 K j2 j3 f0::box b1 63 [zS a2 b.length c3,i64 j0,Value.int .u64 j1]::own 9 K c d a.1::box g 29 e::L) w) aM (aJ (aG (v:=zP (some ⟨b1,0,none⟩)) ?_)))
   have m7:aF G K (box b1 63 [zS a2 b.length c3,i64 c1,Value.int .u64 c2]::own 51 K c4 c48 b9::own 9 K c d a.1::box g 29 e::L) m4:=(aF.arr 2 [1,0] m6 rfl)
   obtain ⟨u5,m8,hm⟩:=aB hm
   refine aP (vs:=[zP (some ⟨b1,0,none⟩),i64 3]) call18 rfl (qZ m8 m7 o) ?_
   rintro _ u6 ⟨rfl,m9⟩
   refine aH ?_
   rcases aL hm with ⟨j4,hm⟩|⟨j4,hm⟩
   ·refine aR j4 rfl (aS (aY m5 (aG (v:=zP (some ⟨b1,0,none⟩)) (aG (v:=i64 (wr ((wr (1+j.1))+p.1))) ?_))));obtain ⟨u7,n0,hm⟩:=aB hm
    refine aP (vs:=[zP (some ⟨b1,0,none⟩),i64 (wr ((wr (1+j.1))+p.1))]) call15 rfl (aZ n0 m9 o) ?_
    rintro _ u8 ⟨rfl,n1⟩
    refine aG (v:=zP (some ⟨b1,0,none⟩)) (aG (v:=zS c a.1.length d) (aD (bC (len:=a.1.length) fD rfl) ?_));obtain ⟨u9,n2,hm⟩:=aB hm
    refine aP (vs:=[zP (some ⟨b1,0,none⟩),i64 (a.1.length:Int)]) call15 rfl (aZ n2 n1 o) ?_
    rintro _ v0 ⟨rfl,n3⟩
    refine aG (v:=zP (some ⟨b1,0,none⟩)) (aG (v:=i64 (wr ((wr (1+j.1))+p.1))) ?_);obtain ⟨v1,n4,hm⟩:=aB hm
    exact aP (vs:=[zP (some ⟨b1,0,none⟩),i64 (wr ((wr (1+j.1))+p.1))]) call15 rfl (aZ n4 n3 o) aM
   ·exact aM
  obtain ⟨v2,n5,ho⟩:=aB hm
  refine vT [0,2,3,4,5,6] n5 (fun c5 c6 c0 b0 f w=>∃ c7 c8,f 8=zS c7 c0.length c8/\f 9=i64 b0/\aF G K (box b1 63 [zS a2 b.length c3,i64 c5,Value.int .u64 c6]::own 51 K c7 c8 c0::own 2 K l m k::own 9 K c d a.1::box g 29 e::L) w) aM ?_
  ·rintro c5 c6 c0 b0 f1 f v3 hm hr ⟨c7,c8,n6,j5,j6⟩
   unfold mP at hm
   refine aK (aJ (aY j5 (aD (aBX rfl rfl) (aH ?_))))
   rcases aL hm with ⟨f2,hm⟩|⟨f2,hm⟩
   ·refine aR f2 rfl (aW (aC (aK (aO [0,2,3,4,5,6,9] (fun f w=>∃ f3 f4 c9 d0 d1,wH b0 f3 f4 c9=some f1/\f 8=zS d0 c9.length d1/\aF G K (own 51 K d0 d1 c9::box b1 63 [zS a2 b.length c3,i64 f3,Value.int .u64 f4]::own 2 K l m k::own 9 K c d a.1::box g 29 e::L) w) ?_ ?_))))
    ·rintro f v4 ⟨f3,f4,c9,d0,d1,hm,n7,n8⟩
     unfold wH at hm
     exact aC (aS (aY j5 (aD (oH rfl rfl) (aI (v:=i64 (wr (b0 - 1))) (aH ⟨_,(zI hm).symm,bF,d0,d1,n7,rfl,(aF.arr 2 [1,0] n8 rfl)⟩)))))
    refine aJ (aG (v:=zP (some ⟨b1,0,none⟩)) (aG (v:=i64 (wr (1+j.1))) ?_));obtain ⟨j7,n9,hm⟩:=aB hm
    refine aP (vs:=[zP (some ⟨b1,0,none⟩),i64 (wr (1+j.1))]) call15 rfl (aZ n9 j6 o) ?_
    rintro _ v5 ⟨rfl,o0⟩
    refine aI (v:=i64 j7.1) (aH (aJ (aG (v:=zP (some ⟨b1,0,none⟩)) (aG (v:=zS c a.1.length d) (aD (bC (len:=a.1.length) fD rfl) ?_)))));obtain ⟨J,o1,hm⟩:=aB hm
    refine aP (vs:=[zP (some ⟨b1,0,none⟩),i64 (a.1.length:Int)]) call15 rfl (aZ o1 o0 o) ?_
    rintro _ v6 ⟨rfl,o2⟩
    refine aI (v:=i64 J.1) (aH (aJ (aG (v:=zP (some ⟨b1,0,none⟩)) (aG (v:=i64 (wr (1+j.1))) ?_))));obtain ⟨j8,o3,hm⟩:=aB hm
    refine aP (vs:=[zP (some ⟨b1,0,none⟩),i64 (wr (1+j.1))]) call15 rfl (aZ o3 o2 o) ?_
    rintro _ v7 ⟨rfl,v8⟩
    refine aI (v:=i64 j8.1) (aH (aJ (aI (v:=i64 0) (aH (aO [0,2,3,4,5,6,9] (fun f w=>∃ j9 k0 f5 k1 k2,wI b0 j9 k0 f5=some f1/\f 8=zS k1 f5.length k2/\aF G K (own 51 K k1 k2 f5::box b1 63 [zS a2 b.length c3,i64 j9,Value.int .u64 k0]::own 2 K l m k::own 9 K c d a.1::box g 29 e::L) w) aM ?_)))));obtain ⟨v9,o4,ho⟩:=aB hm
    refine vT [0,2,3,4,5,6,9,10,11,12] o4 (fun q r n u f w=>∃ y z,f 8=zS y n.length z/\f 13=i64 u/\aF G K (box b1 63 [zS a2 b.length c3,i64 q,Value.int .u64 r]::own 51 K y z n::own 2 K l m k::own 9 K c d a.1::box g 29 e::L) w) aM ?_
    ·rintro q r n u f6 f w0 hm hr ⟨y,z,k3,d2,d3⟩
     unfold oS at hm
     refine aK (aJ (aY d2 (aG (v:=i64 (wr ((wr (1+j.1))+p.1))) (aD (cK rfl rfl) (aH ?_)))))
     rcases aL hm with ⟨f7,hm⟩|⟨f7,hm⟩
     ·refine aR f7 rfl (aW (aC (aK (aO [0,2,3,4,5,6,9,10,11,12,13] (fun f w=>∃ f8 f9 d4 d5 d6,rN u f8 f9 d4=some f6/\f 8=zS d5 d4.length d6/\aF G K (box b1 63 [zS a2 b.length c3,i64 f8,Value.int .u64 f9]::own 51 K d5 d6 d4::own 2 K l m k::own 9 K c d a.1::box g 29 e::L) w) ?_ ?_))))
      ·rintro f w1 ⟨f8,f9,d4,d5,d6,hm,o5,o6⟩
       unfold rN at hm
       exact aC (aS (aY d2 (aD (cN rfl rfl) (aI (v:=i64 (wr (u+1))) (aH ⟨_,(zI hm).symm,bF,d5,d6,o5,rfl,o6⟩)))))
      refine aK (aJ (aY i8 (aY d2 ?_)));obtain ⟨w2,g0,hm⟩:=aB hm
      have k4:=cA d3 (i:=2) rfl g0
      refine aD (cM bN rfl k4 rfl rfl rfl g0) (aD (lA (t:=0) cR d3 (i:=2) rfl g0 rfl rfl rfl) (aG (v:=i64 j7.1) (aD (aFx rfl rfl) (aH ?_))))
      rcases aL hm with ⟨k5,hm⟩|⟨k5,hm⟩
      ·exact aM
      ·refine bG k5 rfl (aW (aC (aJ (bX (Kt:=K) (xs:=([]:List Int)) (cs:=[]) (vs:=[]) bN kQ rfl rfl d3 rfl (by kernel_rfl) rfl rfl rfl trivial (fun g1 o7 (o8:aF G K (own 2 K g1 0 ([]:List Int)::box b1 63 [zS a2 b.length c3,i64 q,Value.int .u64 r]::own 51 K y z n::own 2 K l m k::own 9 K c d a.1::box g 29 e::L) o7)=>(aI (v:=zS g1 ([]:List Int).length 0) (aH (aK (aJ (aI (v:=i64 0) (aH (aO [0,2,3,4,5,6,8,9,10,11,12,13] (fun f w=>∃ a6 b2 b3,rO b J q r n u a6=some f6/\f 14=zS b2 a6.length b3/\aF G K (own 2 K b2 b3 a6::box b1 63 [zS a2 b.length c3,i64 q,Value.int .u64 r]::own 51 K y z n::own 2 K l m k::own 9 K c d a.1::box g 29 e::L) w) ?_ ?_))))))))))))
       ·rintro f w3 ⟨a6,b2,b3,hm,o9,p0⟩
        unfold rO at hm
        refine aC (aS (aY k3 (aY d2 (aG (v:=i64 J.1) (aG (v:=zP (some ⟨b1,0,none⟩)) (aY o9 ?_))))));obtain ⟨w4,p1,p2,p3,p4⟩:=aF.lendSp p0 (zR _) .head
        obtain ⟨x,p5,hm⟩:=aB hm
        refine aP (vs:=[zP (some ⟨b1,0,none⟩),zS b2 a6.length b3]) call55 rfl (tL p5 p3 (o.mono p1) p2) ?_
        rintro _ w5 ⟨rfl,p6⟩
        have p7:=p4 _ _ p6
        refine aD (gJ (vs:=[(0,i64 u),(1,i64 J.1),(2,i64 x.1)]) (cs:=[i64 u,i64 J.1,i64 x.1]) aIC rfl (by kernel_rfl)) (bX (Kt:=K) (xs:=([⟨u,J.1,x.1⟩]:List Edge)) (cs:=[i64 u,i64 J.1,i64 x.1]) (vs:=[(0,zA #[i64 u,i64 J.1,i64 x.1])]) cP qT rfl rfl p7 rfl (by kernel_rfl) rfl rfl rfl ⟨rfl,trivial⟩ (fun p8 p9 (q0:aF G K (own 51 K p8 1 ([⟨u,J.1,x.1⟩]:List Edge)::own 2 K b2 b3 a6::box b1 63 [zS a2 b.length c3,i64 x.2.1,Value.int .u64 x.2.2]::own 51 K y z n::own 2 K l m k::own 9 K c d a.1::box g 29 e::L) p9)=>?_))
        obtain ⟨g2,q1,hm⟩:=aB hm
        exact eQ (i:=2) cP underlying27 qT rfl rfl q0 rfl (zR _) (zR _) q1 rfl rfl rfl rfl (fun _ h=>h) (fun g3 g4 q2 (q3:aF G K (own 2 K b2 b3 a6::box b1 63 [zS a2 b.length c3,i64 x.2.1,Value.int .u64 x.2.2]::own 51 K g3 g4 g2::own 2 K l m k::own 9 K c d a.1::box g 29 e::L) q2)=>(aI (v:=zS g3 g2.length g4) (aV (cH (aC ⟨bF,x.2.1,x.2.2,g2,g3,g4,hm,rfl,(aF.arr 1 [] q3 rfl)⟩)))))
       obtain ⟨w7,q4,ho⟩:=aB hm
       refine bO [0,2,3,4,5,6,8,9,10,11,12,13] q4 (fun a7 a0 f w=>∃ b4 b6,f 14=zS b4 a7.length b6/\f 15=i64 a0/\aF G K (own 2 K b4 b6 a7::box b1 63 [zS a2 b.length c3,i64 q,Value.int .u64 r]::own 51 K y z n::own 2 K l m k::own 9 K c d a.1::box g 29 e::L) w) ?_ ?_
       ·exact ⟨g1,0,rfl,rfl,o8⟩
       ·rintro a7 a0 q5 f w8 hm hr ⟨b4,b6,g5,d7,d8⟩
        unfold jU at hm
        refine aK (aJ (aY d7 (aG (v:=i64 (wr ((wr (1+j.1))+p.1))) (aD (cK rfl rfl) (aH ?_)))))
        rcases aL hm with ⟨g6,hm⟩|⟨g6,hm⟩
        ·refine aR g6 rfl (aW (aC (aK (aO [0,2,3,4,5,6,8,9,10,11,12,13,15] (fun f w=>∃ d9 e0 e1,rP a0 d9=some q5/\f 14=zS e0 d9.length e1/\aF G K (own 2 K e0 e1 d9::box b1 63 [zS a2 b.length c3,i64 q,Value.int .u64 r]::own 51 K y z n::own 2 K l m k::own 9 K c d a.1::box g 29 e::L) w) ?_ ?_))))
         ·rintro f w9 ⟨d9,e0,e1,hm,q6,q7⟩
          unfold rP at hm
          exact aC (aS (aY d7 (aD (cN rfl rfl) (aI (v:=i64 (wr (a0+1))) (aH ⟨_,(zI hm).symm,bF,e0,e1,q6,rfl,q7⟩)))))
         refine aJ (aY i8 (aY d7 ?_));obtain ⟨x0,k6,hm⟩:=aB hm
         refine aD (cM bN rfl k4 rfl rfl rfl k6) (aD (lA (t:=0) cR d8 (i:=3) rfl k6 rfl rfl rfl) (aG (v:=i64 j8.1) (aD (qS rfl rfl) (aH ?_))))
         rcases aL hm with ⟨g7,hm⟩|⟨g7,hm⟩
         ·refine aR g7 rfl (aS (aY g5 (aY d7 (bX (Kt:=K) (xs:=([a0]:List Int)) (cs:=[i64 a0]) (vs:=[(0,i64 a0)]) bN kQ rfl rfl d8 rfl (by kernel_rfl) rfl rfl rfl ⟨rfl,trivial⟩ (fun q8 q9 (r0:aF G K (own 2 K q8 1 ([a0]:List Int)::own 2 K b4 b6 a7::box b1 63 [zS a2 b.length c3,i64 q,Value.int .u64 r]::own 51 K y z n::own 2 K l m k::own 9 K c d a.1::box g 29 e::L) q9)=>?_)))));obtain ⟨g8,r1,hm⟩:=aB hm
          exact eQ (i:=0) bN underlying32 kQ rfl rfl r0 rfl (zR _) (zR _) r1 rfl rfl rfl rfl (fun _ h=>h) (fun g9 h0 r2 (r3:aF G K (own 2 K g9 h0 g8::box b1 63 [zS a2 b.length c3,i64 q,Value.int .u64 r]::own 51 K y z n::own 2 K l m k::own 9 K c d a.1::box g 29 e::L) r2)=>(aI (v:=zS g9 g8.length h0) (aV (cH (aC ⟨bF,g8,g9,h0,hm,rfl,r3⟩)))))
         ·exact bG g7 rfl (aW (cH (aC ⟨bF,a7,b4,b6,hm,g5,d8⟩)))
        ·refine bG g6 rfl (aCA (kY (kY ?_)))
         have r4:=hr _ (zI hm).symm
         subst r4
         have hm:(rO b J q r n u a7)=some f6:=ho
         clear hr ho
         exact vS (aC ⟨bF,a7,b4,b6,hm,g5,d8⟩)
     ·refine bG f7 rfl (aCA (kY (kY ?_)))
      have r5:=hr _ (zI hm).symm
      subst r5
      have hm:(wI b0 q r n)=some f1:=ho
      clear hr ho
      exact vS (aC ⟨bF,q,r,n,y,z,hm,k3,(aF.arr 2 [1,0] d3 rfl)⟩)
   ·refine bG f2 rfl (aCA (kY (kY ?_)))
    have r6:=hr _ (zI hm).symm
    subst r6
    have hm:(rM b j p a c5 c6 c0)=some R:=ho
    clear hr ho
    exact vS (aC ⟨bF,c5,c6,c0,c7,c8,hm,n6,(aF.arr 3 [1,0] j6 rfl)⟩)
 obtain ⟨x1,r7,ho⟩:=aB hm
 refine vT [0,2,3,4,5] r7 (fun a1 a3 a4 a5 f w=>∃ a8 a9,f 6=zS a8 a4.length a9/\f 7=i64 a5/\aF G K (own 2 K a8 a9 a4::own 9 K c d a.1::box b1 63 [zS a2 b.length c3,i64 a1,Value.int .u64 a3]::box g 29 e::L) w) ?_ ?_
 ·exact ⟨e8,0,rfl,rfl,l8⟩
 ·rintro a1 a3 a4 a5 r8 f s0 hm hr ⟨a8,a9,h1,e2,h2⟩
  unfold mR at hm
  refine aK (aJ (aY e2 (aG (v:=i64 (wr ((wr (1+j.1))+p.1))) (aD (cK rfl rfl) (aH ?_)))))
  rcases aL hm with ⟨h3,hm⟩|⟨h3,hm⟩
  ·refine aR h3 rfl (aW (aC (aK (aO [0,2,3,4,5,7] (fun f w=>∃ h5 h6 e3 e4 e5,mQ a5 h5 h6 e3=some r8/\f 6=zS e4 e3.length e5/\aF G K (own 2 K e4 e5 e3::own 9 K c d a.1::box b1 63 [zS a2 b.length c3,i64 h5,Value.int .u64 h6]::box g 29 e::L) w) ?_ ?_))))
   ·rintro f x2 ⟨h5,h6,e3,e4,e5,hm,s1,s2⟩
    unfold mQ at hm
    exact aC (aS (aY e2 (aD (cN rfl rfl) (aI (v:=i64 (wr (a5+1))) (aH ⟨_,(zI hm).symm,bF,e4,e5,s1,rfl,s2⟩)))))
   refine aJ (aY e2 (aG (v:=i64 (wr (1+j.1))) (aD (cK rfl rfl) (aH ?_))))
   rcases aL hm with ⟨h7,hm⟩|⟨h7,hm⟩
   ·refine aR h7 rfl (aS (aY h1 (aY e2 (bX (Kt:=K) (xs:=([a5]:List Int)) (cs:=[i64 a5]) (vs:=[(0,i64 a5)]) bN kQ rfl rfl h2 rfl (by kernel_rfl) rfl rfl rfl ⟨rfl,trivial⟩ (fun s3 s4 (s5:aF G K (own 2 K s3 1 ([a5]:List Int)::own 2 K a8 a9 a4::own 9 K c d a.1::box b1 63 [zS a2 b.length c3,i64 a1,Value.int .u64 a3]::box g 29 e::L) s4)=>?_)))));obtain ⟨h8,s6,hm⟩:=aB hm
    exact eQ (i:=0) bN underlying32 kQ rfl rfl s5 rfl (zR _) (zR _) s6 rfl rfl rfl rfl (fun _ h=>h) (fun h9 i0 s7 (s8:aF G K (own 2 K h9 i0 h8::own 9 K c d a.1::box b1 63 [zS a2 b.length c3,i64 a1,Value.int .u64 a3]::box g 29 e::L) s7)=>(aI (v:=zS h9 h8.length i0) (aV (cH (aC ⟨bF,a1,a3,h8,h9,i0,hm,rfl,s8⟩)))))
   ·refine bG h7 rfl (aS (aY h1 (aG (v:=zP (some ⟨b1,0,none⟩)) (aG (v:=i64 (wr (1+j.1))) ?_))))
    have s9:aF G K (box b1 63 [zS a2 b.length c3,i64 a1,Value.int .u64 a3]::own 2 K a8 a9 a4::own 9 K c d a.1::box g 29 e::L) s0:=(aF.arr 3 [2,0,1] h2 rfl)
    obtain ⟨Z,t0,hm⟩:=aB hm
    refine aP (vs:=[zP (some ⟨b1,0,none⟩),i64 (wr (1+j.1))]) call15 rfl (aZ t0 s9 o) ?_
    rintro _ x3 ⟨rfl,t1⟩
    refine bX (Kt:=K) (xs:=([Z.1]:List Int)) (cs:=[i64 Z.1]) (vs:=[(0,i64 Z.1)]) bN kQ rfl rfl t1 rfl (by kernel_rfl) rfl rfl rfl ⟨rfl,trivial⟩ (fun t2 t3 (t4:aF G K (own 2 K t2 1 ([Z.1]:List Int)::box b1 63 [zS a2 b.length c3,i64 Z.2.1,Value.int .u64 Z.2.2]::own 2 K a8 a9 a4::own 9 K c d a.1::box g 29 e::L) t3)=>?_);obtain ⟨i1,t5,hm⟩:=aB hm
    exact eQ (i:=1) bN underlying32 kQ rfl rfl t4 rfl (zR _) (zR _) t5 rfl rfl rfl rfl (fun _ h=>h) (fun i2 i3 t6 (t7:aF G K (box b1 63 [zS a2 b.length c3,i64 Z.2.1,Value.int .u64 Z.2.2]::own 2 K i2 i3 i1::own 9 K c d a.1::box g 29 e::L) t6)=>(aI (v:=zS i2 i1.length i3) (aV (cH (aC ⟨bF,Z.2.1,Z.2.2,i1,i2,i3,hm,rfl,(aF.arr 3 [1,2,0] t7 rfl)⟩)))))
  ·refine bG h3 rfl (aCA (kY (kY ?_)))
   have t8:=hr _ (zI hm).symm
   subst t8
   have hm:(qB b j p a a1 a3 a4)=some R:=ho
   clear hr ho
   exact vS (aC ⟨bF,a1,a3,a4,a8,a9,hm,h1,h2⟩)
theorem qP {a:(List UInt8)} {b c:Int} {R:(Int × Int × Int)} (hm:lL a b c=some R) (e:aF G K (own 5 K a2 c3 a::box b1 63 [zS a2 a.length c3,i64 b,Value.int .u64 c]::L) w):
  Calls prog 29 ([zP (some ⟨b1,0,none⟩)]:List Value).toArray w (eC fun v w'=>v=i64 R.1/\aF G K (own 5 K a2 c3 a::box b1 63 [zS a2 a.length c3,i64 R.2.1,Value.int .u64 R.2.2]::L) w'):=by
 refine aN func29 rfl (by kernel_rfl) (by show (1:Nat)<=62;decide) ?_;unfold lL at hm
 exact aJ (aI (v:=i64 0) (aH (aJ (aI (v:=i64 0) (aH (gT [0] (fun f w=>∃ d,tG a b c d=some R/\f 3=i64 d/\aF G K (own 5 K a2 c3 a::box b1 63 [zS a2 a.length c3,i64 b,Value.int .u64 c]::L) w) aM aM))))))
theorem aDS {a:(List UInt8)} {b c n:Int} {R:(Int × (List UInt8) × Int × Int)} (hm:aDd a b c n=some R) (k:aF G K (own 5 K a2 c3 a::box b1 63 [zS a2 a.length c3,i64 b,Value.int .u64 c]::L) w):
  Calls prog 15 ([zP (some ⟨b1,0,none⟩),i64 n]:List Value).toArray w (eC fun v w'=>∃ d e,v=i64 R.1/\aF G K (own 5 K d e R.2.1::box b1 63 [zS d R.2.1.length e,i64 R.2.2.1,Value.int .u64 R.2.2.2]::L) w'):=by
 refine aN func15 rfl (by kernel_rfl) (by show (2:Nat)<=20;decide) ?_;unfold aDd at hm
 refine aJ (aI (v:=i64 0) (aH (aK (aJ (aG (v:=i64 n) (aD (R_leq rfl rfl) (aH ?_)))))))
 rcases aL hm with ⟨g,hm⟩|⟨g,hm⟩
 ·exact aM
 ·refine bG g rfl (aW (aC (aJ (aG (v:=zP (some ⟨b1,0,none⟩)) ?_))));obtain ⟨l,m,hm⟩:=aB hm
  refine aP (vs:=[zP (some ⟨b1,0,none⟩)]) call29 rfl (qP m k) ?_
  rintro _ o ⟨rfl,p⟩
  exact aI (v:=i64 l.1) (aH (gT [1] (fun f w=>∃ h i j,tH a n h i j=some R/\f 5=i64 h/\aF G K (own 5 K a2 c3 a::box b1 63 [zS a2 a.length c3,i64 i,Value.int .u64 j]::L) w) aM aM))
theorem xY {g:(List UInt8)} {a7 a8:Int} {R:(bQ × Int × Int)} (hm:pG g a7 a8=some R) (hs:aF G K (box b1 63 [zS a2 g.length c3,i64 a7,Value.int .u64 a8]::L) w) (z:bL K a2 c3 g):
  Calls prog 14 ([zP (some ⟨b1,0,none⟩)]:List Value).toArray w (eC fun v w'=>∃ b7 b8 b9 c0,v=zA (zCa R.1 b7 b8 b9 c0)/\aF G K (own 9 K b7 b8 R.1.L::own 51 K b9 c0 R.1.E::box b1 63 [zS a2 g.length c3,i64 R.2.1,Value.int .u64 R.2.2]::L) w'):=by
 let k:=zG
 refine aN func14 rfl (by kernel_rfl) (by show (1:Nat)<=56;decide) ?_;unfold pG at hm
 refine aJ (bV (vs:=k) zeroValue29 hs rfl (fun l w6 e8=>(aH (aJ (aG (v:=zP (some ⟨b1,0,none⟩)) ?_)))))
 have e9:aF G K (box b1 63 [zS a2 g.length c3,i64 a7,Value.int .u64 a8]::box l 29 k::L) w6:=(aF.arr 2 [1,0] e8 rfl)
 obtain ⟨a,f0,hm⟩:=aB hm
 refine aP (vs:=[zP (some ⟨b1,0,none⟩)]) call28 rfl (aDm f0 e9 z) ?_
 rintro _ h9 ⟨b,c,d,e,rfl,f1⟩
 refine bV (vs:=k) zeroValue29 f1 rfl (fun n i0 f2=>(dJ (i:=0) (ns:=(zC a.1 b c d e)) (us:=(zC a.1 b c d e)) sizeOf29 f2 rfl rfl rfl rfl rfl (eV rfl) rfl rfl (fun f3 (f4:aF G K (box n 29 (zC a.1 b c d e)::own 9 K b c a.1.L::own 51 K d e a.1.E::box b1 63 [zS a2 g.length c3,i64 a.2.1,Value.int .u64 a.2.2]::box l 29 k::L) f3)=>(aH (aJ (bX (Kt:=K) (xs:=([]:List Edge)) (cs:=[]) (vs:=[]) cP qT rfl rfl f4 rfl (by kernel_rfl) rfl rfl rfl trivial (fun c1 f5 (i1:aF G K (own 51 K c1 0 ([]:List Edge)::box n 29 (zC a.1 b c d e)::own 9 K b c a.1.L::own 51 K d e a.1.E::box b1 63 [zS a2 g.length c3,i64 a.2.1,Value.int .u64 a.2.2]::box l 29 k::L) f5)=>(aI (v:=zS c1 ([]:List Edge).length 0) (aH (aK (aJ (aI (v:=i64 0) (aH (aO [0,2,3] (fun f w=>∃ J Z q a0 a1,wJ g a J Z q=some R/\f 4=zS a0 q.length a1/\aF G K (own 51 K a0 a1 q::box n 29 (zC a.1 b c d e)::own 9 K b c a.1.L::own 51 K d e a.1.E::box b1 63 [zS a2 g.length c3,i64 J,Value.int .u64 Z]::box l 29 k::L) w) ?_ ?_))))))))))))))
 ·rintro f f6 ⟨J,Z,q,a0,a1,hm,i2,f7⟩
  unfold wJ at hm
  refine aC (aK (aJ (aG (v:=zP (some ⟨b1,0,none⟩)) ?_)))
  have f8:aF G K (box b1 63 [zS a2 g.length c3,i64 J,Value.int .u64 Z]::own 51 K a0 a1 q::box n 29 (zC a.1 b c d e)::own 9 K b c a.1.L::own 51 K d e a.1.E::box l 29 k::L) f6:=(aF.arr 5 [4,0,1,2,3] f7 rfl)
  obtain ⟨f9,g0,hm⟩:=aB hm
  refine aP (vs:=[zP (some ⟨b1,0,none⟩),i64 3]) call15 rfl (aZ g0 f8 z) ?_
  rintro _ i3 ⟨rfl,i4⟩
  refine aI (v:=i64 f9.1) (aH (aO [2,3] (fun f w=>∃ a9 c2 c4 c5 c6,aBt a a9 c2 c4=some R/\f 4=zS c5 a9.length c6/\aF G K (own 51 K c5 c6 a9::box b1 63 [zS a2 g.length c3,i64 c2,Value.int .u64 c4]::box n 29 (zC a.1 b c d e)::own 9 K b c a.1.L::own 51 K d e a.1.E::box l 29 k::L) w) aM ?_));obtain ⟨i5,g1,ho⟩:=aB hm
  refine vT [0,2,3] g1 (fun c7 c8 a3 c9 f w=>∃ a4 a5,f 4=zS a4 a3.length a5/\f 7=i64 c9/\aF G K (box b1 63 [zS a2 g.length c3,i64 c7,Value.int .u64 c8]::own 51 K a4 a5 a3::box n 29 (zC a.1 b c d e)::own 9 K b c a.1.L::own 51 K d e a.1.E::box l 29 k::L) w) aM ?_
  ·rintro c7 c8 a3 c9 i6 f i7 hm hr ⟨a4,a5,g2,g3,g4⟩
   unfold oT at hm
   refine aK (aJ (aY g3 (aD (aBX rfl rfl) (aH ?_))))
   rcases aL hm with ⟨d0,hm⟩|⟨d0,hm⟩
   ·refine aR d0 rfl (aW (aC (aK (cD ?_))));obtain ⟨b0,a6,d1,d2,g5⟩:=aF.lendBp g4 zt2
    refine cV (C:=fun w'=>∃ L',aF G b0 L' w') [(0,0),(1,0),(2,0),(3,0),(5,0),(6,0),(7,0),(4,1),(8,1),(9,0),(10,1),(11,1),(12,0)] Tryz_mixed (by kernel_rfl) (fun _ hg=>⟨_,aF.mono d2 hg⟩) (fun i8 g6=>?_)
    have r:=aF.mono d2 g6
    refine bE rfl (fun _ _=>aT g2) (bE rfl (fun _ _=>aT (v:=zP (some ⟨b1,0,none⟩)) rfl) (bE rfl (fun _ _=>bH (t':=0) fA rfl rfl) (bE rfl (fun _ ⟨_,r⟩=>aU (t:=0) cR r d1 rfl rfl) (bE rfl (fun _ _=>aT (v:=zP (some ⟨b1,0,none⟩)) rfl) (bE rfl (fun _ _=>bH (t':=0) fA rfl rfl) (bE rfl (fun _ ⟨_,r⟩=>aU (t:=0) cR r d1 rfl rfl) (nT rfl ?_)))))));obtain ⟨o,g7,hm⟩:=aB hm
    refine aP (vs:=[zP (some ⟨b1,0,none⟩),i64 a.1.N]) call15 rfl (aZ g7 r (z.mono a6)) ?_
    rintro _ i9 ⟨rfl,d3⟩
    refine aV (aC ⟨⟨_,d3⟩,?_⟩)
    refine nT rfl ?_;obtain ⟨m,g8,hm⟩:=aB hm
    refine aP (vs:=[zP (some ⟨b1,0,none⟩),i64 a.1.N]) call15 rfl (aZ g8 d3 (z.mono a6)) ?_
    rintro _ j0 ⟨rfl,d4⟩
    refine aV (aC ⟨⟨_,d4⟩,?_⟩)
    refine bE rfl (fun _ _=>gJ (vs:=[(0,i64 o.1),(2,i64 m.1)]) (cs:=[i64 o.1,i64 0,i64 m.1]) aIC rfl (by kernel_rfl)) (nT rfl (bX (Kt:=K) (xs:=([⟨o.1,0,m.1⟩]:List Edge)) (cs:=[i64 o.1,i64 0,i64 m.1]) (vs:=[(0,zA #[i64 o.1,i64 0,i64 m.1])]) cP qT rfl rfl d4 rfl (by kernel_rfl) rfl rfl rfl ⟨rfl,trivial⟩ (fun g9 h0 (d5:aF G b0 (own 51 K g9 1 ([⟨o.1,0,m.1⟩]:List Edge)::box b1 63 [zS a2 g.length c3,i64 m.2.1,Value.int .u64 m.2.2]::own 51 K a4 a5 a3::own 9 K b c a.1.L::own 51 K d e a.1.E::box l 29 k::L) h0)=>(aV (aC ⟨⟨_,d5⟩,?_⟩)))))
    refine nT rfl ?_;obtain ⟨d6,h1,hm⟩:=aB hm
    refine eQ (i:=1) cP underlying27 qT rfl rfl d5 rfl a6 a6 h1 rfl rfl rfl rfl (fun _ h=>h) (fun d7 d8 h2 (d9:aF G b0 (box b1 63 [zS a2 g.length c3,i64 m.2.1,Value.int .u64 m.2.2]::own 51 K d7 d8 d6::own 9 K b c a.1.L::own 51 K d e a.1.E::box l 29 k::L) h2)=>(aV (aC ⟨⟨_,d9⟩,?_⟩)))
    refine bE rfl (fun _ _=>eE (v:=zS d7 d6.length d8) rfl) (xI ?_)
    have j1:=g5 _ _ d9
    exact aM
   ·exact aM
 obtain ⟨j2,h3,ho⟩:=aB hm
 refine vT [0,2,3] h3 (fun b2 b3 p b4 f w=>∃ u x,f 4=zS u p.length x/\f 5=i64 b4/\aF G K (own 51 K u x p::box n 29 (zC a.1 b c d e)::own 9 K b c a.1.L::own 51 K d e a.1.E::box b1 63 [zS a2 g.length c3,i64 b2,Value.int .u64 b3]::box l 29 k::L) w) aM ?_
 ·rintro b2 b3 p b4 h5 f j3 hm hr ⟨u,x,j4,e0,y⟩
  unfold oU at hm
  refine aK (aJ (aY e0 (aD (bH (t':=3) fK rfl rfl) (aD (eM oJ y (i:=1) rfl rfl rfl) (aD (bC (len:=a.1.E.length) cP rfl) (aD (cK rfl rfl) (aH ?_)))))))
  rcases aL hm with ⟨e1,hm⟩|⟨e1,hm⟩
  ·refine aR e1 rfl (aW (aC (aK (cD (aJ (aD (bH (t':=3) fK rfl rfl) (aD (eM oJ y (i:=1) rfl rfl rfl) (aY e0 ?_))))))));obtain ⟨j,b6,hm⟩:=aB hm
   have h6:=cA y (i:=3) rfl b6
   exact aD (cM cP rfl h6 rfl rfl rfl b6) (aD (aCB (t:=0) (vs:=[i64 j.F,i64 j.B,i64 j.To]) tE y (i:=3) rfl b6 rfl rfl rfl rfl) (bV (vs:=[i64 0,i64 0,i64 0]) zeroValue51 y rfl (fun e2 j5 h7=>(dJ (i:=0) (ns:=[i64 j.F,i64 j.B,i64 j.To]) (us:=[i64 j.F,i64 j.B,i64 j.To]) sizeOf51 h7 rfl rfl rfl rfl rfl (eV rfl) rfl rfl (fun h8 (j6:aF G K (box e2 51 [i64 j.F,i64 j.B,i64 j.To]::own 51 K u x p::box n 29 (zC a.1 b c d e)::own 9 K b c a.1.L::own 51 K d e a.1.E::box b1 63 [zS a2 g.length c3,i64 b2,Value.int .u64 b3]::box l 29 k::L) h8)=>(aH (gT [0,2,3,4,5,6] (fun f w=>∃ e3 e4 e5,rQ p b4 j e3 e4 e5=some h5/\aF G K (box e2 51 [i64 j.F,i64 e5,i64 j.To]::own 51 K u x p::box n 29 (zC a.1 b c d e)::own 9 K b c a.1.L::own 51 K d e a.1.E::box b1 63 [zS a2 g.length c3,i64 e3,Value.int .u64 e4]::box l 29 k::L) w) aM aM)))))))
  ·exact aM
theorem aDT {a:(List UInt8)} {b c n:Int} {R:(Int × Int × Int)} (hm:xQ a b c n=some R) (i:aF G K (own 5 K a2 c3 a::box b1 63 [zS a2 a.length c3,i64 b,Value.int .u64 c]::L) w):
  Calls prog 15 ([zP (some ⟨b1,0,none⟩),i64 n]:List Value).toArray w (eC fun v w'=>v=i64 R.1/\aF G K (own 5 K a2 c3 a::box b1 63 [zS a2 a.length c3,i64 R.2.1,Value.int .u64 R.2.2]::L) w'):=by
 refine aN func15 rfl (by kernel_rfl) (by show (2:Nat)<=20;decide) ?_;unfold xQ at hm
 refine aJ (aI (v:=i64 0) (aH (aK (aJ (aG (v:=i64 n) (aD (R_leq rfl rfl) (aH ?_)))))))
 rcases aL hm with ⟨d,hm⟩|⟨d,hm⟩
 ·exact aM
 ·refine bG d rfl (aW (aC (aJ (aG (v:=zP (some ⟨b1,0,none⟩)) ?_))));obtain ⟨j,k,hm⟩:=aB hm
  refine aP (vs:=[zP (some ⟨b1,0,none⟩)]) call29 rfl (qP k i) ?_
  rintro _ l ⟨rfl,m⟩
  exact aI (v:=i64 j.1) (aH (gT [1] (fun f w=>∃ e g h,tI n e g h=some R/\f 5=i64 e/\aF G K (own 5 K a2 c3 a::box b1 63 [zS a2 a.length c3,i64 g,Value.int .u64 h]::L) w) aM aM))
theorem aEQ {a:(List UInt8)} {b c n:Int} {R:(Bool × (List UInt8) × Int × Int)} (hm:aHW a b c n=some R) (g:aF G K (own 5 K a2 c3 a::box b1 63 [zS a2 a.length c3,i64 b,Value.int .u64 c]::L) w):
  Calls prog 18 ([zP (some ⟨b1,0,none⟩),i64 n]:List Value).toArray w (eC fun v w'=>∃ d e,v=zB R.1/\aF G K (own 5 K d e R.2.1::box b1 63 [zS d R.2.1.length e,i64 R.2.2.1,Value.int .u64 R.2.2.2]::L) w'):=by
 exact aM
theorem aBI {b:(List UInt8)} {b4 b5:Int} {t:bQ} {d:Nat} {R:(bQ × Int × Int)} (hm:tZ b b4 b5 t=some R) (hs:aF G K (box b1 63 [zS a2 b.length c3,i64 b4,Value.int .u64 b5]::L) w) (h4:bL K a2 c3 b) (c:dT K a5 d (zC t a8 c9 a11 c12)) (f8:bL K a8 c9 t.L) (f9:bL K a11 c12 t.E):
  Calls prog 16 ([zP (some ⟨b1,0,none⟩),bY a5 d]:List Value).toArray w (eC fun v w'=>∃ c8 d0 d1 d2,v=zA (zCa R.1 c8 d0 d1 d2)/\aF G K (own 9 K c8 d0 R.1.L::own 51 K d1 d2 R.1.E::box b1 63 [zS a2 b.length c3,i64 R.2.1,Value.int .u64 R.2.2]::L) w'):=by
 let e:=zG
 refine aN func16 rfl (by kernel_rfl) (by show (2:Nat)<=115;decide) ?_;unfold tZ at hm
 refine aJ (bV (vs:=e) zeroValue29 hs rfl (fun h g0 d3=>(aH (aJ (aG (v:=zP (some ⟨b1,0,none⟩)) (aG (v:=bY a5 d) (aD (cQ rfl c) (aD (cJ (k':=d+0) fA rfl c rfl) (aD (aU (t:=0) cR d3 c rfl rfl) ?_)))))))))
 have g1:aF G K (box b1 63 [zS a2 b.length c3,i64 b4,Value.int .u64 b5]::box h 29 e::L) g0:=(aF.arr 2 [1,0] d3 rfl)
 obtain ⟨y,g2,hm⟩:=aB hm
 refine aP (vs:=[zP (some ⟨b1,0,none⟩),i64 t.N]) call15 rfl (aZ g2 g1 h4) ?_
 rintro _ h5 ⟨rfl,h6⟩
 refine aI (v:=i64 y.1) (aH (aJ (aI (v:=i64 0) (aH (gT [0,1,4,5] (fun f w=>∃ z J k,jJ b t y z J k=some R/\f 6=i64 k/\aF G K (box b1 63 [zS a2 b.length c3,i64 z,Value.int .u64 J]::box h 29 e::L) w) ?_ ?_)))))
 ·rintro f h8 ⟨z,J,k,hm,d4,d5⟩
  unfold jJ at hm
  refine aJ (aG (v:=bY a5 d) (aD (cQ rfl c) (aD (cJ (k':=d+0) fA rfl c rfl) (aD (aU (t:=0) cR d5 c rfl rfl) (aY d4 (aD (cN rfl rfl) (aI (v:=i64 (wr (t.N+k))) (aH (aJ (bX (Kt:=K) (xs:=([]:List Edge)) (cs:=[]) (vs:=[]) cP qT rfl rfl d5 rfl (by kernel_rfl) rfl rfl rfl trivial (fun d6 g3 (h9:aF G K (own 51 K d6 0 ([]:List Edge)::box b1 63 [zS a2 b.length c3,i64 z,Value.int .u64 J]::box h 29 e::L) g3)=>(aI (v:=zS d6 ([]:List Edge).length 0) (aH (aK (aJ (aI (v:=i64 0) (aH (aO [1,4,7] (fun f w=>∃ Z b6 b7 b8 b9,sU t k Z b6 b7=some R/\f 8=zS b8 Z.length b9/\aF G K (own 51 K b8 b9 Z::box b1 63 [zS a2 b.length c3,i64 b6,Value.int .u64 b7]::box h 29 e::L) w) ?_ ?_))))))))))))))))))
  ·rintro f i0 ⟨Z,b6,b7,b8,b9,hm,i1,d7⟩
   unfold sU at hm
   refine aC (aK (cV (C:=fun w'=>∃ L',aF G K L' w') [(0,0),(1,0),(2,0),(3,0),(4,0),(5,0),(6,0),(7,0),(8,0),(9,0),(10,1),(11,2)] Tryz_mixed (by kernel_rfl) (fun _ hg=>⟨_,aF.mono d7 hg⟩) (fun i2 g4=>?_)))
   have i3:=aF.mono d7 g4
   exact aM
  obtain ⟨i4,g5,ho⟩:=aB hm
  refine vT [0,1,4,5,6,7] g5 (fun a0 a1 q j f w=>∃ a3 a4,f 8=zS a3 q.length a4/\f 9=i64 j/\aF G K (own 51 K a3 a4 q::box b1 63 [zS a2 b.length c3,i64 a0,Value.int .u64 a1]::box h 29 e::L) w) aM ?_
  ·rintro a0 a1 q j c0 f i5 hm hr ⟨a3,a4,i6,c1,i7⟩
   unfold hX at hm
   refine aK (aJ (aY c1 (aG (v:=i64 (wr (t.N+k))) (aD (cK rfl rfl) (aH ?_)))))
   rcases aL hm with ⟨d8,hm⟩|⟨d8,hm⟩
   ·refine aR d8 rfl (aW (aC (aK (aO [0,1,4,5,6,7,9] (fun f w=>∃ c2 c4 a6 a7 a9,sV j c2 c4 a6=some c0/\f 8=zS a7 a6.length a9/\aF G K (own 51 K a7 a9 a6::box b1 63 [zS a2 b.length c3,i64 c2,Value.int .u64 c4]::box h 29 e::L) w) ?_ ?_))))
    ·rintro f i8 ⟨c2,c4,a6,a7,a9,hm,g6,g7⟩
     unfold sV at hm
     exact aC (aS (aY c1 (aD (cN rfl rfl) (aI (v:=i64 (wr (j+1))) (aH ⟨_,(zI hm).symm,bF,a7,a9,g6,rfl,g7⟩)))))
    refine aJ (aY c1 (aI (v:=i64 j) (aH (gT [0,1,4,5,6,7,8,9] (fun f w=>∃ b0,lN b t y k a0 a1 q j b0=some c0/\f 10=i64 b0/\aF G K (own 51 K a3 a4 q::box b1 63 [zS a2 b.length c3,i64 a0,Value.int .u64 a1]::box h 29 e::L) w) ?_ ?_))))
    ·rintro f i9 ⟨b0,hm,g8,g9⟩
     unfold lN at hm
     refine aJ (aG (v:=bY a5 d) (aY g8 ?_));obtain ⟨l,h0,hm⟩:=aB hm
     refine aP (vs:=[bY a5 d,i64 b0]) call30 rfl (aFK h0 g9 c f8 f9) ?_
     rintro _ j0 ⟨n,o,rfl,j1⟩
     refine aI (v:=zS n l.length o) (aH (aJ (aI (v:=i64 0) (aH (aO [0,1,4,5,6,7,9] (fun f w=>∃ d9 e0 c5 e1 e2,xR j d9 e0 c5=some c0/\f 8=zS e1 c5.length e2/\aF G K (own 51 K e1 e2 c5::box b1 63 [zS a2 b.length c3,i64 d9,Value.int .u64 e0]::box h 29 e::L) w) aM ?_)))));obtain ⟨j2,h1,ho⟩:=aB hm
     refine vT [0,1,4,5,6,7,9,11] h1 (fun e3 e4 m r f w=>∃ u x,f 8=zS u m.length x/\f 12=i64 r/\aF G K (own 51 K n o l::own 51 K u x m::box b1 63 [zS a2 b.length c3,i64 e3,Value.int .u64 e4]::box h 29 e::L) w) aM ?_
     ·rintro e3 e4 m r e5 f j3 hm hr ⟨u,x,j4,e6,b2⟩
      unfold hQ at hm
      refine aK (aJ (aY e6 (aG (v:=zS n l.length o) (aD (bC (len:=l.length) cP rfl) (aD (cK rfl rfl) (aH ?_))))))
      rcases aL hm with ⟨e7,hm⟩|⟨e7,hm⟩
      ·refine aR e7 rfl (aW (aC (aK (cD (aJ (aG (v:=zS n l.length o) (aY e6 ?_)))))));obtain ⟨p,c6,hm⟩:=aB hm
       have e8:=cA b2 (i:=0) rfl c6
       refine aD (cM cP rfl e8 rfl rfl rfl c6) (aD (R_fldA (k':=r.toNat * 3+2) uK e8 rfl rfl) (aD (lA (t:=2) cR b2 (i:=0) rfl c6 rfl rfl rfl) (aI (v:=i64 p.To) (aH (gT [0,1,4,5,6,7,8,9,11,12] (fun f w=>∃ e9 f0 f1,oV j m r p e9 f0 f1=some e5/\f 13=i64 f1/\aF G K (own 51 K n o l::own 51 K u x m::box b1 63 [zS a2 b.length c3,i64 e9,Value.int .u64 f0]::box h 29 e::L) w) aM (aK (bP [0,1,4,5,6,7,8,9,11,12,13] (fun f w=>∃ f2 f3 f4,lM t j m r p f2 f3 f4=some e5/\f 88=zB f4/\aF G K (own 51 K n o l::own 51 K u x m::box b1 63 [zS a2 b.length c3,i64 f2,Value.int .u64 f3]::box h 29 e::L) w) aM (cV (C:=fun w'=>∃ L',aF G K L' w') [(0,0),(1,0),(2,0),(3,0),(4,0),(5,0),(6,0),(7,0),(8,0),(9,0),(10,0),(11,0),(12,0),(13,0),(14,0),(15,0),(16,0),(17,0),(18,0),(19,1),(20,0)] Tryz_mixed (by kernel_rfl) (fun _ hg=>⟨_,aF.mono b2 hg⟩) (fun j5 h2=>?_)))))))))
       have b3:=aF.mono b2 h2
       refine bE rfl (fun _ _=>aT d4) (bE rfl (fun _ _=>aBX rfl rfl) (bE rfl (fun _ _=>aT (v:=zB (decide (0 < k))) rfl) ?_))
       rcases aL hm with ⟨a,hm⟩|⟨a,hm⟩
       ·refine aAv rfl rfl rfl a (fun _ _=>aT (v:=bY a5 d) rfl) (aAv rfl rfl rfl a (fun _ _=>cQ rfl c) (aAv rfl rfl rfl a (fun _ _=>cJ (k':=d+0) fA rfl c rfl) (aAv rfl rfl rfl a (fun _ ⟨_,b3⟩=>aU (t:=0) cR b3 c rfl rfl) (aAv rfl rfl rfl a (fun _ _=>aT (v:=i64 y.1) rfl) (aAv rfl rfl rfl a (fun _ _=>cN rfl rfl) (aAv rfl rfl rfl a (fun _ _=>aT (v:=bY a5 d) rfl) (aAv rfl rfl rfl a (fun _ _=>cQ rfl c) (aAv rfl rfl rfl a (fun _ _=>cJ (k':=d+0) fA rfl c rfl) (aAv rfl rfl rfl a (fun _ ⟨_,b3⟩=>aU (t:=0) cR b3 c rfl rfl) ?_)))))))))
        obtain ⟨f5,h3,hm⟩:=aB hm
        refine aAv rfl rfl rfl a (fun _ _=>R_rem rfl rfl h3) (aAv rfl rfl rfl a (fun _ _=>aT (v:=i64 p.To) rfl) (aAv rfl rfl rfl a (fun _ _=>qS rfl rfl) (bE rfl (fun _ _=>eX (v:=zB (f5 == p.To)) a rfl rfl) (bE rfl (fun _ _=>aT (v:=zB (f5 == p.To)) rfl) ?_))))
        rcases aL hm with ⟨c7,hm⟩|⟨c7,hm⟩
        ·exact aAv rfl rfl rfl c7 (fun _ _=>aT (v:=zP (some ⟨b1,0,none⟩)) rfl) (nT rfl aM)
        ·exact rD rfl rfl rfl (gS c7) aM
       ·exact rD rfl rfl rfl (gS a) (rD rfl rfl rfl (gS a) (rD rfl rfl rfl (gS a) (rD rfl rfl rfl (gS a) (rD rfl rfl rfl (gS a) (rD rfl rfl rfl (gS a) (rD rfl rfl rfl (gS a) (rD rfl rfl rfl (gS a) (rD rfl rfl rfl (gS a) (rD rfl rfl rfl (gS a) (rD rfl rfl rfl (gS a) (rD rfl rfl rfl (gS a) (rD rfl rfl rfl (gS a) (bE rfl (fun _ _=>fF (v:=zB false) a rfl rfl) (bE rfl (fun _ _=>aT (v:=zB false) rfl) (rD rfl rfl rfl (gS (by decide:¬ false=true)) aM)))))))))))))))
      ·exact aM
    exact aM
   ·exact aM
 exact aM
theorem aGK {p:(List UInt8)} {R:(bQ × bQ)} (hm:aGD p=some R) (hs:aF G K (L) w) (Z:bL K a1 c2 p):
  Calls prog 6 ([zS a1 p.length c2]:List Value).toArray w (eC fun v w'=>∃ d8 d9 e0 e1 e2 e3 e4 e5,v=Value.tuple #[zA (zCa R.1 d8 d9 e0 e1),zA (zCa R.2 e2 e3 e4 e5)]/\aF G K (own 9 K d8 d9 R.1.L::own 51 K e0 e1 R.1.E::own 9 K e2 e3 R.2.L::own 51 K e4 e5 R.2.E::L) w'):=by
 let c:=zG
 refine aN func6 rfl (by kernel_rfl) (by show (1:Nat)<=62;decide) ?_;unfold aGD at hm
 refine aJ (bV (vs:=c) zeroValue29 hs rfl (fun u w5 g5=>(bV (vs:=c) zeroValue29 g5 rfl (fun x w8 g6=>(aH (aJ (aG (v:=zS a1 p.length c2) ?_)))))));obtain ⟨q5,g7,hm⟩:=aB hm
 refine aP (vs:=[zS a1 p.length c2]) call12 rfl (aEI g7 g6 Z) ?_
 rintro _ q6 ⟨d,rfl,g8⟩
 refine aI (v:=zP (some ⟨d,0,none⟩)) (aH (aJ (aG (v:=zP (some ⟨d,0,none⟩)) ?_)));obtain ⟨a,g9,hm⟩:=aB hm
 refine aP (vs:=[zP (some ⟨d,0,none⟩)]) call14 rfl (xY g9 g8 Z) ?_
 rintro _ q7 ⟨e,g,j,k,rfl,h0⟩
 refine bV (vs:=c) zeroValue29 h0 rfl (fun y q8 h1=>(dJ (i:=0) (ns:=(zC a.1 e g j k)) (us:=(zC a.1 e g j k)) sizeOf29 h1 rfl rfl rfl rfl rfl (eV rfl) rfl rfl (fun e6 (h2:aF G K (box y 29 (zC a.1 e g j k)::own 9 K e g a.1.L::own 51 K j k a.1.E::box d 63 [zS a1 p.length c2,i64 a.2.1,Value.int .u64 a.2.2]::box x 29 c::box u 29 c::L) e6)=>(aH (aJ (aG (v:=zP (some ⟨d,0,none⟩)) ?_))))))
 have h4:aF G K (box d 63 [zS a1 p.length c2,i64 a.2.1,Value.int .u64 a.2.2]::box y 29 (zC a.1 e g j k)::own 9 K e g a.1.L::own 51 K j k a.1.E::box x 29 c::box u 29 c::L) e6:=(aF.arr 4 [3,0,1,2] h2 rfl)
 obtain ⟨b,h5,hm⟩:=aB hm
 refine aP (vs:=[zP (some ⟨d,0,none⟩)]) call14 rfl (xY h5 h4 Z) ?_
 rintro _ q9 ⟨l,m,n,o,rfl,h6⟩
 refine bV (vs:=c) zeroValue29 h6 rfl (fun J r0 h7=>(dJ (i:=0) (ns:=(zC b.1 l m n o)) (us:=(zC b.1 l m n o)) sizeOf29 h7 rfl rfl rfl rfl rfl (eV rfl) rfl rfl (fun e7 (h8:aF G K (box J 29 (zC b.1 l m n o)::own 9 K l m b.1.L::own 51 K n o b.1.E::box d 63 [zS a1 p.length c2,i64 b.2.1,Value.int .u64 b.2.2]::box y 29 (zC a.1 e g j k)::own 9 K e g a.1.L::own 51 K j k a.1.E::box x 29 c::box u 29 c::L) e7)=>(aH (aK (aJ (aG (v:=zP (some ⟨d,0,none⟩)) ?_)))))))
 have h9:aF G K (box d 63 [zS a1 p.length c2,i64 b.2.1,Value.int .u64 b.2.2]::box J 29 (zC b.1 l m n o)::own 9 K l m b.1.L::own 51 K n o b.1.E::box y 29 (zC a.1 e g j k)::own 9 K e g a.1.L::own 51 K j k a.1.E::box x 29 c::box u 29 c::L) e7:=(aF.arr 4 [3,0,1,2] h8 rfl)
 obtain ⟨q,i0,hm⟩:=aB hm
 refine aP (vs:=[zP (some ⟨d,0,none⟩),i64 6]) call15 rfl (aZ i0 h9 Z) ?_
 rintro _ r1 ⟨rfl,e8⟩
 refine aH (aO [2,3,5,6] (fun f w=>∃ c0 c1 a4 a5 c3 c4 c5 c6,uZ a c0 c1 a4 a5=some R/\aF G K (own 51 K c5 c6 a5::own 9 K c3 c4 a4::box J 29 [i64 c0,i64 c1,zS c3 a4.length c4,zS c5 a5.length c6]::box y 29 (zC a.1 e g j k)::own 9 K e g a.1.L::own 51 K j k a.1.E::box x 29 c::box u 29 c::L) w) ?_ ?_)
 ·rintro f r2 ⟨c0,c1,a4,a5,c3,c4,c5,c6,hm,i1⟩
  unfold uZ at hm
  refine aC (aK ?_);obtain ⟨r3,r4,i2,i3,r5⟩:=aF.lendBp i1 zt2
  obtain ⟨i4,i5,i6,e9,r6⟩:=aF.lendBp i3 zt2
  refine cV (C:=fun w'=>∃ L',aF G i4 L' w') [(0,0),(1,0),(2,1),(3,2)] Tryz_mixed (by kernel_rfl) (fun _ hg=>⟨_,aF.mono e9 hg⟩) (fun r7 i7=>?_)
  have c7:=aF.mono e9 i7
  exact bE rfl (fun _ ⟨_,c7⟩=>jQ (t:=0) (vs:=(zC a.1 e g j k)) rE c7 i6 rfl rfl rfl) (bE rfl (fun _ ⟨_,c7⟩=>jQ (t:=0) (vs:=[i64 c0,i64 c1,zS c3 a4.length c4,zS c5 a5.length c6]) rE c7 (i2.mono i5) rfl rfl rfl) (nT rfl aM))
 refine gT [2,3,4,5,6,15] (fun f w=>∃ d0,rR p a b q d0=some R/\f 16=zB d0/\aF G K (box d 63 [zS a1 p.length c2,i64 q.2.1,Value.int .u64 q.2.2]::box J 29 (zC b.1 l m n o)::own 9 K l m b.1.L::own 51 K n o b.1.E::box y 29 (zC a.1 e g j k)::own 9 K e g a.1.L::own 51 K j k a.1.E::box x 29 c::box u 29 c::L) w) ?_ ?_
 ·rintro f r8 ⟨d0,hm,f0,a6⟩
  unfold rR at hm
  rcases aL hm with ⟨d1,hm⟩|⟨d1,hm⟩
  ·refine aR d1 f0 (aS (aG (v:=zP (some ⟨d,0,none⟩)) ?_));obtain ⟨r9,f1,i8,i9,j0⟩:=aF.lendSp a6 (zR _) zt5
   obtain ⟨s0,f2,j1,j2,j3⟩:=aF.lendSp i9 f1 zt5
   obtain ⟨s1,d2,j4,j5,j6⟩:=aF.lendBp j2 zt4
   obtain ⟨s2,j7,hm⟩:=aB hm
   refine aP (vs:=[zP (some ⟨d,0,none⟩),bY (some ⟨y,0,none⟩) 0]) call16 rfl (aBI j7 j5 (Z.mono (zL (zL f1 f2) d2)) j4 (i8.mono (zL f2 d2)) (j1.mono d2)) ?_
   rintro _ s3 ⟨s4,s5,s6,s7,rfl,j8⟩
   have j9:=j6 _ _ j8
   have k0:=j3 _ _ j9
   have s8:=j0 _ _ k0
   exact aM
  ·refine bG d1 f0 (aJ (aD (qS rfl rfl) (aI (v:=zB (q.1 == 2)) (aH ?_))))
   rcases aL hm with ⟨d3,hm⟩|⟨d3,hm⟩
   ·refine aR d3 rfl (aS (aG (v:=zP (some ⟨d,0,none⟩)) ?_));obtain ⟨k1,k2,hm⟩:=aB hm
    refine aP (vs:=[zP (some ⟨d,0,none⟩),i64 2]) call18 rfl (qZ k2 a6 Z) ?_
    rintro _ s9 ⟨rfl,k3⟩
    obtain ⟨t0,k4,k5,k6,k7⟩:=aF.lendSp k3 (zR _) zt5
    obtain ⟨t1,k8,k9,l0,l1⟩:=aF.lendSp k6 k4 zt5
    obtain ⟨t2,f3,l2,l3,l4⟩:=aF.lendBp l0 zt4
    obtain ⟨t3,l5,hm⟩:=aB hm
    refine aP (vs:=[bY (some ⟨y,0,none⟩) 0,zB k1.1]) call17 rfl (aDN l5 l3 l2 (k5.mono (zL k8 f3)) (k9.mono f3)) ?_
    rintro _ t4 ⟨t5,t6,t7,t8,rfl,l6⟩
    have l7:=l4 _ _ l6
    have l8:=l1 _ _ l7
    have t9:=k7 _ _ l8
    exact aM
   ·refine bG d3 rfl (aJ (aD (qS rfl rfl) (aI (v:=zB (q.1 == 3)) (aH ?_))))
    rcases aL hm with ⟨d4,hm⟩|⟨d4,hm⟩
    ·refine aR d4 rfl (aS ?_);obtain ⟨u0,l9,m0,m1,m2⟩:=aF.lendSp a6 (zR _) zt5
     obtain ⟨u1,m3,m4,m5,m6⟩:=aF.lendSp m1 l9 zt5
     obtain ⟨u2,f4,m7,m8,m9⟩:=aF.lendBp m5 zt4
     obtain ⟨u3,n0,hm⟩:=aB hm
     refine aP (vs:=[bY (some ⟨y,0,none⟩) 0]) call19 rfl (aDO n0 m8 m7 (m0.mono (zL m3 f4)) (m4.mono f4)) ?_
     rintro _ u4 ⟨u5,u6,u7,u8,rfl,n1⟩
     have n2:=m9 _ _ n1
     have n3:=m6 _ _ n2
     have u9:=m2 _ _ n3
     exact aM
    ·refine bG d4 rfl (aJ (aD (qS rfl rfl) (aI (v:=zB (q.1 == 4)) (aH ?_))))
     rcases aL hm with ⟨d5,hm⟩|⟨d5,hm⟩
     ·refine aR d5 rfl (aJ (bX (Kt:=K) (xs:=([]:List Edge)) (cs:=[]) (vs:=[]) cP qT rfl rfl a6 rfl (by kernel_rfl) rfl rfl rfl trivial (fun f5 f6 (f7:aF G K (own 51 K f5 0 ([]:List Edge)::box d 63 [zS a1 p.length c2,i64 q.2.1,Value.int .u64 q.2.2]::box J 29 (zC b.1 l m n o)::own 9 K l m b.1.L::own 51 K n o b.1.E::box y 29 (zC a.1 e g j k)::own 9 K e g a.1.L::own 51 K j k a.1.E::box x 29 c::box u 29 c::L) f6)=>(aD (bH (t':=3) fK rfl rfl) (aD (eM oJ f7 (i:=5) rfl rfl rfl) ?_)))))
      obtain ⟨a7,n4,hm⟩:=aB hm
      have n5:aF G K (own 51 K j k a.1.E::own 51 K f5 0 ([]:List Edge)::box d 63 [zS a1 p.length c2,i64 q.2.1,Value.int .u64 q.2.2]::box J 29 (zC b.1 l m n o)::own 9 K l m b.1.L::own 51 K n o b.1.E::box y 29 (zC a.1 e g j k)::own 9 K e g a.1.L::box x 29 c::box u 29 c::L) f6:=(aF.arr 8 [7,0,1,2,3,4,5,6] f7 rfl)
      refine WO_appK (i:=0) cP underlying27 qT rfl rfl n5 rfl (zR _) (zR _) n4 rfl rfl rfl rfl (fun _ h=>h) (fun a8 a9 n6 (n7:aF G K (own 51 K j k a.1.E::own 51 K a8 a9 a7::box d 63 [zS a1 p.length c2,i64 q.2.1,Value.int .u64 q.2.2]::box J 29 (zC b.1 l m n o)::own 9 K l m b.1.L::own 51 K n o b.1.E::box y 29 (zC a.1 e g j k)::own 9 K e g a.1.L::box x 29 c::box u 29 c::L) n6)=>(aI (v:=zS a8 a7.length a9) (aH (aK ?_))))
      obtain ⟨c8,b0,d6,f8,n8⟩:=aF.lendBp n7 zt6
      refine cV (C:=fun w'=>∃ L',aF G c8 L' w') [(0,0),(1,0),(2,0),(3,0),(5,0),(6,0),(7,0),(8,0),(10,0),(11,0),(12,0),(4,1),(9,1),(13,1),(14,0),(15,1),(16,1),(17,0)] Tryz_mixed (by kernel_rfl) (fun _ hg=>⟨_,aF.mono f8 hg⟩) (fun n9 o0=>?_)
      have a0:=aF.mono f8 o0
      refine bE rfl (fun _ _=>aT (v:=zS a8 a7.length a9) rfl) (bE rfl (fun _ _=>aT (v:=zP (some ⟨d,0,none⟩)) rfl) (bE rfl (fun _ _=>bH (t':=0) fA rfl rfl) (bE rfl (fun _ ⟨_,a0⟩=>aU (t:=0) cR a0 d6 rfl rfl) (bE rfl (fun _ _=>aT (v:=zP (some ⟨d,0,none⟩)) rfl) (bE rfl (fun _ _=>bH (t':=2) pM rfl rfl) (bE rfl (fun _ ⟨_,a0⟩=>aU (t:=2) aCV a0 d6 rfl rfl) (bE rfl (fun _ _=>bC (len:=a.1.L.length) fD rfl) (bE rfl (fun _ _=>aT (v:=zP (some ⟨d,0,none⟩)) rfl) (bE rfl (fun _ _=>bH (t':=0) fA rfl rfl) (bE rfl (fun _ ⟨_,a0⟩=>aU (t:=0) cR a0 d6 rfl rfl) (nT rfl ?_)))))))))))
      have o1:aF G c8 (box d 63 [zS a1 p.length c2,i64 q.2.1,Value.int .u64 q.2.2]::own 51 K j k a.1.E::own 51 K a8 a9 a7::box J 29 (zC b.1 l m n o)::own 9 K l m b.1.L::own 51 K n o b.1.E::own 9 K e g a.1.L::box x 29 c::box u 29 c::L) n9:=(aF.arr 3 [2,0,1] a0 rfl)
      obtain ⟨a2,o2,hm⟩:=aB hm
      refine aP (vs:=[zP (some ⟨d,0,none⟩),i64 a.1.N]) call15 rfl (aZ o2 o1 (Z.mono b0)) ?_
      rintro _ v0 ⟨rfl,f9⟩
      refine aV (aC ⟨⟨_,f9⟩,?_⟩)
      refine nT rfl ?_;obtain ⟨a3,o3,hm⟩:=aB hm
      refine aP (vs:=[zP (some ⟨d,0,none⟩),i64 (a.1.L.length:Int)]) call15 rfl (aZ o3 f9 (Z.mono b0)) ?_
      rintro _ v1 ⟨rfl,g0⟩
      refine aV (aC ⟨⟨_,g0⟩,?_⟩)
      refine nT rfl ?_;obtain ⟨z,o4,hm⟩:=aB hm
      refine aP (vs:=[zP (some ⟨d,0,none⟩),i64 a.1.N]) call15 rfl (aZ o4 g0 (Z.mono b0)) ?_
      rintro _ v2 ⟨rfl,g1⟩
      refine aV (aC ⟨⟨_,g1⟩,?_⟩)
      refine bE rfl (fun _ _=>gJ (vs:=[(0,i64 a2.1),(1,i64 a3.1),(2,i64 z.1)]) (cs:=[i64 a2.1,i64 a3.1,i64 z.1]) aIC rfl (by kernel_rfl)) (nT rfl (bX (Kt:=K) (xs:=([⟨a2.1,a3.1,z.1⟩]:List Edge)) (cs:=[i64 a2.1,i64 a3.1,i64 z.1]) (vs:=[(0,zA #[i64 a2.1,i64 a3.1,i64 z.1])]) cP qT rfl rfl g1 rfl (by kernel_rfl) rfl rfl rfl ⟨rfl,trivial⟩ (fun o5 o6 (g2:aF G c8 (own 51 K o5 1 ([⟨a2.1,a3.1,z.1⟩]:List Edge)::box d 63 [zS a1 p.length c2,i64 z.2.1,Value.int .u64 z.2.2]::own 51 K j k a.1.E::own 51 K a8 a9 a7::box J 29 (zC b.1 l m n o)::own 9 K l m b.1.L::own 51 K n o b.1.E::own 9 K e g a.1.L::box x 29 c::box u 29 c::L) o6)=>(aV (aC ⟨⟨_,g2⟩,?_⟩)))))
      refine nT rfl ?_;obtain ⟨b1,o7,hm⟩:=aB hm
      refine eQ (i:=2) cP underlying27 qT rfl rfl g2 rfl b0 b0 o7 rfl rfl rfl rfl (fun _ h=>h) (fun b2 b3 o8 (g3:aF G c8 (box d 63 [zS a1 p.length c2,i64 z.2.1,Value.int .u64 z.2.2]::own 51 K j k a.1.E::own 51 K b2 b3 b1::box J 29 (zC b.1 l m n o)::own 9 K l m b.1.L::own 51 K n o b.1.E::own 9 K e g a.1.L::box x 29 c::box u 29 c::L) o8)=>(aV (aC ⟨⟨_,g3⟩,?_⟩)))
      refine bE rfl (fun _ _=>eE (v:=zS b2 b1.length b3) rfl) (xI ?_)
      have c9:=n8 _ _ g3
      refine aC (aS (aD (bH (t':=0) fA rfl rfl) (aD (eM cR c9 (i:=0) rfl rfl rfl) (aD (bH (t':=1) aFg rfl rfl) (aD (eM cR c9 (i:=0) rfl rfl rfl) (aD (bH (t':=2) pM rfl rfl) (aD (eM aCV c9 (i:=0) rfl rfl rfl) (aG (v:=zS b2 b1.length b3) ?_))))))));obtain ⟨v3,o9,p0,p1,p2⟩:=aF.lendSp c9 (zR _) zt7
      obtain ⟨v4,p3,p4,p5,p6⟩:=aF.lendSp p1 o9 zt3
      obtain ⟨r,p7,hm⟩:=aB hm
      refine aP (vs:=[i64 a.1.N,i64 a.1.I,zS e a.1.L.length g,zS b2 b1.length b3]) call20 rfl (aEL p7 p5 (p0.mono p3) p4) ?_
      rintro _ v5 ⟨b5,b6,b8,b9,rfl,p8⟩
      have p9:=p6 _ _ p8
      have q0:=p2 _ _ p9
      exact dJ (i:=7) (ns:=(zC r b5 b6 b8 b9)) (us:=(zC r b5 b6 b8 b9)) sizeOf29 q0 rfl rfl rfl rfl rfl (eV rfl) rfl rfl (fun q1 (q2:aF G K (own 9 K e g a.1.L::own 51 K b2 b3 b1::own 9 K b5 b6 r.L::own 51 K b8 b9 r.E::box y 29 (zC a.1 e g j k)::box d 63 [zS a1 p.length c2,i64 z.2.1,Value.int .u64 z.2.2]::own 51 K j k a.1.E::box J 29 (zC r b5 b6 b8 b9)::own 9 K l m b.1.L::own 51 K n o b.1.E::box x 29 c::box u 29 c::L) q1)=>(aV (cH (aC ⟨bF,r.N,r.I,r.L,r.E,b5,b6,b8,b9,hm,(aF.arr 10 [3,2,7,4,0,6] q2 rfl)⟩))))
     ·exact bG d5 rfl (aW (cH (aC ⟨bF,b.1.N,b.1.I,b.1.L,b.1.E,l,m,n,o,hm,(aF.arr 4 [3,2,1] a6 rfl)⟩)))
 refine aJ (aD (qS rfl rfl) (aI (v:=zB (q.1 == 0)) (aH ?_)))
 rcases aL hm with ⟨d7,hm⟩|⟨d7,hm⟩
 ·exact aR d7 rfl (aW (aC ⟨bF,q.1 == 0,hm,rfl,e8⟩))
 ·exact bG d7 rfl (aS (aD (qS rfl rfl) (aI (v:=zB (q.1 == 1)) (aH ⟨bF,q.1 == 1,hm,rfl,e8⟩))))
theorem aGa {t:bQ} {k:Int} {R:Bool} (hm:qM t k=some R) (a:aF G K (L) w) (b:bL K a1 c2 t.L) (c:bL K a4 c5 t.E):
  Calls prog 41 ([zA (zCa t a1 c2 a4 c5),i64 k]:List Value).toArray w (eC fun v w'=>v=zB R/\aF G K (L) w'):=by
 exact aM
theorem aKK {i many:Int} {R:Bool} (hm:aIh i many=some R) (a:aF G K (L) w):
  Calls prog 43 ([i64 i,i64 many]:List Value).toArray w (eC fun v w'=>v=zB R/\aF G K (L) w'):=by
 exact aM
end Gv
