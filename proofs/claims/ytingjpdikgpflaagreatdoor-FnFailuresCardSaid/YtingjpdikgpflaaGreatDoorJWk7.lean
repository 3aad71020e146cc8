/- Walks, printed by program. -/
import Derived.Test.YtingjpdikgpflaaGreatDoorJWk5
set_option linter.all false
namespace Gv
open Go.Value renaming slice→zS,bool→zB,pointer→zP,agg→zA
open Option.some renaming inj→zI
open Gv.Hp renaming le_trans→zL,le_refl→zR
open Go Go.Proofs Go.Proofs.Tryz
set_option maxRecDepth 20000
set_option maxHeartbeats 40000000
variable {G:qN} {K:Hp} {L:List gH} {w:World} {a1 a4 a7 a10 a3 a6 a9 a13 a16 a19 a22 a25 a28 a31 a34 a37 a40:Option Addr} {c2 c5 c8 c11 c7 c10 c14 c17 c23 c29 c20 c26 c35 c41:Nat}
theorem gG {t:cI} {k:Int} {R:(List aZ)} (hm:gR t k=some R) (hs:aJ G K (L) w) (y:cF K a1 c2 t.L) (h6:cF K a4 c5 t.E):
  Calls prog 59 ([zA (zCa t a1 c2 a4 c5),i64 k]:List Value).toArray w (eH fun v w'=>∃ a6 a7,v=zS a6 R.length a7/\aJ G K (aN 9 K a6 a7 R::L) w'):=by
 let e:=(zC t a1 c2 a4 c5)
 refine aS func59 rfl (by kernel_rfl) (by show (2:Nat)<=30;decide) ?_;unfold gR at hm
 refine aK (fJ (v:=zA (zCa t a1 c2 a4 c5)) (vs:=e) hs rfl rfl (fun o w8 a8=>(aD (v:=zS none 0 0) (aG (aK (aD (v:=zS none 0 0) (aG (aO (aK (aC (dI (us:=e) cV a8 (i:=0) rfl rfl rfl rfl) (aF (v:=i64 k) ?_)))))))))));obtain ⟨l,b9,hm⟩:=aB hm
 refine aR (vs:=[zA (zCa t a1 c2 a4 c5),i64 k]) call29 rfl (aCI b9 a8 y h6) ?_
 rintro _ e6 ⟨p,q,rfl,c0⟩
 refine aC (bO (len:=l.length) cL rfl) (aF (v:=i64 0) (aG (aW [] (fun f w=>∃ m b c,kX m=some R/\f 5=zS b m.length c/\aJ G K (aN 9 K b c m::L) w) ?_ ?_)))
 ·rintro f e7 ⟨m,b,c,hm,a9,c1⟩
  unfold kX at hm
  refine aA (aK (aY a9 ?_));obtain ⟨b0,c3,hm⟩:=aB hm
  refine aR (vs:=[zS b m.length c,Value.func (.func 108) #[] #[]]) call107 rfl (lib_SortStr c1 c3) ?_
  rintro _ e8 ⟨rfl,c4,c6⟩
  refine aG (aK (aY (v:=zS b b0.length c) (Eq.trans a9 (congrArg (fun n=>zS b n c) c4)) ?_));obtain ⟨c7,c8,hm⟩:=aB hm
  refine aR (vs:=[zS b b0.length c]) call109 rfl (jD c8 c6) ?_
  rintro _ e9 ⟨b1,b2,rfl,c9⟩
  refine aD (v:=zS b1 c7.length b2) (aG ?_);obtain rfl:=zI hm
  exact bH (bI results59 rfl ⟨b1,b2,rfl,c9⟩)
 have d1:=aJ.nil (α:=aZ) c0 9 K
 obtain ⟨f0,d2,ho⟩:=aB hm
 refine cJ [2,10,11] d2 (fun d z f w=>∃ g j,f 5=zS g d.length j/\f 12=i64 z/\aJ G K (aN 9 K g j d::aN 66 K p q l::box o 27 e::L) w) ?_ ?_
 ·exact ⟨none,0,rfl,rfl,d1⟩
 ·rintro d z f1 f f2 hm hr ⟨g,j,b3,V,r⟩
  unfold vE at hm
  refine aK (aC (cG V rfl) (aG (aO ?_)))
  rcases aH hm with ⟨Z,hm⟩|⟨Z,hm⟩
  ·refine aL Z rfl (aU (aA (aO (cN (aK ?_)))));obtain ⟨a,a0,hm⟩:=aB hm
   have d3:=cX r (i:=1) rfl a0
   refine aC (dD cL rfl d3 rfl rfl V a0) (aC (aAh (t:=0) (vs:=[i64 a.F,i64 a.B,i64 a.To]) kD r (i:=1) rfl a0 rfl rfl rfl rfl) (bZ (vs:=[i64 0,i64 0,i64 0]) zeroValue66 r rfl (fun a2 f3 d4=>(cA (i:=0) (ns:=[i64 a.F,i64 a.B,i64 a.To]) (us:=[i64 a.F,i64 a.B,i64 a.To]) sizeOf66 d4 rfl rfl rfl rfl rfl (cY rfl) rfl rfl (fun d5 (u:aJ G K (box a2 66 [i64 a.F,i64 a.B,i64 a.To]::aN 9 K g j d::aN 66 K p q l::box o 27 e::L) d5)=>(aG (aP (aY b3 (aC (bT (t':=2) eU rfl rfl) (aC (dC eR u (i:=3) rfl rfl rfl) (aC (bT (t':=1) hQ rfl rfl) (aC (dC cQ u (i:=0) rfl rfl rfl) ?_))))))))))))
   obtain ⟨x,b4,hm⟩:=aB hm
   refine aC (cT bX rfl y rfl rfl rfl b4) ?_;obtain ⟨f4,d6,d7⟩:=cF.el (sz:=1) rfl y b4
   cases d7
   refine aC (bG (t:=0) lF u d6 rfl rfl) (cB (Kt:=K) (xs:=([x]:List aZ)) (cs:=[str x]) (vs:=[(0,str x)]) bX iA rfl rfl u rfl (by kernel_rfl) rfl rfl rfl ⟨rfl,trivial⟩ (fun d8 d9 (e0:aJ G K (aN 9 K d8 1 ([x]:List aZ)::box a2 66 [i64 a.F,i64 a.B,i64 a.To]::aN 9 K g j d::aN 66 K p q l::box o 27 e::L) d9)=>?_));obtain ⟨b5,e1,hm⟩:=aB hm
   exact dG (i:=1) bX underlying24 iA rfl rfl e0 rfl (zR _) (zR _) e1 rfl rfl rfl rfl (fun _ h=>h) (fun a3 a5 e2 (e3:aJ G K (box a2 66 [i64 a.F,i64 a.B,i64 a.To]::aN 9 K a3 a5 b5::aN 66 K p q l::box o 27 e::L) e2)=>(aD (v:=zS a3 b5.length a5) (bB (aX (aA (aP (aC (cE V rfl) (aF (v:=i64 (wr (z+1))) (aG ⟨_,(zI hm).symm,aM,a3,a5,rfl,rfl,(aJ.arr 1 [] e3 rfl)⟩)))))))))
  ·refine aI Z rfl (bV (aT (aT ?_)))
   have e4:=hr _ (zI hm).symm
   subst e4
   have hm:(kX d)=some R:=ho
   clear hr ho
   exact bJ (aA ⟨aM,d,g,j,hm,b3,(aJ.arr 3 [0] r rfl)⟩)
theorem aDg {t:cI} {k:Int} {R:Bool} (hm:yB t k=some R) (c:aJ G K (L) w) (d:cF K a1 c2 t.L) (e:cF K a4 c5 t.E):
  Calls prog 129 ([zA (zCa t a1 c2 a4 c5),i64 k]:List Value).toArray w (eH fun v w'=>v=zB R/\aJ G K (L) w'):=by
 let a:=(zC t a1 c2 a4 c5)
 refine aS func129 rfl (by kernel_rfl) (by show (2:Nat)<=10;decide) ?_;unfold yB at hm
 refine aK (fJ (v:=zA (zCa t a1 c2 a4 c5)) (vs:=a) c rfl rfl (fun z V b=>(aD (v:=zB false) (aG (aK (aC (dI (us:=a) cV b (i:=0) rfl rfl rfl rfl) (aF (v:=i64 k) ?_)))))));obtain ⟨g,h,hm⟩:=aB hm
 refine aR (vs:=[zA (zCa t a1 c2 a4 c5),i64 k]) call59 rfl (gG h b d e) ?_
 rintro _ Z ⟨j,l,rfl,m⟩
 obtain ⟨a0,a2,n,o,p⟩:=aJ.lendSp m (zR _) .head
 obtain ⟨q,r,hm⟩:=aB hm
 refine aR (vs:=[zS j g.length l,str ([116,97,117]:aZ)]) call69 rfl (fV r o n) ?_
 rintro _ a3 ⟨rfl,u⟩
 have x:=p _ _ u
 refine aC (dE rfl) (aD (v:=zB (!q)) (aG ?_));obtain rfl:=zI hm
 exact bH (bI results129 rfl ⟨rfl,(aJ.arr 2 [] x rfl)⟩)
theorem vH {k:Int} {p:cI} {a:Nat} {R:Bool} (hm:pS k p=some R) (b:aJ G K (L) w) (c:eY K a1 a (zC p a4 c5 a7 c8)) (d:cF K a4 c5 p.L) (e:cF K a7 c8 p.E):
  Calls prog 128 ([i64 k,cS a1 a]:List Value).toArray w (eH fun v w'=>v=zB R/\aJ G K (L) w'):=by
 refine aS func128 rfl (by kernel_rfl) (by show (2:Nat)<=8;decide) ?_;unfold pS at hm
 refine aK (aD (v:=zB false) (aG (aK (aC (eI (t:=0) (vs:=(zC p a4 c5 a7 c8)) cV b c rfl rfl rfl) (aF (v:=i64 k) ?_)))));obtain ⟨g,h,hm⟩:=aB hm
 refine aR (vs:=[zA (zCa p a4 c5 a7 c8),i64 k]) call129 rfl (aDg h b d e) ?_
 rintro _ l ⟨rfl,i⟩
 refine aC (dE rfl) (aD (v:=zB (!g)) (aG ?_));obtain rfl:=zI hm
 exact bH (bI results128 rfl ⟨rfl,i⟩)
theorem mG {c:(List Int)} {b:cI} {d:Nat} {R:Int} (hm:gL c b=some R) (n:aJ G K (L) w) (j:cF K a1 c2 c) (o:eY K a4 d (zC b a7 c8 a10 c11)) (p:cF K a7 c8 b.L) (q:cF K a10 c11 b.E):
  Calls prog 126 ([zS a1 c.length c2,Value.func (.func 128) #[] #[cS a4 d]]:List Value).toArray w (eH fun v w'=>v=i64 R/\aJ G K (L) w'):=by
 refine aS func126 rfl (by kernel_rfl) (by show (2:Nat)<=19;decide) ?_;unfold gL at hm
 refine aK (aD (v:=i64 0) (aG (aO (aK (aF (v:=zS a1 c.length c2) (aC (bO (len:=c.length) cC rfl) (aF (v:=i64 0) (aG (aW [] (fun f w=>eB=some R/\aJ G K (L) w) ?_ ?_)))))))))
 ·rintro f a3 ⟨hm,r⟩
  unfold eB at hm
  refine aA (aK (aD (v:=i64 (-1)) (aG ?_)));obtain rfl:=zI hm
  exact bH (bI results126 rfl ⟨rfl,r⟩)
 obtain ⟨a5,x,ho⟩:=aB hm
 refine dM [0,1,7] x (fun a f w=>f 8=i64 a/\aJ G K (L) w) ?_ ?_
 ·exact ⟨rfl,n⟩
 ·rintro a a6 f a8 hm hr ⟨e,g⟩
  unfold iW at hm
  refine aK (aC (cG e rfl) (aG (aO ?_)))
  rcases aH hm with ⟨h,hm⟩|⟨h,hm⟩
  ·refine aL h rfl (aU (aA (aO (cN (aK (aY e (aD (v:=i64 a) (aG (aK (aF (v:=Value.func (.func 128) #[] #[cS a4 d]) (aF (v:=zS a1 c.length c2) (aF (v:=i64 a) ?_))))))))))));obtain ⟨k,l,hm⟩:=aB hm
   refine aC (cT cC rfl j rfl rfl rfl l) ?_;obtain ⟨a9,y,z⟩:=cF.el (sz:=1) rfl j l
   cases z
   refine aC (bG (t:=0) cQ g y rfl rfl) ?_;obtain ⟨b0,V,hm⟩:=aB hm
   refine kG (vs:=[i64 k]) (caps:=[cS a4 d]) (us:=[i64 k,cS a4 d]) rfl call128 rfl rfl (vH V g o p q) ?_
   rintro _ b1 ⟨rfl,m⟩
   refine aG ?_
   rcases aH hm with ⟨i,hm⟩|⟨i,hm⟩
   ·refine aL i rfl (aK (aF (v:=i64 a) (aD (v:=i64 a) (aG (bH (bM (aQ (aQ ?_))))))))
    have Z:=hr _ (zI hm).symm
    subst Z
    have hm:(some a)=some R:=ho
    clear hr ho
    obtain rfl:=zI hm
    exact bM (aQ (aQ (bI results126 rfl ⟨rfl,m⟩)))
   ·exact aI i rfl (aU (aX (aA (aP (aC (cE e rfl) (aF (v:=i64 (wr (a+1))) (aG ⟨_,(zI hm).symm,aM,rfl,m⟩)))))))
  ·refine aI h rfl (bV (aT (aT ?_)))
   have a2:=hr _ (zI hm).symm
   subst a2
   have hm:(eB)=some R:=ho
   clear hr ho
   exact bJ (aA ⟨aM,hm,g⟩)
theorem nC {a:(List Int)} {b:cI} {c:Nat} {R:(List Int)} (hm:gW a b=some R) (hs:aJ G K (aN 2 K a1 c2 a::L) w) (h5:eY K a3 c (zC b a6 c7 a9 c10)) (h8:cF K a6 c7 b.L) (a8:cF K a9 c10 b.E):
  Calls prog 127 ([zS a1 a.length c2,Value.func (.func 128) #[] #[cS a3 c]]:List Value).toArray w (eH fun v w'=>∃ b0 b1,v=zS b0 R.length b1/\aJ G K (aN 2 K b0 b1 R::L) w'):=by
 refine aS func127 rfl (by kernel_rfl) (by show (2:Nat)<=42;decide) ?_;unfold gW at hm
 refine aK (aD (v:=zS none 0 0) (aG (aK (aF (v:=zS a1 a.length c2) (aF (v:=Value.func (.func 128) #[] #[cS a3 c]) ?_)))));obtain ⟨f2,u,d2,d3,d4⟩:=aJ.lendSp hs (zR _) .head
 obtain ⟨k,d5,hm⟩:=aB hm
 refine aR (vs:=[zS a1 a.length c2,Value.func (.func 128) #[] #[cS a3 c]]) call126 rfl (mG d5 d3 d2 (h5.mono u) (h8.mono u) (a8.mono u)) ?_
 rintro _ f3 ⟨rfl,d6⟩
 have b2:=d4 _ _ d6
 refine aD (v:=i64 k) (aG (aO (aK (aF (v:=i64 k) (aC (fA rfl rfl) (aG ?_))))))
 rcases aH hm with ⟨x,hm⟩|⟨x,hm⟩
 ·refine aL x rfl (aK (aF (v:=zS a1 a.length c2) (aD (v:=zS a1 a.length c2) (aG ?_))));obtain rfl:=zI hm
  exact bH (aQ (bI results127 rfl ⟨a1,c2,rfl,b2⟩))
 ·refine aI x rfl (aU (aA (aO (aK (aF (v:=i64 k) (aC (cE rfl rfl) (aD (v:=i64 (wr (k+1))) (aG (aW [] (fun f w=>∃ l m,eJ l m=some R/\f 0=zS a1 l.length c2/\f 5=i64 m/\aJ G K (aN 2 K a1 c2 l::L) w) ?_ ?_)))))))))
  ·rintro f f4 ⟨l,m,hm,b3,b4,b5⟩
   unfold eJ at hm
   refine aA (aK (aY b3 (aY b4 ?_)));obtain ⟨f5,d8,hm⟩:=aB hm
   have d9:=kO b5 (i:=0) rfl
   obtain ⟨f6,f7,b6⟩:=Cut.ex 1 a1 c2 m
   refine aC (qF cC d9 b6 rfl rfl rfl d8) ?_;obtain ⟨b7,b8,hm⟩:=aB hm
   refine xK cC iV rfl b5 (i:=0) rfl b6 rfl rfl b8 (fun b9 (c0:aJ G K (aN 2 K a1 c2 b7::L) b9)=>(aG (aK (aY (v:=zS a1 b7.length c2) (Eq.trans b3 (congrArg (fun n=>zS a1 n c2) (aCM b8))) (aY b4 ?_)))));obtain ⟨c1,c3,hm⟩:=aB hm
   have e0:=kO c0 (i:=0) rfl
   obtain ⟨y,z,c4⟩:=Cut.ex 1 a1 c2 0
   refine aC (aDS cC e0 c4 rfl rfl rfl c3) (aD (v:=zS y c1.length z) (aG ?_))
   have e1:aJ G K (aN 2 K y z c1::L) b9:=aJ.cutP c0 (i:=0) rfl c3 c4
   obtain rfl:=zI hm
   exact bH (bI results127 rfl ⟨y,z,rfl,e1⟩)
  obtain ⟨f8,e3,ho⟩:=aB hm
  refine jO [1] e3 (fun d e o f w=>f 0=zS a1 d.length c2/\f 5=i64 e/\f 6=i64 o/\aJ G K (aN 2 K a1 c2 d::L) w) ?_ ?_
  ·exact ⟨rfl,rfl,rfl,b2⟩
  ·rintro d e o e4 f f9 hm hr ⟨j,p,V,q⟩
   unfold jH at hm
   refine aO (aK (aY V (aY j (aC (bO (len:=d.length) cC rfl) (aC (cG rfl rfl) (aG ?_))))))
   rcases aH hm with ⟨Z,hm⟩|⟨Z,hm⟩
   ·refine aL Z rfl (aU (aA (aO (aW [1,6] (fun f w=>∃ r a0,eK o r a0=some e4/\f 0=zS a1 r.length c2/\f 5=i64 a0/\aJ G K (aN 2 K a1 c2 r::L) w) ?_ ?_))))
    ·rintro f g0 ⟨r,a0,hm,e5,e6,e7⟩
     unfold eK at hm
     exact aA (aP (aY V (aC (cE rfl rfl) (aD (v:=i64 (wr (o+1))) (aG ⟨_,(zI hm).symm,aM,e5,e6,rfl,e7⟩)))))
    refine aK (aY j (aY V ?_));obtain ⟨g,a2,hm⟩:=aB hm
    have c5:=cX q (i:=0) rfl a2
    refine aC (dD cC rfl c5 rfl rfl rfl a2) (aC (gX (t:=0) cQ q (i:=0) rfl a2 rfl rfl rfl) (aD (v:=i64 g) (aG (aK (aF (v:=Value.func (.func 128) #[] #[cS a3 c]) (aF (v:=i64 g) ?_))))));obtain ⟨g1,e8,hm⟩:=aB hm
    refine kG (vs:=[i64 g]) (caps:=[cS a3 c]) (us:=[i64 g,cS a3 c]) rfl call128 rfl rfl (vH e8 q h5 h8 a8) ?_
    rintro _ g2 ⟨rfl,c6⟩
    refine aC (dE rfl) (aG ?_)
    rcases aH hm with ⟨a4,hm⟩|⟨a4,hm⟩
    ·refine aL a4 rfl (aK (aY j (aY p (aF (v:=i64 g) ?_))));obtain ⟨g3,c8,hm⟩:=aB hm
     refine aC (dD cC rfl c5 rfl rfl rfl c8) ?_;obtain ⟨c9,d0,hm⟩:=aB hm
     exact jL (i:=0) (t:=0) (ns:=[i64 g]) (e':=(g:Int)) sizeOf2 c6 rfl (zR _) rfl rfl rfl c8 d0 rfl rfl (cY rfl) rfl (fun cs h=>by cases h;rfl) (fun e9 (f0:aJ G K (aN 2 K a1 c2 c9::L) e9)=>(aG (aP (aY p (aC (cE rfl rfl) (aD (v:=i64 (wr (e+1))) (bB (aX (aA ⟨aM,c9,wr (e+1),hm,(Eq.trans j (congrArg (fun n=>zS a1 n c2) (iM d0))),rfl,f0⟩)))))))))
    ·exact aI a4 rfl (aU (aX (aA ⟨aM,d,e,hm,j,p,c6⟩)))
   ·refine aI Z rfl (bV (aT (aT ?_)))
    have f1:=hr _ (zI hm).symm
    subst f1
    have hm:(eJ d e)=some R:=ho
    clear hr ho
    exact bJ (aA ⟨aM,d,e,hm,j,p,q⟩)
theorem nA {t:cI} {a R:(List Int)} (hm:oJ t a=some R) (i:aJ G K (L) w) (j:cF K a1 c2 t.L) (k:cF K a4 c5 t.E) (l:cF K a7 c8 a):
  Calls prog 73 ([zA (zCa t a1 c2 a4 c5),zS a7 a.length c8]:List Value).toArray w (eH fun v w'=>∃ b c,v=zS b R.length c/\aJ G K (aN 2 K b c R::L) w'):=by
 refine aS func73 rfl (by kernel_rfl) (by show (2:Nat)<=9;decide) ?_;unfold oJ at hm
 refine aK (fJ (v:=zA (zCa t a1 c2 a4 c5)) (vs:=(zC t a1 c2 a4 c5)) i rfl rfl (fun d a3 m=>(aD (v:=zS none 0 0) (aG (aK (aF (v:=zS a7 a.length c8) ?_))))));obtain ⟨n,o,hm⟩:=aB hm
 refine aR (vs:=[zS a7 a.length c8]) call122 rfl (kN o m l) ?_
 rintro _ a5 ⟨p,q,rfl,r⟩
 refine aC (nH (vs:=[zP (some ⟨d,0,none⟩)]) rfl) ?_;obtain ⟨a6,e,u,x,y⟩:=aJ.lendBp r zt1
 obtain ⟨z,V,hm⟩:=aB hm
 refine aR (vs:=[zS p n.length q,Value.func (.func 128) #[] #[cS (some ⟨d,0,none⟩) 0]]) call127 rfl (nC V x u (j.mono e) (k.mono e)) ?_
 rintro _ a8 ⟨g,h,rfl,Z⟩
 have a0:=y _ _ Z
 refine aD (v:=zS g z.length h) (aG ?_);obtain rfl:=zI hm
 exact bH (bI results73 rfl ⟨g,h,rfl,(aJ.arr 1 [] a0 rfl)⟩)
theorem dA {a R:(List aZ)} (hm:eL a=some R) (d:aJ G K (L) w) (e:cF K a1 c2 a):
  Calls prog 30 ([zS a1 a.length c2]:List Value).toArray w (eH fun v w'=>∃ g h,v=zS g R.length h/\aJ G K (aN 9 K g h R::L) w'):=by
 refine aS func30 rfl (by kernel_rfl) (by show (1:Nat)<=8;decide) ?_;unfold eL at hm
 refine aK (aD (v:=zS none 0 0) (aG (aO (aK (aF (v:=zS a1 a.length c2) (aC (aQX bX rfl rfl) (aG ?_)))))))
 rcases aHM e with ⟨k,l,m⟩|n
 ·subst k;subst l;subst m
  refine aIq rfl ?_
  replace hm:(some [])=some R:=hm
  refine aK (aD (v:=zS none 0 0) (aG ?_))
  have o:=aJ.nil (α:=aZ) d 9 K
  obtain rfl:=zI hm
  exact bH (aQ (bI results30 rfl ⟨none,0,rfl,o⟩))
 ·refine aIr (Eq.trans rfl (congrArg zB n)) (aU (aA (aK (cB (Kt:=K) (xs:=([]:List aZ)) (cs:=[]) (vs:=[]) bX iA rfl rfl d rfl (by kernel_rfl) rfl rfl rfl trivial (fun q r (t:aJ G K (aN 9 K q 0 ([]:List aZ)::L) r)=>(aF (v:=zS a1 a.length c2) ?_))))));obtain ⟨j,u,hm⟩:=aB hm
  refine kP (i:=0) bX underlying24 iA rfl rfl t rfl (zR _) e u rfl rfl rfl rfl (fun b c x (y:aJ G K (aN 9 K b c j::L) x)=>(aD (v:=zS b j.length c) (aG ?_)));obtain rfl:=zI hm
  exact bH (bI results30 rfl ⟨b,c,rfl,y⟩)
theorem aAd {a:aZ} {p:(List aZ)} {b:Nat} {R:Bool} (hm:xD a p=some R) (c:aJ G K (L) w) (d:eY K a1 b [zS a4 p.length c5]) (e:cF K a4 c5 p):
  Calls prog 115 ([str a,cS a1 b]:List Value).toArray w (eH fun v w'=>v=zB R/\aJ G K (L) w'):=by
 refine aS func115 rfl (by kernel_rfl) (by show (2:Nat)<=7;decide) ?_;unfold xD at hm
 refine aK (aD (v:=zB false) (aG (aK (aC (bG (t:=0) eR c d rfl rfl) (aF (v:=str a) ?_)))));obtain ⟨g,h,hm⟩:=aB hm
 refine aR (vs:=[zS a4 p.length c5,str a]) call69 rfl (fV h c e) ?_
 rintro _ k ⟨rfl,i⟩
 refine aD (v:=zB g) (aG ?_);obtain rfl:=zI hm
 exact bH (bI results115 rfl ⟨rfl,i⟩)
theorem lS {b d:(List aZ)} {c:Nat} {R:Int} (hm:gB b d=some R) (n:aJ G K (L) w) (j:cF K a1 c2 b) (o:eY K a4 c [zS a7 d.length c8]) (p:cF K a7 c8 d):
  Calls prog 153 ([zS a1 b.length c2,Value.func (.func 115) #[] #[cS a4 c]]:List Value).toArray w (eH fun v w'=>v=i64 R/\aJ G K (L) w'):=by
 refine aS func153 rfl (by kernel_rfl) (by show (2:Nat)<=19;decide) ?_;unfold gB at hm
 refine aK (aD (v:=i64 0) (aG (aO (aK (aF (v:=zS a1 b.length c2) (aC (bO (len:=b.length) bX rfl) (aF (v:=i64 0) (aG (aW [] (fun f w=>dY=some R/\aJ G K (L) w) ?_ ?_)))))))))
 ·rintro f a2 ⟨hm,q⟩
  unfold dY at hm
  refine aA (aK (aD (v:=i64 (-1)) (aG ?_)));obtain rfl:=zI hm
  exact bH (bI results153 rfl ⟨rfl,q⟩)
 obtain ⟨a3,u,ho⟩:=aB hm
 refine dM [0,1,7] u (fun a f w=>f 8=i64 a/\aJ G K (L) w) ?_ ?_
 ·exact ⟨rfl,n⟩
 ·rintro a a5 f a6 hm hr ⟨e,g⟩
  unfold iL at hm
  refine aK (aC (cG e rfl) (aG (aO ?_)))
  rcases aH hm with ⟨h,hm⟩|⟨h,hm⟩
  ·refine aL h rfl (aU (aA (aO (cN (aK (aY e (aD (v:=i64 a) (aG (aK (aF (v:=Value.func (.func 115) #[] #[cS a4 c]) (aF (v:=zS a1 b.length c2) (aF (v:=i64 a) ?_))))))))))));obtain ⟨k,l,hm⟩:=aB hm
   refine aC (cT bX rfl j rfl rfl rfl l) ?_;obtain ⟨a8,x,y⟩:=cF.el (sz:=1) rfl j l
   cases y
   refine aC (bG (t:=0) lF g x rfl rfl) ?_;obtain ⟨a9,z,hm⟩:=aB hm
   refine kG (vs:=[str k]) (caps:=[cS a4 c]) (us:=[str k,cS a4 c]) rfl call115 rfl rfl (aAd z g o p) ?_
   rintro _ b0 ⟨rfl,m⟩
   refine aG ?_
   rcases aH hm with ⟨i,hm⟩|⟨i,hm⟩
   ·refine aL i rfl (aK (aF (v:=i64 a) (aD (v:=i64 a) (aG (bH (bM (aQ (aQ ?_))))))))
    have V:=hr _ (zI hm).symm
    subst V
    have hm:(some a)=some R:=ho
    clear hr ho
    obtain rfl:=zI hm
    exact bM (aQ (aQ (bI results153 rfl ⟨rfl,m⟩)))
   ·exact aI i rfl (aU (aX (aA (aP (aC (cE e rfl) (aF (v:=i64 (wr (a+1))) (aG ⟨_,(zI hm).symm,aM,rfl,m⟩)))))))
  ·refine aI h rfl (bV (aT (aT ?_)))
   have a0:=hr _ (zI hm).symm
   subst a0
   have hm:(dY)=some R:=ho
   clear hr ho
   exact bJ (aA ⟨aM,hm,g⟩)
theorem mH {a r:(List aZ)} {b:Nat} {R:(List aZ)} (hm:gM a r=some R) (hs:aJ G K (aN 9 K a1 c2 a::L) w) (h5:eY K a3 b [zS a6 r.length c7]) (h8:cF K a6 c7 r):
  Calls prog 114 ([zS a1 a.length c2,Value.func (.func 115) #[] #[cS a3 b]]:List Value).toArray w (eH fun v w'=>∃ a7 a8,v=zS a7 R.length a8/\aJ G K (aN 9 K a7 a8 R::L) w'):=by
 refine aS func114 rfl (by kernel_rfl) (by show (2:Nat)<=42;decide) ?_;unfold gM at hm
 refine aK (aD (v:=zS none 0 0) (aG (aK (aF (v:=zS a1 a.length c2) (aF (v:=Value.func (.func 115) #[] #[cS a3 b]) ?_)))));obtain ⟨K9,a9,d0,d1,d2⟩:=aJ.lendSp hs (zR _) .head
 obtain ⟨j,d3,hm⟩:=aB hm
 refine aR (vs:=[zS a1 a.length c2,Value.func (.func 115) #[] #[cS a3 b]]) call153 rfl (lS d3 d1 d0 (h5.mono a9) (h8.mono a9)) ?_
 rintro _ f1 ⟨rfl,d4⟩
 have b0:=d2 _ _ d4
 refine aD (v:=i64 j) (aG (aO (aK (aF (v:=i64 j) (aC (fA rfl rfl) (aG ?_))))))
 rcases aH hm with ⟨u,hm⟩|⟨u,hm⟩
 ·refine aL u rfl (aK (aF (v:=zS a1 a.length c2) (aD (v:=zS a1 a.length c2) (aG ?_))));obtain rfl:=zI hm
  exact bH (aQ (bI results114 rfl ⟨a1,c2,rfl,b0⟩))
 ·refine aI u rfl (aU (aA (aO (aK (aF (v:=i64 j) (aC (cE rfl rfl) (aD (v:=i64 (wr (j+1))) (aG (aW [] (fun f w=>∃ k l,eC k l=some R/\f 0=zS a1 k.length c2/\f 5=i64 l/\aJ G K (aN 9 K a1 c2 k::L) w) ?_ ?_)))))))))
  ·rintro f f2 ⟨k,l,hm,b1,b2,b3⟩
   unfold eC at hm
   refine aA (aK (aY b1 (aY b2 ?_)));obtain ⟨f3,d6,hm⟩:=aB hm
   have d7:=kO b3 (i:=0) rfl
   obtain ⟨f4,f5,b4⟩:=Cut.ex 1 a1 c2 l
   refine aC (qF bX d7 b4 rfl rfl rfl d6) ?_;obtain ⟨b5,b6,hm⟩:=aB hm
   refine xK bX iA rfl b3 (i:=0) rfl b4 rfl rfl b6 (fun b7 (b8:aJ G K (aN 9 K a1 c2 b5::L) b7)=>(aG (aK (aY (v:=zS a1 b5.length c2) (Eq.trans b1 (congrArg (fun n=>zS a1 n c2) (aCM b6))) (aY b2 ?_)))));obtain ⟨b9,c0,hm⟩:=aB hm
   have d8:=kO b8 (i:=0) rfl
   obtain ⟨x,y,c1⟩:=Cut.ex 1 a1 c2 0
   refine aC (aDS bX d8 c1 rfl rfl rfl c0) (aD (v:=zS x b9.length y) (aG ?_))
   have d9:aJ G K (aN 9 K x y b9::L) b7:=aJ.cutP b8 (i:=0) rfl c0 c1
   obtain rfl:=zI hm
   exact bH (bI results114 rfl ⟨x,y,rfl,d9⟩)
  obtain ⟨f6,e1,ho⟩:=aB hm
  refine jO [1] e1 (fun c d m f w=>f 0=zS a1 c.length c2/\f 5=i64 d/\f 6=i64 m/\aJ G K (aN 9 K a1 c2 c::L) w) ?_ ?_
  ·exact ⟨rfl,rfl,rfl,b0⟩
  ·rintro c d m e2 f f7 hm hr ⟨g,o,z,p⟩
   unfold iX at hm
   refine aO (aK (aY z (aY g (aC (bO (len:=c.length) bX rfl) (aC (cG rfl rfl) (aG ?_))))))
   rcases aH hm with ⟨V,hm⟩|⟨V,hm⟩
   ·refine aL V rfl (aU (aA (aO (aW [1,6] (fun f w=>∃ q Z,eD m q Z=some e2/\f 0=zS a1 q.length c2/\f 5=i64 Z/\aJ G K (aN 9 K a1 c2 q::L) w) ?_ ?_))))
    ·rintro f f8 ⟨q,Z,hm,e3,e4,e5⟩
     unfold eD at hm
     exact aA (aP (aY z (aC (cE rfl rfl) (aD (v:=i64 (wr (m+1))) (aG ⟨_,(zI hm).symm,aM,e3,e4,rfl,e5⟩)))))
    refine aK (aY g (aY z ?_));obtain ⟨e,a0,hm⟩:=aB hm
    have c3:=cX p (i:=0) rfl a0
    refine aC (dD bX rfl c3 rfl rfl rfl a0) (aC (gX (t:=0) lF p (i:=0) rfl a0 rfl rfl rfl) (aD (v:=str e) (aG (aK (aF (v:=Value.func (.func 115) #[] #[cS a3 b]) (aF (v:=str e) ?_))))));obtain ⟨f9,e6,hm⟩:=aB hm
    refine kG (vs:=[str e]) (caps:=[cS a3 b]) (us:=[str e,cS a3 b]) rfl call115 rfl rfl (aAd e6 p h5 h8) ?_
    rintro _ g0 ⟨rfl,c4⟩
    refine aC (dE rfl) (aG ?_)
    rcases aH hm with ⟨a2,hm⟩|⟨a2,hm⟩
    ·refine aL a2 rfl (aK (aY g (aY o (aF (v:=str e) ?_))));obtain ⟨g1,c5,hm⟩:=aB hm
     refine aC (dD bX rfl c3 rfl rfl rfl c5) ?_;obtain ⟨c6,c8,hm⟩:=aB hm
     exact jL (i:=0) (t:=0) (ns:=[str e]) (e':=(e:aZ)) sizeOf9 c4 rfl (zR _) rfl rfl rfl c5 c8 rfl rfl (cY rfl) rfl (fun cs h=>by cases h;rfl) (fun e7 (e8:aJ G K (aN 9 K a1 c2 c6::L) e7)=>(aG (aP (aY o (aC (cE rfl rfl) (aD (v:=i64 (wr (d+1))) (bB (aX (aA ⟨aM,c6,wr (d+1),hm,(Eq.trans g (congrArg (fun n=>zS a1 n c2) (iM c8))),rfl,e8⟩)))))))))
    ·exact aI a2 rfl (aU (aX (aA ⟨aM,c,d,hm,g,o,c4⟩)))
   ·refine aI V rfl (bV (aT (aT ?_)))
    have e9:=hr _ (zI hm).symm
    subst e9
    have hm:(eC c d)=some R:=ho
    clear hr ho
    exact bJ (aA ⟨aM,c,d,hm,g,o,p⟩)
theorem sW {a b R:(List aZ)} (hm:xM a b=some R) (i:aJ G K (L) w) (j:cF K a1 c2 a) (k:cF K a4 c5 b):
  Calls prog 58 ([zS a1 a.length c2,zS a4 b.length c5]:List Value).toArray w (eH fun v w'=>∃ c d,v=zS c R.length d/\aJ G K (aN 9 K c d R::L) w'):=by
 refine aS func58 rfl (by kernel_rfl) (by show (2:Nat)<=9;decide) ?_;unfold xM at hm
 refine aK (fJ (v:=zS a4 b.length c5) (vs:=[zS a4 b.length c5]) i rfl rfl (fun e w8 l=>(aD (v:=zS none 0 0) (aG (aK (aF (v:=zS a1 a.length c2) ?_))))));obtain ⟨m,n,hm⟩:=aB hm
 refine aR (vs:=[zS a1 a.length c2]) call30 rfl (dA n l j) ?_
 rintro _ a3 ⟨o,p,rfl,q⟩
 refine aC (nH (vs:=[zP (some ⟨e,0,none⟩)]) rfl) ?_;obtain ⟨a5,r,t,u,x⟩:=aJ.lendBp q zt1
 obtain ⟨y,z,hm⟩:=aB hm
 refine aR (vs:=[zS o m.length p,Value.func (.func 115) #[] #[cS (some ⟨e,0,none⟩) 0]]) call114 rfl (mH z u t (k.mono r)) ?_
 rintro _ a6 ⟨g,h,rfl,V⟩
 have Z:=x _ _ V
 refine aD (v:=zS g y.length h) (aG ?_);obtain rfl:=zI hm
 exact bH (bI results58 rfl ⟨g,h,rfl,(aJ.arr 1 [] Z rfl)⟩)
theorem aFJ {j:Int} {p:cI} {c:Nat} {b:(List aZ)} {d:Nat} {R:Bool} (hm:aCr j p b=some R) (e:aJ G K (L) w) (k:eY K a1 c (zC p a4 c5 a7 c8)) (l:cF K a4 c5 p.L) (m:cF K a7 c8 p.E) (n:eY K a10 d [zS a13 b.length c14]) (o:cF K a13 c14 b):
  Calls prog 106 ([i64 j,cS a1 c,cS a10 d]:List Value).toArray w (eH fun v w'=>v=zB R/\aJ G K (L) w'):=by
 refine aS func106 rfl (by kernel_rfl) (by show (3:Nat)<=12;decide) ?_;unfold aCr at hm
 refine aK (aD (v:=zB false) (aG (aO (dT (C:=fun w'=>∃ L',aJ G K L' w') [(0,0),(1,0),(3,0),(2,1),(4,1),(5,0),(6,0),(7,0)] bY (by kernel_rfl) (fun _ hg=>⟨_,aJ.mono e hg⟩) (fun a6 q=>?_)))))
 have a:=aJ.mono e q
 refine bQ rfl (fun _ ⟨_,a⟩=>eI (t:=0) (vs:=(zC p a4 c5 a7 c8)) cV a k rfl rfl rfl) (bQ rfl (fun _ _=>bA (v:=i64 j) rfl) (bQ rfl (fun _ ⟨_,a⟩=>bG (t:=0) eR a n rfl rfl) (jE rfl ?_)));obtain ⟨r,u,hm⟩:=aB hm
 refine aR (vs:=[zA (zCa p a4 c5 a7 c8),i64 j]) call59 rfl (gG u a l m) ?_
 rintro _ a8 ⟨x,y,rfl,g⟩
 refine bB (aA ⟨⟨_,g⟩,?_⟩)
 refine jE rfl ?_;obtain ⟨a9,z,V,Z,a0⟩:=aJ.lendSp g (zR _) .head
 obtain ⟨h,a2,hm⟩:=aB hm
 refine aR (vs:=[zS x r.length y,zS a13 b.length c14]) call58 rfl (sW a2 Z V (o.mono z)) ?_
 rintro _ b0 ⟨b1,b2,rfl,a3⟩
 have i:=a0 _ _ a3
 refine bB (aA ⟨⟨_,i⟩,?_⟩)
 refine bQ rfl (fun _ _=>bO (len:=h.length) bX rfl) (bQ rfl (fun _ _=>fA rfl rfl) (bQ rfl (fun _ _=>cZ (v:=zB ((h.length:Int) == 0)) rfl) (iO (aA ?_))));obtain rfl:=zI hm
 exact bH (bI results106 rfl ⟨rfl,(aJ.arr 2 [] i rfl)⟩)
theorem mI {c:(List Int)} {b:cI} {d:Nat} {g:(List aZ)} {e:Nat} {R:Int} (hm:gN c b g=some R) (o:aJ G K (L) w) (k:cF K a1 c2 c) (p:eY K a4 d (zC b a7 c8 a10 c11)) (q:cF K a7 c8 b.L) (r:cF K a10 c11 b.E) (u:eY K a13 e [zS a16 g.length c17]) (x:cF K a16 c17 g):
  Calls prog 126 ([zS a1 c.length c2,Value.func (.func 106) #[] #[cS a4 d,cS a13 e]]:List Value).toArray w (eH fun v w'=>v=i64 R/\aJ G K (L) w'):=by
 refine aS func126 rfl (by kernel_rfl) (by show (2:Nat)<=19;decide) ?_;unfold gN at hm
 refine aK (aD (v:=i64 0) (aG (aO (aK (aF (v:=zS a1 c.length c2) (aC (bO (len:=c.length) cC rfl) (aF (v:=i64 0) (aG (aW [] (fun f w=>eE=some R/\aJ G K (L) w) ?_ ?_)))))))))
 ·rintro f a8 ⟨hm,y⟩
  unfold eE at hm
  refine aA (aK (aD (v:=i64 (-1)) (aG ?_)));obtain rfl:=zI hm
  exact bH (bI results126 rfl ⟨rfl,y⟩)
 obtain ⟨a9,V,ho⟩:=aB hm
 refine dM [0,1,7] V (fun a f w=>f 8=i64 a/\aJ G K (L) w) ?_ ?_
 ·exact ⟨rfl,o⟩
 ·rintro a b0 f b1 hm hr ⟨h,i⟩
  unfold iY at hm
  refine aK (aC (cG h rfl) (aG (aO ?_)))
  rcases aH hm with ⟨j,hm⟩|⟨j,hm⟩
  ·refine aL j rfl (aU (aA (aO (cN (aK (aY h (aD (v:=i64 a) (aG (aK (aF (v:=Value.func (.func 106) #[] #[cS a4 d,cS a13 e]) (aF (v:=zS a1 c.length c2) (aF (v:=i64 a) ?_))))))))))));obtain ⟨l,m,hm⟩:=aB hm
   refine aC (cT cC rfl k rfl rfl rfl m) ?_;obtain ⟨b2,Z,a0⟩:=cF.el (sz:=1) rfl k m
   cases a0
   refine aC (bG (t:=0) cQ i Z rfl rfl) ?_;obtain ⟨b3,a2,hm⟩:=aB hm
   refine kG (vs:=[i64 l]) (caps:=[cS a4 d,cS a13 e]) (us:=[i64 l,cS a4 d,cS a13 e]) rfl call106 rfl rfl (aFJ a2 i p q r u x) ?_
   rintro _ b4 ⟨rfl,n⟩
   refine aG ?_
   rcases aH hm with ⟨c48,hm⟩|⟨c48,hm⟩
   ·refine aL c48 rfl (aK (aF (v:=i64 a) (aD (v:=i64 a) (aG (bH (bM (aQ (aQ ?_))))))))
    have a3:=hr _ (zI hm).symm
    subst a3
    have hm:(some a)=some R:=ho
    clear hr ho
    obtain rfl:=zI hm
    exact bM (aQ (aQ (bI results126 rfl ⟨rfl,n⟩)))
   ·exact aI c48 rfl (aU (aX (aA (aP (aC (cE h rfl) (aF (v:=i64 (wr (a+1))) (aG ⟨_,(zI hm).symm,aM,rfl,n⟩)))))))
  ·refine aI j rfl (bV (aT (aT ?_)))
   have a6:=hr _ (zI hm).symm
   subst a6
   have hm:(eE)=some R:=ho
   clear hr ho
   exact bJ (aA ⟨aM,hm,i⟩)
theorem lO {b:(List Int)} {a:cI} {c:Nat} {e:(List aZ)} {d:Nat} {R:Bool} (hm:fS b a e=some R) (g:aJ G K (L) w) (h:cF K a1 c2 b) (i:eY K a4 c (zC a a7 c8 a10 c11)) (j:cF K a7 c8 a.L) (k:cF K a10 c11 a.E) (l:eY K a13 d [zS a16 e.length c17]) (m:cF K a16 c17 e):
  Calls prog 72 ([zS a1 b.length c2,Value.func (.func 106) #[] #[cS a4 c,cS a13 d]]:List Value).toArray w (eH fun v w'=>v=zB R/\aJ G K (L) w'):=by
 refine aS func72 rfl (by kernel_rfl) (by show (2:Nat)<=9;decide) ?_;unfold fS at hm
 refine aK (aD (v:=zB false) (aG (aK (aF (v:=zS a1 b.length c2) (aF (v:=Value.func (.func 106) #[] #[cS a4 c,cS a13 d]) ?_)))));obtain ⟨n,o,hm⟩:=aB hm
 refine aR (vs:=[zS a1 b.length c2,Value.func (.func 106) #[] #[cS a4 c,cS a13 d]]) call126 rfl (mI o g h i j k l m) ?_
 rintro _ r ⟨rfl,p⟩
 refine aC (nG rfl rfl) (aD (v:=zB (decide (0<=n))) (aG ?_));obtain rfl:=zI hm
 exact bH (bI results72 rfl ⟨rfl,p⟩)
theorem aDK {spec made:cI} {c d:(List Int)} {R:Int} (hm:aEX spec made c d=some R) (hs:aJ G K (L) w) (Z:cF K a1 c2 spec.L) (h6:cF K a4 c5 spec.E) (h9:cF K a7 c8 made.L) (a3:cF K a10 c11 made.E) (b3:cF K a13 c14 c) (b4:cF K a16 c17 d):
  Calls prog 55 ([zA (zCa spec a1 c2 a4 c5),zA (zCa made a7 c8 a10 c11),zS a13 c.length c14,zS a16 d.length c17]:List Value).toArray w (eH fun v w'=>v=i64 R/\aJ G K (L) w'):=by
 let e:=(zC made a7 c8 a10 c11)
 let k:=(zC spec a1 c2 a4 c5)
 refine aS func55 rfl (by kernel_rfl) (by show (4:Nat)<=33;decide) ?_;unfold aEX at hm
 refine aK (fJ (v:=zA (zCa spec a1 c2 a4 c5)) (vs:=k) hs rfl rfl (fun a f4 b5=>(fJ (v:=zA (zCa made a7 c8 a10 c11)) (vs:=e) b5 rfl rfl (fun a5 f5 a6=>(aD (v:=i64 0) (aG (aO (aK (aC (dI (us:=e) cV a6 (i:=0) rfl rfl rfl rfl) (aF (v:=zS a16 d.length c17) ?_))))))))));obtain ⟨q,b6,hm⟩:=aB hm
 refine aR (vs:=[zA (zCa made a7 c8 a10 c11),zS a16 d.length c17]) call73 rfl (nA b6 a6 h9 a3 b4) ?_
 rintro _ f6 ⟨a8,a9,rfl,b7⟩
 refine aC (bO (len:=q.length) cC rfl) (aF (v:=i64 0) (aG (aW [] (fun f w=>aAa=some R/\aJ G K (L) w) ?_ ?_)))
 ·rintro f f7 ⟨hm,b8⟩
  unfold aAa at hm
  refine aA (aK (aD (v:=i64 (-1)) (aG ?_)));obtain rfl:=zI hm
  exact bH (bI results55 rfl ⟨rfl,b8⟩)
 obtain ⟨f8,c0,ho⟩:=aB hm
 refine dM [2,4,5,15,16] c0 (fun r f w=>f 17=i64 r/\aJ G K (aN 2 K a8 a9 q::box a5 27 e::box a 27 k::L) w) ?_ ?_
 ·exact ⟨rfl,b7⟩
 ·rintro r f9 f g0 hm hr ⟨u,g⟩
  unfold aGa at hm
  refine aK (aC (cG u rfl) (aG (aO ?_)))
  rcases aH hm with ⟨x,hm⟩|⟨x,hm⟩
  ·refine aL x rfl (aU (aA (aO (cN (aK ?_)))));obtain ⟨b,y,hm⟩:=aB hm
   have c1:=cX g (i:=0) rfl y
   refine aC (dD cC rfl c1 rfl rfl u y) (aC (gX (t:=0) cQ g (i:=0) rfl y rfl rfl rfl) (aD (v:=i64 b) (aG (aK (aC (dI (us:=e) cV g (i:=1) rfl rfl rfl rfl) (aF (v:=i64 b) ?_))))));obtain ⟨l,c3,hm⟩:=aB hm
   refine aR (vs:=[zA (zCa made a7 c8 a10 c11),i64 b]) call59 rfl (gG c3 g h9 a3) ?_
   rintro _ g1 ⟨m,n,rfl,c4⟩
   refine bZ (vs:=[zS none 0 0]) zeroValue24 c4 rfl (fun h g2 c6=>(cA (i:=0) (ns:=[zS m l.length n]) (us:=[zS m l.length n]) sizeOf24 c6 rfl rfl rfl rfl rfl (cY rfl) rfl rfl (fun c7 (b0:aJ G K (box h 24 [zS m l.length n]::aN 9 K m n l::aN 2 K a8 a9 q::box a5 27 e::box a 27 k::L) c7)=>(aG (aK (aC (nH (vs:=[zP (some ⟨a,0,none⟩),zP (some ⟨h,0,none⟩)]) rfl) (aD (v:=Value.func (.func 106) #[] #[zP (some ⟨a,0,none⟩),zP (some ⟨h,0,none⟩)]) (aG (aK (aC (dI (us:=k) cV b0 (i:=4) rfl rfl rfl rfl) (aF (v:=zS a13 c.length c14) ?_)))))))))))
   obtain ⟨c9,d0,hm⟩:=aB hm
   refine aR (vs:=[zA (zCa spec a1 c2 a4 c5),zS a13 c.length c14]) call73 rfl (nA d0 b0 Z h6 b3) ?_
   rintro _ g3 ⟨d1,d2,rfl,d3⟩
   refine aF (v:=Value.func (.func 106) #[] #[zP (some ⟨a,0,none⟩),zP (some ⟨h,0,none⟩)]) ?_;obtain ⟨g4,z,d4,d5,d6⟩:=aJ.lendSp d3 (zR _) .head
   obtain ⟨g5,o,d7,d8,d9⟩:=aJ.lendBp d5 zt4
   obtain ⟨g6,p,e0,e1,e2⟩:=aJ.lendSp d8 (zL z o) zt1
   obtain ⟨g7,j,e3,e4,e5⟩:=aJ.lendBp e1 .head
   obtain ⟨g8,e6,hm⟩:=aB hm
   refine aR (vs:=[zS d1 c9.length d2,Value.func (.func 106) #[] #[cS (some ⟨a,0,none⟩) 0,cS (some ⟨h,0,none⟩) 0]]) call72 rfl (lO e6 e4 (d4.mono (zL (zL o p) j)) (d7.mono (zL p j)) (Z.mono (zL (zL (zL z o) p) j)) (h6.mono (zL (zL (zL z o) p) j)) e3 (e0.mono j)) ?_
   rintro _ g9 ⟨rfl,e7⟩
   have e8:=e5 _ _ e7
   have e9:=e2 _ _ e8
   have f0:=d9 _ _ e9
   have b1:=d6 _ _ f0
   refine aC (dE rfl) (aG ?_)
   rcases aH hm with ⟨V,hm⟩|⟨V,hm⟩
   ·refine aL V rfl (aK (aF (v:=i64 b) (aD (v:=i64 b) (aG (bH (bM (aQ (aQ ?_))))))))
    have f1:=hr _ (zI hm).symm
    subst f1
    have hm:(some b)=some R:=ho
    clear hr ho
    obtain rfl:=zI hm
    exact bM (aQ (aQ (bI results55 rfl ⟨rfl,(aJ.arr 6 [] b1 rfl)⟩)))
   ·exact aI V rfl (aU (aX (aA (aP (aC (cE u rfl) (aF (v:=i64 (wr (r+1))) (aG ⟨_,(zI hm).symm,aM,rfl,(aJ.arr 6 [4,5,1] b1 rfl)⟩)))))))
  ·refine aI x rfl (bV (aT (aT ?_)))
   have f3:=hr _ (zI hm).symm
   subst f3
   have hm:(aAa)=some R:=ho
   clear hr ho
   exact bJ (aA ⟨aM,hm,(aJ.arr 3 [] g rfl)⟩)
theorem jK {a:(List (List aZ))} {R:(List aZ)} (hm:fQ a=some R) (hs:aJ G K (L) w) (j:cF K a1 c2 a):
  Calls prog 57 ([zS a1 a.length c2]:List Value).toArray w (eH fun v w'=>∃ a2 a3,v=zS a2 R.length a3/\aJ G K (aN 9 K a2 a3 R::L) w'):=by
 refine aS func57 rfl (by kernel_rfl) (by show (1:Nat)<=36;decide) ?_;unfold fQ at hm
 refine aK (aD (v:=zS none 0 0) (aG (aK (aD (v:=i64 0) (aG (aO (aK (aF (v:=zS a1 a.length c2) (aC (bO (len:=a.length) iR rfl) (aF (v:=i64 0) (aG (aW [0] (fun f w=>∃ k,eX a k=some R/\f 3=i64 k/\aJ G K (L) w) ?_ ?_))))))))))))
 ·rintro f w6 ⟨k,hm,e5,b8⟩
  unfold eX at hm
  refine aA (aK (aY e5 ?_));obtain ⟨r8,q9,hm⟩:=aB hm
  refine aR (vs:=[zS none 0 0,i64 k]) call113 rfl (lib_GrowStr b8 (jW (α:=aZ) _) q9) ?_
  rintro _ e2 ⟨a4,a5,rfl,c1⟩
  refine aD (v:=zS a4 r8.length a5) (aG (aO (aK (aF (v:=zS a1 a.length c2) (aC (bO (len:=a.length) iR rfl) (aF (v:=i64 0) (aG (aW [] (fun f w=>∃ d e g,eW d=some R/\f 6=zS e d.length g/\aJ G K (aN 9 K e g d::L) w) ?_ ?_))))))))
  ·rintro f e3 ⟨d,e,g,hm,c3,c4⟩
   unfold eW at hm
   refine aA (aK (aY c3 (aD (v:=zS e d.length g) (aG ?_))));obtain rfl:=zI hm
   exact bH (bI results57 rfl ⟨e,g,rfl,c4⟩)
  obtain ⟨e4,c6,ho⟩:=aB hm
  refine cJ [25,26] c6 (fun h o f w=>∃ l m,f 6=zS l h.length m/\f 27=i64 o/\aJ G K (aN 9 K l m h::L) w) ?_ ?_
  ·exact ⟨a4,a5,rfl,rfl,c1⟩
  ·rintro h o e6 f e7 hm hr ⟨l,m,a6,p,q⟩
   unfold kE at hm
   refine aK (aC (cG p rfl) (aG (aO ?_)))
   rcases aH hm with ⟨r,hm⟩|⟨r,hm⟩
   ·refine aL r rfl (aU (aA (aO (cN (aK ?_)))));obtain ⟨a7,a8,hm⟩:=aB hm
    refine aC (cT iR rfl j rfl rfl p a8) ?_;obtain ⟨e8,c7,c8⟩:=cF.el (sz:=1) rfl j a8
    obtain ⟨a9,b0,rfl,c9⟩:=c8
    refine aC (bG (t:=0) eR q c7 rfl rfl) (aD (v:=zS a9 a7.length b0) (aG (aP (aY a6 (aF (v:=zS a9 a7.length b0) ?_)))));obtain ⟨b1,d0,hm⟩:=aB hm
    exact kP (i:=0) bX underlying24 iA rfl rfl q rfl (zR _) c9 d0 rfl rfl rfl rfl (fun u x d1 (d2:aJ G K (aN 9 K u x b1::L) d1)=>(aD (v:=zS u b1.length x) (bB (aX (aA (aP (aC (cE p rfl) (aF (v:=i64 (wr (o+1))) (aG ⟨_,(zI hm).symm,aM,u,x,rfl,rfl,d2⟩)))))))))
   ·refine aI r rfl (bV (aT (aT ?_)))
    have d3:=hr _ (zI hm).symm
    subst d3
    have hm:(eW h)=some R:=ho
    clear hr ho
    exact bJ (aA ⟨aM,h,l,m,hm,a6,q⟩)
 obtain ⟨e9,d4,ho⟩:=aB hm
 refine cJ [0,9,10] d4 (fun b n f w=>f 3=i64 b/\f 11=i64 n/\aJ G K (L) w) ?_ ?_
 ·exact ⟨rfl,rfl,hs⟩
 ·rintro b n d5 f f0 hm hr ⟨b2,y,z⟩
  unfold kF at hm
  refine aK (aC (cG y rfl) (aG (aO ?_)))
  rcases aH hm with ⟨V,hm⟩|⟨V,hm⟩
  ·refine aL V rfl (aU (aA (aO (aW [0,9,10,11] (fun f w=>∃ Z,gT n Z=some d5/\f 3=i64 Z/\aJ G K (L) w) ?_ ?_))))
   ·rintro f f1 ⟨Z,hm,d6,d7⟩
    unfold gT at hm
    exact aA (aP (aC (cE y rfl) (aF (v:=i64 (wr (n+1))) (aG ⟨_,(zI hm).symm,aM,d6,rfl,d7⟩))))
   refine aK ?_;obtain ⟨c,b3,hm⟩:=aB hm
   refine aC (cT iR rfl j rfl rfl y b3) ?_;obtain ⟨f2,d8,d9⟩:=cF.el (sz:=1) rfl j b3
   obtain ⟨b4,b5,rfl,f3⟩:=d9
   refine aC (bG (t:=0) eR z d8 rfl rfl) (aD (v:=zS b4 c.length b5) (aG (aK (aY b2 (aF (v:=zS b4 c.length b5) (aC (bO (len:=c.length) bX rfl) (aC (cE rfl rfl) (aD (v:=i64 (wr (b+(c.length:Int)))) (aG (aK (aF (v:=i64 (wr (b+(c.length:Int)))) (aC (cG rfl rfl) (aG ?_)))))))))))))
   rcases aH hm with ⟨a0,hm⟩|⟨a0,hm⟩
   ·refine aL a0 rfl (aP ?_)
    cases hm
   ·exact aI a0 rfl (aU (aX (aA ⟨aM,wr (b+(c.length:Int)),hm,rfl,z⟩)))
  ·refine aI V rfl (bV (aT (aT ?_)))
   have e0:=hr _ (zI hm).symm
   subst e0
   have hm:(eX a b)=some R:=ho
   clear hr ho
   exact bJ (aA ⟨aM,b,hm,b2,z⟩)
theorem aCJ {p q:Int} {c:cI} {l:Nat} {d:cI} {m:Nat} {i:(List (List Int))} {n:Nat} {j:(List (List Int))} {o:Nat} {R:Bool} (hm:vL p q c d i j=some R) (a:aJ G K (L) w) (z:eY K a1 l (zC c a4 c5 a7 c8)) (V:cF K a4 c5 c.L) (Z:cF K a7 c8 c.E) (a0:eY K a10 m (zC d a13 c14 a16 c17)) (a2:cF K a13 c14 d.L) (a3:cF K a16 c17 d.E) (a5:eY K a19 n [zS a22 i.length c23]) (r:cF K a22 c23 i) (a6:eY K a25 o [zS a28 j.length c29]) (u:cF K a28 c29 j):
  Calls prog 54 ([i64 p,i64 q,cS a1 l,cS a10 m,cS a19 n,cS a25 o]:List Value).toArray w (eH fun v w'=>v=zB R/\aJ G K (L) w'):=by
 refine aS func54 rfl (by kernel_rfl) (by show (6:Nat)<=29;decide) ?_;unfold vL at hm
 refine aK (aD (v:=zB false) (aG (aO (cP [] (fun f w=>∃ k,kL k=some R/\f 8=zB k/\aJ G K (L) w) ?_ ?_))))
 ·rintro f c7 ⟨k,hm,a8,a9⟩
  unfold kL at hm
  refine aA ?_;obtain rfl:=zI hm
  exact bH (bI results54 rfl ⟨a8,a9⟩)
 refine dO (C:=fun w'=>aJ G K (L) w') bY (by kernel_rfl) (aJ.mono a (dK.drew _)) (bD (fun _ a=>bA (v:=i64 q) rfl) (bD (fun _ a=>nG rfl rfl) (bD (fun _ a=>bA (v:=zB (decide (0<=q))) rfl) ?_)))
 rcases aH hm with ⟨e,hm⟩|⟨e,hm⟩
 ·refine bW (g:=11) rfl rfl e (bD (fun _ a=>bA (v:=i64 p) rfl) (bW (g:=11) rfl rfl e (bD (fun _ a=>cG rfl rfl) (bW (g:=11) rfl rfl e (bD (fun _ a=>bA (v:=zB (decide (p < 0))) rfl) ?_)))))
  rcases aH hm with ⟨b,hm⟩|⟨b,hm⟩
  ·exact bE (g:=14) rfl rfl (cD b) (bE (g:=14) rfl rfl (cD b) (bE (g:=14) rfl rfl (cD b) (bE (g:=14) rfl rfl (cD b) (bE (g:=14) rfl rfl (cD b) (bE (g:=14) rfl rfl (cD b) (bE (g:=14) rfl rfl (cD b) (bE (g:=14) rfl rfl (cD b) (bE (g:=14) rfl rfl (cD b) (bE (g:=14) rfl rfl (cD b) (bE (g:=14) rfl rfl (cD b) (bE (g:=14) rfl rfl (cD b) (bW (g:=11) rfl rfl e (bD (fun _ a=>bL (v:=zB true) b rfl rfl) (bD (fun _ a=>bL (v:=zB true) e rfl rfl) (bD (fun _ a=>cZ (v:=zB true) rfl) (dS (fun c9 b1=>(aA ⟨aM,true,hm,rfl,b1⟩))))))))))))))))))
  ·refine bW (g:=14) rfl rfl (cH b) (bD (fun _ a=>eI (t:=0) (vs:=(zC c a4 c5 a7 c8)) cV a z rfl rfl rfl) (bW (g:=14) rfl rfl (cH b) (bD (fun _ a=>eI (t:=0) (vs:=(zC d a13 c14 a16 c17)) cV a a0 rfl rfl rfl) (bW (g:=14) rfl rfl (cH b) (bD (fun _ a=>bG (t:=0) aEz a a5 rfl rfl) (bW (g:=14) rfl rfl (cH b) (bD (fun _ a=>bA (v:=i64 p) rfl) (bW (g:=14) rfl rfl (cH b) ?_))))))));obtain ⟨b2,x,hm⟩:=aB hm
   refine bD (fun _ a=>cT kU rfl r rfl rfl rfl x) ?_;obtain ⟨d0,b3,b4⟩:=cF.el (sz:=1) rfl r x
   obtain ⟨b5,c48,rfl,b6⟩:=b4
   refine bW (g:=14) rfl rfl (cH b) (bD (fun _ a=>bG (t:=0) aEx a b3 rfl rfl) (bW (g:=14) rfl rfl (cH b) (bD (fun _ a=>bG (t:=0) aEz a a6 rfl rfl) (bW (g:=14) rfl rfl (cH b) (bD (fun _ a=>bA (v:=i64 q) rfl) (bW (g:=14) rfl rfl (cH b) ?_))))));obtain ⟨b7,y,hm⟩:=aB hm
   refine bD (fun _ a=>cT kU rfl u rfl rfl rfl y) ?_;obtain ⟨d1,b8,b9⟩:=cF.el (sz:=1) rfl u y
   obtain ⟨c0,c1,rfl,c2⟩:=b9
   refine bW (g:=14) rfl rfl (cH b) (bD (fun _ a=>bG (t:=0) aEx a b8 rfl rfl) (bW (g:=14) rfl rfl (cH b) ?_));obtain ⟨h,c3,hm⟩:=aB hm
   exact lU (vs:=[zA (zCa c a4 c5 a7 c8),zA (zCa d a13 c14 a16 c17),zS b5 b2.length c48,zS c0 b7.length c1]) (v:=i64 h) call55 rfl (fun _ a=>(aDK c3 a V Z a2 a3 b6 c2)) (bW (g:=14) rfl rfl (cH b) (bD (fun _ a=>nG rfl rfl) (bW (g:=11) rfl rfl e (bD (fun _ a=>bP (v:=zB (decide (0<=h))) b rfl rfl) (bD (fun _ a=>bL (v:=zB (decide (0<=h))) e rfl rfl) (bD (fun _ a=>cZ (v:=zB (decide (0<=h))) rfl) (dS (fun d2 c4=>(aA ⟨aM,decide (0<=h),hm,rfl,c4⟩)))))))))
 ·exact bE (g:=11) rfl rfl (dL e) (bE (g:=11) rfl rfl (dL e) (bE (g:=11) rfl rfl (dL e) (cO (g:=14) rfl rfl (cO (g:=14) rfl rfl (cO (g:=14) rfl rfl (cO (g:=14) rfl rfl (cO (g:=14) rfl rfl (cO (g:=14) rfl rfl (cO (g:=14) rfl rfl (cO (g:=14) rfl rfl (cO (g:=14) rfl rfl (cO (g:=14) rfl rfl (cO (g:=14) rfl rfl (cO (g:=14) rfl rfl (bE (g:=11) rfl rfl (dL e) (bD (fun _ a=>bP (v:=zB false) e rfl rfl) (bD (fun _ a=>cZ (v:=zB false) rfl) (dS (fun d3 c6=>(aA ⟨aM,false,hm,rfl,c6⟩))))))))))))))))))))
theorem aFb {a b b7:cI} {e7:Nat} {b8:cI} {e8:Nat} {g4:(List (List Int))} {e9:Nat} {g5:(List (List Int))} {f0:Nat} {R:((List aZ) × Bool)} (hm:aBb a b b7 b8 g4 g5=some R) (hs:aJ G K (L) w) (h3:cF K a1 c2 a.L) (h6:cF K a4 c5 a.E) (h9:cF K a7 c8 b.L) (j0:cF K a10 c11 b.E) (r4:eY K a13 e7 (zC b7 a16 c17 a19 c20)) (r5:cF K a16 c17 b7.L) (r6:cF K a19 c20 b7.E) (r7:eY K a22 e8 (zC b8 a25 c26 a28 c29)) (r8:cF K a25 c26 b8.L) (r9:cF K a28 c29 b8.E) (s0:eY K a31 e9 [zS a34 g4.length c35]) (s1:cF K a34 c35 g4) (s2:eY K a37 f0 [zS a40 g5.length c41]) (s3:cF K a40 c41 g5):
  Calls prog 53 ([zA (zCa a a1 c2 a4 c5),zA (zCa b a7 c8 a10 c11),Value.func (.func 54) #[] #[cS a13 e7,cS a22 e8,cS a31 e9,cS a37 f0]]:List Value).toArray w (eH fun v w'=>∃ K' n7 n8,v=Value.tuple #[zS n7 R.1.length n8,zB R.2]/\Hp.le K K'/\cF K' n7 n8 R.1/\aJ G K' (L) w'):=by
 let n9:=(zC b a7 c8 a10 c11)
 let o0:=(zC a a1 c2 a4 c5)
 let o1:=[i64 a.I,i64 b.I,zS none 0 0]
 refine aS func53 rfl (by kernel_rfl) (by show (3:Nat)<=96;decide) ?_;unfold aBb at hm
 refine aK (fJ (v:=zA (zCa a a1 c2 a4 c5)) (vs:=o0) hs rfl rfl (fun b43 s4 s5=>?_));obtain ⟨s6,p,f1,j2,_⟩:=aJ.lendBp s5 .head
 replace j2:aJ G s6 (L) s4:=j2
 refine fJ (v:=zA (zCa b a7 c8 a10 c11)) (vs:=n9) j2 rfl rfl (fun b50 s7 s8=>?_);obtain ⟨a8,e,f2,f3,_⟩:=aJ.lendBp s8 .head
 replace f3:aJ G a8 (L) s7:=f3
 refine aD (v:=zS none 0 0) (aD (v:=zB false) (aG (aK (aC (bU (k':=0+2) eU (gY rfl) (f1.mono e) rfl) (aC (bG (t:=2) eR f3 (f1.mono e) rfl rfl) (aC (bU (k':=0+2) eU (gY rfl) f2 rfl) (aC (bG (t:=2) eR f3 f2 rfl rfl) (cB (Kt:=a8) (xs:=([a.L,b.L]:List (List aZ))) (cs:=[zS a1 a.L.length c2,zS a7 b.L.length c8]) (vs:=[(0,zS a1 a.L.length c2),(1,zS a7 b.L.length c8)]) iR aEA rfl rfl f3 rfl (by kernel_rfl) rfl rfl rfl ⟨⟨a1,c2,rfl,(h3.mono (zL p e))⟩,⟨a7,c8,rfl,(h9.mono (zL p e))⟩,trivial⟩ (fun f4 s9 (t0:aJ G a8 (aN 24 a8 f4 2 ([a.L,b.L]:List (List aZ))::L) s9)=>?_)))))))))
 obtain ⟨K60,a53,t1,t2,t3⟩:=aJ.lendSp t0 (zR _) .head
 obtain ⟨g7,t4,hm⟩:=aB hm
 refine aR (vs:=[zS f4 ([a.L,b.L]:List (List aZ)).length 2]) call57 rfl (jK t4 t2 t1) ?_
 rintro _ w69 ⟨g8,g9,rfl,t5⟩
 have t6:=t3 _ _ t5
 obtain ⟨K72,a56,t7,t8,t9⟩:=aJ.lendSp t6 (zL p e) zt1
 obtain ⟨h0,u0,hm⟩:=aB hm
 have hcl:=tE u0 t8 t7 (jW (α:=oT) _)
 refine aR (vs:=[i64 1,i64 0,zS g8 g7.length g9,zS none 0 0]) call56 rfl hcl ?_
 rintro _ u1 ⟨o2,o3,j3,j4,rfl,u2⟩
 have o4:=t9 _ _ u2
 refine aC (aQV (v:=zS o2 h0.L.length o3) aRb rfl rfl) ?_;obtain ⟨l,o5,hm⟩:=aB hm
 have u3:=kO o4 (i:=1) rfl
 obtain ⟨n,o,o6⟩:=Cut.ex 1 o2 o3 1
 refine aC (qF bX u3 o6 rfl rfl rfl o5) ?_
 have u4:aJ G a8 (aN 9 K g8 g9 g7::aN 9 K n o l::aN 66 K j3 j4 h0.E::aN 24 a8 f4 2 ([a.L,b.L]:List (List aZ))::L) u1:=aJ.cutP o4 (i:=1) rfl o5 o6
 refine aD (v:=zS n l.length o) (aG (aK (aIC (Int × Int) Bool u4 ?_)))
 intro m u5 (j5:aJ G a8 (kQ m ([]:(List ((Int × Int) × Bool)))::aN 9 K g8 g9 g7::aN 9 K n o l::aN 66 K j3 j4 h0.E::aN 24 a8 f4 2 ([a.L,b.L]:List (List aZ))::L) u5)
 refine aD (v:=Value.map (some m)) (aG (aK (aC (bU (k':=0+1) mR (gY rfl) (f1.mono e) rfl) (aC (bG (t:=1) cQ j5 (f1.mono e) rfl rfl) (aC (bU (k':=0+1) mR (gY rfl) f2 rfl) (aC (bG (t:=1) cQ j5 f2 rfl rfl) (aC (dF (vs:=[(0,i64 a.I),(1,i64 b.I),(2,zS none 0 0)]) (cs:=o1) aFT rfl (by kernel_rfl)) (cB (Kt:=a8) (xs:=([⟨a.I,b.I,[]⟩]:List bR)) (cs:=o1) (vs:=[(0,zA #[i64 a.I,i64 b.I,zS none 0 0])]) nJ yU rfl rfl j5 rfl (by kernel_rfl) rfl rfl rfl ⟨⟨none,0,rfl,jW _⟩,trivial⟩ ?_))))))))
 intro j6 u6 (u7:aJ G a8 (aN 62 a8 j6 1 ([⟨a.I,b.I,[]⟩]:List bR)::kQ m ([]:(List ((Int × Int) × Bool)))::aN 9 K g8 g9 g7::aN 9 K n o l::aN 66 K j3 j4 h0.E::aN 24 a8 f4 2 ([a.L,b.L]:List (List aZ))::L) u6)
 refine aD (v:=zS j6 ([⟨a.I,b.I,[]⟩]:List bR).length 1) (aG (aO (aW [] (fun f w=>∃ h1,Hp.le a8 h1/\pT=some R/\aJ G h1 (L) w) ?_ ?_)))
 ·rintro f a58 ⟨h1,u8,hm,u9⟩
  unfold pT at hm
  refine aA (aK (aD (v:=zS none 0 0) (aD (v:=zB false) (aG ?_))));obtain rfl:=zI hm
  exact bH (aIO results53 rfl rfl ⟨h1,none,0,rfl,(zL (zL p e) u8),jW _,u9⟩)
 obtain ⟨a59,v1,ho⟩:=aB hm
 refine cJ [2,3,4,8,9] v1 (fun a9 d3 f w=>∃ b1 d4 d5,Hp.le a8 b1/\f 10=zS d4 d3.length d5/\aJ G b1 (aN 62 b1 d4 d5 d3::kQ m a9::aN 9 K n o l::L) w) ?_ ?_
 ·exact ⟨a8,j6,1,(zR _),rfl,(aJ.arr 6 [0,1,3] u7 rfl)⟩
 ·rintro a9 d3 h2 f a60 hm hr ⟨b1,d4,d5,q,j7,h4⟩
  unfold aBB at hm
  refine aO (aK (aY j7 (aC (bO (len:=d3.length) nJ rfl) (aC (kC rfl rfl) (aG ?_)))))
  rcases aH hm with ⟨j8,hm⟩|⟨j8,hm⟩
  ·refine aL j8 rfl (aU (aA (aW [2,3,4,8,9] (fun f w=>∃ (f5:Hp) (j9:(List ((Int × Int) × Bool))) (h5:List bR) (h7:Option Addr) (h8:Nat),Hp.le b1 f5/\pU j9 h5=some h2/\f 10=zS h7 h5.length h8/\aJ G f5 (aN 62 f5 h7 h8 h5::kQ m j9::aN 9 K n o l::L) w) ?_ ?_)))
   ·rintro f a61 ⟨f5,j9,h5,h7,h8,v2,hm,v3,v4⟩
    unfold pU at hm
    exact aA ⟨_,(zI hm).symm,aM,f5,h7,h8,(zL q v2),v3,v4⟩
   refine aK (aY j7 ?_);obtain ⟨c,k0,hm⟩:=aB hm
   have v5:=cX h4 (i:=0) rfl k0
   refine aC (dD nJ rfl v5 rfl rfl rfl k0) ?_;obtain ⟨a62,v6,v7⟩:=aFi (sz:=3) rfl h4 (i:=0) rfl k0
   obtain ⟨b4,b5,rfl,f6⟩:=v7
   refine aC (R_ldCG (t:=0) (vs:=[i64 c.a,i64 c.b,zS b4 c.trace.length b5]) ag_62 v6 rfl rfl rfl) (bZ (vs:=[i64 0,i64 0,zS none 0 0]) zeroValue62 h4 rfl (fun v8 a63 v9=>(cA (i:=0) (ns:=[i64 c.a,i64 c.b,zS b4 c.trace.length b5]) (us:=[i64 c.a,i64 c.b,zS b4 c.trace.length b5]) sizeOf62 v9 rfl rfl rfl rfl rfl (cY rfl) rfl rfl (fun k1 (w0:aJ G b1 (box v8 62 [i64 c.a,i64 c.b,zS b4 c.trace.length b5]::aN 62 b1 d4 d5 d3::kQ m a9::aN 9 K n o l::L) k1)=>?_))))
   obtain ⟨b0,d,y,i0,_⟩:=aJ.lendBp w0 .head
   replace i0:aJ G b0 (aN 62 b1 d4 d5 d3::kQ m a9::aN 9 K n o l::L) k1:=i0
   refine aG (aK (aY j7 ?_));obtain ⟨b9,o7,hm⟩:=aB hm
   have w1:=aEv i0 (i:=0) rfl
   obtain ⟨c0,c1,o8⟩:=Cut.ex 3 d4 d5 1
   refine aC (qF nJ w1 o8 rfl rfl rfl o7) ?_
   have b3:aJ G b0 (aN 62 b1 c0 c1 b9::kQ m a9::aN 9 K n o l::L) k1:=aJ.cutPE i0 (i:=0) rfl o7 o8
   refine aD (v:=zS c0 b9.length c1) (aG (aO (aO (cP [2,3,4,8,9,10,11] (fun f w=>∃ k2,mD a b b7 b8 g4 g5 l a9 c b9 k2=some h2/\f 54=zB k2/\aJ G b0 (aN 62 b1 c0 c1 b9::kQ m a9::aN 9 K n o l::L) w) ?_ ?_))))
   ·rintro f w2 ⟨k2,hm,o9,i1⟩
    unfold mD at hm
    refine aA ?_
    rcases aH hm with ⟨k3,hm⟩|⟨k3,hm⟩
    ·refine aL k3 o9 ?_
     have w3:aJ G b0 (aN 62 b0 c0 c1 b9::kQ m a9::aN 9 K n o l::L) w2:=aJ.weak (i:=0) i1 rfl (fun _ h=>aN.mono d h)
     exact bV (aT (bJ (aA ⟨aM,b0,a9,b9,c0,c1,d,hm,rfl,w3⟩)))
    ·refine aI k3 o9 (aU (aA (aK (aF (v:=Value.map (some m)) (aC (bU (k':=0+0) aAV (gY rfl) y rfl) (aC (bG (t:=0) cQ i1 y rfl rfl) (aC (bU (k':=0+1) aCR (gY rfl) y rfl) (aC (bG (t:=1) cQ i1 y rfl rfl) (aC (aGN (vs:=[(0,i64 c.a),(1,i64 c.b)]) (cs:=[i64 c.a,i64 c.b]) ar_136 bz_136 rfl (by kernel_rfl)) ?_)))))))));obtain ⟨x,w4,hm⟩:=aB hm
     refine aID (i:=1) (k:=⟨c.a,c.b⟩) (v:=true) runUnderlying135 ko_136 i1 rfl rfl rfl rfl w4 (fun w5 (k4:aJ G b0 (aN 62 b1 c0 c1 b9::kQ m x::aN 9 K n o l::L) w5)=>(aG (aO (aK (aF (v:=Value.func (.func 54) #[] #[cS a13 e7,cS a22 e8,cS a31 e9,cS a37 f0]) (aC (bU (k':=0+0) aAV (gY rfl) y rfl) (aC (bG (t:=0) cQ k4 y rfl rfl) (aC (bU (k':=0+1) aCR (gY rfl) y rfl) (aC (bG (t:=1) cQ k4 y rfl rfl) ?_)))))))))
     obtain ⟨a64,w6,hm⟩:=aB hm
     refine kG (vs:=[i64 c.a,i64 c.b]) (caps:=[cS a13 e7,cS a22 e8,cS a31 e9,cS a37 f0]) (us:=[i64 c.a,i64 c.b,cS a13 e7,cS a22 e8,cS a31 e9,cS a37 f0]) rfl call54 rfl rfl (aCJ w6 k4 (r4.mono (zL (zL (zL p e) q) d)) (r5.mono (zL (zL (zL p e) q) d)) (r6.mono (zL (zL (zL p e) q) d)) (r7.mono (zL (zL (zL p e) q) d)) (r8.mono (zL (zL (zL p e) q) d)) (r9.mono (zL (zL (zL p e) q) d)) (s0.mono (zL (zL (zL p e) q) d)) (s1.mono (zL (zL (zL p e) q) d)) (s2.mono (zL (zL (zL p e) q) d)) (s3.mono (zL (zL (zL p e) q) d))) ?_
     rintro _ w7 ⟨rfl,k5⟩
     refine aG ?_
     rcases aH hm with ⟨k6,hm⟩|⟨k6,hm⟩
     ·refine aL k6 rfl (aK (aC (bU (k':=0+2) aEB (gY rfl) y rfl) (aC (bG (t:=2) eR k5 y rfl rfl) (aD (v:=zS b4 c.trace.length b5) (aD (v:=zB true) (aG (bH (aQ (bM (aQ (aQ ?_)))))))))))
      have w8:=hr _ (zI hm).symm
      subst w8
      have hm:(some (c.trace,true))=some R:=ho
      clear hr ho
      obtain rfl:=zI hm
      exact bM (aQ (aQ (aIO results53 rfl rfl ⟨b0,b4,b5,rfl,(zL (zL (zL p e) q) d),(f6.mono d),(aJ.arr 3 [] k5 rfl)⟩)))
     ·refine aI k6 rfl (aU (aA (aK (aF (v:=zS n l.length o) (aC (bO (len:=l.length) bX rfl) (aF (v:=i64 0) (aG (aW [2,3,4,8,9] (fun f w=>∃ f7 f8 i2 i3,Hp.le b0 f7/\pV x f8=some h2/\f 10=zS i2 f8.length i3/\aJ G f7 (aN 62 f7 i2 i3 f8::kQ m x::aN 9 K n o l::L) w) ?_ ?_))))))))
      ·rintro f a65 ⟨f7,f8,i2,i3,x0,hm,x1,x2⟩
       unfold pV at hm
       exact aX (aA ⟨aM,f7,x,f8,i2,i3,(zL d x0),hm,x1,x2⟩)
      have x3:aJ G b0 (aN 62 b0 c0 c1 b9::kQ m x::aN 9 K n o l::L) w7:=aJ.weak (i:=0) k5 rfl (fun _ h=>aN.mono d h)
      obtain ⟨a66,x4,ho⟩:=aB hm
      refine cJ [2,3,4,8,9,11,69,70] x4 (fun Z i4 f w=>∃ r a2 a3,Hp.le b0 r/\f 10=zS a2 Z.length a3/\f 71=i64 i4/\aJ G r (aN 62 r a2 a3 Z::kQ m x::aN 9 K n o l::L) w) ?_ ?_
      ·exact ⟨b0,c0,c1,(zR _),rfl,rfl,x3⟩
      ·rintro Z i4 x5 f a68 hm hr ⟨r,a2,a3,u,p0,k7,i5⟩
       unfold aBA at hm
       refine aK (aC (cG k7 rfl) (aG (aO ?_)))
       rcases aH hm with ⟨k8,hm⟩|⟨k8,hm⟩
       ·refine aL k8 rfl (aU (aA (aO (cN (aK ?_)))));obtain ⟨V,k9,hm⟩:=aB hm
        have x6:=cX i5 (i:=2) rfl k9
        refine aC (dD bX rfl x6 rfl rfl k7 k9) (aC (gX (t:=0) lF i5 (i:=2) rfl k9 rfl rfl rfl) (aD (v:=str V) (aG (cP [2,3,4,8,9,11,69,70,71] (fun f w=>∃ f9 i6 i7 i8,Hp.le r f9/\vM i4 i6=some x5/\f 10=zS i7 i6.length i8/\aJ G f9 (aN 62 f9 i7 i8 i6::kQ m x::aN 9 K n o l::L) w) ?_ ?_))))
        ·rintro f a69 ⟨f9,i6,i7,i8,x7,hm,x8,x9⟩
         unfold vM at hm
         exact aX (aA (aP (aC (cE k7 rfl) (aF (v:=i64 (wr (i4+1))) (aG ⟨_,(zI hm).symm,aM,f9,i7,i8,(zL u x7),x8,rfl,x9⟩)))))
        refine xJ (C:=fun w'=>∃ L',aJ G r L' w') [] bY (by kernel_rfl) (fun a70 y0=>?_)
        have a0:=aJ.mono i5 y0
        refine dZ (i:=0) rfl (by kernel_rfl) ⟨_,a0⟩ (fun _ _=>bA p0) (dZ (i:=1) rfl (by kernel_rfl) ⟨_,a0⟩ (fun _ ⟨_,a0⟩=>eI (t:=0) (vs:=o0) cV a0 (f1.mono (zL (zL (zL e q) d) u)) (gY rfl) rfl rfl) (dZ (i:=2) rfl (by kernel_rfl) ⟨_,a0⟩ (fun _ _=>bU (k':=0+0) aAV (gY rfl) (y.mono u) rfl) (dZ (i:=3) rfl (by kernel_rfl) ⟨_,a0⟩ (fun _ ⟨_,a0⟩=>bG (t:=0) cQ a0 (y.mono u) rfl rfl) (dZ (i:=4) rfl (by kernel_rfl) ⟨_,a0⟩ (fun _ _=>bA (v:=str V) rfl) (dZ (i:=6) rfl (by kernel_rfl) ⟨_,a0⟩ (fun _ ⟨_,a0⟩=>eI (t:=0) (vs:=n9) cV a0 (f2.mono (zL (zL q d) u)) (gY rfl) rfl rfl) (dZ (i:=7) rfl (by kernel_rfl) ⟨_,a0⟩ (fun _ _=>bU (k':=0+1) aCR (gY rfl) (y.mono u) rfl) (dZ (i:=8) rfl (by kernel_rfl) ⟨_,a0⟩ (fun _ ⟨_,a0⟩=>bG (t:=1) cQ a0 (y.mono u) rfl rfl) (dZ (i:=9) rfl (by kernel_rfl) ⟨_,a0⟩ (fun _ _=>bA (v:=str V) rfl) (dZ (i:=11) rfl (by kernel_rfl) ⟨_,a0⟩ (fun _ _=>bU (k':=0+2) aEB (gY rfl) (y.mono u) rfl) (dZ (i:=12) rfl (by kernel_rfl) ⟨_,a0⟩ (fun _ ⟨_,a0⟩=>bG (t:=2) eR a0 (y.mono u) rfl rfl) (dZ (i:=14) rfl (by kernel_rfl) ⟨_,a0⟩ (fun _ _=>bA (v:=str V) rfl) (lV (i:=5) (j:=15) (by kernel_rfl) rfl rfl ?_ ?_))))))))))))
        ·obtain ⟨a5,y1,hm⟩:=aB hm
         refine aR (vs:=[zA (zCa a a1 c2 a4 c5),i64 c.a,str V]) call105 rfl (mF y1 a0 (h3.mono (zL (zL (zL (zL p e) q) d) u)) (h6.mono (zL (zL (zL (zL p e) q) d) u))) ?_
         rintro _ a71 ⟨rfl,l0⟩
         refine bB (aA ⟨fun _=>⟨_,l0⟩,?_⟩)
         refine lV (i:=10) (j:=15) (by kernel_rfl) rfl rfl ?_ ?_
         ·obtain ⟨b2,y2,hm⟩:=aB hm
          refine aR (vs:=[zA (zCa b a7 c8 a10 c11),i64 c.b,str V]) call105 rfl (mF y2 l0 (h9.mono (zL (zL (zL (zL p e) q) d) u)) (j0.mono (zL (zL (zL (zL p e) q) d) u))) ?_
          rintro _ a72 ⟨rfl,l1⟩
          refine bB (aA ⟨fun _=>⟨_,l1⟩,?_⟩)
          refine lV (i:=13) (j:=15) (by kernel_rfl) rfl rfl ?_ ?_
          ·obtain ⟨y3,y4,hm⟩:=aB hm
           refine aR (vs:=[zS b4 c.trace.length b5]) call30 rfl (dA y4 l1 (f6.mono (zL d u))) ?_
           rintro _ a73 ⟨y5,y6,rfl,p1⟩
           refine bB (aA ⟨fun _=>⟨_,p1⟩,?_⟩)
           refine cK (i:=15) (by kernel_rfl) rfl (cB (Kt:=K) (xs:=([V]:List aZ)) (cs:=[str V]) (vs:=[(0,str V)]) bX iA rfl rfl p1 rfl (by kernel_rfl) rfl rfl rfl ⟨rfl,trivial⟩ (fun y7 y8 (p2:aJ G r (aN 9 K y7 1 ([V]:List aZ)::aN 9 K y5 y6 y3::aN 62 r a2 a3 Z::kQ m x::aN 9 K n o l::L) y8)=>(bB (aA ⟨fun _=>⟨_,p2⟩,?_⟩))))
           refine cK (i:=16) (by kernel_rfl) rfl ?_;obtain ⟨c9,y9,hm⟩:=aB hm
           refine dG (i:=0) bX underlying24 iA rfl rfl p2 rfl (zL (zL (zL (zL p e) q) d) u) (zL (zL (zL (zL p e) q) d) u) y9 rfl rfl rfl rfl (fun _ h=>h) (fun d6 d7 p3 (l2:aJ G r (aN 9 K d6 d7 c9::aN 62 r a2 a3 Z::kQ m x::aN 9 K n o l::L) p3)=>(bB (aA ⟨fun _=>⟨_,l2⟩,?_⟩)))
           refine dZ (i:=17) rfl (by kernel_rfl) ⟨_,l2⟩ (fun _ _=>dF (vs:=[(0,i64 a5),(1,i64 b2),(2,zS d6 c9.length d7)]) (cs:=[i64 a5,i64 b2,zS d6 c9.length d7]) aFT rfl (by kernel_rfl)) (cK (i:=18) (by kernel_rfl) rfl ?_);obtain ⟨c3,g0,z0,l3⟩:=aJ.giveSp l2 (zL (zL (zL (zL p e) q) d) u) .head
           replace l3:aJ G c3 (aN 62 r a2 a3 Z::kQ m x::aN 9 K n o l::L) p3:=l3
           refine cB (Kt:=c3) (xs:=([⟨a5,b2,c9⟩]:List bR)) (cs:=[i64 a5,i64 b2,zS d6 c9.length d7]) (vs:=[(0,zA #[i64 a5,i64 b2,zS d6 c9.length d7])]) nJ yU rfl rfl l3 rfl (by kernel_rfl) rfl rfl rfl ⟨⟨d6,d7,rfl,z0⟩,trivial⟩ (fun z1 z2 (p4:aJ G c3 (aN 62 c3 z1 1 ([⟨a5,b2,c9⟩]:List bR)::aN 62 r a2 a3 Z::kQ m x::aN 9 K n o l::L) z2)=>(bB (aA ⟨fun _=>⟨_,(aJ.weakK p4 g0)⟩,?_⟩)))
           refine cK (i:=19) (by kernel_rfl) rfl ?_;obtain ⟨l4,z3,hm⟩:=aB hm
           refine tH (i:=0) c3 nJ underlying63 yU rfl rfl p4 rfl g0 (zR _) z3 rfl rfl rfl rfl (fun _ _ _ h=>El.one h) (fun l5 l6 z4 (l7:aJ G c3 (aN 62 c3 l5 l6 l4::kQ m x::aN 9 K n o l::L) z4)=>(bB (aA ⟨fun _=>⟨_,(aJ.weakK l7 g0)⟩,?_⟩)))
           exact dZ (i:=20) rfl (by kernel_rfl) ⟨_,(aJ.weakK l7 g0)⟩ (fun _ _=>cZ (v:=zS l5 l4.length l6) rfl) (gU (by kernel_rfl) (aA ⟨aM,c3,l4,l5,l6,g0,hm,rfl,l7⟩))
          ·refine cB (Kt:=K) (xs:=([V]:List aZ)) (cs:=[str V]) (vs:=[(0,str V)]) bX iA rfl rfl l1 rfl (by kernel_rfl) rfl rfl rfl ⟨rfl,trivial⟩ (fun p5 z5 (p6:aJ G r (aN 9 K p5 1 ([V]:List aZ)::aN 62 r a2 a3 Z::kQ m x::aN 9 K n o l::L) z5)=>(bB (aA ⟨fun _=>⟨_,p6⟩,?_⟩)))
           refine cK (i:=13) (by kernel_rfl) rfl ?_;obtain ⟨z6,z7,hm⟩:=aB hm
           refine aR (vs:=[zS b4 c.trace.length b5]) call30 rfl (dA z7 p6 (f6.mono (zL d u))) ?_
           rintro _ z8 ⟨z9,a00,rfl,p7⟩
           refine bB (aA ⟨fun _=>⟨_,p7⟩,?_⟩)
           refine cK (i:=16) (by kernel_rfl) rfl ?_;obtain ⟨d0,a01,hm⟩:=aB hm
           have a02:aJ G r (aN 9 K p5 1 ([V]:List aZ)::aN 9 K z9 a00 z6::aN 62 r a2 a3 Z::kQ m x::aN 9 K n o l::L) z8:=(aJ.arr 2 [1,0] p7 rfl)
           refine dG (i:=0) bX underlying24 iA rfl rfl a02 rfl (zL (zL (zL (zL p e) q) d) u) (zL (zL (zL (zL p e) q) d) u) a01 rfl rfl rfl rfl (fun _ h=>h) (fun d8 d9 p8 (l8:aJ G r (aN 9 K d8 d9 d0::aN 62 r a2 a3 Z::kQ m x::aN 9 K n o l::L) p8)=>(bB (aA ⟨fun _=>⟨_,l8⟩,?_⟩)))
           refine dZ (i:=17) rfl (by kernel_rfl) ⟨_,l8⟩ (fun _ _=>dF (vs:=[(0,i64 a5),(1,i64 b2),(2,zS d8 d0.length d9)]) (cs:=[i64 a5,i64 b2,zS d8 d0.length d9]) aFT rfl (by kernel_rfl)) (cK (i:=18) (by kernel_rfl) rfl ?_);obtain ⟨c4,g1,a03,l9⟩:=aJ.giveSp l8 (zL (zL (zL (zL p e) q) d) u) .head
           replace l9:aJ G c4 (aN 62 r a2 a3 Z::kQ m x::aN 9 K n o l::L) p8:=l9
           refine cB (Kt:=c4) (xs:=([⟨a5,b2,d0⟩]:List bR)) (cs:=[i64 a5,i64 b2,zS d8 d0.length d9]) (vs:=[(0,zA #[i64 a5,i64 b2,zS d8 d0.length d9])]) nJ yU rfl rfl l9 rfl (by kernel_rfl) rfl rfl rfl ⟨⟨d8,d9,rfl,a03⟩,trivial⟩ (fun a04 a05 (p9:aJ G c4 (aN 62 c4 a04 1 ([⟨a5,b2,d0⟩]:List bR)::aN 62 r a2 a3 Z::kQ m x::aN 9 K n o l::L) a05)=>(bB (aA ⟨fun _=>⟨_,(aJ.weakK p9 g1)⟩,?_⟩)))
           refine cK (i:=19) (by kernel_rfl) rfl ?_;obtain ⟨m0,a06,hm⟩:=aB hm
           refine tH (i:=0) c4 nJ underlying63 yU rfl rfl p9 rfl g1 (zR _) a06 rfl rfl rfl rfl (fun _ _ _ h=>El.one h) (fun m1 m2 a07 (m3:aJ G c4 (aN 62 c4 m1 m2 m0::kQ m x::aN 9 K n o l::L) a07)=>(bB (aA ⟨fun _=>⟨_,(aJ.weakK m3 g1)⟩,?_⟩)))
           exact dZ (i:=20) rfl (by kernel_rfl) ⟨_,(aJ.weakK m3 g1)⟩ (fun _ _=>cZ (v:=zS m1 m0.length m2) rfl) (gU (by kernel_rfl) (aA ⟨aM,c4,m0,m1,m2,g1,hm,rfl,m3⟩))
         ·refine cB (Kt:=K) (xs:=([V]:List aZ)) (cs:=[str V]) (vs:=[(0,str V)]) bX iA rfl rfl l0 rfl (by kernel_rfl) rfl rfl rfl ⟨rfl,trivial⟩ (fun q0 a08 (q1:aJ G r (aN 9 K q0 1 ([V]:List aZ)::aN 62 r a2 a3 Z::kQ m x::aN 9 K n o l::L) a08)=>(bB (aA ⟨fun _=>⟨_,q1⟩,?_⟩)))
          refine cK (i:=10) (by kernel_rfl) rfl ?_;obtain ⟨e0,a09,hm⟩:=aB hm
          refine aR (vs:=[zA (zCa b a7 c8 a10 c11),i64 c.b,str V]) call105 rfl (mF a09 q1 (h9.mono (zL (zL (zL (zL p e) q) d) u)) (j0.mono (zL (zL (zL (zL p e) q) d) u))) ?_
          rintro _ a74 ⟨rfl,q2⟩
          refine bB (aA ⟨fun _=>⟨_,q2⟩,?_⟩)
          refine cK (i:=13) (by kernel_rfl) rfl ?_;obtain ⟨a11,a12,hm⟩:=aB hm
          refine aR (vs:=[zS b4 c.trace.length b5]) call30 rfl (dA a12 q2 (f6.mono (zL d u))) ?_
          rintro _ a14 ⟨a15,a17,rfl,q3⟩
          refine bB (aA ⟨fun _=>⟨_,q3⟩,?_⟩)
          refine cK (i:=16) (by kernel_rfl) rfl ?_;obtain ⟨d1,a18,hm⟩:=aB hm
          have a20:aJ G r (aN 9 K q0 1 ([V]:List aZ)::aN 9 K a15 a17 a11::aN 62 r a2 a3 Z::kQ m x::aN 9 K n o l::L) a14:=(aJ.arr 2 [1,0] q3 rfl)
          refine dG (i:=0) bX underlying24 iA rfl rfl a20 rfl (zL (zL (zL (zL p e) q) d) u) (zL (zL (zL (zL p e) q) d) u) a18 rfl rfl rfl rfl (fun _ h=>h) (fun e1 e2 q4 (m4:aJ G r (aN 9 K e1 e2 d1::aN 62 r a2 a3 Z::kQ m x::aN 9 K n o l::L) q4)=>(bB (aA ⟨fun _=>⟨_,m4⟩,?_⟩)))
          refine dZ (i:=17) rfl (by kernel_rfl) ⟨_,m4⟩ (fun _ _=>dF (vs:=[(0,i64 a5),(1,i64 e0),(2,zS e1 d1.length e2)]) (cs:=[i64 a5,i64 e0,zS e1 d1.length e2]) aFT rfl (by kernel_rfl)) (cK (i:=18) (by kernel_rfl) rfl ?_);obtain ⟨c6,g2,a21,m5⟩:=aJ.giveSp m4 (zL (zL (zL (zL p e) q) d) u) .head
          replace m5:aJ G c6 (aN 62 r a2 a3 Z::kQ m x::aN 9 K n o l::L) q4:=m5
          refine cB (Kt:=c6) (xs:=([⟨a5,e0,d1⟩]:List bR)) (cs:=[i64 a5,i64 e0,zS e1 d1.length e2]) (vs:=[(0,zA #[i64 a5,i64 e0,zS e1 d1.length e2])]) nJ yU rfl rfl m5 rfl (by kernel_rfl) rfl rfl rfl ⟨⟨e1,e2,rfl,a21⟩,trivial⟩ (fun a23 a24 (q5:aJ G c6 (aN 62 c6 a23 1 ([⟨a5,e0,d1⟩]:List bR)::aN 62 r a2 a3 Z::kQ m x::aN 9 K n o l::L) a24)=>(bB (aA ⟨fun _=>⟨_,(aJ.weakK q5 g2)⟩,?_⟩)))
          refine cK (i:=19) (by kernel_rfl) rfl ?_;obtain ⟨m6,a26,hm⟩:=aB hm
          refine tH (i:=0) c6 nJ underlying63 yU rfl rfl q5 rfl g2 (zR _) a26 rfl rfl rfl rfl (fun _ _ _ h=>El.one h) (fun m7 m8 a27 (m9:aJ G c6 (aN 62 c6 m7 m8 m6::kQ m x::aN 9 K n o l::L) a27)=>(bB (aA ⟨fun _=>⟨_,(aJ.weakK m9 g2)⟩,?_⟩)))
          exact dZ (i:=20) rfl (by kernel_rfl) ⟨_,(aJ.weakK m9 g2)⟩ (fun _ _=>cZ (v:=zS m7 m6.length m8) rfl) (gU (by kernel_rfl) (aA ⟨aM,c6,m6,m7,m8,g2,hm,rfl,m9⟩))
        ·refine cB (Kt:=K) (xs:=([V]:List aZ)) (cs:=[str V]) (vs:=[(0,str V)]) bX iA rfl rfl a0 rfl (by kernel_rfl) rfl rfl rfl ⟨rfl,trivial⟩ (fun q6 a29 (q7:aJ G r (aN 9 K q6 1 ([V]:List aZ)::aN 62 r a2 a3 Z::kQ m x::aN 9 K n o l::L) a29)=>(bB (aA ⟨fun _=>⟨_,q7⟩,?_⟩)))
         refine cK (i:=5) (by kernel_rfl) rfl ?_;obtain ⟨e3,a30,hm⟩:=aB hm
         refine aR (vs:=[zA (zCa a a1 c2 a4 c5),i64 c.a,str V]) call105 rfl (mF a30 q7 (h3.mono (zL (zL (zL (zL p e) q) d) u)) (h6.mono (zL (zL (zL (zL p e) q) d) u))) ?_
         rintro _ a75 ⟨rfl,q8⟩
         refine bB (aA ⟨fun _=>⟨_,q8⟩,?_⟩)
         refine cK (i:=10) (by kernel_rfl) rfl ?_;obtain ⟨e4,a32,hm⟩:=aB hm
         refine aR (vs:=[zA (zCa b a7 c8 a10 c11),i64 c.b,str V]) call105 rfl (mF a32 q8 (h9.mono (zL (zL (zL (zL p e) q) d) u)) (j0.mono (zL (zL (zL (zL p e) q) d) u))) ?_
         rintro _ a76 ⟨rfl,q9⟩
         refine bB (aA ⟨fun _=>⟨_,q9⟩,?_⟩)
         refine cK (i:=13) (by kernel_rfl) rfl ?_;obtain ⟨a33,a35,hm⟩:=aB hm
         refine aR (vs:=[zS b4 c.trace.length b5]) call30 rfl (dA a35 q9 (f6.mono (zL d u))) ?_
         rintro _ a36 ⟨a38,a39,rfl,r0⟩
         refine bB (aA ⟨fun _=>⟨_,r0⟩,?_⟩)
         refine cK (i:=16) (by kernel_rfl) rfl ?_;obtain ⟨d2,a41,hm⟩:=aB hm
         have a42:aJ G r (aN 9 K q6 1 ([V]:List aZ)::aN 9 K a38 a39 a33::aN 62 r a2 a3 Z::kQ m x::aN 9 K n o l::L) a36:=(aJ.arr 2 [1,0] r0 rfl)
         refine dG (i:=0) bX underlying24 iA rfl rfl a42 rfl (zL (zL (zL (zL p e) q) d) u) (zL (zL (zL (zL p e) q) d) u) a41 rfl rfl rfl rfl (fun _ h=>h) (fun e5 e6 r1 (n0:aJ G r (aN 9 K e5 e6 d2::aN 62 r a2 a3 Z::kQ m x::aN 9 K n o l::L) r1)=>(bB (aA ⟨fun _=>⟨_,n0⟩,?_⟩)))
         refine dZ (i:=17) rfl (by kernel_rfl) ⟨_,n0⟩ (fun _ _=>dF (vs:=[(0,i64 e3),(1,i64 e4),(2,zS e5 d2.length e6)]) (cs:=[i64 e3,i64 e4,zS e5 d2.length e6]) aFT rfl (by kernel_rfl)) (cK (i:=18) (by kernel_rfl) rfl ?_);obtain ⟨c7,g3,a43,n1⟩:=aJ.giveSp n0 (zL (zL (zL (zL p e) q) d) u) .head
         replace n1:aJ G c7 (aN 62 r a2 a3 Z::kQ m x::aN 9 K n o l::L) r1:=n1
         refine cB (Kt:=c7) (xs:=([⟨e3,e4,d2⟩]:List bR)) (cs:=[i64 e3,i64 e4,zS e5 d2.length e6]) (vs:=[(0,zA #[i64 e3,i64 e4,zS e5 d2.length e6])]) nJ yU rfl rfl n1 rfl (by kernel_rfl) rfl rfl rfl ⟨⟨e5,e6,rfl,a43⟩,trivial⟩ (fun a44 a45 (r2:aJ G c7 (aN 62 c7 a44 1 ([⟨e3,e4,d2⟩]:List bR)::aN 62 r a2 a3 Z::kQ m x::aN 9 K n o l::L) a45)=>(bB (aA ⟨fun _=>⟨_,(aJ.weakK r2 g3)⟩,?_⟩)))
         refine cK (i:=19) (by kernel_rfl) rfl ?_;obtain ⟨n2,a46,hm⟩:=aB hm
         refine tH (i:=0) c7 nJ underlying63 yU rfl rfl r2 rfl g3 (zR _) a46 rfl rfl rfl rfl (fun _ _ _ h=>El.one h) (fun n3 n4 a47 (n5:aJ G c7 (aN 62 c7 n3 n4 n2::kQ m x::aN 9 K n o l::L) a47)=>(bB (aA ⟨fun _=>⟨_,(aJ.weakK n5 g3)⟩,?_⟩)))
         exact dZ (i:=20) rfl (by kernel_rfl) ⟨_,(aJ.weakK n5 g3)⟩ (fun _ _=>cZ (v:=zS n3 n2.length n4) rfl) (gU (by kernel_rfl) (aA ⟨aM,c7,n2,n3,n4,g3,hm,rfl,n5⟩))
       ·refine aI k8 rfl (bV (aT (aT ?_)))
        have a48:=hr _ (zI hm).symm
        subst a48
        have hm:(pV x Z)=some h2:=ho
        clear hr ho
        exact bJ (aA ⟨aM,r,Z,a2,a3,u,hm,p0,i5⟩)
   refine aP (aC (bU (k':=0+0) aAV (gY rfl) y rfl) (aC (bG (t:=0) cQ b3 y rfl rfl) (aC (cG rfl rfl) (aF (v:=zB (decide (c.a < 0))) ?_))))
   rcases aH hm with ⟨b6,hm⟩|⟨b6,hm⟩
   ·refine bF b6 rfl rfl (aC (bU (k':=0+1) aCR (gY rfl) y rfl) (bF b6 rfl rfl (aC (bG (t:=1) cQ b3 y rfl rfl) (bF b6 rfl rfl (aC (cG rfl rfl) (aC (bL (v:=zB (decide (c.b < 0))) b6 rfl rfl) (aF (v:=zB (decide (c.b < 0))) ?_)))))))
    rcases aH hm with ⟨a6,hm⟩|⟨a6,hm⟩
    ·exact bC a6 rfl rfl (bC a6 rfl rfl (bC a6 rfl rfl (bC a6 rfl rfl (bC a6 rfl rfl (bC a6 rfl rfl (bC a6 rfl rfl (aC (bL (v:=zB true) a6 rfl rfl) (aG ⟨aM,true,hm,rfl,b3⟩))))))))
    ·exact bK a6 rfl rfl (aF (v:=Value.map (some m)) (bK a6 rfl rfl (aC (bU (k':=0+0) aAV (gY rfl) y rfl) (bK a6 rfl rfl (aC (bG (t:=0) cQ b3 y rfl rfl) (bK a6 rfl rfl (aC (bU (k':=0+1) aCR (gY rfl) y rfl) (bK a6 rfl rfl (aC (bG (t:=1) cQ b3 y rfl rfl) (bK a6 rfl rfl (aC (aGN (vs:=[(0,i64 c.a),(1,i64 c.b)]) (cs:=[i64 c.a,i64 c.b]) ar_136 bz_136 rfl (by kernel_rfl)) (bK a6 rfl rfl (aC (R_look1 (kv:=a9) (k:=⟨c.a,c.b⟩) (z:=(false:Bool)) runUnderlying135 ko_136 zeroValue4 b3 (i:=1) rfl rfl rfl) (aC (bP (v:=zB ((qO a9 ⟨c.a,c.b⟩).getD false)) a6 rfl rfl) (aG ⟨aM,((qO a9 ⟨c.a,c.b⟩).getD false),hm,rfl,b3⟩)))))))))))))))
   ·exact aV b6 rfl rfl (aV b6 rfl rfl (aV b6 rfl rfl (aC (bP (v:=zB false) b6 rfl rfl) (aF (v:=zB false) (bK (by decide:¬ false=true) rfl rfl (aF (v:=Value.map (some m)) (bK (by decide:¬ false=true) rfl rfl (aC (bU (k':=0+0) aAV (gY rfl) y rfl) (bK (by decide:¬ false=true) rfl rfl (aC (bG (t:=0) cQ b3 y rfl rfl) (bK (by decide:¬ false=true) rfl rfl (aC (bU (k':=0+1) aCR (gY rfl) y rfl) (bK (by decide:¬ false=true) rfl rfl (aC (bG (t:=1) cQ b3 y rfl rfl) (bK (by decide:¬ false=true) rfl rfl (aC (aGN (vs:=[(0,i64 c.a),(1,i64 c.b)]) (cs:=[i64 c.a,i64 c.b]) ar_136 bz_136 rfl (by kernel_rfl)) (bK (by decide:¬ false=true) rfl rfl (aC (R_look1 (kv:=a9) (k:=⟨c.a,c.b⟩) (z:=(false:Bool)) runUnderlying135 ko_136 zeroValue4 b3 (i:=1) rfl rfl rfl) (aC (bP (v:=zB ((qO a9 ⟨c.a,c.b⟩).getD false)) (by decide:¬ false=true) rfl rfl) (aG ⟨aM,((qO a9 ⟨c.a,c.b⟩).getD false),hm,rfl,b3⟩))))))))))))))))))))
  ·refine aI j8 rfl (bV (aT (aT ?_)))
   have a49:=hr _ (zI hm).symm
   subst a49
   have hm:(pT)=some R:=ho
   clear hr ho
   exact bJ (aA ⟨aM,b1,q,hm,(aJ.arr 3 [] h4 rfl)⟩)
end Gv
namespace Gv
open Go.Value renaming slice→zS,bool→zB,pointer→zP,agg→zA,tuple→zT
open Option.some renaming inj→zI
open Gv.Hp renaming le_trans→zL,le_refl→zR
open Go Go.Proofs Go.Proofs.Tryz
set_option maxRecDepth 20000
set_option maxHeartbeats 40000000
variable {G:qN} {K:Hp} {L:List gH} {w:World} {a1 a4 a7 a10:Option Addr} {c2 c5 c8 c11:Nat}
theorem aFc {spec made:cI} {R:(Bool × (List aZ) × (List aZ) × Bool)} (hm:aBc spec made=some R) (hs:aJ G K (L) w) (hG:G.lo=0) (h3:cF K a1 c2 spec.L) (h6:cF K a4 c5 spec.E) (h9:cF K a7 c8 made.L) (d6:cF K a10 c11 made.E):
  Calls prog 21 ([zA (zCa spec a1 c2 a4 c5),zA (zCa made a7 c8 a10 c11)]:List Value).toArray w (eH fun v w'=>∃ K' h7 h8 i0 i1,v=zT #[zB R.1,zS h7 R.2.1.length h8,zS i0 R.2.2.1.length i1,zB R.2.2.2]/\Hp.le K K'/\cF K' h7 h8 R.2.1/\cF K' i0 i1 R.2.2.1/\aJ G K' (L) w'):=by
 let b2:=(zC made a7 c8 a10 c11)
 let b6:=(zC spec a1 c2 a4 c5)
 refine aS func21 rfl (by kernel_rfl) (by show (2:Nat)<=75;decide) ?_;unfold aBc at hm
 refine aK (fJ (v:=zA (zCa spec a1 c2 a4 c5)) (vs:=b6) hs rfl rfl (fun c3 s5 k3=>(fJ (v:=zA (zCa made a7 c8 a10 c11)) (vs:=b2) k3 rfl rfl (fun b9 s6 i2=>(aD (v:=zB false) (aD (v:=zS none 0 0) (aD (v:=zS none 0 0) (aD (v:=zB false) (aG (aK (aC (dI (us:=b6) cV i2 (i:=1) rfl rfl rfl rfl) ?_)))))))))));obtain ⟨c,k4,hm⟩:=aB hm
 refine aR (vs:=[zA (zCa spec a1 c2 a4 c5)]) call52 rfl (mA k4 i2 hG h3 h6) ?_
 rintro _ s7 ⟨b7,V,Z,y,z,a5,a6,rfl,m,k5⟩
 refine aF (v:=zT #[zA (zCa c.1 V Z y z),zS a5 c.2.1.length a6,zB c.2.2]) (aC (bS rfl rfl) (aC (bS rfl rfl) (aC (bS rfl rfl) (bZ (vs:=zG) zeroValue27 k5 rfl (fun b0 s8 k6=>(bZ (vs:=[zS none 0 0]) zeroValue46 k6 rfl (fun b4 s9 k7=>(cA (i:=1) (ns:=(zC c.1 V Z y z)) (us:=(zC c.1 V Z y z)) sizeOf27 k7 rfl rfl rfl rfl rfl (cY rfl) rfl rfl (fun k8 (k9:aJ G b7 (box b4 46 [zS none 0 0]::box b0 27 (zC c.1 V Z y z)::aN 9 K V Z c.1.L::aN 66 K y z c.1.E::aN 56 b7 a5 a6 c.2.1::box b9 27 b2::box c3 27 b6::L) k8)=>(cA (i:=0) (ns:=[zS a5 c.2.1.length a6]) (us:=[zS a5 c.2.1.length a6]) sizeOf46 k9 rfl rfl rfl rfl rfl (cY rfl) rfl rfl (fun l0 (i3:aJ G b7 (box b4 46 [zS a5 c.2.1.length a6]::box b0 27 (zC c.1 V Z y z)::aN 9 K V Z c.1.L::aN 66 K y z c.1.E::aN 56 b7 a5 a6 c.2.1::box b9 27 b2::box c3 27 b6::L) l0)=>(aD (v:=zB c.2.2) (aG (aK (aC (dI (us:=b2) cV i3 (i:=5) rfl rfl rfl rfl) ?_)))))))))))))))
 obtain ⟨d,l1,hm⟩:=aB hm
 refine aR (vs:=[zA (zCa made a7 c8 a10 c11)]) call52 rfl (mA l1 i3 hG (h9.mono m) (d6.mono m)) ?_
 rintro _ t0 ⟨b3,a2,a3,a0,c48,a8,a9,rfl,n,l2⟩
 refine aF (v:=zT #[zA (zCa d.1 a2 a3 a0 c48),zS a8 d.2.1.length a9,zB d.2.2]) (aC (bS rfl rfl) (aC (bS rfl rfl) (aC (bS rfl rfl) (bZ (vs:=zG) zeroValue27 l2 rfl (fun b1 t1 l3=>(bZ (vs:=[zS none 0 0]) zeroValue46 l3 rfl (fun b5 t2 l4=>(cA (i:=1) (ns:=(zC d.1 a2 a3 a0 c48)) (us:=(zC d.1 a2 a3 a0 c48)) sizeOf27 l4 rfl rfl rfl rfl rfl (cY rfl) rfl rfl (fun l5 (l6:aJ G b3 (box b5 46 [zS none 0 0]::box b1 27 (zC d.1 a2 a3 a0 c48)::aN 9 K a2 a3 d.1.L::aN 66 K a0 c48 d.1.E::aN 56 b3 a8 a9 d.2.1::box b4 46 [zS a5 c.2.1.length a6]::box b0 27 (zC c.1 V Z y z)::aN 9 K V Z c.1.L::aN 66 K y z c.1.E::aN 56 b7 a5 a6 c.2.1::box b9 27 b2::box c3 27 b6::L) l5)=>(cA (i:=0) (ns:=[zS a8 d.2.1.length a9]) (us:=[zS a8 d.2.1.length a9]) sizeOf46 l6 rfl rfl rfl rfl rfl (cY rfl) rfl rfl (fun l7 (i4:aJ G b3 (box b5 46 [zS a8 d.2.1.length a9]::box b1 27 (zC d.1 a2 a3 a0 c48)::aN 9 K a2 a3 d.1.L::aN 66 K a0 c48 d.1.E::aN 56 b3 a8 a9 d.2.1::box b4 46 [zS a5 c.2.1.length a6]::box b0 27 (zC c.1 V Z y z)::aN 9 K V Z c.1.L::aN 66 K y z c.1.E::aN 56 b7 a5 a6 c.2.1::box b9 27 b2::box c3 27 b6::L) l7)=>(aD (v:=zB d.2.2) (aG (aO (aO (cP [2,3,8,9,11,12] (fun f w=>∃ f2,pW spec made c d f2=some R/\f 36=zB f2/\aJ G b3 (box b5 46 [zS a8 d.2.1.length a9]::box b1 27 (zC d.1 a2 a3 a0 c48)::aN 9 K a2 a3 d.1.L::aN 66 K a0 c48 d.1.E::aN 56 b3 a8 a9 d.2.1::box b4 46 [zS a5 c.2.1.length a6]::box b0 27 (zC c.1 V Z y z)::aN 9 K V Z c.1.L::aN 66 K y z c.1.E::aN 56 b7 a5 a6 c.2.1::box b9 27 b2::box c3 27 b6::L) w) ?_ ?_))))))))))))))))
 ·rintro f c4 ⟨f2,hm,i5,e5⟩
  unfold pW at hm
  refine aA ?_
  rcases aH hm with ⟨f3,hm⟩|⟨f3,hm⟩
  ·refine aL f3 i5 (aK (aD (v:=zB false) (aD (v:=zS none 0 0) (aD (v:=zS none 0 0) (aD (v:=zB false) (aG ?_))))));obtain rfl:=zI hm
   exact bH (aQ (xQ results21 rfl rfl rfl rfl ⟨b3,none,0,none,0,rfl,(zL m n),jW _,jW _,(aJ.arr 12 [] e5 rfl)⟩))
  ·refine aI f3 i5 (aU (aA (aK (aC (dI (us:=(zC c.1 V Z y z)) cV e5 (i:=6) rfl rfl rfl rfl) (aC (dI (us:=(zC d.1 a2 a3 a0 c48)) cV e5 (i:=1) rfl rfl rfl rfl) (aC (nH (vs:=[zP (some ⟨c3,0,none⟩),zP (some ⟨b9,0,none⟩),zP (some ⟨b4,0,none⟩),zP (some ⟨b5,0,none⟩)]) rfl) ?_))))));obtain ⟨l9,p,m0,f4⟩:=aJ.giveSp e5 (zL m n) zt7
   replace f4:aJ G l9 (box b5 46 [zS a8 d.2.1.length a9]::box b1 27 (zC d.1 a2 a3 a0 c48)::aN 9 K a2 a3 d.1.L::aN 66 K a0 c48 d.1.E::aN 56 b3 a8 a9 d.2.1::box b4 46 [zS a5 c.2.1.length a6]::box b0 27 (zC c.1 V Z y z)::aN 66 K y z c.1.E::aN 56 b7 a5 a6 c.2.1::box b9 27 b2::box c3 27 b6::L) c4:=f4
   obtain ⟨m1,q,m2,f5⟩:=aJ.giveSp f4 (zL (zL m n) p) zt7
   replace f5:aJ G m1 (box b5 46 [zS a8 d.2.1.length a9]::box b1 27 (zC d.1 a2 a3 a0 c48)::aN 9 K a2 a3 d.1.L::aN 66 K a0 c48 d.1.E::aN 56 b3 a8 a9 d.2.1::box b4 46 [zS a5 c.2.1.length a6]::box b0 27 (zC c.1 V Z y z)::aN 56 b7 a5 a6 c.2.1::box b9 27 b2::box c3 27 b6::L) c4:=f5
   obtain ⟨m3,r,m4,f6⟩:=aJ.giveSp f5 (zL (zL (zL m n) p) q) zt2
   replace f6:aJ G m3 (box b5 46 [zS a8 d.2.1.length a9]::box b1 27 (zC d.1 a2 a3 a0 c48)::aN 66 K a0 c48 d.1.E::aN 56 b3 a8 a9 d.2.1::box b4 46 [zS a5 c.2.1.length a6]::box b0 27 (zC c.1 V Z y z)::aN 56 b7 a5 a6 c.2.1::box b9 27 b2::box c3 27 b6::L) c4:=f6
   obtain ⟨m5,u,m6,f7⟩:=aJ.giveSp f6 (zL (zL (zL (zL m n) p) q) r) zt2
   replace f7:aJ G m5 (box b5 46 [zS a8 d.2.1.length a9]::box b1 27 (zC d.1 a2 a3 a0 c48)::aN 56 b3 a8 a9 d.2.1::box b4 46 [zS a5 c.2.1.length a6]::box b0 27 (zC c.1 V Z y z)::aN 56 b7 a5 a6 c.2.1::box b9 27 b2::box c3 27 b6::L) c4:=f7
   obtain ⟨m7,o,d7,f8,_⟩:=aJ.lendBp f7 zt7
   replace f8:aJ G m7 (box b5 46 [zS a8 d.2.1.length a9]::box b1 27 (zC d.1 a2 a3 a0 c48)::aN 56 b3 a8 a9 d.2.1::box b4 46 [zS a5 c.2.1.length a6]::box b0 27 (zC c.1 V Z y z)::aN 56 b7 a5 a6 c.2.1::box b9 27 b2::L) c4:=f8
   obtain ⟨m8,l,d4,f9,_⟩:=aJ.lendBp f8 zt6
   replace f9:aJ G m8 (box b5 46 [zS a8 d.2.1.length a9]::box b1 27 (zC d.1 a2 a3 a0 c48)::aN 56 b3 a8 a9 d.2.1::box b4 46 [zS a5 c.2.1.length a6]::box b0 27 (zC c.1 V Z y z)::aN 56 b7 a5 a6 c.2.1::L) c4:=f9
   obtain ⟨m9,k,n0,g0⟩:=aJ.giveSp f9 (zL (zL (zL (zL (zL (zL n p) q) r) u) o) l) zt5
   replace g0:aJ G m9 (box b5 46 [zS a8 d.2.1.length a9]::box b1 27 (zC d.1 a2 a3 a0 c48)::aN 56 b3 a8 a9 d.2.1::box b4 46 [zS a5 c.2.1.length a6]::box b0 27 (zC c.1 V Z y z)::L) c4:=g0
   obtain ⟨n1,h,n2,g1,_⟩:=aJ.lendBp g0 zt3
   replace g1:aJ G n1 (box b5 46 [zS a8 d.2.1.length a9]::box b1 27 (zC d.1 a2 a3 a0 c48)::aN 56 b3 a8 a9 d.2.1::box b0 27 (zC c.1 V Z y z)::L) c4:=g1
   obtain ⟨n3,j,n4,g2⟩:=aJ.giveSp g1 (zL (zL (zL (zL (zL (zL (zL p q) r) u) o) l) k) h) zt2
   replace g2:aJ G n3 (box b5 46 [zS a8 d.2.1.length a9]::box b1 27 (zC d.1 a2 a3 a0 c48)::box b0 27 (zC c.1 V Z y z)::L) c4:=g2
   obtain ⟨n5,e,n6,g3,_⟩:=aJ.lendBp g2 .head
   replace g3:aJ G n5 (box b1 27 (zC d.1 a2 a3 a0 c48)::box b0 27 (zC c.1 V Z y z)::L) c4:=g3
   obtain ⟨b8,n7,hm⟩:=aB hm
   refine aR (vs:=[zA (zCa c.1 V Z y z),zA (zCa d.1 a2 a3 a0 c48),Value.func (.func 54) #[] #[cS (some ⟨c3,0,none⟩) 0,cS (some ⟨b9,0,none⟩) 0,cS (some ⟨b4,0,none⟩) 0,cS (some ⟨b5,0,none⟩) 0]]) call53 rfl (aFb (a:=⟨c.1.N,c.1.I,c.1.L,c.1.E⟩) (b:=⟨d.1.N,d.1.I,d.1.L,d.1.E⟩) n7 g3 (m0.mono (zL (zL (zL (zL (zL (zL (zL (zL q r) u) o) l) k) h) j) e)) (m2.mono (zL (zL (zL (zL (zL (zL (zL r u) o) l) k) h) j) e)) (m4.mono (zL (zL (zL (zL (zL (zL u o) l) k) h) j) e)) (m6.mono (zL (zL (zL (zL (zL o l) k) h) j) e)) (d7.mono (zL (zL (zL (zL l k) h) j) e)) (h3.mono (zL (zL (zL (zL (zL (zL (zL (zL (zL (zL (zL m n) p) q) r) u) o) l) k) h) j) e)) (h6.mono (zL (zL (zL (zL (zL (zL (zL (zL (zL (zL (zL m n) p) q) r) u) o) l) k) h) j) e)) (d4.mono (zL (zL (zL k h) j) e)) (h9.mono (zL (zL (zL (zL (zL (zL (zL (zL (zL (zL (zL m n) p) q) r) u) o) l) k) h) j) e)) (d6.mono (zL (zL (zL (zL (zL (zL (zL (zL (zL (zL (zL m n) p) q) r) u) o) l) k) h) j) e)) (n2.mono (zL j e)) (n0.mono (zL (zL h j) e)) n6 (n4.mono e)) ?_
   rintro _ t3 ⟨c6,c0,c1,rfl,x,e6,g4⟩
   refine aF (v:=zT #[zS c0 b8.1.length c1,zB b8.2]) (aC (bS rfl rfl) (aC (bS rfl rfl) (aD (v:=zS c0 b8.1.length c1) (aD (v:=zB b8.2) (aG (aO (aK (aF (v:=zB b8.2) (aC (dE rfl) (aG ?_))))))))))
   rcases aH hm with ⟨g5,hm⟩|⟨g5,hm⟩
   ·refine aL g5 rfl (aK (aD (v:=zB true) (aD (v:=zS none 0 0) (aD (v:=zS none 0 0) (aD (v:=zB true) (aG ?_))))));obtain rfl:=zI hm
    exact bH (aQ (xQ results21 rfl rfl rfl rfl ⟨c6,none,0,none,0,rfl,(zL (zL (zL (zL (zL (zL (zL (zL (zL (zL (zL (zL m n) p) q) r) u) o) l) k) h) j) e) x),jW _,jW _,(aJ.arr 2 [] g4 rfl)⟩))
   ·refine aI g5 rfl (aU (aA (aK (aC (eI (t:=0) (vs:=b6) cV g4 (d7.mono (zL (zL (zL (zL (zL l k) h) j) e) x)) (gY rfl) rfl rfl) (aF (v:=zS c0 b8.1.length c1) ?_)))));obtain ⟨c7,n9,hm⟩:=aB hm
    refine aR (vs:=[zA (zCa spec a1 c2 a4 c5),zS c0 b8.1.length c1]) call26 rfl (lM n9 g4 (h3.mono (zL (zL (zL (zL (zL (zL (zL (zL (zL (zL (zL (zL m n) p) q) r) u) o) l) k) h) j) e) x)) (h6.mono (zL (zL (zL (zL (zL (zL (zL (zL (zL (zL (zL (zL m n) p) q) r) u) o) l) k) h) j) e) x)) e6) ?_
    rintro _ t4 ⟨c9,d0,rfl,g6⟩
    refine aD (v:=zS c9 c7.length d0) (aG (aO (aK (aF (v:=zS c9 c7.length d0) (aC (bO (len:=c7.length) cC rfl) (aC (fA rfl rfl) (aG ?_)))))))
    rcases aH hm with ⟨g7,hm⟩|⟨g7,hm⟩
    ·refine aL g7 rfl (aK (aF (v:=zS c0 b8.1.length c1) (aD (v:=zB false) (aD (v:=zS c0 b8.1.length c1) (aD (v:=zS none 0 0) (aD (v:=zB true) (aG ?_)))))));obtain rfl:=zI hm
     exact bH (aQ (xQ results21 rfl rfl rfl rfl ⟨c6,c0,c1,none,0,rfl,(zL (zL (zL (zL (zL (zL (zL (zL (zL (zL (zL (zL m n) p) q) r) u) o) l) k) h) j) e) x),e6,jW _,(aJ.arr 3 [] g6 rfl)⟩))
    ·refine aI g7 rfl (aU (aA (aO (dT (C:=fun w'=>∃ L',aJ G c6 L' w') [(0,0),(1,0),(2,0),(3,0),(4,0),(5,1),(6,1),(7,0)] bY (by kernel_rfl) (fun _ hg=>⟨_,aJ.mono g6 hg⟩) (fun t5 o1=>?_)))))
     have d1:=aJ.mono g6 o1
     refine bQ rfl (fun _ ⟨_,d1⟩=>eI (t:=0) (vs:=b6) cV d1 (d7.mono (zL (zL (zL (zL (zL l k) h) j) e) x)) (gY rfl) rfl rfl) (bQ rfl (fun _ ⟨_,d1⟩=>eI (t:=0) (vs:=b2) cV d1 (d4.mono (zL (zL (zL (zL k h) j) e) x)) (gY rfl) rfl rfl) (bQ rfl (fun _ _=>bA (v:=zS c9 c7.length d0) rfl) (bQ rfl (fun _ ⟨_,d1⟩=>eI (t:=0) (vs:=b2) cV d1 (d4.mono (zL (zL (zL (zL k h) j) e) x)) (gY rfl) rfl rfl) (bQ rfl (fun _ _=>bA (v:=zS c0 b8.1.length c1) rfl) (jE rfl ?_)))))
     obtain ⟨e7,o2,hm⟩:=aB hm
     refine aR (vs:=[zA (zCa made a7 c8 a10 c11),zS c0 b8.1.length c1]) call26 rfl (lM o2 d1 (h9.mono (zL (zL (zL (zL (zL (zL (zL (zL (zL (zL (zL (zL m n) p) q) r) u) o) l) k) h) j) e) x)) (d6.mono (zL (zL (zL (zL (zL (zL (zL (zL (zL (zL (zL (zL m n) p) q) r) u) o) l) k) h) j) e) x)) e6) ?_
     rintro _ t6 ⟨e8,e9,rfl,i6⟩
     refine bB (aA ⟨⟨_,i6⟩,?_⟩)
     refine jE rfl ?_;obtain ⟨t7,d8,o3,o4,o5⟩:=aJ.lendSp i6 (zL (zL (zL (zL (zL (zL (zL (zL (zL (zL (zL (zL m n) p) q) r) u) o) l) k) h) j) e) x) zt1
     obtain ⟨t8,d9,o6,o7,o8⟩:=aJ.lendSp o4 (zL (zL (zL (zL (zL (zL (zL (zL (zL (zL (zL (zL (zL m n) p) q) r) u) o) l) k) h) j) e) x) d8) .head
     obtain ⟨g8,o9,hm⟩:=aB hm
     refine aR (vs:=[zA (zCa spec a1 c2 a4 c5),zA (zCa made a7 c8 a10 c11),zS c9 c7.length d0,zS e8 e7.length e9]) call55 rfl (aDK o9 o7 (h3.mono (zL (zL (zL (zL (zL (zL (zL (zL (zL (zL (zL (zL (zL (zL m n) p) q) r) u) o) l) k) h) j) e) x) d8) d9)) (h6.mono (zL (zL (zL (zL (zL (zL (zL (zL (zL (zL (zL (zL (zL (zL m n) p) q) r) u) o) l) k) h) j) e) x) d8) d9)) (h9.mono (zL (zL (zL (zL (zL (zL (zL (zL (zL (zL (zL (zL (zL (zL m n) p) q) r) u) o) l) k) h) j) e) x) d8) d9)) (d6.mono (zL (zL (zL (zL (zL (zL (zL (zL (zL (zL (zL (zL (zL (zL m n) p) q) r) u) o) l) k) h) j) e) x) d8) d9)) (o3.mono d9) o6) ?_
     rintro _ t9 ⟨rfl,p0⟩
     have p1:=o8 _ _ p0
     have f0:=o5 _ _ p1
     refine bB (aA ⟨⟨_,f0⟩,?_⟩)
     refine bQ rfl (fun _ _=>cZ (v:=i64 g8) rfl) (iO (aA (aK (aC (bU (k':=0+2) eU (gY rfl) (d7.mono (zL (zL (zL (zL (zL l k) h) j) e) x)) rfl) (aC (bG (t:=2) eR f0 (d7.mono (zL (zL (zL (zL (zL l k) h) j) e) x)) rfl rfl) (aC (bU (k':=0+2) eU (gY rfl) (d4.mono (zL (zL (zL (zL k h) j) e) x)) rfl) (aC (bG (t:=2) eR f0 (d4.mono (zL (zL (zL (zL k h) j) e) x)) rfl rfl) (cB (Kt:=c6) (xs:=([spec.L,made.L]:List (List aZ))) (cs:=[zS a1 spec.L.length c2,zS a7 made.L.length c8]) (vs:=[(0,zS a1 spec.L.length c2),(1,zS a7 made.L.length c8)]) iR aEA rfl rfl f0 rfl (by kernel_rfl) rfl rfl rfl ⟨⟨a1,c2,rfl,(h3.mono (zL (zL (zL (zL (zL (zL (zL (zL (zL (zL (zL (zL m n) p) q) r) u) o) l) k) h) j) e) x))⟩,⟨a7,c8,rfl,(h9.mono (zL (zL (zL (zL (zL (zL (zL (zL (zL (zL (zL (zL m n) p) q) r) u) o) l) k) h) j) e) x))⟩,trivial⟩ (fun f1 p2 (p3:aJ G c6 (aN 24 c6 f1 2 ([spec.L,made.L]:List (List aZ))::aN 2 K c9 d0 c7::aN 2 K e8 e9 e7::box b1 27 (zC d.1 a2 a3 a0 c48)::box b0 27 (zC c.1 V Z y z)::L) p2)=>?_)))))))))
     obtain ⟨u0,u1,p4,p5,p6⟩:=aJ.lendSp p3 (Hp.le_refl _) .head
     obtain ⟨g9,p7,hm⟩:=aB hm
     refine aR (vs:=[zS f1 ([spec.L,made.L]:List (List aZ)).length 2]) call57 rfl (jK p7 p5 p4) ?_
     rintro _ u2 ⟨h0,h1,rfl,p8⟩
     have p9:=p6 _ _ p8
     obtain ⟨u3,u4,q0,q1,q2⟩:=aJ.lendSp p9 (zL (zL (zL (zL (zL (zL (zL (zL (zL (zL (zL (zL m n) p) q) r) u) o) l) k) h) j) e) x) zt1
     obtain ⟨h2,q3,hm⟩:=aB hm
     have hcl:=tE q3 q1 q0 (jW (α:=oT) _)
     refine aR (vs:=[i64 1,i64 0,zS h0 g9.length h1,zS none 0 0]) call56 rfl hcl ?_
     rintro _ q4 ⟨i7,i8,i9,j0,rfl,q5⟩
     have j1:=q2 _ _ q5
     refine aC (aQV (v:=zS i7 h2.L.length i8) aRb rfl rfl) ?_;obtain ⟨e0,j2,hm⟩:=aB hm
     have q6:=kO j1 (i:=1) rfl
     obtain ⟨e1,e2,j3⟩:=Cut.ex 1 i7 i8 1
     refine aC (qF bX q6 j3 rfl rfl rfl j2) ?_
     have j4:aJ G c6 (aN 9 K h0 h1 g9::aN 9 K e1 e2 e0::aN 66 K i9 j0 h2.E::aN 24 c6 f1 2 ([spec.L,made.L]:List (List aZ))::aN 2 K c9 d0 c7::aN 2 K e8 e9 e7::box b1 27 (zC d.1 a2 a3 a0 c48)::box b0 27 (zC c.1 V Z y z)::L) q4:=aJ.cutP j1 (i:=1) rfl j2 j3
     refine aD (v:=zS e1 e0.length e2) (aG (aK (aF (v:=zS c0 b8.1.length c1) (aF (v:=zS e1 e0.length e2) (aC (eI (t:=0) (vs:=b2) cV j4 (d4.mono (zL (zL (zL (zL k h) j) e) x)) (gY rfl) rfl rfl) (aF (v:=i64 g8) ?_))))));obtain ⟨j5,q7,hm⟩:=aB hm
     refine aR (vs:=[zA (zCa made a7 c8 a10 c11),i64 g8]) call59 rfl (gG q7 j4 (h9.mono (zL (zL (zL (zL (zL (zL (zL (zL (zL (zL (zL (zL m n) p) q) r) u) o) l) k) h) j) e) x)) (d6.mono (zL (zL (zL (zL (zL (zL (zL (zL (zL (zL (zL (zL m n) p) q) r) u) o) l) k) h) j) e) x))) ?_
     rintro _ u5 ⟨j6,j7,rfl,q8⟩
     obtain ⟨u6,q9,r0,r1,r2⟩:=aJ.lendSp q8 (zL (zL (zL (zL (zL (zL (zL (zL (zL (zL (zL (zL m n) p) q) r) u) o) l) k) h) j) e) x) zt2
     obtain ⟨u7,r3,r4,r5,r6⟩:=aJ.lendSp r1 (zL (zL (zL (zL (zL (zL (zL (zL (zL (zL (zL (zL (zL m n) p) q) r) u) o) l) k) h) j) e) x) q9) .head
     obtain ⟨r7,r8,hm⟩:=aB hm
     refine aR (vs:=[zS e1 e0.length e2,zS j6 j5.length j7]) call58 rfl (sW r8 r5 (r0.mono r3) r4) ?_
     rintro _ r9 ⟨j8,j9,rfl,s0⟩
     have s1:=r6 _ _ s0
     have s2:=r2 _ _ s1
     refine aD (v:=zB false) (aD (v:=zS c0 b8.1.length c1) (aD (v:=zS j8 r7.length j9) (aD (v:=zB true) (aG ?_))));obtain ⟨k0,k1,s3,h4⟩:=aJ.giveSp s2 (zL (zL (zL (zL (zL (zL (zL (zL (zL (zL (zL (zL m n) p) q) r) u) o) l) k) h) j) e) x) zt2
     replace h4:aJ G k0 (aN 9 K e1 e2 e0::aN 9 K j6 j7 j5::aN 9 K h0 h1 g9::aN 66 K i9 j0 h2.E::aN 24 c6 f1 2 ([spec.L,made.L]:List (List aZ))::aN 2 K c9 d0 c7::aN 2 K e8 e9 e7::box b1 27 (zC d.1 a2 a3 a0 c48)::box b0 27 (zC c.1 V Z y z)::L) r9:=h4
     obtain rfl:=zI hm
     exact bH (xQ results21 rfl rfl rfl rfl ⟨k0,c0,c1,j8,j9,rfl,(zL (zL (zL (zL (zL (zL (zL (zL (zL (zL (zL (zL (zL m n) p) q) r) u) o) l) k) h) j) e) x) k1),(e6.mono k1),s3,(aJ.arr 9 [] h4 rfl)⟩)
 refine aP (aF (v:=zB c.2.2) (aC (dE rfl) (aF (v:=zB (!c.2.2)) ?_)))
 rcases aH hm with ⟨d2,hm⟩|⟨d2,hm⟩
 ·exact bC d2 rfl rfl (bC d2 rfl rfl (aC (bL (v:=zB true) d2 rfl rfl) (aG ⟨aM,true,hm,rfl,i4⟩)))
 ·exact bK d2 rfl rfl (aF (v:=zB d.2.2) (bK d2 rfl rfl (aC (dE rfl) (aC (bP (v:=zB (!d.2.2)) d2 rfl rfl) (aG ⟨aM,!d.2.2,hm,rfl,i4⟩)))))
theorem sX {spec made:cI} {R:(Bool × (List aZ) × (List aZ) × Int)} (hm:mZ spec made=some R) (z:aJ G K (L) w) (V:G.lo=0) (Z:cF K a1 c2 spec.L) (h6:cF K a4 c5 spec.E) (h9:cF K a7 c8 made.L) (a3:cF K a10 c11 made.E):
  Calls prog 6 ([zA (zCa spec a1 c2 a4 c5),zA (zCa made a7 c8 a10 c11)]:List Value).toArray w (eH fun v w'=>∃ g o p q r,v=zT #[zB R.1,zS o R.2.1.length p,zS q R.2.2.1.length r,i64 R.2.2.2]/\Hp.le K g/\cF g o p R.2.1/\cF g q r R.2.2.1/\aJ G g (L) w'):=by
 let j:=(zC made a7 c8 a10 c11)
 let k:=(zC spec a1 c2 a4 c5)
 refine aS func6 rfl (by kernel_rfl) (by show (2:Nat)<=33;decide) ?_;unfold mZ at hm
 refine aK (fJ (v:=zA (zCa spec a1 c2 a4 c5)) (vs:=k) z rfl rfl (fun a5 b5 a6=>(fJ (v:=zA (zCa made a7 c8 a10 c11)) (vs:=j) a6 rfl rfl (fun a8 b6 b7=>(aD (v:=zB false) (aD (v:=zS none 0 0) (aD (v:=zS none 0 0) (aD (v:=i64 0) (aG (aO (aO (cP [2,3] (fun f w=>∃ l,kY spec made l=some R/\f 19=zB l/\aJ G K (box a8 27 j::box a5 27 k::L) w) ?_ ?_))))))))))))
 ·rintro f b8 ⟨l,hm,t,h⟩
  unfold kY at hm
  refine aA ?_
  rcases aH hm with ⟨m,hm⟩|⟨m,hm⟩
  ·refine aL m t (aK (aD (v:=zB false) (aD (v:=zS none 0 0) (aD (v:=zS none 0 0) (aD (v:=i64 1) (aG ?_))))));obtain rfl:=zI hm
   exact bH (aQ (xQ results6 rfl rfl rfl rfl ⟨K,none,0,none,0,rfl,(Hp.le_refl _),jW _,jW _,(aJ.arr 2 [] h rfl)⟩))
  ·refine aI m t (aU (aA (aK (aC (dI (us:=k) cV h (i:=1) rfl rfl rfl rfl) (aC (dI (us:=j) cV h (i:=0) rfl rfl rfl rfl) ?_)))));obtain ⟨a,b0,hm⟩:=aB hm
   refine aR (vs:=[zA (zCa spec a1 c2 a4 c5),zA (zCa made a7 c8 a10 c11)]) call21 rfl (aFc b0 h V Z h6 h9 a3) ?_
   rintro _ b9 ⟨u,b,c,d,e,rfl,x,b1,b2,y⟩
   refine aF (v:=zT #[zB a.1,zS b a.2.1.length c,zS d a.2.2.1.length e,zB a.2.2.2]) (aC (bS rfl rfl) (aC (bS rfl rfl) (aC (bS rfl rfl) (aC (bS rfl rfl) (aD (v:=zB a.1) (aD (v:=zS b a.2.1.length c) (aD (v:=zS d a.2.2.1.length e) (aD (v:=zB a.2.2.2) (aG (aO (aK (aF (v:=zB a.2.2.2) (aC (dE rfl) (aG ?_))))))))))))))
   rcases aH hm with ⟨n,hm⟩|⟨n,hm⟩
   ·refine aL n rfl (aK (aD (v:=zB false) (aD (v:=zS none 0 0) (aD (v:=zS none 0 0) (aD (v:=i64 5) (aG ?_))))));obtain rfl:=zI hm
    exact bH (aQ (xQ results6 rfl rfl rfl rfl ⟨u,none,0,none,0,rfl,x,jW _,jW _,(aJ.arr 2 [] y rfl)⟩))
   ·refine aI n rfl (aU (aA (aK (aF (v:=zB a.1) (aF (v:=zS b a.2.1.length c) (aF (v:=zS d a.2.2.1.length e) (aD (v:=zB a.1) (aD (v:=zS b a.2.1.length c) (aD (v:=zS d a.2.2.1.length e) (aD (v:=i64 0) (aG ?_)))))))))));obtain rfl:=zI hm
    exact bH (xQ results6 rfl rfl rfl rfl ⟨u,b,c,d,e,rfl,x,b1,b2,(aJ.arr 2 [] y rfl)⟩)
 exact aHU
theorem oN {n low a:Int} {R:Bool} (hm:aAb n low a=some R) (c:aJ G K (L) w):
  Calls prog 60 ([i64 n,i64 low,i64 a]:List Value).toArray w (eH fun v w'=>v=zB R/\aJ G K (L) w'):=by
 refine aS func60 rfl (by kernel_rfl) (by show (3:Nat)<=15;decide) ?_;unfold aAb at hm
 exact aK (aD (v:=zB false) (aG (aO (cP [] (fun f w=>∃ b,aBd b=some R/\f 6=zB b/\aJ G K (L) w) aHU aHU))))
theorem aHk {a:aZ} {R:Int} (hm:aFA a=some R) (d:aJ G K (L) w):
  Calls prog 200 ([str a]:List Value).toArray w (eH fun v w'=>v=i64 R/\aJ G K (L) w'):=by
 refine aS func200 rfl (by kernel_rfl) (by show (1:Nat)<=17;decide) ?_;unfold aFA at hm
 refine aK (aD (v:=i64 0) (aG (aO (aK (aD (v:=i64 0) (aG (aW [0] (fun f w=>xE a=some R/\aJ G K (L) w) aHU ?_)))))));obtain ⟨e,b,ho⟩:=aB hm
 exact dM [0] b (fun c f w=>f 3=i64 c/\aJ G K (L) w) aHU aHU
theorem aBH {c:UInt8} {R:Bool} (hm:aBe c=some R) (b:aJ G K (L) w):
  Calls prog 239 ([Value.int .u8 (c.toNat:Int)]:List Value).toArray w (eH fun v w'=>v=zB R/\aJ G K (L) w'):=by
 refine aS func239 rfl (by kernel_rfl) (by show (1:Nat)<=9;decide) ?_;unfold aBe at hm
 exact aK (aD (v:=zB false) (aG (aO (cP [] (fun f w=>∃ a,uL a=some R/\f 2=zB a/\aJ G K (L) w) aHU aHU))))
theorem aBI {c:UInt8} {R:Bool} (hm:aBf c=some R) (b:aJ G K (L) w):
  Calls prog 240 ([Value.int .u8 (c.toNat:Int)]:List Value).toArray w (eH fun v w'=>v=zB R/\aJ G K (L) w'):=by
 refine aS func240 rfl (by kernel_rfl) (by show (1:Nat)<=9;decide) ?_;unfold aBf at hm
 exact aK (aD (v:=zB false) (aG (aO (cP [] (fun f w=>∃ a,uM a=some R/\f 2=zB a/\aJ G K (L) w) aHU aHU))))
theorem aCK {a:aZ} {R:Bool} (hm:aCY a=some R) (l:aJ G K (L) w):
  Calls prog 201 ([str a]:List Value).toArray w (eH fun v w'=>v=zB R/\aJ G K (L) w'):=by
 refine aS func201 rfl (by kernel_rfl) (by show (1:Nat)<=35;decide) ?_;unfold aCY at hm
 refine aK (aD (v:=zB false) (aG (aO (aO (cP [0] (fun f w=>∃ b,sB a b=some R/\f 16=zB b/\aJ G K (L) w) ?_ ?_)))))
 ·rintro f m ⟨b,hm,h,n⟩
  unfold sB at hm
  refine aA ?_
  rcases aH hm with ⟨d,hm⟩|⟨d,hm⟩
  ·exact aHU
  ·refine aI d h (aU (aA (aO (aK (aD (v:=i64 0) (aG (aW [] (fun f w=>xF=some R/\aJ G K (L) w) aHU ?_)))))));obtain ⟨o,i,ho⟩:=aB hm
   refine dM [0] i (fun c f w=>f 3=i64 c/\aJ G K (L) w) aHU ?_
   ·rintro c j f p hm hr ⟨k,q⟩
    unfold aEZ at hm
    refine aO (aK (aY k (aF (v:=str a) (aC (gI runUnderlying9 rfl) (aC (cG rfl rfl) (aG ?_))))))
    rcases aH hm with ⟨e,hm⟩|⟨e,hm⟩
    ·exact aL e rfl (aU (aA (aO (cN (aO (cP [0,3] (fun f w=>∃ g,xG c g=some j/\f 34=zB g/\aJ G K (L) w) aHU aHU))))))
    ·exact aHU
 exact aHU
theorem aFK {a:aZ} {R:Bool} (hm:aCs a=some R) (c:aJ G K (L) w):
  Calls prog 202 ([str a]:List Value).toArray w (eH fun v w'=>v=zB R/\aJ G K (L) w'):=by
 refine aS func202 rfl (by kernel_rfl) (by show (1:Nat)<=9;decide) ?_;unfold aCs at hm
 exact aK (aD (v:=zB false) (aG (aO (cP [] (fun f w=>∃ b,sC b=some R/\f 2=zB b/\aJ G K (L) w) aHU aHU))))
theorem aGs {a:aZ} {by_:UInt8} {R:(List aZ)} (hm:aEd a by_=some R) (x:aJ G K (L) w):
  Calls prog 203 ([str a,Value.int .u8 (by_.toNat:Int)]:List Value).toArray w (eH fun v w'=>∃ l m,v=zS l R.length m/\aJ G K (aN 9 K l m R::L) w'):=by
 refine aS func203 rfl (by kernel_rfl) (by show (2:Nat)<=35;decide) ?_;unfold aEd at hm
 refine aK (aD (v:=zS none 0 0) (aG (aK (cB (Kt:=K) (xs:=([]:List aZ)) (cs:=[]) (vs:=[]) bX iA rfl rfl x rfl (by kernel_rfl) rfl rfl rfl trivial (fun n y (a3:aJ G K (aN 9 K n 0 ([]:List aZ)::L) y)=>(aD (v:=zS n ([]:List aZ).length 0) (aG (aK (aD (v:=i64 0) (aG (aO (aK (aD (v:=i64 0) (aG (aW [0] (fun f w=>∃ g o p q,uN a g o=some R/\f 5=zS p g.length q/\f 6=i64 o/\aJ G K (aN 9 K p q g::L) w) aHU ?_)))))))))))))))
 obtain ⟨a4,z,ho⟩:=aB hm
 refine jO [0,1] z (fun h r b f w=>∃ i j,f 5=zS i h.length j/\f 6=i64 r/\f 7=i64 b/\aJ G K (aN 9 K i j h::L) w) aHU ?_
 ·rintro h r b V f a6 hm hr ⟨i,j,a7,a8,t,a9⟩
  unfold aDD at hm
  refine aO (aK (aY t (aF (v:=str a) (aC (gI runUnderlying9 rfl) (aC (cG rfl rfl) (aG ?_))))))
  rcases aH hm with ⟨u,hm⟩|⟨u,hm⟩
  ·refine aL u rfl (aU (aA (aO (aW [0,1,7] (fun f w=>∃ c k d e,uO b c k=some V/\f 5=zS d c.length e/\f 6=i64 k/\aJ G K (aN 9 K d e c::L) w) ?_ ?_))))
   ·rintro f b0 ⟨c,k,d,e,hm,Z,a0,a2⟩
    unfold uO at hm
    exact aA (aP (aY t (aC (cE rfl rfl) (aD (v:=i64 (wr (b+1))) (aG ⟨_,(zI hm).symm,aM,d,e,Z,a0,rfl,a2⟩)))))
   exact aHU
  ·exact aHU
theorem aFL {c:aZ} {R:(Int × Bool)} (hm:aCu c=some R) (z:aJ G K (L) w):
  Calls prog 204 ([str c]:List Value).toArray w (eH fun v w'=>v=zT #[i64 R.1,zB R.2]/\aJ G K (L) w'):=by
 refine aS func204 rfl (by kernel_rfl) (by show (1:Nat)<=62;decide) ?_;unfold aCu at hm
 refine aK (aD (v:=i64 0) (aD (v:=zB false) (aG (aK (aD (v:=i64 0) (aG (oO [0] (fun f w=>∃ d,sF c d=some R/\f 4=i64 d/\aJ G K (L) w) ?_ ?_)))))))
 ·rintro f V ⟨d,hm,p,Z⟩
  unfold sF at hm
  refine aO (aO (cP [0,4] (fun f w=>∃ g,lL c d g=some R/\f 36=zB g/\aJ G K (L) w) ?_ ?_))
  ·rintro f w7 ⟨g,hm,q,a1⟩
   unfold lL at hm
   refine aA ?_
   rcases aH hm with ⟨j,hm⟩|⟨j,hm⟩
   ·exact aHU
   ·refine aI j q (aU (aA (aK (aD (v:=i64 0) (aG (aO (aK (aY p (aD (v:=i64 d) (aG (aW [4] (fun f w=>∃ h,sE d h=some R/\f 5=i64 h/\aJ G K (L) w) ?_ ?_)))))))))))
    ·rintro f a2 ⟨h,hm,a3,a4⟩
     unfold sE at hm
     exact aA (oO [] (fun f w=>∃ k,sD k=some R/\f 5=i64 k/\aJ G K (L) w) aHU aHU)
    obtain ⟨a5,r,ho⟩:=aB hm
    refine cJ [0,4] r (fun i i32 f w=>f 5=i64 i/\f 6=i64 i32/\aJ G K (L) w) aHU ?_
    ·rintro i i32 a6 f a7 hm hr ⟨t,e,u⟩
     unfold aCt at hm
     refine aO (aK (aY e (aF (v:=str c) (aC (gI runUnderlying9 rfl) (aC (cG rfl rfl) (aG ?_))))))
     rcases aH hm with ⟨l,hm⟩|⟨l,hm⟩
     ·refine aL l rfl (aU (aA (aO (cN (aO (aK (aF (v:=str c) (aY e ?_))))))));obtain ⟨c45,m,hm⟩:=aB hm
      refine aC (aAw runUnderlying9 rfl rfl m) ?_;obtain ⟨a8,x,hm⟩:=aB hm
      refine aR (vs:=[Value.int .u8 (c45.toNat:Int)]) call240 rfl (aBI x u) ?_
      rintro _ a9 ⟨rfl,y⟩
      refine aC (dE rfl) (aG ?_)
      rcases aH hm with ⟨n,hm⟩|⟨n,hm⟩
      ·exact aHU
      ·exact aI n rfl (aU (aA (aP (aY t (aC (yR rfl rfl) (aF (v:=str c) (aY e (aC (aAw runUnderlying9 rfl rfl m) (aC (aRi (a:=c45) (b:=(48:UInt8)) rfl rfl) (aC (aGH runUnderlying2 rfl ⟨_,runUnderlying5⟩) (aC (cE rfl rfl) (aD (v:=i64 (wr ((wr (10 * i))+(wr ((c45 - (48:UInt8)).toNat:Int))))) (bB (aX (aA (aP (aY e (aC (cE rfl rfl) (aD (v:=i64 (wr (i32+1))) (aG ⟨_,(zI hm).symm,aM,rfl,rfl,y⟩))))))))))))))))))))
     ·exact aHU
  exact aHU
 exact aO (cP [0,4] (fun f w=>∃ o,sG c o=some R/\f 14=zB o/\aJ G K (L) w) aHU aHU)
theorem aFM {a:aZ} {R:((List Int) × Bool)} (hm:aCw a=some R) (hs:aJ G K (L) w):
  Calls prog 154 ([str a]:List Value).toArray w (eH fun v w'=>∃ q r,v=zT #[zS q R.1.length r,zB R.2]/\aJ G K (aN 2 K q r R.1::L) w'):=by
 refine aS func154 rfl (by kernel_rfl) (by show (1:Nat)<=70;decide) ?_;unfold aCw at hm
 refine aK (aD (v:=zS none 0 0) (aD (v:=zB false) (aG (aK (aF (v:=str a) ?_)))));obtain ⟨h,q2,hm⟩:=aB hm
 refine aR (vs:=[str a]) call200 rfl (aHk q2 hs) ?_
 rintro _ w3 ⟨rfl,b7⟩
 refine aD (v:=i64 h) (aG (aO (aK (aF (v:=i64 h) (aF (v:=str a) (aC (gI runUnderlying9 rfl) (aC (fA rfl rfl) (aG ?_))))))))
 rcases aH hm with ⟨u,hm⟩|⟨u,hm⟩
 ·exact aHU
 ·refine aI u rfl (aU (aA (aO (aO (cP [0,4] (fun f w=>∃ l,sJ a h l=some R/\f 31=zB l/\aJ G K (L) w) ?_ ?_)))))
  ·rintro f b8 ⟨l,hm,a4,a5⟩
   unfold sJ at hm
   refine aA ?_
   rcases aH hm with ⟨x,hm⟩|⟨x,hm⟩
   ·exact aHU
   ·refine aI x a4 (aU (aA (aK (aF (v:=str a) (aF (v:=i64 h) (aC (cE rfl rfl) (aF (v:=str a) (aC (gI runUnderlying9 rfl) (aC (iK rfl rfl) ?_)))))))));obtain ⟨a6,a7,hm⟩:=aB hm
    refine aC (R_slSLH runUnderlying9 rfl rfl rfl a7) ?_;obtain ⟨b,a8,hm⟩:=aB hm
    refine aR (vs:=[str a6,Value.int .u8 44]) call203 rfl (aGs (by_:=(44:UInt8)) a8 a5) ?_
    rintro _ b9 ⟨c,d,rfl,a9⟩
    refine aD (v:=zS c b.length d) (aG (aK (cB (Kt:=K) (xs:=([]:List Int)) (cs:=[]) (vs:=[]) cC iV rfl rfl a9 rfl (by kernel_rfl) rfl rfl rfl trivial (fun y b0 (c0:aJ G K (aN 2 K y 0 ([]:List Int)::aN 9 K c d b::L) b0)=>(aD (v:=zS y ([]:List Int).length 0) (aG (aO (aK (aD (v:=i64 0) (aG (aW [] (fun f w=>∃ m z V,sH m=some R/\f 6=zS z m.length V/\aJ G K (aN 2 K z V m::L) w) aHU ?_)))))))))));obtain ⟨c1,b1,ho⟩:=aB hm
    refine cJ [5] b1 (fun e n f w=>∃ j k,f 6=zS j e.length k/\f 7=i64 n/\aJ G K (aN 2 K j k e::aN 9 K c d b::L) w) aHU ?_
    ·rintro e n b2 f c2 hm hr ⟨j,k,c3,Z,o⟩
     unfold aCv at hm
     refine aO (aK (aY Z (aF (v:=zS c b.length d) (aC (bO (len:=b.length) bX rfl) (aC (cG rfl rfl) (aG ?_))))))
     rcases aH hm with ⟨a0,hm⟩|⟨a0,hm⟩
     ·refine aL a0 rfl (aU (aA (aO (cN (aK (aF (v:=zS c b.length d) (aY Z ?_)))))));obtain ⟨b3,p,hm⟩:=aB hm
      have b4:=cX o (i:=1) rfl p
      refine aC (dD bX rfl b4 rfl rfl rfl p) (aC (gX (t:=0) lF o (i:=1) rfl p rfl rfl rfl) ?_);obtain ⟨g,b5,hm⟩:=aB hm
      refine aR (vs:=[str b3]) call204 rfl (aFL b5 o) ?_
      rintro _ c4 ⟨rfl,c6⟩
      exact aF (v:=zT #[i64 g.1,zB g.2]) (aC (bS rfl rfl) (aC (bS rfl rfl) (aD (v:=i64 g.1) (aD (v:=zB g.2) (aG (aO (aO (cP [5,6,7,8] (fun f w=>∃ a1,sI e n g a1=some b2/\f 61=zB a1/\aJ G K (aN 2 K j k e::aN 9 K c d b::L) w) aHU aHU))))))))
     ·exact aHU
  exact aHU
theorem aGt {a:aZ} {R:Bool} (hm:aEe a=some R) (b:aJ G K (L) w):
  Calls prog 116 ([str a]:List Value).toArray w (eH fun v w'=>v=zB R/\aJ G K (L) w'):=by
 exact aHU
theorem aGu {a:(List aZ)} {R:Bool} (hm:aEf a=some R) (l:aJ G K (L) w) (m:cF K a1 c2 a):
  Calls prog 61 ([zS a1 a.length c2]:List Value).toArray w (eH fun v w'=>v=zB R/\aJ G K (L) w'):=by
 refine aS func61 rfl (by kernel_rfl) (by show (1:Nat)<=53;decide) ?_;unfold aEf at hm
 refine aK (aD (v:=zB false) (aG (aO (aO (cP [0] (fun f w=>∃ b,pB a b=some R/\f 17=zB b/\aJ G K (L) w) ?_ ?_)))))
 ·rintro f n ⟨b,hm,h,o⟩
  unfold pB at hm
  refine aA ?_
  rcases aH hm with ⟨d,hm⟩|⟨d,hm⟩
  ·exact aHU
  ·refine aI d h (aU (aA (aO (aK (aD (v:=i64 1) (aG (aW [] (fun f w=>uP=some R/\aJ G K (L) w) aHU ?_)))))));obtain ⟨p,i,ho⟩:=aB hm
   refine dM [0] i (fun c f w=>f 3=i64 c/\aJ G K (L) w) aHU ?_
   ·rintro c j f q hm hr ⟨k,r⟩
    unfold aDE at hm
    refine aO (aK (aY k (aF (v:=zS a1 a.length c2) (aC (bO (len:=a.length) bX rfl) (aC (cG rfl rfl) (aG ?_))))))
    rcases aH hm with ⟨e,hm⟩|⟨e,hm⟩
    ·exact aL e rfl (aU (aA (aO (cN (aO (cP [0,3] (fun f w=>∃ g,mM c g=some j/\f 52=zB g/\aJ G K (L) w) aHU aHU))))))
    ·exact aHU
 exact aHU
theorem aFd {t:cI} {d:Nat} {R:Bool} (hm:aGA t=some R) (hs:aJ G K (L) w) (b:eY K a1 d (zC t a4 c5 a7 c8)) (h6:cF K a4 c5 t.L) (h:cF K a7 c8 t.E):
  Calls prog 22 ([cS a1 d]:List Value).toArray w (eH fun v w'=>v=zB R/\aJ G K (L) w'):=by
 refine aS func22 rfl (by kernel_rfl) (by show (1:Nat)<=101;decide) ?_;unfold aGA at hm
 refine aK (aD (v:=zB false) (aG (aO (aO (cP [0] (fun f w=>∃ l,tD t l=some R/\f 39=zB l/\aJ G K (L) w) ?_ ?_)))))
 ·rintro f b6 ⟨l,hm,V,b7⟩
  unfold tD at hm
  refine aA ?_
  rcases aH hm with ⟨o,hm⟩|⟨o,hm⟩
  ·exact aHU
  ·refine aI o V (aU (aA (aO (aK (aD (v:=i64 0) (aG (aW [] (fun f w=>aBg=some R/\aJ G K (L) w) aHU ?_)))))));obtain ⟨b8,Z,ho⟩:=aB hm
   refine dM [0] Z (fun e f w=>f 3=i64 e/\aJ G K (L) w) aHU ?_
   ·rintro e p f b9 hm hr ⟨j,k⟩
    unfold aGV at hm
    refine aO (aK (aY j (aF (v:=cS a1 d) (aC (cM rfl b) (aC (bU (k':=d+3) cU rfl b rfl) (aC (bG (t:=3) eS k b rfl rfl) (aC (bO (len:=t.E.length) cL rfl) (aC (cG rfl rfl) (aG ?_)))))))))
    rcases aH hm with ⟨q,hm⟩|⟨q,hm⟩
    ·refine aL q rfl (aU (aA (aO (cN (aK (aF (v:=cS a1 d) (aC (cM rfl b) (aC (bU (k':=d+3) cU rfl b rfl) (aC (bG (t:=3) eS k b rfl rfl) (aY j ?_))))))))));obtain ⟨a,r,hm⟩:=aB hm
     refine aC (cT cL rfl h rfl rfl rfl r) ?_;obtain ⟨c0,a0,a2⟩:=cF.el (sz:=3) rfl h r
     cases a2
     refine aC (eI (t:=0) (vs:=[i64 a.F,i64 a.B,i64 a.To]) kD k a0 rfl rfl rfl) (bZ (vs:=[i64 0,i64 0,i64 0]) zeroValue66 k rfl (fun m c1 a3=>(cA (i:=0) (ns:=[i64 a.F,i64 a.B,i64 a.To]) (us:=[i64 a.F,i64 a.B,i64 a.To]) sizeOf66 a3 rfl rfl rfl rfl rfl (cY rfl) rfl rfl (fun a5 (c2:aJ G K (box m 66 [i64 a.F,i64 a.B,i64 a.To]::L) a5)=>(aG (aO (aO (cP [0,3,4] (fun f w=>∃ n,yC t e a n=some p/\f 87=zB n/\aJ G K (box m 66 [i64 a.F,i64 a.B,i64 a.To]::L) w) ?_ ?_))))))))
     ·rintro f c3 ⟨n,hm,a6,u⟩
      unfold yC at hm
      refine aA ?_
      rcases aH hm with ⟨x,hm⟩|⟨x,hm⟩
      ·exact aHU
      ·refine aI x a6 (aU (aA (aO (cP [0,3] (fun f w=>∃ y,aBh e y=some p/\f 100=zB y/\aJ G K (L) w) aHU (aP (aY j (aC (kC rfl rfl) (aF (v:=zB (decide (0 < e))) ?_))))))))
       rcases aH hm with ⟨c,hm⟩|⟨c,hm⟩
       ·refine bF c rfl rfl (aF (v:=cS a1 d) (bF c rfl rfl (aC (cM rfl b) (bF c rfl rfl (aC (bU (k':=d+3) cU rfl b rfl) (bF c rfl rfl (aC (bG (t:=3) eS u b rfl rfl) (bF c rfl rfl (aY j (bF c rfl rfl (aC (iK rfl rfl) (bF c rfl rfl ?_))))))))))));obtain ⟨c4,z,hm⟩:=aB hm
        refine aC (cT cL rfl h rfl rfl rfl z) ?_;obtain ⟨c6,a8,a9⟩:=cF.el (sz:=3) rfl h z
        cases a9
        refine bF c rfl rfl ?_;obtain ⟨c7,b0,b1,b2,c9⟩:=aJ.lendBp u .head
        obtain ⟨d0,b3,hm⟩:=aB hm
        exact aR (vs:=[cS a7 ((wr (e - 1)).toNat * 3+0),cS (some ⟨m,0,none⟩) 0]) call62 rfl (aCF b3 b2 (a8.mono b0) b1) aHU
       ·exact aHU
     exact aHU
    ·exact aHU
 exact aHU
end Gv
