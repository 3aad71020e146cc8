/- Walks, printed by program. -/
import Derived.Test.YtingjpdikgpflaaGreatDoorJLWa
import Derived.Test.YtingjpdikgpflaaGreatDoorJMd
set_option linter.all false
namespace Gv
open Go.Value renaming slice→zS,bool→zB
open Option.some renaming inj→zI
open Go Go.Proofs Go.Proofs.Tryz
set_option maxRecDepth 20000
set_option maxHeartbeats 40000000
variable {G:qN} {K:Hp} {L:List gH} {w:World} {a1 a4:Option Addr} {c2 c5:Nat}
theorem aCC {a b:aZ} {R:Int} (hm:pR a b=some R) (c:aJ G K (L) w):
  Calls prog 108 ([str a,str b]:List Value).toArray w (eH fun v w'=>v=i64 R/\aJ G K (L) w'):=by
 refine aS func108 rfl (by kernel_rfl) (by show (2:Nat)<=18;decide) ?_;unfold pR at hm
 refine aK (aD (v:=i64 0) (aG (aO (cN (aK (aF (v:=str a) (aF (v:=str b) (aC (sY rfl rfl) (aD (v:=zB (a == b)) (aG ?_))))))))))
 rcases aH hm with ⟨d,hm⟩|⟨d,hm⟩
 ·refine aL d rfl (aK (aD (v:=i64 0) (aG ?_)));obtain rfl:=zI hm
  exact bH (bM (aQ (bI results108 rfl ⟨rfl,c⟩)))
 ·refine aI d rfl (aK (aF (v:=str a) (aC (sY rfl rfl) (aD (v:=zB (a == ([116,97,117]:aZ))) (aG ?_)))))
  rcases aH hm with ⟨e,hm⟩|⟨e,hm⟩
  ·refine aL e rfl (aK (aD (v:=i64 (-1)) (aG ?_)));obtain rfl:=zI hm
   exact bH (bM (aQ (bI results108 rfl ⟨rfl,c⟩)))
  ·refine aI e rfl (aK (aF (v:=str b) (aC (sY rfl rfl) (aD (v:=zB (b == ([116,97,117]:aZ))) (aG ?_)))))
   rcases aH hm with ⟨g,hm⟩|⟨g,hm⟩
   ·refine aL g rfl (aK (aD (v:=i64 1) (aG ?_)));obtain rfl:=zI hm
    exact bH (bM (aQ (bI results108 rfl ⟨rfl,c⟩)))
   ·refine aI g rfl (aU (aX (aA (aK (aF (v:=str a) (aF (v:=str b) ?_))))));obtain ⟨k,l,hm⟩:=aB hm
    refine aR (vs:=[str a,str b]) call151 rfl (aIJ c l) ?_
    rintro _ o ⟨rfl,m⟩
    refine aD (v:=i64 k) (aG ?_);obtain rfl:=zI hm
    exact bH (bI results108 rfl ⟨rfl,m⟩)
theorem qL {a:Int} {R:Bool} (hm:kI a=some R) (b:aJ G K (L) w):
  Calls prog 144 ([i64 a]:List Value).toArray w (eH fun v w'=>v=zB R/\aJ G K (L) w'):=by
 refine aS func144 rfl (by kernel_rfl) (by show (1:Nat)<=6;decide) ?_;unfold kI at hm
 refine aK (aD (v:=zB false) (aG (aK (aF (v:=i64 a) (aF (v:=i64 a) (aC (qQ rfl rfl) (aD (v:=zB (a != a)) (aG ?_))))))));obtain rfl:=zI hm
 exact bH (bI results144 rfl ⟨rfl,b⟩)
theorem aJk {a y R:Int} (hm:gA a y=some R) (k:aJ G K (L) w):
  Calls prog 99 ([i64 a,i64 y]:List Value).toArray w (eH fun v w'=>v=i64 R/\aJ G K (L) w'):=by
 refine aS func99 rfl (by kernel_rfl) (by show (2:Nat)<=20;decide) ?_;unfold gA at hm
 refine aK (aD (v:=i64 0) (aG (aK (aF (v:=i64 a) ?_))));obtain ⟨j,l,hm⟩:=aB hm
 refine aR (vs:=[i64 a]) call144 rfl (qL l k) ?_
 rintro _ x ⟨rfl,m⟩
 refine aD (v:=zB j) (aG (aK (aF (v:=i64 y) ?_)));obtain ⟨c,n,hm⟩:=aB hm
 refine aR (vs:=[i64 y]) call144 rfl (qL n m) ?_
 rintro _ z ⟨rfl,b⟩
 refine aD (v:=zB c) (aG (aO (aK (aF (v:=zB j) (aG ?_)))))
 rcases aH hm with ⟨d,hm⟩|⟨d,hm⟩
 ·refine aL d rfl (aO (aK (aF (v:=zB c) (aG ?_))))
  rcases aH hm with ⟨e,hm⟩|⟨e,hm⟩
  ·refine aL e rfl (aK (aD (v:=i64 0) (aG ?_)));obtain rfl:=zI hm
   exact bH (aQ (aQ (bI results99 rfl ⟨rfl,b⟩)))
  ·refine aI e rfl (aU (aA (aK (aD (v:=i64 (-1)) (aG ?_)))));obtain rfl:=zI hm
   exact bH (aQ (bI results99 rfl ⟨rfl,b⟩))
 ·refine aI d rfl (aU (aA (aO (aK (aF (v:=zB c) (aG ?_))))))
  rcases aH hm with ⟨g,hm⟩|⟨g,hm⟩
  ·refine aL g rfl (aK (aD (v:=i64 1) (aG ?_)));obtain rfl:=zI hm
   exact bH (aQ (bI results99 rfl ⟨rfl,b⟩))
  ·refine aI g rfl (aU (aA (aO (aK (aF (v:=i64 a) (aF (v:=i64 y) (aC (cG rfl rfl) (aG ?_))))))))
   rcases aH hm with ⟨h,hm⟩|⟨h,hm⟩
   ·refine aL h rfl (aK (aD (v:=i64 (-1)) (aG ?_)));obtain rfl:=zI hm
    exact bH (aQ (bI results99 rfl ⟨rfl,b⟩))
   ·refine aI h rfl (aU (aA (aO (aK (aF (v:=i64 a) (aF (v:=i64 y) (aC (kC rfl rfl) (aG ?_))))))))
    rcases aH hm with ⟨i,hm⟩|⟨i,hm⟩
    ·refine aL i rfl (aK (aD (v:=i64 1) (aG ?_)));obtain rfl:=zI hm
     exact bH (aQ (bI results99 rfl ⟨rfl,b⟩))
    ·refine aI i rfl (aU (aA (aK (aD (v:=i64 0) (aG ?_)))));obtain rfl:=zI hm
     exact bH (bI results99 rfl ⟨rfl,b⟩)
theorem aEh {a:(List Int)} {R:Int} (hm:oZ a=some R) (k:aJ G K (L) w) (i:cF K a1 c2 a):
  Calls prog 98 ([zS a1 a.length c2]:List Value).toArray w (eH fun v w'=>v=i64 R/\aJ G K (L) w'):=by
 refine aS func98 rfl (by kernel_rfl) (by show (1:Nat)<=18;decide) ?_;unfold oZ at hm
 refine aK (aD (v:=i64 0) (aG (aK (aD (v:=i64 0) (aG (aO (aK (aF (v:=zS a1 a.length c2) (aC (bO (len:=a.length) sl_98 rfl) (aF (v:=i64 0) (aG (aW [3] (fun f w=>lK=some R/\aJ G K (L) w) ?_ ?_))))))))))))
 ·rintro f x ⟨hm,l⟩
  unfold lK at hm
  refine aA (aK (aF (v:=i64 0) (aD (v:=i64 0) (aG ?_))));obtain rfl:=zI hm
  exact bH (bI results98 rfl ⟨rfl,l⟩)
 obtain ⟨y,n,ho⟩:=aB hm
 refine dM [3,6,7] n (fun d f w=>f 8=i64 d/\aJ G K (L) w) ?_ ?_
 ·exact ⟨rfl,k⟩
 ·rintro d z f V hm hr ⟨e,c⟩
  unfold gE at hm
  refine aK (aC (cG e rfl) (aG (aO ?_)))
  rcases aH hm with ⟨g,hm⟩|⟨g,hm⟩
  ·refine aL g rfl (aU (aA (aO (cN (aK ?_)))));obtain ⟨b,j,hm⟩:=aB hm
   refine aC (cT sl_98 rfl i rfl rfl e j) ?_;obtain ⟨Z,o,p⟩:=cF.el (sz:=1) rfl i j
   cases p
   refine aC (bG (t:=0) sc_3 c o rfl rfl) (aD (v:=i64 b) (aG (aK (aF (v:=i64 b) (aF (v:=i64 0) (aC (qQ rfl rfl) (aG ?_)))))))
   rcases aH hm with ⟨h,hm⟩|⟨h,hm⟩
   ·refine aL h rfl (aK (aF (v:=i64 b) (aD (v:=i64 b) (aG (bH (bM (aQ (aQ ?_))))))))
    have q:=hr _ (zI hm).symm
    subst q
    have hm:(some b)=some R:=ho
    clear hr ho
    obtain rfl:=zI hm
    exact bM (aQ (aQ (bI results98 rfl ⟨rfl,c⟩)))
   ·exact aI h rfl (aU (aX (aA (aP (aC (cE e rfl) (aF (v:=i64 (wr (d+1))) (aG ⟨_,(zI hm).symm,aM,rfl,c⟩)))))))
  ·refine aI g rfl (bV (aT (aT ?_)))
   have u:=hr _ (zI hm).symm
   subst u
   have hm:(lK)=some R:=ho
   clear hr ho
   exact bJ (aA ⟨aM,hm,c⟩)
theorem vS {a b:Edge} {R:Int} (hm:nL a b=some R) (u:aJ G K (L) w):
  Calls prog 51 ([Value.agg #[i64 a.F,i64 a.B,i64 a.To],Value.agg #[i64 b.F,i64 b.B,i64 b.To]]:List Value).toArray w (eH fun v w'=>v=i64 R/\aJ G K (L) w'):=by
 refine aS func51 rfl (by kernel_rfl) (by show (2:Nat)<=22;decide) ?_;unfold nL at hm
 refine aK (fJ (v:=Value.agg #[i64 a.F,i64 a.B,i64 a.To]) (vs:=[i64 a.F,i64 a.B,i64 a.To]) u rfl rfl (fun b1 w2 x=>(fJ (v:=Value.agg #[i64 b.F,i64 b.B,i64 b.To]) (vs:=[i64 b.F,i64 b.B,i64 b.To]) x rfl rfl (fun b4 w5 y=>(aD (v:=i64 0) (aG (aO ?_)))))));obtain ⟨K7,z,i,V,Z⟩:=aJ.lendBp y .head
 obtain ⟨k,h,j,l,a0⟩:=aJ.lendBp V .head
 refine dT (C:=fun w'=>∃ L',aJ G k L' w') [(0,0),(1,0),(2,0),(3,0),(5,0),(6,0),(7,0),(8,0),(10,0),(11,0),(12,0),(13,0),(4,1),(9,1),(14,1),(15,1),(16,1),(17,0)] bY (by kernel_rfl) (fun _ hg=>⟨_,aJ.mono l hg⟩) (fun c2 a1=>?_)
 have c:=aJ.mono l a1
 refine bQ rfl (fun _ _=>bT (t':=0) gP rfl rfl) (bQ rfl (fun _ ⟨_,c⟩=>bG (t:=0) cQ c j rfl rfl) (bQ rfl (fun _ _=>bT (t':=0) gP rfl rfl) (bQ rfl (fun _ ⟨_,c⟩=>bG (t:=0) cQ c (i.mono h) rfl rfl) (bQ rfl (fun _ _=>bT (t':=1) hQ rfl rfl) (bQ rfl (fun _ ⟨_,c⟩=>bG (t:=1) cQ c j rfl rfl) (bQ rfl (fun _ _=>bT (t':=1) hQ rfl rfl) (bQ rfl (fun _ ⟨_,c⟩=>bG (t:=1) cQ c (i.mono h) rfl rfl) (bQ rfl (fun _ _=>bT (t':=2) gD rfl rfl) (bQ rfl (fun _ ⟨_,c⟩=>bG (t:=2) cQ c j rfl rfl) (bQ rfl (fun _ _=>bT (t':=2) gD rfl rfl) (bQ rfl (fun _ ⟨_,c⟩=>bG (t:=2) cQ c (i.mono h) rfl rfl) (jE rfl ?_))))))))))))
 obtain ⟨d,a2,hm⟩:=aB hm
 refine aR (vs:=[i64 a.F,i64 b.F]) call99 rfl (aJk a2 c) ?_
 rintro _ c3 ⟨rfl,m⟩
 refine bB (aA ⟨⟨_,m⟩,?_⟩)
 refine jE rfl ?_;obtain ⟨e,a3,hm⟩:=aB hm
 refine aR (vs:=[i64 a.B,i64 b.B]) call99 rfl (aJk a3 m) ?_
 rintro _ c4 ⟨rfl,n⟩
 refine bB (aA ⟨⟨_,n⟩,?_⟩)
 refine jE rfl ?_;obtain ⟨g,a4,hm⟩:=aB hm
 refine aR (vs:=[i64 a.To,i64 b.To]) call99 rfl (aJk a4 n) ?_
 rintro _ c5 ⟨rfl,o⟩
 refine bB (aA ⟨⟨_,o⟩,?_⟩)
 refine jE rfl (cB (Kt:=K) (xs:=([d,e,g]:List Int)) (cs:=[i64 d,i64 e,i64 g]) (vs:=[(0,i64 d),(1,i64 e),(2,i64 g)]) sl_98 ez_3 rfl rfl o rfl (by kernel_rfl) rfl rfl rfl ⟨rfl,rfl,rfl,trivial⟩ (fun p a5 (q:aJ G k (aN 3 K p 3 ([d,e,g]:List Int)::L) a5)=>(bB (aA ⟨⟨_,q⟩,?_⟩))))
 refine jE rfl ?_;obtain ⟨c6,c7,a6,a7,a8⟩:=aJ.lendSp q (Hp.le_trans z h) .head
 obtain ⟨a9,b0,hm⟩:=aB hm
 refine aR (vs:=[zS p ([d,e,g]:List Int).length 3]) call98 rfl (aEh b0 a7 a6) ?_
 rintro _ c8 ⟨rfl,b2⟩
 have r:=a8 _ _ b2
 refine bB (aA ⟨⟨_,r⟩,?_⟩)
 refine bQ rfl (fun _ _=>cZ (v:=i64 a9) rfl) (iO ?_)
 have b3:=a0 _ _ r
 have b5:=Z _ _ b3
 refine aA ?_;obtain rfl:=zI hm
 exact bH (bI results51 rfl ⟨rfl,(aJ.arr 3 [] b5 rfl)⟩)
theorem pC {a:aZ} {R:Bool} (hm:jT a=some R) (b:aJ G K (L) w):
  Calls prog 168 ([str a]:List Value).toArray w (eH fun v w'=>v=zB R/\aJ G K (L) w'):=by
 refine aS func168 rfl (by kernel_rfl) (by show (1:Nat)<=6;decide) ?_;unfold jT at hm
 refine aK (aD (v:=zB false) (aG (aK (aF (v:=str a) (aF (v:=str a) (aC (aDN rfl rfl) (aD (v:=zB (!(a == a))) (aG ?_))))))));obtain rfl:=zI hm
 exact bH (bI results168 rfl ⟨rfl,b⟩)
theorem yE {a y:aZ} {R:Int} (hm:iS a y=some R) (k:aJ G K (L) w):
  Calls prog 132 ([str a,str y]:List Value).toArray w (eH fun v w'=>v=i64 R/\aJ G K (L) w'):=by
 refine aS func132 rfl (by kernel_rfl) (by show (2:Nat)<=20;decide) ?_;unfold iS at hm
 refine aK (aD (v:=i64 0) (aG (aK (aF (v:=str a) ?_))));obtain ⟨j,l,hm⟩:=aB hm
 refine aR (vs:=[str a]) call168 rfl (pC l k) ?_
 rintro _ x ⟨rfl,m⟩
 refine aD (v:=zB j) (aG (aK (aF (v:=str y) ?_)));obtain ⟨c,n,hm⟩:=aB hm
 refine aR (vs:=[str y]) call168 rfl (pC n m) ?_
 rintro _ z ⟨rfl,b⟩
 refine aD (v:=zB c) (aG (aO (aK (aF (v:=zB j) (aG ?_)))))
 rcases aH hm with ⟨d,hm⟩|⟨d,hm⟩
 ·refine aL d rfl (aO (aK (aF (v:=zB c) (aG ?_))))
  rcases aH hm with ⟨e,hm⟩|⟨e,hm⟩
  ·refine aL e rfl (aK (aD (v:=i64 0) (aG ?_)));obtain rfl:=zI hm
   exact bH (aQ (aQ (bI results132 rfl ⟨rfl,b⟩)))
  ·refine aI e rfl (aU (aA (aK (aD (v:=i64 (-1)) (aG ?_)))));obtain rfl:=zI hm
   exact bH (aQ (bI results132 rfl ⟨rfl,b⟩))
 ·refine aI d rfl (aU (aA (aO (aK (aF (v:=zB c) (aG ?_))))))
  rcases aH hm with ⟨g,hm⟩|⟨g,hm⟩
  ·refine aL g rfl (aK (aD (v:=i64 1) (aG ?_)));obtain rfl:=zI hm
   exact bH (aQ (bI results132 rfl ⟨rfl,b⟩))
  ·refine aI g rfl (aU (aA (aO (aK (aF (v:=str a) (aF (v:=str y) (aC (R_lssS rfl rfl) (aG ?_))))))))
   rcases aH hm with ⟨h,hm⟩|⟨h,hm⟩
   ·refine aL h rfl (aK (aD (v:=i64 (-1)) (aG ?_)));obtain rfl:=zI hm
    exact bH (aQ (bI results132 rfl ⟨rfl,b⟩))
   ·refine aI h rfl (aU (aA (aO (aK (aF (v:=str a) (aF (v:=str y) (aC (R_gtrS rfl rfl) (aG ?_))))))))
    rcases aH hm with ⟨i,hm⟩|⟨i,hm⟩
    ·refine aL i rfl (aK (aD (v:=i64 1) (aG ?_)));obtain rfl:=zI hm
     exact bH (aQ (bI results132 rfl ⟨rfl,b⟩))
    ·refine aI i rfl (aU (aA (aK (aD (v:=i64 0) (aG ?_)))));obtain rfl:=zI hm
     exact bH (bI results132 rfl ⟨rfl,b⟩)
theorem jC {b a:(List aZ)} {R:Int} (hm:fN b a=some R) (x:aJ G K (L) w) (n:cF K a1 c2 b) (o:cF K a4 c5 a):
  Calls prog 76 ([zS a1 b.length c2,zS a4 a.length c5]:List Value).toArray w (eH fun v w'=>v=i64 R/\aJ G K (L) w'):=by
 refine aS func76 rfl (by kernel_rfl) (by show (2:Nat)<=36;decide) ?_;unfold fN at hm
 refine aK (aD (v:=i64 0) (aG (aO (aK (aF (v:=zS a1 b.length c2) (aC (bO (len:=b.length) bX rfl) (aF (v:=i64 0) (aG (aW [0,1] (fun f w=>dH b a=some R/\aJ G K (L) w) ?_ ?_)))))))))
 ·rintro f w7 ⟨hm,p⟩
  unfold dH at hm
  refine aA (aO (aK (aF (v:=zS a1 b.length c2) (aC (bO (len:=b.length) bX rfl) (aF (v:=zS a4 a.length c5) (aC (bO (len:=a.length) bX rfl) (aC (cG rfl rfl) (aG ?_))))))))
  rcases aH hm with ⟨h,hm⟩|⟨h,hm⟩
  ·refine aL h rfl (aK (aD (v:=i64 (-1)) (aG ?_)));obtain rfl:=zI hm
   exact bH (aQ (bI results76 rfl ⟨rfl,p⟩))
  ·refine aI h rfl (aU (aA (aK (aD (v:=i64 0) (aG ?_)))));obtain rfl:=zI hm
   exact bH (bI results76 rfl ⟨rfl,p⟩)
 obtain ⟨b2,V,ho⟩:=aB hm
 refine dM [0,1,9,10] V (fun c f w=>f 11=i64 c/\aJ G K (L) w) ?_ ?_
 ·exact ⟨rfl,x⟩
 ·rintro c b3 f b4 hm hr ⟨g,d⟩
  unfold cR at hm
  refine aK (aC (cG g rfl) (aG (aO ?_)))
  rcases aH hm with ⟨i,hm⟩|⟨i,hm⟩
  ·refine aL i rfl (aU (aA (aO (cN (aK (aY g ?_))))));obtain ⟨j,q,hm⟩:=aB hm
   refine aC (cT bX rfl n rfl rfl g q) ?_;obtain ⟨b5,Z,a0⟩:=cF.el (sz:=1) rfl n q
   cases a0
   refine aC (bG (t:=0) lF d Z rfl rfl) (aD (v:=i64 c) (aD (v:=str j) (aG (aO (aK (aF (v:=i64 c) (aF (v:=zS a4 a.length c5) (aC (bO (len:=a.length) bX rfl) (aC (nG rfl rfl) (aG ?_))))))))))
   rcases aH hm with ⟨k,hm⟩|⟨k,hm⟩
   ·refine aL k rfl (aK (aD (v:=i64 1) (aG (bH (aQ (bM (aQ (aQ ?_))))))))
    have a2:=hr _ (zI hm).symm
    subst a2
    have hm:(some 1)=some R:=ho
    clear hr ho
    obtain rfl:=zI hm
    exact bM (aQ (aQ (bI results76 rfl ⟨rfl,d⟩)))
   ·refine aI k rfl (aU (aA (aK (aF (v:=zS a4 a.length c5) (aF (v:=i64 c) ?_)))));obtain ⟨l,r,hm⟩:=aB hm
    refine aC (cT bX rfl o rfl rfl rfl r) ?_;obtain ⟨b6,a5,a6⟩:=cF.el (sz:=1) rfl o r
    cases a6
    refine aC (bG (t:=0) lF d a5 rfl rfl) (aD (v:=str l) (aG (aK (aF (v:=str j) (aF (v:=str l) ?_)))));obtain ⟨e,a7,hm⟩:=aB hm
    refine aR (vs:=[str j,str l]) call132 rfl (yE a7 d) ?_
    rintro _ b7 ⟨rfl,u⟩
    refine aD (v:=i64 e) (aG (aK (aF (v:=i64 e) (aC (qQ rfl rfl) (aG ?_)))))
    rcases aH hm with ⟨m,hm⟩|⟨m,hm⟩
    ·refine aL m rfl (aK (aF (v:=i64 e) (aD (v:=i64 e) (aG (bH (bM (aQ (aQ ?_))))))))
     have a8:=hr _ (zI hm).symm
     subst a8
     have hm:(some e)=some R:=ho
     clear hr ho
     obtain rfl:=zI hm
     exact bM (aQ (aQ (bI results76 rfl ⟨rfl,u⟩)))
    ·exact aI m rfl (aU (aX (aA (aP (aC (cE g rfl) (aF (v:=i64 (wr (c+1))) (aG ⟨_,(zI hm).symm,aM,rfl,u⟩)))))))
  ·refine aI i rfl (bV (aT (aT ?_)))
   have b0:=hr _ (zI hm).symm
   subst b0
   have hm:(dH b a)=some R:=ho
   clear hr ho
   exact bJ (aA ⟨aM,hm,d⟩)
end Gv
