/- Walks, printed by program. -/
import Derived.Test.YtjkjjlbjcgklhaaGreatDoorJLWa
import Derived.Test.YtjkjjlbjcgklhaaGreatDoorJMd
set_option linter.all false
namespace Gv
open Go.Value renaming bool→zB
open Option.some renaming inj→zI
open Go Go.Proofs Go.Proofs.Tryz
set_option maxRecDepth 20000
set_option maxHeartbeats 40000000
variable {G:Env} {K:Hp} {L:List iD} {w:World} {a1:Option Addr} {c2:Nat}
theorem aDv {a b:aL} {R:Int} (hm:aAl a b=some R) (c:aD G K (L) w):
  Calls prog 110 ([str a,str b]:List Value).toArray w (dO fun v w'=>v=i64 R/\aD G K (L) w'):=by
 refine kR func110 rfl (by kernel_rfl) (by show (2:Nat)<=18;decide) ?_;unfold aAl at hm
 refine bL (aV (v:=i64 0) (bA (bM (bT (bL (aR (v:=str a) (aR (v:=str b) (aK (aNw rfl rfl) (aV (v:=zB (a == b)) (bA ?_))))))))))
 rcases aG hm with ⟨d,hm⟩|⟨d,hm⟩
 ·refine bX d rfl (bL (aV (v:=i64 0) (bA ?_)));obtain rfl:=zI hm
  exact kQ (gF (bO (oQ results110 rfl ⟨rfl,c⟩)))
 ·refine cD d rfl (bL (aR (v:=str a) (aK (aNw rfl rfl) (aV (v:=zB (a == ([116,97,117]:aL))) (bA ?_)))))
  rcases aG hm with ⟨e,hm⟩|⟨e,hm⟩
  ·refine bX e rfl (bL (aV (v:=i64 (-1)) (bA ?_)));obtain rfl:=zI hm
   exact kQ (gF (bO (oQ results110 rfl ⟨rfl,c⟩)))
  ·refine cD e rfl (bL (aR (v:=str b) (aK (aNw rfl rfl) (aV (v:=zB (b == ([116,97,117]:aL))) (bA ?_)))))
   rcases aG hm with ⟨g,hm⟩|⟨g,hm⟩
   ·refine bX g rfl (bL (aV (v:=i64 1) (bA ?_)));obtain rfl:=zI hm
    exact kQ (gF (bO (oQ results110 rfl ⟨rfl,c⟩)))
   ·refine cD g rfl (eJ (oJ (aF (bL (aR (v:=str a) (aR (v:=str b) ?_))))));obtain ⟨k,l,hm⟩:=aB hm
    refine bJ (vs:=[str a,str b]) call157 rfl (aMA c l) ?_
    rintro _ o ⟨rfl,m⟩
    refine aV (v:=i64 k) (bA ?_);obtain rfl:=zI hm
    exact kQ (oQ results110 rfl ⟨rfl,m⟩)
theorem tD {a:Int} {R:Bool} (hm:pA a=some R) (b:aD G K (L) w):
  Calls prog 151 ([i64 a]:List Value).toArray w (dO fun v w'=>v=zB R/\aD G K (L) w'):=by
 refine kR func151 rfl (by kernel_rfl) (by show (1:Nat)<=6;decide) ?_;unfold pA at hm
 refine bL (aV (v:=zB false) (bA (bL (aR (v:=i64 a) (aR (v:=i64 a) (aK (aHI rfl rfl) (aV (v:=zB (a != a)) (bA ?_))))))));obtain rfl:=zI hm
 exact kQ (oQ results151 rfl ⟨rfl,b⟩)
theorem lX {a y R:Int} (hm:iJ a y=some R) (k:aD G K (L) w):
  Calls prog 105 ([i64 a,i64 y]:List Value).toArray w (dO fun v w'=>v=i64 R/\aD G K (L) w'):=by
 refine kR func105 rfl (by kernel_rfl) (by show (2:Nat)<=20;decide) ?_;unfold iJ at hm
 refine bL (aV (v:=i64 0) (bA (bL (aR (v:=i64 a) ?_))));obtain ⟨j,l,hm⟩:=aB hm
 refine bJ (vs:=[i64 a]) call151 rfl (tD l k) ?_
 rintro _ x ⟨rfl,m⟩
 refine aV (v:=zB j) (bA (bL (aR (v:=i64 y) ?_)));obtain ⟨c,n,hm⟩:=aB hm
 refine bJ (vs:=[i64 y]) call151 rfl (tD n m) ?_
 rintro _ z ⟨rfl,b⟩
 refine aV (v:=zB c) (bA (bM (bL (aR (v:=zB j) (bA ?_)))))
 rcases aG hm with ⟨d,hm⟩|⟨d,hm⟩
 ·refine bX d rfl (bM (bL (aR (v:=zB c) (bA ?_))))
  rcases aG hm with ⟨e,hm⟩|⟨e,hm⟩
  ·refine bX e rfl (bL (aV (v:=i64 0) (bA ?_)));obtain rfl:=zI hm
   exact kQ (bO (bO (oQ results105 rfl ⟨rfl,b⟩)))
  ·refine cD e rfl (eJ (aF (bL (aV (v:=i64 (-1)) (bA ?_)))));obtain rfl:=zI hm
   exact kQ (bO (oQ results105 rfl ⟨rfl,b⟩))
 ·refine cD d rfl (eJ (aF (bM (bL (aR (v:=zB c) (bA ?_))))))
  rcases aG hm with ⟨g,hm⟩|⟨g,hm⟩
  ·refine bX g rfl (bL (aV (v:=i64 1) (bA ?_)));obtain rfl:=zI hm
   exact kQ (bO (oQ results105 rfl ⟨rfl,b⟩))
  ·refine cD g rfl (eJ (aF (bM (bL (aR (v:=i64 a) (aR (v:=i64 y) (aK (tK rfl rfl) (bA ?_))))))))
   rcases aG hm with ⟨h,hm⟩|⟨h,hm⟩
   ·refine bX h rfl (bL (aV (v:=i64 (-1)) (bA ?_)));obtain rfl:=zI hm
    exact kQ (bO (oQ results105 rfl ⟨rfl,b⟩))
   ·refine cD h rfl (eJ (aF (bM (bL (aR (v:=i64 a) (aR (v:=i64 y) (aK (aNv rfl rfl) (bA ?_))))))))
    rcases aG hm with ⟨i,hm⟩|⟨i,hm⟩
    ·refine bX i rfl (bL (aV (v:=i64 1) (bA ?_)));obtain rfl:=zI hm
     exact kQ (bO (oQ results105 rfl ⟨rfl,b⟩))
    ·refine cD i rfl (eJ (aF (bL (aV (v:=i64 0) (bA ?_)))));obtain rfl:=zI hm
     exact kQ (oQ results105 rfl ⟨rfl,b⟩)
theorem aFc {a:(List Int)} {R:Int} (hm:zO a=some R) (k:aD G K (L) w) (i:aT K a1 c2 a):
  Calls prog 104 ([Value.slice a1 a.length c2]:List Value).toArray w (dO fun v w'=>v=i64 R/\aD G K (L) w'):=by
 refine kR func104 rfl (by kernel_rfl) (by show (1:Nat)<=18;decide) ?_;unfold zO at hm
 refine bL (aV (v:=i64 0) (bA (bL (aV (v:=i64 0) (bA (bM (bL (aR (v:=Value.slice a1 a.length c2) (aK (nW (len:=a.length) aQs rfl) (aR (v:=i64 0) (bA (aJ [3] (fun f w=>sH=some R/\aD G K (L) w) ?_ ?_))))))))))))
 ·rintro f x ⟨hm,l⟩
  unfold sH at hm
  refine aF (bL (aR (v:=i64 0) (aV (v:=i64 0) (bA ?_))));obtain rfl:=zI hm
  exact kQ (oQ results104 rfl ⟨rfl,l⟩)
 obtain ⟨y,n,ho⟩:=aB hm
 refine eM [3,6,7] n (fun d f w=>f 8=i64 d/\aD G K (L) w) ?_ ?_
 ·exact ⟨rfl,k⟩
 ·rintro d z f V hm hr ⟨e,c⟩
  unfold iS at hm
  refine bL (aK (tK e rfl) (bA (bM ?_)))
  rcases aG hm with ⟨g,hm⟩|⟨g,hm⟩
  ·refine bX g rfl (eJ (aF (bM (bT (bL ?_)))));obtain ⟨b,j,hm⟩:=aB hm
   refine aK (aId aQs rfl i rfl rfl e j) ?_;obtain ⟨Z,o,p⟩:=aT.el (sz:=1) rfl i j
   cases p
   refine aK (cH (t:=0) sc_3 c o rfl rfl) (aV (v:=i64 b) (bA (bL (aR (v:=i64 b) (aR (v:=i64 0) (aK (aHI rfl rfl) (bA ?_)))))))
   rcases aG hm with ⟨h,hm⟩|⟨h,hm⟩
   ·refine bX h rfl (bL (aR (v:=i64 b) (aV (v:=i64 b) (bA (kQ (gF (bO (bO ?_))))))))
    have q:=hr _ (zI hm).symm
    subst q
    have hm:(some b)=some R:=ho
    clear hr ho
    obtain rfl:=zI hm
    exact gF (bO (bO (oQ results104 rfl ⟨rfl,c⟩)))
   ·exact cD h rfl (eJ (oJ (aF (cG (aK (tJ e rfl) (aR (v:=i64 (wr (d+1))) (bA ⟨_,(zI hm).symm,aU,rfl,c⟩)))))))
  ·refine cD g rfl (aEz (oP (oP ?_)))
   have u:=hr _ (zI hm).symm
   subst u
   have hm:(sH)=some R:=ho
   clear hr ho
   exact yW (aF ⟨aU,hm,c⟩)
theorem aEa {a b:Edge} {R:Int} (hm:wH a b=some R) (u:aD G K (L) w):
  Calls prog 58 ([Value.agg #[i64 a.F,i64 a.B,i64 a.To],Value.agg #[i64 b.F,i64 b.B,i64 b.To]]:List Value).toArray w (dO fun v w'=>v=i64 R/\aD G K (L) w'):=by
 refine kR func58 rfl (by kernel_rfl) (by show (2:Nat)<=22;decide) ?_;unfold wH at hm
 refine bL (aCt (v:=Value.agg #[i64 a.F,i64 a.B,i64 a.To]) (vs:=[i64 a.F,i64 a.B,i64 a.To]) u rfl rfl (fun b1 w2 x=>(aCt (v:=Value.agg #[i64 b.F,i64 b.B,i64 b.To]) (vs:=[i64 b.F,i64 b.B,i64 b.To]) x rfl rfl (fun b4 w5 y=>(aV (v:=i64 0) (bA (bM ?_)))))));obtain ⟨K7,z,i,V,Z⟩:=aD.lendBp y .head
 obtain ⟨k,h,j,l,a0⟩:=aD.lendBp V .head
 refine aGu (C:=fun w'=>∃ L',aD G k L' w') [(0,0),(1,0),(2,0),(3,0),(5,0),(6,0),(7,0),(8,0),(10,0),(11,0),(12,0),(13,0),(4,1),(9,1),(14,1),(15,1),(16,1),(17,0)] Tryz_mixed (by kernel_rfl) (fun _ hg=>⟨_,aD.mono l hg⟩) (fun c2 a1=>?_)
 have c:=aD.mono l a1
 refine cS rfl (fun _ _=>jG (t':=0) aKT rfl rfl) (cS rfl (fun _ ⟨_,c⟩=>cH (t:=0) jE c j rfl rfl) (cS rfl (fun _ _=>jG (t':=0) aKT rfl rfl) (cS rfl (fun _ ⟨_,c⟩=>cH (t:=0) jE c (i.mono h) rfl rfl) (cS rfl (fun _ _=>jG (t':=1) aJh rfl rfl) (cS rfl (fun _ ⟨_,c⟩=>cH (t:=1) jE c j rfl rfl) (cS rfl (fun _ _=>jG (t':=1) aJh rfl rfl) (cS rfl (fun _ ⟨_,c⟩=>cH (t:=1) jE c (i.mono h) rfl rfl) (cS rfl (fun _ _=>jG (t':=2) aKU rfl rfl) (cS rfl (fun _ ⟨_,c⟩=>cH (t:=2) jE c j rfl rfl) (cS rfl (fun _ _=>jG (t':=2) aKU rfl rfl) (cS rfl (fun _ ⟨_,c⟩=>cH (t:=2) jE c (i.mono h) rfl rfl) (lV rfl ?_))))))))))))
 obtain ⟨d,a2,hm⟩:=aB hm
 refine bJ (vs:=[i64 a.F,i64 b.F]) call105 rfl (lX a2 c) ?_
 rintro _ c3 ⟨rfl,m⟩
 refine aM (aF ⟨⟨_,m⟩,?_⟩)
 refine lV rfl ?_;obtain ⟨e,a3,hm⟩:=aB hm
 refine bJ (vs:=[i64 a.B,i64 b.B]) call105 rfl (lX a3 m) ?_
 rintro _ c4 ⟨rfl,n⟩
 refine aM (aF ⟨⟨_,n⟩,?_⟩)
 refine lV rfl ?_;obtain ⟨g,a4,hm⟩:=aB hm
 refine bJ (vs:=[i64 a.To,i64 b.To]) call105 rfl (lX a4 n) ?_
 rintro _ c5 ⟨rfl,o⟩
 refine aM (aF ⟨⟨_,o⟩,?_⟩)
 refine lV rfl (cQ (Kt:=K) (xs:=([d,e,g]:List Int)) (cs:=[i64 d,i64 e,i64 g]) (vs:=[(0,i64 d),(1,i64 e),(2,i64 g)]) aQs ez_3 rfl rfl o rfl (by kernel_rfl) rfl rfl rfl ⟨rfl,rfl,rfl,trivial⟩ (fun p a5 (q:aD G k (aH 3 K p 3 ([d,e,g]:List Int)::L) a5)=>(aM (aF ⟨⟨_,q⟩,?_⟩))))
 refine lV rfl ?_;obtain ⟨c6,c7,a6,a7,a8⟩:=aD.lendSp q (Hp.le_trans z h) .head
 obtain ⟨a9,b0,hm⟩:=aB hm
 refine bJ (vs:=[Value.slice p ([d,e,g]:List Int).length 3]) call104 rfl (aFc b0 a7 a6) ?_
 rintro _ c8 ⟨rfl,b2⟩
 have r:=a8 _ _ b2
 refine aM (aF ⟨⟨_,r⟩,?_⟩)
 refine cS rfl (fun _ _=>jY (v:=i64 a9) rfl) (tS ?_)
 have b3:=a0 _ _ r
 have b5:=Z _ _ b3
 refine aF ?_;obtain rfl:=zI hm
 exact kQ (oQ results58 rfl ⟨rfl,(aD.arr 3 [] b5 rfl)⟩)
end Gv
