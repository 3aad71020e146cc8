/- Walks, printed by program. -/
import Derived.Test.YtmlgcbjkfcapaaaGreatDoorJLW
import Derived.Test.YtmlgcbjkfcapaaaGreatDoorJMd
set_option linter.all false
namespace Gv
open Go.Value renaming slice→zS,bool→zB,agg→zA,tuple→zT
open Option.some renaming inj→zI
open Gv.Hp renaming le_refl→zR
open Go Go.Proofs
set_option maxRecDepth 20000
set_option maxHeartbeats 40000000
variable {G:Env} {K:Hp} {L:List pH} {w:World} {a1 a4 a7 a10 a3:Option Addr} {c2 c5 c8 c11 c4:Nat}
theorem aEy {d:(List bB)} {R:((List Int) × Bool)} (hs:aK G K (L) w) (hG:G.lo=0) (J:dB K a1 c2 d) (b:tW d=some R):
  Calls Tryz.prog 217 ([zS a1 d.length c2]:List Value).toArray w (iK fun v w'=>∃ (V:Option Addr) (Z:Nat),v=zT #[zS V R.1.length Z,zB R.2]∧aK G K (aN 2 K V Z R.1::L) w'):=by
 refine aX Tryz.func217 rfl (by kernel_rfl) (by show (1:Nat)≤28;decide) ?_
 unfold tW at b
 refine aM (aH (v:=zS none 0 0) (aH (v:=zB false) (aI (aM (aH (v:=zS none 0 0) (aI (aQ (aM (aP (v:=zS a1 d.length c2) (aF (bN (len:=d.length) cF rfl) (aP (v:=i64 0) (aI (bE (fun f w=>∃ (g:List Int) (j:Option Addr) (k:Nat),sO g=some R∧f 4=zS j g.length k∧aK G K (aN 2 K j k g::L) w) ?_ ?_)))))))))))))
 ·rintro f w8 ⟨g,j,k,b,e7,b1⟩
  unfold sO at b
  refine aC (aM (aT e7 (aH (v:=zS j g.length k) (aH (v:=zB true) (aI ?_)))))
  obtain rfl:=zI b
  exact bH (xX Tryz.results217 rfl rfl ⟨j,k,rfl,b1⟩)
 have b3:=aK.nil (α:=Int) hs 2 K
 obtain ⟨d2,b4,b⟩:=aD b
 refine cD b4 (fun (s:(List Int × Int)) f w=>match s with|(e,l)=>∃ (m:Option Addr) (n:Nat),f 4=zS m e.length n∧f 9=zS a1 d.length c2∧f 10=i64 (d.length:Int)∧f 11=i64 l∧aK G K (aN 2 K m n e::L) w) ?_ ?_
 ·exact ⟨none,0,rfl,rfl,rfl,rfl,b3⟩
 ·rintro ⟨e,l⟩ b5 f d3 a a0 ⟨m,n,a2,a3,a4,o,p⟩
  replace a:mI d e l=some b5:=a
  unfold mI at a
  refine aM (aF (cG o a4) (aI (aQ ?_)))
  rcases aJ a with ⟨q,a⟩|⟨q,a⟩
  ·refine aO q rfl (aY (aC (aQ (cW (aM ?_)))))
   obtain ⟨r,a6,a⟩:=aD a
   refine aF (dN cF rfl J a3 rfl o a6) ?_
   obtain ⟨d4,b6,b7⟩:=dB.el (sz:=1) rfl J a6
   cases b7
   refine aF (bK (t:=0) mV p b6 rfl rfl) (aH (v:=str r) (aI (aM (aP (v:=str r) ?_))))
   obtain ⟨c,b8,a⟩:=aD a
   refine aU (vs:=[str r]) Tryz.call276 rfl (aGp p hG b8) ?_
   rintro _ d5 ⟨rfl,a7⟩
   refine aP (v:=zT #[i64 c.1,zB c.2]) (aF (bM rfl rfl) (aF (bM rfl rfl) (aH (v:=i64 c.1) (aH (v:=zB c.2) (aI (aQ (aM (aP (v:=zB c.2) (aF (fC rfl) (aI ?_))))))))))
   rcases aJ a with ⟨u,a⟩|⟨u,a⟩
   ·refine aO u rfl (aM (aH (v:=zS none 0 0) (aH (v:=zB false) (aI (bH (aR (bQ (aR (aR ?_)))))))))
    have b9:=a0 _ (zI a).symm
    subst b9
    have b:(some ([],false))=some R:=b
    have c0:=aK.nil (α:=Int) a7 2 K
    obtain rfl:=zI b
    exact bQ (aR (aR (xX Tryz.results217 rfl rfl ⟨none,0,rfl,(aK.arr 2 [0] c0 rfl)⟩)))
   ·refine aL u rfl (aY (aC (aS (aT a2 (aP (v:=i64 c.1) (cT (Kt:=K) (xs:=([c.1]:List Int)) (cs:=[i64 c.1]) (vs:=[(0,i64 c.1)]) bY lR rfl rfl a7 rfl (by kernel_rfl) rfl rfl rfl ⟨rfl,trivial⟩ (fun c3 c4 (c5:aK G K (aN 2 K c3 1 ([c.1]:List Int)::aN 2 K m n e::L) c4)=>?_)))))))
    obtain ⟨x,c7,a⟩:=aD a
    exact eI (i:=0) bY Tryz.underlying38 lR rfl rfl c5 rfl (zR _) (zR _) c7 rfl rfl rfl rfl (fun _ h=>h) (fun y z c8 (c9:aK G K (aN 2 K y z x::L) c8)=>(aH (v:=zS y x.length z) (bA (bG (aC (aS (aF (cQ o rfl) (aP (v:=i64 (wr (l+1))) (aI ⟨(x,wr (l+1)),(zI a).symm,y,z,rfl,a3,a4,rfl,c9⟩)))))))))
  ·refine aL q rfl (cB (aV (aV ?_)))
   have d0:=a0 _ (zI a).symm
   subst d0
   have b:(sO e)=some R:=b
   exact bJ (aC ⟨e,m,n,b,a2,p⟩)
theorem aEj {d:(List Int)} {j R:bB} (hs:aK G K (L) w) (hG:G.lo=0) (y:dB K a1 c2 d) (b:aCj d j=some R):
  Calls Tryz.prog 115 ([zS a1 d.length c2,str j]:List Value).toArray w (iK fun v w'=>v=str R∧aK G K (L) w'):=by
 refine aX Tryz.func115 rfl (by kernel_rfl) (by show (2:Nat)≤27;decide) ?_
 unfold aCj at b
 refine aM (aH (v:=str ([]:bB)) (aI (aM (aP (v:=zS a1 d.length c2) (aF (bN (len:=d.length) bY rfl) ?_)))))
 obtain ⟨c,q5,b⟩:=aD b
 refine aDp (e:=([]:bB)) cF vJ rfl rfl hs rfl rfl rfl q5 rfl (fun g w7 (b0:aK G K (aN 9 K g c.length c::L) w7)=>(aH (v:=zS g c.length c.length) (aI (aQ (aM (aP (v:=zS a1 d.length c2) (aF (bN (len:=d.length) bY rfl) (aP (v:=i64 0) (aI (bE (fun f w=>∃ (m:List bB),zU j m=some R∧f 1=str j∧f 5=zS g m.length c.length∧aK G K (aN 9 K g c.length m::L) w) ?_ ?_))))))))))
 ·rintro f d3 ⟨m,b,b1,b2,b3⟩
  unfold zU at b
  refine aC (aM (aT b2 (aT b1 ?_)))
  obtain ⟨d4,d5,b4,b5,b6⟩:=aK.lendS (i:=0) b3 (zR _) rfl
  obtain ⟨b7,b8,b⟩:=aD b
  refine aU (vs:=[zS g m.length c.length,str j]) Tryz.call186 rfl (lib_Join b5 hG b4 b8) ?_
  rintro _ d6 ⟨rfl,b9⟩
  have c0:=b6 _ _ b9
  refine aH (v:=str b7) (aI ?_)
  obtain rfl:=zI b
  exact bH (bF Tryz.results115 rfl ⟨rfl,(aK.arr 1 [] c0 rfl)⟩)
 obtain ⟨d7,c3,b⟩:=aD b
 refine cD c3 (fun (s:(List bB × Int)) f w=>match s with|(l,k)=>f 1=str j∧f 5=zS g l.length c.length∧f 11=zS a1 d.length c2∧f 12=i64 (d.length:Int)∧f 13=i64 k∧aK G K (aN 9 K g c.length l::L) w) ?_ ?_
 ·exact ⟨rfl,rfl,rfl,rfl,rfl,b0⟩
 ·rintro ⟨l,k⟩ c4 f d8 a c5 ⟨z,p,J,V,o,q⟩
  replace a:vX d l k=some c4:=a
  unfold vX at a
  refine aM (aF (cG o V) (aI (aQ ?_)))
  rcases aJ a with ⟨r,a⟩|⟨r,a⟩
  ·refine aO r rfl (aY (aC (aQ (cW (aM (aT o ?_))))))
   obtain ⟨u,Z,a⟩:=aD a
   refine aF (dN bY rfl y J rfl o Z) ?_
   obtain ⟨d9,c6,c7⟩:=dB.el (sz:=1) rfl y Z
   cases c7
   refine aF (bK (t:=0) cV q c6 rfl rfl) (aH (v:=i64 k) (aH (v:=i64 u) (aI (aS (aT p (aP (v:=i64 k) (aP (v:=i64 u) ?_)))))))
   obtain ⟨a0,c8,a⟩:=aD a
   refine aU (vs:=[i64 u]) Tryz.call185 rfl (aGf q c8) ?_
   rintro _ e0 ⟨rfl,a2⟩
   obtain ⟨e1,x,a⟩:=aD a
   have c9:=cY a2 (i:=0) rfl x
   refine aF (dW cF rfl c9 rfl rfl rfl x) ?_
   obtain ⟨a3,a4,a⟩:=aD a
   exact mW (i:=0) (t:=0) (ns:=[str a0]) (e':=(a0:bB)) Tryz.sizeOf9 a2 rfl (zR _) rfl rfl rfl x a4 rfl rfl (cX rfl) rfl (fun cs h=>by cases h;rfl) (fun d0 (d1:aK G K (aN 9 K g c.length a3::L) d0)=>(bA (bG (aC (aS (aF (cQ o rfl) (aP (v:=i64 (wr (k+1))) (aI ⟨(a3,wr (k+1)),(zI a).symm,z,(Eq.trans p (congrArg (fun n=>zS g n c.length) (jP a4))),J,V,rfl,d1⟩))))))))
  ·refine aL r rfl (cB (aV (aV ?_)))
   have d2:=c5 _ (zI a).symm
   subst d2
   have b:(zU j l)=some R:=b
   exact bJ (aC ⟨l,b,z,p,q⟩)
theorem aHh {c:UInt8} {R:Bool} (e:aK G K (L) w) (a:aDQ c=some R):
  Calls Tryz.prog 351 ([Value.int .u8 (c.toNat:Int)]:List Value).toArray w (iK fun v w'=>v=zB R∧aK G K (L) w'):=by
 refine aX Tryz.func351 rfl (by kernel_rfl) (by show (1:Nat)≤9;decide) ?_
 unfold aDQ at a
 refine aM (aH (v:=zB false) (aI (aQ (dF (fun f w=>∃ (d:Bool),aAz d=some R∧f 2=zB d∧aK G K (L) w) ?_ ?_))))
 ·rintro f k ⟨d,a,h,i⟩
  unfold aAz at a
  refine aC ?_
  obtain rfl:=zI a
  exact bH (bF Tryz.results351 rfl ⟨h,i⟩)
 refine aS (aP (v:=Value.int .u8 (c.toNat:Int)) (aF (tU rfl rfl) (aP (v:=zB (decide (48≤(c.toNat:Int)))) ?_)))
 rcases aJ a with ⟨b,a⟩|⟨b,a⟩
 ·exact bU b rfl rfl (aP (v:=Value.int .u8 (c.toNat:Int)) (bU b rfl rfl (aF (aEP rfl rfl) (aF (bO (v:=zB (decide ((c.toNat:Int)≤57))) b rfl rfl) (aH (v:=zB (decide ((c.toNat:Int)≤57))) (aI ⟨decide ((c.toNat:Int)≤57),a,rfl,e⟩))))))
 ·exact bI b rfl rfl (bI b rfl rfl (aF (bV (v:=zB false) b rfl rfl) (aH (v:=zB false) (aI ⟨false,a,rfl,e⟩))))
theorem aIw {c:bB} {R:Bool} (hs:aK G K (L) w) (b:aDu c=some R):
  Calls Tryz.prog 316 ([str c]:List Value).toArray w (iK fun v w'=>v=zB R∧aK G K (L) w'):=by
 refine aX Tryz.func316 rfl (by kernel_rfl) (by show (1:Nat)≤42;decide) ?_
 unfold aDu at b
 refine aM (aH (v:=zB false) (aI (aQ (aM (aP (v:=str c) (aF (iG Tryz.runUnderlying9 rfl) (aP (v:=i64 0) (aI (bE (fun f w=>zV c=some R∧f 0=str c∧aK G K (L) w) ?_ ?_)))))))))
 ·rintro f w2 ⟨b,e1,a1⟩
  unfold zV at b
  refine aC (aQ (dF (fun f w=>∃ (p:Bool),aBL p=some R∧f 2=zB p∧aK G K (L) w) ?_ ?_))
  ·rintro f w6 ⟨p,b,e5,a9⟩
   unfold aBL at b
   refine aC ?_
   obtain rfl:=zI b
   exact bH (bF Tryz.results316 rfl ⟨e5,a9⟩)
  refine aS (aT e1 (aF (iG Tryz.runUnderlying9 rfl) (aF (tU rfl rfl) (aP (v:=zB (decide (1≤(c.length:Int)))) ?_))))
  rcases aJ b with ⟨j,b⟩|⟨j,b⟩
  ·exact bU j rfl rfl (aT e1 (bU j rfl rfl (aF (iG Tryz.runUnderlying9 rfl) (bU j rfl rfl (aF (aEP rfl rfl) (aF (bO (v:=zB (decide ((c.length:Int)≤10))) j rfl rfl) (aH (v:=zB (decide ((c.length:Int)≤10))) (aI ⟨decide ((c.length:Int)≤10),b,rfl,a1⟩))))))))
  ·exact bI j rfl rfl (bI j rfl rfl (bI j rfl rfl (aF (bV (v:=zB false) j rfl rfl) (aH (v:=zB false) (aI ⟨false,b,rfl,a1⟩)))))
 obtain ⟨c5,b1,b⟩:=aD b
 refine cD b1 (fun (d:Int) f w=>f 0=str c∧f 6=i64 (c.length:Int)∧f 7=i64 d∧aK G K (L) w) ?_ ?_
 ·exact ⟨rfl,rfl,rfl,hs⟩
 ·rintro d q f c6 a a2 ⟨k,r,l,t⟩
  replace a:rL c d=some q:=a
  unfold rL at a
  refine aM (aF (cG l r) (aI (aQ ?_)))
  rcases aJ a with ⟨u,a⟩|⟨u,a⟩
  ·refine aO u rfl (aY (aC (aQ (cW (aM (aT l (aH (v:=i64 d) (aI (aQ (dF (fun f w=>∃ (m:Bool),pI c d m=some q∧f 0=str c∧f 3=i64 d∧f 4=zB m∧f 6=i64 (c.length:Int)∧f 7=i64 d∧aK G K (L) w) ?_ ?_))))))))))
   ·rintro f c7 ⟨m,a,n,a3,b2,x,y,z⟩
    unfold pI at a
    refine aC (aQ (dF (fun f w=>∃ (J:Bool),vY d J=some q∧f 0=str c∧f 6=i64 (c.length:Int)∧f 7=i64 d∧f 32=zB J∧aK G K (L) w) ?_ ?_))
    ·rintro f c8 ⟨J,a,b3,b4,b5,a4,a5⟩
     unfold vY at a
     refine aC ?_
     rcases aJ a with ⟨V,a⟩|⟨V,a⟩
     ·refine aO V a4 (aM (aH (v:=zB false) (aI (bH (bQ (aR (aR ?_)))))))
      have b6:=a2 _ (zI a).symm
      subst b6
      have b:(some false)=some R:=b
      obtain rfl:=zI b
      exact bQ (aR (aR (bF Tryz.results316 rfl ⟨rfl,a5⟩)))
     ·exact aL V a4 (aY (bG (aC (aS (aF (cQ b5 rfl) (aP (v:=i64 (wr (d+1))) (aI ⟨wr (d+1),(zI a).symm,b3,b4,rfl,a5⟩)))))))
    refine aS (aT b2 (aF (fC rfl) (aP (v:=zB (!m)) ?_)))
    rcases aJ a with ⟨e,a⟩|⟨e,a⟩
    ·refine bU e rfl rfl (aT a3 (bU e rfl rfl (aF (oN rfl rfl) (bU e rfl rfl (aP (v:=zB (d == 0)) ?_)))))
     rcases aJ a with ⟨h,a⟩|⟨h,a⟩
     ·exact bC h rfl rfl (bC h rfl rfl (bC h rfl rfl (bC h rfl rfl (bC h rfl rfl (bU e rfl rfl (aF (bO (v:=zB true) h rfl rfl) (aF (bO (v:=zB true) e rfl rfl) (aI ⟨true,a,n,x,y,rfl,z⟩))))))))
     ·refine bP h rfl rfl (aT n (bP h rfl rfl (aT a3 (bP h rfl rfl ?_))))
      obtain ⟨b8,b9,a⟩:=aD a
      refine aF (aCf Tryz.runUnderlying9 rfl rfl b9) (bP h rfl rfl ?_)
      obtain ⟨Z,c0,a⟩:=aD a
      refine aU (vs:=[Value.int .u8 (b8.toNat:Int)]) Tryz.call351 rfl (aHh z c0) ?_
      rintro _ d0 ⟨rfl,c1⟩
      exact bP h rfl rfl (aF (fC rfl) (bU e rfl rfl (aF (bV (v:=zB (!Z)) h rfl rfl) (aF (bO (v:=zB (!Z)) e rfl rfl) (aI ⟨!Z,a,n,x,y,rfl,c1⟩)))))
    ·exact bI e rfl rfl (bI e rfl rfl (bI e rfl rfl (fY (g:=25) rfl rfl (fY (g:=25) rfl rfl (fY (g:=25) rfl rfl (fY (g:=25) rfl rfl (fY (g:=25) rfl rfl (bI e rfl rfl (aF (bV (v:=zB false) e rfl rfl) (aI ⟨false,a,n,x,y,rfl,z⟩))))))))))
   refine aS (aT k (aP (v:=i64 d) ?_))
   obtain ⟨o,a6,a⟩:=aD a
   refine aF (aCf Tryz.runUnderlying9 rfl rfl a6) (aF (tU rfl rfl) (aP (v:=zB (decide (97≤(o.toNat:Int)))) ?_))
   rcases aJ a with ⟨i,a⟩|⟨i,a⟩
   ·exact bU i rfl rfl (aT k (bU i rfl rfl (aP (v:=i64 d) (bU i rfl rfl (aF (aCf Tryz.runUnderlying9 rfl rfl a6) (bU i rfl rfl (aF (aEP rfl rfl) (aF (bO (v:=zB (decide ((o.toNat:Int)≤122))) i rfl rfl) (aH (v:=zB (decide ((o.toNat:Int)≤122))) (aI ⟨decide ((o.toNat:Int)≤122),a,k,rfl,rfl,r,l,t⟩))))))))))
   ·exact bI i rfl rfl (bI i rfl rfl (bI i rfl rfl (bI i rfl rfl (aF (bV (v:=zB false) i rfl rfl) (aH (v:=zB false) (aI ⟨false,a,k,rfl,rfl,r,l,t⟩))))))
  ·refine aL u rfl (cB (aV (aV ?_)))
   have c2:=a2 _ (zI a).symm
   subst c2
   have b:(zV c)=some R:=b
   exact bJ (aC ⟨b,k,t⟩)
theorem aGq {b:bB} {R:Bool} (h:aK G K (L) w) (a:aBd b=some R):
  Calls Tryz.prog 262 ([str b]:List Value).toArray w (iK fun v w'=>v=zB R∧aK G K (L) w'):=by
 refine aX Tryz.func262 rfl (by kernel_rfl) (by show (1:Nat)≤9;decide) ?_
 unfold aBd at a
 refine aM (aH (v:=zB false) (aI (aQ (dF (fun f w=>∃ (d:Bool),tX d=some R∧f 2=zB d∧aK G K (L) w) ?_ ?_))))
 ·rintro f n ⟨d,a,i,j⟩
  unfold tX at a
  refine aC ?_
  obtain rfl:=zI a
  exact bH (bF Tryz.results262 rfl ⟨i,j⟩)
 refine aS (aP (v:=str b) ?_)
 obtain ⟨l,m,a⟩:=aD a
 refine aU (vs:=[str b]) Tryz.call316 rfl (aIw h m) ?_
 rintro _ o ⟨rfl,e⟩
 refine aP (v:=zB l) ?_
 rcases aJ a with ⟨c,a⟩|⟨c,a⟩
 ·exact bU c rfl rfl (aP (v:=str b) (bU c rfl rfl (aF (aEq rfl rfl) (aF (bO (v:=zB (!(b == ([116,97,117]:bB)))) c rfl rfl) (aH (v:=zB (!(b == ([116,97,117]:bB)))) (aI ⟨!(b == ([116,97,117]:bB)),a,rfl,e⟩))))))
 ·exact bI c rfl rfl (bI c rfl rfl (aF (bV (v:=zB false) c rfl rfl) (aH (v:=zB false) (aI ⟨false,a,rfl,e⟩))))
theorem uR {n low c:Int} {R:Bool} (e:aK G K (L) w) (a:wO n low c=some R):
  Calls Tryz.prog 77 ([i64 n,i64 low,i64 c]:List Value).toArray w (iK fun v w'=>v=zB R∧aK G K (L) w'):=by
 refine aX Tryz.func77 rfl (by kernel_rfl) (by show (3:Nat)≤15;decide) ?_
 unfold wO at a
 refine aM (aH (v:=zB false) (aI (aQ (dF (fun f w=>∃ (d:Bool),aBM d=some R∧f 6=zB d∧aK G K (L) w) ?_ ?_))))
 ·rintro f k ⟨d,a,h,i⟩
  unfold aBM at a
  refine aC ?_
  obtain rfl:=zI a
  exact bH (bF Tryz.results77 rfl ⟨h,i⟩)
 refine aS (aP (v:=i64 n) (aP (v:=i64 low) (aF (tU rfl rfl) (aP (v:=zB (decide (low≤n))) ?_))))
 rcases aJ a with ⟨b,a⟩|⟨b,a⟩
 ·exact bU b rfl rfl (aP (v:=i64 n) (bU b rfl rfl (aP (v:=i64 c) (bU b rfl rfl (aF (aEP rfl rfl) (aF (bO (v:=zB (decide (n≤c))) b rfl rfl) (aH (v:=zB (decide (n≤c))) (aI ⟨decide (n≤c),a,rfl,e⟩))))))))
 ·exact bI b rfl rfl (bI b rfl rfl (bI b rfl rfl (aF (bV (v:=zB false) b rfl rfl) (aH (v:=zB false) (aI ⟨false,a,rfl,e⟩)))))
theorem aHi {n:Int} {R:Bool} (b:aK G K (L) w) (a:aDR n=some R):
  Calls Tryz.prog 332 ([i64 n]:List Value).toArray w (iK fun v w'=>v=zB R∧aK G K (L) w'):=by
 refine aX Tryz.func332 rfl (by kernel_rfl) (by show (1:Nat)≤5;decide) ?_
 unfold aDR at a
 refine aM (aH (v:=zB false) (aI (aM (aP (v:=i64 n) ?_))))
 obtain ⟨c,d,a⟩:=aD a
 refine aU (vs:=[i64 n,i64 0,i64 63]) Tryz.call77 rfl (uR b d) ?_
 rintro _ h ⟨rfl,e⟩
 refine aH (v:=zB c) (aI ?_)
 obtain rfl:=zI a
 exact bH (bF Tryz.results332 rfl ⟨rfl,e⟩)
theorem aEc {n:Int} {R:Bool} (b:aK G K (L) w) (a:wP n=some R):
  Calls Tryz.prog 331 ([i64 n]:List Value).toArray w (iK fun v w'=>v=zB R∧aK G K (L) w'):=by
 refine aX Tryz.func331 rfl (by kernel_rfl) (by show (1:Nat)≤6;decide) ?_
 unfold wP at a
 refine aM (aH (v:=zB false) (aI (aM (aP (v:=i64 n) ?_))))
 obtain ⟨c,d,a⟩:=aD a
 refine aU (vs:=[i64 n]) Tryz.call332 rfl (aHi b d) ?_
 rintro _ h ⟨rfl,e⟩
 refine aF (fC rfl) (aH (v:=zB (!c)) (aI ?_))
 obtain rfl:=zI a
 exact bH (bF Tryz.results331 rfl ⟨rfl,e⟩)
theorem sD {d:(List Int)} {R:Int} (r:aK G K (L) w) (j:dB K a1 c2 d) (b:gS d=some R):
  Calls Tryz.prog 167 ([zS a1 d.length c2,Value.func (.func 331) #[] #[]]:List Value).toArray w (iK fun v w'=>v=i64 R∧aK G K (L) w'):=by
 refine aX Tryz.func167 rfl (by kernel_rfl) (by show (2:Nat)≤19;decide) ?_
 unfold gS at b
 refine aM (aH (v:=i64 0) (aI (aQ (aM (aP (v:=zS a1 d.length c2) (aF (bN (len:=d.length) bY rfl) (aP (v:=i64 0) (aI (bE (fun f w=>fT=some R∧aK G K (L) w) ?_ ?_)))))))))
 ·rintro f w4 ⟨b,u⟩
  unfold fT at b
  refine aC (aM (aH (v:=i64 (-1)) (aI ?_)))
  obtain rfl:=zI b
  exact bH (bF Tryz.results167 rfl ⟨rfl,u⟩)
 obtain ⟨a5,y,b⟩:=aD b
 refine cD y (fun (c:Int) f w=>f 0=zS a1 d.length c2∧f 1=Value.func (.func 331) #[] #[]∧f 7=i64 (d.length:Int)∧f 8=i64 c∧aK G K (L) w) ?_ ?_
 ·exact ⟨rfl,rfl,rfl,rfl,r⟩
 ·rintro c z f a6 a k ⟨l,m,n,e,g⟩
  replace a:dS d c=some z:=a
  unfold dS at a
  refine aM (aF (cG e n) (aI (aQ ?_)))
  rcases aJ a with ⟨h,a⟩|⟨h,a⟩
  ·refine aO h rfl (aY (aC (aQ (cW (aM (aT e (aH (v:=i64 c) (aI (aM (aT m (aT l (aP (v:=i64 c) ?_))))))))))))
   obtain ⟨o,p,a⟩:=aD a
   refine aF (dN bY rfl j rfl rfl rfl p) ?_
   obtain ⟨a7,J,V⟩:=dB.el (sz:=1) rfl j p
   cases V
   refine aF (bK (t:=0) cV g J rfl rfl) ?_
   obtain ⟨a8,Z,a⟩:=aD a
   refine oP (vs:=[i64 o]) (caps:=[]) (us:=[i64 o]) rfl Tryz.call331 rfl rfl (aEc g Z) ?_
   rintro _ a9 ⟨rfl,q⟩
   refine aI ?_
   rcases aJ a with ⟨i,a⟩|⟨i,a⟩
   ·refine aO i rfl (aM (aP (v:=i64 c) (aH (v:=i64 c) (aI (bH (bQ (aR (aR ?_))))))))
    have a0:=k _ (zI a).symm
    subst a0
    have b:(some c)=some R:=b
    obtain rfl:=zI b
    exact bQ (aR (aR (bF Tryz.results167 rfl ⟨rfl,q⟩)))
   ·exact aL i rfl (aY (bG (aC (aS (aF (cQ e rfl) (aP (v:=i64 (wr (c+1))) (aI ⟨wr (c+1),(zI a).symm,l,m,n,rfl,q⟩)))))))
  ·refine aL h rfl (cB (aV (aV ?_)))
   have a3:=k _ (zI a).symm
   subst a3
   have b:(fT)=some R:=b
   exact bJ (aC ⟨b,g⟩)
theorem qK {a:(List Int)} {R:Bool} (c:aK G K (L) w) (d:dB K a1 c2 a) (b:fU a=some R):
  Calls Tryz.prog 330 ([zS a1 a.length c2,Value.func (.func 331) #[] #[]]:List Value).toArray w (iK fun v w'=>v=zB R∧aK G K (L) w'):=by
 refine aX Tryz.func330 rfl (by kernel_rfl) (by show (2:Nat)≤9;decide) ?_
 unfold fU at b
 refine aM (aH (v:=zB false) (aI (aM (aP (v:=zS a1 a.length c2) (aP (v:=Value.func (.func 331) #[] #[]) ?_)))))
 obtain ⟨e,g,b⟩:=aD b
 refine aU (vs:=[zS a1 a.length c2,Value.func (.func 331) #[] #[]]) Tryz.call167 rfl (sD c d g) ?_
 rintro _ j ⟨rfl,h⟩
 refine aF (tU rfl rfl) (aH (v:=zB (decide (0≤e))) (aI ?_))
 obtain rfl:=zI b
 exact bH (bF Tryz.results330 rfl ⟨rfl,h⟩)
theorem aFE {a:(List Int)} {R:Bool} (c:aK G K (L) w) (d:dB K a1 c2 a) (b:zW a=some R):
  Calls Tryz.prog 279 ([zS a1 a.length c2]:List Value).toArray w (iK fun v w'=>v=zB R∧aK G K (L) w'):=by
 refine aX Tryz.func279 rfl (by kernel_rfl) (by show (1:Nat)≤6;decide) ?_
 unfold zW at b
 refine aM (aH (v:=zB false) (aI (aM (aP (v:=zS a1 a.length c2) ?_))))
 obtain ⟨e,g,b⟩:=aD b
 refine aU (vs:=[zS a1 a.length c2,Value.func (.func 331) #[] #[]]) Tryz.call330 rfl (qK c d g) ?_
 rintro _ j ⟨rfl,h⟩
 refine aF (fC rfl) (aH (v:=zB (!e)) (aI ?_))
 obtain rfl:=zI b
 exact bH (bF Tryz.results279 rfl ⟨rfl,h⟩)
theorem aHj {c:bB} {b:(List Int)} {R:(bB × Bool)} (o:aK G K (L) w) (u:G.lo=0) (p:dB K a1 c2 b) (a:aCk c b=some R):
  Calls Tryz.prog 220 ([str c,zS a1 b.length c2]:List Value).toArray w (iK fun v w'=>v=zT #[str R.1,zB R.2]∧aK G K (L) w'):=by
 refine aX Tryz.func220 rfl (by kernel_rfl) (by show (2:Nat)≤37;decide) ?_
 unfold aCk at a
 refine aM (aH (v:=str ([]:bB)) (aH (v:=zB false) (aI (aQ (cW (aM (aP (v:=str c) (aF (wN rfl rfl) (aH (v:=zB (c == ([116,97,117]:bB))) (aI ?_))))))))))
 rcases aJ a with ⟨h,a⟩|⟨h,a⟩
 ·refine aO h rfl (aM (aP (v:=zS a1 b.length c2) (aF (bN (len:=b.length) bY rfl) (aF (oN rfl rfl) (aH (v:=str ([116,97,117]:bB)) (aH (v:=zB ((b.length:Int) == 0)) (aI ?_)))))))
  obtain rfl:=zI a
  exact bH (bQ (aR (xX Tryz.results220 rfl rfl ⟨rfl,o⟩)))
 ·refine aL h rfl (aQ (dF (fun f w=>∃ (i:Bool),sP c b i=some R∧f 0=str c∧f 1=zS a1 b.length c2∧f 12=zB i∧aK G K (L) w) ?_ ?_))
  ·rintro f a9 ⟨i,a,q,r,t,j⟩
   unfold sP at a
   refine aC ?_
   rcases aJ a with ⟨k,a⟩|⟨k,a⟩
   ·refine aO k t (aM (aH (v:=str ([]:bB)) (aH (v:=zB false) (aI ?_))))
    obtain rfl:=zI a
    exact bH (bQ (aR (xX Tryz.results220 rfl rfl ⟨rfl,j⟩)))
   ·refine aL k t (aM (aT r (aF (bN (len:=b.length) bY rfl) (aF (oN rfl rfl) (aH (v:=zB ((b.length:Int) == 0)) (aI ?_))))))
    rcases aJ a with ⟨l,a⟩|⟨l,a⟩
    ·refine aO l rfl (aM (aT q (aH (v:=str c) (aH (v:=zB true) (aI ?_)))))
     obtain rfl:=zI a
     exact bH (bQ (aR (xX Tryz.results220 rfl rfl ⟨rfl,j⟩)))
    ·refine aL l rfl (aY (bG (aC (aM (aT q ?_)))))
     obtain ⟨b0,J,a⟩:=aD a
     refine aF (R_cat rfl rfl J) (aT r ?_)
     obtain ⟨b1,V,a⟩:=aD a
     refine aU (vs:=[zS a1 b.length c2,str ([44]:bB)]) Tryz.call115 rfl (aEj j u p V) ?_
     rintro _ b2 ⟨rfl,Z⟩
     obtain ⟨b3,a0,a⟩:=aD a
     refine aF (R_cat rfl rfl a0) ?_
     obtain ⟨a2,a3,a⟩:=aD a
     refine aF (R_cat rfl rfl a3) (aH (v:=str a2) (aH (v:=zB true) (aI ?_)))
     obtain rfl:=zI a
     exact bH (xX Tryz.results220 rfl rfl ⟨rfl,Z⟩)
  refine aS (aP (v:=str c) ?_)
  obtain ⟨a5,a6,a⟩:=aD a
  refine aU (vs:=[str c]) Tryz.call262 rfl (aGq o a6) ?_
  rintro _ b4 ⟨rfl,m⟩
  refine aF (fC rfl) (aP (v:=zB (!a5)) ?_)
  rcases aJ a with ⟨d,a⟩|⟨d,a⟩
  ·exact bC d rfl rfl (bC d rfl rfl (bC d rfl rfl (aF (bO (v:=zB true) d rfl rfl) (aP (v:=zB true) (bC (rfl:true=true) rfl rfl (bC (rfl:true=true) rfl rfl (bC (rfl:true=true) rfl rfl (aF (bO (v:=zB true) (rfl:true=true) rfl rfl) (aH (v:=zB true) (aI ⟨true,a,rfl,rfl,rfl,m⟩))))))))))
  ·refine bP d rfl rfl (aP (v:=zS a1 b.length c2) (bP d rfl rfl (aF (bN (len:=b.length) bY rfl) (bP d rfl rfl (aF (oM rfl rfl) (aF (bV (v:=zB (decide (2 < (b.length:Int)))) d rfl rfl) (aP (v:=zB (decide (2 < (b.length:Int)))) ?_)))))))
   rcases aJ a with ⟨e,a⟩|⟨e,a⟩
   ·exact bC e rfl rfl (bC e rfl rfl (bC e rfl rfl (aF (bO (v:=zB true) e rfl rfl) (aH (v:=zB true) (aI ⟨true,a,rfl,rfl,rfl,m⟩)))))
   ·refine bP e rfl rfl (aP (v:=zS a1 b.length c2) (bP e rfl rfl ?_))
    obtain ⟨n,a7,a⟩:=aD a
    refine aU (vs:=[zS a1 b.length c2]) Tryz.call279 rfl (aFE m p a7) ?_
    rintro _ b5 ⟨rfl,a8⟩
    exact bP e rfl rfl (aF (fC rfl) (aF (bV (v:=zB (!n)) e rfl rfl) (aH (v:=zB (!n)) (aI ⟨!n,a,rfl,rfl,rfl,a8⟩))))
theorem tD {d c:bB} {R:Bool} (i:aK G K (L) w) (b:gY d c=some R):
  Calls Tryz.prog 329 ([str d,str c]:List Value).toArray w (iK fun v w'=>v=zB R∧aK G K (L) w'):=by
 refine aX Tryz.func329 rfl (by kernel_rfl) (by show (2:Nat)≤21;decide) ?_
 unfold gY at b
 refine aM (aH (v:=zB false) (aI (aQ (dF (fun f w=>∃ (e:Bool),eX e=some R∧f 4=zB e∧aK G K (L) w) ?_ ?_))))
 ·rintro f n ⟨e,b,j,k⟩
  unfold eX at b
  refine aC ?_
  obtain rfl:=zI b
  exact bH (bF Tryz.results329 rfl ⟨j,k⟩)
 refine aS (aP (v:=str d) (aF (iG Tryz.runUnderlying9 rfl) (aP (v:=str c) (aF (iG Tryz.runUnderlying9 rfl) (aF (tU rfl rfl) (aP (v:=zB (decide ((c.length:Int)≤(d.length:Int)))) ?_))))))
 rcases aJ b with ⟨a,b⟩|⟨a,b⟩
 ·refine bU a rfl rfl (aP (v:=str d) (bU a rfl rfl (aP (v:=str d) (bU a rfl rfl (aF (iG Tryz.runUnderlying9 rfl) (bU a rfl rfl (aP (v:=str c) (bU a rfl rfl (aF (iG Tryz.runUnderlying9 rfl) (bU a rfl rfl (aF (kL rfl rfl) (bU a rfl rfl ?_))))))))))))
  obtain ⟨h,m,b⟩:=aD b
  exact aF (R_slSL Tryz.runUnderlying9 rfl rfl m) (bU a rfl rfl (aP (v:=str c) (bU a rfl rfl (aF (wN rfl rfl) (aF (bO (v:=zB (h == c)) a rfl rfl) (aH (v:=zB (h == c)) (aI ⟨h == c,b,rfl,i⟩)))))))
 ·exact bI a rfl rfl (bI a rfl rfl (bI a rfl rfl (bI a rfl rfl (bI a rfl rfl (bI a rfl rfl (bI a rfl rfl (bI a rfl rfl (bI a rfl rfl (aF (bV (v:=zB false) a rfl rfl) (aH (v:=zB false) (aI ⟨false,b,rfl,i⟩)))))))))))
theorem sE {b c R:bB} (g:aK G K (L) w) (a:gT b c=some R):
  Calls Tryz.prog 278 ([str b,str c]:List Value).toArray w (iK fun v w'=>v=str R∧aK G K (L) w'):=by
 refine aX Tryz.func278 rfl (by kernel_rfl) (by show (2:Nat)≤16;decide) ?_
 unfold gT at a
 refine aM (aH (v:=str ([]:bB)) (aI (aQ (aM (aP (v:=str b) (aP (v:=str c) ?_))))))
 obtain ⟨m,h,a⟩:=aD a
 refine aU (vs:=[str b,str c]) Tryz.call329 rfl (tD g h) ?_
 rintro _ n ⟨rfl,e⟩
 refine aI ?_
 rcases aJ a with ⟨d,a⟩|⟨d,a⟩
 ·refine aO d rfl (aM (aP (v:=str b) (aP (v:=str b) (aF (iG Tryz.runUnderlying9 rfl) (aP (v:=str c) (aF (iG Tryz.runUnderlying9 rfl) (aF (kL rfl rfl) ?_)))))))
  obtain ⟨i,j,a⟩:=aD a
  refine aF (R_slSH Tryz.runUnderlying9 rfl rfl j) (aH (v:=str i) (aI ?_))
  obtain rfl:=zI a
  exact bH (aR (bF Tryz.results278 rfl ⟨rfl,e⟩))
 ·refine aL d rfl (aY (aC (aM (aP (v:=str b) (aH (v:=str b) (aI ?_))))))
  obtain rfl:=zI a
  exact bH (bF Tryz.results278 rfl ⟨rfl,e⟩)
theorem aBB {a b R:bB} (d:aK G K (L) w) (c:kV a b=some R):
  Calls Tryz.prog 219 ([str a,str b]:List Value).toArray w (iK fun v w'=>v=str R∧aK G K (L) w'):=by
 refine aX Tryz.func219 rfl (by kernel_rfl) (by show (2:Nat)≤8;decide) ?_
 unfold kV at c
 refine aM (aH (v:=str ([]:bB)) (aI (aM (aP (v:=str a) (aP (v:=str b) ?_)))))
 obtain ⟨e,g,c⟩:=aD c
 refine aU (vs:=[str a,str b]) Tryz.call278 rfl (sE d g) ?_
 rintro _ j ⟨rfl,h⟩
 refine aH (v:=str e) (aI ?_)
 obtain rfl:=zI c
 exact bH (bF Tryz.results219 rfl ⟨rfl,h⟩)
theorem aFF {h:bB} {R:(bB × (List Int) × Bool)} (hs:aK G K (L) w) (x:G.lo=0) (a:aBN h=some R):
  Calls Tryz.prog 161 ([str h]:List Value).toArray w (iK fun v w'=>∃ (y:Option Addr) (z:Nat),v=zT #[str R.1,zS y R.2.1.length z,zB R.2.2]∧aK G K (aN 2 K y z R.2.1::L) w'):=by
 refine aX Tryz.func161 rfl (by kernel_rfl) (by show (1:Nat)≤43;decide) ?_
 unfold aBN at a
 refine aM (aH (v:=str ([]:bB)) (aH (v:=zS none 0 0) (aH (v:=zB false) (aI (aM (aP (v:=str h) ?_))))))
 obtain ⟨b,q2,a⟩:=aD a
 refine aU (vs:=[str h,str ([40]:bB)]) Tryz.call216 rfl (lib_Cut hs q2) ?_
 rintro _ w3 ⟨rfl,J⟩
 refine aP (v:=zT #[str b.1,str b.2.1,zB b.2.2]) (aF (bM rfl rfl) (aF (bM rfl rfl) (aF (bM rfl rfl) (aH (v:=str b.1) (aH (v:=str b.2.1) (aH (v:=zB b.2.2) (aI (aM (aH (v:=zS none 0 0) (aI (aAo (fun f w=>∃ (c:List Int) (j:Option Addr) (k:Nat),oS h b c=some R∧f 0=str h∧f 5=str b.1∧f 8=zS j c.length k∧aK G K (aN 2 K j k c::L) w) ?_ ?_)))))))))))
 ·rintro f d5 ⟨c,j,k,a,e8,m,n,a5⟩
  unfold oS at a
  refine aQ (aM (aT m (aT n ?_)))
  obtain ⟨d6,d7,a7,a8,a9⟩:=aK.lendS (i:=0) a5 (zR _) rfl
  obtain ⟨d,b0,a⟩:=aD a
  refine aU (vs:=[str b.1,zS j c.length k]) Tryz.call220 rfl (aHj a8 x a7 b0) ?_
  rintro _ d8 ⟨rfl,b1⟩
  have V:=a9 _ _ b1
  refine aP (v:=zT #[str d.1,zB d.2]) (aF (bM rfl rfl) (aF (bM rfl rfl) (aH (v:=str d.1) (aH (v:=zB d.2) (aI (aQ (dF (fun f w=>∃ (o:Bool),oR b c o=some R∧f 5=str b.1∧f 8=zS j c.length k∧f 40=zB o∧aK G K (aN 2 K j k c::L) w) ?_ ?_)))))))
  ·rintro f d9 ⟨o,a,b2,b3,Z,a0⟩
   unfold oR at a
   refine aC ?_
   rcases aJ a with ⟨p,a⟩|⟨p,a⟩
   ·refine aO p Z (aM (aH (v:=str ([]:bB)) (aH (v:=zS none 0 0) (aH (v:=zB false) (aI ?_)))))
    have b4:=aK.nil (α:=Int) a0 2 K
    obtain rfl:=zI a
    exact bH (aR (retQ_3 Tryz.results161 rfl rfl rfl ⟨none,0,rfl,(aK.arr 2 [0] b4 rfl)⟩))
   ·refine aL p Z (aY (aC (aM (aT b2 (aT b3 (aH (v:=str b.1) (aH (v:=zS j c.length k) (aH (v:=zB true) (aI ?_)))))))))
    obtain rfl:=zI a
    exact bH (retQ_3 Tryz.results161 rfl rfl rfl ⟨j,k,rfl,a0⟩)
  refine aS (aP (v:=zB d.2) (aF (fC rfl) (aP (v:=zB (!d.2)) ?_)))
  rcases aJ a with ⟨e,a⟩|⟨e,a⟩
  ·exact bC e rfl rfl (bC e rfl rfl (bC e rfl rfl (aF (bO (v:=zB true) e rfl rfl) (aI ⟨true,a,m,n,rfl,V⟩))))
  ·exact bP e rfl rfl (aP (v:=str d.1) (bP e rfl rfl (aT e8 (bP e rfl rfl (aF (aEq rfl rfl) (aF (bV (v:=zB (!(d.1 == h))) e rfl rfl) (aI ⟨!(d.1 == h),a,m,n,rfl,V⟩)))))))
 refine aM (aP (v:=zB b.2.2) (aI ?_))
 rcases aJ a with ⟨q,a⟩|⟨q,a⟩
 ·refine aO q rfl (aM (aH (v:=zB false) (aI (aM (aP (v:=str b.2.1) ?_)))))
  obtain ⟨b7,b8,a⟩:=aD a
  refine aU (vs:=[str b.2.1,str ([41]:bB)]) Tryz.call219 rfl (aBB J b8) ?_
  rintro _ e0 ⟨rfl,b9⟩
  obtain ⟨c0,c1,a⟩:=aD a
  refine aU (vs:=[str b7,str ([44]:bB)]) Tryz.call218 rfl (lib_Split b9 c1) ?_
  rintro _ e1 ⟨c2,c3,rfl,c4⟩
  obtain ⟨e2,e3,c5,c6,c8⟩:=aK.lendS (i:=0) c4 (zR _) rfl
  obtain ⟨l,c9,a⟩:=aD a
  refine aU (vs:=[zS c2 c0.length c3]) Tryz.call217 rfl (aEy c6 x c5 c9) ?_
  rintro _ e4 ⟨r,t,rfl,d0⟩
  have a1:=c8 _ _ d0
  refine aP (v:=zT #[zS r l.1.length t,zB l.2]) (aF (bM rfl rfl) (aF (bM rfl rfl) (aH (v:=zS r l.1.length t) (aH (v:=zB l.2) (aI (aM (aP (v:=zB l.2) (aF (fC rfl) (aI ?_)))))))))
  rcases aJ a with ⟨u,a⟩|⟨u,a⟩
  ·refine aO u rfl (aM (aH (v:=str ([]:bB)) (aH (v:=zS none 0 0) (aH (v:=zB false) (aI ?_)))))
   have d1:=aK.nil (α:=Int) a1 2 K
   obtain rfl:=zI a
   exact bH (aR (retQ_3 Tryz.results161 rfl rfl rfl ⟨none,0,rfl,(aK.arr 3 [0] d1 rfl)⟩))
  ·exact aL u rfl (aY (aC ⟨l.1,r,t,a,rfl,rfl,rfl,(aK.arr 1 [] a1 rfl)⟩))
 ·refine aL q rfl ?_
  have d3:=aK.nil (α:=Int) J 2 K
  exact aY (aC ⟨[],none,0,a,rfl,rfl,rfl,d3⟩)
theorem aHk {b:bB} {R:Bool} (g:aK G K (L) w) (h:G.lo=0) (c:aCl b=some R):
  Calls Tryz.prog 79 ([str b]:List Value).toArray w (iK fun v w'=>v=zB R∧aK G K (L) w'):=by
 refine aX Tryz.func79 rfl (by kernel_rfl) (by show (1:Nat)≤13;decide) ?_
 unfold aCl at c
 refine aM (aH (v:=zB false) (aI (aM (aP (v:=str b) ?_))))
 obtain ⟨a,i,c⟩:=aD c
 refine aU (vs:=[str b]) Tryz.call161 rfl (aFF g h i) ?_
 rintro _ l ⟨d,e,rfl,j⟩
 refine aP (v:=zT #[str a.1,zS d a.2.1.length e,zB a.2.2]) (aF (bM rfl rfl) (aF (bM rfl rfl) (aF (bM rfl rfl) (aH (v:=str a.1) (aH (v:=zS d a.2.1.length e) (aH (v:=zB a.2.2) (aI (aM (aP (v:=zB a.2.2) (aH (v:=zB a.2.2) (aI ?_)))))))))))
 obtain rfl:=zI c
 exact bH (bF Tryz.results79 rfl ⟨rfl,(aK.arr 1 [] j rfl)⟩)
theorem aFG {a:(List bB)} {left R:Int} (o:aK G K (L) w) (p:dB K a1 c2 a) (b:zX a left=some R):
  Calls Tryz.prog 21 ([zS a1 a.length c2,i64 left]:List Value).toArray w (iK fun v w'=>v=i64 R∧aK G K (L) w'):=by
 refine aX Tryz.func21 rfl (by kernel_rfl) (by show (2:Nat)≤28;decide) ?_
 unfold zX at b
 refine aM (aH (v:=i64 0) (aI (aM (aP (v:=i64 left) (aP (v:=zS a1 a.length c2) (aF (bN (len:=a.length) cF rfl) (aF (kL rfl rfl) (aH (v:=i64 (wr (left - (a.length:Int)))) (aI (aQ (aM (aP (v:=i64 (wr (left - (a.length:Int)))) (aF (cG rfl rfl) (aI ?_))))))))))))))
 rcases aJ b with ⟨i,b⟩|⟨i,b⟩
 ·refine aO i rfl (aM (aH (v:=i64 (-1)) (aI ?_)))
  obtain rfl:=zI b
  exact bH (aR (bF Tryz.results21 rfl ⟨rfl,o⟩))
 ·refine aL i rfl (aY (aC (aQ (aM (aH (v:=i64 0) (aI (bE (fun f w=>∃ (g:Int),wQ g=some R∧f 1=i64 g∧aK G K (L) w) ?_ ?_)))))))
  ·rintro f w8 ⟨g,b,y,z⟩
   unfold wQ at b
   refine aC (aM (aT y (aH (v:=i64 g) (aI ?_))))
   obtain rfl:=zI b
   exact bH (bF Tryz.results21 rfl ⟨rfl,z⟩)
  obtain ⟨a7,V,b⟩:=aD b
  refine cD V (fun (s:(Int × Int)) f w=>match s with|(d,e)=>f 0=zS a1 a.length c2∧f 1=i64 d∧f 5=i64 e∧aK G K (L) w) ?_ ?_
  ·exact ⟨rfl,rfl,rfl,o⟩
  ·rintro ⟨d,e⟩ Z f a8 c q ⟨j,r,k,h⟩
   replace c:rM a d e=some Z:=c
   unfold rM at c
   refine aQ (aM (aT k (aT j (aF (bN (len:=a.length) cF rfl) (aF (cG rfl rfl) (aI ?_))))))
   rcases aJ c with ⟨l,c⟩|⟨l,c⟩
   ·refine aO l rfl (aY (aC (aQ (cW (aM (aT r (aT j (aT k ?_))))))))
    obtain ⟨m,u,c⟩:=aD c
    refine aF (dN cF rfl p rfl rfl rfl u) ?_
    obtain ⟨a9,a0,a2⟩:=dB.el (sz:=1) rfl p u
    cases a2
    refine aF (bK (t:=0) mV h a0 rfl rfl) (aF (iG Tryz.runUnderlying9 rfl) (aF (kL rfl rfl) (aH (v:=i64 (wr (d - (m.length:Int)))) (aI (aM (aP (v:=i64 (wr (d - (m.length:Int)))) (aF (cG rfl rfl) (aI ?_))))))))
    rcases aJ c with ⟨n,c⟩|⟨n,c⟩
    ·refine aO n rfl (aM (aH (v:=i64 (-1)) (aI (bH (bQ (aR (aR ?_)))))))
     have a3:=q _ (zI c).symm
     subst a3
     have b:(some (-1))=some R:=b
     obtain rfl:=zI b
     exact bQ (aR (aR (bF Tryz.results21 rfl ⟨rfl,h⟩)))
    ·exact aL n rfl (aY (bG (aC (aS (aT k (aF (cQ rfl rfl) (aH (v:=i64 (wr (e+1))) (aI ⟨(wr (d - (m.length:Int)),wr (e+1)),(zI c).symm,j,rfl,rfl,h⟩))))))))
   ·refine aL l rfl (cB (aV (aV ?_)))
    have a5:=q _ (zI c).symm
    subst a5
    have b:(wQ d)=some R:=b
    exact bJ (aC ⟨d,b,r,h⟩)
theorem aHl {a:(List Edge)} {left R:Int} (d:aK G K (L) w) (h:dB K a1 c2 a) (b:aCm a left=some R):
  Calls Tryz.prog 22 ([zS a1 a.length c2,i64 left]:List Value).toArray w (iK fun v w'=>v=i64 R∧aK G K (L) w'):=by
 refine aX Tryz.func22 rfl (by kernel_rfl) (by show (2:Nat)≤12;decide) ?_
 unfold aCm at b
 refine aM (aH (v:=i64 0) (aI (aM (aP (v:=i64 left) (aP (v:=zS a1 a.length c2) (aF (bN (len:=a.length) sl_23 rfl) (aF (kL rfl rfl) (aH (v:=i64 (wr (left - (a.length:Int)))) (aI (aQ (aM (aP (v:=i64 (wr (left - (a.length:Int)))) (aF (cG rfl rfl) (aI ?_))))))))))))))
 rcases aJ b with ⟨c,b⟩|⟨c,b⟩
 ·refine aO c rfl (aM (aH (v:=i64 (-1)) (aI ?_)))
  obtain rfl:=zI b
  exact bH (aR (bF Tryz.results22 rfl ⟨rfl,d⟩))
 ·refine aL c rfl (aY (aC (aM (aP (v:=i64 (wr (left - (a.length:Int)))) (aH (v:=i64 (wr (left - (a.length:Int)))) (aI ?_))))))
  obtain rfl:=zI b
  exact bH (bF Tryz.results22 rfl ⟨rfl,d⟩)
theorem aFb {a:cN} {left R:Int} (l:aK G K (L) w) (m:dB K a1 c2 a.L) (n:dB K a4 c5 a.E) (b:aDS a left=some R):
  Calls Tryz.prog 6 ([zA (zCa a a1 c2 a4 c5),i64 left]:List Value).toArray w (iK fun v w'=>v=i64 R∧aK G K (L) w'):=by
 refine aX Tryz.func6 rfl (by kernel_rfl) (by show (2:Nat)≤18;decide) ?_
 unfold aDS at b
 refine aM (gP (v:=zA (zCa a a1 c2 a4 c5)) (vs:=(zC a a1 c2 a4 c5)) l rfl rfl (fun u x j=>(aH (v:=i64 0) (aI (aM (aF (bL (t':=2) fa_25_2 rfl rfl) (aF (cC iT j (i:=0) rfl rfl rfl) (aP (v:=i64 left) ?_))))))))
 obtain ⟨c,o,b⟩:=aD b
 refine aU (vs:=[zS a1 a.L.length c2,i64 left]) Tryz.call21 rfl (aFG j m o) ?_
 rintro _ y ⟨rfl,e⟩
 refine aH (v:=i64 c) (aI (aQ (aM (aP (v:=i64 c) (aF (cG rfl rfl) (aI ?_))))))
 rcases aJ b with ⟨g,b⟩|⟨g,b⟩
 ·refine aO g rfl (aM (aH (v:=i64 (-1)) (aI ?_)))
  obtain rfl:=zI b
  exact bH (aR (bF Tryz.results6 rfl ⟨rfl,(aK.arr 1 [] e rfl)⟩))
 ·refine aL g rfl (aY (aC (aM (aF (bL (t':=3) fa_25_3 rfl rfl) (aF (cC sc_23 e (i:=0) rfl rfl rfl) (aP (v:=i64 c) ?_))))))
  obtain ⟨d,q,b⟩:=aD b
  refine aU (vs:=[zS a4 a.E.length c5,i64 c]) Tryz.call22 rfl (aHl e n q) ?_
  rintro _ z ⟨rfl,k⟩
  refine aH (v:=i64 d) (aI (aQ (aM (aP (v:=i64 d) (aF (cG rfl rfl) (aI ?_))))))
  rcases aJ b with ⟨h,b⟩|⟨h,b⟩
  ·refine aO h rfl (aM (aH (v:=i64 (-1)) (aI ?_)))
   obtain rfl:=zI b
   exact bH (aR (bF Tryz.results6 rfl ⟨rfl,(aK.arr 1 [] k rfl)⟩))
  ·refine aL h rfl (aY (aC (aM (aP (v:=i64 d) (aH (v:=i64 d) (aI ?_))))))
   obtain rfl:=zI b
   exact bH (bF Tryz.results6 rfl ⟨rfl,(aK.arr 1 [] k rfl)⟩)
theorem aFH {a R:(List bB)} (hs:aK G K (L) w) (x:dB K a1 c2 a) (d:zY a=some R):
  Calls Tryz.prog 29 ([zS a1 a.length c2]:List Value).toArray w (iK fun v w'=>∃ (y:Option Addr) (z:Nat),v=zS y R.length z∧aK G K (aN 9 K y z R::L) w'):=by
 refine aX Tryz.func29 rfl (by kernel_rfl) (by show (1:Nat)≤22;decide) ?_
 unfold zY at d
 refine aM (aH (v:=zS none 0 0) (aI (aM (aP (v:=zS a1 a.length c2) (aF (bN (len:=a.length) cF rfl) ?_)))))
 obtain ⟨c,q5,d⟩:=aD d
 refine aDp (e:=([]:bB)) cF vJ rfl rfl hs rfl rfl rfl q5 rfl (fun g w7 (a5:aK G K (aN 9 K g c.length c::L) w7)=>(aH (v:=zS g c.length c.length) (aI (aQ (aM (aH (v:=i64 0) (aI (bE (fun f w=>∃ (k:List bB),wR k=some R∧f 3=zS g k.length c.length∧aK G K (aN 9 K g c.length k::L) w) ?_ ?_))))))))
 ·rintro f b9 ⟨k,d,a7,a8⟩
  unfold wR at d
  refine aC (aM (aT a7 (aH (v:=zS g k.length c.length) (aI ?_))))
  obtain rfl:=zI d
  exact bH (bF Tryz.results29 rfl ⟨g,c.length,rfl,a8⟩)
 obtain ⟨c0,b0,d⟩:=aD d
 refine cD b0 (fun (s:(List bB × Int)) f w=>match s with|(j,l)=>f 0=zS a1 a.length c2∧f 3=zS g j.length c.length∧f 4=i64 l∧aK G K (aN 9 K g c.length j::L) w) ?_ ?_
 ·exact ⟨rfl,rfl,rfl,a5⟩
 ·rintro ⟨j,l⟩ b1 f c1 b b2 ⟨p,q,m,o⟩
  replace b:rN a j l=some b1:=b
  unfold rN at b
  refine aQ (aM (aT m (aT p (aF (bN (len:=a.length) cF rfl) (aF (cG rfl rfl) (aI ?_))))))
  rcases aJ b with ⟨r,b⟩|⟨r,b⟩
  ·refine aO r rfl (aY (aC (aQ (cW (aS (aT q (aT m (aT p (aT m ?_)))))))))
   obtain ⟨J,V,b⟩:=aD b
   refine aF (dN cF rfl x rfl rfl rfl V) ?_
   obtain ⟨c3,b3,b4⟩:=dB.el (sz:=1) rfl x V
   cases b4
   refine aF (bK (t:=0) mV o b3 rfl rfl) ?_
   obtain ⟨c4,u,b⟩:=aD b
   have b5:=cY o (i:=0) rfl u
   refine aF (dW cF rfl b5 rfl rfl rfl u) ?_
   obtain ⟨Z,a0,b⟩:=aD b
   exact mW (i:=0) (t:=0) (ns:=[str J]) (e':=(J:bB)) Tryz.sizeOf9 o rfl (zR _) rfl rfl rfl u a0 rfl rfl (cX rfl) rfl (fun cs h=>by cases h;rfl) (fun b6 (b7:aK G K (aN 9 K g c.length Z::L) b6)=>(bA (bG (aC (aS (aT m (aF (cQ rfl rfl) (aH (v:=i64 (wr (l+1))) (aI ⟨(Z,wr (l+1)),(zI b).symm,p,(Eq.trans q (congrArg (fun n=>zS g n c.length) (jP a0))),rfl,b7⟩)))))))))
  ·refine aL r rfl (cB (aV (aV ?_)))
   have b8:=b2 _ (zI b).symm
   subst b8
   have d:(wR j)=some R:=d
   exact bJ (aC ⟨j,d,q,o⟩)
theorem aIx {a R:Edge} (n:aK G K (L) w) (g:aEX a=some R):
  Calls Tryz.prog 76 ([zA #[i64 a.F,i64 a.B,i64 a.To]]:List Value).toArray w (iK fun v w'=>v=zA #[i64 R.F,i64 R.B,i64 R.To]∧aK G K (L) w'):=by
 let b:=[i64 a.F,i64 a.B,i64 a.To]
 refine aX Tryz.func76 rfl (by kernel_rfl) (by show (1:Nat)≤14;decide) ?_
 unfold aEX at g
 refine aM (gP (v:=zA #[i64 a.F,i64 a.B,i64 a.To]) (vs:=b) n rfl rfl (fun c y o=>(bS (vs:=[i64 0,i64 0,i64 0]) Tryz.zeroValue63 o rfl (fun d z p=>(aI (aM (bS (vs:=[i64 0,i64 0,i64 0]) Tryz.zeroValue63 p rfl (fun e J h=>(aI (aM (aF (bL (t':=0) fa_113_0 rfl rfl) (aF (cC cV h (i:=2) rfl rfl rfl) (aF (bL (t':=0) kG rfl rfl) (bR (i:=0) (ns:=[i64 a.F]) (us:=[i64 a.F,i64 0,i64 0]) Tryz.sizeOf2 h rfl rfl rfl rfl rfl (cX rfl) rfl rfl (fun q (j:aK G K (box e 63 [i64 a.F,i64 0,i64 0]::box d 63 [i64 0,i64 0,i64 0]::box c 113 b::L) q)=>(aI (aM (aF (bL (t':=1) fa_113_1 rfl rfl) (aF (cC cV j (i:=2) rfl rfl rfl) (aF (bL (t':=1) iF rfl rfl) (bR (i:=0) (ns:=[i64 a.B]) (us:=[i64 a.F,i64 a.B,i64 0]) Tryz.sizeOf2 j rfl rfl rfl rfl rfl (cX rfl) rfl rfl (fun r (k:aK G K (box e 63 [i64 a.F,i64 a.B,i64 0]::box d 63 [i64 0,i64 0,i64 0]::box c 113 b::L) r)=>(aI ?_)))))))))))))))))))))))
 refine aM (aF (bL (t':=2) fa_113_2 rfl rfl) (aF (cC cV k (i:=2) rfl rfl rfl) (aF (bL (t':=2) gX rfl rfl) (bR (i:=0) (ns:=[i64 a.To]) (us:=b) Tryz.sizeOf2 k rfl rfl rfl rfl rfl (cX rfl) rfl rfl (fun t (l:aK G K (box e 63 b::box d 63 [i64 0,i64 0,i64 0]::box c 113 b::L) t)=>(aI (aM (aF (dX (us:=b) lU l (i:=0) rfl rfl rfl rfl) (bR (i:=1) (ns:=b) (us:=b) Tryz.sizeOf63 l rfl rfl rfl rfl rfl (cX rfl) rfl rfl (fun u (m:aK G K (box e 63 b::box d 63 b::box c 113 b::L) u)=>(aI ?_)))))))))))
 obtain rfl:=zI g
 exact bH (aBK Tryz.results76 (dZ (vs:=b) rfl lU m (i:=1) rfl rfl rfl) ⟨rfl,(aK.arr 3 [] m rfl)⟩)
theorem aHm {a R:(List Edge)} (hs:aK G K (L) w) (z:dB K a1 c2 a) (d:aCn a=some R):
  Calls Tryz.prog 30 ([zS a1 a.length c2]:List Value).toArray w (iK fun v w'=>∃ (J:Option Addr) (V:Nat),v=zS J R.length V∧aK G K (aN 63 K J V R::L) w'):=by
 refine aX Tryz.func30 rfl (by kernel_rfl) (by show (1:Nat)≤23;decide) ?_
 unfold aCn at d
 refine aM (aH (v:=zS none 0 0) (aI (aM (aP (v:=zS a1 a.length c2) (aF (bN (len:=a.length) sl_23 rfl) ?_)))))
 obtain ⟨c,q5,d⟩:=aD d
 refine aDp (e:=(⟨0,0,0⟩:Edge)) cK mD rfl rfl hs rfl rfl rfl q5 rfl (fun g w7 (a8:aK G K (aN 63 K g c.length c::L) w7)=>(aH (v:=zS g c.length c.length) (aI (aQ (aM (aH (v:=i64 0) (aI (bE (fun f w=>∃ (m:List Edge),aAA m=some R∧f 3=zS g m.length c.length∧aK G K (aN 63 K g c.length m::L) w) ?_ ?_))))))))
 ·rintro f c3 ⟨m,d,a9,b0⟩
  unfold aAA at d
  refine aC (aM (aT a9 (aH (v:=zS g m.length c.length) (aI ?_))))
  obtain rfl:=zI d
  exact bH (bF Tryz.results30 rfl ⟨g,c.length,rfl,b0⟩)
 obtain ⟨c4,b2,d⟩:=aD d
 refine cD b2 (fun (s:(List Edge × Int)) f w=>match s with|(j,o)=>f 0=zS a1 a.length c2∧f 3=zS g j.length c.length∧f 4=i64 o∧aK G K (aN 63 K g c.length j::L) w) ?_ ?_
 ·exact ⟨rfl,rfl,rfl,a8⟩
 ·rintro ⟨j,o⟩ b3 f c5 b b4 ⟨q,r,p,u⟩
  replace b:wS a j o=some b3:=b
  unfold wS at b
  refine aQ (aM (aT p (aT q (aF (bN (len:=a.length) sl_23 rfl) (aF (cG rfl rfl) (aI ?_))))))
  rcases aJ b with ⟨x,b⟩|⟨x,b⟩
  ·refine aO x rfl (aY (aC (aQ (cW (aS (aT r (aT p (aT q (aT p ?_)))))))))
   obtain ⟨k,Z,b⟩:=aD b
   refine aF (dN sl_23 rfl z rfl rfl rfl Z) ?_
   obtain ⟨c6,b5,b6⟩:=dB.el (sz:=3) rfl z Z
   cases b6
   refine aF (fZ (t:=0) (vs:=[i64 k.F,i64 k.B,i64 k.To]) ag_113 u b5 rfl rfl rfl) ?_
   obtain ⟨l,b7,b⟩:=aD b
   refine aU (vs:=[zA #[i64 k.F,i64 k.B,i64 k.To]]) Tryz.call76 rfl (aIx u b7) ?_
   rintro _ c7 ⟨rfl,a0⟩
   obtain ⟨c8,y,b⟩:=aD b
   have b8:=cY a0 (i:=0) rfl y
   refine aF (dW cK rfl b8 rfl rfl rfl y) ?_
   obtain ⟨a2,a3,b⟩:=aD b
   exact mW (i:=0) (t:=0) (ns:=[i64 l.F,i64 l.B,i64 l.To]) (e':=(⟨l.F,l.B,l.To⟩:Edge)) Tryz.sizeOf63 a0 rfl (zR _) rfl rfl rfl y a3 rfl rfl (cX rfl) rfl (fun cs h=>by cases h;rfl) (fun b9 (c0:aK G K (aN 63 K g c.length a2::L) b9)=>(bA (bG (aC (aS (aT p (aF (cQ rfl rfl) (aH (v:=i64 (wr (o+1))) (aI ⟨(a2,wr (o+1)),(zI b).symm,q,(Eq.trans r (congrArg (fun n=>zS g n c.length) (jP a3))),rfl,c0⟩)))))))))
  ·refine aL x rfl (cB (aV (aV ?_)))
   have c1:=b4 _ (zI b).symm
   subst c1
   have d:(aAA j)=some R:=d
   exact bJ (aC ⟨j,d,r,u⟩)
theorem iA {a R:cN} (hs:aK G K (L) w) (h3:dB K a1 c2 a.L) (h6:dB K a4 c5 a.E) (j:uU a=some R):
  Calls Tryz.prog 8 ([zA (zCa a a1 c2 a4 c5)]:List Value).toArray w (iK fun v w'=>∃ (p:Option Addr) (q:Nat) (r:Option Addr) (t:Nat),v=zA (zCa R p q r t)∧aK G K (aN 9 K p q R.L::aN 63 K r t R.E::L) w'):=by
 let k:=(zC a a1 c2 a4 c5)
 let l:=zG
 let u:=[i64 a.N,i64 a.I,zS none 0 0,zS none 0 0]
 let x:=[i64 a.N,i64 0,zS none 0 0,zS none 0 0]
 refine aX Tryz.func8 rfl (by kernel_rfl) (by show (1:Nat)≤19;decide) ?_
 unfold uU at j
 refine aM (gP (v:=zA (zCa a a1 c2 a4 c5)) (vs:=k) hs rfl rfl (fun m w8 a6=>(bS (vs:=l) Tryz.zeroValue29 a6 rfl (fun n c0 a7=>(aI (aM (bS (vs:=l) Tryz.zeroValue29 a7 rfl (fun o c1 y=>(aI (aM (aF (bL (t':=0) fa_25_0 rfl rfl) (aF (cC cV y (i:=2) rfl rfl rfl) (aF (bL (t':=0) iZ rfl rfl) (bR (i:=0) (ns:=[i64 a.N]) (us:=x) Tryz.sizeOf2 y rfl rfl rfl rfl rfl (cX rfl) rfl rfl (fun a8 (z:aK G K (box o 29 x::box n 29 l::box m 25 k::L) a8)=>(aI (aM (aF (bL (t':=1) fa_25_1 rfl rfl) (aF (cC cV z (i:=2) rfl rfl rfl) (aF (bL (t':=1) sN rfl rfl) (bR (i:=0) (ns:=[i64 a.I]) (us:=u) Tryz.sizeOf2 z rfl rfl rfl rfl rfl (cX rfl) rfl rfl (fun a9 (J:aK G K (box o 29 u::box n 29 l::box m 25 k::L) a9)=>(aI ?_)))))))))))))))))))))))
 refine aM (aF (bL (t':=2) fa_25_2 rfl rfl) (aF (cC iT J (i:=2) rfl rfl rfl) ?_))
 obtain ⟨d,b0,j⟩:=aD j
 refine aU (vs:=[zS a1 a.L.length c2]) Tryz.call29 rfl (aFH J h3 b0) ?_
 rintro _ c3 ⟨b,c,rfl,b1⟩
 refine aF (bL (t':=2) eG rfl rfl) (bR (i:=1) (ns:=[zS b d.length c]) (us:=[i64 a.N,i64 a.I,zS b d.length c,zS none 0 0]) Tryz.sizeOf22 b1 rfl rfl rfl rfl rfl (cX rfl) rfl rfl (fun b2 (V:aK G K (aN 9 K b c d::box o 29 [i64 a.N,i64 a.I,zS b d.length c,zS none 0 0]::box n 29 l::box m 25 k::L) b2)=>(aI (aM (aF (bL (t':=3) fa_25_3 rfl rfl) (aF (cC sc_23 V (i:=3) rfl rfl rfl) ?_))))))
 obtain ⟨h,b3,j⟩:=aD j
 refine aU (vs:=[zS a4 a.E.length c5]) Tryz.call30 rfl (aHm V h6 b3) ?_
 rintro _ c4 ⟨e,g,rfl,b4⟩
 refine aF (bL (t':=3) eR rfl rfl) (bR (i:=2) (ns:=[zS e h.length g]) (us:=[i64 a.N,i64 a.I,zS b d.length c,zS e h.length g]) Tryz.sizeOf27 b4 rfl rfl rfl rfl rfl (cX rfl) rfl rfl (fun b5 (Z:aK G K (aN 63 K e g h::aN 9 K b c d::box o 29 [i64 a.N,i64 a.I,zS b d.length c,zS e h.length g]::box n 29 l::box m 25 k::L) b5)=>(aI (aM (aF (dX (us:=[i64 a.N,i64 a.I,zS b d.length c,zS e h.length g]) dI Z (i:=2) rfl rfl rfl rfl) (bR (i:=3) (ns:=[i64 a.N,i64 a.I,zS b d.length c,zS e h.length g]) (us:=[i64 a.N,i64 a.I,zS b d.length c,zS e h.length g]) Tryz.sizeOf29 Z rfl rfl rfl rfl rfl (cX rfl) rfl rfl (fun b6 (a0:aK G K (aN 63 K e g h::aN 9 K b c d::box o 29 [i64 a.N,i64 a.I,zS b d.length c,zS e h.length g]::box n 29 [i64 a.N,i64 a.I,zS b d.length c,zS e h.length g]::box m 25 k::L) b6)=>(aI ?_))))))))
 obtain rfl:=zI j
 exact bH (aBK Tryz.results8 (dZ (vs:=[i64 a.N,i64 a.I,zS b d.length c,zS e h.length g]) rfl dI a0 (i:=3) rfl rfl rfl) ⟨b,c,e,g,rfl,(aK.arr 5 [1,0] a0 rfl)⟩)
theorem aFI {a b:(List bB)} {R:Bool} (m:aK G K (L) w) (n:dB K a1 c2 a) (o:dB K a4 c5 b) (c:zZ a b=some R):
  Calls Tryz.prog 38 ([zS a1 a.length c2,zS a4 b.length c5]:List Value).toArray w (iK fun v w'=>v=zB R∧aK G K (L) w'):=by
 refine aX Tryz.func38 rfl (by kernel_rfl) (by show (2:Nat)≤26;decide) ?_
 unfold zZ at c
 refine aM (aH (v:=zB false) (aI (aQ (aM (aP (v:=zS a1 a.length c2) (aF (bN (len:=a.length) cF rfl) (aP (v:=zS a4 b.length c5) (aF (bN (len:=b.length) cF rfl) (aF (oO rfl rfl) (aI ?_))))))))))
 rcases aJ c with ⟨i,c⟩|⟨i,c⟩
 ·refine aO i rfl (aM (aH (v:=zB false) (aI ?_)))
  obtain rfl:=zI c
  exact bH (aR (bF Tryz.results38 rfl ⟨rfl,m⟩))
 ·refine aL i rfl (aY (aC (aQ (aM (aH (v:=i64 0) (aI (bE (fun f w=>wT=some R∧aK G K (L) w) ?_ ?_)))))))
  ·rintro f w9 ⟨c,z⟩
   unfold wT at c
   refine aC (aM (aH (v:=zB true) (aI ?_)))
   obtain rfl:=zI c
   exact bH (bF Tryz.results38 rfl ⟨rfl,z⟩)
  obtain ⟨b0,V,c⟩:=aD c
  refine cD V (fun (g:Int) f w=>f 0=zS a1 a.length c2∧f 1=zS a4 b.length c5∧f 5=i64 g∧aK G K (L) w) ?_ ?_
  ·exact ⟨rfl,rfl,rfl,m⟩
  ·rintro g Z f b1 d p ⟨j,q,h,e⟩
   replace d:oT a b g=some Z:=d
   unfold oT at d
   refine aQ (aM (aT h (aT j (aF (bN (len:=a.length) cF rfl) (aF (cG rfl rfl) (aI ?_))))))
   rcases aJ d with ⟨k,d⟩|⟨k,d⟩
   ·refine aO k rfl (aY (aC (aQ (cW (aQ (dR (C:=fun w'=>aK G K (L) w') bT (by kernel_rfl) (aK.mono e (dQ.drew _)) (aW (fun _ e=>aZ j) (aW (fun _ e=>aZ h) ?_))))))))
    obtain ⟨b2,r,d⟩:=aD d
    refine aW (fun _ e=>dN cF rfl n rfl rfl rfl r) ?_
    obtain ⟨b3,a0,a2⟩:=dB.el (sz:=1) rfl n r
    cases a2
    refine aW (fun _ e=>bK (t:=0) mV e a0 rfl rfl) (aW (fun _ e=>aZ q) (aW (fun _ e=>aZ h) ?_))
    obtain ⟨b4,u,d⟩:=aD d
    refine aW (fun _ e=>dN cF rfl o rfl rfl rfl u) ?_
    obtain ⟨b5,a3,a5⟩:=dB.el (sz:=1) rfl o u
    cases a5
    refine aW (fun _ e=>bK (t:=0) mV e a3 rfl rfl) (aW (fun _ e=>aEq rfl rfl) (eF (fun b6 x=>(aC ?_))))
    rcases aJ d with ⟨l,d⟩|⟨l,d⟩
    ·refine aO l rfl (aM (aH (v:=zB false) (aI (bH (bQ (aR (aR ?_)))))))
     have a6:=p _ (zI d).symm
     subst a6
     have c:(some false)=some R:=c
     obtain rfl:=zI c
     exact bQ (aR (aR (bF Tryz.results38 rfl ⟨rfl,x⟩)))
    ·exact aL l rfl (aY (bG (aC (aS (aT h (aF (cQ rfl rfl) (aH (v:=i64 (wr (g+1))) (aI ⟨wr (g+1),(zI d).symm,j,q,rfl,x⟩))))))))
   ·refine aL k rfl (cB (aV (aV ?_)))
    have a8:=p _ (zI d).symm
    subst a8
    have c:(wT)=some R:=c
    exact bJ (aC ⟨c,e⟩)
theorem aIy {a b:Edge} {R:Bool} (j:aK G K (L) w) (c:aDv a b=some R):
  Calls Tryz.prog 98 ([zA #[i64 a.F,i64 a.B,i64 a.To],zA #[i64 b.F,i64 b.B,i64 b.To]]:List Value).toArray w (iK fun v w'=>v=zB R∧aK G K (L) w'):=by
 refine aX Tryz.func98 rfl (by kernel_rfl) (by show (2:Nat)≤20;decide) ?_
 unfold aDv at c
 refine aM (gP (v:=zA #[i64 a.F,i64 a.B,i64 a.To]) (vs:=[i64 a.F,i64 a.B,i64 a.To]) j rfl rfl (fun p q k=>(gP (v:=zA #[i64 b.F,i64 b.B,i64 b.To]) (vs:=[i64 b.F,i64 b.B,i64 b.To]) k rfl rfl (fun r t d=>(aH (v:=zB false) (aI (aQ (aM (aF (bL (t':=0) kG rfl rfl) (aF (cC cV d (i:=1) rfl rfl rfl) (aF (bL (t':=0) kG rfl rfl) (aF (cC cV d (i:=0) rfl rfl rfl) (aF (oO rfl rfl) (aI ?_))))))))))))))
 rcases aJ c with ⟨e,c⟩|⟨e,c⟩
 ·refine aO e rfl (aM (aH (v:=zB false) (aI ?_)))
  obtain rfl:=zI c
  exact bH (aR (bF Tryz.results98 rfl ⟨rfl,(aK.arr 2 [] d rfl)⟩))
 ·refine aL e rfl (aY (aC (aQ (aM (aF (bL (t':=1) iF rfl rfl) (aF (cC cV d (i:=1) rfl rfl rfl) (aF (bL (t':=1) iF rfl rfl) (aF (cC cV d (i:=0) rfl rfl rfl) (aF (oO rfl rfl) (aI ?_))))))))))
  rcases aJ c with ⟨g,c⟩|⟨g,c⟩
  ·refine aO g rfl (aM (aH (v:=zB false) (aI ?_)))
   obtain rfl:=zI c
   exact bH (aR (bF Tryz.results98 rfl ⟨rfl,(aK.arr 2 [] d rfl)⟩))
  ·refine aL g rfl (aY (aC (aQ (aM (aF (bL (t':=2) gX rfl rfl) (aF (cC cV d (i:=1) rfl rfl rfl) (aF (bL (t':=2) gX rfl rfl) (aF (cC cV d (i:=0) rfl rfl rfl) (aF (oO rfl rfl) (aI ?_))))))))))
   rcases aJ c with ⟨h,c⟩|⟨h,c⟩
   ·refine aO h rfl (aM (aH (v:=zB false) (aI ?_)))
    obtain rfl:=zI c
    exact bH (aR (bF Tryz.results98 rfl ⟨rfl,(aK.arr 2 [] d rfl)⟩))
   ·refine aL h rfl (aY (aC (aM (aH (v:=zB true) (aI ?_)))))
    obtain rfl:=zI c
    exact bH (bF Tryz.results98 rfl ⟨rfl,(aK.arr 2 [] d rfl)⟩)
theorem aHn {a b:(List Edge)} {R:Bool} (o:aK G K (L) w) (p:dB K a1 c2 a) (q:dB K a4 c5 b) (d:aCo a b=some R):
  Calls Tryz.prog 39 ([zS a1 a.length c2,zS a4 b.length c5]:List Value).toArray w (iK fun v w'=>v=zB R∧aK G K (L) w'):=by
 refine aX Tryz.func39 rfl (by kernel_rfl) (by show (2:Nat)≤27;decide) ?_
 unfold aCo at d
 refine aM (aH (v:=zB false) (aI (aQ (aM (aP (v:=zS a1 a.length c2) (aF (bN (len:=a.length) cK rfl) (aP (v:=zS a4 b.length c5) (aF (bN (len:=b.length) cK rfl) (aF (oO rfl rfl) (aI ?_))))))))))
 rcases aJ d with ⟨k,d⟩|⟨k,d⟩
 ·refine aO k rfl (aM (aH (v:=zB false) (aI ?_)))
  obtain rfl:=zI d
  exact bH (aR (bF Tryz.results39 rfl ⟨rfl,o⟩))
 ·refine aL k rfl (aY (aC (aQ (aM (aH (v:=i64 0) (aI (bE (fun f w=>aAB=some R∧aK G K (L) w) ?_ ?_)))))))
  ·rintro f w9 ⟨d,V⟩
   unfold aAB at d
   refine aC (aM (aH (v:=zB true) (aI ?_)))
   obtain rfl:=zI d
   exact bH (bF Tryz.results39 rfl ⟨rfl,V⟩)
  obtain ⟨b4,a0,d⟩:=aD d
  refine cD a0 (fun (i:Int) f w=>f 0=zS a1 a.length c2∧f 1=zS a4 b.length c5∧f 5=i64 i∧aK G K (L) w) ?_ ?_
  ·exact ⟨rfl,rfl,rfl,o⟩
  ·rintro i a2 f b5 c r ⟨l,u,j,e⟩
   replace c:sQ a b i=some a2:=c
   unfold sQ at c
   refine aQ (aM (aT j (aT l (aF (bN (len:=a.length) cK rfl) (aF (cG rfl rfl) (aI ?_))))))
   rcases aJ c with ⟨m,c⟩|⟨m,c⟩
   ·refine aO m rfl (aY (aC (aQ (cW (aQ (dR (C:=fun w'=>aK G K (L) w') bT (by kernel_rfl) (aK.mono e (dQ.drew _)) (aW (fun _ e=>aZ l) (aW (fun _ e=>aZ j) ?_))))))))
    obtain ⟨g,x,c⟩:=aD c
    refine aW (fun _ e=>dN cK rfl p rfl rfl rfl x) ?_
    obtain ⟨b6,a3,a5⟩:=dB.el (sz:=3) rfl p x
    cases a5
    refine aW (fun _ e=>fZ (t:=0) (vs:=[i64 g.F,i64 g.B,i64 g.To]) lU e a3 rfl rfl rfl) (aW (fun _ e=>aZ u) (aW (fun _ e=>aZ j) ?_))
    obtain ⟨h,y,c⟩:=aD c
    refine aW (fun _ e=>dN cK rfl q rfl rfl rfl y) ?_
    obtain ⟨b7,a6,a7⟩:=dB.el (sz:=3) rfl q y
    cases a7
    refine aW (fun _ e=>fZ (t:=0) (vs:=[i64 h.F,i64 h.B,i64 h.To]) lU e a6 rfl rfl rfl) ?_
    obtain ⟨a8,a9,c⟩:=aD c
    refine pK (vs:=[zA #[i64 g.F,i64 g.B,i64 g.To],zA #[i64 h.F,i64 h.B,i64 h.To]]) (v:=zB a8) Tryz.call98 rfl (fun _ e=>(aIy e a9)) (aW (fun _ e=>fC rfl) (eF (fun b8 z=>(aC ?_))))
    rcases aJ c with ⟨n,c⟩|⟨n,c⟩
    ·refine aO n rfl (aM (aH (v:=zB false) (aI (bH (bQ (aR (aR ?_)))))))
     have b0:=r _ (zI c).symm
     subst b0
     have d:(some false)=some R:=d
     obtain rfl:=zI d
     exact bQ (aR (aR (bF Tryz.results39 rfl ⟨rfl,z⟩)))
    ·exact aL n rfl (aY (bG (aC (aS (aT j (aF (cQ rfl rfl) (aH (v:=i64 (wr (i+1))) (aI ⟨wr (i+1),(zI c).symm,l,u,rfl,z⟩))))))))
   ·refine aL m rfl (cB (aV (aV ?_)))
    have b2:=r _ (zI c).symm
    subst b2
    have d:(aAB)=some R:=d
    exact bJ (aC ⟨d,e⟩)
theorem xR {a b:cN} {R:Bool} (m:aK G K (L) w) (n:dB K a1 c2 a.L) (o:dB K a4 c5 a.E) (p:dB K a7 c8 b.L) (q:dB K a10 c11 b.E) (c:aAC a b=some R):
  Calls Tryz.prog 10 ([zA (zCa a a1 c2 a4 c5),zA (zCa b a7 c8 a10 c11)]:List Value).toArray w (iK fun v w'=>v=zB R∧aK G K (L) w'):=by
 refine aX Tryz.func10 rfl (by kernel_rfl) (by show (2:Nat)≤27;decide) ?_
 unfold aAC at c
 refine aM (gP (v:=zA (zCa a a1 c2 a4 c5)) (vs:=(zC a a1 c2 a4 c5)) m rfl rfl (fun Z a0 r=>(gP (v:=zA (zCa b a7 c8 a10 c11)) (vs:=(zC b a7 c8 a10 c11)) r rfl rfl (fun a2 a3 d=>(aH (v:=zB false) (aI (aQ (aM (aF (bL (t':=0) iZ rfl rfl) (aF (cC cV d (i:=1) rfl rfl rfl) (aF (bL (t':=0) iZ rfl rfl) (aF (cC cV d (i:=0) rfl rfl rfl) (aF (oO rfl rfl) (aI ?_))))))))))))))
 rcases aJ c with ⟨g,c⟩|⟨g,c⟩
 ·refine aO g rfl (aM (aH (v:=zB false) (aI ?_)))
  obtain rfl:=zI c
  exact bH (aR (bF Tryz.results10 rfl ⟨rfl,(aK.arr 2 [] d rfl)⟩))
 ·refine aL g rfl (aY (aC (aQ (aM (aF (bL (t':=1) sN rfl rfl) (aF (cC cV d (i:=1) rfl rfl rfl) (aF (bL (t':=1) sN rfl rfl) (aF (cC cV d (i:=0) rfl rfl rfl) (aF (oO rfl rfl) (aI ?_))))))))))
  rcases aJ c with ⟨h,c⟩|⟨h,c⟩
  ·refine aO h rfl (aM (aH (v:=zB false) (aI ?_)))
   obtain rfl:=zI c
   exact bH (aR (bF Tryz.results10 rfl ⟨rfl,(aK.arr 2 [] d rfl)⟩))
  ·refine aL h rfl (aY (aC (aQ (aM (aF (bL (t':=2) eG rfl rfl) (aF (cC iT d (i:=1) rfl rfl rfl) (aF (bL (t':=2) eG rfl rfl) (aF (cC iT d (i:=0) rfl rfl rfl) ?_))))))))
   obtain ⟨a5,x,c⟩:=aD c
   refine aU (vs:=[zS a1 a.L.length c2,zS a7 b.L.length c8]) Tryz.call38 rfl (aFI d n p x) ?_
   rintro _ a6 ⟨rfl,e⟩
   refine aF (fC rfl) (aI ?_)
   rcases aJ c with ⟨j,c⟩|⟨j,c⟩
   ·refine aO j rfl (aM (aH (v:=zB false) (aI ?_)))
    obtain rfl:=zI c
    exact bH (aR (bF Tryz.results10 rfl ⟨rfl,(aK.arr 2 [] e rfl)⟩))
   ·refine aL j rfl (aY (aC (aQ (aM (aF (bL (t':=3) eR rfl rfl) (aF (cC lK e (i:=1) rfl rfl rfl) (aF (bL (t':=3) eR rfl rfl) (aF (cC lK e (i:=0) rfl rfl rfl) ?_))))))))
    obtain ⟨a8,z,c⟩:=aD c
    refine aU (vs:=[zS a4 a.E.length c5,zS a10 b.E.length c11]) Tryz.call39 rfl (aHn e o q z) ?_
    rintro _ a9 ⟨rfl,l⟩
    refine aF (fC rfl) (aI ?_)
    rcases aJ c with ⟨k,c⟩|⟨k,c⟩
    ·refine aO k rfl (aM (aH (v:=zB false) (aI ?_)))
     obtain rfl:=zI c
     exact bH (aR (bF Tryz.results10 rfl ⟨rfl,(aK.arr 2 [] l rfl)⟩))
    ·refine aL k rfl (aY (aC (aM (aH (v:=zB true) (aI ?_)))))
     obtain rfl:=zI c
     exact bH (bF Tryz.results10 rfl ⟨rfl,(aK.arr 2 [] l rfl)⟩)
theorem aCZ {k:Int} {R:bB} (m:aK G K (L) w) (a:rO k=some R):
  Calls Tryz.prog 99 ([i64 k]:List Value).toArray w (iK fun v w'=>v=str R∧aK G K (L) w'):=by
 refine aX Tryz.func99 rfl (by kernel_rfl) (by show (1:Nat)≤20;decide) ?_
 unfold rO at a
 refine aM (aH (v:=str ([]:bB)) (aI (aQ (aM (aP (v:=i64 k) (aF (aEP rfl rfl) (aI ?_)))))))
 rcases aJ a with ⟨e,a⟩|⟨e,a⟩
 ·refine aO e rfl (aM (aH (v:=str ([109,48]:bB)) (aI ?_)))
  obtain rfl:=zI a
  exact bH (aR (bF Tryz.results99 rfl ⟨rfl,m⟩))
 ·refine aL e rfl (aY (aC (aM (aH (v:=str ([]:bB)) (aI (aQ (bE (fun f w=>∃ (g:bB),tY g=some R∧f 3=str g∧aK G K (L) w) ?_ ?_)))))))
  ·rintro f w5 ⟨g,a,u,x⟩
   unfold tY at a
   refine aC (aM (aT u ?_))
   obtain ⟨y,z,a⟩:=aD a
   refine aF (R_cat rfl rfl z) (aH (v:=str y) (aI ?_))
   obtain rfl:=zI a
   exact bH (bF Tryz.results99 rfl ⟨rfl,x⟩)
  obtain ⟨a8,V,a⟩:=aD a
  refine cD V (fun (s:(Int × bB)) f w=>match s with|(h,c)=>f 0=i64 h∧f 3=str c∧aK G K (L) w) ?_ ?_
  ·exact ⟨rfl,rfl,m⟩
  ·rintro ⟨h,c⟩ Z f a9 b a0 ⟨j,n,o⟩
   replace b:tZ h c=some Z:=b
   unfold tZ at b
   refine aQ (aM (aT j (aF (oM rfl rfl) (aI ?_))))
   rcases aJ b with ⟨l,b⟩|⟨l,b⟩
   ·refine aO l rfl (aY (aC (cW (aM (aT j ?_)))))
    obtain ⟨d,a1,b⟩:=aD b
    refine aF (R_rem rfl rfl a1) (aF (cQ rfl rfl) (aF (R_convu8' Tryz.runUnderlying5 rfl ⟨_,Tryz.runUnderlying3⟩) (cT (Kt:=K) (xs:=([(UInt8.ofInt (wr (48+d)))]:List UInt8)) (cs:=[Value.int .u8 ((UInt8.ofInt (wr (48+d))).toNat:Int)]) (vs:=[(0,Value.int .u8 ((UInt8.ofInt (wr (48+d))).toNat:Int))]) sl_202 ez_5 rfl rfl o rfl (by kernel_rfl) rfl rfl rfl ⟨rfl,trivial⟩ ?_)))
    intro a2 a3 (p:aK G K (aN 5 K a2 1 ([(UInt8.ofInt (wr (48+d)))]:List UInt8)::L) a3)
    refine aF (R_convBSO Tryz.underlying202 Tryz.underlying5 Tryz.underlying9 p (i:=0) rfl rfl rfl) (aT n ?_)
    obtain ⟨q,a4,b⟩:=aD b
    refine aF (R_cat rfl rfl a4) (aH (v:=str q) (aI (aS (aT j ?_))))
    obtain ⟨r,a5,b⟩:=aD b
    exact aF (R_quo rfl rfl a5) (aH (v:=i64 r) (bA (bG (aC ⟨(r,q),(zI b).symm,rfl,rfl,(aK.arr 1 [] p rfl)⟩))))
   ·refine aL l rfl (cB (aV (aV ?_)))
    have a6:=a0 _ (zI b).symm
    subst a6
    have a:(tY c)=some R:=a
    exact bJ (aC ⟨c,a,n,o⟩)
theorem aEz {a:(List bB)} {k:Int} {R:(Int × (List bB))} (V:aK G K (aN 9 K a1 c2 a::L) w) (c:uA a k=some R):
  Calls Tryz.prog 40 ([zS a1 a.length c2,i64 k]:List Value).toArray w (iK fun v w'=>v=i64 R.1∧a.length=R.2.length∧aK G K (aN 9 K a1 c2 R.2::L) w'):=by
 refine aX Tryz.func40 rfl (by kernel_rfl) (by show (2:Nat)≤20;decide) ?_
 unfold uA at c
 refine aM (aH (v:=i64 0) (aI (aQ (aM (aH (v:=i64 0) (aI (bE (fun f w=>∃ (j:Int) (l:List bB),oU j l=some R∧f 1=i64 j∧a.length=l.length∧aK G K (aN 9 K a1 c2 l::L) w) ?_ ?_)))))))
 ·rintro f w7 ⟨j,l,c,Z,a0,a2⟩
  unfold oU at c
  refine aC (aM (aT Z (aH (v:=i64 j) (aI ?_))))
  obtain rfl:=zI c
  exact bH (bF Tryz.results40 rfl ⟨rfl,a0,a2⟩)
 obtain ⟨b4,a5,c⟩:=aD c
 refine cD a5 (fun (s:(List bB × Int × Int)) f w=>match s with|(d,e,g)=>f 0=zS a1 d.length c2∧f 1=i64 e∧f 5=i64 g∧a.length=d.length∧aK G K (aN 9 K a1 c2 d::L) w) ?_ ?_
 ·exact ⟨rfl,rfl,rfl,rfl,V⟩
 ·rintro ⟨d,e,g⟩ a6 f b5 b a7 ⟨m,o,p,u,x⟩
  replace b:oV d e g=some a6:=b
  unfold oV at b
  refine aQ (aM (aT p (aT m (aF (bN (len:=d.length) cF rfl) (aF (cG rfl rfl) (aI ?_))))))
  rcases aJ b with ⟨c45,b⟩|⟨c45,b⟩
  ·refine aO c45 rfl (aY (aC (aQ (cW (aM (aT m (aT p (aT o ?_))))))))
   obtain ⟨y,a8,b⟩:=aD b
   refine aU (vs:=[i64 e]) Tryz.call99 rfl (aCZ x a8) ?_
   rintro _ b6 ⟨rfl,z⟩
   obtain ⟨b7,q,b⟩:=aD b
   have a9:=cY z (i:=0) rfl q
   refine aF (dW cF rfl a9 rfl rfl rfl q) ?_
   obtain ⟨J,r,b⟩:=aD b
   exact mW (i:=0) (t:=0) (ns:=[str y]) (e':=(y:bB)) Tryz.sizeOf9 z rfl (zR _) rfl rfl rfl q r rfl rfl (cX rfl) rfl (fun cs h=>by cases h;rfl) (fun b0 (b1:aK G K (aN 9 K a1 c2 J::L) b0)=>(aI (aS (aT o (aF (cQ rfl rfl) (aH (v:=i64 (wr (e+1))) (bA (bG (aC (aS (aT p (aF (cQ rfl rfl) (aH (v:=i64 (wr (g+1))) (aI ⟨(J,wr (e+1),wr (g+1)),(zI b).symm,(Eq.trans m (congrArg (fun n=>zS a1 n c2) (jP r))),rfl,rfl,(u.trans (jP r)),b1⟩))))))))))))))
  ·refine aL c45 rfl (cB (aV (aV ?_)))
   have b2:=a7 _ (zI b).symm
   subst b2
   have c:(oU e d)=some R:=c
   exact bJ (aC ⟨e,d,c,o,u,x⟩)
theorem aFJ {a:(List Edge)} {k:Int} {R:(Int × (List Edge))} (hs:aK G K (aN 63 K a1 c2 a::L) w) (d:aAa a k=some R):
  Calls Tryz.prog 41 ([zS a1 a.length c2,i64 k]:List Value).toArray w (iK fun v w'=>v=i64 R.1∧a.length=R.2.length∧aK G K (aN 63 K a1 c2 R.2::L) w'):=by
 refine aX Tryz.func41 rfl (by kernel_rfl) (by show (2:Nat)≤34;decide) ?_
 unfold aAa at d
 refine aM (aH (v:=i64 0) (aI (aQ (aM (aH (v:=i64 0) (aI (bE (fun f w=>∃ (p:Int) (q:List Edge),rP p q=some R∧f 1=i64 p∧a.length=q.length∧aK G K (aN 63 K a1 c2 q::L) w) ?_ ?_)))))))
 ·rintro f w7 ⟨p,q,d,e6,b0,b1⟩
  unfold rP at d
  refine aC (aM (aT e6 (aH (v:=i64 p) (aI ?_))))
  obtain rfl:=zI d
  exact bH (bF Tryz.results41 rfl ⟨rfl,b0,b1⟩)
 obtain ⟨c5,b3,d⟩:=aD d
 refine cD b3 (fun (s:(List Edge × Int × Int)) f w=>match s with|(e,c,g)=>f 0=zS a1 e.length c2∧f 1=i64 c∧f 5=i64 g∧a.length=e.length∧aK G K (aN 63 K a1 c2 e::L) w) ?_ ?_
 ·exact ⟨rfl,rfl,rfl,rfl,hs⟩
 ·rintro ⟨e,c,g⟩ b4 f c6 b b5 ⟨l,u,m,J,x⟩
  replace b:rQ e c g=some b4:=b
  unfold rQ at b
  refine aQ (aM (aT m (aT l (aF (bN (len:=e.length) cK rfl) (aF (cG rfl rfl) (aI ?_))))))
  rcases aJ b with ⟨c45,b⟩|⟨c45,b⟩
  ·refine aO c45 rfl (aY (aC (aQ (cW (aM (aT l (aT m (aT u ?_))))))))
   obtain ⟨V,y,b⟩:=aD b
   have j:=cY x (i:=0) rfl y
   refine aF (dW cK rfl j rfl rfl rfl y) (aF (aAp (k':=g.toNat * 3+0) kG j rfl rfl) ?_)
   obtain ⟨Z,o,b⟩:=aD b
   refine mW (i:=0) (t:=0) (ns:=[i64 c]) (e':=(⟨c,V.B,V.To⟩:Edge)) Tryz.sizeOf2 x rfl (zR _) rfl rfl rfl y o rfl rfl (cX rfl) rfl (fun cs h=>by cases h;rfl) (fun b6 (b7:aK G K (aN 63 K a1 c2 Z::L) b6)=>(aI (aM (aT u (aF (cQ rfl rfl) (aH (v:=i64 (wr (c+1))) (aI (aM (aT (v:=zS a1 Z.length c2) (Eq.trans l (congrArg (fun n=>zS a1 n c2) (jP o))) (aT m (aP (v:=i64 (wr (c+1))) ?_)))))))))))
   obtain ⟨a0,a2,b⟩:=aD b
   refine aF (dW cK rfl j rfl rfl rfl a2) (aF (aAp (k':=g.toNat * 3+1) iF j rfl rfl) ?_)
   obtain ⟨a3,r,b⟩:=aD b
   refine mW (i:=0) (t:=1) (ns:=[i64 (wr (c+1))]) (e':=(⟨a0.F,wr (c+1),a0.To⟩:Edge)) Tryz.sizeOf2 b7 rfl (zR _) rfl rfl rfl a2 r rfl rfl (cX rfl) rfl (fun cs h=>by cases h;rfl) (fun b8 (b9:aK G K (aN 63 K a1 c2 a3::L) b8)=>(aI (aM (aP (v:=i64 (wr (c+1))) (aF (cQ rfl rfl) (aH (v:=i64 (wr ((wr (c+1))+1))) (aI (aM (aT (v:=zS a1 a3.length c2) (Eq.trans (Eq.trans l (congrArg (fun n=>zS a1 n c2) (jP o))) (congrArg (fun n=>zS a1 n c2) (jP r))) (aT m (aP (v:=i64 (wr ((wr (c+1))+1))) ?_)))))))))))
   obtain ⟨a5,a6,b⟩:=aD b
   refine aF (dW cK rfl j rfl rfl rfl a6) (aF (aAp (k':=g.toNat * 3+2) gX j rfl rfl) ?_)
   obtain ⟨a7,z,b⟩:=aD b
   exact mW (i:=0) (t:=2) (ns:=[i64 (wr ((wr (c+1))+1))]) (e':=(⟨a5.F,a5.B,wr ((wr (c+1))+1)⟩:Edge)) Tryz.sizeOf2 b9 rfl (zR _) rfl rfl rfl a6 z rfl rfl (cX rfl) rfl (fun cs h=>by cases h;rfl) (fun c0 (c1:aK G K (aN 63 K a1 c2 a7::L) c0)=>(aI (aS (aP (v:=i64 (wr ((wr (c+1))+1))) (aF (cQ rfl rfl) (aH (v:=i64 (wr ((wr ((wr (c+1))+1))+1))) (bA (bG (aC (aS (aT m (aF (cQ rfl rfl) (aH (v:=i64 (wr (g+1))) (aI ⟨(a7,wr ((wr ((wr (c+1))+1))+1),wr (g+1)),(zI b).symm,(Eq.trans (Eq.trans (Eq.trans l (congrArg (fun n=>zS a1 n c2) (jP o))) (congrArg (fun n=>zS a1 n c2) (jP r))) (congrArg (fun n=>zS a1 n c2) (jP z))),rfl,rfl,(((J.trans (jP o)).trans (jP r)).trans (jP z)),c1⟩))))))))))))))
  ·refine aL c45 rfl (cB (aV (aV ?_)))
   have c3:=b5 _ (zI b).symm
   subst c3
   have d:(rP c e)=some R:=d
   exact bJ (aC ⟨c,e,d,u,J,x⟩)
theorem aBp {d e:Int} {c:(List bB)} {a:(List Edge)} {k:Int} {R:(Int × (List bB) × (List Edge))} (r:aK G K (aN 9 K a1 c2 c::aN 63 K a3 c4 a::L) w) (g:vZ d e c a k=some R):
  Calls Tryz.prog 11 ([zA #[i64 d,i64 e,zS a1 c.length c2,zS a3 a.length c4],i64 k]:List Value).toArray w (iK fun v w'=>v=i64 R.1∧c.length=R.2.1.length∧a.length=R.2.2.length∧aK G K (aN 9 K a1 c2 R.2.1::aN 63 K a3 c4 R.2.2::L) w'):=by
 let l:=[i64 d,i64 e,zS a1 c.length c2,zS a3 a.length c4]
 refine aX Tryz.func11 rfl (by kernel_rfl) (by show (2:Nat)≤14;decide) ?_
 unfold vZ at g
 refine aM (gP (v:=zA #[i64 d,i64 e,zS a1 c.length c2,zS a3 a.length c4]) (vs:=l) r rfl rfl (fun j t m=>(aH (v:=i64 0) (aI (aM (aF (bL (t':=2) eG rfl rfl) (aF (cC iT m (i:=0) rfl rfl rfl) (aP (v:=i64 k) ?_))))))))
 have u:aK G K (aN 9 K a1 c2 c::box j 29 l::aN 63 K a3 c4 a::L) t:=(aK.arr 2 [1,0] m rfl)
 obtain ⟨b,x,g⟩:=aD g
 refine aU (vs:=[zS a1 c.length c2,i64 k]) Tryz.call40 rfl (aEz u x) ?_
 rintro _ n ⟨rfl,o,y⟩
 have p:aK G K (aN 9 K a1 c2 b.2::box j 29 [i64 d,i64 e,zS a1 b.2.length c2,zS a3 a.length c4]::aN 63 K a3 c4 a::L) n:=by rw [←o];exact y
 refine aH (v:=i64 b.1) (aI (aM (aF (bL (t':=3) eR rfl rfl) (aF (cC lK p (i:=1) rfl rfl rfl) (aP (v:=i64 b.1) ?_)))))
 have z:aK G K (aN 63 K a3 c4 a::aN 9 K a1 c2 b.2::box j 29 [i64 d,i64 e,zS a1 b.2.length c2,zS a3 a.length c4]::L) n:=(aK.arr 3 [2,0,1] p rfl)
 obtain ⟨h,J,g⟩:=aD g
 refine aU (vs:=[zS a3 a.length c4,i64 b.1]) Tryz.call41 rfl (aFJ z J) ?_
 rintro _ V ⟨rfl,q,Z⟩
 have a0:aK G K (aN 63 K a3 c4 h.2::aN 9 K a1 c2 b.2::box j 29 [i64 d,i64 e,zS a1 b.2.length c2,zS a3 h.2.length c4]::L) V:=by rw [←q];exact Z
 refine aH (v:=i64 h.1) (aI (aM (aP (v:=i64 h.1) (aH (v:=i64 h.1) (aI ?_)))))
 obtain rfl:=zI g
 exact bH (bF Tryz.results11 rfl ⟨rfl,o,q,(aK.arr 3 [1,0] a0 rfl)⟩)
theorem aEA {a:(List bB)} {k R:Int} (u:aK G K (L) w) (o:dB K a1 c2 a) (c:uB a k=some R):
  Calls Tryz.prog 42 ([zS a1 a.length c2,i64 k]:List Value).toArray w (iK fun v w'=>v=i64 R∧aK G K (L) w'):=by
 refine aX Tryz.func42 rfl (by kernel_rfl) (by show (2:Nat)≤22;decide) ?_
 unfold uB at c
 refine aM (aH (v:=i64 0) (aI (aQ (aM (aH (v:=i64 0) (aI (bE (fun f w=>∃ (h:Int),sR h=some R∧f 1=i64 h∧aK G K (L) w) ?_ ?_)))))))
 ·rintro f w6 ⟨h,c,x,y⟩
  unfold sR at c
  refine aC (aM (aT x (aH (v:=i64 h) (aI ?_))))
  obtain rfl:=zI c
  exact bH (bF Tryz.results42 rfl ⟨rfl,y⟩)
 obtain ⟨a8,J,c⟩:=aD c
 refine cD J (fun (s:(Int × Int)) f w=>match s with|(e,g)=>f 0=zS a1 a.length c2∧f 1=i64 e∧f 5=i64 g∧aK G K (L) w) ?_ ?_
 ·exact ⟨rfl,rfl,rfl,u⟩
 ·rintro ⟨e,g⟩ V f a9 b p ⟨i,j,l,d⟩
  replace b:mJ a e g=some V:=b
  unfold mJ at b
  refine aQ (aM (aT l (aT i (aF (bN (len:=a.length) cF rfl) (aF (cG rfl rfl) (aI ?_))))))
  rcases aJ b with ⟨m,b⟩|⟨m,b⟩
  ·refine aO m rfl (aY (aC (aQ (cW (aQ (aQ (dR (C:=fun w'=>aK G K (L) w') bT (by kernel_rfl) (aK.mono d (dQ.drew _)) (aW (fun _ d=>aZ i) (aW (fun _ d=>aZ l) ?_)))))))))
   obtain ⟨b0,q,b⟩:=aD b
   refine aW (fun _ d=>dN cF rfl o rfl rfl rfl q) ?_
   obtain ⟨b1,Z,a0⟩:=dB.el (sz:=1) rfl o q
   cases a0
   refine aW (fun _ d=>bK (t:=0) mV d Z rfl rfl) (aW (fun _ d=>aZ j) ?_)
   obtain ⟨a2,a3,b⟩:=aD b
   refine pK (vs:=[i64 e]) (v:=str a2) Tryz.call99 rfl (fun _ d=>(aCZ d a3)) (aW (fun _ d=>aEq rfl rfl) (eF (fun b2 r=>(aC ?_))))
   rcases aJ b with ⟨n,b⟩|⟨n,b⟩
   ·refine aO n rfl (aM (aH (v:=i64 (-1)) (aI (bH (aR (bQ (aR (aR ?_))))))))
    have a4:=p _ (zI b).symm
    subst a4
    have c:(some (-1))=some R:=c
    obtain rfl:=zI c
    exact bQ (aR (aR (bF Tryz.results42 rfl ⟨rfl,r⟩)))
   ·exact aL n rfl (aY (aC (aS (aT j (aF (cQ rfl rfl) (aH (v:=i64 (wr (e+1))) (bA (bG (aC (aS (aT l (aF (cQ rfl rfl) (aH (v:=i64 (wr (g+1))) (aI ⟨(wr (e+1),wr (g+1)),(zI b).symm,i,rfl,rfl,r⟩))))))))))))))
  ·refine aL m rfl (cB (aV (aV ?_)))
   have a6:=p _ (zI b).symm
   subst a6
   have c:(sR e)=some R:=c
   exact bJ (aC ⟨e,c,j,d⟩)
theorem aFK {a:(List Edge)} {k R:Int} (y:aK G K (L) w) (l:dB K a1 c2 a) (c:aAb a k=some R):
  Calls Tryz.prog 43 ([zS a1 a.length c2,i64 k]:List Value).toArray w (iK fun v w'=>v=i64 R∧aK G K (L) w'):=by
 refine aX Tryz.func43 rfl (by kernel_rfl) (by show (2:Nat)≤40;decide) ?_
 unfold aAb at c
 refine aM (aH (v:=i64 0) (aI (aQ (aM (aH (v:=i64 0) (aI (bE (fun f w=>∃ (m:Int),wU m=some R∧f 1=i64 m∧aK G K (L) w) ?_ ?_)))))))
 ·rintro f w6 ⟨m,c,z,J⟩
  unfold wU at c
  refine aC (aM (aT z (aH (v:=i64 m) (aI ?_))))
  obtain rfl:=zI c
  exact bH (bF Tryz.results43 rfl ⟨rfl,J⟩)
 obtain ⟨b1,Z,c⟩:=aD c
 refine cD Z (fun (s:(Int × Int)) f w=>match s with|(d,e)=>f 0=zS a1 a.length c2∧f 1=i64 d∧f 5=i64 e∧aK G K (L) w) ?_ ?_
 ·exact ⟨rfl,rfl,rfl,y⟩
 ·rintro ⟨d,e⟩ a0 f b2 b n ⟨i,p,j,g⟩
  replace b:oW a d e=some a0:=b
  unfold oW at b
  refine aQ (aM (aT j (aT i (aF (bN (len:=a.length) cK rfl) (aF (cG rfl rfl) (aI ?_))))))
  rcases aJ b with ⟨q,b⟩|⟨q,b⟩
  ·refine aO q rfl (aY (aC (aQ (cW (aQ (aM (aT i (aT j ?_))))))))
   obtain ⟨b3,o,b⟩:=aD b
   refine aF (dN cK rfl l rfl rfl rfl o) ?_
   obtain ⟨b4,h,a2⟩:=dB.el (sz:=3) rfl l o
   cases a2
   refine aF (cR (k':=e.toNat * 3+0) kG rfl h rfl) (aF (bK (t:=0) cV g h rfl rfl) (aT p (aF (oO rfl rfl) (aI ?_))))
   rcases aJ b with ⟨r,b⟩|⟨r,b⟩
   ·refine aO r rfl (aM (aH (v:=i64 (-1)) (aI (bH (aR (bQ (aR (aR ?_))))))))
    have a3:=n _ (zI b).symm
    subst a3
    have c:(some (-1))=some R:=c
    obtain rfl:=zI c
    exact bQ (aR (aR (bF Tryz.results43 rfl ⟨rfl,g⟩)))
   ·refine aL r rfl (aY (aC (aM (aT p (aF (cQ rfl rfl) (aH (v:=i64 (wr (d+1))) (aI (aQ (aM (aT i (aT j (aF (dN cK rfl l rfl rfl rfl o) (aF (cR (k':=e.toNat * 3+1) iF rfl h rfl) (aF (bK (t:=1) cV g h rfl rfl) (aP (v:=i64 (wr (d+1))) (aF (oO rfl rfl) (aI ?_)))))))))))))))))
    rcases aJ b with ⟨u,b⟩|⟨u,b⟩
    ·refine aO u rfl (aM (aH (v:=i64 (-1)) (aI (bH (aR (bQ (aR (aR ?_))))))))
     have a5:=n _ (zI b).symm
     subst a5
     have c:(some (-1))=some R:=c
     obtain rfl:=zI c
     exact bQ (aR (aR (bF Tryz.results43 rfl ⟨rfl,g⟩)))
    ·refine aL u rfl (aY (aC (aM (aP (v:=i64 (wr (d+1))) (aF (cQ rfl rfl) (aH (v:=i64 (wr ((wr (d+1))+1))) (aI (aQ (aM (aT i (aT j (aF (dN cK rfl l rfl rfl rfl o) (aF (cR (k':=e.toNat * 3+2) gX rfl h rfl) (aF (bK (t:=2) cV g h rfl rfl) (aP (v:=i64 (wr ((wr (d+1))+1))) (aF (oO rfl rfl) (aI ?_)))))))))))))))))
     rcases aJ b with ⟨x,b⟩|⟨x,b⟩
     ·refine aO x rfl (aM (aH (v:=i64 (-1)) (aI (bH (aR (bQ (aR (aR ?_))))))))
      have a7:=n _ (zI b).symm
      subst a7
      have c:(some (-1))=some R:=c
      obtain rfl:=zI c
      exact bQ (aR (aR (bF Tryz.results43 rfl ⟨rfl,g⟩)))
     ·exact aL x rfl (aY (aC (aS (aP (v:=i64 (wr ((wr (d+1))+1))) (aF (cQ rfl rfl) (aH (v:=i64 (wr ((wr ((wr (d+1))+1))+1))) (bA (bG (aC (aS (aT j (aF (cQ rfl rfl) (aH (v:=i64 (wr (e+1))) (aI ⟨(wr ((wr ((wr (d+1))+1))+1),wr (e+1)),(zI b).symm,i,rfl,rfl,g⟩))))))))))))))
  ·refine aL q rfl (cB (aV (aV ?_)))
   have a9:=n _ (zI b).symm
   subst a9
   have c:(wU d)=some R:=c
   exact bJ (aC ⟨d,c,p,g⟩)
theorem aDC {a:cN} {k R:Int} (m:aK G K (L) w) (n:dB K a1 c2 a.L) (o:dB K a4 c5 a.E) (b:aAM a k=some R):
  Calls Tryz.prog 12 ([zA (zCa a a1 c2 a4 c5),i64 k]:List Value).toArray w (iK fun v w'=>v=i64 R∧aK G K (L) w'):=by
 refine aX Tryz.func12 rfl (by kernel_rfl) (by show (2:Nat)≤18;decide) ?_
 unfold aAM at b
 refine aM (gP (v:=zA (zCa a a1 c2 a4 c5)) (vs:=(zC a a1 c2 a4 c5)) m rfl rfl (fun x y j=>(aH (v:=i64 0) (aI (aM (aF (bL (t':=2) eG rfl rfl) (aF (cC iT j (i:=0) rfl rfl rfl) (aP (v:=i64 k) ?_))))))))
 obtain ⟨c,p,b⟩:=aD b
 refine aU (vs:=[zS a1 a.L.length c2,i64 k]) Tryz.call42 rfl (aEA j n p) ?_
 rintro _ z ⟨rfl,e⟩
 refine aH (v:=i64 c) (aI (aQ (aM (aP (v:=i64 c) (aF (cG rfl rfl) (aI ?_))))))
 rcases aJ b with ⟨g,b⟩|⟨g,b⟩
 ·refine aO g rfl (aM (aH (v:=i64 (-1)) (aI ?_)))
  obtain rfl:=zI b
  exact bH (aR (bF Tryz.results12 rfl ⟨rfl,(aK.arr 1 [] e rfl)⟩))
 ·refine aL g rfl (aY (aC (aM (aF (bL (t':=3) eR rfl rfl) (aF (cC lK e (i:=0) rfl rfl rfl) (aP (v:=i64 c) ?_))))))
  obtain ⟨d,r,b⟩:=aD b
  refine aU (vs:=[zS a4 a.E.length c5,i64 c]) Tryz.call43 rfl (aFK e o r) ?_
  rintro _ J ⟨rfl,l⟩
  refine aH (v:=i64 d) (aI (aQ (aM (aP (v:=i64 d) (aF (cG rfl rfl) (aI ?_))))))
  rcases aJ b with ⟨h,b⟩|⟨h,b⟩
  ·refine aO h rfl (aM (aH (v:=i64 (-1)) (aI ?_)))
   obtain rfl:=zI b
   exact bH (aR (bF Tryz.results12 rfl ⟨rfl,(aK.arr 1 [] l rfl)⟩))
  ·refine aL h rfl (aY (aC (aM (aP (v:=i64 d) (aH (v:=i64 d) (aI ?_))))))
   obtain rfl:=zI b
   exact bH (bF Tryz.results12 rfl ⟨rfl,(aK.arr 1 [] l rfl)⟩)
theorem tE {n low c:Int} {R:Bool} (e:aK G K (L) w) (a:yQ n low c=some R):
  Calls Tryz.prog 67 ([i64 n,i64 low,i64 c]:List Value).toArray w (iK fun v w'=>v=zB R∧aK G K (L) w'):=by
 refine aX Tryz.func67 rfl (by kernel_rfl) (by show (3:Nat)≤15;decide) ?_
 unfold yQ at a
 refine aM (aH (v:=zB false) (aI (aQ (dF (fun f w=>∃ (d:Bool),aCK d=some R∧f 6=zB d∧aK G K (L) w) ?_ ?_))))
 ·rintro f k ⟨d,a,h,i⟩
  unfold aCK at a
  refine aC ?_
  obtain rfl:=zI a
  exact bH (bF Tryz.results67 rfl ⟨h,i⟩)
 refine aS (aP (v:=i64 n) (aP (v:=i64 low) (aF (tU rfl rfl) (aP (v:=zB (decide (low≤n))) ?_))))
 rcases aJ a with ⟨b,a⟩|⟨b,a⟩
 ·exact bU b rfl rfl (aP (v:=i64 n) (bU b rfl rfl (aP (v:=i64 c) (bU b rfl rfl (aF (aEP rfl rfl) (aF (bO (v:=zB (decide (n≤c))) b rfl rfl) (aH (v:=zB (decide (n≤c))) (aI ⟨decide (n≤c),a,rfl,e⟩))))))))
 ·exact bI b rfl rfl (bI b rfl rfl (bI b rfl rfl (aF (bV (v:=zB false) b rfl rfl) (aH (v:=zB false) (aI ⟨false,a,rfl,e⟩)))))
theorem aDD {c:bB} {R:Int} (l:aK G K (L) w) (b:aAN c=some R):
  Calls Tryz.prog 175 ([str c]:List Value).toArray w (iK fun v w'=>v=i64 R∧aK G K (L) w'):=by
 refine aX Tryz.func175 rfl (by kernel_rfl) (by show (1:Nat)≤17;decide) ?_
 unfold aAN at b
 refine aM (aH (v:=i64 0) (aI (aQ (aM (aH (v:=i64 0) (aI (bE (fun f w=>aAD c=some R∧f 0=str c∧aK G K (L) w) ?_ ?_)))))))
 ·rintro f y ⟨b,m,n⟩
  unfold aAD at b
  refine aC (aM (aT m (aF (iG Tryz.runUnderlying9 rfl) (aH (v:=i64 (c.length:Int)) (aI ?_)))))
  obtain rfl:=zI b
  exact bH (bF Tryz.results175 rfl ⟨rfl,n⟩)
 obtain ⟨z,p,b⟩:=aD b
 refine cD p (fun (d:Int) f w=>f 0=str c∧f 3=i64 d∧aK G K (L) w) ?_ ?_
 ·exact ⟨rfl,rfl,l⟩
 ·rintro d q f J a k ⟨e,g,h⟩
  replace a:sS c d=some q:=a
  unfold sS at a
  refine aQ (aM (aT g (aT e (aF (iG Tryz.runUnderlying9 rfl) (aF (cG rfl rfl) (aI ?_))))))
  rcases aJ a with ⟨i,a⟩|⟨i,a⟩
  ·refine aO i rfl (aY (aC (aQ (cW (aM (aT e (aT g ?_)))))))
   obtain ⟨V,r,a⟩:=aD a
   refine aF (aCf Tryz.runUnderlying9 rfl rfl r) (aF (oN rfl rfl) (aI ?_))
   rcases aJ a with ⟨j,a⟩|⟨j,a⟩
   ·refine aO j rfl (aM (aT g (aH (v:=i64 d) (aI (bH (bQ (aR (aR ?_))))))))
    have t:=k _ (zI a).symm
    subst t
    have b:(some d)=some R:=b
    obtain rfl:=zI b
    exact bQ (aR (aR (bF Tryz.results175 rfl ⟨rfl,h⟩)))
   ·exact aL j rfl (aY (bG (aC (aS (aT g (aF (cQ rfl rfl) (aH (v:=i64 (wr (d+1))) (aI ⟨wr (d+1),(zI a).symm,e,rfl,h⟩))))))))
  ·refine aL i rfl (cB (aV (aV ?_)))
   have x:=k _ (zI a).symm
   subst x
   have b:(aAD c)=some R:=b
   exact bJ (aC ⟨b,e,h⟩)
theorem aDa {c:UInt8} {R:Bool} (e:aK G K (L) w) (a:aBe c=some R):
  Calls Tryz.prog 320 ([Value.int .u8 (c.toNat:Int)]:List Value).toArray w (iK fun v w'=>v=zB R∧aK G K (L) w'):=by
 refine aX Tryz.func320 rfl (by kernel_rfl) (by show (1:Nat)≤9;decide) ?_
 unfold aBe at a
 refine aM (aH (v:=zB false) (aI (aQ (dF (fun f w=>∃ (d:Bool),yR d=some R∧f 2=zB d∧aK G K (L) w) ?_ ?_))))
 ·rintro f k ⟨d,a,h,i⟩
  unfold yR at a
  refine aC ?_
  obtain rfl:=zI a
  exact bH (bF Tryz.results320 rfl ⟨h,i⟩)
 refine aS (aP (v:=Value.int .u8 (c.toNat:Int)) (aF (tU rfl rfl) (aP (v:=zB (decide (97≤(c.toNat:Int)))) ?_)))
 rcases aJ a with ⟨b,a⟩|⟨b,a⟩
 ·exact bU b rfl rfl (aP (v:=Value.int .u8 (c.toNat:Int)) (bU b rfl rfl (aF (aEP rfl rfl) (aF (bO (v:=zB (decide ((c.toNat:Int)≤122))) b rfl rfl) (aH (v:=zB (decide ((c.toNat:Int)≤122))) (aI ⟨decide ((c.toNat:Int)≤122),a,rfl,e⟩))))))
 ·exact bI b rfl rfl (bI b rfl rfl (aF (bV (v:=zB false) b rfl rfl) (aH (v:=zB false) (aI ⟨false,a,rfl,e⟩))))
end Gv
