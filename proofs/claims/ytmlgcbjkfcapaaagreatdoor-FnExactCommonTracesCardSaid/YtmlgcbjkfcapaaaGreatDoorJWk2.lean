/- Walks, printed by program. -/
import Derived.Test.YtmlgcbjkfcapaaaGreatDoorJWk1
set_option linter.all false
namespace Gv
open Go.Value renaming slice→zS,bool→zB,tuple→zT
open Option.some renaming inj→zI
open Gv.Hp renaming le_refl→zR
open Go Go.Proofs
set_option maxRecDepth 20000
set_option maxHeartbeats 40000000
variable {G:Env} {K:Hp} {L:List pH} {w:World} {a1 a4 a7 a10:Option Addr} {c2 c5 c8 c11:Nat}
theorem aDb {c:UInt8} {R:Bool} (e:aK G K (L) w) (a:aBf c=some R):
  Calls Tryz.prog 321 ([Value.int .u8 (c.toNat:Int)]:List Value).toArray w (iK fun v w'=>v=zB R∧aK G K (L) w'):=by
 refine aX Tryz.func321 rfl (by kernel_rfl) (by show (1:Nat)≤9;decide) ?_
 unfold aBf at a
 refine aM (aH (v:=zB false) (aI (aQ (dF (fun f w=>∃ (d:Bool),yS d=some R∧f 2=zB d∧aK G K (L) w) ?_ ?_))))
 ·rintro f k ⟨d,a,h,i⟩
  unfold yS at a
  refine aC ?_
  obtain rfl:=zI a
  exact bH (bF Tryz.results321 rfl ⟨h,i⟩)
 refine aS (aP (v:=Value.int .u8 (c.toNat:Int)) (aF (tU rfl rfl) (aP (v:=zB (decide (48≤(c.toNat:Int)))) ?_)))
 rcases aJ a with ⟨b,a⟩|⟨b,a⟩
 ·exact bU b rfl rfl (aP (v:=Value.int .u8 (c.toNat:Int)) (bU b rfl rfl (aF (aEP rfl rfl) (aF (bO (v:=zB (decide ((c.toNat:Int)≤57))) b rfl rfl) (aH (v:=zB (decide ((c.toNat:Int)≤57))) (aI ⟨decide ((c.toNat:Int)≤57),a,rfl,e⟩))))))
 ·exact bI b rfl rfl (bI b rfl rfl (aF (bV (v:=zB false) b rfl rfl) (aH (v:=zB false) (aI ⟨false,a,rfl,e⟩))))
theorem aDE {c:bB} {R:Bool} (l:aK G K (L) w) (a:aAO c=some R):
  Calls Tryz.prog 271 ([str c]:List Value).toArray w (iK fun v w'=>v=zB R∧aK G K (L) w'):=by
 refine aX Tryz.func271 rfl (by kernel_rfl) (by show (1:Nat)≤35;decide) ?_
 unfold aAO at a
 refine aM (aH (v:=zB false) (aI (aQ (aQ (dF (fun f w=>∃ (m:Bool),pL c m=some R∧f 0=str c∧f 16=zB m∧aK G K (L) w) ?_ ?_)))))
 ·rintro f w4 ⟨m,a,e2,r,t⟩
  unfold pL at a
  refine aC ?_
  rcases aJ a with ⟨n,a⟩|⟨n,a⟩
  ·refine aO n r (aM (aH (v:=zB false) (aI ?_)))
   obtain rfl:=zI a
   exact bH (aR (bF Tryz.results271 rfl ⟨rfl,t⟩))
  ·refine aL n r (aY (aC (aQ (aM (aH (v:=i64 0) (aI (bE (fun f w=>wV=some R∧aK G K (L) w) ?_ ?_)))))))
   ·rintro f w8 ⟨a,a5⟩
    unfold wV at a
    refine aC (aM (aH (v:=zB true) (aI ?_)))
    obtain rfl:=zI a
    exact bH (bF Tryz.results271 rfl ⟨rfl,a5⟩)
   obtain ⟨c3,a7,a⟩:=aD a
   refine cD a7 (fun (i:Int) f w=>f 0=str c∧f 3=i64 i∧aK G K (L) w) ?_ ?_
   ·exact ⟨e2,rfl,t⟩
   ·rintro i u f c4 b x ⟨j,k,y⟩
    replace b:sT c i=some u:=b
    unfold sT at b
    refine aQ (aM (aT k (aT j (aF (iG Tryz.runUnderlying9 rfl) (aF (cG rfl rfl) (aI ?_))))))
    rcases aJ b with ⟨o,b⟩|⟨o,b⟩
    ·refine aO o rfl (aY (aC (aQ (cW (aQ (dF (fun f w=>∃ (p:Bool),wW i p=some u∧f 0=str c∧f 3=i64 i∧f 34=zB p∧aK G K (L) w) ?_ ?_))))))
     ·rintro f c5 ⟨p,b,a8,a9,z,J⟩
      unfold wW at b
      refine aC ?_
      rcases aJ b with ⟨q,b⟩|⟨q,b⟩
      ·refine aO q z (aM (aH (v:=zB false) (aI (bH (bQ (aR (aR ?_)))))))
       have b0:=x _ (zI b).symm
       subst b0
       have a:(some false)=some R:=a
       obtain rfl:=zI a
       exact bQ (aR (aR (bF Tryz.results271 rfl ⟨rfl,J⟩)))
      ·exact aL q z (aY (bG (aC (aS (aT a9 (aF (cQ rfl rfl) (aH (v:=i64 (wr (i+1))) (aI ⟨wr (i+1),(zI b).symm,a8,rfl,J⟩))))))))
     refine aS (aT j (aT k ?_))
     obtain ⟨V,Z,b⟩:=aD b
     refine aF (aCf Tryz.runUnderlying9 rfl rfl Z) ?_
     obtain ⟨b2,b3,b⟩:=aD b
     refine aU (vs:=[Value.int .u8 (V.toNat:Int)]) Tryz.call320 rfl (aDa y b3) ?_
     rintro _ c7 ⟨rfl,a0⟩
     refine aF (fC rfl) (aP (v:=zB (!b2)) ?_)
     rcases aJ b with ⟨d,b⟩|⟨d,b⟩
     ·refine bU d rfl rfl (aT j (bU d rfl rfl (aT k (bU d rfl rfl (aF (aCf Tryz.runUnderlying9 rfl rfl Z) (bU d rfl rfl ?_))))))
      obtain ⟨a1,b4,b⟩:=aD b
      refine aU (vs:=[Value.int .u8 (V.toNat:Int)]) Tryz.call321 rfl (aDb a0 b4) ?_
      rintro _ c8 ⟨rfl,b5⟩
      exact bU d rfl rfl (aF (fC rfl) (aF (bO (v:=zB (!a1)) d rfl rfl) (aI ⟨!a1,b,j,k,rfl,b5⟩)))
     ·exact bI d rfl rfl (bI d rfl rfl (bI d rfl rfl (bI d rfl rfl (bI d rfl rfl (aF (bV (v:=zB false) d rfl rfl) (aI ⟨false,b,j,k,rfl,a0⟩))))))
    ·refine aL o rfl (cB (aV (aV ?_)))
     have b6:=x _ (zI b).symm
     subst b6
     have a:(wV)=some R:=a
     exact bJ (aC ⟨a,y⟩)
 refine aS (aP (v:=str c) (aF (wN rfl rfl) (aP (v:=zB (c == ([]:bB))) ?_)))
 rcases aJ a with ⟨h,a⟩|⟨h,a⟩
 ·exact bC h rfl rfl (bC h rfl rfl (bC h rfl rfl (aF (bO (v:=zB true) h rfl rfl) (aP (v:=zB true) (bC (rfl:true=true) rfl rfl (bC (rfl:true=true) rfl rfl (bC (rfl:true=true) rfl rfl (bC (rfl:true=true) rfl rfl (aF (bO (v:=zB true) (rfl:true=true) rfl rfl) (aI ⟨true,a,rfl,rfl,l⟩))))))))))
 ·refine bP h rfl rfl (aP (v:=str c) (bP h rfl rfl (aF (iG Tryz.runUnderlying9 rfl) (bP h rfl rfl (aF (oM rfl rfl) (aF (bV (v:=zB (decide (10 < (c.length:Int)))) h rfl rfl) (aP (v:=zB (decide (10 < (c.length:Int)))) ?_)))))))
  rcases aJ a with ⟨e,a⟩|⟨e,a⟩
  ·exact bC e rfl rfl (bC e rfl rfl (bC e rfl rfl (bC e rfl rfl (aF (bO (v:=zB true) e rfl rfl) (aI ⟨true,a,rfl,rfl,l⟩)))))
  ·refine bP e rfl rfl (aP (v:=str c) (bP e rfl rfl ?_))
   obtain ⟨b7,b8,a⟩:=aD a
   refine aF (aCf Tryz.runUnderlying9 rfl rfl b8) (bP e rfl rfl ?_)
   obtain ⟨a2,b9,a⟩:=aD a
   refine aU (vs:=[Value.int .u8 (b7.toNat:Int)]) Tryz.call320 rfl (aDa l b9) ?_
   rintro _ c9 ⟨rfl,c0⟩
   exact bP e rfl rfl (aF (fC rfl) (aF (bV (v:=zB (!a2)) e rfl rfl) (aI ⟨!a2,a,rfl,rfl,c0⟩)))
theorem aFL {b:bB} {R:Bool} (h:aK G K (L) w) (a:aAc b=some R):
  Calls Tryz.prog 258 ([str b]:List Value).toArray w (iK fun v w'=>v=zB R∧aK G K (L) w'):=by
 refine aX Tryz.func258 rfl (by kernel_rfl) (by show (1:Nat)≤9;decide) ?_
 unfold aAc at a
 refine aM (aH (v:=zB false) (aI (aQ (dF (fun f w=>∃ (d:Bool),rR d=some R∧f 2=zB d∧aK G K (L) w) ?_ ?_))))
 ·rintro f n ⟨d,a,i,j⟩
  unfold rR at a
  refine aC ?_
  obtain rfl:=zI a
  exact bH (bF Tryz.results258 rfl ⟨i,j⟩)
 refine aS (aP (v:=str b) ?_)
 obtain ⟨l,m,a⟩:=aD a
 refine aU (vs:=[str b]) Tryz.call271 rfl (aDE h m) ?_
 rintro _ o ⟨rfl,e⟩
 refine aP (v:=zB l) ?_
 rcases aJ a with ⟨c,a⟩|⟨c,a⟩
 ·exact bU c rfl rfl (aP (v:=str b) (bU c rfl rfl (aF (aEq rfl rfl) (aF (bO (v:=zB (!(b == ([116,97,117]:bB)))) c rfl rfl) (aH (v:=zB (!(b == ([116,97,117]:bB)))) (aI ⟨!(b == ([116,97,117]:bB)),a,rfl,e⟩))))))
 ·exact bI c rfl rfl (bI c rfl rfl (aF (bV (v:=zB false) c rfl rfl) (aH (v:=zB false) (aI ⟨false,a,rfl,e⟩))))
theorem aGr {d:bB} {by_:UInt8} {R:(List bB)} (hs:aK G K (L) w) (b:aBg d by_=some R):
  Calls Tryz.prog 272 ([str d,Value.int .u8 (by_.toNat:Int)]:List Value).toArray w (iK fun v w'=>∃ (b1:Option Addr) (b2:Nat),v=zS b1 R.length b2∧aK G K (aN 9 K b1 b2 R::L) w'):=by
 refine aX Tryz.func272 rfl (by kernel_rfl) (by show (2:Nat)≤35;decide) ?_
 unfold aBg at b
 refine aM (aH (v:=zS none 0 0) (aI (aM (cT (Kt:=K) (xs:=([]:List bB)) (cs:=[]) (vs:=[]) cF vJ rfl rfl hs rfl (by kernel_rfl) rfl rfl rfl trivial (fun z w2 (b7:aK G K (aN 9 K z 0 ([]:List bB)::L) w2)=>(aH (v:=zS z ([]:List bB).length 0) (aI (aM (aH (v:=i64 0) (aI (aQ (aM (aH (v:=i64 0) (aI (bE (fun f w=>∃ (n:List bB) (J:Int) (p:Option Addr) (q:Nat),uC d n J=some R∧f 0=str d∧f 5=zS p n.length q∧f 6=i64 J∧aK G K (aN 9 K p q n::L) w) ?_ ?_)))))))))))))))
 ·rintro f f0 ⟨n,J,p,q,b,e8,e9,c0,c1⟩
  unfold uC at b
  refine aC (aM (aT e9 (aT e8 (aT c0 ?_))))
  obtain ⟨r,c2,b⟩:=aD b
  refine aF (R_slSL Tryz.runUnderlying9 rfl rfl c2) (cT (Kt:=K) (xs:=([r]:List bB)) (cs:=[str r]) (vs:=[(0,str r)]) cF vJ rfl rfl c1 rfl (by kernel_rfl) rfl rfl rfl ⟨rfl,trivial⟩ (fun c3 c4 (c5:aK G K (aN 9 K c3 1 ([r]:List bB)::aN 9 K p q n::L) c4)=>?_))
  obtain ⟨b3,c7,b⟩:=aD b
  refine eI (i:=0) cF Tryz.underlying22 vJ rfl rfl c5 rfl (zR _) (zR _) c7 rfl rfl rfl rfl (fun _ h=>h) (fun V Z c8 (c9:aK G K (aN 9 K V Z b3::L) c8)=>(aH (v:=zS V b3.length Z) (aI ?_)))
  obtain rfl:=zI b
  exact bH (bF Tryz.results272 rfl ⟨V,Z,rfl,c9⟩)
 obtain ⟨f1,d1,b⟩:=aD b
 refine cD d1 (fun (s:(List bB × Int × Int)) f w=>match s with|(e,g,c)=>∃ (j:Option Addr) (k:Nat),f 0=str d∧f 1=Value.int .u8 (by_.toNat:Int)∧f 5=zS j e.length k∧f 6=i64 g∧f 7=i64 c∧aK G K (aN 9 K j k e::L) w) ?_ ?_
 ·exact ⟨z,0,rfl,rfl,rfl,rfl,rfl,b7⟩
 ·rintro ⟨e,g,c⟩ b4 f f2 a d2 ⟨j,k,l,a0,a2,a3,m,a4⟩
  replace a:uD d by_ e g c=some b4:=a
  unfold uD at a
  refine aQ (aM (aT m (aT l (aF (iG Tryz.runUnderlying9 rfl) (aF (cG rfl rfl) (aI ?_))))))
  rcases aJ a with ⟨a6,a⟩|⟨a6,a⟩
  ·refine aO a6 rfl (aY (aC (aQ (bE (fun f w=>∃ (o:List bB) (t:Int) (u:Option Addr) (x:Nat),qO c o t=some b4∧f 0=str d∧f 1=Value.int .u8 (by_.toNat:Int)∧f 5=zS u o.length x∧f 6=i64 t∧f 7=i64 c∧aK G K (aN 9 K u x o::L) w) ?_ ?_))))
   ·rintro f f3 ⟨o,t,u,x,a,d3,d4,d5,d6,d7,d8⟩
    unfold qO at a
    exact aC (aS (aT d7 (aF (cQ rfl rfl) (aH (v:=i64 (wr (c+1))) (aI ⟨(o,t,wr (c+1)),(zI a).symm,u,x,d3,d4,d5,d6,rfl,d8⟩)))))
   refine aM (aT l (aT m ?_))
   obtain ⟨f4,d9,a⟩:=aD a
   refine aF (aCf Tryz.runUnderlying9 rfl rfl d9) (aT a0 (aF (oN rfl rfl) (aI ?_)))
   rcases aJ a with ⟨a7,a⟩|⟨a7,a⟩
   ·refine aO a7 rfl (aM (aT a2 (aT l (aT a3 (aT m ?_)))))
    obtain ⟨y,e0,a⟩:=aD a
    refine aF (R_slSLH Tryz.runUnderlying9 rfl rfl rfl e0) (cT (Kt:=K) (xs:=([y]:List bB)) (cs:=[str y]) (vs:=[(0,str y)]) cF vJ rfl rfl a4 rfl (by kernel_rfl) rfl rfl rfl ⟨rfl,trivial⟩ (fun e1 e2 (e3:aK G K (aN 9 K e1 1 ([y]:List bB)::aN 9 K j k e::L) e2)=>?_))
    obtain ⟨a8,e4,a⟩:=aD a
    exact eI (i:=0) cF Tryz.underlying22 vJ rfl rfl e3 rfl (zR _) (zR _) e4 rfl rfl rfl rfl (fun _ h=>h) (fun a9 b0 e5 (e6:aK G K (aN 9 K a9 b0 a8::L) e5)=>(aH (v:=zS a9 a8.length b0) (aI (aS (aT m (aF (cQ rfl rfl) (aH (v:=i64 (wr (c+1))) (bA (bG (aC ⟨a8,wr (c+1),a9,b0,a,l,a0,rfl,rfl,m,e6⟩))))))))))
   ·exact aL a7 rfl (aY (bG (aC ⟨e,g,j,k,a,l,a0,a2,a3,m,a4⟩)))
  ·refine aL a6 rfl (cB (aV (aV ?_)))
   have e7:=d2 _ (zI a).symm
   subst e7
   have b:(uC d e g)=some R:=b
   exact bJ (aC ⟨e,g,j,k,b,l,a2,a3,a4⟩)
theorem aFM {d:bB} {R:(Int × Bool)} (hs:aK G K (L) w) (c:wA d=some R):
  Calls Tryz.prog 273 ([str d]:List Value).toArray w (iK fun v w'=>v=zT #[i64 R.1,zB R.2]∧aK G K (L) w'):=by
 refine aX Tryz.func273 rfl (by kernel_rfl) (by show (1:Nat)≤62;decide) ?_
 unfold wA at c
 refine aM (aH (v:=i64 0) (aH (v:=zB false) (aI (aM (aH (v:=i64 0) (aI (aAo (fun f w=>∃ (i:Int),oX d i=some R∧f 0=str d∧f 4=i64 i∧aK G K (L) w) ?_ ?_)))))))
 ·rintro f w4 ⟨i,c,m,n,r⟩
  unfold oX at c
  refine aQ (aQ (dF (fun f w=>∃ (z:Bool),kW d i z=some R∧f 0=str d∧f 4=i64 i∧f 36=zB z∧aK G K (L) w) ?_ ?_))
  ·rintro f d6 ⟨z,c,e7,e8,e9,a6⟩
   unfold kW at c
   refine aC ?_
   rcases aJ c with ⟨J,c⟩|⟨J,c⟩
   ·refine aO J e9 (aM (aH (v:=i64 0) (aH (v:=zB false) (aI ?_))))
    obtain rfl:=zI c
    exact bH (aR (xX Tryz.results273 rfl rfl ⟨rfl,a6⟩))
   ·refine aL J e9 (aY (aC (aM (aH (v:=i64 0) (aI (aQ (aM (aT e8 (aH (v:=i64 i) (aI (bE (fun f w=>∃ (p:Int),rS i p=some R∧f 4=i64 i∧f 5=i64 p∧aK G K (L) w) ?_ ?_)))))))))))
    ·rintro f d7 ⟨p,c,c1,a7,a8⟩
     unfold rS at c
     refine aC (aAo (fun f w=>∃ (t:Int),wX t=some R∧f 5=i64 t∧aK G K (L) w) ?_ ?_)
     ·rintro f d8 ⟨t,c,c2,c3⟩
      unfold wX at c
      refine aM (aT c2 (aH (v:=i64 t) (aH (v:=zB true) (aI ?_))))
      obtain rfl:=zI c
      exact bH (xX Tryz.results273 rfl rfl ⟨rfl,c3⟩)
     refine aM (aT c1 (aF (oN rfl rfl) (aI ?_)))
     rcases aJ c with ⟨V,c⟩|⟨V,c⟩
     ·exact aO V rfl (aS (aT a7 (aF (R_neg rfl) (aH (v:=i64 (wr (0 - p))) (aI ⟨wr (0 - p),c,rfl,a8⟩)))))
     ·exact aL V rfl (aY (aC ⟨p,c,a7,a8⟩))
    obtain ⟨d9,c5,c⟩:=aD c
    refine cD c5 (fun (s:(Int × Int)) f w=>match s with|(o,q)=>f 0=str d∧f 4=i64 i∧f 5=i64 o∧f 6=i64 q∧aK G K (L) w) ?_ ?_
    ·exact ⟨e7,e8,rfl,rfl,a6⟩
    ·rintro ⟨o,q⟩ c6 f e0 h a9 ⟨u,b0,b1,x,b2⟩
     replace h:mL d o q=some c6:=h
     unfold mL at h
     refine aQ (aM (aT x (aT u (aF (iG Tryz.runUnderlying9 rfl) (aF (cG rfl rfl) (aI ?_))))))
     rcases aJ h with ⟨Z,h⟩|⟨Z,h⟩
     ·refine aO Z rfl (aY (aC (aQ (cW (aQ (aM (aT u (aT x ?_))))))))
      obtain ⟨y,b3,h⟩:=aD h
      refine aF (aCf Tryz.runUnderlying9 rfl rfl b3) ?_
      obtain ⟨e1,c7,h⟩:=aD h
      refine aU (vs:=[Value.int .u8 (y.toNat:Int)]) Tryz.call321 rfl (aDb b2 c7) ?_
      rintro _ e4 ⟨rfl,b4⟩
      refine aF (fC rfl) (aI ?_)
      rcases aJ h with ⟨a0,h⟩|⟨a0,h⟩
      ·refine aO a0 rfl (aM (aH (v:=i64 0) (aH (v:=zB false) (aI (bH (aR (bQ (aR (aR ?_)))))))))
       have c8:=a9 _ (zI h).symm
       subst c8
       have c:(some (0,false))=some R:=c
       obtain rfl:=zI c
       exact bQ (aR (aR (xX Tryz.results273 rfl rfl ⟨rfl,b4⟩)))
      ·exact aL a0 rfl (aY (aC (aS (aT b1 (aF (R_mul rfl rfl) (aT u (aT x (aF (aCf Tryz.runUnderlying9 rfl rfl b3) (aF (R_u8sub' (a:=y) (b:=(48:UInt8)) rfl rfl) (aF (R_conv64 Tryz.runUnderlying2 rfl ⟨_,Tryz.runUnderlying5⟩) (aF (cQ rfl rfl) (aH (v:=i64 (wr ((wr (10 * o))+(wr ((y - (48:UInt8)).toNat:Int))))) (bA (bG (aC (aS (aT x (aF (cQ rfl rfl) (aH (v:=i64 (wr (q+1))) (aI ⟨(wr ((wr (10 * o))+(wr ((y - (48:UInt8)).toNat:Int))),wr (q+1)),(zI h).symm,u,b0,rfl,rfl,b4⟩))))))))))))))))))))
     ·refine aL Z rfl (cB (aV (aV ?_)))
      have d0:=a9 _ (zI h).symm
      subst d0
      have c:(rS i o)=some R:=c
      exact bJ (aC ⟨o,c,b0,b1,b2⟩)
  refine aS (aT m (aF (iG Tryz.runUnderlying9 rfl) (aT n (aF (oN rfl rfl) (aP (v:=zB ((d.length:Int) == i)) ?_)))))
  rcases aJ c with ⟨j,c⟩|⟨j,c⟩
  ·exact bC j rfl rfl (bC j rfl rfl (bC j rfl rfl (bC j rfl rfl (bC j rfl rfl (aF (bO (v:=zB true) j rfl rfl) (aP (v:=zB true) (bC (rfl:true=true) rfl rfl (bC (rfl:true=true) rfl rfl (bC (rfl:true=true) rfl rfl (bC (rfl:true=true) rfl rfl (bC (rfl:true=true) rfl rfl (fY (g:=31) rfl rfl (fY (g:=31) rfl rfl (fY (g:=31) rfl rfl (bC (rfl:true=true) rfl rfl (aF (bO (v:=zB true) (rfl:true=true) rfl rfl) (aI ⟨true,c,m,n,rfl,r⟩)))))))))))))))))
  ·refine bP j rfl rfl (aT m (bP j rfl rfl (aF (iG Tryz.runUnderlying9 rfl) (bP j rfl rfl (aT n (bP j rfl rfl (aF (kL rfl rfl) (bP j rfl rfl (aF (oM rfl rfl) (aF (bV (v:=zB (decide (18 < wr ((d.length:Int) - i)))) j rfl rfl) (aP (v:=zB (decide (18 < wr ((d.length:Int) - i)))) ?_)))))))))))
   rcases aJ c with ⟨e,c⟩|⟨e,c⟩
   ·exact bC e rfl rfl (bC e rfl rfl (bC e rfl rfl (bC e rfl rfl (bC e rfl rfl (fY (g:=31) rfl rfl (fY (g:=31) rfl rfl (fY (g:=31) rfl rfl (bC e rfl rfl (aF (bO (v:=zB true) e rfl rfl) (aI ⟨true,c,m,n,rfl,r⟩))))))))))
   ·refine bP e rfl rfl (aT m (bP e rfl rfl (aT n (bP e rfl rfl ?_))))
    obtain ⟨d1,d2,c⟩:=aD c
    refine aF (aCf Tryz.runUnderlying9 rfl rfl d2) (bP e rfl rfl (aF (oN rfl rfl) (bP e rfl rfl (aP (v:=zB ((d1.toNat:Int) == 48)) ?_))))
    rcases aJ c with ⟨k,c⟩|⟨k,c⟩
    ·exact bU k rfl rfl (aT m (bU k rfl rfl (aF (iG Tryz.runUnderlying9 rfl) (bU k rfl rfl (aF (oM rfl rfl) (bP e rfl rfl (aF (bO (v:=zB (decide (1 < (d.length:Int)))) k rfl rfl) (aF (bV (v:=zB (decide (1 < (d.length:Int)))) e rfl rfl) (aI ⟨decide (1 < (d.length:Int)),c,m,n,rfl,r⟩)))))))))
    ·exact bI k rfl rfl (bI k rfl rfl (bI k rfl rfl (bP e rfl rfl (aF (bV (v:=zB false) k rfl rfl) (aF (bV (v:=zB false) e rfl rfl) (aI ⟨false,c,m,n,rfl,r⟩))))))
 refine aQ (dF (fun f w=>∃ (a1:Bool),oY d a1=some R∧f 0=str d∧f 4=i64 0∧f 14=zB a1∧aK G K (L) w) ?_ ?_)
 ·rintro f e5 ⟨a1,c,b5,d3,b6,b7⟩
  unfold oY at c
  refine aC ?_
  rcases aJ c with ⟨a2,c⟩|⟨a2,c⟩
  ·exact aO a2 b6 (aS (aH (v:=i64 1) (aI ⟨1,c,b5,rfl,b7⟩)))
  ·exact aL a2 b6 (aY (aC ⟨0,c,b5,d3,b7⟩))
 refine aS (aP (v:=str d) (aF (iG Tryz.runUnderlying9 rfl) (aF (oM rfl rfl) (aP (v:=zB (decide (0 < (d.length:Int)))) ?_))))
 rcases aJ c with ⟨l,c⟩|⟨l,c⟩
 ·refine bU l rfl rfl (aP (v:=str d) (bU l rfl rfl ?_))
  obtain ⟨b8,d4,c⟩:=aD c
  exact aF (aCf Tryz.runUnderlying9 rfl rfl d4) (bU l rfl rfl (aF (oN rfl rfl) (aF (bO (v:=zB ((b8.toNat:Int) == 45)) l rfl rfl) (aI ⟨(b8.toNat:Int) == 45,c,rfl,rfl,rfl,hs⟩))))
 ·exact bI l rfl rfl (bI l rfl rfl (bI l rfl rfl (aF (bV (v:=zB false) l rfl rfl) (aI ⟨false,c,rfl,rfl,rfl,hs⟩))))
theorem aFN {e:bB} {R:((List Int) × Bool)} (hs:aK G K (L) w) (a:aBO e=some R):
  Calls Tryz.prog 212 ([str e]:List Value).toArray w (iK fun v w'=>∃ (b3:Option Addr) (b4:Nat),v=zT #[zS b3 R.1.length b4,zB R.2]∧aK G K (aN 2 K b3 b4 R.1::L) w'):=by
 refine aX Tryz.func212 rfl (by kernel_rfl) (by show (1:Nat)≤70;decide) ?_
 unfold aBO at a
 refine aM (aH (v:=zS none 0 0) (aH (v:=zB false) (aI (aM (aP (v:=str e) ?_)))))
 obtain ⟨u,q2,a⟩:=aD a
 refine aU (vs:=[str e]) Tryz.call175 rfl (aDD hs q2) ?_
 rintro _ w3 ⟨rfl,b5⟩
 refine aH (v:=i64 u) (aI (aQ (aM (aP (v:=i64 u) (aP (v:=str e) (aF (iG Tryz.runUnderlying9 rfl) (aF (oN rfl rfl) (aI ?_))))))))
 rcases aJ a with ⟨Z,a⟩|⟨Z,a⟩
 ·refine aO Z rfl (aM (cT (Kt:=K) (xs:=([]:List Int)) (cs:=[]) (vs:=[]) bY lR rfl rfl b5 rfl (by kernel_rfl) rfl rfl rfl trivial (fun a6 w7 (d2:aK G K (aN 2 K a6 0 ([]:List Int)::L) w7)=>(aP (v:=str e) ?_))))
  obtain ⟨r9,d4,a⟩:=aD a
  refine aU (vs:=[str e]) Tryz.call271 rfl (aDE d2 d4) ?_
  rintro _ h4 ⟨rfl,d5⟩
  refine aH (v:=zS a6 ([]:List Int).length 0) (aH (v:=zB r9) (aI ?_))
  obtain rfl:=zI a
  exact bH (aR (xX Tryz.results212 rfl rfl ⟨a6,0,rfl,d5⟩))
 ·refine aL Z rfl (aY (aC (aQ (aQ (dF (fun f w=>∃ (a1:Bool),pA e u a1=some R∧f 0=str e∧f 4=i64 u∧f 31=zB a1∧aK G K (L) w) ?_ ?_)))))
  ·rintro f h5 ⟨a1,a,b6,d7,b7,b8⟩
   unfold pA at a
   refine aC ?_
   rcases aJ a with ⟨a2,a⟩|⟨a2,a⟩
   ·refine aO a2 b7 (aM (aH (v:=zS none 0 0) (aH (v:=zB false) (aI ?_))))
    have d8:=aK.nil (α:=Int) b8 2 K
    obtain rfl:=zI a
    exact bH (aR (xX Tryz.results212 rfl rfl ⟨none,0,rfl,d8⟩))
   ·refine aL a2 b7 (aY (aC (aM (aT b6 (aT d7 (aF (cQ rfl rfl) (aT b6 (aF (iG Tryz.runUnderlying9 rfl) (aF (kL rfl rfl) ?_)))))))))
    obtain ⟨e0,e1,a⟩:=aD a
    refine aF (R_slSLH Tryz.runUnderlying9 rfl rfl rfl e1) ?_
    obtain ⟨j,e2,a⟩:=aD a
    refine aU (vs:=[str e0,Value.int .u8 44]) Tryz.call272 rfl (aGr (by_:=(44:UInt8)) b8 e2) ?_
    rintro _ h6 ⟨m,n,rfl,e3⟩
    refine aH (v:=zS m j.length n) (aI (aM (cT (Kt:=K) (xs:=([]:List Int)) (cs:=[]) (vs:=[]) bY lR rfl rfl e3 rfl (by kernel_rfl) rfl rfl rfl trivial (fun a3 e4 (e5:aK G K (aN 2 K a3 0 ([]:List Int)::aN 9 K m n j::L) e4)=>(aH (v:=zS a3 ([]:List Int).length 0) (aI (aQ (aM (aH (v:=i64 0) (aI (bE (fun f w=>∃ (o:List Int) (x:Option Addr) (y:Nat),rT o=some R∧f 6=zS x o.length y∧aK G K (aN 2 K x y o::L) w) ?_ ?_)))))))))))
    ·rintro f h7 ⟨o,x,y,a,b9,e6⟩
     unfold rT at a
     refine aC (aM (aT b9 (aT b9 (aF (bN (len:=o.length) bY rfl) (aF (aEP rfl rfl) (aH (v:=zS x o.length y) (aH (v:=zB (decide ((o.length:Int)≤2))) (aI ?_))))))))
     obtain rfl:=zI a
     exact bH (xX Tryz.results212 rfl rfl ⟨x,y,rfl,e6⟩)
    obtain ⟨h8,e8,a⟩:=aD a
    refine cD e8 (fun (s:(List Int × Int)) f w=>match s with|(k,p)=>∃ (q:Option Addr) (r:Nat),f 5=zS m j.length n∧f 6=zS q k.length r∧f 7=i64 p∧aK G K (aN 2 K q r k::aN 9 K m n j::L) w) ?_ ?_
    ·exact ⟨a3,0,rfl,rfl,rfl,e5⟩
    ·rintro ⟨k,p⟩ c0 f h9 b c1 ⟨q,r,z,a4,J,V⟩
     replace b:oZ j k p=some c0:=b
     unfold oZ at b
     refine aQ (aM (aT J (aT z (aF (bN (len:=j.length) cF rfl) (aF (cG rfl rfl) (aI ?_))))))
     rcases aJ b with ⟨a5,b⟩|⟨a5,b⟩
     ·refine aO a5 rfl (aY (aC (aQ (cW (aM (aT z (aT J ?_)))))))
      obtain ⟨e9,a7,b⟩:=aD b
      have f0:=cY V (i:=1) rfl a7
      refine aF (dW cF rfl f0 rfl rfl rfl a7) (aF (jL (t:=0) mV V (i:=1) rfl a7 rfl rfl rfl) ?_)
      obtain ⟨d,f1,b⟩:=aD b
      refine aU (vs:=[str e9]) Tryz.call273 rfl (aFM V f1) ?_
      rintro _ i0 ⟨rfl,c2⟩
      refine aP (v:=zT #[i64 d.1,zB d.2]) (aF (bM rfl rfl) (aF (bM rfl rfl) (aH (v:=i64 d.1) (aH (v:=zB d.2) (aI (aQ (aQ (dF (fun f w=>∃ (a8:Bool),rU k p d a8=some c0∧f 5=zS m j.length n∧f 6=zS q k.length r∧f 7=i64 p∧f 8=i64 d.1∧f 61=zB a8∧aK G K (aN 2 K q r k::aN 9 K m n j::L) w) ?_ ?_))))))))
      ·rintro f i1 ⟨a8,b,f2,f3,f4,f5,c3,c4⟩
       unfold rU at b
       refine aC ?_
       rcases aJ b with ⟨a9,b⟩|⟨a9,b⟩
       ·refine aO a9 c3 (aM (aH (v:=zS none 0 0) (aH (v:=zB false) (aI (bH (aR (bQ (aR (aR ?_)))))))))
        have f6:=c1 _ (zI b).symm
        subst f6
        have a:(some ([],false))=some R:=a
        have f7:=aK.nil (α:=Int) c4 2 K
        obtain rfl:=zI a
        exact bQ (aR (aR (xX Tryz.results212 rfl rfl ⟨none,0,rfl,(aK.arr 3 [0] f7 rfl)⟩)))
       ·refine aL a9 c3 (aY (aC (aS (aT f3 (aT f5 (cT (Kt:=K) (xs:=([d.1]:List Int)) (cs:=[i64 d.1]) (vs:=[(0,i64 d.1)]) bY lR rfl rfl c4 rfl (by kernel_rfl) rfl rfl rfl ⟨rfl,trivial⟩ (fun f9 g0 (g1:aK G K (aN 2 K f9 1 ([d.1]:List Int)::aN 2 K q r k::aN 9 K m n j::L) g0)=>?_)))))))
        obtain ⟨b0,g2,b⟩:=aD b
        exact eI (i:=0) bY Tryz.underlying38 lR rfl rfl g1 rfl (zR _) (zR _) g2 rfl rfl rfl rfl (fun _ h=>h) (fun b1 b2 g3 (g4:aK G K (aN 2 K b1 b2 b0::aN 9 K m n j::L) g3)=>(aH (v:=zS b1 b0.length b2) (bA (bG (aC (aS (aT f4 (aF (cQ rfl rfl) (aH (v:=i64 (wr (p+1))) (aI ⟨(b0,wr (p+1)),(zI b).symm,b1,b2,f2,rfl,rfl,g4⟩))))))))))
      refine aS (aP (v:=zB d.2) (aF (fC rfl) (aP (v:=zB (!d.2)) ?_)))
      rcases aJ b with ⟨l,b⟩|⟨l,b⟩
      ·exact bC l rfl rfl (bC l rfl rfl (bC l rfl rfl (aF (bO (v:=zB true) l rfl rfl) (aI ⟨true,b,z,a4,J,rfl,rfl,c2⟩))))
      ·refine bP l rfl rfl (aP (v:=i64 d.1) (bP l rfl rfl ?_))
       obtain ⟨c6,g5,b⟩:=aD b
       refine aU (vs:=[i64 d.1,i64 0,i64 63]) Tryz.call67 rfl (tE c2 g5) ?_
       rintro _ i2 ⟨rfl,g6⟩
       exact bP l rfl rfl (aF (fC rfl) (aF (bV (v:=zB (!c6)) l rfl rfl) (aI ⟨!c6,b,z,a4,J,rfl,rfl,g6⟩)))
     ·refine aL a5 rfl (cB (aV (aV ?_)))
      have g7:=c1 _ (zI b).symm
      subst g7
      have a:(rT k)=some R:=a
      exact bJ (aC ⟨k,q,r,a,a4,(aK.arr 2 [0] V rfl)⟩)
  refine aS (aP (v:=str e) (aP (v:=i64 u) ?_))
  obtain ⟨g8,g9,a⟩:=aD a
  refine aF (R_slSH Tryz.runUnderlying9 rfl rfl g9) ?_
  obtain ⟨h0,h1,a⟩:=aD a
  refine aU (vs:=[str g8]) Tryz.call258 rfl (aFL b5 h1) ?_
  rintro _ i3 ⟨rfl,c7⟩
  refine aF (fC rfl) (aP (v:=zB (!h0)) ?_)
  rcases aJ a with ⟨c,a⟩|⟨c,a⟩
  ·exact bC c rfl rfl (bC c rfl rfl (bC c rfl rfl (bC c rfl rfl (bC c rfl rfl (bC c rfl rfl (aF (bO (v:=zB true) c rfl rfl) (aI ⟨true,a,rfl,rfl,rfl,c7⟩)))))))
  ·refine bP c rfl rfl (aP (v:=str e) (bP c rfl rfl (aP (v:=str e) (bP c rfl rfl (aF (iG Tryz.runUnderlying9 rfl) (bP c rfl rfl (aF (kL rfl rfl) (bP c rfl rfl ?_))))))))
   obtain ⟨c8,h2,a⟩:=aD a
   exact aF (aCf Tryz.runUnderlying9 rfl rfl h2) (bP c rfl rfl (aF (oO rfl rfl) (aF (bV (v:=zB ((c8.toNat:Int) != 41)) c rfl rfl) (aI ⟨(c8.toNat:Int) != 41,a,rfl,rfl,rfl,c7⟩))))
theorem aGs {b:bB} {R:Bool} (g:aK G K (L) w) (c:aBh b=some R):
  Calls Tryz.prog 157 ([str b]:List Value).toArray w (iK fun v w'=>v=zB R∧aK G K (L) w'):=by
 refine aX Tryz.func157 rfl (by kernel_rfl) (by show (1:Nat)≤11;decide) ?_
 unfold aBh at c
 refine aM (aH (v:=zB false) (aI (aM (aP (v:=str b) ?_))))
 obtain ⟨a,h,c⟩:=aD c
 refine aU (vs:=[str b]) Tryz.call212 rfl (aFN g h) ?_
 rintro _ k ⟨d,e,rfl,i⟩
 refine aP (v:=zT #[zS d a.1.length e,zB a.2]) (aF (bM rfl rfl) (aF (bM rfl rfl) (aH (v:=zS d a.1.length e) (aH (v:=zB a.2) (aI (aM (aP (v:=zB a.2) (aH (v:=zB a.2) (aI ?_)))))))))
 obtain rfl:=zI c
 exact bH (bF Tryz.results157 rfl ⟨rfl,(aK.arr 1 [] i rfl)⟩)
theorem aGt {e:(List bB)} {R:Bool} (q:aK G K (L) w) (n:dB K a1 c2 e) (c:aBi e=some R):
  Calls Tryz.prog 68 ([zS a1 e.length c2]:List Value).toArray w (iK fun v w'=>v=zB R∧aK G K (L) w'):=by
 refine aX Tryz.func68 rfl (by kernel_rfl) (by show (1:Nat)≤53;decide) ?_
 unfold aBi at c
 refine aM (aH (v:=zB false) (aI (aQ (aQ (dF (fun f w=>∃ (u:Bool),qQ e u=some R∧f 0=zS a1 e.length c2∧f 17=zB u∧aK G K (L) w) ?_ ?_)))))
 ·rintro f w7 ⟨u,c,e5,e6,a2⟩
  unfold qQ at c
  refine aC ?_
  rcases aJ c with ⟨x,c⟩|⟨x,c⟩
  ·refine aO x e6 (aM (aH (v:=zB false) (aI ?_)))
   obtain rfl:=zI c
   exact bH (aR (bF Tryz.results68 rfl ⟨rfl,a2⟩))
  ·refine aL x e6 (aY (aC (aQ (aM (aH (v:=i64 1) (aI (bE (fun f w=>yT=some R∧aK G K (L) w) ?_ ?_)))))))
   ·rintro f d4 ⟨c,b3⟩
    unfold yT at c
    refine aC (aM (aH (v:=zB true) (aI ?_)))
    obtain rfl:=zI c
    exact bH (bF Tryz.results68 rfl ⟨rfl,b3⟩)
   obtain ⟨d5,b5,c⟩:=aD c
   refine cD b5 (fun (o:Int) f w=>f 0=zS a1 e.length c2∧f 3=i64 o∧aK G K (L) w) ?_ ?_
   ·exact ⟨e5,rfl,a2⟩
   ·rintro o a3 f d6 b a4 ⟨l,k,a⟩
    replace b:qP e o=some a3:=b
    unfold qP at b
    refine aQ (aM (aT k (aT l (aF (bN (len:=e.length) cF rfl) (aF (cG rfl rfl) (aI ?_))))))
    rcases aJ b with ⟨y,b⟩|⟨y,b⟩
    ·refine aO y rfl (aY (aC (aQ (cW (aQ (dF (fun f w=>∃ (z:Bool),nZ o z=some a3∧f 0=zS a1 e.length c2∧f 3=i64 o∧f 52=zB z∧aK G K (L) w) ?_ ?_))))))
     ·rintro f d7 ⟨z,b,b6,b7,a5,a6⟩
      unfold nZ at b
      refine aC ?_
      rcases aJ b with ⟨J,b⟩|⟨J,b⟩
      ·refine aO J a5 (aM (aH (v:=zB false) (aI (bH (bQ (aR (aR ?_)))))))
       have b8:=a4 _ (zI b).symm
       subst b8
       have c:(some false)=some R:=c
       obtain rfl:=zI c
       exact bQ (aR (aR (bF Tryz.results68 rfl ⟨rfl,a6⟩)))
      ·exact aL J a5 (aY (bG (aC (aS (aT b7 (aF (cQ rfl rfl) (aH (v:=i64 (wr (o+1))) (aI ⟨wr (o+1),(zI b).symm,b6,rfl,a6⟩))))))))
     refine dR (C:=fun w'=>aK G K (L) w') bT (by kernel_rfl) (aK.mono a (dQ.drew _)) (aW (fun _ a=>aZ l) (aW (fun _ a=>aZ k) ?_))
     obtain ⟨p,r,b⟩:=aD b
     refine aW (fun _ a=>dN cF rfl n rfl rfl rfl r) ?_
     obtain ⟨d8,V,c0⟩:=dB.el (sz:=1) rfl n r
     cases c0
     refine aW (fun _ a=>bK (t:=0) mV a V rfl rfl) ?_
     obtain ⟨a7,c1,b⟩:=aD b
     refine pK (vs:=[str p]) (v:=zB a7) Tryz.call157 rfl (fun _ a=>(aGs a c1)) (aW (fun _ a=>fC rfl) (aW (fun _ a=>aZ (v:=zB (!a7)) rfl) ?_))
     rcases aJ b with ⟨h,b⟩|⟨h,b⟩
     ·refine bD (g:=30) rfl rfl (cJ h) (bD (g:=30) rfl rfl (cJ h) (bD (g:=30) rfl rfl (cJ h) (bD (g:=30) rfl rfl (cJ h) (bD (g:=30) rfl rfl (cJ h) (aW (fun _ a=>bO (v:=zB true) h rfl rfl) (aW (fun _ a=>aZ (v:=zB true) rfl) (bD (g:=37) rfl rfl (cJ (rfl:true=true)) (bD (g:=37) rfl rfl (cJ (rfl:true=true)) (bD (g:=37) rfl rfl (cJ (rfl:true=true)) (cM (g:=40) rfl rfl (cM (g:=40) rfl rfl (cM (g:=40) rfl rfl (cM (g:=40) rfl rfl (cM (g:=40) rfl rfl (cM (g:=40) rfl rfl (cM (g:=40) rfl rfl (cM (g:=40) rfl rfl (cM (g:=40) rfl rfl (cM (g:=40) rfl rfl (bD (g:=37) rfl rfl (cJ (rfl:true=true)) (aW (fun _ a=>bO (v:=zB true) (rfl:true=true) rfl rfl) (eF (fun d9 c3=>?_)))))))))))))))))))))))
      exact aC ⟨true,b,l,k,rfl,c3⟩
     ·refine bW (g:=30) rfl rfl (cI h) (aW (fun _ a=>aZ l) (bW (g:=30) rfl rfl (cI h) (aW (fun _ a=>aZ k) (bW (g:=30) rfl rfl (cI h) (aW (fun _ a=>dN cF rfl n rfl rfl rfl r) (bW (g:=30) rfl rfl (cI h) (aW (fun _ a=>bK (t:=0) mV a V rfl rfl) (bW (g:=30) rfl rfl (cI h) (aW (fun _ a=>wN rfl rfl) (aW (fun _ a=>bV (v:=zB (p == ([116,97,117]:bB))) h rfl rfl) (aW (fun _ a=>aZ (v:=zB (p == ([116,97,117]:bB))) rfl) ?_)))))))))))
      rcases aJ b with ⟨i,b⟩|⟨i,b⟩
      ·exact bD (g:=37) rfl rfl (cJ i) (bD (g:=37) rfl rfl (cJ i) (bD (g:=37) rfl rfl (cJ i) (cM (g:=40) rfl rfl (cM (g:=40) rfl rfl (cM (g:=40) rfl rfl (cM (g:=40) rfl rfl (cM (g:=40) rfl rfl (cM (g:=40) rfl rfl (cM (g:=40) rfl rfl (cM (g:=40) rfl rfl (cM (g:=40) rfl rfl (cM (g:=40) rfl rfl (bD (g:=37) rfl rfl (cJ i) (aW (fun _ a=>bO (v:=zB true) i rfl rfl) (eF (fun e0 c4=>(aC ⟨true,b,l,k,rfl,c4⟩)))))))))))))))))
      ·refine bW (g:=37) rfl rfl (cI i) (aW (fun _ a=>aZ k) (bW (g:=37) rfl rfl (cI i) (aW (fun _ a=>oM rfl rfl) (bW (g:=37) rfl rfl (cI i) (aW (fun _ a=>aZ (v:=zB (decide (1 < o))) rfl) ?_)))))
       rcases aJ b with ⟨d,b⟩|⟨d,b⟩
       ·refine bW (g:=40) rfl rfl d (aW (fun _ a=>aZ l) (bW (g:=40) rfl rfl d (aW (fun _ a=>aZ k) (bW (g:=40) rfl rfl d (aW (fun _ a=>kL rfl rfl) (bW (g:=40) rfl rfl d ?_))))))
        obtain ⟨Z,a8,b⟩:=aD b
        refine aW (fun _ a=>dN cF rfl n rfl rfl rfl a8) ?_
        obtain ⟨e1,c5,c6⟩:=dB.el (sz:=1) rfl n a8
        cases c6
        exact bW (g:=40) rfl rfl d (aW (fun _ a=>bK (t:=0) mV a c5 rfl rfl) (bW (g:=40) rfl rfl d (aW (fun _ a=>aZ l) (bW (g:=40) rfl rfl d (aW (fun _ a=>aZ k) (bW (g:=40) rfl rfl d (aW (fun _ a=>dN cF rfl n rfl rfl rfl r) (bW (g:=40) rfl rfl d (aW (fun _ a=>bK (t:=0) mV a V rfl rfl) (bW (g:=40) rfl rfl d (aW (fun _ a=>R_geqS rfl rfl) (bW (g:=37) rfl rfl (cI i) (aW (fun _ a=>bO (v:=zB (!vU Z p)) d rfl rfl) (aW (fun _ a=>bV (v:=zB (!vU Z p)) i rfl rfl) (eF (fun e2 c7=>(aC ⟨!vU Z p,b,l,k,rfl,c7⟩)))))))))))))))))
       ·exact bD (g:=40) rfl rfl (dD d) (bD (g:=40) rfl rfl (dD d) (bD (g:=40) rfl rfl (dD d) (bD (g:=40) rfl rfl (dD d) (bD (g:=40) rfl rfl (dD d) (bD (g:=40) rfl rfl (dD d) (bD (g:=40) rfl rfl (dD d) (bD (g:=40) rfl rfl (dD d) (bD (g:=40) rfl rfl (dD d) (bD (g:=40) rfl rfl (dD d) (bW (g:=37) rfl rfl (cI i) (aW (fun _ a=>bV (v:=zB false) d rfl rfl) (aW (fun _ a=>bV (v:=zB false) i rfl rfl) (eF (fun e3 c8=>(aC ⟨false,b,l,k,rfl,c8⟩)))))))))))))))
    ·refine aL y rfl (cB (aV (aV ?_)))
     have d0:=a4 _ (zI b).symm
     subst d0
     have c:(yT)=some R:=c
     exact bJ (aC ⟨c,a⟩)
 refine aS (aP (v:=zS a1 e.length c2) (aF (bN (len:=e.length) cF rfl) (aF (oN rfl rfl) (aP (v:=zB ((e.length:Int) == 0)) ?_))))
 rcases aJ c with ⟨m,c⟩|⟨m,c⟩
 ·exact bC m rfl rfl (bC m rfl rfl (bC m rfl rfl (aF (bO (v:=zB true) m rfl rfl) (aP (v:=zB true) (bC (rfl:true=true) rfl rfl (bC (rfl:true=true) rfl rfl (bC (rfl:true=true) rfl rfl (bC (rfl:true=true) rfl rfl (aF (bO (v:=zB true) (rfl:true=true) rfl rfl) (aI ⟨true,c,rfl,rfl,q⟩))))))))))
 ·refine bP m rfl rfl (aP (v:=zS a1 e.length c2) (bP m rfl rfl (aF (bN (len:=e.length) cF rfl) (bP m rfl rfl (aF (oM rfl rfl) (aF (bV (v:=zB (decide (12 < (e.length:Int)))) m rfl rfl) (aP (v:=zB (decide (12 < (e.length:Int)))) ?_)))))))
  rcases aJ c with ⟨j,c⟩|⟨j,c⟩
  ·exact bC j rfl rfl (bC j rfl rfl (bC j rfl rfl (bC j rfl rfl (aF (bO (v:=zB true) j rfl rfl) (aI ⟨true,c,rfl,rfl,q⟩)))))
  ·refine bP j rfl rfl (aP (v:=zS a1 e.length c2) (bP j rfl rfl ?_))
   obtain ⟨a9,b0,c⟩:=aD c
   refine aF (dN cF rfl n rfl rfl rfl b0) ?_
   obtain ⟨e4,d1,d2⟩:=dB.el (sz:=1) rfl n b0
   cases d2
   exact bP j rfl rfl (aF (bK (t:=0) mV q d1 rfl rfl) (bP j rfl rfl (aF (aEq rfl rfl) (aF (bV (v:=zB (!(a9 == ([116,97,117]:bB)))) j rfl rfl) (aI ⟨!(a9 == ([116,97,117]:bB)),c,rfl,rfl,q⟩)))))
theorem aDF {a:Edge} {h:Nat} {b:Edge} {i:Nat} {R:Bool} (j:aK G K (L) w) (e:kR K a1 h [i64 a.F,i64 a.B,i64 a.To]) (g:kR K a4 i [i64 b.F,i64 b.B,i64 b.To]) (k:aAP a b=some R):
  Calls Tryz.prog 69 ([dC a1 h,dC a4 i]:List Value).toArray w (iK fun v w'=>v=zB R∧aK G K (L) w'):=by
 refine aX Tryz.func69 rfl (by kernel_rfl) (by show (2:Nat)≤50;decide) ?_
 unfold aAP at k
 refine aM (aH (v:=zB false) (aI (aQ (aQ (dR (C:=fun w'=>aK G K (L) w') bT (by kernel_rfl) (aK.mono j (dQ.drew _)) (aW (fun _ j=>aZ (v:=dC a1 h) rfl) (aW (fun _ j=>dE rfl e) (aW (fun _ j=>cR (k':=h+0) kG rfl e rfl) (aW (fun _ j=>bK (t:=0) cV j e rfl rfl) (aW (fun _ j=>aZ (v:=dC a4 i) rfl) (aW (fun _ j=>dE rfl g) (aW (fun _ j=>cR (k':=i+0) kG rfl g rfl) (aW (fun _ j=>bK (t:=0) cV j g rfl rfl) (aW (fun _ j=>oO rfl rfl) (eF (fun x d=>(aC ?_)))))))))))))))))
 rcases aJ k with ⟨l,k⟩|⟨l,k⟩
 ·refine aO l rfl (aQ (dR (C:=fun w'=>aK G K (L) w') bT (by kernel_rfl) (aK.mono d (dQ.drew _)) (aW (fun _ d=>aZ (v:=dC a1 h) rfl) (aW (fun _ d=>dE rfl e) (aW (fun _ d=>cR (k':=h+0) kG rfl e rfl) (aW (fun _ d=>bK (t:=0) cV d e rfl rfl) (aW (fun _ d=>aZ (v:=dC a4 i) rfl) (aW (fun _ d=>dE rfl g) (aW (fun _ d=>cR (k':=i+0) kG rfl g rfl) (aW (fun _ d=>bK (t:=0) cV d g rfl rfl) (aW (fun _ d=>cG rfl rfl) (aW (fun _ d=>dH (v:=zB (decide (a.F < b.F))) rfl) (eF (fun y n=>(aC ?_)))))))))))))))
  obtain rfl:=zI k
  exact bH (aR (bF Tryz.results69 rfl ⟨rfl,n⟩))
 ·refine aL l rfl (aY (aC (aQ (aQ (dR (C:=fun w'=>aK G K (L) w') bT (by kernel_rfl) (aK.mono d (dQ.drew _)) (aW (fun _ d=>aZ (v:=dC a1 h) rfl) (aW (fun _ d=>dE rfl e) (aW (fun _ d=>cR (k':=h+1) iF rfl e rfl) (aW (fun _ d=>bK (t:=1) cV d e rfl rfl) (aW (fun _ d=>aZ (v:=dC a4 i) rfl) (aW (fun _ d=>dE rfl g) (aW (fun _ d=>cR (k':=i+1) iF rfl g rfl) (aW (fun _ d=>bK (t:=1) cV d g rfl rfl) (aW (fun _ d=>oO rfl rfl) (eF (fun z c=>(aC ?_)))))))))))))))))
  rcases aJ k with ⟨m,k⟩|⟨m,k⟩
  ·refine aO m rfl (aQ (dR (C:=fun w'=>aK G K (L) w') bT (by kernel_rfl) (aK.mono c (dQ.drew _)) (aW (fun _ c=>aZ (v:=dC a1 h) rfl) (aW (fun _ c=>dE rfl e) (aW (fun _ c=>cR (k':=h+1) iF rfl e rfl) (aW (fun _ c=>bK (t:=1) cV c e rfl rfl) (aW (fun _ c=>aZ (v:=dC a4 i) rfl) (aW (fun _ c=>dE rfl g) (aW (fun _ c=>cR (k':=i+1) iF rfl g rfl) (aW (fun _ c=>bK (t:=1) cV c g rfl rfl) (aW (fun _ c=>cG rfl rfl) (aW (fun _ c=>dH (v:=zB (decide (a.B < b.B))) rfl) (eF (fun J p=>(aC ?_)))))))))))))))
   obtain rfl:=zI k
   exact bH (aR (bF Tryz.results69 rfl ⟨rfl,p⟩))
  ·refine aL m rfl (aY (aC (aQ (dR (C:=fun w'=>aK G K (L) w') bT (by kernel_rfl) (aK.mono c (dQ.drew _)) (aW (fun _ c=>aZ (v:=dC a1 h) rfl) (aW (fun _ c=>dE rfl e) (aW (fun _ c=>cR (k':=h+2) gX rfl e rfl) (aW (fun _ c=>bK (t:=2) cV c e rfl rfl) (aW (fun _ c=>aZ (v:=dC a4 i) rfl) (aW (fun _ c=>dE rfl g) (aW (fun _ c=>cR (k':=i+2) gX rfl g rfl) (aW (fun _ c=>bK (t:=2) cV c g rfl rfl) (aW (fun _ c=>cG rfl rfl) (aW (fun _ c=>dH (v:=zB (decide (a.To < b.To))) rfl) (eF (fun V r=>(aC ?_)))))))))))))))))
   obtain rfl:=zI k
   exact bH (bF Tryz.results69 rfl ⟨rfl,r⟩)
theorem aFc {t:cN} {k:Nat} {R:Bool} (a:aK G K (L) w) (e:kR K a1 k (zC t a4 c5 a7 c8)) (h6:dB K a4 c5 t.L) (z:dB K a7 c8 t.E) (d:aDT t=some R):
  Calls Tryz.prog 23 ([dC a1 k]:List Value).toArray w (iK fun v w'=>v=zB R∧aK G K (L) w'):=by
 refine aX Tryz.func23 rfl (by kernel_rfl) (by show (1:Nat)≤101;decide) ?_
 unfold aDT at d
 refine aM (aH (v:=zB false) (aI (aQ (aQ (dF (fun f w=>∃ (Z:Bool),vK t Z=some R∧f 0=dC a1 k∧f 39=zB Z∧aK G K (L) w) ?_ ?_)))))
 ·rintro f g8 ⟨Z,d,c9,b6,b7⟩
  unfold vK at d
  refine aC ?_
  rcases aJ d with ⟨a0,d⟩|⟨a0,d⟩
  ·refine aO a0 b6 (aM (aH (v:=zB false) (aI ?_)))
   obtain rfl:=zI d
   exact bH (aR (bF Tryz.results23 rfl ⟨rfl,b7⟩))
  ·refine aL a0 b6 (aY (aC (aQ (aM (aH (v:=i64 0) (aI (bE (fun f w=>aCL=some R∧aK G K (L) w) ?_ ?_)))))))
   ·rintro f g9 ⟨d,d1⟩
    unfold aCL at d
    refine aC (aM (aH (v:=zB true) (aI ?_)))
    obtain rfl:=zI d
    exact bH (bF Tryz.results23 rfl ⟨rfl,d1⟩)
   obtain ⟨h0,d3,d⟩:=aD d
   refine cD d3 (fun (q:Int) f w=>f 0=dC a1 k∧f 3=i64 q∧aK G K (L) w) ?_ ?_
   ·exact ⟨c9,rfl,b7⟩
   ·rintro q a2 f h1 b a3 ⟨r,u,x⟩
    replace b:yD t q=some a2:=b
    unfold yD at b
    refine aQ (aM (aT u (aT r (aF (dE rfl e) (aF (cR (k':=k+3) eR rfl e rfl) (aF (bK (t:=3) lK x e rfl rfl) (aF (bN (len:=t.E.length) cK rfl) (aF (cG rfl rfl) (aI ?_)))))))))
    rcases aJ b with ⟨a5,b⟩|⟨a5,b⟩
    ·refine aO a5 rfl (aY (aC (aQ (cW (aM (aT r (aF (dE rfl e) (aF (cR (k':=k+3) eR rfl e rfl) (aF (bK (t:=3) lK x e rfl rfl) (aT u ?_))))))))))
     obtain ⟨l,b8,b⟩:=aD b
     refine aF (dN cK rfl z rfl rfl rfl b8) ?_
     obtain ⟨h2,d4,d5⟩:=dB.el (sz:=3) rfl z b8
     cases d5
     refine aF (fZ (t:=0) (vs:=[i64 l.F,i64 l.B,i64 l.To]) lU x d4 rfl rfl rfl) (bS (vs:=[i64 0,i64 0,i64 0]) Tryz.zeroValue63 x rfl (fun y h4 d6=>(bR (i:=0) (ns:=[i64 l.F,i64 l.B,i64 l.To]) (us:=[i64 l.F,i64 l.B,i64 l.To]) Tryz.sizeOf63 d6 rfl rfl rfl rfl rfl (cX rfl) rfl rfl (fun d7 (c:aK G K (box y 63 [i64 l.F,i64 l.B,i64 l.To]::L) d7)=>(aI (aQ (aQ (dF (fun f w=>∃ (a6:Bool),yC t q l a6=some a2∧f 0=dC a1 k∧f 3=i64 q∧f 4=Value.pointer (some ⟨y,0,none⟩)∧f 87=zB a6∧aK G K (box y 63 [i64 l.F,i64 l.B,i64 l.To]::L) w) ?_ ?_))))))))
     ·rintro f h5 ⟨a6,b,a8,J,d8,b9,V⟩
      unfold yC at b
      refine aC ?_
      rcases aJ b with ⟨a9,b⟩|⟨a9,b⟩
      ·refine aO a9 b9 (aM (aH (v:=zB false) (aI (bH (aR (bQ (aR (aR ?_))))))))
       have d9:=a3 _ (zI b).symm
       subst d9
       have d:(some false)=some R:=d
       obtain rfl:=zI d
       exact bQ (aR (aR (bF Tryz.results23 rfl ⟨rfl,(aK.arr 1 [] V rfl)⟩)))
      ·refine aL a9 b9 (aY (aC (aQ (dF (fun f w=>∃ (b0:Bool),aBj q b0=some a2∧f 0=dC a1 k∧f 3=i64 q∧f 100=zB b0∧aK G K (L) w) ?_ ?_))))
       ·rintro f h7 ⟨b0,b,e1,e2,c0,c1⟩
        unfold aBj at b
        refine aC ?_
        rcases aJ b with ⟨b1,b⟩|⟨b1,b⟩
        ·refine aO b1 c0 (aM (aH (v:=zB false) (aI (bH (bQ (aR (aR ?_)))))))
         have e3:=a3 _ (zI b).symm
         subst e3
         have d:(some false)=some R:=d
         obtain rfl:=zI d
         exact bQ (aR (aR (bF Tryz.results23 rfl ⟨rfl,c1⟩)))
        ·exact aL b1 c0 (aY (bG (aC (aS (aT e2 (aF (cQ rfl rfl) (aH (v:=i64 (wr (q+1))) (aI ⟨wr (q+1),(zI b).symm,e1,rfl,c1⟩))))))))
       refine aS (aT J (aF (oM rfl rfl) (aP (v:=zB (decide (0 < q))) ?_)))
       rcases aJ b with ⟨m,b⟩|⟨m,b⟩
       ·refine bU m rfl rfl (aT a8 (bU m rfl rfl (aF (dE rfl e) (bU m rfl rfl (aF (cR (k':=k+3) eR rfl e rfl) (bU m rfl rfl (aF (bK (t:=3) lK V e rfl rfl) (bU m rfl rfl (aT J (bU m rfl rfl (aF (kL rfl rfl) (bU m rfl rfl ?_))))))))))))
        obtain ⟨h8,c2,b⟩:=aD b
        refine aF (dN cK rfl z rfl rfl rfl c2) ?_
        obtain ⟨i0,e5,e6⟩:=dB.el (sz:=3) rfl z c2
        cases e6
        refine bU m rfl rfl ?_
        obtain ⟨i1,e7,e8,e9,f0⟩:=aK.lendB (i:=0) V rfl
        obtain ⟨c3,f1,b⟩:=aD b
        refine aU (vs:=[dC a7 ((wr (q - 1)).toNat * 3+0),dC (some ⟨y,0,none⟩) 0]) Tryz.call69 (lst2 rfl d8) (aDF e9 (e5.mono e7) e8 f1) ?_
        rintro _ i2 ⟨rfl,f2⟩
        have f3:=f0 _ _ f2
        exact bU m rfl rfl (aF (fC rfl) (aF (bO (v:=zB (!c3)) m rfl rfl) (aI ⟨!c3,b,a8,J,rfl,(aK.arr 1 [] f3 rfl)⟩)))
       ·exact bI m rfl rfl (bI m rfl rfl (bI m rfl rfl (bI m rfl rfl (bI m rfl rfl (bI m rfl rfl (bI m rfl rfl (bI m rfl rfl (bI m rfl rfl (aF (bV (v:=zB false) m rfl rfl) (aI ⟨false,b,a8,J,rfl,(aK.arr 1 [] V rfl)⟩))))))))))
     refine dR (C:=fun w'=>aK G K (box y 63 [i64 l.F,i64 l.B,i64 l.To]::L) w') bT (by kernel_rfl) (aK.mono c (dQ.drew _)) (aW (fun _ c=>bL (t':=0) kG rfl rfl) (aW (fun _ c=>cC cV c (i:=0) rfl rfl rfl) (aW (fun _ c=>aZ r) (aW (fun _ c=>dE rfl e) (aW (fun _ c=>cR (k':=k+0) iZ rfl e rfl) (aW (fun _ c=>bK (t:=0) cV c e rfl rfl) (aW (fun _ c=>kL rfl rfl) ?_)))))))
     obtain ⟨c4,f4,b⟩:=aD b
     refine pK (vs:=[i64 l.F,i64 0,i64 (wr (t.N - 1))]) (v:=zB c4) Tryz.call67 rfl (fun _ c=>(tE c f4)) (aW (fun _ c=>fC rfl) (aW (fun _ c=>aZ (v:=zB (!c4)) rfl) ?_))
     rcases aJ b with ⟨n,b⟩|⟨n,b⟩
     ·refine bD (g:=65) rfl rfl (cJ n) (bD (g:=65) rfl rfl (cJ n) (bD (g:=65) rfl rfl (cJ n) (bD (g:=65) rfl rfl (cJ n) (bD (g:=65) rfl rfl (cJ n) (bD (g:=65) rfl rfl (cJ n) (bD (g:=65) rfl rfl (cJ n) (bD (g:=65) rfl rfl (cJ n) (bD (g:=65) rfl rfl (cJ n) (aW (fun _ c=>bO (v:=zB true) n rfl rfl) (aW (fun _ c=>aZ (v:=zB true) rfl) (bD (g:=76) rfl rfl (cJ (rfl:true=true)) (bD (g:=76) rfl rfl (cJ (rfl:true=true)) (bD (g:=76) rfl rfl (cJ (rfl:true=true)) (bD (g:=76) rfl rfl (cJ (rfl:true=true)) (bD (g:=76) rfl rfl (cJ (rfl:true=true)) (bD (g:=76) rfl rfl (cJ (rfl:true=true)) (bD (g:=76) rfl rfl (cJ (rfl:true=true)) (bD (g:=76) rfl rfl (cJ (rfl:true=true)) (bD (g:=76) rfl rfl (cJ (rfl:true=true)) (bD (g:=76) rfl rfl (cJ (rfl:true=true)) (aW (fun _ c=>bO (v:=zB true) (rfl:true=true) rfl rfl) (eF (fun i3 f5=>?_)))))))))))))))))))))))
      exact aC ⟨true,b,r,u,rfl,rfl,f5⟩
     ·refine bW (g:=65) rfl rfl (cI n) (aW (fun _ c=>bL (t':=2) gX rfl rfl) (bW (g:=65) rfl rfl (cI n) (aW (fun _ c=>cC cV c (i:=0) rfl rfl rfl) (bW (g:=65) rfl rfl (cI n) (aW (fun _ c=>aZ r) (bW (g:=65) rfl rfl (cI n) (aW (fun _ c=>dE rfl e) (bW (g:=65) rfl rfl (cI n) (aW (fun _ c=>cR (k':=k+0) iZ rfl e rfl) (bW (g:=65) rfl rfl (cI n) (aW (fun _ c=>bK (t:=0) cV c e rfl rfl) (bW (g:=65) rfl rfl (cI n) (aW (fun _ c=>kL rfl rfl) (bW (g:=65) rfl rfl (cI n) ?_))))))))))))))
      obtain ⟨b2,f6,b⟩:=aD b
      refine pK (vs:=[i64 l.To,i64 0,i64 (wr (t.N - 1))]) (v:=zB b2) Tryz.call67 rfl (fun _ c=>(tE c f6)) (bW (g:=65) rfl rfl (cI n) (aW (fun _ c=>fC rfl) (aW (fun _ c=>bV (v:=zB (!b2)) n rfl rfl) (aW (fun _ c=>aZ (v:=zB (!b2)) rfl) ?_))))
      rcases aJ b with ⟨j,b⟩|⟨j,b⟩
      ·exact bD (g:=76) rfl rfl (cJ j) (bD (g:=76) rfl rfl (cJ j) (bD (g:=76) rfl rfl (cJ j) (bD (g:=76) rfl rfl (cJ j) (bD (g:=76) rfl rfl (cJ j) (bD (g:=76) rfl rfl (cJ j) (bD (g:=76) rfl rfl (cJ j) (bD (g:=76) rfl rfl (cJ j) (bD (g:=76) rfl rfl (cJ j) (bD (g:=76) rfl rfl (cJ j) (aW (fun _ c=>bO (v:=zB true) j rfl rfl) (eF (fun i4 f7=>(aC ⟨true,b,r,u,rfl,rfl,f7⟩)))))))))))))
      ·refine bW (g:=76) rfl rfl (cI j) (aW (fun _ c=>bL (t':=1) iF rfl rfl) (bW (g:=76) rfl rfl (cI j) (aW (fun _ c=>cC cV c (i:=0) rfl rfl rfl) (bW (g:=76) rfl rfl (cI j) (aW (fun _ c=>aZ r) (bW (g:=76) rfl rfl (cI j) (aW (fun _ c=>dE rfl e) (bW (g:=76) rfl rfl (cI j) (aW (fun _ c=>cR (k':=k+2) eG rfl e rfl) (bW (g:=76) rfl rfl (cI j) (aW (fun _ c=>bK (t:=2) iT c e rfl rfl) (bW (g:=76) rfl rfl (cI j) (aW (fun _ c=>bN (len:=t.L.length) cF rfl) (bW (g:=76) rfl rfl (cI j) (aW (fun _ c=>kL rfl rfl) (bW (g:=76) rfl rfl (cI j) ?_))))))))))))))))
       obtain ⟨b3,f8,b⟩:=aD b
       exact pK (vs:=[i64 l.B,i64 0,i64 (wr ((t.L.length:Int) - 1))]) (v:=zB b3) Tryz.call67 rfl (fun _ c=>(tE c f8)) (bW (g:=76) rfl rfl (cI j) (aW (fun _ c=>fC rfl) (aW (fun _ c=>bV (v:=zB (!b3)) j rfl rfl) (eF (fun i5 f9=>(aC ⟨!b3,b,r,u,rfl,rfl,f9⟩))))))
    ·refine aL a5 rfl (cB (aV (aV ?_)))
     have g0:=a3 _ (zI b).symm
     subst g0
     have d:(aCL)=some R:=d
     exact bJ (aC ⟨d,x⟩)
 refine dR (C:=fun w'=>aK G K (L) w') bT (by kernel_rfl) (aK.mono a (dQ.drew _)) (aW (fun _ a=>aZ (v:=dC a1 k) rfl) (aW (fun _ a=>dE rfl e) (aW (fun _ a=>cR (k':=k+0) iZ rfl e rfl) (aW (fun _ a=>bK (t:=0) cV a e rfl rfl) ?_))))
 obtain ⟨c6,g1,d⟩:=aD d
 refine pK (vs:=[i64 t.N,i64 1,i64 40]) (v:=zB c6) Tryz.call67 rfl (fun _ a=>(tE a g1)) (aW (fun _ a=>fC rfl) (aW (fun _ a=>aZ (v:=zB (!c6)) rfl) ?_))
 rcases aJ d with ⟨h,d⟩|⟨h,d⟩
 ·refine bD (g:=11) rfl rfl (cJ h) (bD (g:=11) rfl rfl (cJ h) (bD (g:=11) rfl rfl (cJ h) (bD (g:=11) rfl rfl (cJ h) (bD (g:=11) rfl rfl (cJ h) (bD (g:=11) rfl rfl (cJ h) (bD (g:=11) rfl rfl (cJ h) (bD (g:=11) rfl rfl (cJ h) (bD (g:=11) rfl rfl (cJ h) (bD (g:=11) rfl rfl (cJ h) (bD (g:=11) rfl rfl (cJ h) (aW (fun _ a=>bO (v:=zB true) h rfl rfl) (aW (fun _ a=>aZ (v:=zB true) rfl) (bD (g:=24) rfl rfl (cJ (rfl:true=true)) (bD (g:=24) rfl rfl (cJ (rfl:true=true)) (bD (g:=24) rfl rfl (cJ (rfl:true=true)) (bD (g:=24) rfl rfl (cJ (rfl:true=true)) (bD (g:=24) rfl rfl (cJ (rfl:true=true)) (bD (g:=24) rfl rfl (cJ (rfl:true=true)) (aW (fun _ a=>bO (v:=zB true) (rfl:true=true) rfl rfl) (aW (fun _ a=>aZ (v:=zB true) rfl) (bD (g:=32) rfl rfl (cJ (rfl:true=true)) (bD (g:=32) rfl rfl (cJ (rfl:true=true)) (bD (g:=32) rfl rfl (cJ (rfl:true=true)) ?_)))))))))))))))))))))))
  exact bD (g:=32) rfl rfl (cJ (rfl:true=true)) (bD (g:=32) rfl rfl (cJ (rfl:true=true)) (bD (g:=32) rfl rfl (cJ (rfl:true=true)) (aW (fun _ a=>bO (v:=zB true) (rfl:true=true) rfl rfl) (eF (fun i6 g2=>(aC ⟨true,d,rfl,rfl,g2⟩))))))
 ·refine bW (g:=11) rfl rfl (cI h) (aW (fun _ a=>aZ (v:=dC a1 k) rfl) (bW (g:=11) rfl rfl (cI h) (aW (fun _ a=>dE rfl e) (bW (g:=11) rfl rfl (cI h) (aW (fun _ a=>cR (k':=k+1) sN rfl e rfl) (bW (g:=11) rfl rfl (cI h) (aW (fun _ a=>bK (t:=1) cV a e rfl rfl) (bW (g:=11) rfl rfl (cI h) (aW (fun _ a=>aZ (v:=dC a1 k) rfl) (bW (g:=11) rfl rfl (cI h) (aW (fun _ a=>dE rfl e) (bW (g:=11) rfl rfl (cI h) (aW (fun _ a=>cR (k':=k+0) iZ rfl e rfl) (bW (g:=11) rfl rfl (cI h) (aW (fun _ a=>bK (t:=0) cV a e rfl rfl) (bW (g:=11) rfl rfl (cI h) (aW (fun _ a=>kL rfl rfl) (bW (g:=11) rfl rfl (cI h) ?_))))))))))))))))))
  obtain ⟨b4,g3,d⟩:=aD d
  refine pK (vs:=[i64 t.I,i64 0,i64 (wr (t.N - 1))]) (v:=zB b4) Tryz.call67 rfl (fun _ a=>(tE a g3)) (bW (g:=11) rfl rfl (cI h) (aW (fun _ a=>fC rfl) (aW (fun _ a=>bV (v:=zB (!b4)) h rfl rfl) (aW (fun _ a=>aZ (v:=zB (!b4)) rfl) ?_))))
  rcases aJ d with ⟨o,d⟩|⟨o,d⟩
  ·exact bD (g:=24) rfl rfl (cJ o) (bD (g:=24) rfl rfl (cJ o) (bD (g:=24) rfl rfl (cJ o) (bD (g:=24) rfl rfl (cJ o) (bD (g:=24) rfl rfl (cJ o) (bD (g:=24) rfl rfl (cJ o) (aW (fun _ a=>bO (v:=zB true) o rfl rfl) (aW (fun _ a=>aZ (v:=zB true) rfl) (bD (g:=32) rfl rfl (cJ (rfl:true=true)) (bD (g:=32) rfl rfl (cJ (rfl:true=true)) (bD (g:=32) rfl rfl (cJ (rfl:true=true)) (bD (g:=32) rfl rfl (cJ (rfl:true=true)) (bD (g:=32) rfl rfl (cJ (rfl:true=true)) (bD (g:=32) rfl rfl (cJ (rfl:true=true)) (aW (fun _ a=>bO (v:=zB true) (rfl:true=true) rfl rfl) (eF (fun i7 g4=>(aC ⟨true,d,rfl,rfl,g4⟩)))))))))))))))))
  ·refine bW (g:=24) rfl rfl (cI o) (aW (fun _ a=>aZ (v:=dC a1 k) rfl) (bW (g:=24) rfl rfl (cI o) (aW (fun _ a=>dE rfl e) (bW (g:=24) rfl rfl (cI o) (aW (fun _ a=>cR (k':=k+2) eG rfl e rfl) (bW (g:=24) rfl rfl (cI o) (aW (fun _ a=>bK (t:=2) iT a e rfl rfl) (bW (g:=24) rfl rfl (cI o) ?_))))))))
   obtain ⟨b5,g5,d⟩:=aD d
   refine pK (vs:=[zS a4 t.L.length c5]) (v:=zB b5) Tryz.call68 rfl (fun _ a=>(aGt a h6 g5)) (bW (g:=24) rfl rfl (cI o) (aW (fun _ a=>fC rfl) (aW (fun _ a=>bV (v:=zB (!b5)) o rfl rfl) (aW (fun _ a=>aZ (v:=zB (!b5)) rfl) ?_))))
   rcases aJ d with ⟨p,d⟩|⟨p,d⟩
   ·exact bD (g:=32) rfl rfl (cJ p) (bD (g:=32) rfl rfl (cJ p) (bD (g:=32) rfl rfl (cJ p) (bD (g:=32) rfl rfl (cJ p) (bD (g:=32) rfl rfl (cJ p) (bD (g:=32) rfl rfl (cJ p) (aW (fun _ a=>bO (v:=zB true) p rfl rfl) (eF (fun i8 g6=>(aC ⟨true,d,rfl,rfl,g6⟩)))))))))
   ·exact bW (g:=32) rfl rfl (cI p) (aW (fun _ a=>aZ (v:=dC a1 k) rfl) (bW (g:=32) rfl rfl (cI p) (aW (fun _ a=>dE rfl e) (bW (g:=32) rfl rfl (cI p) (aW (fun _ a=>cR (k':=k+3) eR rfl e rfl) (bW (g:=32) rfl rfl (cI p) (aW (fun _ a=>bK (t:=3) lK a e rfl rfl) (bW (g:=32) rfl rfl (cI p) (aW (fun _ a=>bN (len:=t.E.length) cK rfl) (bW (g:=32) rfl rfl (cI p) (aW (fun _ a=>oM rfl rfl) (aW (fun _ a=>bV (v:=zB (decide (300 < (t.E.length:Int)))) p rfl rfl) (eF (fun i9 g7=>(aC ⟨decide (300 < (t.E.length:Int)),d,rfl,rfl,g7⟩)))))))))))))))
theorem aGu {t:cN} {m:Nat} {g:(List Int)} {R:(List Bool)} (z:aK G K (L) w) (p:kR K a1 m (zC t a4 c5 a7 c8)) (h6:dB K a4 c5 t.L) (h9:dB K a7 c8 t.E) (J:dB K a10 c11 g) (c:aBk t g=some R):
  Calls Tryz.prog 176 ([dC a1 m,zS a10 g.length c11]:List Value).toArray w (iK fun v w'=>∃ (V:Option Addr) (Z:Nat),v=zS V R.length Z∧aK G K (aN 4 K V Z R::L) w'):=by
 refine aX Tryz.func176 rfl (by kernel_rfl) (by show (2:Nat)≤25;decide) ?_
 unfold aBk at c
 refine aM (aH (v:=zS none 0 0) (aI (aM (aP (v:=dC a1 m) (aF (dE rfl p) (aF (cR (k':=m+0) iZ rfl p rfl) (aF (bK (t:=0) cV z p rfl rfl) ?_)))))))
 obtain ⟨b,a5,c⟩:=aD c
 refine aDp (e:=(false:Bool)) aEW ez_4 rfl rfl z rfl rfl rfl a5 rfl (fun d a6 (a8:aK G K (aN 4 K d b.length b::L) a6)=>(aH (v:=zS d b.length b.length) (aI (aQ (aM (aH (v:=i64 0) (aI (bE (fun f w=>∃ (k:List Bool),yU k=some R∧f 5=zS d k.length b.length∧aK G K (aN 4 K d b.length k::L) w) ?_ ?_))))))))
 ·rintro f c3 ⟨k,c,a9,b0⟩
  unfold yU at c
  refine aC (aM (aT a9 (aH (v:=zS d k.length b.length) (aI ?_))))
  obtain rfl:=zI c
  exact bH (bF Tryz.results176 rfl ⟨d,b.length,rfl,b0⟩)
 obtain ⟨c4,b2,c⟩:=aD c
 refine cD b2 (fun (s:(List Bool × Int)) f w=>match s with|(j,l)=>f 1=zS a10 g.length c11∧f 5=zS d j.length b.length∧f 6=i64 l∧aK G K (aN 4 K d b.length j::L) w) ?_ ?_
 ·exact ⟨rfl,rfl,rfl,a8⟩
 ·rintro ⟨j,l⟩ b3 f c6 a b4 ⟨q,r,u,o⟩
  replace a:uE g j l=some b3:=a
  unfold uE at a
  refine aQ (aM (aT u (aT q (aF (bN (len:=g.length) bY rfl) (aF (cG rfl rfl) (aI ?_))))))
  rcases aJ a with ⟨x,a⟩|⟨x,a⟩
  ·refine aO x rfl (aY (aC (aQ (cW (aS (aT r (aT q (aT u ?_))))))))
   obtain ⟨c7,a0,a⟩:=aD a
   refine aF (dN bY rfl J rfl rfl rfl a0) ?_
   obtain ⟨c9,b5,b6⟩:=dB.el (sz:=1) rfl J a0
   cases b6
   refine aF (bK (t:=0) cV o b5 rfl rfl) ?_
   obtain ⟨d0,y,a⟩:=aD a
   have b7:=cY o (i:=0) rfl y
   refine aF (dW aEW rfl b7 rfl rfl rfl y) ?_
   obtain ⟨a2,a3,a⟩:=aD a
   exact mW (i:=0) (t:=0) (ns:=[zB true]) (e':=(true:Bool)) Tryz.sizeOf4 o rfl (zR _) rfl rfl rfl y a3 rfl rfl (cX rfl) rfl (fun cs h=>by cases h;rfl) (fun b8 (b9:aK G K (aN 4 K d b.length a2::L) b8)=>(bA (bG (aC (aS (aT u (aF (cQ rfl rfl) (aH (v:=i64 (wr (l+1))) (aI ⟨(a2,wr (l+1)),(zI a).symm,q,(Eq.trans r (congrArg (fun n=>zS d n b.length) (jP a3))),rfl,b9⟩)))))))))
  ·refine aL x rfl (cB (aV (aV ?_)))
   have c0:=b4 _ (zI a).symm
   subst c0
   have c:(yU j)=some R:=c
   exact bJ (aC ⟨j,c,r,o⟩)
theorem aDc {t:cN} {l:Nat} {k R:(List Bool)} (hs:aK G K (aN 4 K a10 c11 k::L) w) (u:kR K a1 l (zC t a4 c5 a7 c8)) (h6:dB K a4 c5 t.L) (h9:dB K a7 c8 t.E) (m:vL t k=some R):
  Calls Tryz.prog 177 ([dC a1 l,zS a10 k.length c11]:List Value).toArray w (iK fun v w'=>v=zT #[]∧k.length=R.length∧aK G K (aN 4 K a10 c11 R::L) w'):=by
 refine aX Tryz.func177 rfl (by kernel_rfl) (by show (2:Nat)≤46;decide) ?_
 unfold vL at m
 refine aM (aH (v:=zB true) (aI (bE (fun f w=>∃ (a2:List Bool),yV a2=some R∧k.length=a2.length∧aK G K (aN 4 K a10 c11 a2::L) w) ?_ ?_)))
 ·rintro f i0 ⟨a2,m,d9,e0⟩
  unfold yV at m
  obtain rfl:=zI m
  exact aEO Tryz.results177 ⟨rfl,d9,e0⟩
 obtain ⟨i1,e2,m⟩:=aD m
 refine cD e2 (fun (s:(List Bool × Bool)) f w=>match s with|(r,b3)=>f 0=dC a1 l∧f 1=zS a10 r.length c11∧f 4=zB b3∧k.length=r.length∧aK G K (aN 4 K a10 c11 r::L) w) ?_ ?_
 ·exact ⟨rfl,rfl,rfl,rfl,hs⟩
 ·rintro ⟨r,b3⟩ a3 f i2 c e3 ⟨e4,e5,e6,c4,c6⟩
  replace c:oA t r b3=some a3:=c
  unfold oA at c
  refine aQ (aM (aT e6 (aI ?_)))
  rcases aJ c with ⟨b4,c⟩|⟨b4,c⟩
  ·refine aO b4 rfl (aY (aC (bE (fun f w=>∃ (x:List Bool) (a5:Bool),yW x a5=some a3∧f 0=dC a1 l∧f 1=zS a10 x.length c11∧f 4=zB a5∧k.length=x.length∧aK G K (aN 4 K a10 c11 x::L) w) ?_ ?_)))
   ·rintro f i3 ⟨x,a5,c,e7,e8,e9,f0,f1⟩
    unfold yW at c
    exact aC ⟨(x,a5),(zI c).symm,e7,e8,e9,f0,f1⟩
   refine aM (aH (v:=zB false) (aI (aM (aH (v:=i64 0) (aI (bE (fun f w=>∃ (y:List Bool) (a6:Bool),uF y a6=some a3∧f 0=dC a1 l∧f 1=zS a10 y.length c11∧f 4=zB a6∧k.length=y.length∧aK G K (aN 4 K a10 c11 y::L) w) ?_ ?_))))))
   ·rintro f i4 ⟨y,a6,c,f2,f3,f4,f5,f6⟩
    unfold uF at c
    exact bG (aC ⟨y,a6,c,f2,f3,f4,f5,f6⟩)
   obtain ⟨i5,f7,c⟩:=aD c
   refine cD f7 (fun (s:(List Bool × Bool × Int)) f w=>match s with|(e,q,o)=>f 0=dC a1 l∧f 1=zS a10 e.length c11∧f 4=zB q∧f 5=i64 o∧k.length=e.length∧aK G K (aN 4 K a10 c11 e::L) w) ?_ ?_
   ·exact ⟨e4,e5,rfl,rfl,c4,c6⟩
   ·rintro ⟨e,q,o⟩ b5 f i6 a f8 ⟨z,J,a8,Z,a9,a0⟩
    replace a:qS t e q o=some b5:=a
    unfold qS at a
    refine aQ (aM (aT Z (aT z (aF (dE rfl u) (aF (cR (k':=l+3) eR rfl u rfl) (aF (bK (t:=3) lK a0 u rfl rfl) (aF (bN (len:=t.E.length) cK rfl) (aF (cG rfl rfl) (aI ?_)))))))))
    rcases aJ a with ⟨b6,a⟩|⟨b6,a⟩
    ·refine aO b6 rfl (aY (aC (aQ (bE (fun f w=>∃ (V:List Bool) (b0:Bool),uG o V b0=some b5∧f 0=dC a1 l∧f 1=zS a10 V.length c11∧f 4=zB b0∧f 5=i64 o∧k.length=V.length∧aK G K (aN 4 K a10 c11 V::L) w) ?_ ?_))))
     ·rintro f i7 ⟨V,b0,a,f9,g0,g1,g2,g3,g4⟩
      unfold uG at a
      exact aC (aS (aT g2 (aF (cQ rfl rfl) (aH (v:=i64 (wr (o+1))) (aI ⟨(V,b0,wr (o+1)),(zI a).symm,f9,g0,g1,rfl,g3,g4⟩)))))
     refine aM (aT z (aF (dE rfl u) (aF (cR (k':=l+3) eR rfl u rfl) (aF (bK (t:=3) lK a0 u rfl rfl) (aT Z ?_)))))
     obtain ⟨b,c7,a⟩:=aD a
     refine aF (dN cK rfl h9 rfl rfl rfl c7) ?_
     obtain ⟨i8,g5,g6⟩:=dB.el (sz:=3) rfl h9 c7
     cases g6
     refine aF (fZ (t:=0) (vs:=[i64 b.F,i64 b.B,i64 b.To]) lU a0 g5 rfl rfl rfl) (bS (vs:=[i64 0,i64 0,i64 0]) Tryz.zeroValue63 a0 rfl (fun b1 i9 g7=>(bR (i:=0) (ns:=[i64 b.F,i64 b.B,i64 b.To]) (us:=[i64 b.F,i64 b.B,i64 b.To]) Tryz.sizeOf63 g7 rfl rfl rfl rfl rfl (cX rfl) rfl rfl (fun g8 (p:aK G K (box b1 63 [i64 b.F,i64 b.B,i64 b.To]::aN 4 K a10 c11 e::L) g8)=>(aI (aQ (dF (fun f w=>∃ (b7:Bool),qR e q o b b7=some b5∧f 0=dC a1 l∧f 1=zS a10 e.length c11∧f 4=zB q∧f 5=i64 o∧f 6=Value.pointer (some ⟨b1,0,none⟩)∧f 41=zB b7∧k.length=e.length∧aK G K (box b1 63 [i64 b.F,i64 b.B,i64 b.To]::aN 4 K a10 c11 e::L) w) ?_ ?_)))))))
     ·rintro f j0 ⟨b7,a,c9,b8,g9,d0,h0,d1,d2,b2⟩
      unfold qR at a
      refine aC ?_
      rcases aJ a with ⟨b9,a⟩|⟨b9,a⟩
      ·refine aO b9 d1 (aM (aT b8 (aF (bL (t':=2) gX h0 rfl) (aF (cC cV b2 (i:=0) rfl rfl rfl) ?_))))
       obtain ⟨j1,c0,a⟩:=aD a
       have h1:=cY b2 (i:=1) rfl c0
       refine aF (dW aEW rfl h1 rfl rfl rfl c0) ?_
       obtain ⟨d3,c1,a⟩:=aD a
       exact mW (i:=1) (t:=0) (ns:=[zB true]) (e':=(true:Bool)) Tryz.sizeOf4 b2 rfl (zR _) rfl rfl rfl c0 c1 rfl rfl (cX rfl) rfl (fun cs h=>by cases h;rfl) (fun h2 (h4:aK G K (box b1 63 [i64 b.F,i64 b.B,i64 b.To]::aN 4 K a10 c11 d3::L) h2)=>(aI (aS (aH (v:=zB true) (bA (bG (aC ⟨d3,true,a,c9,(Eq.trans b8 (congrArg (fun n=>zS a10 n c11) (jP c1))),rfl,d0,(d2.trans (jP c1)),(aK.arr 1 [] h4 rfl)⟩)))))))
      ·exact aL b9 d1 (aY (bG (aC ⟨e,q,a,c9,b8,g9,d0,d2,(aK.arr 1 [] b2 rfl)⟩)))
     refine aS (aF (bL (t':=1) iF rfl rfl) (aF (cC cV p (i:=0) rfl rfl rfl) (aF (oN rfl rfl) (aP (v:=zB (b.B == 0)) ?_))))
     rcases aJ a with ⟨j,a⟩|⟨j,a⟩
     ·refine bU j rfl rfl (aT J (bU j rfl rfl (aF (bL (t':=0) kG rfl rfl) (bU j rfl rfl (aF (cC cV p (i:=0) rfl rfl rfl) (bU j rfl rfl ?_))))))
      obtain ⟨d4,c2,a⟩:=aD a
      have d5:=cY p (i:=1) rfl c2
      refine aF (dW aEW rfl d5 rfl rfl rfl c2) (bU j rfl rfl (aF (jL (t:=0) sc_4 p (i:=1) rfl c2 rfl rfl rfl) (aF (bO (v:=zB d4) j rfl rfl) (aP (v:=zB d4) ?_))))
      rcases aJ a with ⟨d,a⟩|⟨d,a⟩
      ·refine bU d rfl rfl (aT J (bU d rfl rfl (aF (bL (t':=2) gX rfl rfl) (bU d rfl rfl (aF (cC cV p (i:=0) rfl rfl rfl) (bU d rfl rfl ?_))))))
       obtain ⟨d6,d7,a⟩:=aD a
       exact aF (dW aEW rfl d5 rfl rfl rfl d7) (bU d rfl rfl (aF (jL (t:=0) sc_4 p (i:=1) rfl d7 rfl rfl rfl) (bU d rfl rfl (aF (fC rfl) (aF (bO (v:=zB (!d6)) d rfl rfl) (aI ⟨!d6,a,z,J,a8,Z,rfl,rfl,a9,p⟩))))))
      ·exact bI d rfl rfl (bI d rfl rfl (bI d rfl rfl (bI d rfl rfl (bI d rfl rfl (bI d rfl rfl (aF (bV (v:=zB false) d rfl rfl) (aI ⟨false,a,z,J,a8,Z,rfl,rfl,a9,p⟩)))))))
     ·exact bI j rfl rfl (bI j rfl rfl (bI j rfl rfl (bI j rfl rfl (bI j rfl rfl (aF (bV (v:=zB false) j rfl rfl) (aP (v:=zB false) (bI (by decide:¬ false=true) rfl rfl (bI (by decide:¬ false=true) rfl rfl (bI (by decide:¬ false=true) rfl rfl (bI (by decide:¬ false=true) rfl rfl (bI (by decide:¬ false=true) rfl rfl (bI (by decide:¬ false=true) rfl rfl (aF (bV (v:=zB false) (by decide:¬ false=true) rfl rfl) (aI ⟨false,a,z,J,a8,Z,rfl,rfl,a9,p⟩))))))))))))))
    ·refine aL b6 rfl (cB (aV (aV ?_)))
     have h5:=f8 _ (zI a).symm
     subst h5
     have c:(uF e q)=some a3:=c
     exact bJ (aC ⟨e,q,c,z,J,a8,a9,a0⟩)
  ·refine aL b4 rfl (cB (aV (aV ?_)))
   have h7:=e3 _ (zI c).symm
   subst h7
   have m:(yV r)=some R:=m
   exact bJ (aC ⟨r,m,c4,c6⟩)
theorem aDG {e:(List Bool)} {R:(List Int)} (hs:aK G K (L) w) (h3:dB K a1 c2 e) (c:yE e=some R):
  Calls Tryz.prog 178 ([zS a1 e.length c2]:List Value).toArray w (iK fun v w'=>∃ (a3:Option Addr) (a5:Nat),v=zS a3 R.length a5∧aK G K (aN 2 K a3 a5 R::L) w'):=by
 refine aX Tryz.func178 rfl (by kernel_rfl) (by show (1:Nat)≤21;decide) ?_
 unfold yE at c
 refine aM (aH (v:=zS none 0 0) (aI (aM (cT (Kt:=K) (xs:=([]:List Int)) (cs:=[]) (vs:=[]) bY lR rfl rfl hs rfl (by kernel_rfl) rfl rfl rfl trivial (fun x w5 (b1:aK G K (aN 2 K x 0 ([]:List Int)::L) w5)=>(aH (v:=zS x ([]:List Int).length 0) (aI (aQ (aM (aH (v:=i64 0) (aI (bE (fun f w=>∃ (k:List Int) (l:Option Addr) (m:Nat),aAE k=some R∧f 3=zS l k.length m∧aK G K (aN 2 K l m k::L) w) ?_ ?_))))))))))))
 ·rintro f d2 ⟨k,l,m,c,b2,b3⟩
  unfold aAE at c
  refine aC (aM (aT b2 (aH (v:=zS l k.length m) (aI ?_))))
  obtain rfl:=zI c
  exact bH (bF Tryz.results178 rfl ⟨l,m,rfl,b3⟩)
 obtain ⟨d3,b5,c⟩:=aD c
 refine cD b5 (fun (s:(List Int × Int)) f w=>match s with|(d,b)=>∃ (g:Option Addr) (j:Nat),f 0=zS a1 e.length c2∧f 3=zS g d.length j∧f 4=i64 b∧aK G K (aN 2 K g j d::L) w) ?_ ?_
 ·exact ⟨x,0,rfl,rfl,rfl,b1⟩
 ·rintro ⟨d,b⟩ a6 f d4 a b6 ⟨g,j,p,y,n,q⟩
  replace a:sU e d b=some a6:=a
  unfold sU at a
  refine aQ (aM (aT n (aT p (aF (bN (len:=e.length) aEW rfl) (aF (cG rfl rfl) (aI ?_))))))
  rcases aJ a with ⟨z,a⟩|⟨z,a⟩
  ·refine aO z rfl (aY (aC (aQ (bE (fun f w=>∃ (o:List Int) (r:Option Addr) (u:Nat),wY b o=some a6∧f 0=zS a1 e.length c2∧f 3=zS r o.length u∧f 4=i64 b∧aK G K (aN 2 K r u o::L) w) ?_ ?_))))
   ·rintro f d5 ⟨o,r,u,a,b7,b8,b9,c0⟩
    unfold wY at a
    exact aC (aS (aT b9 (aF (cQ rfl rfl) (aH (v:=i64 (wr (b+1))) (aI ⟨(o,wr (b+1)),(zI a).symm,r,u,b7,b8,rfl,c0⟩)))))
   refine aM (aT p (aT n ?_))
   obtain ⟨d6,a7,a⟩:=aD a
   refine aF (dN aEW rfl h3 rfl rfl rfl a7) ?_
   obtain ⟨d7,c1,c3⟩:=dB.el (sz:=1) rfl h3 a7
   cases c3
   refine aF (bK (t:=0) sc_4 q c1 rfl rfl) (aI ?_)
   rcases aJ a with ⟨J,a⟩|⟨J,a⟩
   ·refine aO J rfl (aS (aT y (aT n (cT (Kt:=K) (xs:=([b]:List Int)) (cs:=[i64 b]) (vs:=[(0,i64 b)]) bY lR rfl rfl q rfl (by kernel_rfl) rfl rfl rfl ⟨rfl,trivial⟩ (fun c4 c5 (c6:aK G K (aN 2 K c4 1 ([b]:List Int)::aN 2 K g j d::L) c5)=>?_)))))
    obtain ⟨V,c7,a⟩:=aD a
    exact eI (i:=0) bY Tryz.underlying38 lR rfl rfl c6 rfl (zR _) (zR _) c7 rfl rfl rfl rfl (fun _ h=>h) (fun Z a0 c8 (d0:aK G K (aN 2 K Z a0 V::L) c8)=>(aH (v:=zS Z V.length a0) (bA (bG (aC ⟨V,Z,a0,a,p,rfl,n,d0⟩)))))
   ·exact aL J rfl (aY (bG (aC ⟨d,g,j,a,p,y,n,q⟩)))
  ·refine aL z rfl (cB (aV (aV ?_)))
   have d1:=b6 _ (zI a).symm
   subst d1
   have c:(aAE d)=some R:=c
   exact bJ (aC ⟨d,g,j,c,y,q⟩)
theorem aGv {t:cN} {a:Nat} {R:(List Int)} (k:aK G K (L) w) (e:kR K a1 a (zC t a4 c5 a7 c8)) (l:dB K a4 c5 t.L) (m:dB K a7 c8 t.E) (b:rV t=some R):
  Calls Tryz.prog 106 ([dC a1 a]:List Value).toArray w (iK fun v w'=>∃ (o:Option Addr) (p:Nat),v=zS o R.length p∧aK G K (aN 2 K o p R::L) w'):=by
 refine aX Tryz.func106 rfl (by kernel_rfl) (by show (1:Nat)≤16;decide) ?_
 unfold rV at b
 refine aM (aH (v:=zS none 0 0) (aI (aM (aP (v:=dC a1 a) (aP (v:=dC a1 a) (aF (dE rfl e) (aF (cR (k':=a+1) sN rfl e rfl) (aF (bK (t:=1) cV k e rfl rfl) (cT (Kt:=K) (xs:=([t.I]:List Int)) (cs:=[i64 t.I]) (vs:=[(0,i64 t.I)]) bY lR rfl rfl k rfl (by kernel_rfl) rfl rfl rfl ⟨rfl,trivial⟩ (fun h x (y:aK G K (aN 2 K h 1 ([t.I]:List Int)::L) x)=>?_))))))))))
 obtain ⟨b8,j,z,J,V⟩:=aK.lendS (i:=0) y (zR _) rfl
 obtain ⟨g,Z,b⟩:=aD b
 refine aU (vs:=[dC a1 a,zS h ([t.I]:List Int).length 1]) Tryz.call176 rfl (aGu J (e.mono j) (l.mono j) (m.mono j) z Z) ?_
 rintro _ a0 ⟨c,d,rfl,a2⟩
 have a3:=V _ _ a2
 refine aH (v:=zS c g.length d) (aI (aM (aP (v:=dC a1 a) (aP (v:=zS c g.length d) ?_))))
 have a5:aK G K (aN 4 K c d g::aN 2 K h 1 ([t.I]:List Int)::L) a0:=(aK.arr 2 [1,0] a3 rfl)
 obtain ⟨q,a6,b⟩:=aD b
 refine aU (vs:=[dC a1 a,zS c g.length d]) Tryz.call177 rfl (aDc a5 e l m a6) ?_
 rintro _ b9 ⟨rfl,a8,a9⟩
 refine aI (aM (aT (v:=zS c q.length d) (Eq.trans rfl (congrArg (fun n=>zS c n d) a8)) ?_))
 obtain ⟨c0,c1,b0,b1,b2⟩:=aK.lendS (i:=0) a9 (zR _) rfl
 obtain ⟨b3,b4,b⟩:=aD b
 refine aU (vs:=[zS c q.length d]) Tryz.call178 rfl (aDG b1 b0 b4) ?_
 rintro _ c2 ⟨r,u,rfl,b5⟩
 have b6:=b2 _ _ b5
 refine aH (v:=zS r b3.length u) (aI ?_)
 obtain rfl:=zI b
 exact bH (bF Tryz.results106 rfl ⟨r,u,rfl,(aK.arr 3 [1] b6 rfl)⟩)
theorem aIz {c:(List Int)} {n:Int} {R:Bool} (p:aK G K (L) w) (k:dB K a1 c2 c) (b:aHf c n=some R):
  Calls Tryz.prog 136 ([zS a1 c.length c2,i64 n]:List Value).toArray w (iK fun v w'=>v=zB R∧aK G K (L) w'):=by
 refine aX Tryz.func136 rfl (by kernel_rfl) (by show (2:Nat)≤18;decide) ?_
 unfold aHf at b
 refine aM (aH (v:=zB false) (aI (aQ (aM (aH (v:=i64 0) (aI (bE (fun f w=>aBP=some R∧aK G K (L) w) ?_ ?_)))))))
 ·rintro f w4 ⟨b,q⟩
  unfold aBP at b
  refine aC (aM (aH (v:=zB false) (aI ?_)))
  obtain rfl:=zI b
  exact bH (bF Tryz.results136 rfl ⟨rfl,q⟩)
 obtain ⟨a2,u,b⟩:=aD b
 refine cD u (fun (d:Int) f w=>f 0=zS a1 c.length c2∧f 1=i64 n∧f 5=i64 d∧aK G K (L) w) ?_ ?_
 ·exact ⟨rfl,rfl,rfl,p⟩
 ·rintro d x f a3 a l ⟨g,m,h,e⟩
  replace a:aDw c n d=some x:=a
  unfold aDw at a
  refine aQ (aM (aT h (aT g (aF (bN (len:=c.length) bY rfl) (aF (cG rfl rfl) (aI ?_))))))
  rcases aJ a with ⟨i,a⟩|⟨i,a⟩
  ·refine aO i rfl (aY (aC (aQ (cW (aM (aT g (aT h ?_)))))))
   obtain ⟨a4,o,a⟩:=aD a
   refine aF (dN bY rfl k rfl rfl rfl o) ?_
   obtain ⟨a5,y,z⟩:=dB.el (sz:=1) rfl k o
   cases z
   refine aF (bK (t:=0) cV e y rfl rfl) (aT m (aF (oN rfl rfl) (aI ?_)))
   rcases aJ a with ⟨j,a⟩|⟨j,a⟩
   ·refine aO j rfl (aM (aH (v:=zB true) (aI (bH (bQ (aR (aR ?_)))))))
    have J:=l _ (zI a).symm
    subst J
    have b:(some true)=some R:=b
    obtain rfl:=zI b
    exact bQ (aR (aR (bF Tryz.results136 rfl ⟨rfl,e⟩)))
   ·exact aL j rfl (aY (bG (aC (aS (aT h (aF (cQ rfl rfl) (aH (v:=i64 (wr (d+1))) (aI ⟨wr (d+1),(zI a).symm,g,m,rfl,e⟩))))))))
  ·refine aL i rfl (cB (aV (aV ?_)))
   have Z:=l _ (zI a).symm
   subst Z
   have b:(aBP)=some R:=b
   exact bJ (aC ⟨b,e⟩)
theorem aHo {t:cN} {l:Nat} {p:(List Int)} {r:Int} {R:(List Int)} (hs:aK G K (L) w) (d:kR K a1 l (zC t a4 c5 a7 c8)) (h6:dB K a4 c5 t.L) (u:dB K a7 c8 t.E) (d4:dB K a10 c11 p) (k:wB t p r=some R):
  Calls Tryz.prog 107 ([dC a1 l,zS a10 p.length c11,i64 r]:List Value).toArray w (iK fun v w'=>∃ (b6:Option Addr) (b7:Nat),v=zS b6 R.length b7∧aK G K (aN 2 K b6 b7 R::L) w'):=by
 refine aX Tryz.func107 rfl (by kernel_rfl) (by show (3:Nat)≤60;decide) ?_
 unfold wB at k
 refine aM (aH (v:=zS none 0 0) (aI (aM (aP (v:=dC a1 l) (aF (dE rfl d) (aF (cR (k':=l+0) iZ rfl d rfl) (aF (bK (t:=0) cV hs d rfl rfl) ?_)))))))
 obtain ⟨c,d5,k⟩:=aD k
 refine aDp (e:=(false:Bool)) aEW ez_4 rfl rfl hs rfl rfl rfl d5 rfl (fun j d6 (d7:aK G K (aN 4 K j c.length c::L) d6)=>(aH (v:=zS j c.length c.length) (aI (aQ (aM (aH (v:=i64 0) (aI (bE (fun f w=>∃ (y:List Bool),wZ t y=some R∧f 0=dC a1 l∧f 7=zS j y.length c.length∧aK G K (aN 4 K j c.length y::L) w) ?_ ?_))))))))
 ·rintro f g7 ⟨y,k,d8,b8,d9⟩
  unfold wZ at k
  refine aC (aM (aT d8 (aT b8 ?_)))
  obtain ⟨b9,e0,k⟩:=aD k
  refine aU (vs:=[dC a1 l,zS j y.length c.length]) Tryz.call177 rfl (aDc d9 d h6 u e0) ?_
  rintro _ g8 ⟨rfl,e1,e2⟩
  refine aI (aM (aT (v:=zS j b9.length c.length) (Eq.trans b8 (congrArg (fun n=>zS j n c.length) e1)) ?_))
  obtain ⟨g9,h0,e3,e4,e5⟩:=aK.lendS (i:=0) e2 (zR _) rfl
  obtain ⟨e6,e7,k⟩:=aD k
  refine aU (vs:=[zS j b9.length c.length]) Tryz.call178 rfl (aDG e4 e3 e7) ?_
  rintro _ h1 ⟨c0,c1,rfl,e8⟩
  have e9:=e5 _ _ e8
  refine aH (v:=zS c0 e6.length c1) (aI ?_)
  obtain rfl:=zI k
  exact bH (bF Tryz.results107 rfl ⟨c0,c1,rfl,(aK.arr 1 [] e9 rfl)⟩)
 obtain ⟨h2,f1,k⟩:=aD k
 refine cD f1 (fun (s:(List Bool × Int)) f w=>match s with|(o,m)=>f 0=dC a1 l∧f 1=zS a10 p.length c11∧f 2=i64 r∧f 7=zS j o.length c.length∧f 8=i64 m∧aK G K (aN 4 K j c.length o::L) w) ?_ ?_
 ·exact ⟨rfl,rfl,rfl,rfl,rfl,d7⟩
 ·rintro ⟨o,m⟩ a0 f h4 a f2 ⟨x,a2,a3,a5,z,q⟩
  replace a:pM t p r o m=some a0:=a
  unfold pM at a
  refine aQ (aM (aT z (aT x (aF (dE rfl d) (aF (cR (k':=l+3) eR rfl d rfl) (aF (bK (t:=3) lK q d rfl rfl) (aF (bN (len:=t.E.length) cK rfl) (aF (cG rfl rfl) (aI ?_)))))))))
  rcases aJ a with ⟨a6,a⟩|⟨a6,a⟩
  ·refine aO a6 rfl (aY (aC (aQ (bE (fun f w=>∃ (J:List Bool),xA m J=some a0∧f 0=dC a1 l∧f 1=zS a10 p.length c11∧f 2=i64 r∧f 7=zS j J.length c.length∧f 8=i64 m∧aK G K (aN 4 K j c.length J::L) w) ?_ ?_))))
   ·rintro f h5 ⟨J,a,f3,f4,f5,f6,f7,f8⟩
    unfold xA at a
    exact aC (aS (aT f7 (aF (cQ rfl rfl) (aH (v:=i64 (wr (m+1))) (aI ⟨(J,wr (m+1)),(zI a).symm,f3,f4,f5,f6,rfl,f8⟩)))))
   refine aQ (dF (fun f w=>∃ (a8:Bool),xB t o m a8=some a0∧f 0=dC a1 l∧f 1=zS a10 p.length c11∧f 2=i64 r∧f 7=zS j o.length c.length∧f 8=i64 m∧f 44=zB a8∧aK G K (aN 4 K j c.length o::L) w) ?_ ?_)
   ·rintro f h7 ⟨a8,a,a9,c2,c3,b0,b1,c4,V⟩
    unfold xB at a
    refine aC ?_
    rcases aJ a with ⟨b2,a⟩|⟨b2,a⟩
    ·refine aO b2 c4 (aS (aT b0 (aT a9 (aF (dE rfl d) (aF (cR (k':=l+3) eR rfl d rfl) (aF (bK (t:=3) lK V d rfl rfl) (aT b1 ?_)))))))
     obtain ⟨h8,c6,a⟩:=aD a
     refine aF (dN cK rfl u rfl rfl rfl c6) ?_
     obtain ⟨i0,c7,f9⟩:=dB.el (sz:=3) rfl u c6
     cases f9
     refine aF (cR (k':=m.toNat * 3+2) gX rfl c7 rfl) (aF (bK (t:=2) cV V c7 rfl rfl) ?_)
     obtain ⟨i1,b3,a⟩:=aD a
     have g0:=cY V (i:=0) rfl b3
     refine aF (dW aEW rfl g0 rfl rfl rfl b3) ?_
     obtain ⟨c9,d0,a⟩:=aD a
     exact mW (i:=0) (t:=0) (ns:=[zB true]) (e':=(true:Bool)) Tryz.sizeOf4 V rfl (zR _) rfl rfl rfl b3 d0 rfl rfl (cX rfl) rfl (fun cs h=>by cases h;rfl) (fun g1 (g2:aK G K (aN 4 K j c.length c9::L) g1)=>(bA (bG (aC ⟨c9,a,a9,c2,c3,(Eq.trans b0 (congrArg (fun n=>zS j n c.length) (jP d0))),b1,g2⟩))))
    ·exact aL b2 c4 (aY (bG (aC ⟨o,a,a9,c2,c3,b0,b1,V⟩)))
   refine aS (aT x (aF (dE rfl d) (aF (cR (k':=l+3) eR rfl d rfl) (aF (bK (t:=3) lK q d rfl rfl) (aT z ?_)))))
   obtain ⟨d1,b4,a⟩:=aD a
   refine aF (dN cK rfl u rfl rfl rfl b4) ?_
   obtain ⟨i2,Z,g3⟩:=dB.el (sz:=3) rfl u b4
   cases g3
   refine aF (cR (k':=m.toNat * 3+1) iF rfl Z rfl) (aF (bK (t:=1) cV q Z rfl rfl) (aT a3 (aF (oN rfl rfl) (aP (v:=zB (d1.B == r)) ?_))))
   rcases aJ a with ⟨b,a⟩|⟨b,a⟩
   ·refine bU b rfl rfl (aT a2 (bU b rfl rfl (aT x (bU b rfl rfl (aF (dE rfl d) (bU b rfl rfl (aF (cR (k':=l+3) eR rfl d rfl) (bU b rfl rfl (aF (bK (t:=3) lK q d rfl rfl) (bU b rfl rfl (aT z (bU b rfl rfl (aF (dN cK rfl u rfl rfl rfl b4) (bU b rfl rfl (aF (cR (k':=m.toNat * 3+0) kG rfl Z rfl) (bU b rfl rfl (aF (bK (t:=0) cV q Z rfl rfl) (bU b rfl rfl ?_))))))))))))))))))
    obtain ⟨d2,g4,a⟩:=aD a
    refine aU (vs:=[zS a10 p.length c11,i64 d1.F]) Tryz.call136 rfl (aIz q d4 g4) ?_
    rintro _ i3 ⟨rfl,g5⟩
    exact aF (bO (v:=zB d2) b rfl rfl) (aI ⟨d2,a,x,a2,a3,a5,z,rfl,g5⟩)
   ·exact bI b rfl rfl (bI b rfl rfl (bI b rfl rfl (bI b rfl rfl (bI b rfl rfl (bI b rfl rfl (bI b rfl rfl (bI b rfl rfl (bI b rfl rfl (bI b rfl rfl (aF (bV (v:=zB false) b rfl rfl) (aI ⟨false,a,x,a2,a3,a5,z,rfl,q⟩)))))))))))
  ·refine aL a6 rfl (cB (aV (aV ?_)))
   have g6:=f2 _ (zI a).symm
   subst g6
   have k:(wZ t o)=some R:=k
   exact bJ (aC ⟨o,k,x,a5,q⟩)
theorem aHp {a b:(List Int)} {R:Bool} (m:aK G K (L) w) (n:dB K a1 c2 a) (o:dB K a4 c5 b) (c:aCp a b=some R):
  Calls Tryz.prog 108 ([zS a1 a.length c2,zS a4 b.length c5]:List Value).toArray w (iK fun v w'=>v=zB R∧aK G K (L) w'):=by
 refine aX Tryz.func108 rfl (by kernel_rfl) (by show (2:Nat)≤26;decide) ?_
 unfold aCp at c
 refine aM (aH (v:=zB false) (aI (aQ (aM (aP (v:=zS a1 a.length c2) (aF (bN (len:=a.length) bY rfl) (aP (v:=zS a4 b.length c5) (aF (bN (len:=b.length) bY rfl) (aF (oO rfl rfl) (aI ?_))))))))))
 rcases aJ c with ⟨i,c⟩|⟨i,c⟩
 ·refine aO i rfl (aM (aH (v:=zB false) (aI ?_)))
  obtain rfl:=zI c
  exact bH (aR (bF Tryz.results108 rfl ⟨rfl,m⟩))
 ·refine aL i rfl (aY (aC (aQ (aM (aH (v:=i64 0) (aI (bE (fun f w=>aAF=some R∧aK G K (L) w) ?_ ?_)))))))
  ·rintro f w9 ⟨c,z⟩
   unfold aAF at c
   refine aC (aM (aH (v:=zB true) (aI ?_)))
   obtain rfl:=zI c
   exact bH (bF Tryz.results108 rfl ⟨rfl,z⟩)
  obtain ⟨b0,V,c⟩:=aD c
  refine cD V (fun (g:Int) f w=>f 0=zS a1 a.length c2∧f 1=zS a4 b.length c5∧f 5=i64 g∧aK G K (L) w) ?_ ?_
  ·exact ⟨rfl,rfl,rfl,m⟩
  ·rintro g Z f b1 d p ⟨j,q,h,e⟩
   replace d:sV a b g=some Z:=d
   unfold sV at d
   refine aQ (aM (aT h (aT j (aF (bN (len:=a.length) bY rfl) (aF (cG rfl rfl) (aI ?_))))))
   rcases aJ d with ⟨k,d⟩|⟨k,d⟩
   ·refine aO k rfl (aY (aC (aQ (cW (aQ (dR (C:=fun w'=>aK G K (L) w') bT (by kernel_rfl) (aK.mono e (dQ.drew _)) (aW (fun _ e=>aZ j) (aW (fun _ e=>aZ h) ?_))))))))
    obtain ⟨b2,r,d⟩:=aD d
    refine aW (fun _ e=>dN bY rfl n rfl rfl rfl r) ?_
    obtain ⟨b3,a0,a2⟩:=dB.el (sz:=1) rfl n r
    cases a2
    refine aW (fun _ e=>bK (t:=0) cV e a0 rfl rfl) (aW (fun _ e=>aZ q) (aW (fun _ e=>aZ h) ?_))
    obtain ⟨b4,u,d⟩:=aD d
    refine aW (fun _ e=>dN bY rfl o rfl rfl rfl u) ?_
    obtain ⟨b5,a3,a5⟩:=dB.el (sz:=1) rfl o u
    cases a5
    refine aW (fun _ e=>bK (t:=0) cV e a3 rfl rfl) (aW (fun _ e=>oO rfl rfl) (eF (fun b6 x=>(aC ?_))))
    rcases aJ d with ⟨l,d⟩|⟨l,d⟩
    ·refine aO l rfl (aM (aH (v:=zB false) (aI (bH (bQ (aR (aR ?_)))))))
     have a6:=p _ (zI d).symm
     subst a6
     have c:(some false)=some R:=c
     obtain rfl:=zI c
     exact bQ (aR (aR (bF Tryz.results108 rfl ⟨rfl,x⟩)))
    ·exact aL l rfl (aY (bG (aC (aS (aT h (aF (cQ rfl rfl) (aH (v:=i64 (wr (g+1))) (aI ⟨wr (g+1),(zI d).symm,j,q,rfl,x⟩))))))))
   ·refine aL k rfl (cB (aV (aV ?_)))
    have a8:=p _ (zI d).symm
    subst a8
    have c:(aAF)=some R:=c
    exact bJ (aC ⟨c,e⟩)
end Gv
