/- Walks, printed by program. -/
import Derived.Test.YtmlgcbjkfcapaaaGreatDoorKLW
import Derived.Test.YtmlgcbjkfcapaaaGreatDoorKMd
set_option linter.all false
namespace Gv
open Go.Value renaming slice→zS,bool→zB,agg→zA,tuple→zT
open Option.some renaming inj→zI
open Gv.Hp renaming le_refl→zR
open Go Go.Proofs
set_option maxRecDepth 20000
set_option maxHeartbeats 40000000
variable {G:Env} {K:Hp} {L:List qD} {w:World} {a1 a4 a7 a10 a3:Option Addr} {c2 c5 c8 c11 c4:Nat}
theorem aFM {d:(List aZ)} {R:((List Int) × Bool)} (hs:aL G K (L) w) (hG:G.lo=0) (J:bT K a1 c2 d) (b:vX d=some R):
  Calls Tryz.prog 217 ([zS a1 d.length c2]:List Value).toArray w (fV fun v w'=>∃ (V:Option Addr) (Z:Nat),v=zT #[zS V R.1.length Z,zB R.2]∧aL G K (aN 2 K V Z R.1::L) w'):=by
 refine aT Tryz.func217 rfl (by kernel_rfl) (by show (1:Nat)≤28;decide) ?_
 unfold vX at b
 refine aAZ (pM (v:=zS none 0 0) (pM (v:=zB false) (aAf (aAZ (pM (v:=zS none 0 0) (aAf (aH (aAZ (aBl (v:=zS a1 d.length c2) (aB (bQ (len:=d.length) cY rfl) (aBl (v:=i64 0) (aAf (bD (fun f w=>∃ (g:List Int) (j:Option Addr) (k:Nat),uY g=some R∧f 4=zS j g.length k∧aL G K (aN 2 K j k g::L) w) ?_ ?_)))))))))))))
 ·rintro f w8 ⟨g,j,k,b,e7,b1⟩
  unfold uY at b
  refine aA (aAZ (aCv e7 (pM (v:=zS j g.length k) (pM (v:=zB true) (aAf ?_)))))
  cases zI b
  exact bF (tM Tryz.results217 rfl rfl ⟨j,k,rfl,b1⟩)
 have b3:=aL.nil (α:=Int) hs 2 K
 obtain ⟨d2,b4,b⟩:=aI b
 refine cD b4 (fun (s:(List Int × Int)) f w=>match s with|(e,l)=>∃ (m:Option Addr) (n:Nat),f 4=zS m e.length n∧f 9=zS a1 d.length c2∧f 10=i64 (d.length:Int)∧f 11=i64 l∧aL G K (aN 2 K m n e::L) w) ?_ ?_
 ·exact ⟨none,0,rfl,rfl,rfl,rfl,b3⟩
 ·rintro ⟨e,l⟩ b5 f d3 a a0 ⟨m,n,a2,a3,a4,o,p⟩
  replace a:nZ d e l=some b5:=a
  unfold nZ at a
  refine aAZ (aB (cJ o a4) (aAf (aH ?_)))
  rcases aK a with ⟨q,a⟩|⟨q,a⟩
  ·refine aO q rfl (aW (aA (aH (cU (aAZ ?_)))))
   obtain ⟨r,a6,a⟩:=aI a
   refine aB (cO cY rfl J a3 rfl o a6) ?_
   obtain ⟨d4,b6,b7⟩:=bT.el (sz:=1) rfl J a6
   cases b7
   refine aB (bH (t:=0) pK p b6 rfl rfl) (pM (v:=cL r) (aAf (aAZ (aBl (v:=cL r) ?_))))
   obtain ⟨c,b8,a⟩:=aI a
   refine aU (vs:=[cL r]) Tryz.call276 rfl (aHw p hG b8) ?_
   rintro _ d5 ⟨rfl,a7⟩
   refine aBl (v:=zT #[i64 c.1,zB c.2]) (aB (bV rfl rfl) (aB (bV rfl rfl) (pM (v:=i64 c.1) (pM (v:=zB c.2) (aAf (aH (aAZ (aBl (v:=zB c.2) (aB (dY rfl) (aAf ?_))))))))))
   rcases aK a with ⟨u,a⟩|⟨u,a⟩
   ·refine aO u rfl (aAZ (pM (v:=zS none 0 0) (pM (v:=zB false) (aAf (bF (aS (bN (aS (aS ?_)))))))))
    have b9:=a0 _ (zI a).symm
    subst b9
    have b:(some ([],false))=some R:=b
    have c0:=aL.nil (α:=Int) a7 2 K
    cases zI b
    exact bN (aS (aS (tM Tryz.results217 rfl rfl ⟨none,0,rfl,(aL.arr 2 [0] c0 rfl)⟩)))
   ·refine aM u rfl (aW (aA (aC (aCv a2 (aBl (v:=i64 c.1) (dM (Kt:=K) (xs:=([c.1]:List Int)) (cs:=[i64 c.1]) (vs:=[(0,i64 c.1)]) bW tU rfl rfl a7 rfl (by kernel_rfl) rfl rfl rfl ⟨rfl,trivial⟩ (fun c3 c4 (c5:aL G K (aN 2 K c3 1 ([c.1]:List Int)::aN 2 K m n e::L) c4)=>?_)))))))
    obtain ⟨x,c7,a⟩:=aI a
    exact iY (i:=0) bW Tryz.underlying38 tU rfl rfl c5 rfl (zR _) (zR _) c7 rfl rfl rfl rfl (fun _ h=>h) (fun y z c8 (c9:aL G K (aN 2 K y z x::L) c8)=>(pM (v:=zS y x.length z) (aF (bG (aA (aC (aB (cX o rfl) (aBl (v:=i64 (wr (l+1))) (aAf ⟨(x,wr (l+1)),(zI a).symm,y,z,rfl,a3,a4,rfl,c9⟩)))))))))
  ·refine aM q rfl (cB (aY (aY ?_)))
   have d0:=a0 _ (zI a).symm
   subst d0
   have b:(uY e)=some R:=b
   exact bO (aA ⟨e,m,n,b,a2,p⟩)
theorem aJG {d:(List Int)} {j R:aZ} (hs:aL G K (L) w) (hG:G.lo=0) (y:bT K a1 c2 d) (b:aEA d j=some R):
  Calls Tryz.prog 115 ([zS a1 d.length c2,cL j]:List Value).toArray w (fV fun v w'=>v=cL R∧aL G K (L) w'):=by
 refine aT Tryz.func115 rfl (by kernel_rfl) (by show (2:Nat)≤27;decide) ?_
 unfold aEA at b
 refine aAZ (pM (v:=cL ([]:aZ)) (aAf (aAZ (aBl (v:=zS a1 d.length c2) (aB (bQ (len:=d.length) bW rfl) ?_)))))
 obtain ⟨c,q5,b⟩:=aI b
 refine aFt (e:=([]:aZ)) cY yD rfl rfl hs rfl rfl rfl q5 rfl (fun g w7 (b0:aL G K (aN 9 K g c.length c::L) w7)=>(pM (v:=zS g c.length c.length) (aAf (aH (aAZ (aBl (v:=zS a1 d.length c2) (aB (bQ (len:=d.length) bW rfl) (aBl (v:=i64 0) (aAf (bD (fun f w=>∃ (m:List aZ),aAK j m=some R∧f 1=cL j∧f 5=zS g m.length c.length∧aL G K (aN 9 K g c.length m::L) w) ?_ ?_))))))))))
 ·rintro f d3 ⟨m,b,b1,b2,b3⟩
  unfold aAK at b
  refine aA (aAZ (aCv b2 (aCv b1 ?_)))
  obtain ⟨d4,d5,b4,b5,b6⟩:=aL.lendS (i:=0) b3 (zR _) rfl
  obtain ⟨b7,b8,b⟩:=aI b
  refine aU (vs:=[zS g m.length c.length,cL j]) Tryz.call186 rfl (lib_Join b5 hG b4 b8) ?_
  rintro _ d6 ⟨rfl,b9⟩
  have c0:=b6 _ _ b9
  refine pM (v:=cL b7) (aAf ?_)
  cases zI b
  exact bF (bC Tryz.results115 rfl ⟨rfl,(aL.arr 1 [] c0 rfl)⟩)
 obtain ⟨d7,c3,b⟩:=aI b
 refine cD c3 (fun (s:(List aZ × Int)) f w=>match s with|(l,k)=>f 1=cL j∧f 5=zS g l.length c.length∧f 11=zS a1 d.length c2∧f 12=i64 (d.length:Int)∧f 13=i64 k∧aL G K (aN 9 K g c.length l::L) w) ?_ ?_
 ·exact ⟨rfl,rfl,rfl,rfl,rfl,b0⟩
 ·rintro ⟨l,k⟩ c4 f d8 a c5 ⟨z,p,J,V,o,q⟩
  replace a:xG d l k=some c4:=a
  unfold xG at a
  refine aAZ (aB (cJ o V) (aAf (aH ?_)))
  rcases aK a with ⟨r,a⟩|⟨r,a⟩
  ·refine aO r rfl (aW (aA (aH (cU (aAZ (aCv o ?_))))))
   obtain ⟨u,Z,a⟩:=aI a
   refine aB (cO bW rfl y J rfl o Z) ?_
   obtain ⟨d9,c6,c7⟩:=bT.el (sz:=1) rfl y Z
   cases c7
   refine aB (bH (t:=0) cP q c6 rfl rfl) (pM (v:=i64 k) (pM (v:=i64 u) (aAf (aC (aCv p (aBl (v:=i64 k) (aBl (v:=i64 u) ?_)))))))
   obtain ⟨a0,c8,a⟩:=aI a
   refine aU (vs:=[i64 u]) Tryz.call185 rfl (aMh q c8) ?_
   rintro _ e0 ⟨rfl,a2⟩
   obtain ⟨e1,x,a⟩:=aI a
   have c9:=cG a2 (i:=0) rfl x
   refine aB (dA cY rfl c9 rfl rfl rfl x) ?_
   obtain ⟨a3,a4,a⟩:=aI a
   exact kV (i:=0) (t:=0) (ns:=[cL a0]) (e':=(a0:aZ)) Tryz.sizeOf9 a2 rfl (zR _) rfl rfl rfl x a4 rfl rfl (dL rfl) rfl (fun cs h=>by cases h;rfl) (fun d0 (d1:aL G K (aN 9 K g c.length a3::L) d0)=>(aF (bG (aA (aC (aB (cX o rfl) (aBl (v:=i64 (wr (k+1))) (aAf ⟨(a3,wr (k+1)),(zI a).symm,z,(Eq.trans p (congrArg (fun n=>zS g n c.length) (iN a4))),J,V,rfl,d1⟩))))))))
  ·refine aM r rfl (cB (aY (aY ?_)))
   have d2:=c5 _ (zI a).symm
   subst d2
   have b:(aAK j l)=some R:=b
   exact bO (aA ⟨l,b,z,p,q⟩)
theorem aIo {c:UInt8} {R:Bool} (e:aL G K (L) w) (a:aFa c=some R):
  Calls Tryz.prog 351 ([Value.int .u8 (c.toNat:Int)]:List Value).toArray w (fV fun v w'=>v=zB R∧aL G K (L) w'):=by
 refine aT Tryz.func351 rfl (by kernel_rfl) (by show (1:Nat)≤9;decide) ?_
 unfold aFa at a
 refine aAZ (pM (v:=zB false) (aAf (aH (cS (fun f w=>∃ (d:Bool),aBr d=some R∧f 2=zB d∧aL G K (L) w) ?_ ?_))))
 ·rintro f k ⟨d,a,h,i⟩
  unfold aBr at a
  refine aA ?_
  cases zI a
  exact bF (bC Tryz.results351 rfl ⟨h,i⟩)
 refine aC (aBl (v:=Value.int .u8 (c.toNat:Int)) (aB (tT rfl rfl) (aBl (v:=zB (decide (48≤(c.toNat:Int)))) ?_)))
 rcases aK a with ⟨b,a⟩|⟨b,a⟩
 ·exact bE b rfl rfl (aBl (v:=Value.int .u8 (c.toNat:Int)) (bE b rfl rfl (aB (aEo rfl rfl) (aB (bI (v:=zB (decide ((c.toNat:Int)≤57))) b rfl rfl) (pM (v:=zB (decide ((c.toNat:Int)≤57))) (aAf ⟨decide ((c.toNat:Int)≤57),a,rfl,e⟩))))))
 ·exact aV b rfl rfl (aV b rfl rfl (aB (bJ (v:=zB false) b rfl rfl) (pM (v:=zB false) (aAf ⟨false,a,rfl,e⟩))))
theorem aJH {c:aZ} {R:Bool} (hs:aL G K (L) w) (b:aEB c=some R):
  Calls Tryz.prog 316 ([cL c]:List Value).toArray w (fV fun v w'=>v=zB R∧aL G K (L) w'):=by
 refine aT Tryz.func316 rfl (by kernel_rfl) (by show (1:Nat)≤42;decide) ?_
 unfold aEB at b
 refine aAZ (pM (v:=zB false) (aAf (aH (aAZ (aBl (v:=cL c) (aB (jE Tryz.runUnderlying9 rfl) (aBl (v:=i64 0) (aAf (bD (fun f w=>aAL c=some R∧f 0=cL c∧aL G K (L) w) ?_ ?_)))))))))
 ·rintro f w2 ⟨b,e1,a1⟩
  unfold aAL at b
  refine aA (aH (cS (fun f w=>∃ (p:Bool),aCC p=some R∧f 2=zB p∧aL G K (L) w) ?_ ?_))
  ·rintro f w6 ⟨p,b,e5,a9⟩
   unfold aCC at b
   refine aA ?_
   cases zI b
   exact bF (bC Tryz.results316 rfl ⟨e5,a9⟩)
  refine aC (aCv e1 (aB (jE Tryz.runUnderlying9 rfl) (aB (tT rfl rfl) (aBl (v:=zB (decide (1≤(c.length:Int)))) ?_))))
  rcases aK b with ⟨j,b⟩|⟨j,b⟩
  ·exact bE j rfl rfl (aCv e1 (bE j rfl rfl (aB (jE Tryz.runUnderlying9 rfl) (bE j rfl rfl (aB (aEo rfl rfl) (aB (bI (v:=zB (decide ((c.length:Int)≤10))) j rfl rfl) (pM (v:=zB (decide ((c.length:Int)≤10))) (aAf ⟨decide ((c.length:Int)≤10),b,rfl,a1⟩))))))))
  ·exact aV j rfl rfl (aV j rfl rfl (aV j rfl rfl (aB (bJ (v:=zB false) j rfl rfl) (pM (v:=zB false) (aAf ⟨false,b,rfl,a1⟩)))))
 obtain ⟨c5,b1,b⟩:=aI b
 refine cD b1 (fun (d:Int) f w=>f 0=cL c∧f 6=i64 (c.length:Int)∧f 7=i64 d∧aL G K (L) w) ?_ ?_
 ·exact ⟨rfl,rfl,rfl,hs⟩
 ·rintro d q f c6 a a2 ⟨k,r,l,t⟩
  replace a:tV c d=some q:=a
  unfold tV at a
  refine aAZ (aB (cJ l r) (aAf (aH ?_)))
  rcases aK a with ⟨u,a⟩|⟨u,a⟩
  ·refine aO u rfl (aW (aA (aH (cU (aAZ (aCv l (pM (v:=i64 d) (aAf (aH (cS (fun f w=>∃ (m:Bool),rI c d m=some q∧f 0=cL c∧f 3=i64 d∧f 4=zB m∧f 6=i64 (c.length:Int)∧f 7=i64 d∧aL G K (L) w) ?_ ?_))))))))))
   ·rintro f c7 ⟨m,a,n,a3,b2,x,y,z⟩
    unfold rI at a
    refine aA (aH (cS (fun f w=>∃ (J:Bool),xH d J=some q∧f 0=cL c∧f 6=i64 (c.length:Int)∧f 7=i64 d∧f 32=zB J∧aL G K (L) w) ?_ ?_))
    ·rintro f c8 ⟨J,a,b3,b4,b5,a4,a5⟩
     unfold xH at a
     refine aA ?_
     rcases aK a with ⟨V,a⟩|⟨V,a⟩
     ·refine aO V a4 (aAZ (pM (v:=zB false) (aAf (bF (bN (aS (aS ?_)))))))
      have b6:=a2 _ (zI a).symm
      subst b6
      have b:(some false)=some R:=b
      cases zI b
      exact bN (aS (aS (bC Tryz.results316 rfl ⟨rfl,a5⟩)))
     ·exact aM V a4 (aW (bG (aA (aC (aB (cX b5 rfl) (aBl (v:=i64 (wr (d+1))) (aAf ⟨wr (d+1),(zI a).symm,b3,b4,rfl,a5⟩)))))))
    refine aC (aCv b2 (aB (dY rfl) (aBl (v:=zB (!m)) ?_)))
    rcases aK a with ⟨e,a⟩|⟨e,a⟩
    ·refine bE e rfl rfl (aCv a3 (bE e rfl rfl (aB (oY rfl rfl) (bE e rfl rfl (aBl (v:=zB (d == 0)) ?_)))))
     rcases aK a with ⟨h,a⟩|⟨h,a⟩
     ·exact bA h rfl rfl (bA h rfl rfl (bA h rfl rfl (bA h rfl rfl (bA h rfl rfl (bE e rfl rfl (aB (bI (v:=zB true) h rfl rfl) (aB (bI (v:=zB true) e rfl rfl) (aAf ⟨true,a,n,x,y,rfl,z⟩))))))))
     ·refine bM h rfl rfl (aCv n (bM h rfl rfl (aCv a3 (bM h rfl rfl ?_))))
      obtain ⟨b8,b9,a⟩:=aI a
      refine aB (aCY Tryz.runUnderlying9 rfl rfl b9) (bM h rfl rfl ?_)
      obtain ⟨Z,c0,a⟩:=aI a
      refine aU (vs:=[Value.int .u8 (b8.toNat:Int)]) Tryz.call351 rfl (aIo z c0) ?_
      rintro _ d0 ⟨rfl,c1⟩
      exact bM h rfl rfl (aB (dY rfl) (bE e rfl rfl (aB (bJ (v:=zB (!Z)) h rfl rfl) (aB (bI (v:=zB (!Z)) e rfl rfl) (aAf ⟨!Z,a,n,x,y,rfl,c1⟩)))))
    ·exact aV e rfl rfl (aV e rfl rfl (aV e rfl rfl (dQ (g:=25) rfl rfl (dQ (g:=25) rfl rfl (dQ (g:=25) rfl rfl (dQ (g:=25) rfl rfl (dQ (g:=25) rfl rfl (aV e rfl rfl (aB (bJ (v:=zB false) e rfl rfl) (aAf ⟨false,a,n,x,y,rfl,z⟩))))))))))
   refine aC (aCv k (aBl (v:=i64 d) ?_))
   obtain ⟨o,a6,a⟩:=aI a
   refine aB (aCY Tryz.runUnderlying9 rfl rfl a6) (aB (tT rfl rfl) (aBl (v:=zB (decide (97≤(o.toNat:Int)))) ?_))
   rcases aK a with ⟨i,a⟩|⟨i,a⟩
   ·exact bE i rfl rfl (aCv k (bE i rfl rfl (aBl (v:=i64 d) (bE i rfl rfl (aB (aCY Tryz.runUnderlying9 rfl rfl a6) (bE i rfl rfl (aB (aEo rfl rfl) (aB (bI (v:=zB (decide ((o.toNat:Int)≤122))) i rfl rfl) (pM (v:=zB (decide ((o.toNat:Int)≤122))) (aAf ⟨decide ((o.toNat:Int)≤122),a,k,rfl,rfl,r,l,t⟩))))))))))
   ·exact aV i rfl rfl (aV i rfl rfl (aV i rfl rfl (aV i rfl rfl (aB (bJ (v:=zB false) i rfl rfl) (pM (v:=zB false) (aAf ⟨false,a,k,rfl,rfl,r,l,t⟩))))))
  ·refine aM u rfl (cB (aY (aY ?_)))
   have c2:=a2 _ (zI a).symm
   subst c2
   have b:(aAL c)=some R:=b
   exact bO (aA ⟨b,k,t⟩)
theorem aEc {b:aZ} {R:Bool} (h:aL G K (L) w) (a:aAh b=some R):
  Calls Tryz.prog 262 ([cL b]:List Value).toArray w (fV fun v w'=>v=zB R∧aL G K (L) w'):=by
 refine aT Tryz.func262 rfl (by kernel_rfl) (by show (1:Nat)≤9;decide) ?_
 unfold aAh at a
 refine aAZ (pM (v:=zB false) (aAf (aH (cS (fun f w=>∃ (d:Bool),vY d=some R∧f 2=zB d∧aL G K (L) w) ?_ ?_))))
 ·rintro f n ⟨d,a,i,j⟩
  unfold vY at a
  refine aA ?_
  cases zI a
  exact bF (bC Tryz.results262 rfl ⟨i,j⟩)
 refine aC (aBl (v:=cL b) ?_)
 obtain ⟨l,m,a⟩:=aI a
 refine aU (vs:=[cL b]) Tryz.call316 rfl (aJH h m) ?_
 rintro _ o ⟨rfl,e⟩
 refine aBl (v:=zB l) ?_
 rcases aK a with ⟨c,a⟩|⟨c,a⟩
 ·exact bE c rfl rfl (aBl (v:=cL b) (bE c rfl rfl (aB (aEp rfl rfl) (aB (bI (v:=zB (!(b == ([116,97,117]:aZ)))) c rfl rfl) (pM (v:=zB (!(b == ([116,97,117]:aZ)))) (aAf ⟨!(b == ([116,97,117]:aZ)),a,rfl,e⟩))))))
 ·exact aV c rfl rfl (aV c rfl rfl (aB (bJ (v:=zB false) c rfl rfl) (pM (v:=zB false) (aAf ⟨false,a,rfl,e⟩))))
theorem wO {n low c:Int} {R:Bool} (e:aL G K (L) w) (a:yF n low c=some R):
  Calls Tryz.prog 77 ([i64 n,i64 low,i64 c]:List Value).toArray w (fV fun v w'=>v=zB R∧aL G K (L) w'):=by
 refine aT Tryz.func77 rfl (by kernel_rfl) (by show (3:Nat)≤15;decide) ?_
 unfold yF at a
 refine aAZ (pM (v:=zB false) (aAf (aH (cS (fun f w=>∃ (d:Bool),aCD d=some R∧f 6=zB d∧aL G K (L) w) ?_ ?_))))
 ·rintro f k ⟨d,a,h,i⟩
  unfold aCD at a
  refine aA ?_
  cases zI a
  exact bF (bC Tryz.results77 rfl ⟨h,i⟩)
 refine aC (aBl (v:=i64 n) (aBl (v:=i64 low) (aB (tT rfl rfl) (aBl (v:=zB (decide (low≤n))) ?_))))
 rcases aK a with ⟨b,a⟩|⟨b,a⟩
 ·exact bE b rfl rfl (aBl (v:=i64 n) (bE b rfl rfl (aBl (v:=i64 c) (bE b rfl rfl (aB (aEo rfl rfl) (aB (bI (v:=zB (decide (n≤c))) b rfl rfl) (pM (v:=zB (decide (n≤c))) (aAf ⟨decide (n≤c),a,rfl,e⟩))))))))
 ·exact aV b rfl rfl (aV b rfl rfl (aV b rfl rfl (aB (bJ (v:=zB false) b rfl rfl) (pM (v:=zB false) (aAf ⟨false,a,rfl,e⟩)))))
theorem aIp {n:Int} {R:Bool} (b:aL G K (L) w) (a:aFb n=some R):
  Calls Tryz.prog 332 ([i64 n]:List Value).toArray w (fV fun v w'=>v=zB R∧aL G K (L) w'):=by
 refine aT Tryz.func332 rfl (by kernel_rfl) (by show (1:Nat)≤5;decide) ?_
 unfold aFb at a
 refine aAZ (pM (v:=zB false) (aAf (aAZ (aBl (v:=i64 n) ?_))))
 obtain ⟨c,d,a⟩:=aI a
 refine aU (vs:=[i64 n,i64 0,i64 63]) Tryz.call77 rfl (wO b d) ?_
 rintro _ h ⟨rfl,e⟩
 refine pM (v:=zB c) (aAf ?_)
 cases zI a
 exact bF (bC Tryz.results332 rfl ⟨rfl,e⟩)
theorem aFn {n:Int} {R:Bool} (b:aL G K (L) w) (a:yG n=some R):
  Calls Tryz.prog 331 ([i64 n]:List Value).toArray w (fV fun v w'=>v=zB R∧aL G K (L) w'):=by
 refine aT Tryz.func331 rfl (by kernel_rfl) (by show (1:Nat)≤6;decide) ?_
 unfold yG at a
 refine aAZ (pM (v:=zB false) (aAf (aAZ (aBl (v:=i64 n) ?_))))
 obtain ⟨c,d,a⟩:=aI a
 refine aU (vs:=[i64 n]) Tryz.call332 rfl (aIp b d) ?_
 rintro _ h ⟨rfl,e⟩
 refine aB (dY rfl) (pM (v:=zB (!c)) (aAf ?_))
 cases zI a
 exact bF (bC Tryz.results331 rfl ⟨rfl,e⟩)
theorem uP {d:(List Int)} {R:Int} (r:aL G K (L) w) (j:bT K a1 c2 d) (b:iC d=some R):
  Calls Tryz.prog 167 ([zS a1 d.length c2,Value.func (.func 331) #[] #[]]:List Value).toArray w (fV fun v w'=>v=i64 R∧aL G K (L) w'):=by
 refine aT Tryz.func167 rfl (by kernel_rfl) (by show (2:Nat)≤19;decide) ?_
 unfold iC at b
 refine aAZ (pM (v:=i64 0) (aAf (aH (aAZ (aBl (v:=zS a1 d.length c2) (aB (bQ (len:=d.length) bW rfl) (aBl (v:=i64 0) (aAf (bD (fun f w=>fZ=some R∧aL G K (L) w) ?_ ?_)))))))))
 ·rintro f w4 ⟨b,u⟩
  unfold fZ at b
  refine aA (aAZ (pM (v:=i64 (-1)) (aAf ?_)))
  cases zI b
  exact bF (bC Tryz.results167 rfl ⟨rfl,u⟩)
 obtain ⟨a5,y,b⟩:=aI b
 refine cD y (fun (c:Int) f w=>f 0=zS a1 d.length c2∧f 1=Value.func (.func 331) #[] #[]∧f 7=i64 (d.length:Int)∧f 8=i64 c∧aL G K (L) w) ?_ ?_
 ·exact ⟨rfl,rfl,rfl,rfl,r⟩
 ·rintro c z f a6 a k ⟨l,m,n,e,g⟩
  replace a:dS d c=some z:=a
  unfold dS at a
  refine aAZ (aB (cJ e n) (aAf (aH ?_)))
  rcases aK a with ⟨h,a⟩|⟨h,a⟩
  ·refine aO h rfl (aW (aA (aH (cU (aAZ (aCv e (pM (v:=i64 c) (aAf (aAZ (aCv m (aCv l (aBl (v:=i64 c) ?_))))))))))))
   obtain ⟨o,p,a⟩:=aI a
   refine aB (cO bW rfl j rfl rfl rfl p) ?_
   obtain ⟨a7,J,V⟩:=bT.el (sz:=1) rfl j p
   cases V
   refine aB (bH (t:=0) cP g J rfl rfl) ?_
   obtain ⟨a8,Z,a⟩:=aI a
   refine kH (vs:=[i64 o]) (caps:=[]) (us:=[i64 o]) rfl Tryz.call331 rfl rfl (aFn g Z) ?_
   rintro _ a9 ⟨rfl,q⟩
   refine aAf ?_
   rcases aK a with ⟨i,a⟩|⟨i,a⟩
   ·refine aO i rfl (aAZ (aBl (v:=i64 c) (pM (v:=i64 c) (aAf (bF (bN (aS (aS ?_))))))))
    have a0:=k _ (zI a).symm
    subst a0
    have b:(some c)=some R:=b
    cases zI b
    exact bN (aS (aS (bC Tryz.results167 rfl ⟨rfl,q⟩)))
   ·exact aM i rfl (aW (bG (aA (aC (aB (cX e rfl) (aBl (v:=i64 (wr (c+1))) (aAf ⟨wr (c+1),(zI a).symm,l,m,n,rfl,q⟩)))))))
  ·refine aM h rfl (cB (aY (aY ?_)))
   have a3:=k _ (zI a).symm
   subst a3
   have b:(fZ)=some R:=b
   exact bO (aA ⟨b,g⟩)
theorem sR {a:(List Int)} {R:Bool} (c:aL G K (L) w) (d:bT K a1 c2 a) (b:gA a=some R):
  Calls Tryz.prog 330 ([zS a1 a.length c2,Value.func (.func 331) #[] #[]]:List Value).toArray w (fV fun v w'=>v=zB R∧aL G K (L) w'):=by
 refine aT Tryz.func330 rfl (by kernel_rfl) (by show (2:Nat)≤9;decide) ?_
 unfold gA at b
 refine aAZ (pM (v:=zB false) (aAf (aAZ (aBl (v:=zS a1 a.length c2) (aBl (v:=Value.func (.func 331) #[] #[]) ?_)))))
 obtain ⟨e,g,b⟩:=aI b
 refine aU (vs:=[zS a1 a.length c2,Value.func (.func 331) #[] #[]]) Tryz.call167 rfl (uP c d g) ?_
 rintro _ j ⟨rfl,h⟩
 refine aB (tT rfl rfl) (pM (v:=zB (decide (0≤e))) (aAf ?_))
 cases zI b
 exact bF (bC Tryz.results330 rfl ⟨rfl,h⟩)
theorem aGJ {a:(List Int)} {R:Bool} (c:aL G K (L) w) (d:bT K a1 c2 a) (b:aAM a=some R):
  Calls Tryz.prog 279 ([zS a1 a.length c2]:List Value).toArray w (fV fun v w'=>v=zB R∧aL G K (L) w'):=by
 refine aT Tryz.func279 rfl (by kernel_rfl) (by show (1:Nat)≤6;decide) ?_
 unfold aAM at b
 refine aAZ (pM (v:=zB false) (aAf (aAZ (aBl (v:=zS a1 a.length c2) ?_))))
 obtain ⟨e,g,b⟩:=aI b
 refine aU (vs:=[zS a1 a.length c2,Value.func (.func 331) #[] #[]]) Tryz.call330 rfl (sR c d g) ?_
 rintro _ j ⟨rfl,h⟩
 refine aB (dY rfl) (pM (v:=zB (!e)) (aAf ?_))
 cases zI b
 exact bF (bC Tryz.results279 rfl ⟨rfl,h⟩)
theorem aIq {c:aZ} {b:(List Int)} {R:(aZ × Bool)} (o:aL G K (L) w) (u:G.lo=0) (p:bT K a1 c2 b) (a:aDf c b=some R):
  Calls Tryz.prog 220 ([cL c,zS a1 b.length c2]:List Value).toArray w (fV fun v w'=>v=zT #[cL R.1,zB R.2]∧aL G K (L) w'):=by
 refine aT Tryz.func220 rfl (by kernel_rfl) (by show (2:Nat)≤37;decide) ?_
 unfold aDf at a
 refine aAZ (pM (v:=cL ([]:aZ)) (pM (v:=zB false) (aAf (aH (cU (aAZ (aBl (v:=cL c) (aB (aBb rfl rfl) (pM (v:=zB (c == ([116,97,117]:aZ))) (aAf ?_))))))))))
 rcases aK a with ⟨h,a⟩|⟨h,a⟩
 ·refine aO h rfl (aAZ (aBl (v:=zS a1 b.length c2) (aB (bQ (len:=b.length) bW rfl) (aB (oY rfl rfl) (pM (v:=cL ([116,97,117]:aZ)) (pM (v:=zB ((b.length:Int) == 0)) (aAf ?_)))))))
  cases zI a
  exact bF (bN (aS (tM Tryz.results220 rfl rfl ⟨rfl,o⟩)))
 ·refine aM h rfl (aH (cS (fun f w=>∃ (i:Bool),uZ c b i=some R∧f 0=cL c∧f 1=zS a1 b.length c2∧f 12=zB i∧aL G K (L) w) ?_ ?_))
  ·rintro f a9 ⟨i,a,q,r,t,j⟩
   unfold uZ at a
   refine aA ?_
   rcases aK a with ⟨k,a⟩|⟨k,a⟩
   ·refine aO k t (aAZ (pM (v:=cL ([]:aZ)) (pM (v:=zB false) (aAf ?_))))
    cases zI a
    exact bF (bN (aS (tM Tryz.results220 rfl rfl ⟨rfl,j⟩)))
   ·refine aM k t (aAZ (aCv r (aB (bQ (len:=b.length) bW rfl) (aB (oY rfl rfl) (pM (v:=zB ((b.length:Int) == 0)) (aAf ?_))))))
    rcases aK a with ⟨l,a⟩|⟨l,a⟩
    ·refine aO l rfl (aAZ (aCv q (pM (v:=cL c) (pM (v:=zB true) (aAf ?_)))))
     cases zI a
     exact bF (bN (aS (tM Tryz.results220 rfl rfl ⟨rfl,j⟩)))
    ·refine aM l rfl (aW (bG (aA (aAZ (aCv q ?_)))))
     obtain ⟨b0,J,a⟩:=aI a
     refine aB (R_cat rfl rfl J) (aCv r ?_)
     obtain ⟨b1,V,a⟩:=aI a
     refine aU (vs:=[zS a1 b.length c2,cL ([44]:aZ)]) Tryz.call115 rfl (aJG j u p V) ?_
     rintro _ b2 ⟨rfl,Z⟩
     obtain ⟨b3,a0,a⟩:=aI a
     refine aB (R_cat rfl rfl a0) ?_
     obtain ⟨a2,a3,a⟩:=aI a
     refine aB (R_cat rfl rfl a3) (pM (v:=cL a2) (pM (v:=zB true) (aAf ?_)))
     cases zI a
     exact bF (tM Tryz.results220 rfl rfl ⟨rfl,Z⟩)
  refine aC (aBl (v:=cL c) ?_)
  obtain ⟨a5,a6,a⟩:=aI a
  refine aU (vs:=[cL c]) Tryz.call262 rfl (aEc o a6) ?_
  rintro _ b4 ⟨rfl,m⟩
  refine aB (dY rfl) (aBl (v:=zB (!a5)) ?_)
  rcases aK a with ⟨d,a⟩|⟨d,a⟩
  ·exact bA d rfl rfl (bA d rfl rfl (bA d rfl rfl (aB (bI (v:=zB true) d rfl rfl) (aBl (v:=zB true) (bA (rfl:true=true) rfl rfl (bA (rfl:true=true) rfl rfl (bA (rfl:true=true) rfl rfl (aB (bI (v:=zB true) (rfl:true=true) rfl rfl) (pM (v:=zB true) (aAf ⟨true,a,rfl,rfl,rfl,m⟩))))))))))
  ·refine bM d rfl rfl (aBl (v:=zS a1 b.length c2) (bM d rfl rfl (aB (bQ (len:=b.length) bW rfl) (bM d rfl rfl (aB (mL rfl rfl) (aB (bJ (v:=zB (decide (2 < (b.length:Int)))) d rfl rfl) (aBl (v:=zB (decide (2 < (b.length:Int)))) ?_)))))))
   rcases aK a with ⟨e,a⟩|⟨e,a⟩
   ·exact bA e rfl rfl (bA e rfl rfl (bA e rfl rfl (aB (bI (v:=zB true) e rfl rfl) (pM (v:=zB true) (aAf ⟨true,a,rfl,rfl,rfl,m⟩)))))
   ·refine bM e rfl rfl (aBl (v:=zS a1 b.length c2) (bM e rfl rfl ?_))
    obtain ⟨n,a7,a⟩:=aI a
    refine aU (vs:=[zS a1 b.length c2]) Tryz.call279 rfl (aGJ m p a7) ?_
    rintro _ b5 ⟨rfl,a8⟩
    exact bM e rfl rfl (aB (dY rfl) (aB (bJ (v:=zB (!n)) e rfl rfl) (pM (v:=zB (!n)) (aAf ⟨!n,a,rfl,rfl,rfl,a8⟩))))
theorem vP {d c:aZ} {R:Bool} (i:aL G K (L) w) (b:iS d c=some R):
  Calls Tryz.prog 329 ([cL d,cL c]:List Value).toArray w (fV fun v w'=>v=zB R∧aL G K (L) w'):=by
 refine aT Tryz.func329 rfl (by kernel_rfl) (by show (2:Nat)≤21;decide) ?_
 unfold iS at b
 refine aAZ (pM (v:=zB false) (aAf (aH (cS (fun f w=>∃ (e:Bool),fA e=some R∧f 4=zB e∧aL G K (L) w) ?_ ?_))))
 ·rintro f n ⟨e,b,j,k⟩
  unfold fA at b
  refine aA ?_
  cases zI b
  exact bF (bC Tryz.results329 rfl ⟨j,k⟩)
 refine aC (aBl (v:=cL d) (aB (jE Tryz.runUnderlying9 rfl) (aBl (v:=cL c) (aB (jE Tryz.runUnderlying9 rfl) (aB (tT rfl rfl) (aBl (v:=zB (decide ((c.length:Int)≤(d.length:Int)))) ?_))))))
 rcases aK b with ⟨a,b⟩|⟨a,b⟩
 ·refine bE a rfl rfl (aBl (v:=cL d) (bE a rfl rfl (aBl (v:=cL d) (bE a rfl rfl (aB (jE Tryz.runUnderlying9 rfl) (bE a rfl rfl (aBl (v:=cL c) (bE a rfl rfl (aB (jE Tryz.runUnderlying9 rfl) (bE a rfl rfl (aB (jS rfl rfl) (bE a rfl rfl ?_))))))))))))
  obtain ⟨h,m,b⟩:=aI b
  exact aB (R_slSL Tryz.runUnderlying9 rfl rfl m) (bE a rfl rfl (aBl (v:=cL c) (bE a rfl rfl (aB (aBb rfl rfl) (aB (bI (v:=zB (h == c)) a rfl rfl) (pM (v:=zB (h == c)) (aAf ⟨h == c,b,rfl,i⟩)))))))
 ·exact aV a rfl rfl (aV a rfl rfl (aV a rfl rfl (aV a rfl rfl (aV a rfl rfl (aV a rfl rfl (aV a rfl rfl (aV a rfl rfl (aV a rfl rfl (aB (bJ (v:=zB false) a rfl rfl) (pM (v:=zB false) (aAf ⟨false,b,rfl,i⟩)))))))))))
theorem uQ {b c R:aZ} (g:aL G K (L) w) (a:iD b c=some R):
  Calls Tryz.prog 278 ([cL b,cL c]:List Value).toArray w (fV fun v w'=>v=cL R∧aL G K (L) w'):=by
 refine aT Tryz.func278 rfl (by kernel_rfl) (by show (2:Nat)≤16;decide) ?_
 unfold iD at a
 refine aAZ (pM (v:=cL ([]:aZ)) (aAf (aH (aAZ (aBl (v:=cL b) (aBl (v:=cL c) ?_))))))
 obtain ⟨m,h,a⟩:=aI a
 refine aU (vs:=[cL b,cL c]) Tryz.call329 rfl (vP g h) ?_
 rintro _ n ⟨rfl,e⟩
 refine aAf ?_
 rcases aK a with ⟨d,a⟩|⟨d,a⟩
 ·refine aO d rfl (aAZ (aBl (v:=cL b) (aBl (v:=cL b) (aB (jE Tryz.runUnderlying9 rfl) (aBl (v:=cL c) (aB (jE Tryz.runUnderlying9 rfl) (aB (jS rfl rfl) ?_)))))))
  obtain ⟨i,j,a⟩:=aI a
  refine aB (R_slSH Tryz.runUnderlying9 rfl rfl j) (pM (v:=cL i) (aAf ?_))
  cases zI a
  exact bF (aS (bC Tryz.results278 rfl ⟨rfl,e⟩))
 ·refine aM d rfl (aW (aA (aAZ (aBl (v:=cL b) (pM (v:=cL b) (aAf ?_))))))
  cases zI a
  exact bF (bC Tryz.results278 rfl ⟨rfl,e⟩)
theorem aCw {a b R:aZ} (d:aL G K (L) w) (c:mN a b=some R):
  Calls Tryz.prog 219 ([cL a,cL b]:List Value).toArray w (fV fun v w'=>v=cL R∧aL G K (L) w'):=by
 refine aT Tryz.func219 rfl (by kernel_rfl) (by show (2:Nat)≤8;decide) ?_
 unfold mN at c
 refine aAZ (pM (v:=cL ([]:aZ)) (aAf (aAZ (aBl (v:=cL a) (aBl (v:=cL b) ?_)))))
 obtain ⟨e,g,c⟩:=aI c
 refine aU (vs:=[cL a,cL b]) Tryz.call278 rfl (uQ d g) ?_
 rintro _ j ⟨rfl,h⟩
 refine pM (v:=cL e) (aAf ?_)
 cases zI c
 exact bF (bC Tryz.results219 rfl ⟨rfl,h⟩)
theorem aDt {h:aZ} {R:(aZ × (List Int) × Bool)} (hs:aL G K (L) w) (x:G.lo=0) (a:tW h=some R):
  Calls Tryz.prog 161 ([cL h]:List Value).toArray w (fV fun v w'=>∃ (y:Option Addr) (z:Nat),v=zT #[cL R.1,zS y R.2.1.length z,zB R.2.2]∧aL G K (aN 2 K y z R.2.1::L) w'):=by
 refine aT Tryz.func161 rfl (by kernel_rfl) (by show (1:Nat)≤43;decide) ?_
 unfold tW at a
 refine aAZ (pM (v:=cL ([]:aZ)) (pM (v:=zS none 0 0) (pM (v:=zB false) (aAf (aAZ (aBl (v:=cL h) ?_))))))
 obtain ⟨b,q2,a⟩:=aI a
 refine aU (vs:=[cL h,cL ([40]:aZ)]) Tryz.call216 rfl (lib_Cut hs q2) ?_
 rintro _ w3 ⟨rfl,J⟩
 refine aBl (v:=zT #[cL b.1,cL b.2.1,zB b.2.2]) (aB (bV rfl rfl) (aB (bV rfl rfl) (aB (bV rfl rfl) (pM (v:=cL b.1) (pM (v:=cL b.2.1) (pM (v:=zB b.2.2) (aAf (aAZ (pM (v:=zS none 0 0) (aAf (aBQ (fun f w=>∃ (c:List Int) (j:Option Addr) (k:Nat),mP h b c=some R∧f 0=cL h∧f 5=cL b.1∧f 8=zS j c.length k∧aL G K (aN 2 K j k c::L) w) ?_ ?_)))))))))))
 ·rintro f d5 ⟨c,j,k,a,e8,m,n,a5⟩
  unfold mP at a
  refine aH (aAZ (aCv m (aCv n ?_)))
  obtain ⟨d6,d7,a7,a8,a9⟩:=aL.lendS (i:=0) a5 (zR _) rfl
  obtain ⟨d,b0,a⟩:=aI a
  refine aU (vs:=[cL b.1,zS j c.length k]) Tryz.call220 rfl (aIq a8 x a7 b0) ?_
  rintro _ d8 ⟨rfl,b1⟩
  have V:=a9 _ _ b1
  refine aBl (v:=zT #[cL d.1,zB d.2]) (aB (bV rfl rfl) (aB (bV rfl rfl) (pM (v:=cL d.1) (pM (v:=zB d.2) (aAf (aH (cS (fun f w=>∃ (o:Bool),mO b c o=some R∧f 5=cL b.1∧f 8=zS j c.length k∧f 40=zB o∧aL G K (aN 2 K j k c::L) w) ?_ ?_)))))))
  ·rintro f d9 ⟨o,a,b2,b3,Z,a0⟩
   unfold mO at a
   refine aA ?_
   rcases aK a with ⟨p,a⟩|⟨p,a⟩
   ·refine aO p Z (aAZ (pM (v:=cL ([]:aZ)) (pM (v:=zS none 0 0) (pM (v:=zB false) (aAf ?_)))))
    have b4:=aL.nil (α:=Int) a0 2 K
    cases zI a
    exact bF (aS (retQ_3 Tryz.results161 rfl rfl rfl ⟨none,0,rfl,(aL.arr 2 [0] b4 rfl)⟩))
   ·refine aM p Z (aW (aA (aAZ (aCv b2 (aCv b3 (pM (v:=cL b.1) (pM (v:=zS j c.length k) (pM (v:=zB true) (aAf ?_)))))))))
    cases zI a
    exact bF (retQ_3 Tryz.results161 rfl rfl rfl ⟨j,k,rfl,a0⟩)
  refine aC (aBl (v:=zB d.2) (aB (dY rfl) (aBl (v:=zB (!d.2)) ?_)))
  rcases aK a with ⟨e,a⟩|⟨e,a⟩
  ·exact bA e rfl rfl (bA e rfl rfl (bA e rfl rfl (aB (bI (v:=zB true) e rfl rfl) (aAf ⟨true,a,m,n,rfl,V⟩))))
  ·exact bM e rfl rfl (aBl (v:=cL d.1) (bM e rfl rfl (aCv e8 (bM e rfl rfl (aB (aEp rfl rfl) (aB (bJ (v:=zB (!(d.1 == h))) e rfl rfl) (aAf ⟨!(d.1 == h),a,m,n,rfl,V⟩)))))))
 refine aAZ (aBl (v:=zB b.2.2) (aAf ?_))
 rcases aK a with ⟨q,a⟩|⟨q,a⟩
 ·refine aO q rfl (aAZ (pM (v:=zB false) (aAf (aAZ (aBl (v:=cL b.2.1) ?_)))))
  obtain ⟨b7,b8,a⟩:=aI a
  refine aU (vs:=[cL b.2.1,cL ([41]:aZ)]) Tryz.call219 rfl (aCw J b8) ?_
  rintro _ e0 ⟨rfl,b9⟩
  obtain ⟨c0,c1,a⟩:=aI a
  refine aU (vs:=[cL b7,cL ([44]:aZ)]) Tryz.call218 rfl (lib_Split b9 c1) ?_
  rintro _ e1 ⟨c2,c3,rfl,c4⟩
  obtain ⟨e2,e3,c5,c6,c8⟩:=aL.lendS (i:=0) c4 (zR _) rfl
  obtain ⟨l,c9,a⟩:=aI a
  refine aU (vs:=[zS c2 c0.length c3]) Tryz.call217 rfl (aFM c6 x c5 c9) ?_
  rintro _ e4 ⟨r,t,rfl,d0⟩
  have a1:=c8 _ _ d0
  refine aBl (v:=zT #[zS r l.1.length t,zB l.2]) (aB (bV rfl rfl) (aB (bV rfl rfl) (pM (v:=zS r l.1.length t) (pM (v:=zB l.2) (aAf (aAZ (aBl (v:=zB l.2) (aB (dY rfl) (aAf ?_)))))))))
  rcases aK a with ⟨u,a⟩|⟨u,a⟩
  ·refine aO u rfl (aAZ (pM (v:=cL ([]:aZ)) (pM (v:=zS none 0 0) (pM (v:=zB false) (aAf ?_)))))
   have d1:=aL.nil (α:=Int) a1 2 K
   cases zI a
   exact bF (aS (retQ_3 Tryz.results161 rfl rfl rfl ⟨none,0,rfl,(aL.arr 3 [0] d1 rfl)⟩))
  ·exact aM u rfl (aW (aA ⟨l.1,r,t,a,rfl,rfl,rfl,(aL.arr 1 [] a1 rfl)⟩))
 ·refine aM q rfl ?_
  have d3:=aL.nil (α:=Int) J 2 K
  exact aW (aA ⟨[],none,0,a,rfl,rfl,rfl,d3⟩)
theorem aIr {b:aZ} {R:Bool} (g:aL G K (L) w) (h:G.lo=0) (c:aBG b=some R):
  Calls Tryz.prog 79 ([cL b]:List Value).toArray w (fV fun v w'=>v=zB R∧aL G K (L) w'):=by
 refine aT Tryz.func79 rfl (by kernel_rfl) (by show (1:Nat)≤13;decide) ?_
 unfold aBG at c
 refine aAZ (pM (v:=zB false) (aAf (aAZ (aBl (v:=cL b) ?_))))
 obtain ⟨a,i,c⟩:=aI c
 refine aU (vs:=[cL b]) Tryz.call161 rfl (aDt g h i) ?_
 rintro _ l ⟨d,e,rfl,j⟩
 refine aBl (v:=zT #[cL a.1,zS d a.2.1.length e,zB a.2.2]) (aB (bV rfl rfl) (aB (bV rfl rfl) (aB (bV rfl rfl) (pM (v:=cL a.1) (pM (v:=zS d a.2.1.length e) (pM (v:=zB a.2.2) (aAf (aAZ (aBl (v:=zB a.2.2) (pM (v:=zB a.2.2) (aAf ?_)))))))))))
 cases zI c
 exact bF (bC Tryz.results79 rfl ⟨rfl,(aL.arr 1 [] j rfl)⟩)
theorem aDu {a:(List aZ)} {left R:Int} (o:aL G K (L) w) (p:bT K a1 c2 a) (b:xI a left=some R):
  Calls Tryz.prog 21 ([zS a1 a.length c2,i64 left]:List Value).toArray w (fV fun v w'=>v=i64 R∧aL G K (L) w'):=by
 refine aT Tryz.func21 rfl (by kernel_rfl) (by show (2:Nat)≤28;decide) ?_
 unfold xI at b
 refine aAZ (pM (v:=i64 0) (aAf (aAZ (aBl (v:=i64 left) (aBl (v:=zS a1 a.length c2) (aB (bQ (len:=a.length) cY rfl) (aB (jS rfl rfl) (pM (v:=i64 (wr (left - (a.length:Int)))) (aAf (aH (aAZ (aBl (v:=i64 (wr (left - (a.length:Int)))) (aB (cJ rfl rfl) (aAf ?_))))))))))))))
 rcases aK b with ⟨i,b⟩|⟨i,b⟩
 ·refine aO i rfl (aAZ (pM (v:=i64 (-1)) (aAf ?_)))
  cases zI b
  exact bF (aS (bC Tryz.results21 rfl ⟨rfl,o⟩))
 ·refine aM i rfl (aW (aA (aH (aAZ (pM (v:=i64 0) (aAf (bD (fun f w=>∃ (g:Int),yH g=some R∧f 1=i64 g∧aL G K (L) w) ?_ ?_)))))))
  ·rintro f w8 ⟨g,b,y,z⟩
   unfold yH at b
   refine aA (aAZ (aCv y (pM (v:=i64 g) (aAf ?_))))
   cases zI b
   exact bF (bC Tryz.results21 rfl ⟨rfl,z⟩)
  obtain ⟨a7,V,b⟩:=aI b
  refine cD V (fun (s:(Int × Int)) f w=>match s with|(d,e)=>f 0=zS a1 a.length c2∧f 1=i64 d∧f 5=i64 e∧aL G K (L) w) ?_ ?_
  ·exact ⟨rfl,rfl,rfl,o⟩
  ·rintro ⟨d,e⟩ Z f a8 c q ⟨j,r,k,h⟩
   replace c:tX a d e=some Z:=c
   unfold tX at c
   refine aH (aAZ (aCv k (aCv j (aB (bQ (len:=a.length) cY rfl) (aB (cJ rfl rfl) (aAf ?_))))))
   rcases aK c with ⟨l,c⟩|⟨l,c⟩
   ·refine aO l rfl (aW (aA (aH (cU (aAZ (aCv r (aCv j (aCv k ?_))))))))
    obtain ⟨m,u,c⟩:=aI c
    refine aB (cO cY rfl p rfl rfl rfl u) ?_
    obtain ⟨a9,a0,a2⟩:=bT.el (sz:=1) rfl p u
    cases a2
    refine aB (bH (t:=0) pK h a0 rfl rfl) (aB (jE Tryz.runUnderlying9 rfl) (aB (jS rfl rfl) (pM (v:=i64 (wr (d - (m.length:Int)))) (aAf (aAZ (aBl (v:=i64 (wr (d - (m.length:Int)))) (aB (cJ rfl rfl) (aAf ?_))))))))
    rcases aK c with ⟨n,c⟩|⟨n,c⟩
    ·refine aO n rfl (aAZ (pM (v:=i64 (-1)) (aAf (bF (bN (aS (aS ?_)))))))
     have a3:=q _ (zI c).symm
     subst a3
     have b:(some (-1))=some R:=b
     cases zI b
     exact bN (aS (aS (bC Tryz.results21 rfl ⟨rfl,h⟩)))
    ·exact aM n rfl (aW (bG (aA (aC (aCv k (aB (cX rfl rfl) (pM (v:=i64 (wr (e+1))) (aAf ⟨(wr (d - (m.length:Int)),wr (e+1)),(zI c).symm,j,rfl,rfl,h⟩))))))))
   ·refine aM l rfl (cB (aY (aY ?_)))
    have a5:=q _ (zI c).symm
    subst a5
    have b:(yH d)=some R:=b
    exact bO (aA ⟨d,b,r,h⟩)
theorem aIs {a:(List Edge)} {left R:Int} (d:aL G K (L) w) (h:bT K a1 c2 a) (b:aDg a left=some R):
  Calls Tryz.prog 22 ([zS a1 a.length c2,i64 left]:List Value).toArray w (fV fun v w'=>v=i64 R∧aL G K (L) w'):=by
 refine aT Tryz.func22 rfl (by kernel_rfl) (by show (2:Nat)≤12;decide) ?_
 unfold aDg at b
 refine aAZ (pM (v:=i64 0) (aAf (aAZ (aBl (v:=i64 left) (aBl (v:=zS a1 a.length c2) (aB (bQ (len:=a.length) sl_23 rfl) (aB (jS rfl rfl) (pM (v:=i64 (wr (left - (a.length:Int)))) (aAf (aH (aAZ (aBl (v:=i64 (wr (left - (a.length:Int)))) (aB (cJ rfl rfl) (aAf ?_))))))))))))))
 rcases aK b with ⟨c,b⟩|⟨c,b⟩
 ·refine aO c rfl (aAZ (pM (v:=i64 (-1)) (aAf ?_)))
  cases zI b
  exact bF (aS (bC Tryz.results22 rfl ⟨rfl,d⟩))
 ·refine aM c rfl (aW (aA (aAZ (aBl (v:=i64 (wr (left - (a.length:Int)))) (pM (v:=i64 (wr (left - (a.length:Int)))) (aAf ?_))))))
  cases zI b
  exact bF (bC Tryz.results22 rfl ⟨rfl,d⟩)
theorem aGl {a:dB} {left R:Int} (l:aL G K (L) w) (m:bT K a1 c2 a.L) (n:bT K a4 c5 a.E) (b:aFc a left=some R):
  Calls Tryz.prog 6 ([zA (zCa a a1 c2 a4 c5),i64 left]:List Value).toArray w (fV fun v w'=>v=i64 R∧aL G K (L) w'):=by
 refine aT Tryz.func6 rfl (by kernel_rfl) (by show (2:Nat)≤18;decide) ?_
 unfold aFc at b
 refine aAZ (dW (v:=zA (zCa a a1 c2 a4 c5)) (vs:=(zC a a1 c2 a4 c5)) l rfl rfl (fun u x j=>(pM (v:=i64 0) (aAf (aAZ (aB (bB (t':=2) fa_25_2 rfl rfl) (aB (bR jJ j (i:=0) rfl rfl rfl) (aBl (v:=i64 left) ?_))))))))
 obtain ⟨c,o,b⟩:=aI b
 refine aU (vs:=[zS a1 a.L.length c2,i64 left]) Tryz.call21 rfl (aDu j m o) ?_
 rintro _ y ⟨rfl,e⟩
 refine pM (v:=i64 c) (aAf (aH (aAZ (aBl (v:=i64 c) (aB (cJ rfl rfl) (aAf ?_))))))
 rcases aK b with ⟨g,b⟩|⟨g,b⟩
 ·refine aO g rfl (aAZ (pM (v:=i64 (-1)) (aAf ?_)))
  cases zI b
  exact bF (aS (bC Tryz.results6 rfl ⟨rfl,(aL.arr 1 [] e rfl)⟩))
 ·refine aM g rfl (aW (aA (aAZ (aB (bB (t':=3) fa_25_3 rfl rfl) (aB (bR sc_23 e (i:=0) rfl rfl rfl) (aBl (v:=i64 c) ?_))))))
  obtain ⟨d,q,b⟩:=aI b
  refine aU (vs:=[zS a4 a.E.length c5,i64 c]) Tryz.call22 rfl (aIs e n q) ?_
  rintro _ z ⟨rfl,k⟩
  refine pM (v:=i64 d) (aAf (aH (aAZ (aBl (v:=i64 d) (aB (cJ rfl rfl) (aAf ?_))))))
  rcases aK b with ⟨h,b⟩|⟨h,b⟩
  ·refine aO h rfl (aAZ (pM (v:=i64 (-1)) (aAf ?_)))
   cases zI b
   exact bF (aS (bC Tryz.results6 rfl ⟨rfl,(aL.arr 1 [] k rfl)⟩))
  ·refine aM h rfl (aW (aA (aAZ (aBl (v:=i64 d) (pM (v:=i64 d) (aAf ?_))))))
   cases zI b
   exact bF (bC Tryz.results6 rfl ⟨rfl,(aL.arr 1 [] k rfl)⟩)
theorem aDv {a R:(List aZ)} (hs:aL G K (L) w) (x:bT K a1 c2 a) (d:xJ a=some R):
  Calls Tryz.prog 29 ([zS a1 a.length c2]:List Value).toArray w (fV fun v w'=>∃ (y:Option Addr) (z:Nat),v=zS y R.length z∧aL G K (aN 9 K y z R::L) w'):=by
 refine aT Tryz.func29 rfl (by kernel_rfl) (by show (1:Nat)≤22;decide) ?_
 unfold xJ at d
 refine aAZ (pM (v:=zS none 0 0) (aAf (aAZ (aBl (v:=zS a1 a.length c2) (aB (bQ (len:=a.length) cY rfl) ?_)))))
 obtain ⟨c,q5,d⟩:=aI d
 refine aFt (e:=([]:aZ)) cY yD rfl rfl hs rfl rfl rfl q5 rfl (fun g w7 (a5:aL G K (aN 9 K g c.length c::L) w7)=>(pM (v:=zS g c.length c.length) (aAf (aH (aAZ (pM (v:=i64 0) (aAf (bD (fun f w=>∃ (k:List aZ),yI k=some R∧f 3=zS g k.length c.length∧aL G K (aN 9 K g c.length k::L) w) ?_ ?_))))))))
 ·rintro f b9 ⟨k,d,a7,a8⟩
  unfold yI at d
  refine aA (aAZ (aCv a7 (pM (v:=zS g k.length c.length) (aAf ?_))))
  cases zI d
  exact bF (bC Tryz.results29 rfl ⟨g,c.length,rfl,a8⟩)
 obtain ⟨c0,b0,d⟩:=aI d
 refine cD b0 (fun (s:(List aZ × Int)) f w=>match s with|(j,l)=>f 0=zS a1 a.length c2∧f 3=zS g j.length c.length∧f 4=i64 l∧aL G K (aN 9 K g c.length j::L) w) ?_ ?_
 ·exact ⟨rfl,rfl,rfl,a5⟩
 ·rintro ⟨j,l⟩ b1 f c1 b b2 ⟨p,q,m,o⟩
  replace b:tY a j l=some b1:=b
  unfold tY at b
  refine aH (aAZ (aCv m (aCv p (aB (bQ (len:=a.length) cY rfl) (aB (cJ rfl rfl) (aAf ?_))))))
  rcases aK b with ⟨r,b⟩|⟨r,b⟩
  ·refine aO r rfl (aW (aA (aH (cU (aC (aCv q (aCv m (aCv p (aCv m ?_)))))))))
   obtain ⟨J,V,b⟩:=aI b
   refine aB (cO cY rfl x rfl rfl rfl V) ?_
   obtain ⟨c3,b3,b4⟩:=bT.el (sz:=1) rfl x V
   cases b4
   refine aB (bH (t:=0) pK o b3 rfl rfl) ?_
   obtain ⟨c4,u,b⟩:=aI b
   have b5:=cG o (i:=0) rfl u
   refine aB (dA cY rfl b5 rfl rfl rfl u) ?_
   obtain ⟨Z,a0,b⟩:=aI b
   exact kV (i:=0) (t:=0) (ns:=[cL J]) (e':=(J:aZ)) Tryz.sizeOf9 o rfl (zR _) rfl rfl rfl u a0 rfl rfl (dL rfl) rfl (fun cs h=>by cases h;rfl) (fun b6 (b7:aL G K (aN 9 K g c.length Z::L) b6)=>(aF (bG (aA (aC (aCv m (aB (cX rfl rfl) (pM (v:=i64 (wr (l+1))) (aAf ⟨(Z,wr (l+1)),(zI b).symm,p,(Eq.trans q (congrArg (fun n=>zS g n c.length) (iN a0))),rfl,b7⟩)))))))))
  ·refine aM r rfl (cB (aY (aY ?_)))
   have b8:=b2 _ (zI b).symm
   subst b8
   have d:(yI j)=some R:=d
   exact bO (aA ⟨j,d,q,o⟩)
theorem aJI {a R:Edge} (n:aL G K (L) w) (g:aGh a=some R):
  Calls Tryz.prog 76 ([zA #[i64 a.F,i64 a.B,i64 a.To]]:List Value).toArray w (fV fun v w'=>v=zA #[i64 R.F,i64 R.B,i64 R.To]∧aL G K (L) w'):=by
 let b:=[i64 a.F,i64 a.B,i64 a.To]
 refine aT Tryz.func76 rfl (by kernel_rfl) (by show (1:Nat)≤14;decide) ?_
 unfold aGh at g
 refine aAZ (dW (v:=zA #[i64 a.F,i64 a.B,i64 a.To]) (vs:=b) n rfl rfl (fun c y o=>(cF (vs:=[i64 0,i64 0,i64 0]) Tryz.zeroValue63 o rfl (fun d z p=>(aAf (aAZ (cF (vs:=[i64 0,i64 0,i64 0]) Tryz.zeroValue63 p rfl (fun e J h=>(aAf (aAZ (aB (bB (t':=0) fa_113_0 rfl rfl) (aB (bR cP h (i:=2) rfl rfl rfl) (aB (bB (t':=0) fY rfl rfl) (cC (i:=0) (ns:=[i64 a.F]) (us:=[i64 a.F,i64 0,i64 0]) Tryz.sizeOf2 h rfl rfl rfl rfl rfl (dL rfl) rfl rfl (fun q (j:aL G K (box e 63 [i64 a.F,i64 0,i64 0]::box d 63 [i64 0,i64 0,i64 0]::box c 113 b::L) q)=>(aAf (aAZ (aB (bB (t':=1) fa_113_1 rfl rfl) (aB (bR cP j (i:=2) rfl rfl rfl) (aB (bB (t':=1) fP rfl rfl) (cC (i:=0) (ns:=[i64 a.B]) (us:=[i64 a.F,i64 a.B,i64 0]) Tryz.sizeOf2 j rfl rfl rfl rfl rfl (dL rfl) rfl rfl (fun r (k:aL G K (box e 63 [i64 a.F,i64 a.B,i64 0]::box d 63 [i64 0,i64 0,i64 0]::box c 113 b::L) r)=>(aAf ?_)))))))))))))))))))))))
 refine aAZ (aB (bB (t':=2) fa_113_2 rfl rfl) (aB (bR cP k (i:=2) rfl rfl rfl) (aB (bB (t':=2) iB rfl rfl) (cC (i:=0) (ns:=[i64 a.To]) (us:=b) Tryz.sizeOf2 k rfl rfl rfl rfl rfl (dL rfl) rfl rfl (fun t (l:aL G K (box e 63 b::box d 63 [i64 0,i64 0,i64 0]::box c 113 b::L) t)=>(aAf (aAZ (aB (dK (us:=b) mB l (i:=0) rfl rfl rfl rfl) (cC (i:=1) (ns:=b) (us:=b) Tryz.sizeOf63 l rfl rfl rfl rfl rfl (dL rfl) rfl rfl (fun u (m:aL G K (box e 63 b::box d 63 b::box c 113 b::L) u)=>(aAf ?_)))))))))))
 cases zI g
 exact bF (aDN Tryz.results76 (kW (vs:=b) rfl mB m (i:=1) rfl rfl rfl) ⟨rfl,(aL.arr 3 [] m rfl)⟩)
theorem aIt {a R:(List Edge)} (hs:aL G K (L) w) (z:bT K a1 c2 a) (d:aDh a=some R):
  Calls Tryz.prog 30 ([zS a1 a.length c2]:List Value).toArray w (fV fun v w'=>∃ (J:Option Addr) (V:Nat),v=zS J R.length V∧aL G K (aN 63 K J V R::L) w'):=by
 refine aT Tryz.func30 rfl (by kernel_rfl) (by show (1:Nat)≤23;decide) ?_
 unfold aDh at d
 refine aAZ (pM (v:=zS none 0 0) (aAf (aAZ (aBl (v:=zS a1 a.length c2) (aB (bQ (len:=a.length) sl_23 rfl) ?_)))))
 obtain ⟨c,q5,d⟩:=aI d
 refine aFt (e:=(⟨0,0,0⟩:Edge)) cR vQ rfl rfl hs rfl rfl rfl q5 rfl (fun g w7 (a8:aL G K (aN 63 K g c.length c::L) w7)=>(pM (v:=zS g c.length c.length) (aAf (aH (aAZ (pM (v:=i64 0) (aAf (bD (fun f w=>∃ (m:List Edge),aBs m=some R∧f 3=zS g m.length c.length∧aL G K (aN 63 K g c.length m::L) w) ?_ ?_))))))))
 ·rintro f c3 ⟨m,d,a9,b0⟩
  unfold aBs at d
  refine aA (aAZ (aCv a9 (pM (v:=zS g m.length c.length) (aAf ?_))))
  cases zI d
  exact bF (bC Tryz.results30 rfl ⟨g,c.length,rfl,b0⟩)
 obtain ⟨c4,b2,d⟩:=aI d
 refine cD b2 (fun (s:(List Edge × Int)) f w=>match s with|(j,o)=>f 0=zS a1 a.length c2∧f 3=zS g j.length c.length∧f 4=i64 o∧aL G K (aN 63 K g c.length j::L) w) ?_ ?_
 ·exact ⟨rfl,rfl,rfl,a8⟩
 ·rintro ⟨j,o⟩ b3 f c5 b b4 ⟨q,r,p,u⟩
  replace b:yJ a j o=some b3:=b
  unfold yJ at b
  refine aH (aAZ (aCv p (aCv q (aB (bQ (len:=a.length) sl_23 rfl) (aB (cJ rfl rfl) (aAf ?_))))))
  rcases aK b with ⟨x,b⟩|⟨x,b⟩
  ·refine aO x rfl (aW (aA (aH (cU (aC (aCv r (aCv p (aCv q (aCv p ?_)))))))))
   obtain ⟨k,Z,b⟩:=aI b
   refine aB (cO sl_23 rfl z rfl rfl rfl Z) ?_
   obtain ⟨c6,b5,b6⟩:=bT.el (sz:=3) rfl z Z
   cases b6
   refine aB (gO (t:=0) (vs:=[i64 k.F,i64 k.B,i64 k.To]) ag_113 u b5 rfl rfl rfl) ?_
   obtain ⟨l,b7,b⟩:=aI b
   refine aU (vs:=[zA #[i64 k.F,i64 k.B,i64 k.To]]) Tryz.call76 rfl (aJI u b7) ?_
   rintro _ c7 ⟨rfl,a0⟩
   obtain ⟨c8,y,b⟩:=aI b
   have b8:=cG a0 (i:=0) rfl y
   refine aB (dA cR rfl b8 rfl rfl rfl y) ?_
   obtain ⟨a2,a3,b⟩:=aI b
   exact kV (i:=0) (t:=0) (ns:=[i64 l.F,i64 l.B,i64 l.To]) (e':=(⟨l.F,l.B,l.To⟩:Edge)) Tryz.sizeOf63 a0 rfl (zR _) rfl rfl rfl y a3 rfl rfl (dL rfl) rfl (fun cs h=>by cases h;rfl) (fun b9 (c0:aL G K (aN 63 K g c.length a2::L) b9)=>(aF (bG (aA (aC (aCv p (aB (cX rfl rfl) (pM (v:=i64 (wr (o+1))) (aAf ⟨(a2,wr (o+1)),(zI b).symm,q,(Eq.trans r (congrArg (fun n=>zS g n c.length) (iN a3))),rfl,c0⟩)))))))))
  ·refine aM x rfl (cB (aY (aY ?_)))
   have c1:=b4 _ (zI b).symm
   subst c1
   have d:(aBs j)=some R:=d
   exact bO (aA ⟨j,d,r,u⟩)
theorem nT {a R:dB} (hs:aL G K (L) w) (h3:bT K a1 c2 a.L) (h6:bT K a4 c5 a.E) (j:aBt a=some R):
  Calls Tryz.prog 8 ([zA (zCa a a1 c2 a4 c5)]:List Value).toArray w (fV fun v w'=>∃ (p:Option Addr) (q:Nat) (r:Option Addr) (t:Nat),v=zA (zCa R p q r t)∧aL G K (aN 9 K p q R.L::aN 63 K r t R.E::L) w'):=by
 let k:=(zC a a1 c2 a4 c5)
 let l:=zG
 let u:=[i64 a.N,i64 a.I,zS none 0 0,zS none 0 0]
 let x:=[i64 a.N,i64 0,zS none 0 0,zS none 0 0]
 refine aT Tryz.func8 rfl (by kernel_rfl) (by show (1:Nat)≤19;decide) ?_
 unfold aBt at j
 refine aAZ (dW (v:=zA (zCa a a1 c2 a4 c5)) (vs:=k) hs rfl rfl (fun m w8 a6=>(cF (vs:=l) Tryz.zeroValue29 a6 rfl (fun n c0 a7=>(aAf (aAZ (cF (vs:=l) Tryz.zeroValue29 a7 rfl (fun o c1 y=>(aAf (aAZ (aB (bB (t':=0) fa_25_0 rfl rfl) (aB (bR cP y (i:=2) rfl rfl rfl) (aB (bB (t':=0) tP rfl rfl) (cC (i:=0) (ns:=[i64 a.N]) (us:=x) Tryz.sizeOf2 y rfl rfl rfl rfl rfl (dL rfl) rfl rfl (fun a8 (z:aL G K (box o 29 x::box n 29 l::box m 25 k::L) a8)=>(aAf (aAZ (aB (bB (t':=1) fa_25_1 rfl rfl) (aB (bR cP z (i:=2) rfl rfl rfl) (aB (bB (t':=1) rM rfl rfl) (cC (i:=0) (ns:=[i64 a.I]) (us:=u) Tryz.sizeOf2 z rfl rfl rfl rfl rfl (dL rfl) rfl rfl (fun a9 (J:aL G K (box o 29 u::box n 29 l::box m 25 k::L) a9)=>(aAf ?_)))))))))))))))))))))))
 refine aAZ (aB (bB (t':=2) fa_25_2 rfl rfl) (aB (bR jJ J (i:=2) rfl rfl rfl) ?_))
 obtain ⟨d,b0,j⟩:=aI j
 refine aU (vs:=[zS a1 a.L.length c2]) Tryz.call29 rfl (aDv J h3 b0) ?_
 rintro _ c3 ⟨b,c,rfl,b1⟩
 refine aB (bB (t':=2) gL rfl rfl) (cC (i:=1) (ns:=[zS b d.length c]) (us:=[i64 a.N,i64 a.I,zS b d.length c,zS none 0 0]) Tryz.sizeOf22 b1 rfl rfl rfl rfl rfl (dL rfl) rfl rfl (fun b2 (V:aL G K (aN 9 K b c d::box o 29 [i64 a.N,i64 a.I,zS b d.length c,zS none 0 0]::box n 29 l::box m 25 k::L) b2)=>(aAf (aAZ (aB (bB (t':=3) fa_25_3 rfl rfl) (aB (bR sc_23 V (i:=3) rfl rfl rfl) ?_))))))
 obtain ⟨h,b3,j⟩:=aI j
 refine aU (vs:=[zS a4 a.E.length c5]) Tryz.call30 rfl (aIt V h6 b3) ?_
 rintro _ c4 ⟨e,g,rfl,b4⟩
 refine aB (bB (t':=3) dO rfl rfl) (cC (i:=2) (ns:=[zS e h.length g]) (us:=[i64 a.N,i64 a.I,zS b d.length c,zS e h.length g]) Tryz.sizeOf27 b4 rfl rfl rfl rfl rfl (dL rfl) rfl rfl (fun b5 (Z:aL G K (aN 63 K e g h::aN 9 K b c d::box o 29 [i64 a.N,i64 a.I,zS b d.length c,zS e h.length g]::box n 29 l::box m 25 k::L) b5)=>(aAf (aAZ (aB (dK (us:=[i64 a.N,i64 a.I,zS b d.length c,zS e h.length g]) fD Z (i:=2) rfl rfl rfl rfl) (cC (i:=3) (ns:=[i64 a.N,i64 a.I,zS b d.length c,zS e h.length g]) (us:=[i64 a.N,i64 a.I,zS b d.length c,zS e h.length g]) Tryz.sizeOf29 Z rfl rfl rfl rfl rfl (dL rfl) rfl rfl (fun b6 (a0:aL G K (aN 63 K e g h::aN 9 K b c d::box o 29 [i64 a.N,i64 a.I,zS b d.length c,zS e h.length g]::box n 29 [i64 a.N,i64 a.I,zS b d.length c,zS e h.length g]::box m 25 k::L) b6)=>(aAf ?_))))))))
 cases zI j
 exact bF (aDN Tryz.results8 (kW (vs:=[i64 a.N,i64 a.I,zS b d.length c,zS e h.length g]) rfl fD a0 (i:=3) rfl rfl rfl) ⟨b,c,e,g,rfl,(aL.arr 5 [1,0] a0 rfl)⟩)
theorem aDw {a b:(List aZ)} {R:Bool} (m:aL G K (L) w) (n:bT K a1 c2 a) (o:bT K a4 c5 b) (c:xK a b=some R):
  Calls Tryz.prog 38 ([zS a1 a.length c2,zS a4 b.length c5]:List Value).toArray w (fV fun v w'=>v=zB R∧aL G K (L) w'):=by
 refine aT Tryz.func38 rfl (by kernel_rfl) (by show (2:Nat)≤26;decide) ?_
 unfold xK at c
 refine aAZ (pM (v:=zB false) (aAf (aH (aAZ (aBl (v:=zS a1 a.length c2) (aB (bQ (len:=a.length) cY rfl) (aBl (v:=zS a4 b.length c5) (aB (bQ (len:=b.length) cY rfl) (aB (oZ rfl rfl) (aAf ?_))))))))))
 rcases aK c with ⟨i,c⟩|⟨i,c⟩
 ·refine aO i rfl (aAZ (pM (v:=zB false) (aAf ?_)))
  cases zI c
  exact bF (aS (bC Tryz.results38 rfl ⟨rfl,m⟩))
 ·refine aM i rfl (aW (aA (aH (aAZ (pM (v:=i64 0) (aAf (bD (fun f w=>yK=some R∧aL G K (L) w) ?_ ?_)))))))
  ·rintro f w9 ⟨c,z⟩
   unfold yK at c
   refine aA (aAZ (pM (v:=zB true) (aAf ?_)))
   cases zI c
   exact bF (bC Tryz.results38 rfl ⟨rfl,z⟩)
  obtain ⟨b0,V,c⟩:=aI c
  refine cD V (fun (g:Int) f w=>f 0=zS a1 a.length c2∧f 1=zS a4 b.length c5∧f 5=i64 g∧aL G K (L) w) ?_ ?_
  ·exact ⟨rfl,rfl,rfl,m⟩
  ·rintro g Z f b1 d p ⟨j,q,h,e⟩
   replace d:qI a b g=some Z:=d
   unfold qI at d
   refine aH (aAZ (aCv h (aCv j (aB (bQ (len:=a.length) cY rfl) (aB (cJ rfl rfl) (aAf ?_))))))
   rcases aK d with ⟨k,d⟩|⟨k,d⟩
   ·refine aO k rfl (aW (aA (aH (cU (aH (cT (C:=fun w'=>aL G K (L) w') bK (by kernel_rfl) (aL.mono e (dE.drew _)) (aQ (fun _ e=>aD j) (aQ (fun _ e=>aD h) ?_))))))))
    obtain ⟨b2,r,d⟩:=aI d
    refine aQ (fun _ e=>cO cY rfl n rfl rfl rfl r) ?_
    obtain ⟨b3,a0,a2⟩:=bT.el (sz:=1) rfl n r
    cases a2
    refine aQ (fun _ e=>bH (t:=0) pK e a0 rfl rfl) (aQ (fun _ e=>aD q) (aQ (fun _ e=>aD h) ?_))
    obtain ⟨b4,u,d⟩:=aI d
    refine aQ (fun _ e=>cO cY rfl o rfl rfl rfl u) ?_
    obtain ⟨b5,a3,a5⟩:=bT.el (sz:=1) rfl o u
    cases a5
    refine aQ (fun _ e=>bH (t:=0) pK e a3 rfl rfl) (aQ (fun _ e=>aEp rfl rfl) (dC (fun b6 x=>(aA ?_))))
    rcases aK d with ⟨l,d⟩|⟨l,d⟩
    ·refine aO l rfl (aAZ (pM (v:=zB false) (aAf (bF (bN (aS (aS ?_)))))))
     have a6:=p _ (zI d).symm
     subst a6
     have c:(some false)=some R:=c
     cases zI c
     exact bN (aS (aS (bC Tryz.results38 rfl ⟨rfl,x⟩)))
    ·exact aM l rfl (aW (bG (aA (aC (aCv h (aB (cX rfl rfl) (pM (v:=i64 (wr (g+1))) (aAf ⟨wr (g+1),(zI d).symm,j,q,rfl,x⟩))))))))
   ·refine aM k rfl (cB (aY (aY ?_)))
    have a8:=p _ (zI d).symm
    subst a8
    have c:(yK)=some R:=c
    exact bO (aA ⟨c,e⟩)
theorem aJJ {a b:Edge} {R:Bool} (j:aL G K (L) w) (c:aEC a b=some R):
  Calls Tryz.prog 98 ([zA #[i64 a.F,i64 a.B,i64 a.To],zA #[i64 b.F,i64 b.B,i64 b.To]]:List Value).toArray w (fV fun v w'=>v=zB R∧aL G K (L) w'):=by
 refine aT Tryz.func98 rfl (by kernel_rfl) (by show (2:Nat)≤20;decide) ?_
 unfold aEC at c
 refine aAZ (dW (v:=zA #[i64 a.F,i64 a.B,i64 a.To]) (vs:=[i64 a.F,i64 a.B,i64 a.To]) j rfl rfl (fun p q k=>(dW (v:=zA #[i64 b.F,i64 b.B,i64 b.To]) (vs:=[i64 b.F,i64 b.B,i64 b.To]) k rfl rfl (fun r t d=>(pM (v:=zB false) (aAf (aH (aAZ (aB (bB (t':=0) fY rfl rfl) (aB (bR cP d (i:=1) rfl rfl rfl) (aB (bB (t':=0) fY rfl rfl) (aB (bR cP d (i:=0) rfl rfl rfl) (aB (oZ rfl rfl) (aAf ?_))))))))))))))
 rcases aK c with ⟨e,c⟩|⟨e,c⟩
 ·refine aO e rfl (aAZ (pM (v:=zB false) (aAf ?_)))
  cases zI c
  exact bF (aS (bC Tryz.results98 rfl ⟨rfl,(aL.arr 2 [] d rfl)⟩))
 ·refine aM e rfl (aW (aA (aH (aAZ (aB (bB (t':=1) fP rfl rfl) (aB (bR cP d (i:=1) rfl rfl rfl) (aB (bB (t':=1) fP rfl rfl) (aB (bR cP d (i:=0) rfl rfl rfl) (aB (oZ rfl rfl) (aAf ?_))))))))))
  rcases aK c with ⟨g,c⟩|⟨g,c⟩
  ·refine aO g rfl (aAZ (pM (v:=zB false) (aAf ?_)))
   cases zI c
   exact bF (aS (bC Tryz.results98 rfl ⟨rfl,(aL.arr 2 [] d rfl)⟩))
  ·refine aM g rfl (aW (aA (aH (aAZ (aB (bB (t':=2) iB rfl rfl) (aB (bR cP d (i:=1) rfl rfl rfl) (aB (bB (t':=2) iB rfl rfl) (aB (bR cP d (i:=0) rfl rfl rfl) (aB (oZ rfl rfl) (aAf ?_))))))))))
   rcases aK c with ⟨h,c⟩|⟨h,c⟩
   ·refine aO h rfl (aAZ (pM (v:=zB false) (aAf ?_)))
    cases zI c
    exact bF (aS (bC Tryz.results98 rfl ⟨rfl,(aL.arr 2 [] d rfl)⟩))
   ·refine aM h rfl (aW (aA (aAZ (pM (v:=zB true) (aAf ?_)))))
    cases zI c
    exact bF (bC Tryz.results98 rfl ⟨rfl,(aL.arr 2 [] d rfl)⟩)
theorem aIu {a b:(List Edge)} {R:Bool} (o:aL G K (L) w) (p:bT K a1 c2 a) (q:bT K a4 c5 b) (d:aDi a b=some R):
  Calls Tryz.prog 39 ([zS a1 a.length c2,zS a4 b.length c5]:List Value).toArray w (fV fun v w'=>v=zB R∧aL G K (L) w'):=by
 refine aT Tryz.func39 rfl (by kernel_rfl) (by show (2:Nat)≤27;decide) ?_
 unfold aDi at d
 refine aAZ (pM (v:=zB false) (aAf (aH (aAZ (aBl (v:=zS a1 a.length c2) (aB (bQ (len:=a.length) cR rfl) (aBl (v:=zS a4 b.length c5) (aB (bQ (len:=b.length) cR rfl) (aB (oZ rfl rfl) (aAf ?_))))))))))
 rcases aK d with ⟨k,d⟩|⟨k,d⟩
 ·refine aO k rfl (aAZ (pM (v:=zB false) (aAf ?_)))
  cases zI d
  exact bF (aS (bC Tryz.results39 rfl ⟨rfl,o⟩))
 ·refine aM k rfl (aW (aA (aH (aAZ (pM (v:=i64 0) (aAf (bD (fun f w=>aBu=some R∧aL G K (L) w) ?_ ?_)))))))
  ·rintro f w9 ⟨d,V⟩
   unfold aBu at d
   refine aA (aAZ (pM (v:=zB true) (aAf ?_)))
   cases zI d
   exact bF (bC Tryz.results39 rfl ⟨rfl,V⟩)
  obtain ⟨b4,a0,d⟩:=aI d
  refine cD a0 (fun (i:Int) f w=>f 0=zS a1 a.length c2∧f 1=zS a4 b.length c5∧f 5=i64 i∧aL G K (L) w) ?_ ?_
  ·exact ⟨rfl,rfl,rfl,o⟩
  ·rintro i a2 f b5 c r ⟨l,u,j,e⟩
   replace c:vA a b i=some a2:=c
   unfold vA at c
   refine aH (aAZ (aCv j (aCv l (aB (bQ (len:=a.length) cR rfl) (aB (cJ rfl rfl) (aAf ?_))))))
   rcases aK c with ⟨m,c⟩|⟨m,c⟩
   ·refine aO m rfl (aW (aA (aH (cU (aH (cT (C:=fun w'=>aL G K (L) w') bK (by kernel_rfl) (aL.mono e (dE.drew _)) (aQ (fun _ e=>aD l) (aQ (fun _ e=>aD j) ?_))))))))
    obtain ⟨g,x,c⟩:=aI c
    refine aQ (fun _ e=>cO cR rfl p rfl rfl rfl x) ?_
    obtain ⟨b6,a3,a5⟩:=bT.el (sz:=3) rfl p x
    cases a5
    refine aQ (fun _ e=>gO (t:=0) (vs:=[i64 g.F,i64 g.B,i64 g.To]) mB e a3 rfl rfl rfl) (aQ (fun _ e=>aD u) (aQ (fun _ e=>aD j) ?_))
    obtain ⟨h,y,c⟩:=aI c
    refine aQ (fun _ e=>cO cR rfl q rfl rfl rfl y) ?_
    obtain ⟨b7,a6,a7⟩:=bT.el (sz:=3) rfl q y
    cases a7
    refine aQ (fun _ e=>gO (t:=0) (vs:=[i64 h.F,i64 h.B,i64 h.To]) mB e a6 rfl rfl rfl) ?_
    obtain ⟨a8,a9,c⟩:=aI c
    refine iR (vs:=[zA #[i64 g.F,i64 g.B,i64 g.To],zA #[i64 h.F,i64 h.B,i64 h.To]]) (v:=zB a8) Tryz.call98 rfl (fun _ e=>(aJJ e a9)) (aQ (fun _ e=>dY rfl) (dC (fun b8 z=>(aA ?_))))
    rcases aK c with ⟨n,c⟩|⟨n,c⟩
    ·refine aO n rfl (aAZ (pM (v:=zB false) (aAf (bF (bN (aS (aS ?_)))))))
     have b0:=r _ (zI c).symm
     subst b0
     have d:(some false)=some R:=d
     cases zI d
     exact bN (aS (aS (bC Tryz.results39 rfl ⟨rfl,z⟩)))
    ·exact aM n rfl (aW (bG (aA (aC (aCv j (aB (cX rfl rfl) (pM (v:=i64 (wr (i+1))) (aAf ⟨wr (i+1),(zI c).symm,l,u,rfl,z⟩))))))))
   ·refine aM m rfl (cB (aY (aY ?_)))
    have b2:=r _ (zI c).symm
    subst b2
    have d:(aBu)=some R:=d
    exact bO (aA ⟨d,e⟩)
theorem zX {a b:dB} {R:Bool} (m:aL G K (L) w) (n:bT K a1 c2 a.L) (o:bT K a4 c5 a.E) (p:bT K a7 c8 b.L) (q:bT K a10 c11 b.E) (c:aBv a b=some R):
  Calls Tryz.prog 10 ([zA (zCa a a1 c2 a4 c5),zA (zCa b a7 c8 a10 c11)]:List Value).toArray w (fV fun v w'=>v=zB R∧aL G K (L) w'):=by
 refine aT Tryz.func10 rfl (by kernel_rfl) (by show (2:Nat)≤27;decide) ?_
 unfold aBv at c
 refine aAZ (dW (v:=zA (zCa a a1 c2 a4 c5)) (vs:=(zC a a1 c2 a4 c5)) m rfl rfl (fun Z a0 r=>(dW (v:=zA (zCa b a7 c8 a10 c11)) (vs:=(zC b a7 c8 a10 c11)) r rfl rfl (fun a2 a3 d=>(pM (v:=zB false) (aAf (aH (aAZ (aB (bB (t':=0) tP rfl rfl) (aB (bR cP d (i:=1) rfl rfl rfl) (aB (bB (t':=0) tP rfl rfl) (aB (bR cP d (i:=0) rfl rfl rfl) (aB (oZ rfl rfl) (aAf ?_))))))))))))))
 rcases aK c with ⟨g,c⟩|⟨g,c⟩
 ·refine aO g rfl (aAZ (pM (v:=zB false) (aAf ?_)))
  cases zI c
  exact bF (aS (bC Tryz.results10 rfl ⟨rfl,(aL.arr 2 [] d rfl)⟩))
 ·refine aM g rfl (aW (aA (aH (aAZ (aB (bB (t':=1) rM rfl rfl) (aB (bR cP d (i:=1) rfl rfl rfl) (aB (bB (t':=1) rM rfl rfl) (aB (bR cP d (i:=0) rfl rfl rfl) (aB (oZ rfl rfl) (aAf ?_))))))))))
  rcases aK c with ⟨h,c⟩|⟨h,c⟩
  ·refine aO h rfl (aAZ (pM (v:=zB false) (aAf ?_)))
   cases zI c
   exact bF (aS (bC Tryz.results10 rfl ⟨rfl,(aL.arr 2 [] d rfl)⟩))
  ·refine aM h rfl (aW (aA (aH (aAZ (aB (bB (t':=2) gL rfl rfl) (aB (bR jJ d (i:=1) rfl rfl rfl) (aB (bB (t':=2) gL rfl rfl) (aB (bR jJ d (i:=0) rfl rfl rfl) ?_))))))))
   obtain ⟨a5,x,c⟩:=aI c
   refine aU (vs:=[zS a1 a.L.length c2,zS a7 b.L.length c8]) Tryz.call38 rfl (aDw d n p x) ?_
   rintro _ a6 ⟨rfl,e⟩
   refine aB (dY rfl) (aAf ?_)
   rcases aK c with ⟨j,c⟩|⟨j,c⟩
   ·refine aO j rfl (aAZ (pM (v:=zB false) (aAf ?_)))
    cases zI c
    exact bF (aS (bC Tryz.results10 rfl ⟨rfl,(aL.arr 2 [] e rfl)⟩))
   ·refine aM j rfl (aW (aA (aH (aAZ (aB (bB (t':=3) dO rfl rfl) (aB (bR hX e (i:=1) rfl rfl rfl) (aB (bB (t':=3) dO rfl rfl) (aB (bR hX e (i:=0) rfl rfl rfl) ?_))))))))
    obtain ⟨a8,z,c⟩:=aI c
    refine aU (vs:=[zS a4 a.E.length c5,zS a10 b.E.length c11]) Tryz.call39 rfl (aIu e o q z) ?_
    rintro _ a9 ⟨rfl,l⟩
    refine aB (dY rfl) (aAf ?_)
    rcases aK c with ⟨k,c⟩|⟨k,c⟩
    ·refine aO k rfl (aAZ (pM (v:=zB false) (aAf ?_)))
     cases zI c
     exact bF (aS (bC Tryz.results10 rfl ⟨rfl,(aL.arr 2 [] l rfl)⟩))
    ·refine aM k rfl (aW (aA (aAZ (pM (v:=zB true) (aAf ?_)))))
     cases zI c
     exact bF (bC Tryz.results10 rfl ⟨rfl,(aL.arr 2 [] l rfl)⟩)
theorem aEd {k:Int} {R:aZ} (m:aL G K (L) w) (a:tZ k=some R):
  Calls Tryz.prog 99 ([i64 k]:List Value).toArray w (fV fun v w'=>v=cL R∧aL G K (L) w'):=by
 refine aT Tryz.func99 rfl (by kernel_rfl) (by show (1:Nat)≤20;decide) ?_
 unfold tZ at a
 refine aAZ (pM (v:=cL ([]:aZ)) (aAf (aH (aAZ (aBl (v:=i64 k) (aB (aEo rfl rfl) (aAf ?_)))))))
 rcases aK a with ⟨e,a⟩|⟨e,a⟩
 ·refine aO e rfl (aAZ (pM (v:=cL ([109,48]:aZ)) (aAf ?_)))
  cases zI a
  exact bF (aS (bC Tryz.results99 rfl ⟨rfl,m⟩))
 ·refine aM e rfl (aW (aA (aAZ (pM (v:=cL ([]:aZ)) (aAf (aH (bD (fun f w=>∃ (g:aZ),vZ g=some R∧f 3=cL g∧aL G K (L) w) ?_ ?_)))))))
  ·rintro f w5 ⟨g,a,u,x⟩
   unfold vZ at a
   refine aA (aAZ (aCv u ?_))
   obtain ⟨y,z,a⟩:=aI a
   refine aB (R_cat rfl rfl z) (pM (v:=cL y) (aAf ?_))
   cases zI a
   exact bF (bC Tryz.results99 rfl ⟨rfl,x⟩)
  obtain ⟨a8,V,a⟩:=aI a
  refine cD V (fun (s:(Int × aZ)) f w=>match s with|(h,c)=>f 0=i64 h∧f 3=cL c∧aL G K (L) w) ?_ ?_
  ·exact ⟨rfl,rfl,m⟩
  ·rintro ⟨h,c⟩ Z f a9 b a0 ⟨j,n,o⟩
   replace b:wA h c=some Z:=b
   unfold wA at b
   refine aH (aAZ (aCv j (aB (mL rfl rfl) (aAf ?_))))
   rcases aK b with ⟨l,b⟩|⟨l,b⟩
   ·refine aO l rfl (aW (aA (cU (aAZ (aCv j ?_)))))
    obtain ⟨d,a1,b⟩:=aI b
    refine aB (R_rem rfl rfl a1) (aB (cX rfl rfl) (aB (R_convu8' Tryz.runUnderlying5 rfl ⟨_,Tryz.runUnderlying3⟩) (dM (Kt:=K) (xs:=([(UInt8.ofInt (wr (48+d)))]:List UInt8)) (cs:=[Value.int .u8 ((UInt8.ofInt (wr (48+d))).toNat:Int)]) (vs:=[(0,Value.int .u8 ((UInt8.ofInt (wr (48+d))).toNat:Int))]) sl_202 ez_5 rfl rfl o rfl (by kernel_rfl) rfl rfl rfl ⟨rfl,trivial⟩ ?_)))
    intro a2 a3 (p:aL G K (aN 5 K a2 1 ([(UInt8.ofInt (wr (48+d)))]:List UInt8)::L) a3)
    refine aB (R_convBSO Tryz.underlying202 Tryz.underlying5 Tryz.underlying9 p (i:=0) rfl rfl rfl) (aCv n ?_)
    obtain ⟨q,a4,b⟩:=aI b
    refine aB (R_cat rfl rfl a4) (pM (v:=cL q) (aAf (aC (aCv j ?_))))
    obtain ⟨r,a5,b⟩:=aI b
    exact aB (R_quo rfl rfl a5) (pM (v:=i64 r) (aF (bG (aA ⟨(r,q),(zI b).symm,rfl,rfl,(aL.arr 1 [] p rfl)⟩))))
   ·refine aM l rfl (cB (aY (aY ?_)))
    have a6:=a0 _ (zI b).symm
    subst a6
    have a:(vZ c)=some R:=a
    exact bO (aA ⟨c,a,n,o⟩)
theorem aCo {a:(List aZ)} {k:Int} {R:(Int × (List aZ))} (V:aL G K (aN 9 K a1 c2 a::L) w) (c:sX a k=some R):
  Calls Tryz.prog 40 ([zS a1 a.length c2,i64 k]:List Value).toArray w (fV fun v w'=>v=i64 R.1∧a.length=R.2.length∧aL G K (aN 9 K a1 c2 R.2::L) w'):=by
 refine aT Tryz.func40 rfl (by kernel_rfl) (by show (2:Nat)≤20;decide) ?_
 unfold sX at c
 refine aAZ (pM (v:=i64 0) (aAf (aH (aAZ (pM (v:=i64 0) (aAf (bD (fun f w=>∃ (j:Int) (l:List aZ),qJ j l=some R∧f 1=i64 j∧a.length=l.length∧aL G K (aN 9 K a1 c2 l::L) w) ?_ ?_)))))))
 ·rintro f w7 ⟨j,l,c,Z,a0,a2⟩
  unfold qJ at c
  refine aA (aAZ (aCv Z (pM (v:=i64 j) (aAf ?_))))
  cases zI c
  exact bF (bC Tryz.results40 rfl ⟨rfl,a0,a2⟩)
 obtain ⟨b4,a5,c⟩:=aI c
 refine cD a5 (fun (s:(List aZ × Int × Int)) f w=>match s with|(d,e,g)=>f 0=zS a1 d.length c2∧f 1=i64 e∧f 5=i64 g∧a.length=d.length∧aL G K (aN 9 K a1 c2 d::L) w) ?_ ?_
 ·exact ⟨rfl,rfl,rfl,rfl,V⟩
 ·rintro ⟨d,e,g⟩ a6 f b5 b a7 ⟨m,o,p,u,x⟩
  replace b:qK d e g=some a6:=b
  unfold qK at b
  refine aH (aAZ (aCv p (aCv m (aB (bQ (len:=d.length) cY rfl) (aB (cJ rfl rfl) (aAf ?_))))))
  rcases aK b with ⟨c45,b⟩|⟨c45,b⟩
  ·refine aO c45 rfl (aW (aA (aH (cU (aAZ (aCv m (aCv p (aCv o ?_))))))))
   obtain ⟨y,a8,b⟩:=aI b
   refine aU (vs:=[i64 e]) Tryz.call99 rfl (aEd x a8) ?_
   rintro _ b6 ⟨rfl,z⟩
   obtain ⟨b7,q,b⟩:=aI b
   have a9:=cG z (i:=0) rfl q
   refine aB (dA cY rfl a9 rfl rfl rfl q) ?_
   obtain ⟨J,r,b⟩:=aI b
   exact kV (i:=0) (t:=0) (ns:=[cL y]) (e':=(y:aZ)) Tryz.sizeOf9 z rfl (zR _) rfl rfl rfl q r rfl rfl (dL rfl) rfl (fun cs h=>by cases h;rfl) (fun b0 (b1:aL G K (aN 9 K a1 c2 J::L) b0)=>(aAf (aC (aCv o (aB (cX rfl rfl) (pM (v:=i64 (wr (e+1))) (aF (bG (aA (aC (aCv p (aB (cX rfl rfl) (pM (v:=i64 (wr (g+1))) (aAf ⟨(J,wr (e+1),wr (g+1)),(zI b).symm,(Eq.trans m (congrArg (fun n=>zS a1 n c2) (iN r))),rfl,rfl,(u.trans (iN r)),b1⟩))))))))))))))
  ·refine aM c45 rfl (cB (aY (aY ?_)))
   have b2:=a7 _ (zI b).symm
   subst b2
   have c:(qJ e d)=some R:=c
   exact bO (aA ⟨e,d,c,o,u,x⟩)
theorem aGK {a:(List Edge)} {k:Int} {R:(Int × (List Edge))} (hs:aL G K (aN 63 K a1 c2 a::L) w) (d:aAN a k=some R):
  Calls Tryz.prog 41 ([zS a1 a.length c2,i64 k]:List Value).toArray w (fV fun v w'=>v=i64 R.1∧a.length=R.2.length∧aL G K (aN 63 K a1 c2 R.2::L) w'):=by
 refine aT Tryz.func41 rfl (by kernel_rfl) (by show (2:Nat)≤34;decide) ?_
 unfold aAN at d
 refine aAZ (pM (v:=i64 0) (aAf (aH (aAZ (pM (v:=i64 0) (aAf (bD (fun f w=>∃ (p:Int) (q:List Edge),uA p q=some R∧f 1=i64 p∧a.length=q.length∧aL G K (aN 63 K a1 c2 q::L) w) ?_ ?_)))))))
 ·rintro f w7 ⟨p,q,d,e6,b0,b1⟩
  unfold uA at d
  refine aA (aAZ (aCv e6 (pM (v:=i64 p) (aAf ?_))))
  cases zI d
  exact bF (bC Tryz.results41 rfl ⟨rfl,b0,b1⟩)
 obtain ⟨c5,b3,d⟩:=aI d
 refine cD b3 (fun (s:(List Edge × Int × Int)) f w=>match s with|(e,c,g)=>f 0=zS a1 e.length c2∧f 1=i64 c∧f 5=i64 g∧a.length=e.length∧aL G K (aN 63 K a1 c2 e::L) w) ?_ ?_
 ·exact ⟨rfl,rfl,rfl,rfl,hs⟩
 ·rintro ⟨e,c,g⟩ b4 f c6 b b5 ⟨l,u,m,J,x⟩
  replace b:uB e c g=some b4:=b
  unfold uB at b
  refine aH (aAZ (aCv m (aCv l (aB (bQ (len:=e.length) cR rfl) (aB (cJ rfl rfl) (aAf ?_))))))
  rcases aK b with ⟨c45,b⟩|⟨c45,b⟩
  ·refine aO c45 rfl (aW (aA (aH (cU (aAZ (aCv l (aCv m (aCv u ?_))))))))
   obtain ⟨V,y,b⟩:=aI b
   have j:=cG x (i:=0) rfl y
   refine aB (dA cR rfl j rfl rfl rfl y) (aB (aEx (k':=g.toNat * 3+0) fY j rfl rfl) ?_)
   obtain ⟨Z,o,b⟩:=aI b
   refine kV (i:=0) (t:=0) (ns:=[i64 c]) (e':=(⟨c,V.B,V.To⟩:Edge)) Tryz.sizeOf2 x rfl (zR _) rfl rfl rfl y o rfl rfl (dL rfl) rfl (fun cs h=>by cases h;rfl) (fun b6 (b7:aL G K (aN 63 K a1 c2 Z::L) b6)=>(aAf (aAZ (aCv u (aB (cX rfl rfl) (pM (v:=i64 (wr (c+1))) (aAf (aAZ (aCv (v:=zS a1 Z.length c2) (Eq.trans l (congrArg (fun n=>zS a1 n c2) (iN o))) (aCv m (aBl (v:=i64 (wr (c+1))) ?_)))))))))))
   obtain ⟨a0,a2,b⟩:=aI b
   refine aB (dA cR rfl j rfl rfl rfl a2) (aB (aEx (k':=g.toNat * 3+1) fP j rfl rfl) ?_)
   obtain ⟨a3,r,b⟩:=aI b
   refine kV (i:=0) (t:=1) (ns:=[i64 (wr (c+1))]) (e':=(⟨a0.F,wr (c+1),a0.To⟩:Edge)) Tryz.sizeOf2 b7 rfl (zR _) rfl rfl rfl a2 r rfl rfl (dL rfl) rfl (fun cs h=>by cases h;rfl) (fun b8 (b9:aL G K (aN 63 K a1 c2 a3::L) b8)=>(aAf (aAZ (aBl (v:=i64 (wr (c+1))) (aB (cX rfl rfl) (pM (v:=i64 (wr ((wr (c+1))+1))) (aAf (aAZ (aCv (v:=zS a1 a3.length c2) (Eq.trans (Eq.trans l (congrArg (fun n=>zS a1 n c2) (iN o))) (congrArg (fun n=>zS a1 n c2) (iN r))) (aCv m (aBl (v:=i64 (wr ((wr (c+1))+1))) ?_)))))))))))
   obtain ⟨a5,a6,b⟩:=aI b
   refine aB (dA cR rfl j rfl rfl rfl a6) (aB (aEx (k':=g.toNat * 3+2) iB j rfl rfl) ?_)
   obtain ⟨a7,z,b⟩:=aI b
   exact kV (i:=0) (t:=2) (ns:=[i64 (wr ((wr (c+1))+1))]) (e':=(⟨a5.F,a5.B,wr ((wr (c+1))+1)⟩:Edge)) Tryz.sizeOf2 b9 rfl (zR _) rfl rfl rfl a6 z rfl rfl (dL rfl) rfl (fun cs h=>by cases h;rfl) (fun c0 (c1:aL G K (aN 63 K a1 c2 a7::L) c0)=>(aAf (aC (aBl (v:=i64 (wr ((wr (c+1))+1))) (aB (cX rfl rfl) (pM (v:=i64 (wr ((wr ((wr (c+1))+1))+1))) (aF (bG (aA (aC (aCv m (aB (cX rfl rfl) (pM (v:=i64 (wr (g+1))) (aAf ⟨(a7,wr ((wr ((wr (c+1))+1))+1),wr (g+1)),(zI b).symm,(Eq.trans (Eq.trans (Eq.trans l (congrArg (fun n=>zS a1 n c2) (iN o))) (congrArg (fun n=>zS a1 n c2) (iN r))) (congrArg (fun n=>zS a1 n c2) (iN z))),rfl,rfl,(((J.trans (iN o)).trans (iN r)).trans (iN z)),c1⟩))))))))))))))
  ·refine aM c45 rfl (cB (aY (aY ?_)))
   have c3:=b5 _ (zI b).symm
   subst c3
   have d:(uA c e)=some R:=d
   exact bO (aA ⟨c,e,d,u,J,x⟩)
theorem aCp {d e:Int} {c:(List aZ)} {a:(List Edge)} {k:Int} {R:(Int × (List aZ) × (List Edge))} (r:aL G K (aN 9 K a1 c2 c::aN 63 K a3 c4 a::L) w) (g:xL d e c a k=some R):
  Calls Tryz.prog 11 ([zA #[i64 d,i64 e,zS a1 c.length c2,zS a3 a.length c4],i64 k]:List Value).toArray w (fV fun v w'=>v=i64 R.1∧c.length=R.2.1.length∧a.length=R.2.2.length∧aL G K (aN 9 K a1 c2 R.2.1::aN 63 K a3 c4 R.2.2::L) w'):=by
 let l:=[i64 d,i64 e,zS a1 c.length c2,zS a3 a.length c4]
 refine aT Tryz.func11 rfl (by kernel_rfl) (by show (2:Nat)≤14;decide) ?_
 unfold xL at g
 refine aAZ (dW (v:=zA #[i64 d,i64 e,zS a1 c.length c2,zS a3 a.length c4]) (vs:=l) r rfl rfl (fun j t m=>(pM (v:=i64 0) (aAf (aAZ (aB (bB (t':=2) gL rfl rfl) (aB (bR jJ m (i:=0) rfl rfl rfl) (aBl (v:=i64 k) ?_))))))))
 have u:aL G K (aN 9 K a1 c2 c::box j 29 l::aN 63 K a3 c4 a::L) t:=(aL.arr 2 [1,0] m rfl)
 obtain ⟨b,x,g⟩:=aI g
 refine aU (vs:=[zS a1 c.length c2,i64 k]) Tryz.call40 rfl (aCo u x) ?_
 rintro _ n ⟨rfl,o,y⟩
 have p:aL G K (aN 9 K a1 c2 b.2::box j 29 [i64 d,i64 e,zS a1 b.2.length c2,zS a3 a.length c4]::aN 63 K a3 c4 a::L) n:=by rw [←o];exact y
 refine pM (v:=i64 b.1) (aAf (aAZ (aB (bB (t':=3) dO rfl rfl) (aB (bR hX p (i:=1) rfl rfl rfl) (aBl (v:=i64 b.1) ?_)))))
 have z:aL G K (aN 63 K a3 c4 a::aN 9 K a1 c2 b.2::box j 29 [i64 d,i64 e,zS a1 b.2.length c2,zS a3 a.length c4]::L) n:=(aL.arr 3 [2,0,1] p rfl)
 obtain ⟨h,J,g⟩:=aI g
 refine aU (vs:=[zS a3 a.length c4,i64 b.1]) Tryz.call41 rfl (aGK z J) ?_
 rintro _ V ⟨rfl,q,Z⟩
 have a0:aL G K (aN 63 K a3 c4 h.2::aN 9 K a1 c2 b.2::box j 29 [i64 d,i64 e,zS a1 b.2.length c2,zS a3 h.2.length c4]::L) V:=by rw [←q];exact Z
 refine pM (v:=i64 h.1) (aAf (aAZ (aBl (v:=i64 h.1) (pM (v:=i64 h.1) (aAf ?_)))))
 cases zI g
 exact bF (bC Tryz.results11 rfl ⟨rfl,o,q,(aL.arr 3 [1,0] a0 rfl)⟩)
theorem aFN {a:(List aZ)} {k R:Int} (u:aL G K (L) w) (o:bT K a1 c2 a) (c:wB a k=some R):
  Calls Tryz.prog 42 ([zS a1 a.length c2,i64 k]:List Value).toArray w (fV fun v w'=>v=i64 R∧aL G K (L) w'):=by
 refine aT Tryz.func42 rfl (by kernel_rfl) (by show (2:Nat)≤22;decide) ?_
 unfold wB at c
 refine aAZ (pM (v:=i64 0) (aAf (aH (aAZ (pM (v:=i64 0) (aAf (bD (fun f w=>∃ (h:Int),vB h=some R∧f 1=i64 h∧aL G K (L) w) ?_ ?_)))))))
 ·rintro f w6 ⟨h,c,x,y⟩
  unfold vB at c
  refine aA (aAZ (aCv x (pM (v:=i64 h) (aAf ?_))))
  cases zI c
  exact bF (bC Tryz.results42 rfl ⟨rfl,y⟩)
 obtain ⟨a8,J,c⟩:=aI c
 refine cD J (fun (s:(Int × Int)) f w=>match s with|(e,g)=>f 0=zS a1 a.length c2∧f 1=i64 e∧f 5=i64 g∧aL G K (L) w) ?_ ?_
 ·exact ⟨rfl,rfl,rfl,u⟩
 ·rintro ⟨e,g⟩ V f a9 b p ⟨i,j,l,d⟩
  replace b:oA a e g=some V:=b
  unfold oA at b
  refine aH (aAZ (aCv l (aCv i (aB (bQ (len:=a.length) cY rfl) (aB (cJ rfl rfl) (aAf ?_))))))
  rcases aK b with ⟨m,b⟩|⟨m,b⟩
  ·refine aO m rfl (aW (aA (aH (cU (aH (aH (cT (C:=fun w'=>aL G K (L) w') bK (by kernel_rfl) (aL.mono d (dE.drew _)) (aQ (fun _ d=>aD i) (aQ (fun _ d=>aD l) ?_)))))))))
   obtain ⟨b0,q,b⟩:=aI b
   refine aQ (fun _ d=>cO cY rfl o rfl rfl rfl q) ?_
   obtain ⟨b1,Z,a0⟩:=bT.el (sz:=1) rfl o q
   cases a0
   refine aQ (fun _ d=>bH (t:=0) pK d Z rfl rfl) (aQ (fun _ d=>aD j) ?_)
   obtain ⟨a2,a3,b⟩:=aI b
   refine iR (vs:=[i64 e]) (v:=cL a2) Tryz.call99 rfl (fun _ d=>(aEd d a3)) (aQ (fun _ d=>aEp rfl rfl) (dC (fun b2 r=>(aA ?_))))
   rcases aK b with ⟨n,b⟩|⟨n,b⟩
   ·refine aO n rfl (aAZ (pM (v:=i64 (-1)) (aAf (bF (aS (bN (aS (aS ?_))))))))
    have a4:=p _ (zI b).symm
    subst a4
    have c:(some (-1))=some R:=c
    cases zI c
    exact bN (aS (aS (bC Tryz.results42 rfl ⟨rfl,r⟩)))
   ·exact aM n rfl (aW (aA (aC (aCv j (aB (cX rfl rfl) (pM (v:=i64 (wr (e+1))) (aF (bG (aA (aC (aCv l (aB (cX rfl rfl) (pM (v:=i64 (wr (g+1))) (aAf ⟨(wr (e+1),wr (g+1)),(zI b).symm,i,rfl,rfl,r⟩))))))))))))))
  ·refine aM m rfl (cB (aY (aY ?_)))
   have a6:=p _ (zI b).symm
   subst a6
   have c:(vB e)=some R:=c
   exact bO (aA ⟨e,c,j,d⟩)
theorem aGL {a:(List Edge)} {k R:Int} (y:aL G K (L) w) (l:bT K a1 c2 a) (c:aAO a k=some R):
  Calls Tryz.prog 43 ([zS a1 a.length c2,i64 k]:List Value).toArray w (fV fun v w'=>v=i64 R∧aL G K (L) w'):=by
 refine aT Tryz.func43 rfl (by kernel_rfl) (by show (2:Nat)≤40;decide) ?_
 unfold aAO at c
 refine aAZ (pM (v:=i64 0) (aAf (aH (aAZ (pM (v:=i64 0) (aAf (bD (fun f w=>∃ (m:Int),yL m=some R∧f 1=i64 m∧aL G K (L) w) ?_ ?_)))))))
 ·rintro f w6 ⟨m,c,z,J⟩
  unfold yL at c
  refine aA (aAZ (aCv z (pM (v:=i64 m) (aAf ?_))))
  cases zI c
  exact bF (bC Tryz.results43 rfl ⟨rfl,J⟩)
 obtain ⟨b1,Z,c⟩:=aI c
 refine cD Z (fun (s:(Int × Int)) f w=>match s with|(d,e)=>f 0=zS a1 a.length c2∧f 1=i64 d∧f 5=i64 e∧aL G K (L) w) ?_ ?_
 ·exact ⟨rfl,rfl,rfl,y⟩
 ·rintro ⟨d,e⟩ a0 f b2 b n ⟨i,p,j,g⟩
  replace b:qL a d e=some a0:=b
  unfold qL at b
  refine aH (aAZ (aCv j (aCv i (aB (bQ (len:=a.length) cR rfl) (aB (cJ rfl rfl) (aAf ?_))))))
  rcases aK b with ⟨q,b⟩|⟨q,b⟩
  ·refine aO q rfl (aW (aA (aH (cU (aH (aAZ (aCv i (aCv j ?_))))))))
   obtain ⟨b3,o,b⟩:=aI b
   refine aB (cO cR rfl l rfl rfl rfl o) ?_
   obtain ⟨b4,h,a2⟩:=bT.el (sz:=3) rfl l o
   cases a2
   refine aB (cH (k':=e.toNat * 3+0) fY rfl h rfl) (aB (bH (t:=0) cP g h rfl rfl) (aCv p (aB (oZ rfl rfl) (aAf ?_))))
   rcases aK b with ⟨r,b⟩|⟨r,b⟩
   ·refine aO r rfl (aAZ (pM (v:=i64 (-1)) (aAf (bF (aS (bN (aS (aS ?_))))))))
    have a3:=n _ (zI b).symm
    subst a3
    have c:(some (-1))=some R:=c
    cases zI c
    exact bN (aS (aS (bC Tryz.results43 rfl ⟨rfl,g⟩)))
   ·refine aM r rfl (aW (aA (aAZ (aCv p (aB (cX rfl rfl) (pM (v:=i64 (wr (d+1))) (aAf (aH (aAZ (aCv i (aCv j (aB (cO cR rfl l rfl rfl rfl o) (aB (cH (k':=e.toNat * 3+1) fP rfl h rfl) (aB (bH (t:=1) cP g h rfl rfl) (aBl (v:=i64 (wr (d+1))) (aB (oZ rfl rfl) (aAf ?_)))))))))))))))))
    rcases aK b with ⟨u,b⟩|⟨u,b⟩
    ·refine aO u rfl (aAZ (pM (v:=i64 (-1)) (aAf (bF (aS (bN (aS (aS ?_))))))))
     have a5:=n _ (zI b).symm
     subst a5
     have c:(some (-1))=some R:=c
     cases zI c
     exact bN (aS (aS (bC Tryz.results43 rfl ⟨rfl,g⟩)))
    ·refine aM u rfl (aW (aA (aAZ (aBl (v:=i64 (wr (d+1))) (aB (cX rfl rfl) (pM (v:=i64 (wr ((wr (d+1))+1))) (aAf (aH (aAZ (aCv i (aCv j (aB (cO cR rfl l rfl rfl rfl o) (aB (cH (k':=e.toNat * 3+2) iB rfl h rfl) (aB (bH (t:=2) cP g h rfl rfl) (aBl (v:=i64 (wr ((wr (d+1))+1))) (aB (oZ rfl rfl) (aAf ?_)))))))))))))))))
     rcases aK b with ⟨x,b⟩|⟨x,b⟩
     ·refine aO x rfl (aAZ (pM (v:=i64 (-1)) (aAf (bF (aS (bN (aS (aS ?_))))))))
      have a7:=n _ (zI b).symm
      subst a7
      have c:(some (-1))=some R:=c
      cases zI c
      exact bN (aS (aS (bC Tryz.results43 rfl ⟨rfl,g⟩)))
     ·exact aM x rfl (aW (aA (aC (aBl (v:=i64 (wr ((wr (d+1))+1))) (aB (cX rfl rfl) (pM (v:=i64 (wr ((wr ((wr (d+1))+1))+1))) (aF (bG (aA (aC (aCv j (aB (cX rfl rfl) (pM (v:=i64 (wr (e+1))) (aAf ⟨(wr ((wr ((wr (d+1))+1))+1),wr (e+1)),(zI b).symm,i,rfl,rfl,g⟩))))))))))))))
  ·refine aM q rfl (cB (aY (aY ?_)))
   have a9:=n _ (zI b).symm
   subst a9
   have c:(yL d)=some R:=c
   exact bO (aA ⟨d,c,p,g⟩)
theorem aEH {a:dB} {k R:Int} (m:aL G K (L) w) (n:bT K a1 c2 a.L) (o:bT K a4 c5 a.E) (b:aBH a k=some R):
  Calls Tryz.prog 12 ([zA (zCa a a1 c2 a4 c5),i64 k]:List Value).toArray w (fV fun v w'=>v=i64 R∧aL G K (L) w'):=by
 refine aT Tryz.func12 rfl (by kernel_rfl) (by show (2:Nat)≤18;decide) ?_
 unfold aBH at b
 refine aAZ (dW (v:=zA (zCa a a1 c2 a4 c5)) (vs:=(zC a a1 c2 a4 c5)) m rfl rfl (fun x y j=>(pM (v:=i64 0) (aAf (aAZ (aB (bB (t':=2) gL rfl rfl) (aB (bR jJ j (i:=0) rfl rfl rfl) (aBl (v:=i64 k) ?_))))))))
 obtain ⟨c,p,b⟩:=aI b
 refine aU (vs:=[zS a1 a.L.length c2,i64 k]) Tryz.call42 rfl (aFN j n p) ?_
 rintro _ z ⟨rfl,e⟩
 refine pM (v:=i64 c) (aAf (aH (aAZ (aBl (v:=i64 c) (aB (cJ rfl rfl) (aAf ?_))))))
 rcases aK b with ⟨g,b⟩|⟨g,b⟩
 ·refine aO g rfl (aAZ (pM (v:=i64 (-1)) (aAf ?_)))
  cases zI b
  exact bF (aS (bC Tryz.results12 rfl ⟨rfl,(aL.arr 1 [] e rfl)⟩))
 ·refine aM g rfl (aW (aA (aAZ (aB (bB (t':=3) dO rfl rfl) (aB (bR hX e (i:=0) rfl rfl rfl) (aBl (v:=i64 c) ?_))))))
  obtain ⟨d,r,b⟩:=aI b
  refine aU (vs:=[zS a4 a.E.length c5,i64 c]) Tryz.call43 rfl (aGL e o r) ?_
  rintro _ J ⟨rfl,l⟩
  refine pM (v:=i64 d) (aAf (aH (aAZ (aBl (v:=i64 d) (aB (cJ rfl rfl) (aAf ?_))))))
  rcases aK b with ⟨h,b⟩|⟨h,b⟩
  ·refine aO h rfl (aAZ (pM (v:=i64 (-1)) (aAf ?_)))
   cases zI b
   exact bF (aS (bC Tryz.results12 rfl ⟨rfl,(aL.arr 1 [] l rfl)⟩))
  ·refine aM h rfl (aW (aA (aAZ (aBl (v:=i64 d) (pM (v:=i64 d) (aAf ?_))))))
   cases zI b
   exact bF (bC Tryz.results12 rfl ⟨rfl,(aL.arr 1 [] l rfl)⟩)
theorem aHx {a:(List Int)} {left R:Int} (d:aL G K (L) w) (h:bT K a1 c2 a) (b:aBW a left=some R):
  Calls Tryz.prog 54 ([zS a1 a.length c2,i64 left]:List Value).toArray w (fV fun v w'=>v=i64 R∧aL G K (L) w'):=by
 refine aT Tryz.func54 rfl (by kernel_rfl) (by show (2:Nat)≤12;decide) ?_
 unfold aBW at b
 refine aAZ (pM (v:=i64 0) (aAf (aAZ (aBl (v:=i64 left) (aBl (v:=zS a1 a.length c2) (aB (bQ (len:=a.length) bW rfl) (aB (jS rfl rfl) (pM (v:=i64 (wr (left - (a.length:Int)))) (aAf (aH (aAZ (aBl (v:=i64 (wr (left - (a.length:Int)))) (aB (cJ rfl rfl) (aAf ?_))))))))))))))
 rcases aK b with ⟨c,b⟩|⟨c,b⟩
 ·refine aO c rfl (aAZ (pM (v:=i64 (-1)) (aAf ?_)))
  cases zI b
  exact bF (aS (bC Tryz.results54 rfl ⟨rfl,d⟩))
 ·refine aM c rfl (aW (aA (aAZ (aBl (v:=i64 (wr (left - (a.length:Int)))) (pM (v:=i64 (wr (left - (a.length:Int)))) (aAf ?_))))))
  cases zI b
  exact bF (bC Tryz.results54 rfl ⟨rfl,d⟩)
theorem aIv {a:cA} {left R:Int} (o:aL G K (L) w) (p:bT K a1 c2 a.S.L) (q:bT K a4 c5 a.S.E) (r:bT K a7 c8 a.M) (t:bT K a10 c11 a.C) (b:aDj a left=some R):
  Calls Tryz.prog 15 ([zA (zEa a a1 c2 a4 c5 a7 c8 a10 c11),i64 left]:List Value).toArray w (fV fun v w'=>v=i64 R∧aL G K (L) w'):=by
 refine aT Tryz.func15 rfl (by kernel_rfl) (by show (2:Nat)≤24;decide) ?_
 unfold aDj at b
 refine aAZ (dW (v:=zA (zEa a a1 c2 a4 c5 a7 c8 a10 c11)) (vs:=(zE a a1 c2 a4 c5 a7 c8 a10 c11)) o rfl rfl (fun a0 a2 m=>(pM (v:=i64 0) (aAf (aAZ (aB (bB (t':=0) fa_40_0 rfl rfl) (aB (dK (us:=(zC a.S a1 c2 a4 c5)) aIk m (i:=0) rfl rfl rfl rfl) (aBl (v:=i64 left) ?_))))))))
 obtain ⟨c,u,b⟩:=aI b
 refine aU (vs:=[zA (zCa a.S a1 c2 a4 c5),i64 left]) Tryz.call6 rfl (aGl m p q u) ?_
 rintro _ a3 ⟨rfl,g⟩
 refine pM (v:=i64 c) (aAf (aH (aAZ (aBl (v:=i64 c) (aB (cJ rfl rfl) (aAf ?_))))))
 rcases aK b with ⟨h,b⟩|⟨h,b⟩
 ·refine aO h rfl (aAZ (pM (v:=i64 (-1)) (aAf ?_)))
  cases zI b
  exact bF (aS (bC Tryz.results15 rfl ⟨rfl,(aL.arr 1 [] g rfl)⟩))
 ·refine aM h rfl (aW (aA (aAZ (aB (bB (t':=4) fa_40_1 rfl rfl) (aB (bR mM g (i:=0) rfl rfl rfl) (aBl (v:=i64 c) ?_))))))
  obtain ⟨d,y,b⟩:=aI b
  refine aU (vs:=[zS a7 a.M.length c8,i64 c]) Tryz.call54 rfl (aHx g r y) ?_
  rintro _ a5 ⟨rfl,j⟩
  refine pM (v:=i64 d) (aAf (aH (aAZ (aBl (v:=i64 d) (aB (cJ rfl rfl) (aAf ?_))))))
  rcases aK b with ⟨k,b⟩|⟨k,b⟩
  ·refine aO k rfl (aAZ (pM (v:=i64 (-1)) (aAf ?_)))
   cases zI b
   exact bF (aS (bC Tryz.results15 rfl ⟨rfl,(aL.arr 1 [] j rfl)⟩))
  ·refine aM k rfl (aW (aA (aAZ (aB (bB (t':=5) fa_40_2 rfl rfl) (aB (bR jJ j (i:=0) rfl rfl rfl) (aBl (v:=i64 d) ?_))))))
   obtain ⟨e,J,b⟩:=aI b
   refine aU (vs:=[zS a10 a.C.length c11,i64 d]) Tryz.call21 rfl (aDu j t J) ?_
   rintro _ a6 ⟨rfl,n⟩
   refine pM (v:=i64 e) (aAf (aH (aAZ (aBl (v:=i64 e) (aB (cJ rfl rfl) (aAf ?_))))))
   rcases aK b with ⟨l,b⟩|⟨l,b⟩
   ·refine aO l rfl (aAZ (pM (v:=i64 (-1)) (aAf ?_)))
    cases zI b
    exact bF (aS (bC Tryz.results15 rfl ⟨rfl,(aL.arr 1 [] n rfl)⟩))
   ·refine aM l rfl (aW (aA (aAZ (aBl (v:=i64 e) (pM (v:=i64 e) (aAf ?_))))))
    cases zI b
    exact bF (bC Tryz.results15 rfl ⟨rfl,(aL.arr 1 [] n rfl)⟩)
end Gv
