/- Walks, printed by program. -/
import Derived.Test.YtmlgcbjkfcapaaaGreatDoorFJLW
import Derived.Test.YtmlgcbjkfcapaaaGreatDoorFJMd
set_option linter.all false
namespace Gv
open Go.Value renaming slice→zS,bool→zB,tuple→zT
open Option.some renaming inj→zI
open Gv.Hp renaming le_refl→zR
open Go Go.Proofs
set_option maxRecDepth 20000
set_option maxHeartbeats 40000000
variable {G:Env} {K:Hp} {L:List oT} {w:World} {a1 a4:Option Addr} {c2 c5:Nat}
theorem aDc {d:(List bH)} {R:((List Int) × Bool)} (hs:aK G K (L) w) (hG:G.lo=0) (J:cL K a1 c2 d) (b:rZ d=some R):
  Calls Tryz.prog 217 ([zS a1 d.length c2]:List Value).toArray w (gO fun v w'=>∃ (V:Option Addr) (Z:Nat),v=zT #[zS V R.1.length Z,zB R.2]∧aK G K (aV 2 K V Z R.1::L) w'):=by
 refine aS Tryz.func217 rfl (by kernel_rfl) (by show (1:Nat)≤28;decide) ?_
 unfold rZ at b
 refine aI (aF (v:=zS none 0 0) (aF (v:=zB false) (aG (aI (aF (v:=zS none 0 0) (aG (aN (aI (aM (v:=zS a1 d.length c2) (aC (bT (len:=d.length) cO rfl) (aM (v:=i64 0) (aG (bC (fun f w=>∃ (g:List Int) (j:Option Addr) (k:Nat),rC g=some R∧f 4=zS j g.length k∧aK G K (aV 2 K j k g::L) w) ?_ ?_)))))))))))))
 ·rintro f w8 ⟨g,j,k,b,e7,b1⟩
  unfold rC at b
  refine aA (aI (aO e7 (aF (v:=zS j g.length k) (aF (v:=zB true) (aG ?_)))))
  obtain rfl:=zI b
  exact bF (rS Tryz.results217 rfl rfl ⟨j,k,rfl,b1⟩)
 have b3:=aK.nil (α:=Int) hs 2 K
 obtain ⟨d2,b4,b⟩:=aB b
 refine cA b4 (fun (s:(List Int × Int)) f w=>match s with|(e,l)=>∃ (m:Option Addr) (n:Nat),f 4=zS m e.length n∧f 9=zS a1 d.length c2∧f 10=i64 (d.length:Int)∧f 11=i64 l∧aK G K (aV 2 K m n e::L) w) ?_ ?_
 ·exact ⟨none,0,rfl,rfl,rfl,rfl,b3⟩
 ·rintro ⟨e,l⟩ b5 f d3 a a0 ⟨m,n,a2,a3,a4,o,p⟩
  replace a:lG d e l=some b5:=a
  unfold lG at a
  refine aI (aC (cJ o a4) (aG (aN ?_)))
  rcases aH a with ⟨q,a⟩|⟨q,a⟩
  ·refine aL q rfl (aY (aA (aN (cP (aI ?_)))))
   obtain ⟨r,a6,a⟩:=aB a
   refine aC (cT cO rfl J a3 rfl o a6) ?_
   obtain ⟨d4,b6,b7⟩:=cL.el (sz:=1) rfl J a6
   cases b7
   refine aC (bJ (t:=0) pU p b6 rfl rfl) (aF (v:=str r) (aG (aI (aM (v:=str r) ?_))))
   obtain ⟨c,b8,a⟩:=aB a
   refine aU (vs:=[str r]) Tryz.call276 rfl (aEZ p hG b8) ?_
   rintro _ d5 ⟨rfl,a7⟩
   refine aM (v:=zT #[i64 c.1,zB c.2]) (aC (dE rfl rfl) (aC (dE rfl rfl) (aF (v:=i64 c.1) (aF (v:=zB c.2) (aG (aN (aI (aM (v:=zB c.2) (aC (fH rfl) (aG ?_))))))))))
   rcases aH a with ⟨u,a⟩|⟨u,a⟩
   ·refine aL u rfl (aI (aF (v:=zS none 0 0) (aF (v:=zB false) (aG (bF (aR (bQ (aR (aR ?_)))))))))
    have b9:=a0 _ (zI a).symm
    subst b9
    have b:(some ([],false))=some R:=b
    have c0:=aK.nil (α:=Int) a7 2 K
    obtain rfl:=zI b
    exact bQ (aR (aR (rS Tryz.results217 rfl rfl ⟨none,0,rfl,(aK.arr 2 [0] c0 rfl)⟩)))
   ·refine aJ u rfl (aY (aA (aP (aO a2 (aM (v:=i64 c.1) (dJ (Kt:=K) (xs:=([c.1]:List Int)) (cs:=[i64 c.1]) (vs:=[(0,i64 c.1)]) cG qE rfl rfl a7 rfl (by kernel_rfl) rfl rfl rfl ⟨rfl,trivial⟩ (fun c3 c4 (c5:aK G K (aV 2 K c3 1 ([c.1]:List Int)::aV 2 K m n e::L) c4)=>?_)))))))
    obtain ⟨x,c7,a⟩:=aB a
    exact iA (i:=0) cG Tryz.underlying38 qE rfl rfl c5 rfl (zR _) (zR _) c7 rfl rfl rfl rfl (fun _ h=>h) (fun y z c8 (c9:aK G K (aV 2 K y z x::L) c8)=>(aF (v:=zS y x.length z) (bK (bE (aA (aP (aC (cM o rfl) (aM (v:=i64 (wr (l+1))) (aG ⟨(x,wr (l+1)),(zI a).symm,y,z,rfl,a3,a4,rfl,c9⟩)))))))))
  ·refine aJ q rfl (bZ (aW (aW ?_)))
   have d0:=a0 _ (zI a).symm
   subst d0
   have b:(rC e)=some R:=b
   exact bO (aA ⟨e,m,n,b,a2,p⟩)
theorem aGI {d:(List Int)} {j R:bH} (hs:aK G K (L) w) (hG:G.lo=0) (y:cL K a1 c2 d) (b:aCc d j=some R):
  Calls Tryz.prog 115 ([zS a1 d.length c2,str j]:List Value).toArray w (gO fun v w'=>v=str R∧aK G K (L) w'):=by
 refine aS Tryz.func115 rfl (by kernel_rfl) (by show (2:Nat)≤27;decide) ?_
 unfold aCc at b
 refine aI (aF (v:=str ([]:bH)) (aG (aI (aM (v:=zS a1 d.length c2) (aC (bT (len:=d.length) cG rfl) ?_)))))
 obtain ⟨c,q5,b⟩:=aB b
 refine aDv (e:=([]:bH)) cO aAo rfl rfl hs rfl rfl rfl q5 rfl (fun g w7 (b0:aK G K (aV 9 K g c.length c::L) w7)=>(aF (v:=zS g c.length c.length) (aG (aN (aI (aM (v:=zS a1 d.length c2) (aC (bT (len:=d.length) cG rfl) (aM (v:=i64 0) (aG (bC (fun f w=>∃ (m:List bH),xA j m=some R∧f 1=str j∧f 5=zS g m.length c.length∧aK G K (aV 9 K g c.length m::L) w) ?_ ?_))))))))))
 ·rintro f d3 ⟨m,b,b1,b2,b3⟩
  unfold xA at b
  refine aA (aI (aO b2 (aO b1 ?_)))
  obtain ⟨d4,d5,b4,b5,b6⟩:=aK.lendS (i:=0) b3 (zR _) rfl
  obtain ⟨b7,b8,b⟩:=aB b
  refine aU (vs:=[zS g m.length c.length,str j]) Tryz.call186 rfl (lib_Join b5 hG b4 b8) ?_
  rintro _ d6 ⟨rfl,b9⟩
  have c0:=b6 _ _ b9
  refine aF (v:=str b7) (aG ?_)
  obtain rfl:=zI b
  exact bF (bB Tryz.results115 rfl ⟨rfl,(aK.arr 1 [] c0 rfl)⟩)
 obtain ⟨d7,c3,b⟩:=aB b
 refine cA c3 (fun (s:(List bH × Int)) f w=>match s with|(l,k)=>f 1=str j∧f 5=zS g l.length c.length∧f 11=zS a1 d.length c2∧f 12=i64 (d.length:Int)∧f 13=i64 k∧aK G K (aV 9 K g c.length l::L) w) ?_ ?_
 ·exact ⟨rfl,rfl,rfl,rfl,rfl,b0⟩
 ·rintro ⟨l,k⟩ c4 f d8 a c5 ⟨z,p,J,V,o,q⟩
  replace a:tT d l k=some c4:=a
  unfold tT at a
  refine aI (aC (cJ o V) (aG (aN ?_)))
  rcases aH a with ⟨r,a⟩|⟨r,a⟩
  ·refine aL r rfl (aY (aA (aN (cP (aI (aO o ?_))))))
   obtain ⟨u,Z,a⟩:=aB a
   refine aC (cT cG rfl y J rfl o Z) ?_
   obtain ⟨d9,c6,c7⟩:=cL.el (sz:=1) rfl y Z
   cases c7
   refine aC (bJ (t:=0) cE q c6 rfl rfl) (aF (v:=i64 k) (aF (v:=i64 u) (aG (aP (aO p (aM (v:=i64 k) (aM (v:=i64 u) ?_)))))))
   obtain ⟨a0,c8,a⟩:=aB a
   refine aU (vs:=[i64 u]) Tryz.call185 rfl (aJe q c8) ?_
   rintro _ e0 ⟨rfl,a2⟩
   obtain ⟨e1,x,a⟩:=aB a
   have c9:=dM a2 (i:=0) rfl x
   refine aC (eB cO rfl c9 rfl rfl rfl x) ?_
   obtain ⟨a3,a4,a⟩:=aB a
   exact jW (i:=0) (t:=0) (ns:=[str a0]) (e':=(a0:bH)) Tryz.sizeOf9 a2 rfl (zR _) rfl rfl rfl x a4 rfl rfl (dK rfl) rfl (fun cs h=>by cases h;rfl) (fun d0 (d1:aK G K (aV 9 K g c.length a3::L) d0)=>(bK (bE (aA (aP (aC (cM o rfl) (aM (v:=i64 (wr (k+1))) (aG ⟨(a3,wr (k+1)),(zI a).symm,z,(Eq.trans p (congrArg (fun n=>zS g n c.length) (iE a4))),J,V,rfl,d1⟩))))))))
  ·refine aJ r rfl (bZ (aW (aW ?_)))
   have d2:=c5 _ (zI a).symm
   subst d2
   have b:(xA j l)=some R:=b
   exact bO (aA ⟨l,b,z,p,q⟩)
theorem aFM {c:UInt8} {R:Bool} (e:aK G K (L) w) (a:aCv c=some R):
  Calls Tryz.prog 351 ([Value.int .u8 (c.toNat:Int)]:List Value).toArray w (gO fun v w'=>v=zB R∧aK G K (L) w'):=by
 refine aS Tryz.func351 rfl (by kernel_rfl) (by show (1:Nat)≤9;decide) ?_
 unfold aCv at a
 refine aI (aF (v:=zB false) (aG (aN (cN (fun f w=>∃ (d:Bool),yG d=some R∧f 2=zB d∧aK G K (L) w) ?_ ?_))))
 ·rintro f k ⟨d,a,h,i⟩
  unfold yG at a
  refine aA ?_
  obtain rfl:=zI a
  exact bF (bB Tryz.results351 rfl ⟨h,i⟩)
 refine aP (aM (v:=Value.int .u8 (c.toNat:Int)) (aC (uI rfl rfl) (aM (v:=zB (decide (48≤(c.toNat:Int)))) ?_)))
 rcases aH a with ⟨b,a⟩|⟨b,a⟩
 ·exact bA b rfl rfl (aM (v:=Value.int .u8 (c.toNat:Int)) (bA b rfl rfl (aC (aDu rfl rfl) (aC (bI (v:=zB (decide ((c.toNat:Int)≤57))) b rfl rfl) (aF (v:=zB (decide ((c.toNat:Int)≤57))) (aG ⟨decide ((c.toNat:Int)≤57),a,rfl,e⟩))))))
 ·exact aQ b rfl rfl (aQ b rfl rfl (aC (bL (v:=zB false) b rfl rfl) (aF (v:=zB false) (aG ⟨false,a,rfl,e⟩))))
theorem aGJ {c:bH} {R:Bool} (hs:aK G K (L) w) (b:aCd c=some R):
  Calls Tryz.prog 316 ([str c]:List Value).toArray w (gO fun v w'=>v=zB R∧aK G K (L) w'):=by
 refine aS Tryz.func316 rfl (by kernel_rfl) (by show (1:Nat)≤42;decide) ?_
 unfold aCd at b
 refine aI (aF (v:=zB false) (aG (aN (aI (aM (v:=str c) (aC (gY Tryz.runUnderlying9 rfl) (aM (v:=i64 0) (aG (bC (fun f w=>xB c=some R∧f 0=str c∧aK G K (L) w) ?_ ?_)))))))))
 ·rintro f w2 ⟨b,e1,a1⟩
  unfold xB at b
  refine aA (aN (cN (fun f w=>∃ (p:Bool),aAt p=some R∧f 2=zB p∧aK G K (L) w) ?_ ?_))
  ·rintro f w6 ⟨p,b,e5,a9⟩
   unfold aAt at b
   refine aA ?_
   obtain rfl:=zI b
   exact bF (bB Tryz.results316 rfl ⟨e5,a9⟩)
  refine aP (aO e1 (aC (gY Tryz.runUnderlying9 rfl) (aC (uI rfl rfl) (aM (v:=zB (decide (1≤(c.length:Int)))) ?_))))
  rcases aH b with ⟨j,b⟩|⟨j,b⟩
  ·exact bA j rfl rfl (aO e1 (bA j rfl rfl (aC (gY Tryz.runUnderlying9 rfl) (bA j rfl rfl (aC (aDu rfl rfl) (aC (bI (v:=zB (decide ((c.length:Int)≤10))) j rfl rfl) (aF (v:=zB (decide ((c.length:Int)≤10))) (aG ⟨decide ((c.length:Int)≤10),b,rfl,a1⟩))))))))
  ·exact aQ j rfl rfl (aQ j rfl rfl (aQ j rfl rfl (aC (bL (v:=zB false) j rfl rfl) (aF (v:=zB false) (aG ⟨false,b,rfl,a1⟩)))))
 obtain ⟨c5,b1,b⟩:=aB b
 refine cA b1 (fun (d:Int) f w=>f 0=str c∧f 6=i64 (c.length:Int)∧f 7=i64 d∧aK G K (L) w) ?_ ?_
 ·exact ⟨rfl,rfl,rfl,hs⟩
 ·rintro d q f c6 a a2 ⟨k,r,l,t⟩
  replace a:qG c d=some q:=a
  unfold qG at a
  refine aI (aC (cJ l r) (aG (aN ?_)))
  rcases aH a with ⟨u,a⟩|⟨u,a⟩
  ·refine aL u rfl (aY (aA (aN (cP (aI (aO l (aF (v:=i64 d) (aG (aN (cN (fun f w=>∃ (m:Bool),oD c d m=some q∧f 0=str c∧f 3=i64 d∧f 4=zB m∧f 6=i64 (c.length:Int)∧f 7=i64 d∧aK G K (L) w) ?_ ?_))))))))))
   ·rintro f c7 ⟨m,a,n,a3,b2,x,y,z⟩
    unfold oD at a
    refine aA (aN (cN (fun f w=>∃ (J:Bool),tU d J=some q∧f 0=str c∧f 6=i64 (c.length:Int)∧f 7=i64 d∧f 32=zB J∧aK G K (L) w) ?_ ?_))
    ·rintro f c8 ⟨J,a,b3,b4,b5,a4,a5⟩
     unfold tU at a
     refine aA ?_
     rcases aH a with ⟨V,a⟩|⟨V,a⟩
     ·refine aL V a4 (aI (aF (v:=zB false) (aG (bF (bQ (aR (aR ?_)))))))
      have b6:=a2 _ (zI a).symm
      subst b6
      have b:(some false)=some R:=b
      obtain rfl:=zI b
      exact bQ (aR (aR (bB Tryz.results316 rfl ⟨rfl,a5⟩)))
     ·exact aJ V a4 (aY (bE (aA (aP (aC (cM b5 rfl) (aM (v:=i64 (wr (d+1))) (aG ⟨wr (d+1),(zI a).symm,b3,b4,rfl,a5⟩)))))))
    refine aP (aO b2 (aC (fH rfl) (aM (v:=zB (!m)) ?_)))
    rcases aH a with ⟨e,a⟩|⟨e,a⟩
    ·refine bA e rfl rfl (aO a3 (bA e rfl rfl (aC (lC rfl rfl) (bA e rfl rfl (aM (v:=zB (d == 0)) ?_)))))
     rcases aH a with ⟨h,a⟩|⟨h,a⟩
     ·exact aZ h rfl rfl (aZ h rfl rfl (aZ h rfl rfl (aZ h rfl rfl (aZ h rfl rfl (bA e rfl rfl (aC (bI (v:=zB true) h rfl rfl) (aC (bI (v:=zB true) e rfl rfl) (aG ⟨true,a,n,x,y,rfl,z⟩))))))))
     ·refine bN h rfl rfl (aO n (bN h rfl rfl (aO a3 (bN h rfl rfl ?_))))
      obtain ⟨b8,b9,a⟩:=aB a
      refine aC (aAU Tryz.runUnderlying9 rfl rfl b9) (bN h rfl rfl ?_)
      obtain ⟨Z,c0,a⟩:=aB a
      refine aU (vs:=[Value.int .u8 (b8.toNat:Int)]) Tryz.call351 rfl (aFM z c0) ?_
      rintro _ d0 ⟨rfl,c1⟩
      exact bN h rfl rfl (aC (fH rfl) (bA e rfl rfl (aC (bL (v:=zB (!Z)) h rfl rfl) (aC (bI (v:=zB (!Z)) e rfl rfl) (aG ⟨!Z,a,n,x,y,rfl,c1⟩)))))
    ·exact aQ e rfl rfl (aQ e rfl rfl (aQ e rfl rfl (fR (g:=25) rfl rfl (fR (g:=25) rfl rfl (fR (g:=25) rfl rfl (fR (g:=25) rfl rfl (fR (g:=25) rfl rfl (aQ e rfl rfl (aC (bL (v:=zB false) e rfl rfl) (aG ⟨false,a,n,x,y,rfl,z⟩))))))))))
   refine aP (aO k (aM (v:=i64 d) ?_))
   obtain ⟨o,a6,a⟩:=aB a
   refine aC (aAU Tryz.runUnderlying9 rfl rfl a6) (aC (uI rfl rfl) (aM (v:=zB (decide (97≤(o.toNat:Int)))) ?_))
   rcases aH a with ⟨i,a⟩|⟨i,a⟩
   ·exact bA i rfl rfl (aO k (bA i rfl rfl (aM (v:=i64 d) (bA i rfl rfl (aC (aAU Tryz.runUnderlying9 rfl rfl a6) (bA i rfl rfl (aC (aDu rfl rfl) (aC (bI (v:=zB (decide ((o.toNat:Int)≤122))) i rfl rfl) (aF (v:=zB (decide ((o.toNat:Int)≤122))) (aG ⟨decide ((o.toNat:Int)≤122),a,k,rfl,rfl,r,l,t⟩))))))))))
   ·exact aQ i rfl rfl (aQ i rfl rfl (aQ i rfl rfl (aQ i rfl rfl (aC (bL (v:=zB false) i rfl rfl) (aF (v:=zB false) (aG ⟨false,a,k,rfl,rfl,r,l,t⟩))))))
  ·refine aJ u rfl (bZ (aW (aW ?_)))
   have c2:=a2 _ (zI a).symm
   subst c2
   have b:(xB c)=some R:=b
   exact bO (aA ⟨b,k,t⟩)
theorem aFa {b:bH} {R:Bool} (h:aK G K (L) w) (a:zY b=some R):
  Calls Tryz.prog 262 ([str b]:List Value).toArray w (gO fun v w'=>v=zB R∧aK G K (L) w'):=by
 refine aS Tryz.func262 rfl (by kernel_rfl) (by show (1:Nat)≤9;decide) ?_
 unfold zY at a
 refine aI (aF (v:=zB false) (aG (aN (cN (fun f w=>∃ (d:Bool),sA d=some R∧f 2=zB d∧aK G K (L) w) ?_ ?_))))
 ·rintro f n ⟨d,a,i,j⟩
  unfold sA at a
  refine aA ?_
  obtain rfl:=zI a
  exact bF (bB Tryz.results262 rfl ⟨i,j⟩)
 refine aP (aM (v:=str b) ?_)
 obtain ⟨l,m,a⟩:=aB a
 refine aU (vs:=[str b]) Tryz.call316 rfl (aGJ h m) ?_
 rintro _ o ⟨rfl,e⟩
 refine aM (v:=zB l) ?_
 rcases aH a with ⟨c,a⟩|⟨c,a⟩
 ·exact bA c rfl rfl (aM (v:=str b) (bA c rfl rfl (aC (aAG rfl rfl) (aC (bI (v:=zB (!(b == ([116,97,117]:bH)))) c rfl rfl) (aF (v:=zB (!(b == ([116,97,117]:bH)))) (aG ⟨!(b == ([116,97,117]:bH)),a,rfl,e⟩))))))
 ·exact aQ c rfl rfl (aQ c rfl rfl (aC (bL (v:=zB false) c rfl rfl) (aF (v:=zB false) (aG ⟨false,a,rfl,e⟩))))
theorem sU {n low c:Int} {R:Bool} (e:aK G K (L) w) (a:uL n low c=some R):
  Calls Tryz.prog 77 ([i64 n,i64 low,i64 c]:List Value).toArray w (gO fun v w'=>v=zB R∧aK G K (L) w'):=by
 refine aS Tryz.func77 rfl (by kernel_rfl) (by show (3:Nat)≤15;decide) ?_
 unfold uL at a
 refine aI (aF (v:=zB false) (aG (aN (cN (fun f w=>∃ (d:Bool),aAu d=some R∧f 6=zB d∧aK G K (L) w) ?_ ?_))))
 ·rintro f k ⟨d,a,h,i⟩
  unfold aAu at a
  refine aA ?_
  obtain rfl:=zI a
  exact bF (bB Tryz.results77 rfl ⟨h,i⟩)
 refine aP (aM (v:=i64 n) (aM (v:=i64 low) (aC (uI rfl rfl) (aM (v:=zB (decide (low≤n))) ?_))))
 rcases aH a with ⟨b,a⟩|⟨b,a⟩
 ·exact bA b rfl rfl (aM (v:=i64 n) (bA b rfl rfl (aM (v:=i64 c) (bA b rfl rfl (aC (aDu rfl rfl) (aC (bI (v:=zB (decide (n≤c))) b rfl rfl) (aF (v:=zB (decide (n≤c))) (aG ⟨decide (n≤c),a,rfl,e⟩))))))))
 ·exact aQ b rfl rfl (aQ b rfl rfl (aQ b rfl rfl (aC (bL (v:=zB false) b rfl rfl) (aF (v:=zB false) (aG ⟨false,a,rfl,e⟩)))))
theorem aFN {n:Int} {R:Bool} (b:aK G K (L) w) (a:aCw n=some R):
  Calls Tryz.prog 332 ([i64 n]:List Value).toArray w (gO fun v w'=>v=zB R∧aK G K (L) w'):=by
 refine aS Tryz.func332 rfl (by kernel_rfl) (by show (1:Nat)≤5;decide) ?_
 unfold aCw at a
 refine aI (aF (v:=zB false) (aG (aI (aM (v:=i64 n) ?_))))
 obtain ⟨c,d,a⟩:=aB a
 refine aU (vs:=[i64 n,i64 0,i64 63]) Tryz.call77 rfl (sU b d) ?_
 rintro _ h ⟨rfl,e⟩
 refine aF (v:=zB c) (aG ?_)
 obtain rfl:=zI a
 exact bF (bB Tryz.results332 rfl ⟨rfl,e⟩)
theorem aCE {n:Int} {R:Bool} (b:aK G K (L) w) (a:uM n=some R):
  Calls Tryz.prog 331 ([i64 n]:List Value).toArray w (gO fun v w'=>v=zB R∧aK G K (L) w'):=by
 refine aS Tryz.func331 rfl (by kernel_rfl) (by show (1:Nat)≤6;decide) ?_
 unfold uM at a
 refine aI (aF (v:=zB false) (aG (aI (aM (v:=i64 n) ?_))))
 obtain ⟨c,d,a⟩:=aB a
 refine aU (vs:=[i64 n]) Tryz.call332 rfl (aFN b d) ?_
 rintro _ h ⟨rfl,e⟩
 refine aC (fH rfl) (aF (v:=zB (!c)) (aG ?_))
 obtain rfl:=zI a
 exact bF (bB Tryz.results331 rfl ⟨rfl,e⟩)
theorem qT {d:(List Int)} {R:Int} (r:aK G K (L) w) (j:cL K a1 c2 d) (b:gJ d=some R):
  Calls Tryz.prog 167 ([zS a1 d.length c2,Value.func (.func 331) #[] #[]]:List Value).toArray w (gO fun v w'=>v=i64 R∧aK G K (L) w'):=by
 refine aS Tryz.func167 rfl (by kernel_rfl) (by show (2:Nat)≤19;decide) ?_
 unfold gJ at b
 refine aI (aF (v:=i64 0) (aG (aN (aI (aM (v:=zS a1 d.length c2) (aC (bT (len:=d.length) cG rfl) (aM (v:=i64 0) (aG (bC (fun f w=>fK=some R∧aK G K (L) w) ?_ ?_)))))))))
 ·rintro f w4 ⟨b,u⟩
  unfold fK at b
  refine aA (aI (aF (v:=i64 (-1)) (aG ?_)))
  obtain rfl:=zI b
  exact bF (bB Tryz.results167 rfl ⟨rfl,u⟩)
 obtain ⟨a5,y,b⟩:=aB b
 refine cA y (fun (c:Int) f w=>f 0=zS a1 d.length c2∧f 1=Value.func (.func 331) #[] #[]∧f 7=i64 (d.length:Int)∧f 8=i64 c∧aK G K (L) w) ?_ ?_
 ·exact ⟨rfl,rfl,rfl,rfl,r⟩
 ·rintro c z f a6 a k ⟨l,m,n,e,g⟩
  replace a:dI d c=some z:=a
  unfold dI at a
  refine aI (aC (cJ e n) (aG (aN ?_)))
  rcases aH a with ⟨h,a⟩|⟨h,a⟩
  ·refine aL h rfl (aY (aA (aN (cP (aI (aO e (aF (v:=i64 c) (aG (aI (aO m (aO l (aM (v:=i64 c) ?_))))))))))))
   obtain ⟨o,p,a⟩:=aB a
   refine aC (cT cG rfl j rfl rfl rfl p) ?_
   obtain ⟨a7,J,V⟩:=cL.el (sz:=1) rfl j p
   cases V
   refine aC (bJ (t:=0) cE g J rfl rfl) ?_
   obtain ⟨a8,Z,a⟩:=aB a
   refine jX (vs:=[i64 o]) (caps:=[]) (us:=[i64 o]) rfl Tryz.call331 rfl rfl (aCE g Z) ?_
   rintro _ a9 ⟨rfl,q⟩
   refine aG ?_
   rcases aH a with ⟨i,a⟩|⟨i,a⟩
   ·refine aL i rfl (aI (aM (v:=i64 c) (aF (v:=i64 c) (aG (bF (bQ (aR (aR ?_))))))))
    have a0:=k _ (zI a).symm
    subst a0
    have b:(some c)=some R:=b
    obtain rfl:=zI b
    exact bQ (aR (aR (bB Tryz.results167 rfl ⟨rfl,q⟩)))
   ·exact aJ i rfl (aY (bE (aA (aP (aC (cM e rfl) (aM (v:=i64 (wr (c+1))) (aG ⟨wr (c+1),(zI a).symm,l,m,n,rfl,q⟩)))))))
  ·refine aJ h rfl (bZ (aW (aW ?_)))
   have a3:=k _ (zI a).symm
   subst a3
   have b:(fK)=some R:=b
   exact bO (aA ⟨b,g⟩)
theorem pD {a:(List Int)} {R:Bool} (c:aK G K (L) w) (d:cL K a1 c2 a) (b:fL a=some R):
  Calls Tryz.prog 330 ([zS a1 a.length c2,Value.func (.func 331) #[] #[]]:List Value).toArray w (gO fun v w'=>v=zB R∧aK G K (L) w'):=by
 refine aS Tryz.func330 rfl (by kernel_rfl) (by show (2:Nat)≤9;decide) ?_
 unfold fL at b
 refine aI (aF (v:=zB false) (aG (aI (aM (v:=zS a1 a.length c2) (aM (v:=Value.func (.func 331) #[] #[]) ?_)))))
 obtain ⟨e,g,b⟩:=aB b
 refine aU (vs:=[zS a1 a.length c2,Value.func (.func 331) #[] #[]]) Tryz.call167 rfl (qT c d g) ?_
 rintro _ j ⟨rfl,h⟩
 refine aC (uI rfl rfl) (aF (v:=zB (decide (0≤e))) (aG ?_))
 obtain rfl:=zI b
 exact bF (bB Tryz.results330 rfl ⟨rfl,h⟩)
theorem aEm {a:(List Int)} {R:Bool} (c:aK G K (L) w) (d:cL K a1 c2 a) (b:xC a=some R):
  Calls Tryz.prog 279 ([zS a1 a.length c2]:List Value).toArray w (gO fun v w'=>v=zB R∧aK G K (L) w'):=by
 refine aS Tryz.func279 rfl (by kernel_rfl) (by show (1:Nat)≤6;decide) ?_
 unfold xC at b
 refine aI (aF (v:=zB false) (aG (aI (aM (v:=zS a1 a.length c2) ?_))))
 obtain ⟨e,g,b⟩:=aB b
 refine aU (vs:=[zS a1 a.length c2,Value.func (.func 331) #[] #[]]) Tryz.call330 rfl (pD c d g) ?_
 rintro _ j ⟨rfl,h⟩
 refine aC (fH rfl) (aF (v:=zB (!e)) (aG ?_))
 obtain rfl:=zI b
 exact bF (bB Tryz.results279 rfl ⟨rfl,h⟩)
theorem aFO {c:bH} {b:(List Int)} {R:(bH × Bool)} (o:aK G K (L) w) (u:G.lo=0) (p:cL K a1 c2 b) (a:aAY c b=some R):
  Calls Tryz.prog 220 ([str c,zS a1 b.length c2]:List Value).toArray w (gO fun v w'=>v=zT #[str R.1,zB R.2]∧aK G K (L) w'):=by
 refine aS Tryz.func220 rfl (by kernel_rfl) (by show (2:Nat)≤37;decide) ?_
 unfold aAY at a
 refine aI (aF (v:=str ([]:bH)) (aF (v:=zB false) (aG (aN (cP (aI (aM (v:=str c) (aC (vR rfl rfl) (aF (v:=zB (c == ([116,97,117]:bH))) (aG ?_))))))))))
 rcases aH a with ⟨h,a⟩|⟨h,a⟩
 ·refine aL h rfl (aI (aM (v:=zS a1 b.length c2) (aC (bT (len:=b.length) cG rfl) (aC (lC rfl rfl) (aF (v:=str ([116,97,117]:bH)) (aF (v:=zB ((b.length:Int) == 0)) (aG ?_)))))))
  obtain rfl:=zI a
  exact bF (bQ (aR (rS Tryz.results220 rfl rfl ⟨rfl,o⟩)))
 ·refine aJ h rfl (aN (cN (fun f w=>∃ (i:Bool),rD c b i=some R∧f 0=str c∧f 1=zS a1 b.length c2∧f 12=zB i∧aK G K (L) w) ?_ ?_))
  ·rintro f a9 ⟨i,a,q,r,t,j⟩
   unfold rD at a
   refine aA ?_
   rcases aH a with ⟨k,a⟩|⟨k,a⟩
   ·refine aL k t (aI (aF (v:=str ([]:bH)) (aF (v:=zB false) (aG ?_))))
    obtain rfl:=zI a
    exact bF (bQ (aR (rS Tryz.results220 rfl rfl ⟨rfl,j⟩)))
   ·refine aJ k t (aI (aO r (aC (bT (len:=b.length) cG rfl) (aC (lC rfl rfl) (aF (v:=zB ((b.length:Int) == 0)) (aG ?_))))))
    rcases aH a with ⟨l,a⟩|⟨l,a⟩
    ·refine aL l rfl (aI (aO q (aF (v:=str c) (aF (v:=zB true) (aG ?_)))))
     obtain rfl:=zI a
     exact bF (bQ (aR (rS Tryz.results220 rfl rfl ⟨rfl,j⟩)))
    ·refine aJ l rfl (aY (bE (aA (aI (aO q ?_)))))
     obtain ⟨b0,J,a⟩:=aB a
     refine aC (R_cat rfl rfl J) (aO r ?_)
     obtain ⟨b1,V,a⟩:=aB a
     refine aU (vs:=[zS a1 b.length c2,str ([44]:bH)]) Tryz.call115 rfl (aGI j u p V) ?_
     rintro _ b2 ⟨rfl,Z⟩
     obtain ⟨b3,a0,a⟩:=aB a
     refine aC (R_cat rfl rfl a0) ?_
     obtain ⟨a2,a3,a⟩:=aB a
     refine aC (R_cat rfl rfl a3) (aF (v:=str a2) (aF (v:=zB true) (aG ?_)))
     obtain rfl:=zI a
     exact bF (rS Tryz.results220 rfl rfl ⟨rfl,Z⟩)
  refine aP (aM (v:=str c) ?_)
  obtain ⟨a5,a6,a⟩:=aB a
  refine aU (vs:=[str c]) Tryz.call262 rfl (aFa o a6) ?_
  rintro _ b4 ⟨rfl,m⟩
  refine aC (fH rfl) (aM (v:=zB (!a5)) ?_)
  rcases aH a with ⟨d,a⟩|⟨d,a⟩
  ·exact aZ d rfl rfl (aZ d rfl rfl (aZ d rfl rfl (aC (bI (v:=zB true) d rfl rfl) (aM (v:=zB true) (aZ (rfl:true=true) rfl rfl (aZ (rfl:true=true) rfl rfl (aZ (rfl:true=true) rfl rfl (aC (bI (v:=zB true) (rfl:true=true) rfl rfl) (aF (v:=zB true) (aG ⟨true,a,rfl,rfl,rfl,m⟩))))))))))
  ·refine bN d rfl rfl (aM (v:=zS a1 b.length c2) (bN d rfl rfl (aC (bT (len:=b.length) cG rfl) (bN d rfl rfl (aC (qC rfl rfl) (aC (bL (v:=zB (decide (2 < (b.length:Int)))) d rfl rfl) (aM (v:=zB (decide (2 < (b.length:Int)))) ?_)))))))
   rcases aH a with ⟨e,a⟩|⟨e,a⟩
   ·exact aZ e rfl rfl (aZ e rfl rfl (aZ e rfl rfl (aC (bI (v:=zB true) e rfl rfl) (aF (v:=zB true) (aG ⟨true,a,rfl,rfl,rfl,m⟩)))))
   ·refine bN e rfl rfl (aM (v:=zS a1 b.length c2) (bN e rfl rfl ?_))
    obtain ⟨n,a7,a⟩:=aB a
    refine aU (vs:=[zS a1 b.length c2]) Tryz.call279 rfl (aEm m p a7) ?_
    rintro _ b5 ⟨rfl,a8⟩
    exact bN e rfl rfl (aC (fH rfl) (aC (bL (v:=zB (!n)) e rfl rfl) (aF (v:=zB (!n)) (aG ⟨!n,a,rfl,rfl,rfl,a8⟩))))
theorem rO {d c:bH} {R:Bool} (i:aK G K (L) w) (b:gR d c=some R):
  Calls Tryz.prog 329 ([str d,str c]:List Value).toArray w (gO fun v w'=>v=zB R∧aK G K (L) w'):=by
 refine aS Tryz.func329 rfl (by kernel_rfl) (by show (2:Nat)≤21;decide) ?_
 unfold gR at b
 refine aI (aF (v:=zB false) (aG (aN (cN (fun f w=>∃ (e:Bool),eJ e=some R∧f 4=zB e∧aK G K (L) w) ?_ ?_))))
 ·rintro f n ⟨e,b,j,k⟩
  unfold eJ at b
  refine aA ?_
  obtain rfl:=zI b
  exact bF (bB Tryz.results329 rfl ⟨j,k⟩)
 refine aP (aM (v:=str d) (aC (gY Tryz.runUnderlying9 rfl) (aM (v:=str c) (aC (gY Tryz.runUnderlying9 rfl) (aC (uI rfl rfl) (aM (v:=zB (decide ((c.length:Int)≤(d.length:Int)))) ?_))))))
 rcases aH b with ⟨a,b⟩|⟨a,b⟩
 ·refine bA a rfl rfl (aM (v:=str d) (bA a rfl rfl (aM (v:=str d) (bA a rfl rfl (aC (gY Tryz.runUnderlying9 rfl) (bA a rfl rfl (aM (v:=str c) (bA a rfl rfl (aC (gY Tryz.runUnderlying9 rfl) (bA a rfl rfl (aC (kO rfl rfl) (bA a rfl rfl ?_))))))))))))
  obtain ⟨h,m,b⟩:=aB b
  exact aC (R_slSL Tryz.runUnderlying9 rfl rfl m) (bA a rfl rfl (aM (v:=str c) (bA a rfl rfl (aC (vR rfl rfl) (aC (bI (v:=zB (h == c)) a rfl rfl) (aF (v:=zB (h == c)) (aG ⟨h == c,b,rfl,i⟩)))))))
 ·exact aQ a rfl rfl (aQ a rfl rfl (aQ a rfl rfl (aQ a rfl rfl (aQ a rfl rfl (aQ a rfl rfl (aQ a rfl rfl (aQ a rfl rfl (aQ a rfl rfl (aC (bL (v:=zB false) a rfl rfl) (aF (v:=zB false) (aG ⟨false,b,rfl,i⟩)))))))))))
theorem qU {b c R:bH} (g:aK G K (L) w) (a:gK b c=some R):
  Calls Tryz.prog 278 ([str b,str c]:List Value).toArray w (gO fun v w'=>v=str R∧aK G K (L) w'):=by
 refine aS Tryz.func278 rfl (by kernel_rfl) (by show (2:Nat)≤16;decide) ?_
 unfold gK at a
 refine aI (aF (v:=str ([]:bH)) (aG (aN (aI (aM (v:=str b) (aM (v:=str c) ?_))))))
 obtain ⟨m,h,a⟩:=aB a
 refine aU (vs:=[str b,str c]) Tryz.call329 rfl (rO g h) ?_
 rintro _ n ⟨rfl,e⟩
 refine aG ?_
 rcases aH a with ⟨d,a⟩|⟨d,a⟩
 ·refine aL d rfl (aI (aM (v:=str b) (aM (v:=str b) (aC (gY Tryz.runUnderlying9 rfl) (aM (v:=str c) (aC (gY Tryz.runUnderlying9 rfl) (aC (kO rfl rfl) ?_)))))))
  obtain ⟨i,j,a⟩:=aB a
  refine aC (R_slSH Tryz.runUnderlying9 rfl rfl j) (aF (v:=str i) (aG ?_))
  obtain rfl:=zI a
  exact bF (aR (bB Tryz.results278 rfl ⟨rfl,e⟩))
 ·refine aJ d rfl (aY (aA (aI (aM (v:=str b) (aF (v:=str b) (aG ?_))))))
  obtain rfl:=zI a
  exact bF (bB Tryz.results278 rfl ⟨rfl,e⟩)
theorem aAp {a b R:bH} (d:aK G K (L) w) (c:jY a b=some R):
  Calls Tryz.prog 219 ([str a,str b]:List Value).toArray w (gO fun v w'=>v=str R∧aK G K (L) w'):=by
 refine aS Tryz.func219 rfl (by kernel_rfl) (by show (2:Nat)≤8;decide) ?_
 unfold jY at c
 refine aI (aF (v:=str ([]:bH)) (aG (aI (aM (v:=str a) (aM (v:=str b) ?_)))))
 obtain ⟨e,g,c⟩:=aB c
 refine aU (vs:=[str a,str b]) Tryz.call278 rfl (qU d g) ?_
 rintro _ j ⟨rfl,h⟩
 refine aF (v:=str e) (aG ?_)
 obtain rfl:=zI c
 exact bF (bB Tryz.results219 rfl ⟨rfl,h⟩)
theorem aEn {h:bH} {R:(bH × (List Int) × Bool)} (hs:aK G K (L) w) (x:G.lo=0) (a:aAv h=some R):
  Calls Tryz.prog 161 ([str h]:List Value).toArray w (gO fun v w'=>∃ (y:Option Addr) (z:Nat),v=zT #[str R.1,zS y R.2.1.length z,zB R.2.2]∧aK G K (aV 2 K y z R.2.1::L) w'):=by
 refine aS Tryz.func161 rfl (by kernel_rfl) (by show (1:Nat)≤43;decide) ?_
 unfold aAv at a
 refine aI (aF (v:=str ([]:bH)) (aF (v:=zS none 0 0) (aF (v:=zB false) (aG (aI (aM (v:=str h) ?_))))))
 obtain ⟨b,q2,a⟩:=aB a
 refine aU (vs:=[str h,str ([40]:bH)]) Tryz.call216 rfl (lib_Cut hs q2) ?_
 rintro _ w3 ⟨rfl,J⟩
 refine aM (v:=zT #[str b.1,str b.2.1,zB b.2.2]) (aC (dE rfl rfl) (aC (dE rfl rfl) (aC (dE rfl rfl) (aF (v:=str b.1) (aF (v:=str b.2.1) (aF (v:=zB b.2.2) (aG (aI (aF (v:=zS none 0 0) (aG (aAF (fun f w=>∃ (c:List Int) (j:Option Addr) (k:Nat),nG h b c=some R∧f 0=str h∧f 5=str b.1∧f 8=zS j c.length k∧aK G K (aV 2 K j k c::L) w) ?_ ?_)))))))))))
 ·rintro f d5 ⟨c,j,k,a,e8,m,n,a5⟩
  unfold nG at a
  refine aN (aI (aO m (aO n ?_)))
  obtain ⟨d6,d7,a7,a8,a9⟩:=aK.lendS (i:=0) a5 (zR _) rfl
  obtain ⟨d,b0,a⟩:=aB a
  refine aU (vs:=[str b.1,zS j c.length k]) Tryz.call220 rfl (aFO a8 x a7 b0) ?_
  rintro _ d8 ⟨rfl,b1⟩
  have V:=a9 _ _ b1
  refine aM (v:=zT #[str d.1,zB d.2]) (aC (dE rfl rfl) (aC (dE rfl rfl) (aF (v:=str d.1) (aF (v:=zB d.2) (aG (aN (cN (fun f w=>∃ (o:Bool),nF b c o=some R∧f 5=str b.1∧f 8=zS j c.length k∧f 40=zB o∧aK G K (aV 2 K j k c::L) w) ?_ ?_)))))))
  ·rintro f d9 ⟨o,a,b2,b3,Z,a0⟩
   unfold nF at a
   refine aA ?_
   rcases aH a with ⟨p,a⟩|⟨p,a⟩
   ·refine aL p Z (aI (aF (v:=str ([]:bH)) (aF (v:=zS none 0 0) (aF (v:=zB false) (aG ?_)))))
    have b4:=aK.nil (α:=Int) a0 2 K
    obtain rfl:=zI a
    exact bF (aR (retQ_3 Tryz.results161 rfl rfl rfl ⟨none,0,rfl,(aK.arr 2 [0] b4 rfl)⟩))
   ·refine aJ p Z (aY (aA (aI (aO b2 (aO b3 (aF (v:=str b.1) (aF (v:=zS j c.length k) (aF (v:=zB true) (aG ?_)))))))))
    obtain rfl:=zI a
    exact bF (retQ_3 Tryz.results161 rfl rfl rfl ⟨j,k,rfl,a0⟩)
  refine aP (aM (v:=zB d.2) (aC (fH rfl) (aM (v:=zB (!d.2)) ?_)))
  rcases aH a with ⟨e,a⟩|⟨e,a⟩
  ·exact aZ e rfl rfl (aZ e rfl rfl (aZ e rfl rfl (aC (bI (v:=zB true) e rfl rfl) (aG ⟨true,a,m,n,rfl,V⟩))))
  ·exact bN e rfl rfl (aM (v:=str d.1) (bN e rfl rfl (aO e8 (bN e rfl rfl (aC (aAG rfl rfl) (aC (bL (v:=zB (!(d.1 == h))) e rfl rfl) (aG ⟨!(d.1 == h),a,m,n,rfl,V⟩)))))))
 refine aI (aM (v:=zB b.2.2) (aG ?_))
 rcases aH a with ⟨q,a⟩|⟨q,a⟩
 ·refine aL q rfl (aI (aF (v:=zB false) (aG (aI (aM (v:=str b.2.1) ?_)))))
  obtain ⟨b7,b8,a⟩:=aB a
  refine aU (vs:=[str b.2.1,str ([41]:bH)]) Tryz.call219 rfl (aAp J b8) ?_
  rintro _ e0 ⟨rfl,b9⟩
  obtain ⟨c0,c1,a⟩:=aB a
  refine aU (vs:=[str b7,str ([44]:bH)]) Tryz.call218 rfl (lib_Split b9 c1) ?_
  rintro _ e1 ⟨c2,c3,rfl,c4⟩
  obtain ⟨e2,e3,c5,c6,c8⟩:=aK.lendS (i:=0) c4 (zR _) rfl
  obtain ⟨l,c9,a⟩:=aB a
  refine aU (vs:=[zS c2 c0.length c3]) Tryz.call217 rfl (aDc c6 x c5 c9) ?_
  rintro _ e4 ⟨r,t,rfl,d0⟩
  have a1:=c8 _ _ d0
  refine aM (v:=zT #[zS r l.1.length t,zB l.2]) (aC (dE rfl rfl) (aC (dE rfl rfl) (aF (v:=zS r l.1.length t) (aF (v:=zB l.2) (aG (aI (aM (v:=zB l.2) (aC (fH rfl) (aG ?_)))))))))
  rcases aH a with ⟨u,a⟩|⟨u,a⟩
  ·refine aL u rfl (aI (aF (v:=str ([]:bH)) (aF (v:=zS none 0 0) (aF (v:=zB false) (aG ?_)))))
   have d1:=aK.nil (α:=Int) a1 2 K
   obtain rfl:=zI a
   exact bF (aR (retQ_3 Tryz.results161 rfl rfl rfl ⟨none,0,rfl,(aK.arr 3 [0] d1 rfl)⟩))
  ·exact aJ u rfl (aY (aA ⟨l.1,r,t,a,rfl,rfl,rfl,(aK.arr 1 [] a1 rfl)⟩))
 ·refine aJ q rfl ?_
  have d3:=aK.nil (α:=Int) J 2 K
  exact aY (aA ⟨[],none,0,a,rfl,rfl,rfl,d3⟩)
theorem aFP {b:bH} {R:Bool} (g:aK G K (L) w) (h:G.lo=0) (c:aAZ b=some R):
  Calls Tryz.prog 79 ([str b]:List Value).toArray w (gO fun v w'=>v=zB R∧aK G K (L) w'):=by
 refine aS Tryz.func79 rfl (by kernel_rfl) (by show (1:Nat)≤13;decide) ?_
 unfold aAZ at c
 refine aI (aF (v:=zB false) (aG (aI (aM (v:=str b) ?_))))
 obtain ⟨a,i,c⟩:=aB c
 refine aU (vs:=[str b]) Tryz.call161 rfl (aEn g h i) ?_
 rintro _ l ⟨d,e,rfl,j⟩
 refine aM (v:=zT #[str a.1,zS d a.2.1.length e,zB a.2.2]) (aC (dE rfl rfl) (aC (dE rfl rfl) (aC (dE rfl rfl) (aF (v:=str a.1) (aF (v:=zS d a.2.1.length e) (aF (v:=zB a.2.2) (aG (aI (aM (v:=zB a.2.2) (aF (v:=zB a.2.2) (aG ?_)))))))))))
 obtain rfl:=zI c
 exact bF (bB Tryz.results79 rfl ⟨rfl,(aK.arr 1 [] j rfl)⟩)
theorem aEo {a:(List bH)} {left R:Int} (o:aK G K (L) w) (p:cL K a1 c2 a) (b:xD a left=some R):
  Calls Tryz.prog 21 ([zS a1 a.length c2,i64 left]:List Value).toArray w (gO fun v w'=>v=i64 R∧aK G K (L) w'):=by
 refine aS Tryz.func21 rfl (by kernel_rfl) (by show (2:Nat)≤28;decide) ?_
 unfold xD at b
 refine aI (aF (v:=i64 0) (aG (aI (aM (v:=i64 left) (aM (v:=zS a1 a.length c2) (aC (bT (len:=a.length) cO rfl) (aC (kO rfl rfl) (aF (v:=i64 (wr (left - (a.length:Int)))) (aG (aN (aI (aM (v:=i64 (wr (left - (a.length:Int)))) (aC (cJ rfl rfl) (aG ?_))))))))))))))
 rcases aH b with ⟨i,b⟩|⟨i,b⟩
 ·refine aL i rfl (aI (aF (v:=i64 (-1)) (aG ?_)))
  obtain rfl:=zI b
  exact bF (aR (bB Tryz.results21 rfl ⟨rfl,o⟩))
 ·refine aJ i rfl (aY (aA (aN (aI (aF (v:=i64 0) (aG (bC (fun f w=>∃ (g:Int),uN g=some R∧f 1=i64 g∧aK G K (L) w) ?_ ?_)))))))
  ·rintro f w8 ⟨g,b,y,z⟩
   unfold uN at b
   refine aA (aI (aO y (aF (v:=i64 g) (aG ?_))))
   obtain rfl:=zI b
   exact bF (bB Tryz.results21 rfl ⟨rfl,z⟩)
  obtain ⟨a7,V,b⟩:=aB b
  refine cA V (fun (s:(Int × Int)) f w=>match s with|(d,e)=>f 0=zS a1 a.length c2∧f 1=i64 d∧f 5=i64 e∧aK G K (L) w) ?_ ?_
  ·exact ⟨rfl,rfl,rfl,o⟩
  ·rintro ⟨d,e⟩ Z f a8 c q ⟨j,r,k,h⟩
   replace c:qH a d e=some Z:=c
   unfold qH at c
   refine aN (aI (aO k (aO j (aC (bT (len:=a.length) cO rfl) (aC (cJ rfl rfl) (aG ?_))))))
   rcases aH c with ⟨l,c⟩|⟨l,c⟩
   ·refine aL l rfl (aY (aA (aN (cP (aI (aO r (aO j (aO k ?_))))))))
    obtain ⟨m,u,c⟩:=aB c
    refine aC (cT cO rfl p rfl rfl rfl u) ?_
    obtain ⟨a9,a0,a2⟩:=cL.el (sz:=1) rfl p u
    cases a2
    refine aC (bJ (t:=0) pU h a0 rfl rfl) (aC (gY Tryz.runUnderlying9 rfl) (aC (kO rfl rfl) (aF (v:=i64 (wr (d - (m.length:Int)))) (aG (aI (aM (v:=i64 (wr (d - (m.length:Int)))) (aC (cJ rfl rfl) (aG ?_))))))))
    rcases aH c with ⟨n,c⟩|⟨n,c⟩
    ·refine aL n rfl (aI (aF (v:=i64 (-1)) (aG (bF (bQ (aR (aR ?_)))))))
     have a3:=q _ (zI c).symm
     subst a3
     have b:(some (-1))=some R:=b
     obtain rfl:=zI b
     exact bQ (aR (aR (bB Tryz.results21 rfl ⟨rfl,h⟩)))
    ·exact aJ n rfl (aY (bE (aA (aP (aO k (aC (cM rfl rfl) (aF (v:=i64 (wr (e+1))) (aG ⟨(wr (d - (m.length:Int)),wr (e+1)),(zI c).symm,j,rfl,rfl,h⟩))))))))
   ·refine aJ l rfl (bZ (aW (aW ?_)))
    have a5:=q _ (zI c).symm
    subst a5
    have b:(uN d)=some R:=b
    exact bO (aA ⟨d,b,r,h⟩)
theorem aFQ {a:(List Edge)} {left R:Int} (d:aK G K (L) w) (h:cL K a1 c2 a) (b:aBa a left=some R):
  Calls Tryz.prog 22 ([zS a1 a.length c2,i64 left]:List Value).toArray w (gO fun v w'=>v=i64 R∧aK G K (L) w'):=by
 refine aS Tryz.func22 rfl (by kernel_rfl) (by show (2:Nat)≤12;decide) ?_
 unfold aBa at b
 refine aI (aF (v:=i64 0) (aG (aI (aM (v:=i64 left) (aM (v:=zS a1 a.length c2) (aC (bT (len:=a.length) sl_23 rfl) (aC (kO rfl rfl) (aF (v:=i64 (wr (left - (a.length:Int)))) (aG (aN (aI (aM (v:=i64 (wr (left - (a.length:Int)))) (aC (cJ rfl rfl) (aG ?_))))))))))))))
 rcases aH b with ⟨c,b⟩|⟨c,b⟩
 ·refine aL c rfl (aI (aF (v:=i64 (-1)) (aG ?_)))
  obtain rfl:=zI b
  exact bF (aR (bB Tryz.results22 rfl ⟨rfl,d⟩))
 ·refine aJ c rfl (aY (aA (aI (aM (v:=i64 (wr (left - (a.length:Int)))) (aF (v:=i64 (wr (left - (a.length:Int)))) (aG ?_))))))
  obtain rfl:=zI b
  exact bF (bB Tryz.results22 rfl ⟨rfl,d⟩)
theorem aHQ {a:cH} {left R:Int} (l:aK G K (L) w) (m:cL K a1 c2 a.L) (n:cL K a4 c5 a.E) (b:aDB a left=some R):
  Calls Tryz.prog 6 ([Value.agg (zCa a a1 c2 a4 c5),i64 left]:List Value).toArray w (gO fun v w'=>v=i64 R∧aK G K (L) w'):=by
 refine aS Tryz.func6 rfl (by kernel_rfl) (by show (2:Nat)≤18;decide) ?_
 unfold aDB at b
 refine aI (eE (v:=Value.agg (zCa a a1 c2 a4 c5)) (vs:=(zC a a1 c2 a4 c5)) l rfl rfl (fun u x j=>(aF (v:=i64 0) (aG (aI (aC (bG (t':=2) fa_25_2 rfl rfl) (aC (cF mG j (i:=0) rfl rfl rfl) (aM (v:=i64 left) ?_))))))))
 obtain ⟨c,o,b⟩:=aB b
 refine aU (vs:=[zS a1 a.L.length c2,i64 left]) Tryz.call21 rfl (aEo j m o) ?_
 rintro _ y ⟨rfl,e⟩
 refine aF (v:=i64 c) (aG (aN (aI (aM (v:=i64 c) (aC (cJ rfl rfl) (aG ?_))))))
 rcases aH b with ⟨g,b⟩|⟨g,b⟩
 ·refine aL g rfl (aI (aF (v:=i64 (-1)) (aG ?_)))
  obtain rfl:=zI b
  exact bF (aR (bB Tryz.results6 rfl ⟨rfl,(aK.arr 1 [] e rfl)⟩))
 ·refine aJ g rfl (aY (aA (aI (aC (bG (t':=3) fa_25_3 rfl rfl) (aC (cF sc_23 e (i:=0) rfl rfl rfl) (aM (v:=i64 c) ?_))))))
  obtain ⟨d,q,b⟩:=aB b
  refine aU (vs:=[zS a4 a.E.length c5,i64 c]) Tryz.call22 rfl (aFQ e n q) ?_
  rintro _ z ⟨rfl,k⟩
  refine aF (v:=i64 d) (aG (aN (aI (aM (v:=i64 d) (aC (cJ rfl rfl) (aG ?_))))))
  rcases aH b with ⟨h,b⟩|⟨h,b⟩
  ·refine aL h rfl (aI (aF (v:=i64 (-1)) (aG ?_)))
   obtain rfl:=zI b
   exact bF (aR (bB Tryz.results6 rfl ⟨rfl,(aK.arr 1 [] k rfl)⟩))
  ·refine aJ h rfl (aY (aA (aI (aM (v:=i64 d) (aF (v:=i64 d) (aG ?_))))))
   obtain rfl:=zI b
   exact bF (bB Tryz.results6 rfl ⟨rfl,(aK.arr 1 [] k rfl)⟩)
theorem rP {n low c:Int} {R:Bool} (e:aK G K (L) w) (a:wC n low c=some R):
  Calls Tryz.prog 67 ([i64 n,i64 low,i64 c]:List Value).toArray w (gO fun v w'=>v=zB R∧aK G K (L) w'):=by
 refine aS Tryz.func67 rfl (by kernel_rfl) (by show (3:Nat)≤15;decide) ?_
 unfold wC at a
 refine aI (aF (v:=zB false) (aG (aN (cN (fun f w=>∃ (d:Bool),aBv d=some R∧f 6=zB d∧aK G K (L) w) ?_ ?_))))
 ·rintro f k ⟨d,a,h,i⟩
  unfold aBv at a
  refine aA ?_
  obtain rfl:=zI a
  exact bF (bB Tryz.results67 rfl ⟨h,i⟩)
 refine aP (aM (v:=i64 n) (aM (v:=i64 low) (aC (uI rfl rfl) (aM (v:=zB (decide (low≤n))) ?_))))
 rcases aH a with ⟨b,a⟩|⟨b,a⟩
 ·exact bA b rfl rfl (aM (v:=i64 n) (bA b rfl rfl (aM (v:=i64 c) (bA b rfl rfl (aC (aDu rfl rfl) (aC (bI (v:=zB (decide (n≤c))) b rfl rfl) (aF (v:=zB (decide (n≤c))) (aG ⟨decide (n≤c),a,rfl,e⟩))))))))
 ·exact aQ b rfl rfl (aQ b rfl rfl (aQ b rfl rfl (aC (bL (v:=zB false) b rfl rfl) (aF (v:=zB false) (aG ⟨false,a,rfl,e⟩)))))
theorem aFR {c:bH} {R:Int} (l:aK G K (L) w) (b:aBb c=some R):
  Calls Tryz.prog 175 ([str c]:List Value).toArray w (gO fun v w'=>v=i64 R∧aK G K (L) w'):=by
 refine aS Tryz.func175 rfl (by kernel_rfl) (by show (1:Nat)≤17;decide) ?_
 unfold aBb at b
 refine aI (aF (v:=i64 0) (aG (aN (aI (aF (v:=i64 0) (aG (bC (fun f w=>yH c=some R∧f 0=str c∧aK G K (L) w) ?_ ?_)))))))
 ·rintro f y ⟨b,m,n⟩
  unfold yH at b
  refine aA (aI (aO m (aC (gY Tryz.runUnderlying9 rfl) (aF (v:=i64 (c.length:Int)) (aG ?_)))))
  obtain rfl:=zI b
  exact bF (bB Tryz.results175 rfl ⟨rfl,n⟩)
 obtain ⟨z,p,b⟩:=aB b
 refine cA p (fun (d:Int) f w=>f 0=str c∧f 3=i64 d∧aK G K (L) w) ?_ ?_
 ·exact ⟨rfl,rfl,l⟩
 ·rintro d q f J a k ⟨e,g,h⟩
  replace a:rE c d=some q:=a
  unfold rE at a
  refine aN (aI (aO g (aO e (aC (gY Tryz.runUnderlying9 rfl) (aC (cJ rfl rfl) (aG ?_))))))
  rcases aH a with ⟨i,a⟩|⟨i,a⟩
  ·refine aL i rfl (aY (aA (aN (cP (aI (aO e (aO g ?_)))))))
   obtain ⟨V,r,a⟩:=aB a
   refine aC (aAU Tryz.runUnderlying9 rfl rfl r) (aC (lC rfl rfl) (aG ?_))
   rcases aH a with ⟨j,a⟩|⟨j,a⟩
   ·refine aL j rfl (aI (aO g (aF (v:=i64 d) (aG (bF (bQ (aR (aR ?_))))))))
    have t:=k _ (zI a).symm
    subst t
    have b:(some d)=some R:=b
    obtain rfl:=zI b
    exact bQ (aR (aR (bB Tryz.results175 rfl ⟨rfl,h⟩)))
   ·exact aJ j rfl (aY (bE (aA (aP (aO g (aC (cM rfl rfl) (aF (v:=i64 (wr (d+1))) (aG ⟨wr (d+1),(zI a).symm,e,rfl,h⟩))))))))
  ·refine aJ i rfl (bZ (aW (aW ?_)))
   have x:=k _ (zI a).symm
   subst x
   have b:(yH c)=some R:=b
   exact bO (aA ⟨b,e,h⟩)
theorem aBJ {c:UInt8} {R:Bool} (e:aK G K (L) w) (a:zZ c=some R):
  Calls Tryz.prog 320 ([Value.int .u8 (c.toNat:Int)]:List Value).toArray w (gO fun v w'=>v=zB R∧aK G K (L) w'):=by
 refine aS Tryz.func320 rfl (by kernel_rfl) (by show (1:Nat)≤9;decide) ?_
 unfold zZ at a
 refine aI (aF (v:=zB false) (aG (aN (cN (fun f w=>∃ (d:Bool),wD d=some R∧f 2=zB d∧aK G K (L) w) ?_ ?_))))
 ·rintro f k ⟨d,a,h,i⟩
  unfold wD at a
  refine aA ?_
  obtain rfl:=zI a
  exact bF (bB Tryz.results320 rfl ⟨h,i⟩)
 refine aP (aM (v:=Value.int .u8 (c.toNat:Int)) (aC (uI rfl rfl) (aM (v:=zB (decide (97≤(c.toNat:Int)))) ?_)))
 rcases aH a with ⟨b,a⟩|⟨b,a⟩
 ·exact bA b rfl rfl (aM (v:=Value.int .u8 (c.toNat:Int)) (bA b rfl rfl (aC (aDu rfl rfl) (aC (bI (v:=zB (decide ((c.toNat:Int)≤122))) b rfl rfl) (aF (v:=zB (decide ((c.toNat:Int)≤122))) (aG ⟨decide ((c.toNat:Int)≤122),a,rfl,e⟩))))))
 ·exact aQ b rfl rfl (aQ b rfl rfl (aC (bL (v:=zB false) b rfl rfl) (aF (v:=zB false) (aG ⟨false,a,rfl,e⟩))))
theorem aBK {c:UInt8} {R:Bool} (e:aK G K (L) w) (a:aAa c=some R):
  Calls Tryz.prog 321 ([Value.int .u8 (c.toNat:Int)]:List Value).toArray w (gO fun v w'=>v=zB R∧aK G K (L) w'):=by
 refine aS Tryz.func321 rfl (by kernel_rfl) (by show (1:Nat)≤9;decide) ?_
 unfold aAa at a
 refine aI (aF (v:=zB false) (aG (aN (cN (fun f w=>∃ (d:Bool),wE d=some R∧f 2=zB d∧aK G K (L) w) ?_ ?_))))
 ·rintro f k ⟨d,a,h,i⟩
  unfold wE at a
  refine aA ?_
  obtain rfl:=zI a
  exact bF (bB Tryz.results321 rfl ⟨h,i⟩)
 refine aP (aM (v:=Value.int .u8 (c.toNat:Int)) (aC (uI rfl rfl) (aM (v:=zB (decide (48≤(c.toNat:Int)))) ?_)))
 rcases aH a with ⟨b,a⟩|⟨b,a⟩
 ·exact bA b rfl rfl (aM (v:=Value.int .u8 (c.toNat:Int)) (bA b rfl rfl (aC (aDu rfl rfl) (aC (bI (v:=zB (decide ((c.toNat:Int)≤57))) b rfl rfl) (aF (v:=zB (decide ((c.toNat:Int)≤57))) (aG ⟨decide ((c.toNat:Int)≤57),a,rfl,e⟩))))))
 ·exact aQ b rfl rfl (aQ b rfl rfl (aC (bL (v:=zB false) b rfl rfl) (aF (v:=zB false) (aG ⟨false,a,rfl,e⟩))))
theorem aCk {c:bH} {R:Bool} (l:aK G K (L) w) (a:yZ c=some R):
  Calls Tryz.prog 271 ([str c]:List Value).toArray w (gO fun v w'=>v=zB R∧aK G K (L) w'):=by
 refine aS Tryz.func271 rfl (by kernel_rfl) (by show (1:Nat)≤35;decide) ?_
 unfold yZ at a
 refine aI (aF (v:=zB false) (aG (aN (aN (cN (fun f w=>∃ (m:Bool),oF c m=some R∧f 0=str c∧f 16=zB m∧aK G K (L) w) ?_ ?_)))))
 ·rintro f w4 ⟨m,a,e2,r,t⟩
  unfold oF at a
  refine aA ?_
  rcases aH a with ⟨n,a⟩|⟨n,a⟩
  ·refine aL n r (aI (aF (v:=zB false) (aG ?_)))
   obtain rfl:=zI a
   exact bF (aR (bB Tryz.results271 rfl ⟨rfl,t⟩))
  ·refine aJ n r (aY (aA (aN (aI (aF (v:=i64 0) (aG (bC (fun f w=>uO=some R∧aK G K (L) w) ?_ ?_)))))))
   ·rintro f w8 ⟨a,a5⟩
    unfold uO at a
    refine aA (aI (aF (v:=zB true) (aG ?_)))
    obtain rfl:=zI a
    exact bF (bB Tryz.results271 rfl ⟨rfl,a5⟩)
   obtain ⟨c3,a7,a⟩:=aB a
   refine cA a7 (fun (i:Int) f w=>f 0=str c∧f 3=i64 i∧aK G K (L) w) ?_ ?_
   ·exact ⟨e2,rfl,t⟩
   ·rintro i u f c4 b x ⟨j,k,y⟩
    replace b:rF c i=some u:=b
    unfold rF at b
    refine aN (aI (aO k (aO j (aC (gY Tryz.runUnderlying9 rfl) (aC (cJ rfl rfl) (aG ?_))))))
    rcases aH b with ⟨o,b⟩|⟨o,b⟩
    ·refine aL o rfl (aY (aA (aN (cP (aN (cN (fun f w=>∃ (p:Bool),uP i p=some u∧f 0=str c∧f 3=i64 i∧f 34=zB p∧aK G K (L) w) ?_ ?_))))))
     ·rintro f c5 ⟨p,b,a8,a9,z,J⟩
      unfold uP at b
      refine aA ?_
      rcases aH b with ⟨q,b⟩|⟨q,b⟩
      ·refine aL q z (aI (aF (v:=zB false) (aG (bF (bQ (aR (aR ?_)))))))
       have b0:=x _ (zI b).symm
       subst b0
       have a:(some false)=some R:=a
       obtain rfl:=zI a
       exact bQ (aR (aR (bB Tryz.results271 rfl ⟨rfl,J⟩)))
      ·exact aJ q z (aY (bE (aA (aP (aO a9 (aC (cM rfl rfl) (aF (v:=i64 (wr (i+1))) (aG ⟨wr (i+1),(zI b).symm,a8,rfl,J⟩))))))))
     refine aP (aO j (aO k ?_))
     obtain ⟨V,Z,b⟩:=aB b
     refine aC (aAU Tryz.runUnderlying9 rfl rfl Z) ?_
     obtain ⟨b2,b3,b⟩:=aB b
     refine aU (vs:=[Value.int .u8 (V.toNat:Int)]) Tryz.call320 rfl (aBJ y b3) ?_
     rintro _ c7 ⟨rfl,a0⟩
     refine aC (fH rfl) (aM (v:=zB (!b2)) ?_)
     rcases aH b with ⟨d,b⟩|⟨d,b⟩
     ·refine bA d rfl rfl (aO j (bA d rfl rfl (aO k (bA d rfl rfl (aC (aAU Tryz.runUnderlying9 rfl rfl Z) (bA d rfl rfl ?_))))))
      obtain ⟨a1,b4,b⟩:=aB b
      refine aU (vs:=[Value.int .u8 (V.toNat:Int)]) Tryz.call321 rfl (aBK a0 b4) ?_
      rintro _ c8 ⟨rfl,b5⟩
      exact bA d rfl rfl (aC (fH rfl) (aC (bI (v:=zB (!a1)) d rfl rfl) (aG ⟨!a1,b,j,k,rfl,b5⟩)))
     ·exact aQ d rfl rfl (aQ d rfl rfl (aQ d rfl rfl (aQ d rfl rfl (aQ d rfl rfl (aC (bL (v:=zB false) d rfl rfl) (aG ⟨false,b,j,k,rfl,a0⟩))))))
    ·refine aJ o rfl (bZ (aW (aW ?_)))
     have b6:=x _ (zI b).symm
     subst b6
     have a:(uO)=some R:=a
     exact bO (aA ⟨a,y⟩)
 refine aP (aM (v:=str c) (aC (vR rfl rfl) (aM (v:=zB (c == ([]:bH))) ?_)))
 rcases aH a with ⟨h,a⟩|⟨h,a⟩
 ·exact aZ h rfl rfl (aZ h rfl rfl (aZ h rfl rfl (aC (bI (v:=zB true) h rfl rfl) (aM (v:=zB true) (aZ (rfl:true=true) rfl rfl (aZ (rfl:true=true) rfl rfl (aZ (rfl:true=true) rfl rfl (aZ (rfl:true=true) rfl rfl (aC (bI (v:=zB true) (rfl:true=true) rfl rfl) (aG ⟨true,a,rfl,rfl,l⟩))))))))))
 ·refine bN h rfl rfl (aM (v:=str c) (bN h rfl rfl (aC (gY Tryz.runUnderlying9 rfl) (bN h rfl rfl (aC (qC rfl rfl) (aC (bL (v:=zB (decide (10 < (c.length:Int)))) h rfl rfl) (aM (v:=zB (decide (10 < (c.length:Int)))) ?_)))))))
  rcases aH a with ⟨e,a⟩|⟨e,a⟩
  ·exact aZ e rfl rfl (aZ e rfl rfl (aZ e rfl rfl (aZ e rfl rfl (aC (bI (v:=zB true) e rfl rfl) (aG ⟨true,a,rfl,rfl,l⟩)))))
  ·refine bN e rfl rfl (aM (v:=str c) (bN e rfl rfl ?_))
   obtain ⟨b7,b8,a⟩:=aB a
   refine aC (aAU Tryz.runUnderlying9 rfl rfl b8) (bN e rfl rfl ?_)
   obtain ⟨a2,b9,a⟩:=aB a
   refine aU (vs:=[Value.int .u8 (b7.toNat:Int)]) Tryz.call320 rfl (aBJ l b9) ?_
   rintro _ c9 ⟨rfl,c0⟩
   exact bN e rfl rfl (aC (fH rfl) (aC (bL (v:=zB (!a2)) e rfl rfl) (aG ⟨!a2,a,rfl,rfl,c0⟩)))
theorem aEp {b:bH} {R:Bool} (h:aK G K (L) w) (a:xE b=some R):
  Calls Tryz.prog 258 ([str b]:List Value).toArray w (gO fun v w'=>v=zB R∧aK G K (L) w'):=by
 refine aS Tryz.func258 rfl (by kernel_rfl) (by show (1:Nat)≤9;decide) ?_
 unfold xE at a
 refine aI (aF (v:=zB false) (aG (aN (cN (fun f w=>∃ (d:Bool),qI d=some R∧f 2=zB d∧aK G K (L) w) ?_ ?_))))
 ·rintro f n ⟨d,a,i,j⟩
  unfold qI at a
  refine aA ?_
  obtain rfl:=zI a
  exact bF (bB Tryz.results258 rfl ⟨i,j⟩)
 refine aP (aM (v:=str b) ?_)
 obtain ⟨l,m,a⟩:=aB a
 refine aU (vs:=[str b]) Tryz.call271 rfl (aCk h m) ?_
 rintro _ o ⟨rfl,e⟩
 refine aM (v:=zB l) ?_
 rcases aH a with ⟨c,a⟩|⟨c,a⟩
 ·exact bA c rfl rfl (aM (v:=str b) (bA c rfl rfl (aC (aAG rfl rfl) (aC (bI (v:=zB (!(b == ([116,97,117]:bH)))) c rfl rfl) (aF (v:=zB (!(b == ([116,97,117]:bH)))) (aG ⟨!(b == ([116,97,117]:bH)),a,rfl,e⟩))))))
 ·exact aQ c rfl rfl (aQ c rfl rfl (aC (bL (v:=zB false) c rfl rfl) (aF (v:=zB false) (aG ⟨false,a,rfl,e⟩))))
theorem aFb {d:bH} {by_:UInt8} {R:(List bH)} (hs:aK G K (L) w) (b:aAb d by_=some R):
  Calls Tryz.prog 272 ([str d,Value.int .u8 (by_.toNat:Int)]:List Value).toArray w (gO fun v w'=>∃ (b1:Option Addr) (b2:Nat),v=zS b1 R.length b2∧aK G K (aV 9 K b1 b2 R::L) w'):=by
 refine aS Tryz.func272 rfl (by kernel_rfl) (by show (2:Nat)≤35;decide) ?_
 unfold aAb at b
 refine aI (aF (v:=zS none 0 0) (aG (aI (dJ (Kt:=K) (xs:=([]:List bH)) (cs:=[]) (vs:=[]) cO aAo rfl rfl hs rfl (by kernel_rfl) rfl rfl rfl trivial (fun z w2 (b7:aK G K (aV 9 K z 0 ([]:List bH)::L) w2)=>(aF (v:=zS z ([]:List bH).length 0) (aG (aI (aF (v:=i64 0) (aG (aN (aI (aF (v:=i64 0) (aG (bC (fun f w=>∃ (n:List bH) (J:Int) (p:Option Addr) (q:Nat),sB d n J=some R∧f 0=str d∧f 5=zS p n.length q∧f 6=i64 J∧aK G K (aV 9 K p q n::L) w) ?_ ?_)))))))))))))))
 ·rintro f f0 ⟨n,J,p,q,b,e8,e9,c0,c1⟩
  unfold sB at b
  refine aA (aI (aO e9 (aO e8 (aO c0 ?_))))
  obtain ⟨r,c2,b⟩:=aB b
  refine aC (R_slSL Tryz.runUnderlying9 rfl rfl c2) (dJ (Kt:=K) (xs:=([r]:List bH)) (cs:=[str r]) (vs:=[(0,str r)]) cO aAo rfl rfl c1 rfl (by kernel_rfl) rfl rfl rfl ⟨rfl,trivial⟩ (fun c3 c4 (c5:aK G K (aV 9 K c3 1 ([r]:List bH)::aV 9 K p q n::L) c4)=>?_))
  obtain ⟨b3,c7,b⟩:=aB b
  refine iA (i:=0) cO Tryz.underlying22 aAo rfl rfl c5 rfl (zR _) (zR _) c7 rfl rfl rfl rfl (fun _ h=>h) (fun V Z c8 (c9:aK G K (aV 9 K V Z b3::L) c8)=>(aF (v:=zS V b3.length Z) (aG ?_)))
  obtain rfl:=zI b
  exact bF (bB Tryz.results272 rfl ⟨V,Z,rfl,c9⟩)
 obtain ⟨f1,d1,b⟩:=aB b
 refine cA d1 (fun (s:(List bH × Int × Int)) f w=>match s with|(e,g,c)=>∃ (j:Option Addr) (k:Nat),f 0=str d∧f 1=Value.int .u8 (by_.toNat:Int)∧f 5=zS j e.length k∧f 6=i64 g∧f 7=i64 c∧aK G K (aV 9 K j k e::L) w) ?_ ?_
 ·exact ⟨z,0,rfl,rfl,rfl,rfl,rfl,b7⟩
 ·rintro ⟨e,g,c⟩ b4 f f2 a d2 ⟨j,k,l,a0,a2,a3,m,a4⟩
  replace a:sC d by_ e g c=some b4:=a
  unfold sC at a
  refine aN (aI (aO m (aO l (aC (gY Tryz.runUnderlying9 rfl) (aC (cJ rfl rfl) (aG ?_))))))
  rcases aH a with ⟨a6,a⟩|⟨a6,a⟩
  ·refine aL a6 rfl (aY (aA (aN (bC (fun f w=>∃ (o:List bH) (t:Int) (u:Option Addr) (x:Nat),pJ c o t=some b4∧f 0=str d∧f 1=Value.int .u8 (by_.toNat:Int)∧f 5=zS u o.length x∧f 6=i64 t∧f 7=i64 c∧aK G K (aV 9 K u x o::L) w) ?_ ?_))))
   ·rintro f f3 ⟨o,t,u,x,a,d3,d4,d5,d6,d7,d8⟩
    unfold pJ at a
    exact aA (aP (aO d7 (aC (cM rfl rfl) (aF (v:=i64 (wr (c+1))) (aG ⟨(o,t,wr (c+1)),(zI a).symm,u,x,d3,d4,d5,d6,rfl,d8⟩)))))
   refine aI (aO l (aO m ?_))
   obtain ⟨f4,d9,a⟩:=aB a
   refine aC (aAU Tryz.runUnderlying9 rfl rfl d9) (aO a0 (aC (lC rfl rfl) (aG ?_)))
   rcases aH a with ⟨a7,a⟩|⟨a7,a⟩
   ·refine aL a7 rfl (aI (aO a2 (aO l (aO a3 (aO m ?_)))))
    obtain ⟨y,e0,a⟩:=aB a
    refine aC (R_slSLH Tryz.runUnderlying9 rfl rfl rfl e0) (dJ (Kt:=K) (xs:=([y]:List bH)) (cs:=[str y]) (vs:=[(0,str y)]) cO aAo rfl rfl a4 rfl (by kernel_rfl) rfl rfl rfl ⟨rfl,trivial⟩ (fun e1 e2 (e3:aK G K (aV 9 K e1 1 ([y]:List bH)::aV 9 K j k e::L) e2)=>?_))
    obtain ⟨a8,e4,a⟩:=aB a
    exact iA (i:=0) cO Tryz.underlying22 aAo rfl rfl e3 rfl (zR _) (zR _) e4 rfl rfl rfl rfl (fun _ h=>h) (fun a9 b0 e5 (e6:aK G K (aV 9 K a9 b0 a8::L) e5)=>(aF (v:=zS a9 a8.length b0) (aG (aP (aO m (aC (cM rfl rfl) (aF (v:=i64 (wr (c+1))) (bK (bE (aA ⟨a8,wr (c+1),a9,b0,a,l,a0,rfl,rfl,m,e6⟩))))))))))
   ·exact aJ a7 rfl (aY (bE (aA ⟨e,g,j,k,a,l,a0,a2,a3,m,a4⟩)))
  ·refine aJ a6 rfl (bZ (aW (aW ?_)))
   have e7:=d2 _ (zI a).symm
   subst e7
   have b:(sB d e g)=some R:=b
   exact bO (aA ⟨e,g,j,k,b,l,a2,a3,a4⟩)
theorem aEq {d:bH} {R:(Int × Bool)} (hs:aK G K (L) w) (c:tV d=some R):
  Calls Tryz.prog 273 ([str d]:List Value).toArray w (gO fun v w'=>v=zT #[i64 R.1,zB R.2]∧aK G K (L) w'):=by
 refine aS Tryz.func273 rfl (by kernel_rfl) (by show (1:Nat)≤62;decide) ?_
 unfold tV at c
 refine aI (aF (v:=i64 0) (aF (v:=zB false) (aG (aI (aF (v:=i64 0) (aG (aAF (fun f w=>∃ (i:Int),nH d i=some R∧f 0=str d∧f 4=i64 i∧aK G K (L) w) ?_ ?_)))))))
 ·rintro f w4 ⟨i,c,m,n,r⟩
  unfold nH at c
  refine aN (aN (cN (fun f w=>∃ (z:Bool),jZ d i z=some R∧f 0=str d∧f 4=i64 i∧f 36=zB z∧aK G K (L) w) ?_ ?_))
  ·rintro f d6 ⟨z,c,e7,e8,e9,a6⟩
   unfold jZ at c
   refine aA ?_
   rcases aH c with ⟨J,c⟩|⟨J,c⟩
   ·refine aL J e9 (aI (aF (v:=i64 0) (aF (v:=zB false) (aG ?_))))
    obtain rfl:=zI c
    exact bF (aR (rS Tryz.results273 rfl rfl ⟨rfl,a6⟩))
   ·refine aJ J e9 (aY (aA (aI (aF (v:=i64 0) (aG (aN (aI (aO e8 (aF (v:=i64 i) (aG (bC (fun f w=>∃ (p:Int),qJ i p=some R∧f 4=i64 i∧f 5=i64 p∧aK G K (L) w) ?_ ?_)))))))))))
    ·rintro f d7 ⟨p,c,c1,a7,a8⟩
     unfold qJ at c
     refine aA (aAF (fun f w=>∃ (t:Int),uQ t=some R∧f 5=i64 t∧aK G K (L) w) ?_ ?_)
     ·rintro f d8 ⟨t,c,c2,c3⟩
      unfold uQ at c
      refine aI (aO c2 (aF (v:=i64 t) (aF (v:=zB true) (aG ?_))))
      obtain rfl:=zI c
      exact bF (rS Tryz.results273 rfl rfl ⟨rfl,c3⟩)
     refine aI (aO c1 (aC (lC rfl rfl) (aG ?_)))
     rcases aH c with ⟨V,c⟩|⟨V,c⟩
     ·exact aL V rfl (aP (aO a7 (aC (R_neg rfl) (aF (v:=i64 (wr (0 - p))) (aG ⟨wr (0 - p),c,rfl,a8⟩)))))
     ·exact aJ V rfl (aY (aA ⟨p,c,a7,a8⟩))
    obtain ⟨d9,c5,c⟩:=aB c
    refine cA c5 (fun (s:(Int × Int)) f w=>match s with|(o,q)=>f 0=str d∧f 4=i64 i∧f 5=i64 o∧f 6=i64 q∧aK G K (L) w) ?_ ?_
    ·exact ⟨e7,e8,rfl,rfl,a6⟩
    ·rintro ⟨o,q⟩ c6 f e0 h a9 ⟨u,b0,b1,x,b2⟩
     replace h:lK d o q=some c6:=h
     unfold lK at h
     refine aN (aI (aO x (aO u (aC (gY Tryz.runUnderlying9 rfl) (aC (cJ rfl rfl) (aG ?_))))))
     rcases aH h with ⟨Z,h⟩|⟨Z,h⟩
     ·refine aL Z rfl (aY (aA (aN (cP (aN (aI (aO u (aO x ?_))))))))
      obtain ⟨y,b3,h⟩:=aB h
      refine aC (aAU Tryz.runUnderlying9 rfl rfl b3) ?_
      obtain ⟨e1,c7,h⟩:=aB h
      refine aU (vs:=[Value.int .u8 (y.toNat:Int)]) Tryz.call321 rfl (aBK b2 c7) ?_
      rintro _ e4 ⟨rfl,b4⟩
      refine aC (fH rfl) (aG ?_)
      rcases aH h with ⟨a0,h⟩|⟨a0,h⟩
      ·refine aL a0 rfl (aI (aF (v:=i64 0) (aF (v:=zB false) (aG (bF (aR (bQ (aR (aR ?_)))))))))
       have c8:=a9 _ (zI h).symm
       subst c8
       have c:(some (0,false))=some R:=c
       obtain rfl:=zI c
       exact bQ (aR (aR (rS Tryz.results273 rfl rfl ⟨rfl,b4⟩)))
      ·exact aJ a0 rfl (aY (aA (aP (aO b1 (aC (R_mul rfl rfl) (aO u (aO x (aC (aAU Tryz.runUnderlying9 rfl rfl b3) (aC (R_u8sub' (a:=y) (b:=(48:UInt8)) rfl rfl) (aC (aIB Tryz.runUnderlying2 rfl ⟨_,Tryz.runUnderlying5⟩) (aC (cM rfl rfl) (aF (v:=i64 (wr ((wr (10 * o))+(wr ((y - (48:UInt8)).toNat:Int))))) (bK (bE (aA (aP (aO x (aC (cM rfl rfl) (aF (v:=i64 (wr (q+1))) (aG ⟨(wr ((wr (10 * o))+(wr ((y - (48:UInt8)).toNat:Int))),wr (q+1)),(zI h).symm,u,b0,rfl,rfl,b4⟩))))))))))))))))))))
     ·refine aJ Z rfl (bZ (aW (aW ?_)))
      have d0:=a9 _ (zI h).symm
      subst d0
      have c:(qJ i o)=some R:=c
      exact bO (aA ⟨o,c,b0,b1,b2⟩)
  refine aP (aO m (aC (gY Tryz.runUnderlying9 rfl) (aO n (aC (lC rfl rfl) (aM (v:=zB ((d.length:Int) == i)) ?_)))))
  rcases aH c with ⟨j,c⟩|⟨j,c⟩
  ·exact aZ j rfl rfl (aZ j rfl rfl (aZ j rfl rfl (aZ j rfl rfl (aZ j rfl rfl (aC (bI (v:=zB true) j rfl rfl) (aM (v:=zB true) (aZ (rfl:true=true) rfl rfl (aZ (rfl:true=true) rfl rfl (aZ (rfl:true=true) rfl rfl (aZ (rfl:true=true) rfl rfl (aZ (rfl:true=true) rfl rfl (fR (g:=31) rfl rfl (fR (g:=31) rfl rfl (fR (g:=31) rfl rfl (aZ (rfl:true=true) rfl rfl (aC (bI (v:=zB true) (rfl:true=true) rfl rfl) (aG ⟨true,c,m,n,rfl,r⟩)))))))))))))))))
  ·refine bN j rfl rfl (aO m (bN j rfl rfl (aC (gY Tryz.runUnderlying9 rfl) (bN j rfl rfl (aO n (bN j rfl rfl (aC (kO rfl rfl) (bN j rfl rfl (aC (qC rfl rfl) (aC (bL (v:=zB (decide (18 < wr ((d.length:Int) - i)))) j rfl rfl) (aM (v:=zB (decide (18 < wr ((d.length:Int) - i)))) ?_)))))))))))
   rcases aH c with ⟨e,c⟩|⟨e,c⟩
   ·exact aZ e rfl rfl (aZ e rfl rfl (aZ e rfl rfl (aZ e rfl rfl (aZ e rfl rfl (fR (g:=31) rfl rfl (fR (g:=31) rfl rfl (fR (g:=31) rfl rfl (aZ e rfl rfl (aC (bI (v:=zB true) e rfl rfl) (aG ⟨true,c,m,n,rfl,r⟩))))))))))
   ·refine bN e rfl rfl (aO m (bN e rfl rfl (aO n (bN e rfl rfl ?_))))
    obtain ⟨d1,d2,c⟩:=aB c
    refine aC (aAU Tryz.runUnderlying9 rfl rfl d2) (bN e rfl rfl (aC (lC rfl rfl) (bN e rfl rfl (aM (v:=zB ((d1.toNat:Int) == 48)) ?_))))
    rcases aH c with ⟨k,c⟩|⟨k,c⟩
    ·exact bA k rfl rfl (aO m (bA k rfl rfl (aC (gY Tryz.runUnderlying9 rfl) (bA k rfl rfl (aC (qC rfl rfl) (bN e rfl rfl (aC (bI (v:=zB (decide (1 < (d.length:Int)))) k rfl rfl) (aC (bL (v:=zB (decide (1 < (d.length:Int)))) e rfl rfl) (aG ⟨decide (1 < (d.length:Int)),c,m,n,rfl,r⟩)))))))))
    ·exact aQ k rfl rfl (aQ k rfl rfl (aQ k rfl rfl (bN e rfl rfl (aC (bL (v:=zB false) k rfl rfl) (aC (bL (v:=zB false) e rfl rfl) (aG ⟨false,c,m,n,rfl,r⟩))))))
 refine aN (cN (fun f w=>∃ (a1:Bool),nI d a1=some R∧f 0=str d∧f 4=i64 0∧f 14=zB a1∧aK G K (L) w) ?_ ?_)
 ·rintro f e5 ⟨a1,c,b5,d3,b6,b7⟩
  unfold nI at c
  refine aA ?_
  rcases aH c with ⟨a2,c⟩|⟨a2,c⟩
  ·exact aL a2 b6 (aP (aF (v:=i64 1) (aG ⟨1,c,b5,rfl,b7⟩)))
  ·exact aJ a2 b6 (aY (aA ⟨0,c,b5,d3,b7⟩))
 refine aP (aM (v:=str d) (aC (gY Tryz.runUnderlying9 rfl) (aC (qC rfl rfl) (aM (v:=zB (decide (0 < (d.length:Int)))) ?_))))
 rcases aH c with ⟨l,c⟩|⟨l,c⟩
 ·refine bA l rfl rfl (aM (v:=str d) (bA l rfl rfl ?_))
  obtain ⟨b8,d4,c⟩:=aB c
  exact aC (aAU Tryz.runUnderlying9 rfl rfl d4) (bA l rfl rfl (aC (lC rfl rfl) (aC (bI (v:=zB ((b8.toNat:Int) == 45)) l rfl rfl) (aG ⟨(b8.toNat:Int) == 45,c,rfl,rfl,rfl,hs⟩))))
 ·exact aQ l rfl rfl (aQ l rfl rfl (aQ l rfl rfl (aC (bL (v:=zB false) l rfl rfl) (aG ⟨false,c,rfl,rfl,rfl,hs⟩))))
theorem aEr {e:bH} {R:((List Int) × Bool)} (hs:aK G K (L) w) (a:aAw e=some R):
  Calls Tryz.prog 212 ([str e]:List Value).toArray w (gO fun v w'=>∃ (b3:Option Addr) (b4:Nat),v=zT #[zS b3 R.1.length b4,zB R.2]∧aK G K (aV 2 K b3 b4 R.1::L) w'):=by
 refine aS Tryz.func212 rfl (by kernel_rfl) (by show (1:Nat)≤70;decide) ?_
 unfold aAw at a
 refine aI (aF (v:=zS none 0 0) (aF (v:=zB false) (aG (aI (aM (v:=str e) ?_)))))
 obtain ⟨u,q2,a⟩:=aB a
 refine aU (vs:=[str e]) Tryz.call175 rfl (aFR hs q2) ?_
 rintro _ w3 ⟨rfl,b5⟩
 refine aF (v:=i64 u) (aG (aN (aI (aM (v:=i64 u) (aM (v:=str e) (aC (gY Tryz.runUnderlying9 rfl) (aC (lC rfl rfl) (aG ?_))))))))
 rcases aH a with ⟨Z,a⟩|⟨Z,a⟩
 ·refine aL Z rfl (aI (dJ (Kt:=K) (xs:=([]:List Int)) (cs:=[]) (vs:=[]) cG qE rfl rfl b5 rfl (by kernel_rfl) rfl rfl rfl trivial (fun a6 w7 (d2:aK G K (aV 2 K a6 0 ([]:List Int)::L) w7)=>(aM (v:=str e) ?_))))
  obtain ⟨r9,d4,a⟩:=aB a
  refine aU (vs:=[str e]) Tryz.call271 rfl (aCk d2 d4) ?_
  rintro _ h4 ⟨rfl,d5⟩
  refine aF (v:=zS a6 ([]:List Int).length 0) (aF (v:=zB r9) (aG ?_))
  obtain rfl:=zI a
  exact bF (aR (rS Tryz.results212 rfl rfl ⟨a6,0,rfl,d5⟩))
 ·refine aJ Z rfl (aY (aA (aN (aN (cN (fun f w=>∃ (a1:Bool),nK e u a1=some R∧f 0=str e∧f 4=i64 u∧f 31=zB a1∧aK G K (L) w) ?_ ?_)))))
  ·rintro f h5 ⟨a1,a,b6,d7,b7,b8⟩
   unfold nK at a
   refine aA ?_
   rcases aH a with ⟨a2,a⟩|⟨a2,a⟩
   ·refine aL a2 b7 (aI (aF (v:=zS none 0 0) (aF (v:=zB false) (aG ?_))))
    have d8:=aK.nil (α:=Int) b8 2 K
    obtain rfl:=zI a
    exact bF (aR (rS Tryz.results212 rfl rfl ⟨none,0,rfl,d8⟩))
   ·refine aJ a2 b7 (aY (aA (aI (aO b6 (aO d7 (aC (cM rfl rfl) (aO b6 (aC (gY Tryz.runUnderlying9 rfl) (aC (kO rfl rfl) ?_)))))))))
    obtain ⟨e0,e1,a⟩:=aB a
    refine aC (R_slSLH Tryz.runUnderlying9 rfl rfl rfl e1) ?_
    obtain ⟨j,e2,a⟩:=aB a
    refine aU (vs:=[str e0,Value.int .u8 44]) Tryz.call272 rfl (aFb (by_:=(44:UInt8)) b8 e2) ?_
    rintro _ h6 ⟨m,n,rfl,e3⟩
    refine aF (v:=zS m j.length n) (aG (aI (dJ (Kt:=K) (xs:=([]:List Int)) (cs:=[]) (vs:=[]) cG qE rfl rfl e3 rfl (by kernel_rfl) rfl rfl rfl trivial (fun a3 e4 (e5:aK G K (aV 2 K a3 0 ([]:List Int)::aV 9 K m n j::L) e4)=>(aF (v:=zS a3 ([]:List Int).length 0) (aG (aN (aI (aF (v:=i64 0) (aG (bC (fun f w=>∃ (o:List Int) (x:Option Addr) (y:Nat),qK o=some R∧f 6=zS x o.length y∧aK G K (aV 2 K x y o::L) w) ?_ ?_)))))))))))
    ·rintro f h7 ⟨o,x,y,a,b9,e6⟩
     unfold qK at a
     refine aA (aI (aO b9 (aO b9 (aC (bT (len:=o.length) cG rfl) (aC (aDu rfl rfl) (aF (v:=zS x o.length y) (aF (v:=zB (decide ((o.length:Int)≤2))) (aG ?_))))))))
     obtain rfl:=zI a
     exact bF (rS Tryz.results212 rfl rfl ⟨x,y,rfl,e6⟩)
    obtain ⟨h8,e8,a⟩:=aB a
    refine cA e8 (fun (s:(List Int × Int)) f w=>match s with|(k,p)=>∃ (q:Option Addr) (r:Nat),f 5=zS m j.length n∧f 6=zS q k.length r∧f 7=i64 p∧aK G K (aV 2 K q r k::aV 9 K m n j::L) w) ?_ ?_
    ·exact ⟨a3,0,rfl,rfl,rfl,e5⟩
    ·rintro ⟨k,p⟩ c0 f h9 b c1 ⟨q,r,z,a4,J,V⟩
     replace b:nJ j k p=some c0:=b
     unfold nJ at b
     refine aN (aI (aO J (aO z (aC (bT (len:=j.length) cO rfl) (aC (cJ rfl rfl) (aG ?_))))))
     rcases aH b with ⟨a5,b⟩|⟨a5,b⟩
     ·refine aL a5 rfl (aY (aA (aN (cP (aI (aO z (aO J ?_)))))))
      obtain ⟨e9,a7,b⟩:=aB b
      have f0:=dM V (i:=1) rfl a7
      refine aC (eB cO rfl f0 rfl rfl rfl a7) (aC (lX (t:=0) pU V (i:=1) rfl a7 rfl rfl rfl) ?_)
      obtain ⟨d,f1,b⟩:=aB b
      refine aU (vs:=[str e9]) Tryz.call273 rfl (aEq V f1) ?_
      rintro _ i0 ⟨rfl,c2⟩
      refine aM (v:=zT #[i64 d.1,zB d.2]) (aC (dE rfl rfl) (aC (dE rfl rfl) (aF (v:=i64 d.1) (aF (v:=zB d.2) (aG (aN (aN (cN (fun f w=>∃ (a8:Bool),qL k p d a8=some c0∧f 5=zS m j.length n∧f 6=zS q k.length r∧f 7=i64 p∧f 8=i64 d.1∧f 61=zB a8∧aK G K (aV 2 K q r k::aV 9 K m n j::L) w) ?_ ?_))))))))
      ·rintro f i1 ⟨a8,b,f2,f3,f4,f5,c3,c4⟩
       unfold qL at b
       refine aA ?_
       rcases aH b with ⟨a9,b⟩|⟨a9,b⟩
       ·refine aL a9 c3 (aI (aF (v:=zS none 0 0) (aF (v:=zB false) (aG (bF (aR (bQ (aR (aR ?_)))))))))
        have f6:=c1 _ (zI b).symm
        subst f6
        have a:(some ([],false))=some R:=a
        have f7:=aK.nil (α:=Int) c4 2 K
        obtain rfl:=zI a
        exact bQ (aR (aR (rS Tryz.results212 rfl rfl ⟨none,0,rfl,(aK.arr 3 [0] f7 rfl)⟩)))
       ·refine aJ a9 c3 (aY (aA (aP (aO f3 (aO f5 (dJ (Kt:=K) (xs:=([d.1]:List Int)) (cs:=[i64 d.1]) (vs:=[(0,i64 d.1)]) cG qE rfl rfl c4 rfl (by kernel_rfl) rfl rfl rfl ⟨rfl,trivial⟩ (fun f9 g0 (g1:aK G K (aV 2 K f9 1 ([d.1]:List Int)::aV 2 K q r k::aV 9 K m n j::L) g0)=>?_)))))))
        obtain ⟨b0,g2,b⟩:=aB b
        exact iA (i:=0) cG Tryz.underlying38 qE rfl rfl g1 rfl (zR _) (zR _) g2 rfl rfl rfl rfl (fun _ h=>h) (fun b1 b2 g3 (g4:aK G K (aV 2 K b1 b2 b0::aV 9 K m n j::L) g3)=>(aF (v:=zS b1 b0.length b2) (bK (bE (aA (aP (aO f4 (aC (cM rfl rfl) (aF (v:=i64 (wr (p+1))) (aG ⟨(b0,wr (p+1)),(zI b).symm,b1,b2,f2,rfl,rfl,g4⟩))))))))))
      refine aP (aM (v:=zB d.2) (aC (fH rfl) (aM (v:=zB (!d.2)) ?_)))
      rcases aH b with ⟨l,b⟩|⟨l,b⟩
      ·exact aZ l rfl rfl (aZ l rfl rfl (aZ l rfl rfl (aC (bI (v:=zB true) l rfl rfl) (aG ⟨true,b,z,a4,J,rfl,rfl,c2⟩))))
      ·refine bN l rfl rfl (aM (v:=i64 d.1) (bN l rfl rfl ?_))
       obtain ⟨c6,g5,b⟩:=aB b
       refine aU (vs:=[i64 d.1,i64 0,i64 63]) Tryz.call67 rfl (rP c2 g5) ?_
       rintro _ i2 ⟨rfl,g6⟩
       exact bN l rfl rfl (aC (fH rfl) (aC (bL (v:=zB (!c6)) l rfl rfl) (aG ⟨!c6,b,z,a4,J,rfl,rfl,g6⟩)))
     ·refine aJ a5 rfl (bZ (aW (aW ?_)))
      have g7:=c1 _ (zI b).symm
      subst g7
      have a:(qK k)=some R:=a
      exact bO (aA ⟨k,q,r,a,a4,(aK.arr 2 [0] V rfl)⟩)
  refine aP (aM (v:=str e) (aM (v:=i64 u) ?_))
  obtain ⟨g8,g9,a⟩:=aB a
  refine aC (R_slSH Tryz.runUnderlying9 rfl rfl g9) ?_
  obtain ⟨h0,h1,a⟩:=aB a
  refine aU (vs:=[str g8]) Tryz.call258 rfl (aEp b5 h1) ?_
  rintro _ i3 ⟨rfl,c7⟩
  refine aC (fH rfl) (aM (v:=zB (!h0)) ?_)
  rcases aH a with ⟨c,a⟩|⟨c,a⟩
  ·exact aZ c rfl rfl (aZ c rfl rfl (aZ c rfl rfl (aZ c rfl rfl (aZ c rfl rfl (aZ c rfl rfl (aC (bI (v:=zB true) c rfl rfl) (aG ⟨true,a,rfl,rfl,rfl,c7⟩)))))))
  ·refine bN c rfl rfl (aM (v:=str e) (bN c rfl rfl (aM (v:=str e) (bN c rfl rfl (aC (gY Tryz.runUnderlying9 rfl) (bN c rfl rfl (aC (kO rfl rfl) (bN c rfl rfl ?_))))))))
   obtain ⟨c8,h2,a⟩:=aB a
   exact aC (aAU Tryz.runUnderlying9 rfl rfl h2) (bN c rfl rfl (aC (oC rfl rfl) (aC (bL (v:=zB ((c8.toNat:Int) != 41)) c rfl rfl) (aG ⟨(c8.toNat:Int) != 41,a,rfl,rfl,rfl,c7⟩))))
theorem aFc {b:bH} {R:Bool} (g:aK G K (L) w) (c:aAc b=some R):
  Calls Tryz.prog 157 ([str b]:List Value).toArray w (gO fun v w'=>v=zB R∧aK G K (L) w'):=by
 refine aS Tryz.func157 rfl (by kernel_rfl) (by show (1:Nat)≤11;decide) ?_
 unfold aAc at c
 refine aI (aF (v:=zB false) (aG (aI (aM (v:=str b) ?_))))
 obtain ⟨a,h,c⟩:=aB c
 refine aU (vs:=[str b]) Tryz.call212 rfl (aEr g h) ?_
 rintro _ k ⟨d,e,rfl,i⟩
 refine aM (v:=zT #[zS d a.1.length e,zB a.2]) (aC (dE rfl rfl) (aC (dE rfl rfl) (aF (v:=zS d a.1.length e) (aF (v:=zB a.2) (aG (aI (aM (v:=zB a.2) (aF (v:=zB a.2) (aG ?_)))))))))
 obtain rfl:=zI c
 exact bF (bB Tryz.results157 rfl ⟨rfl,(aK.arr 1 [] i rfl)⟩)
theorem aFd {e:(List bH)} {R:Bool} (q:aK G K (L) w) (n:cL K a1 c2 e) (c:aAd e=some R):
  Calls Tryz.prog 68 ([zS a1 e.length c2]:List Value).toArray w (gO fun v w'=>v=zB R∧aK G K (L) w'):=by
 refine aS Tryz.func68 rfl (by kernel_rfl) (by show (1:Nat)≤53;decide) ?_
 unfold aAd at c
 refine aI (aF (v:=zB false) (aG (aN (aN (cN (fun f w=>∃ (u:Bool),pL e u=some R∧f 0=zS a1 e.length c2∧f 17=zB u∧aK G K (L) w) ?_ ?_)))))
 ·rintro f w7 ⟨u,c,e5,e6,a2⟩
  unfold pL at c
  refine aA ?_
  rcases aH c with ⟨x,c⟩|⟨x,c⟩
  ·refine aL x e6 (aI (aF (v:=zB false) (aG ?_)))
   obtain rfl:=zI c
   exact bF (aR (bB Tryz.results68 rfl ⟨rfl,a2⟩))
  ·refine aJ x e6 (aY (aA (aN (aI (aF (v:=i64 1) (aG (bC (fun f w=>wF=some R∧aK G K (L) w) ?_ ?_)))))))
   ·rintro f d4 ⟨c,b3⟩
    unfold wF at c
    refine aA (aI (aF (v:=zB true) (aG ?_)))
    obtain rfl:=zI c
    exact bF (bB Tryz.results68 rfl ⟨rfl,b3⟩)
   obtain ⟨d5,b5,c⟩:=aB c
   refine cA b5 (fun (o:Int) f w=>f 0=zS a1 e.length c2∧f 3=i64 o∧aK G K (L) w) ?_ ?_
   ·exact ⟨e5,rfl,a2⟩
   ·rintro o a3 f d6 b a4 ⟨l,k,a⟩
    replace b:pK e o=some a3:=b
    unfold pK at b
    refine aN (aI (aO k (aO l (aC (bT (len:=e.length) cO rfl) (aC (cJ rfl rfl) (aG ?_))))))
    rcases aH b with ⟨y,b⟩|⟨y,b⟩
    ·refine aL y rfl (aY (aA (aN (cP (aN (cN (fun f w=>∃ (z:Bool),mQ o z=some a3∧f 0=zS a1 e.length c2∧f 3=i64 o∧f 52=zB z∧aK G K (L) w) ?_ ?_))))))
     ·rintro f d7 ⟨z,b,b6,b7,a5,a6⟩
      unfold mQ at b
      refine aA ?_
      rcases aH b with ⟨J,b⟩|⟨J,b⟩
      ·refine aL J a5 (aI (aF (v:=zB false) (aG (bF (bQ (aR (aR ?_)))))))
       have b8:=a4 _ (zI b).symm
       subst b8
       have c:(some false)=some R:=c
       obtain rfl:=zI c
       exact bQ (aR (aR (bB Tryz.results68 rfl ⟨rfl,a6⟩)))
      ·exact aJ J a5 (aY (bE (aA (aP (aO b7 (aC (cM rfl rfl) (aF (v:=i64 (wr (o+1))) (aG ⟨wr (o+1),(zI b).symm,b6,rfl,a6⟩))))))))
     refine eK (C:=fun w'=>aK G K (L) w') bU (by kernel_rfl) (aK.mono a (dQ.drew _)) (aX (fun _ a=>bD l) (aX (fun _ a=>bD k) ?_))
     obtain ⟨p,r,b⟩:=aB b
     refine aX (fun _ a=>cT cO rfl n rfl rfl rfl r) ?_
     obtain ⟨d8,V,c0⟩:=cL.el (sz:=1) rfl n r
     cases c0
     refine aX (fun _ a=>bJ (t:=0) pU a V rfl rfl) ?_
     obtain ⟨a7,c1,b⟩:=aB b
     refine rA (vs:=[str p]) (v:=zB a7) Tryz.call157 rfl (fun _ a=>(aFc a c1)) (aX (fun _ a=>fH rfl) (aX (fun _ a=>bD (v:=zB (!a7)) rfl) ?_))
     rcases aH b with ⟨h,b⟩|⟨h,b⟩
     ·refine aT (g:=30) rfl rfl (bS h) (aT (g:=30) rfl rfl (bS h) (aT (g:=30) rfl rfl (bS h) (aT (g:=30) rfl rfl (bS h) (aT (g:=30) rfl rfl (bS h) (aX (fun _ a=>bI (v:=zB true) h rfl rfl) (aX (fun _ a=>bD (v:=zB true) rfl) (aT (g:=37) rfl rfl (bS (rfl:true=true)) (aT (g:=37) rfl rfl (bS (rfl:true=true)) (aT (g:=37) rfl rfl (bS (rfl:true=true)) (bP (g:=40) rfl rfl (bP (g:=40) rfl rfl (bP (g:=40) rfl rfl (bP (g:=40) rfl rfl (bP (g:=40) rfl rfl (bP (g:=40) rfl rfl (bP (g:=40) rfl rfl (bP (g:=40) rfl rfl (bP (g:=40) rfl rfl (bP (g:=40) rfl rfl (aT (g:=37) rfl rfl (bS (rfl:true=true)) (aX (fun _ a=>bI (v:=zB true) (rfl:true=true) rfl rfl) (eG (fun d9 c3=>?_)))))))))))))))))))))))
      exact aA ⟨true,b,l,k,rfl,c3⟩
     ·refine bM (g:=30) rfl rfl (bR h) (aX (fun _ a=>bD l) (bM (g:=30) rfl rfl (bR h) (aX (fun _ a=>bD k) (bM (g:=30) rfl rfl (bR h) (aX (fun _ a=>cT cO rfl n rfl rfl rfl r) (bM (g:=30) rfl rfl (bR h) (aX (fun _ a=>bJ (t:=0) pU a V rfl rfl) (bM (g:=30) rfl rfl (bR h) (aX (fun _ a=>vR rfl rfl) (aX (fun _ a=>bL (v:=zB (p == ([116,97,117]:bH))) h rfl rfl) (aX (fun _ a=>bD (v:=zB (p == ([116,97,117]:bH))) rfl) ?_)))))))))))
      rcases aH b with ⟨i,b⟩|⟨i,b⟩
      ·exact aT (g:=37) rfl rfl (bS i) (aT (g:=37) rfl rfl (bS i) (aT (g:=37) rfl rfl (bS i) (bP (g:=40) rfl rfl (bP (g:=40) rfl rfl (bP (g:=40) rfl rfl (bP (g:=40) rfl rfl (bP (g:=40) rfl rfl (bP (g:=40) rfl rfl (bP (g:=40) rfl rfl (bP (g:=40) rfl rfl (bP (g:=40) rfl rfl (bP (g:=40) rfl rfl (aT (g:=37) rfl rfl (bS i) (aX (fun _ a=>bI (v:=zB true) i rfl rfl) (eG (fun e0 c4=>(aA ⟨true,b,l,k,rfl,c4⟩)))))))))))))))))
      ·refine bM (g:=37) rfl rfl (bR i) (aX (fun _ a=>bD k) (bM (g:=37) rfl rfl (bR i) (aX (fun _ a=>qC rfl rfl) (bM (g:=37) rfl rfl (bR i) (aX (fun _ a=>bD (v:=zB (decide (1 < o))) rfl) ?_)))))
       rcases aH b with ⟨d,b⟩|⟨d,b⟩
       ·refine bM (g:=40) rfl rfl d (aX (fun _ a=>bD l) (bM (g:=40) rfl rfl d (aX (fun _ a=>bD k) (bM (g:=40) rfl rfl d (aX (fun _ a=>kO rfl rfl) (bM (g:=40) rfl rfl d ?_))))))
        obtain ⟨Z,a8,b⟩:=aB b
        refine aX (fun _ a=>cT cO rfl n rfl rfl rfl a8) ?_
        obtain ⟨e1,c5,c6⟩:=cL.el (sz:=1) rfl n a8
        cases c6
        exact bM (g:=40) rfl rfl d (aX (fun _ a=>bJ (t:=0) pU a c5 rfl rfl) (bM (g:=40) rfl rfl d (aX (fun _ a=>bD l) (bM (g:=40) rfl rfl d (aX (fun _ a=>bD k) (bM (g:=40) rfl rfl d (aX (fun _ a=>cT cO rfl n rfl rfl rfl r) (bM (g:=40) rfl rfl d (aX (fun _ a=>bJ (t:=0) pU a V rfl rfl) (bM (g:=40) rfl rfl d (aX (fun _ a=>R_geqS rfl rfl) (bM (g:=37) rfl rfl (bR i) (aX (fun _ a=>bI (v:=zB (!xY Z p)) d rfl rfl) (aX (fun _ a=>bL (v:=zB (!xY Z p)) i rfl rfl) (eG (fun e2 c7=>(aA ⟨!xY Z p,b,l,k,rfl,c7⟩)))))))))))))))))
       ·exact aT (g:=40) rfl rfl (cB d) (aT (g:=40) rfl rfl (cB d) (aT (g:=40) rfl rfl (cB d) (aT (g:=40) rfl rfl (cB d) (aT (g:=40) rfl rfl (cB d) (aT (g:=40) rfl rfl (cB d) (aT (g:=40) rfl rfl (cB d) (aT (g:=40) rfl rfl (cB d) (aT (g:=40) rfl rfl (cB d) (aT (g:=40) rfl rfl (cB d) (bM (g:=37) rfl rfl (bR i) (aX (fun _ a=>bL (v:=zB false) d rfl rfl) (aX (fun _ a=>bL (v:=zB false) i rfl rfl) (eG (fun e3 c8=>(aA ⟨false,b,l,k,rfl,c8⟩)))))))))))))))
    ·refine aJ y rfl (bZ (aW (aW ?_)))
     have d0:=a4 _ (zI b).symm
     subst d0
     have c:(wF)=some R:=c
     exact bO (aA ⟨c,a⟩)
 refine aP (aM (v:=zS a1 e.length c2) (aC (bT (len:=e.length) cO rfl) (aC (lC rfl rfl) (aM (v:=zB ((e.length:Int) == 0)) ?_))))
 rcases aH c with ⟨m,c⟩|⟨m,c⟩
 ·exact aZ m rfl rfl (aZ m rfl rfl (aZ m rfl rfl (aC (bI (v:=zB true) m rfl rfl) (aM (v:=zB true) (aZ (rfl:true=true) rfl rfl (aZ (rfl:true=true) rfl rfl (aZ (rfl:true=true) rfl rfl (aZ (rfl:true=true) rfl rfl (aC (bI (v:=zB true) (rfl:true=true) rfl rfl) (aG ⟨true,c,rfl,rfl,q⟩))))))))))
 ·refine bN m rfl rfl (aM (v:=zS a1 e.length c2) (bN m rfl rfl (aC (bT (len:=e.length) cO rfl) (bN m rfl rfl (aC (qC rfl rfl) (aC (bL (v:=zB (decide (12 < (e.length:Int)))) m rfl rfl) (aM (v:=zB (decide (12 < (e.length:Int)))) ?_)))))))
  rcases aH c with ⟨j,c⟩|⟨j,c⟩
  ·exact aZ j rfl rfl (aZ j rfl rfl (aZ j rfl rfl (aZ j rfl rfl (aC (bI (v:=zB true) j rfl rfl) (aG ⟨true,c,rfl,rfl,q⟩)))))
  ·refine bN j rfl rfl (aM (v:=zS a1 e.length c2) (bN j rfl rfl ?_))
   obtain ⟨a9,b0,c⟩:=aB c
   refine aC (cT cO rfl n rfl rfl rfl b0) ?_
   obtain ⟨e4,d1,d2⟩:=cL.el (sz:=1) rfl n b0
   cases d2
   exact bN j rfl rfl (aC (bJ (t:=0) pU q d1 rfl rfl) (bN j rfl rfl (aC (aAG rfl rfl) (aC (bL (v:=zB (!(a9 == ([116,97,117]:bH)))) j rfl rfl) (aG ⟨!(a9 == ([116,97,117]:bH)),c,rfl,rfl,q⟩)))))
theorem aCl {a:Edge} {h:Nat} {b:Edge} {i:Nat} {R:Bool} (j:aK G K (L) w) (e:fV K a1 h [i64 a.F,i64 a.B,i64 a.To]) (g:fV K a4 i [i64 b.F,i64 b.B,i64 b.To]) (k:zD a b=some R):
  Calls Tryz.prog 69 ([bV a1 h,bV a4 i]:List Value).toArray w (gO fun v w'=>v=zB R∧aK G K (L) w'):=by
 refine aS Tryz.func69 rfl (by kernel_rfl) (by show (2:Nat)≤50;decide) ?_
 unfold zD at k
 refine aI (aF (v:=zB false) (aG (aN (aN (eK (C:=fun w'=>aK G K (L) w') bU (by kernel_rfl) (aK.mono j (dQ.drew _)) (aX (fun _ j=>bD (v:=bV a1 h) rfl) (aX (fun _ j=>cS rfl e) (aX (fun _ j=>cC (k':=h+0) fJ rfl e rfl) (aX (fun _ j=>bJ (t:=0) cE j e rfl rfl) (aX (fun _ j=>bD (v:=bV a4 i) rfl) (aX (fun _ j=>cS rfl g) (aX (fun _ j=>cC (k':=i+0) fJ rfl g rfl) (aX (fun _ j=>bJ (t:=0) cE j g rfl rfl) (aX (fun _ j=>oC rfl rfl) (eG (fun x d=>(aA ?_)))))))))))))))))
 rcases aH k with ⟨l,k⟩|⟨l,k⟩
 ·refine aL l rfl (aN (eK (C:=fun w'=>aK G K (L) w') bU (by kernel_rfl) (aK.mono d (dQ.drew _)) (aX (fun _ d=>bD (v:=bV a1 h) rfl) (aX (fun _ d=>cS rfl e) (aX (fun _ d=>cC (k':=h+0) fJ rfl e rfl) (aX (fun _ d=>bJ (t:=0) cE d e rfl rfl) (aX (fun _ d=>bD (v:=bV a4 i) rfl) (aX (fun _ d=>cS rfl g) (aX (fun _ d=>cC (k':=i+0) fJ rfl g rfl) (aX (fun _ d=>bJ (t:=0) cE d g rfl rfl) (aX (fun _ d=>cJ rfl rfl) (aX (fun _ d=>gF (v:=zB (decide (a.F < b.F))) rfl) (eG (fun y n=>(aA ?_)))))))))))))))
  obtain rfl:=zI k
  exact bF (aR (bB Tryz.results69 rfl ⟨rfl,n⟩))
 ·refine aJ l rfl (aY (aA (aN (aN (eK (C:=fun w'=>aK G K (L) w') bU (by kernel_rfl) (aK.mono d (dQ.drew _)) (aX (fun _ d=>bD (v:=bV a1 h) rfl) (aX (fun _ d=>cS rfl e) (aX (fun _ d=>cC (k':=h+1) gB rfl e rfl) (aX (fun _ d=>bJ (t:=1) cE d e rfl rfl) (aX (fun _ d=>bD (v:=bV a4 i) rfl) (aX (fun _ d=>cS rfl g) (aX (fun _ d=>cC (k':=i+1) gB rfl g rfl) (aX (fun _ d=>bJ (t:=1) cE d g rfl rfl) (aX (fun _ d=>oC rfl rfl) (eG (fun z c=>(aA ?_)))))))))))))))))
  rcases aH k with ⟨m,k⟩|⟨m,k⟩
  ·refine aL m rfl (aN (eK (C:=fun w'=>aK G K (L) w') bU (by kernel_rfl) (aK.mono c (dQ.drew _)) (aX (fun _ c=>bD (v:=bV a1 h) rfl) (aX (fun _ c=>cS rfl e) (aX (fun _ c=>cC (k':=h+1) gB rfl e rfl) (aX (fun _ c=>bJ (t:=1) cE c e rfl rfl) (aX (fun _ c=>bD (v:=bV a4 i) rfl) (aX (fun _ c=>cS rfl g) (aX (fun _ c=>cC (k':=i+1) gB rfl g rfl) (aX (fun _ c=>bJ (t:=1) cE c g rfl rfl) (aX (fun _ c=>cJ rfl rfl) (aX (fun _ c=>gF (v:=zB (decide (a.B < b.B))) rfl) (eG (fun J p=>(aA ?_)))))))))))))))
   obtain rfl:=zI k
   exact bF (aR (bB Tryz.results69 rfl ⟨rfl,p⟩))
  ·refine aJ m rfl (aY (aA (aN (eK (C:=fun w'=>aK G K (L) w') bU (by kernel_rfl) (aK.mono c (dQ.drew _)) (aX (fun _ c=>bD (v:=bV a1 h) rfl) (aX (fun _ c=>cS rfl e) (aX (fun _ c=>cC (k':=h+2) eM rfl e rfl) (aX (fun _ c=>bJ (t:=2) cE c e rfl rfl) (aX (fun _ c=>bD (v:=bV a4 i) rfl) (aX (fun _ c=>cS rfl g) (aX (fun _ c=>cC (k':=i+2) eM rfl g rfl) (aX (fun _ c=>bJ (t:=2) cE c g rfl rfl) (aX (fun _ c=>cJ rfl rfl) (aX (fun _ c=>gF (v:=zB (decide (a.To < b.To))) rfl) (eG (fun V r=>(aA ?_)))))))))))))))))
   obtain rfl:=zI k
   exact bF (bB Tryz.results69 rfl ⟨rfl,r⟩)
end Gv
