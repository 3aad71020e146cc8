/- Walks, printed by program. -/
import Derived.Test.YtohbafhnoifmoaaGreatDoorTJLW
import Derived.Test.YtohbafhnoifmoaaGreatDoorTJMd
set_option linter.all false
namespace Gv
open Go.Value renaming slice→zS,bool→zB,pointer→zP,agg→zA,tuple→zT
open Option.some renaming inj→zI
open Gv.Hp renaming le_refl→zR
open Go Go.Proofs Go.Proofs.Tryz
set_option maxRecDepth 20000
set_option maxHeartbeats 40000000
variable {G:Env} {K:Hp} {L:List nJ} {w:World} {a1 a4 a7 a10:Option Addr} {c2 c5 c8 c11:Nat}
theorem aFK {d:(List aU)} {R:((List Int) × Bool)} (hs:aI G K (L) w) (hG:G.lo=0) (J:cX K a1 c2 d) (b:vA d=some R):
  Calls Tryz.prog 131 ([zS a1 d.length c2]:List Value).toArray w (gK fun v w'=>∃ (V:Option Addr) (Z:Nat),v=zT #[zS V R.1.length Z,zB R.2]∧aI G K (aK 2 K V Z R.1::L) w'):=by
 refine aW func131 rfl (by kernel_rfl) (by show (1:Nat)≤28;decide) ?_
 unfold vA at b
 refine aL (aF (v:=zS none 0 0) (aF (v:=zB false) (aG (aL (aF (v:=zS none 0 0) (aG (aQ (aL (aO (v:=zS a1 d.length c2) (aD (bU (len:=d.length) bX rfl) (aO (v:=i64 0) (aG (bB (fun f w=>∃ (g:List Int) (j:Option Addr) (k:Nat),tY g=some R∧f 4=zS j g.length k∧aI G K (aK 2 K j k g::L) w) ?_ ?_)))))))))))))
 ·rintro f w8 ⟨g,j,k,b,e7,b1⟩
  unfold tY at b
  refine aA (aL (aN e7 (aF (v:=zS j g.length k) (aF (v:=zB true) (aG ?_)))))
  obtain rfl:=zI b
  exact bM (kF results131 rfl rfl ⟨j,k,rfl,b1⟩)
 have b3:=aI.nil (α:=Int) hs 2 K
 obtain ⟨d2,b4,b⟩:=aB b
 refine cE b4 (fun (s:(List Int × Int)) f w=>match s with|(e,l)=>∃ (m:Option Addr) (n:Nat),f 4=zS m e.length n∧f 9=zS a1 d.length c2∧f 10=i64 (d.length:Int)∧f 11=i64 l∧aI G K (aK 2 K m n e::L) w) ?_ ?_
 ·exact ⟨none,0,rfl,rfl,rfl,rfl,b3⟩
 ·rintro ⟨e,l⟩ b5 f d3 a a0 ⟨m,n,a2,a3,a4,o,p⟩
  replace a:mL d e l=some b5:=a
  unfold mL at a
  refine aL (aD (cL o a4) (aG (aQ ?_)))
  rcases aH a with ⟨q,a⟩|⟨q,a⟩
  ·refine aM q rfl (bA (aA (aQ (cY (aL ?_)))))
   obtain ⟨r,a6,a⟩:=aB a
   refine aD (dI bX rfl J a3 rfl o a6) ?_
   obtain ⟨d4,b6,b7⟩:=cX.el (sz:=1) rfl J a6
   cases b7
   refine aD (bH (t:=0) qB p b6 rfl rfl) (aF (v:=str r) (aG (aL (aO (v:=str r) ?_))))
   obtain ⟨c,b8,a⟩:=aB a
   refine aS (vs:=[str r]) call162 rfl (aHC p hG b8) ?_
   rintro _ d5 ⟨rfl,a7⟩
   refine aO (v:=zT #[i64 c.1,zB c.2]) (aD (bQ rfl rfl) (aD (bQ rfl rfl) (aF (v:=i64 c.1) (aF (v:=zB c.2) (aG (aQ (aL (aO (v:=zB c.2) (aD (eJ rfl) (aG ?_))))))))))
   rcases aH a with ⟨u,a⟩|⟨u,a⟩
   ·refine aM u rfl (aL (aF (v:=zS none 0 0) (aF (v:=zB false) (aG (bM (aV (bV (aV (aV ?_)))))))))
    have b9:=a0 _ (zI a).symm
    subst b9
    have b:(some ([],false))=some R:=b
    have c0:=aI.nil (α:=Int) a7 2 K
    obtain rfl:=zI b
    exact bV (aV (aV (kF results131 rfl rfl ⟨none,0,rfl,(aI.arr 2 [0] c0 rfl)⟩)))
   ·refine aJ u rfl (bA (aA (aP (aN a2 (aO (v:=i64 c.1) (bR (Kt:=K) (xs:=([c.1]:List Int)) (cs:=[i64 c.1]) (vs:=[(0,i64 c.1)]) cF jC rfl rfl a7 rfl (by kernel_rfl) rfl rfl rfl ⟨rfl,trivial⟩ (fun c3 c4 (c5:aI G K (aK 2 K c3 1 ([c.1]:List Int)::aK 2 K m n e::L) c4)=>?_)))))))
    obtain ⟨x,c7,a⟩:=aB a
    exact dG (i:=0) cF underlying35 jC rfl rfl c5 rfl (zR _) (zR _) c7 rfl rfl rfl rfl (fun _ h=>h) (fun y z c8 (c9:aI G K (aK 2 K y z x::L) c8)=>(aF (v:=zS y x.length z) (aZ (bC (aA (aP (aD (cP o rfl) (aO (v:=i64 (wr (l+1))) (aG ⟨(x,wr (l+1)),(zI a).symm,y,z,rfl,a3,a4,rfl,c9⟩)))))))))
  ·refine aJ q rfl (cA (aT (aT ?_)))
   have d0:=a0 _ (zI a).symm
   subst d0
   have b:(tY e)=some R:=b
   exact bJ (aA ⟨e,m,n,b,a2,p⟩)
theorem aFz {d:(List Int)} {j R:aU} (hs:aI G K (L) w) (hG:G.lo=0) (y:cX K a1 c2 d) (b:aDr d j=some R):
  Calls Tryz.prog 72 ([zS a1 d.length c2,str j]:List Value).toArray w (gK fun v w'=>v=str R∧aI G K (L) w'):=by
 refine aW func72 rfl (by kernel_rfl) (by show (2:Nat)≤27;decide) ?_
 unfold aDr at b
 refine aL (aF (v:=str ([]:aU)) (aG (aL (aO (v:=zS a1 d.length c2) (aD (bU (len:=d.length) cF rfl) ?_)))))
 obtain ⟨c,q5,b⟩:=aB b
 refine aFu (e:=([]:aU)) bX gJ rfl rfl hs rfl rfl rfl q5 rfl (fun g w7 (b0:aI G K (aK 9 K g c.length c::L) w7)=>(aF (v:=zS g c.length c.length) (aG (aQ (aL (aO (v:=zS a1 d.length c2) (aD (bU (len:=d.length) cF rfl) (aO (v:=i64 0) (aG (bB (fun f w=>∃ (m:List aU),aAQ j m=some R∧f 1=str j∧f 5=zS g m.length c.length∧aI G K (aK 9 K g c.length m::L) w) ?_ ?_))))))))))
 ·rintro f d3 ⟨m,b,b1,b2,b3⟩
  unfold aAQ at b
  refine aA (aL (aN b2 (aN b1 ?_)))
  obtain ⟨d4,d5,b4,b5,b6⟩:=aI.lendS (i:=0) b3 (zR _) rfl
  obtain ⟨b7,b8,b⟩:=aB b
  refine aS (vs:=[zS g m.length c.length,str j]) call111 rfl (lib_Join b5 hG b4 b8) ?_
  rintro _ d6 ⟨rfl,b9⟩
  have c0:=b6 _ _ b9
  refine aF (v:=str b7) (aG ?_)
  obtain rfl:=zI b
  exact bM (bP results72 rfl ⟨rfl,(aI.arr 1 [] c0 rfl)⟩)
 obtain ⟨d7,c3,b⟩:=aB b
 refine cE c3 (fun (s:(List aU × Int)) f w=>match s with|(l,k)=>f 1=str j∧f 5=zS g l.length c.length∧f 11=zS a1 d.length c2∧f 12=i64 (d.length:Int)∧f 13=i64 k∧aI G K (aK 9 K g c.length l::L) w) ?_ ?_
 ·exact ⟨rfl,rfl,rfl,rfl,rfl,b0⟩
 ·rintro ⟨l,k⟩ c4 f d8 a c5 ⟨z,p,J,V,o,q⟩
  replace a:wX d l k=some c4:=a
  unfold wX at a
  refine aL (aD (cL o V) (aG (aQ ?_)))
  rcases aH a with ⟨r,a⟩|⟨r,a⟩
  ·refine aM r rfl (bA (aA (aQ (cY (aL (aN o ?_))))))
   obtain ⟨u,Z,a⟩:=aB a
   refine aD (dI cF rfl y J rfl o Z) ?_
   obtain ⟨d9,c6,c7⟩:=cX.el (sz:=1) rfl y Z
   cases c7
   refine aD (bH (t:=0) cK q c6 rfl rfl) (aF (v:=i64 k) (aF (v:=i64 u) (aG (aP (aN p (aO (v:=i64 k) (aO (v:=i64 u) ?_)))))))
   obtain ⟨a0,c8,a⟩:=aB a
   refine aS (vs:=[i64 u]) call110 rfl (aLM q c8) ?_
   rintro _ e0 ⟨rfl,a2⟩
   obtain ⟨e1,x,a⟩:=aB a
   have c9:=dA a2 (i:=0) rfl x
   refine aD (dT bX rfl c9 rfl rfl rfl x) ?_
   obtain ⟨a3,a4,a⟩:=aB a
   exact nG (i:=0) (t:=0) (ns:=[str a0]) (e':=(a0:aU)) sizeOf9 a2 rfl (zR _) rfl rfl rfl x a4 rfl rfl (dE rfl) rfl (fun cs h=>by cases h;rfl) (fun d0 (d1:aI G K (aK 9 K g c.length a3::L) d0)=>(aZ (bC (aA (aP (aD (cP o rfl) (aO (v:=i64 (wr (k+1))) (aG ⟨(a3,wr (k+1)),(zI a).symm,z,(Eq.trans p (congrArg (fun n=>zS g n c.length) (lE a4))),J,V,rfl,d1⟩))))))))
  ·refine aJ r rfl (cA (aT (aT ?_)))
   have d2:=c5 _ (zI a).symm
   subst d2
   have b:(aAQ j l)=some R:=b
   exact bJ (aA ⟨l,b,z,p,q⟩)
theorem aIz {c:UInt8} {R:Bool} (e:aI G K (L) w) (a:aFc c=some R):
  Calls Tryz.prog 239 ([Value.int .u8 (c.toNat:Int)]:List Value).toArray w (gK fun v w'=>v=zB R∧aI G K (L) w'):=by
 refine aW func239 rfl (by kernel_rfl) (by show (1:Nat)≤9;decide) ?_
 unfold aFc at a
 refine aL (aF (v:=zB false) (aG (aQ (cN (fun f w=>∃ (d:Bool),aBD d=some R∧f 2=zB d∧aI G K (L) w) ?_ ?_))))
 ·rintro f k ⟨d,a,h,i⟩
  unfold aBD at a
  refine aA ?_
  obtain rfl:=zI a
  exact bM (bP results239 rfl ⟨h,i⟩)
 refine aP (aO (v:=Value.int .u8 (c.toNat:Int)) (aD (zV rfl rfl) (aO (v:=zB (decide (48≤(c.toNat:Int)))) ?_)))
 rcases aH a with ⟨b,a⟩|⟨b,a⟩
 ·exact bD b rfl rfl (aO (v:=Value.int .u8 (c.toNat:Int)) (bD b rfl rfl (aD (aEw rfl rfl) (aD (bL (v:=zB (decide ((c.toNat:Int)≤57))) b rfl rfl) (aF (v:=zB (decide ((c.toNat:Int)≤57))) (aG ⟨decide ((c.toNat:Int)≤57),a,rfl,e⟩))))))
 ·exact aR b rfl rfl (aR b rfl rfl (aD (bK (v:=zB false) b rfl rfl) (aF (v:=zB false) (aG ⟨false,a,rfl,e⟩))))
theorem aJL {c:aU} {R:Bool} (hs:aI G K (L) w) (b:aEE c=some R):
  Calls Tryz.prog 207 ([str c]:List Value).toArray w (gK fun v w'=>v=zB R∧aI G K (L) w'):=by
 refine aW func207 rfl (by kernel_rfl) (by show (1:Nat)≤42;decide) ?_
 unfold aEE at b
 refine aL (aF (v:=zB false) (aG (aQ (aL (aO (v:=str c) (aD (iG runUnderlying9 rfl) (aO (v:=i64 0) (aG (bB (fun f w=>aAR c=some R∧f 0=str c∧aI G K (L) w) ?_ ?_)))))))))
 ·rintro f w2 ⟨b,e1,a1⟩
  unfold aAR at b
  refine aA (aQ (cN (fun f w=>∃ (p:Bool),aCT p=some R∧f 2=zB p∧aI G K (L) w) ?_ ?_))
  ·rintro f w6 ⟨p,b,e5,a9⟩
   unfold aCT at b
   refine aA ?_
   obtain rfl:=zI b
   exact bM (bP results207 rfl ⟨e5,a9⟩)
  refine aP (aN e1 (aD (iG runUnderlying9 rfl) (aD (zV rfl rfl) (aO (v:=zB (decide (1≤(c.length:Int)))) ?_))))
  rcases aH b with ⟨j,b⟩|⟨j,b⟩
  ·exact bD j rfl rfl (aN e1 (bD j rfl rfl (aD (iG runUnderlying9 rfl) (bD j rfl rfl (aD (aEw rfl rfl) (aD (bL (v:=zB (decide ((c.length:Int)≤10))) j rfl rfl) (aF (v:=zB (decide ((c.length:Int)≤10))) (aG ⟨decide ((c.length:Int)≤10),b,rfl,a1⟩))))))))
  ·exact aR j rfl rfl (aR j rfl rfl (aR j rfl rfl (aD (bK (v:=zB false) j rfl rfl) (aF (v:=zB false) (aG ⟨false,b,rfl,a1⟩)))))
 obtain ⟨c5,b1,b⟩:=aB b
 refine cE b1 (fun (d:Int) f w=>f 0=str c∧f 6=i64 (c.length:Int)∧f 7=i64 d∧aI G K (L) w) ?_ ?_
 ·exact ⟨rfl,rfl,rfl,hs⟩
 ·rintro d q f c6 a a2 ⟨k,r,l,t⟩
  replace a:sF c d=some q:=a
  unfold sF at a
  refine aL (aD (cL l r) (aG (aQ ?_)))
  rcases aH a with ⟨u,a⟩|⟨u,a⟩
  ·refine aM u rfl (bA (aA (aQ (cY (aL (aN l (aF (v:=i64 d) (aG (aQ (cN (fun f w=>∃ (m:Bool),pT c d m=some q∧f 0=str c∧f 3=i64 d∧f 4=zB m∧f 6=i64 (c.length:Int)∧f 7=i64 d∧aI G K (L) w) ?_ ?_))))))))))
   ·rintro f c7 ⟨m,a,n,a3,b2,x,y,z⟩
    unfold pT at a
    refine aA (aQ (cN (fun f w=>∃ (J:Bool),wY d J=some q∧f 0=str c∧f 6=i64 (c.length:Int)∧f 7=i64 d∧f 32=zB J∧aI G K (L) w) ?_ ?_))
    ·rintro f c8 ⟨J,a,b3,b4,b5,a4,a5⟩
     unfold wY at a
     refine aA ?_
     rcases aH a with ⟨V,a⟩|⟨V,a⟩
     ·refine aM V a4 (aL (aF (v:=zB false) (aG (bM (bV (aV (aV ?_)))))))
      have b6:=a2 _ (zI a).symm
      subst b6
      have b:(some false)=some R:=b
      obtain rfl:=zI b
      exact bV (aV (aV (bP results207 rfl ⟨rfl,a5⟩)))
     ·exact aJ V a4 (bA (bC (aA (aP (aD (cP b5 rfl) (aO (v:=i64 (wr (d+1))) (aG ⟨wr (d+1),(zI a).symm,b3,b4,rfl,a5⟩)))))))
    refine aP (aN b2 (aD (eJ rfl) (aO (v:=zB (!m)) ?_)))
    rcases aH a with ⟨e,a⟩|⟨e,a⟩
    ·refine bD e rfl rfl (aN a3 (bD e rfl rfl (aD (gE rfl rfl) (bD e rfl rfl (aO (v:=zB (d == 0)) ?_)))))
     rcases aH a with ⟨h,a⟩|⟨h,a⟩
     ·exact aX h rfl rfl (aX h rfl rfl (aX h rfl rfl (aX h rfl rfl (aX h rfl rfl (bD e rfl rfl (aD (bL (v:=zB true) h rfl rfl) (aD (bL (v:=zB true) e rfl rfl) (aG ⟨true,a,n,x,y,rfl,z⟩))))))))
     ·refine bG h rfl rfl (aN n (bG h rfl rfl (aN a3 (bG h rfl rfl ?_))))
      obtain ⟨b8,b9,a⟩:=aB a
      refine aD (aDm runUnderlying9 rfl rfl b9) (bG h rfl rfl ?_)
      obtain ⟨Z,c0,a⟩:=aB a
      refine aS (vs:=[Value.int .u8 (b8.toNat:Int)]) call239 rfl (aIz z c0) ?_
      rintro _ d0 ⟨rfl,c1⟩
      exact bG h rfl rfl (aD (eJ rfl) (bD e rfl rfl (aD (bK (v:=zB (!Z)) h rfl rfl) (aD (bL (v:=zB (!Z)) e rfl rfl) (aG ⟨!Z,a,n,x,y,rfl,c1⟩)))))
    ·exact aR e rfl rfl (aR e rfl rfl (aR e rfl rfl (dP (g:=25) rfl rfl (dP (g:=25) rfl rfl (dP (g:=25) rfl rfl (dP (g:=25) rfl rfl (dP (g:=25) rfl rfl (aR e rfl rfl (aD (bK (v:=zB false) e rfl rfl) (aG ⟨false,a,n,x,y,rfl,z⟩))))))))))
   refine aP (aN k (aO (v:=i64 d) ?_))
   obtain ⟨o,a6,a⟩:=aB a
   refine aD (aDm runUnderlying9 rfl rfl a6) (aD (zV rfl rfl) (aO (v:=zB (decide (97≤(o.toNat:Int)))) ?_))
   rcases aH a with ⟨i,a⟩|⟨i,a⟩
   ·exact bD i rfl rfl (aN k (bD i rfl rfl (aO (v:=i64 d) (bD i rfl rfl (aD (aDm runUnderlying9 rfl rfl a6) (bD i rfl rfl (aD (aEw rfl rfl) (aD (bL (v:=zB (decide ((o.toNat:Int)≤122))) i rfl rfl) (aF (v:=zB (decide ((o.toNat:Int)≤122))) (aG ⟨decide ((o.toNat:Int)≤122),a,k,rfl,rfl,r,l,t⟩))))))))))
   ·exact aR i rfl rfl (aR i rfl rfl (aR i rfl rfl (aR i rfl rfl (aD (bK (v:=zB false) i rfl rfl) (aF (v:=zB false) (aG ⟨false,a,k,rfl,rfl,r,l,t⟩))))))
  ·refine aJ u rfl (cA (aT (aT ?_)))
   have c2:=a2 _ (zI a).symm
   subst c2
   have b:(aAR c)=some R:=b
   exact bJ (aA ⟨b,k,t⟩)
theorem aHD {b:aU} {R:Bool} (h:aI G K (L) w) (a:aCi b=some R):
  Calls Tryz.prog 165 ([str b]:List Value).toArray w (gK fun v w'=>v=zB R∧aI G K (L) w'):=by
 refine aW func165 rfl (by kernel_rfl) (by show (1:Nat)≤9;decide) ?_
 unfold aCi at a
 refine aL (aF (v:=zB false) (aG (aQ (cN (fun f w=>∃ (d:Bool),vB d=some R∧f 2=zB d∧aI G K (L) w) ?_ ?_))))
 ·rintro f n ⟨d,a,i,j⟩
  unfold vB at a
  refine aA ?_
  obtain rfl:=zI a
  exact bM (bP results165 rfl ⟨i,j⟩)
 refine aP (aO (v:=str b) ?_)
 obtain ⟨l,m,a⟩:=aB a
 refine aS (vs:=[str b]) call207 rfl (aJL h m) ?_
 rintro _ o ⟨rfl,e⟩
 refine aO (v:=zB l) ?_
 rcases aH a with ⟨c,a⟩|⟨c,a⟩
 ·exact bD c rfl rfl (aO (v:=str b) (bD c rfl rfl (aD (aId rfl rfl) (aD (bL (v:=zB (!(b == ([116,97,117]:aU)))) c rfl rfl) (aF (v:=zB (!(b == ([116,97,117]:aU)))) (aG ⟨!(b == ([116,97,117]:aU)),a,rfl,e⟩))))))
 ·exact aR c rfl rfl (aR c rfl rfl (aD (bK (v:=zB false) c rfl rfl) (aF (v:=zB false) (aG ⟨false,a,rfl,e⟩))))
theorem rS {n low c:Int} {R:Bool} (e:aI G K (L) w) (a:sG n low c=some R):
  Calls Tryz.prog 61 ([i64 n,i64 low,i64 c]:List Value).toArray w (gK fun v w'=>v=zB R∧aI G K (L) w'):=by
 refine aW func61 rfl (by kernel_rfl) (by show (3:Nat)≤15;decide) ?_
 unfold sG at a
 refine aL (aF (v:=zB false) (aG (aQ (cN (fun f w=>∃ (d:Bool),aAS d=some R∧f 6=zB d∧aI G K (L) w) ?_ ?_))))
 ·rintro f k ⟨d,a,h,i⟩
  unfold aAS at a
  refine aA ?_
  obtain rfl:=zI a
  exact bM (bP results61 rfl ⟨h,i⟩)
 refine aP (aO (v:=i64 n) (aO (v:=i64 low) (aD (zV rfl rfl) (aO (v:=zB (decide (low≤n))) ?_))))
 rcases aH a with ⟨b,a⟩|⟨b,a⟩
 ·exact bD b rfl rfl (aO (v:=i64 n) (bD b rfl rfl (aO (v:=i64 c) (bD b rfl rfl (aD (aEw rfl rfl) (aD (bL (v:=zB (decide (n≤c))) b rfl rfl) (aF (v:=zB (decide (n≤c))) (aG ⟨decide (n≤c),a,rfl,e⟩))))))))
 ·exact aR b rfl rfl (aR b rfl rfl (aR b rfl rfl (aD (bK (v:=zB false) b rfl rfl) (aF (v:=zB false) (aG ⟨false,a,rfl,e⟩)))))
theorem aIA {n:Int} {R:Bool} (b:aI G K (L) w) (a:aFd n=some R):
  Calls Tryz.prog 210 ([i64 n]:List Value).toArray w (gK fun v w'=>v=zB R∧aI G K (L) w'):=by
 refine aW func210 rfl (by kernel_rfl) (by show (1:Nat)≤5;decide) ?_
 unfold aFd at a
 refine aL (aF (v:=zB false) (aG (aL (aO (v:=i64 n) ?_))))
 obtain ⟨c,d,a⟩:=aB a
 refine aS (vs:=[i64 n,i64 0,i64 63]) call61 rfl (rS b d) ?_
 rintro _ h ⟨rfl,e⟩
 refine aF (v:=zB c) (aG ?_)
 obtain rfl:=zI a
 exact bM (bP results210 rfl ⟨rfl,e⟩)
theorem aFo {n:Int} {R:Bool} (b:aI G K (L) w) (a:xQ n=some R):
  Calls Tryz.prog 209 ([i64 n]:List Value).toArray w (gK fun v w'=>v=zB R∧aI G K (L) w'):=by
 refine aW func209 rfl (by kernel_rfl) (by show (1:Nat)≤6;decide) ?_
 unfold xQ at a
 refine aL (aF (v:=zB false) (aG (aL (aO (v:=i64 n) ?_))))
 obtain ⟨c,d,a⟩:=aB a
 refine aS (vs:=[i64 n]) call210 rfl (aIA b d) ?_
 rintro _ h ⟨rfl,e⟩
 refine aD (eJ rfl) (aF (v:=zB (!c)) (aG ?_))
 obtain rfl:=zI a
 exact bM (bP results209 rfl ⟨rfl,e⟩)
theorem tJ {d:(List Int)} {R:Int} (r:aI G K (L) w) (j:cX K a1 c2 d) (b:gG d=some R):
  Calls Tryz.prog 240 ([zS a1 d.length c2,Value.func (.func 209) #[] #[]]:List Value).toArray w (gK fun v w'=>v=i64 R∧aI G K (L) w'):=by
 refine aW func240 rfl (by kernel_rfl) (by show (2:Nat)≤19;decide) ?_
 unfold gG at b
 refine aL (aF (v:=i64 0) (aG (aQ (aL (aO (v:=zS a1 d.length c2) (aD (bU (len:=d.length) cF rfl) (aO (v:=i64 0) (aG (bB (fun f w=>fP=some R∧aI G K (L) w) ?_ ?_)))))))))
 ·rintro f w4 ⟨b,u⟩
  unfold fP at b
  refine aA (aL (aF (v:=i64 (-1)) (aG ?_)))
  obtain rfl:=zI b
  exact bM (bP results240 rfl ⟨rfl,u⟩)
 obtain ⟨a5,y,b⟩:=aB b
 refine cE y (fun (c:Int) f w=>f 0=zS a1 d.length c2∧f 1=Value.func (.func 209) #[] #[]∧f 7=i64 (d.length:Int)∧f 8=i64 c∧aI G K (L) w) ?_ ?_
 ·exact ⟨rfl,rfl,rfl,rfl,r⟩
 ·rintro c z f a6 a k ⟨l,m,n,e,g⟩
  replace a:dW d c=some z:=a
  unfold dW at a
  refine aL (aD (cL e n) (aG (aQ ?_)))
  rcases aH a with ⟨h,a⟩|⟨h,a⟩
  ·refine aM h rfl (bA (aA (aQ (cY (aL (aN e (aF (v:=i64 c) (aG (aL (aN m (aN l (aO (v:=i64 c) ?_))))))))))))
   obtain ⟨o,p,a⟩:=aB a
   refine aD (dI cF rfl j rfl rfl rfl p) ?_
   obtain ⟨a7,J,V⟩:=cX.el (sz:=1) rfl j p
   cases V
   refine aD (bH (t:=0) cK g J rfl rfl) ?_
   obtain ⟨a8,Z,a⟩:=aB a
   refine aCe (vs:=[i64 o]) (caps:=[]) (us:=[i64 o]) rfl call209 rfl rfl (aFo g Z) ?_
   rintro _ a9 ⟨rfl,q⟩
   refine aG ?_
   rcases aH a with ⟨i,a⟩|⟨i,a⟩
   ·refine aM i rfl (aL (aO (v:=i64 c) (aF (v:=i64 c) (aG (bM (bV (aV (aV ?_))))))))
    have a0:=k _ (zI a).symm
    subst a0
    have b:(some c)=some R:=b
    obtain rfl:=zI b
    exact bV (aV (aV (bP results240 rfl ⟨rfl,q⟩)))
   ·exact aJ i rfl (bA (bC (aA (aP (aD (cP e rfl) (aO (v:=i64 (wr (c+1))) (aG ⟨wr (c+1),(zI a).symm,l,m,n,rfl,q⟩)))))))
  ·refine aJ h rfl (cA (aT (aT ?_)))
   have a3:=k _ (zI a).symm
   subst a3
   have b:(fP)=some R:=b
   exact bJ (aA ⟨b,g⟩)
theorem qX {a:(List Int)} {R:Bool} (c:aI G K (L) w) (d:cX K a1 c2 a) (b:fQ a=some R):
  Calls Tryz.prog 208 ([zS a1 a.length c2,Value.func (.func 209) #[] #[]]:List Value).toArray w (gK fun v w'=>v=zB R∧aI G K (L) w'):=by
 refine aW func208 rfl (by kernel_rfl) (by show (2:Nat)≤9;decide) ?_
 unfold fQ at b
 refine aL (aF (v:=zB false) (aG (aL (aO (v:=zS a1 a.length c2) (aO (v:=Value.func (.func 209) #[] #[]) ?_)))))
 obtain ⟨e,g,b⟩:=aB b
 refine aS (vs:=[zS a1 a.length c2,Value.func (.func 209) #[] #[]]) call240 rfl (tJ c d g) ?_
 rintro _ j ⟨rfl,h⟩
 refine aD (zV rfl rfl) (aF (v:=zB (decide (0≤e))) (aG ?_))
 obtain rfl:=zI b
 exact bM (bP results208 rfl ⟨rfl,h⟩)
theorem aGK {a:(List Int)} {R:Bool} (c:aI G K (L) w) (d:cX K a1 c2 a) (b:aAT a=some R):
  Calls Tryz.prog 166 ([zS a1 a.length c2]:List Value).toArray w (gK fun v w'=>v=zB R∧aI G K (L) w'):=by
 refine aW func166 rfl (by kernel_rfl) (by show (1:Nat)≤6;decide) ?_
 unfold aAT at b
 refine aL (aF (v:=zB false) (aG (aL (aO (v:=zS a1 a.length c2) ?_))))
 obtain ⟨e,g,b⟩:=aB b
 refine aS (vs:=[zS a1 a.length c2,Value.func (.func 209) #[] #[]]) call208 rfl (qX c d g) ?_
 rintro _ j ⟨rfl,h⟩
 refine aD (eJ rfl) (aF (v:=zB (!e)) (aG ?_))
 obtain rfl:=zI b
 exact bM (bP results166 rfl ⟨rfl,h⟩)
theorem aIB {c:aU} {b:(List Int)} {R:(aU × Bool)} (o:aI G K (L) w) (u:G.lo=0) (p:cX K a1 c2 b) (a:aDs c b=some R):
  Calls Tryz.prog 134 ([str c,zS a1 b.length c2]:List Value).toArray w (gK fun v w'=>v=zT #[str R.1,zB R.2]∧aI G K (L) w'):=by
 refine aW func134 rfl (by kernel_rfl) (by show (2:Nat)≤37;decide) ?_
 unfold aDs at a
 refine aL (aF (v:=str ([]:aU)) (aF (v:=zB false) (aG (aQ (cY (aL (aO (v:=str c) (aD (zX rfl rfl) (aF (v:=zB (c == ([116,97,117]:aU))) (aG ?_))))))))))
 rcases aH a with ⟨h,a⟩|⟨h,a⟩
 ·refine aM h rfl (aL (aO (v:=zS a1 b.length c2) (aD (bU (len:=b.length) cF rfl) (aD (gE rfl rfl) (aF (v:=str ([116,97,117]:aU)) (aF (v:=zB ((b.length:Int) == 0)) (aG ?_)))))))
  obtain rfl:=zI a
  exact bM (bV (aV (kF results134 rfl rfl ⟨rfl,o⟩)))
 ·refine aJ h rfl (aQ (cN (fun f w=>∃ (i:Bool),tZ c b i=some R∧f 0=str c∧f 1=zS a1 b.length c2∧f 12=zB i∧aI G K (L) w) ?_ ?_))
  ·rintro f a9 ⟨i,a,q,r,t,j⟩
   unfold tZ at a
   refine aA ?_
   rcases aH a with ⟨k,a⟩|⟨k,a⟩
   ·refine aM k t (aL (aF (v:=str ([]:aU)) (aF (v:=zB false) (aG ?_))))
    obtain rfl:=zI a
    exact bM (bV (aV (kF results134 rfl rfl ⟨rfl,j⟩)))
   ·refine aJ k t (aL (aN r (aD (bU (len:=b.length) cF rfl) (aD (gE rfl rfl) (aF (v:=zB ((b.length:Int) == 0)) (aG ?_))))))
    rcases aH a with ⟨l,a⟩|⟨l,a⟩
    ·refine aM l rfl (aL (aN q (aF (v:=str c) (aF (v:=zB true) (aG ?_)))))
     obtain rfl:=zI a
     exact bM (bV (aV (kF results134 rfl rfl ⟨rfl,j⟩)))
    ·refine aJ l rfl (bA (bC (aA (aL (aN q ?_)))))
     obtain ⟨b0,J,a⟩:=aB a
     refine aD (R_cat rfl rfl J) (aN r ?_)
     obtain ⟨b1,V,a⟩:=aB a
     refine aS (vs:=[zS a1 b.length c2,str ([44]:aU)]) call72 rfl (aFz j u p V) ?_
     rintro _ b2 ⟨rfl,Z⟩
     obtain ⟨b3,a0,a⟩:=aB a
     refine aD (R_cat rfl rfl a0) ?_
     obtain ⟨a2,a3,a⟩:=aB a
     refine aD (R_cat rfl rfl a3) (aF (v:=str a2) (aF (v:=zB true) (aG ?_)))
     obtain rfl:=zI a
     exact bM (kF results134 rfl rfl ⟨rfl,Z⟩)
  refine aP (aO (v:=str c) ?_)
  obtain ⟨a5,a6,a⟩:=aB a
  refine aS (vs:=[str c]) call165 rfl (aHD o a6) ?_
  rintro _ b4 ⟨rfl,m⟩
  refine aD (eJ rfl) (aO (v:=zB (!a5)) ?_)
  rcases aH a with ⟨d,a⟩|⟨d,a⟩
  ·exact aX d rfl rfl (aX d rfl rfl (aX d rfl rfl (aD (bL (v:=zB true) d rfl rfl) (aO (v:=zB true) (aX (rfl:true=true) rfl rfl (aX (rfl:true=true) rfl rfl (aX (rfl:true=true) rfl rfl (aD (bL (v:=zB true) (rfl:true=true) rfl rfl) (aF (v:=zB true) (aG ⟨true,a,rfl,rfl,rfl,m⟩))))))))))
  ·refine bG d rfl rfl (aO (v:=zS a1 b.length c2) (bG d rfl rfl (aD (bU (len:=b.length) cF rfl) (bG d rfl rfl (aD (kZ rfl rfl) (aD (bK (v:=zB (decide (2 < (b.length:Int)))) d rfl rfl) (aO (v:=zB (decide (2 < (b.length:Int)))) ?_)))))))
   rcases aH a with ⟨e,a⟩|⟨e,a⟩
   ·exact aX e rfl rfl (aX e rfl rfl (aX e rfl rfl (aD (bL (v:=zB true) e rfl rfl) (aF (v:=zB true) (aG ⟨true,a,rfl,rfl,rfl,m⟩)))))
   ·refine bG e rfl rfl (aO (v:=zS a1 b.length c2) (bG e rfl rfl ?_))
    obtain ⟨n,a7,a⟩:=aB a
    refine aS (vs:=[zS a1 b.length c2]) call166 rfl (aGK m p a7) ?_
    rintro _ b5 ⟨rfl,a8⟩
    exact bG e rfl rfl (aD (eJ rfl) (aD (bK (v:=zB (!n)) e rfl rfl) (aF (v:=zB (!n)) (aG ⟨!n,a,rfl,rfl,rfl,a8⟩))))
theorem uR {d c:aU} {R:Bool} (i:aI G K (L) w) (b:gM d c=some R):
  Calls Tryz.prog 206 ([str d,str c]:List Value).toArray w (gK fun v w'=>v=zB R∧aI G K (L) w'):=by
 refine aW func206 rfl (by kernel_rfl) (by show (2:Nat)≤21;decide) ?_
 unfold gM at b
 refine aL (aF (v:=zB false) (aG (aQ (cN (fun f w=>∃ (e:Bool),eY e=some R∧f 4=zB e∧aI G K (L) w) ?_ ?_))))
 ·rintro f n ⟨e,b,j,k⟩
  unfold eY at b
  refine aA ?_
  obtain rfl:=zI b
  exact bM (bP results206 rfl ⟨j,k⟩)
 refine aP (aO (v:=str d) (aD (iG runUnderlying9 rfl) (aO (v:=str c) (aD (iG runUnderlying9 rfl) (aD (zV rfl rfl) (aO (v:=zB (decide ((c.length:Int)≤(d.length:Int)))) ?_))))))
 rcases aH b with ⟨a,b⟩|⟨a,b⟩
 ·refine bD a rfl rfl (aO (v:=str d) (bD a rfl rfl (aO (v:=str d) (bD a rfl rfl (aD (iG runUnderlying9 rfl) (bD a rfl rfl (aO (v:=str c) (bD a rfl rfl (aD (iG runUnderlying9 rfl) (bD a rfl rfl (aD (kH rfl rfl) (bD a rfl rfl ?_))))))))))))
  obtain ⟨h,m,b⟩:=aB b
  exact aD (R_slSL runUnderlying9 rfl rfl m) (bD a rfl rfl (aO (v:=str c) (bD a rfl rfl (aD (zX rfl rfl) (aD (bL (v:=zB (h == c)) a rfl rfl) (aF (v:=zB (h == c)) (aG ⟨h == c,b,rfl,i⟩)))))))
 ·exact aR a rfl rfl (aR a rfl rfl (aR a rfl rfl (aR a rfl rfl (aR a rfl rfl (aR a rfl rfl (aR a rfl rfl (aR a rfl rfl (aR a rfl rfl (aD (bK (v:=zB false) a rfl rfl) (aF (v:=zB false) (aG ⟨false,b,rfl,i⟩)))))))))))
theorem tK {b c R:aU} (g:aI G K (L) w) (a:gH b c=some R):
  Calls Tryz.prog 164 ([str b,str c]:List Value).toArray w (gK fun v w'=>v=str R∧aI G K (L) w'):=by
 refine aW func164 rfl (by kernel_rfl) (by show (2:Nat)≤16;decide) ?_
 unfold gH at a
 refine aL (aF (v:=str ([]:aU)) (aG (aQ (aL (aO (v:=str b) (aO (v:=str c) ?_))))))
 obtain ⟨m,h,a⟩:=aB a
 refine aS (vs:=[str b,str c]) call206 rfl (uR g h) ?_
 rintro _ n ⟨rfl,e⟩
 refine aG ?_
 rcases aH a with ⟨d,a⟩|⟨d,a⟩
 ·refine aM d rfl (aL (aO (v:=str b) (aO (v:=str b) (aD (iG runUnderlying9 rfl) (aO (v:=str c) (aD (iG runUnderlying9 rfl) (aD (kH rfl rfl) ?_)))))))
  obtain ⟨i,j,a⟩:=aB a
  refine aD (R_slSH runUnderlying9 rfl rfl j) (aF (v:=str i) (aG ?_))
  obtain rfl:=zI a
  exact bM (aV (bP results164 rfl ⟨rfl,e⟩))
 ·refine aJ d rfl (bA (aA (aL (aO (v:=str b) (aF (v:=str b) (aG ?_))))))
  obtain rfl:=zI a
  exact bM (bP results164 rfl ⟨rfl,e⟩)
theorem aCK {a b R:aU} (d:aI G K (L) w) (c:kQ a b=some R):
  Calls Tryz.prog 133 ([str a,str b]:List Value).toArray w (gK fun v w'=>v=str R∧aI G K (L) w'):=by
 refine aW func133 rfl (by kernel_rfl) (by show (2:Nat)≤8;decide) ?_
 unfold kQ at c
 refine aL (aF (v:=str ([]:aU)) (aG (aL (aO (v:=str a) (aO (v:=str b) ?_)))))
 obtain ⟨e,g,c⟩:=aB c
 refine aS (vs:=[str a,str b]) call164 rfl (tK d g) ?_
 rintro _ j ⟨rfl,h⟩
 refine aF (v:=str e) (aG ?_)
 obtain rfl:=zI c
 exact bM (bP results133 rfl ⟨rfl,h⟩)
theorem aGL {h:aU} {R:(aU × (List Int) × Bool)} (hs:aI G K (L) w) (x:G.lo=0) (a:aCU h=some R):
  Calls Tryz.prog 97 ([str h]:List Value).toArray w (gK fun v w'=>∃ (y:Option Addr) (z:Nat),v=zT #[str R.1,zS y R.2.1.length z,zB R.2.2]∧aI G K (aK 2 K y z R.2.1::L) w'):=by
 refine aW func97 rfl (by kernel_rfl) (by show (1:Nat)≤43;decide) ?_
 unfold aCU at a
 refine aL (aF (v:=str ([]:aU)) (aF (v:=zS none 0 0) (aF (v:=zB false) (aG (aL (aO (v:=str h) ?_))))))
 obtain ⟨b,q2,a⟩:=aB a
 refine aS (vs:=[str h,str ([40]:aU)]) call130 rfl (lib_Cut hs q2) ?_
 rintro _ w3 ⟨rfl,J⟩
 refine aO (v:=zT #[str b.1,str b.2.1,zB b.2.2]) (aD (bQ rfl rfl) (aD (bQ rfl rfl) (aD (bQ rfl rfl) (aF (v:=str b.1) (aF (v:=str b.2.1) (aF (v:=zB b.2.2) (aG (aL (aF (v:=zS none 0 0) (aG (uV (fun f w=>∃ (c:List Int) (j:Option Addr) (k:Nat),oS h b c=some R∧f 0=str h∧f 5=str b.1∧f 8=zS j c.length k∧aI G K (aK 2 K j k c::L) w) ?_ ?_)))))))))))
 ·rintro f d5 ⟨c,j,k,a,e8,m,n,a5⟩
  unfold oS at a
  refine aQ (aL (aN m (aN n ?_)))
  obtain ⟨d6,d7,a7,a8,a9⟩:=aI.lendS (i:=0) a5 (zR _) rfl
  obtain ⟨d,b0,a⟩:=aB a
  refine aS (vs:=[str b.1,zS j c.length k]) call134 rfl (aIB a8 x a7 b0) ?_
  rintro _ d8 ⟨rfl,b1⟩
  have V:=a9 _ _ b1
  refine aO (v:=zT #[str d.1,zB d.2]) (aD (bQ rfl rfl) (aD (bQ rfl rfl) (aF (v:=str d.1) (aF (v:=zB d.2) (aG (aQ (cN (fun f w=>∃ (o:Bool),oR b c o=some R∧f 5=str b.1∧f 8=zS j c.length k∧f 40=zB o∧aI G K (aK 2 K j k c::L) w) ?_ ?_)))))))
  ·rintro f d9 ⟨o,a,b2,b3,Z,a0⟩
   unfold oR at a
   refine aA ?_
   rcases aH a with ⟨p,a⟩|⟨p,a⟩
   ·refine aM p Z (aL (aF (v:=str ([]:aU)) (aF (v:=zS none 0 0) (aF (v:=zB false) (aG ?_)))))
    have b4:=aI.nil (α:=Int) a0 2 K
    obtain rfl:=zI a
    exact bM (aV (xO results97 rfl rfl rfl ⟨none,0,rfl,(aI.arr 2 [0] b4 rfl)⟩))
   ·refine aJ p Z (bA (aA (aL (aN b2 (aN b3 (aF (v:=str b.1) (aF (v:=zS j c.length k) (aF (v:=zB true) (aG ?_)))))))))
    obtain rfl:=zI a
    exact bM (xO results97 rfl rfl rfl ⟨j,k,rfl,a0⟩)
  refine aP (aO (v:=zB d.2) (aD (eJ rfl) (aO (v:=zB (!d.2)) ?_)))
  rcases aH a with ⟨e,a⟩|⟨e,a⟩
  ·exact aX e rfl rfl (aX e rfl rfl (aX e rfl rfl (aD (bL (v:=zB true) e rfl rfl) (aG ⟨true,a,m,n,rfl,V⟩))))
  ·exact bG e rfl rfl (aO (v:=str d.1) (bG e rfl rfl (aN e8 (bG e rfl rfl (aD (aId rfl rfl) (aD (bK (v:=zB (!(d.1 == h))) e rfl rfl) (aG ⟨!(d.1 == h),a,m,n,rfl,V⟩)))))))
 refine aL (aO (v:=zB b.2.2) (aG ?_))
 rcases aH a with ⟨q,a⟩|⟨q,a⟩
 ·refine aM q rfl (aL (aF (v:=zB false) (aG (aL (aO (v:=str b.2.1) ?_)))))
  obtain ⟨b7,b8,a⟩:=aB a
  refine aS (vs:=[str b.2.1,str ([41]:aU)]) call133 rfl (aCK J b8) ?_
  rintro _ e0 ⟨rfl,b9⟩
  obtain ⟨c0,c1,a⟩:=aB a
  refine aS (vs:=[str b7,str ([44]:aU)]) call132 rfl (lib_Split b9 c1) ?_
  rintro _ e1 ⟨c2,c3,rfl,c4⟩
  obtain ⟨e2,e3,c5,c6,c8⟩:=aI.lendS (i:=0) c4 (zR _) rfl
  obtain ⟨l,c9,a⟩:=aB a
  refine aS (vs:=[zS c2 c0.length c3]) call131 rfl (aFK c6 x c5 c9) ?_
  rintro _ e4 ⟨r,t,rfl,d0⟩
  have a1:=c8 _ _ d0
  refine aO (v:=zT #[zS r l.1.length t,zB l.2]) (aD (bQ rfl rfl) (aD (bQ rfl rfl) (aF (v:=zS r l.1.length t) (aF (v:=zB l.2) (aG (aL (aO (v:=zB l.2) (aD (eJ rfl) (aG ?_)))))))))
  rcases aH a with ⟨u,a⟩|⟨u,a⟩
  ·refine aM u rfl (aL (aF (v:=str ([]:aU)) (aF (v:=zS none 0 0) (aF (v:=zB false) (aG ?_)))))
   have d1:=aI.nil (α:=Int) a1 2 K
   obtain rfl:=zI a
   exact bM (aV (xO results97 rfl rfl rfl ⟨none,0,rfl,(aI.arr 3 [0] d1 rfl)⟩))
  ·exact aJ u rfl (bA (aA ⟨l.1,r,t,a,rfl,rfl,rfl,(aI.arr 1 [] a1 rfl)⟩))
 ·refine aJ q rfl ?_
  have d3:=aI.nil (α:=Int) J 2 K
  exact bA (aA ⟨[],none,0,a,rfl,rfl,rfl,d3⟩)
theorem aEJ {b:aU} {R:Bool} (g:aI G K (L) w) (h:G.lo=0) (c:aBU b=some R):
  Calls Tryz.prog 63 ([str b]:List Value).toArray w (gK fun v w'=>v=zB R∧aI G K (L) w'):=by
 refine aW func63 rfl (by kernel_rfl) (by show (1:Nat)≤13;decide) ?_
 unfold aBU at c
 refine aL (aF (v:=zB false) (aG (aL (aO (v:=str b) ?_))))
 obtain ⟨a,i,c⟩:=aB c
 refine aS (vs:=[str b]) call97 rfl (aGL g h i) ?_
 rintro _ l ⟨d,e,rfl,j⟩
 refine aO (v:=zT #[str a.1,zS d a.2.1.length e,zB a.2.2]) (aD (bQ rfl rfl) (aD (bQ rfl rfl) (aD (bQ rfl rfl) (aF (v:=str a.1) (aF (v:=zS d a.2.1.length e) (aF (v:=zB a.2.2) (aG (aL (aO (v:=zB a.2.2) (aF (v:=zB a.2.2) (aG ?_)))))))))))
 obtain rfl:=zI c
 exact bM (bP results63 rfl ⟨rfl,(aI.arr 1 [] j rfl)⟩)
theorem aIC {a:(List UInt8)} {R:Bool} (c:aI G K (L) w) (e:cX K a1 c2 a) (b:aFe a=some R):
  Calls Tryz.prog 5 ([zS a1 a.length c2]:List Value).toArray w (gK fun v w'=>v=zB R∧aI G K (L) w'):=by
 refine aW func5 rfl (by kernel_rfl) (by show (1:Nat)≤6;decide) ?_
 unfold aFe at b
 refine aL (aF (v:=zB false) (aG (aL (aO (v:=zS a1 a.length c2) (aD (bU (len:=a.length) sl_22 rfl) (aD (kZ rfl rfl) (aF (v:=zB (decide (1048576 < (a.length:Int)))) (aG ?_))))))))
 obtain rfl:=zI b
 exact bM (bP results5 rfl ⟨rfl,c⟩)
theorem aID {a:(List UInt8)} {R:(Int × Int)} (g:aI G K (L) w) (j:cX K a1 c2 a) (b:aFf a=some R):
  Calls Tryz.prog 17 ([zS a1 a.length c2]:List Value).toArray w (gK fun v w'=>∃ (c:Nat),v=zP (some ⟨c,0,none⟩)∧aI G K (box c 78 [zS a1 a.length c2,i64 R.1,Value.int .u64 R.2]::L) w'):=by
 let d:=[zS a1 a.length c2,i64 0,Value.int .u64 0]
 refine aW func17 rfl (by kernel_rfl) (by show (1:Nat)≤6;decide) ?_
 unfold aFf at b
 refine aL (aF (v:=zP none) (aG (aL (aO (v:=zS a1 a.length c2) (aD (dL (vs:=[(0,zS a1 a.length c2)]) (cs:=d) bs_78 rfl (by kernel_rfl)) (iI (v:=zA #[zS a1 a.length c2,i64 0,Value.int .u64 0]) (vs:=d) g rfl rfl (fun e k h=>(aF (v:=zP (some ⟨e,0,none⟩)) (aG ?_)))))))))
 obtain rfl:=zI b
 exact bM (bP results17 rfl ⟨e,rfl,h⟩)
theorem aEK {d:(List aU)} {e:aU} {R:Int} (p:aI G K (L) w) (l:cX K a1 c2 d) (b:aAb d e=some R):
  Calls Tryz.prog 80 ([zS a1 d.length c2,str e]:List Value).toArray w (gK fun v w'=>v=i64 R∧aI G K (L) w'):=by
 refine aW func80 rfl (by kernel_rfl) (by show (2:Nat)≤19;decide) ?_
 unfold aAb at b
 refine aL (aF (v:=i64 0) (aG (aQ (aL (aF (v:=i64 0) (aG (bB (fun f w=>aBE=some R∧aI G K (L) w) ?_ ?_)))))))
 ·rintro f w4 ⟨b,q⟩
  unfold aBE at b
  refine aA (aL (aF (v:=i64 (-1)) (aG ?_)))
  obtain rfl:=zI b
  exact bM (bP results80 rfl ⟨rfl,q⟩)
 obtain ⟨a2,u,b⟩:=aB b
 refine cE u (fun (c:Int) f w=>f 0=zS a1 d.length c2∧f 1=str e∧f 5=i64 c∧aI G K (L) w) ?_ ?_
 ·exact ⟨rfl,rfl,rfl,p⟩
 ·rintro c x f a3 a m ⟨i,n,g,h⟩
  replace a:uA d e c=some x:=a
  unfold uA at a
  refine aQ (aL (aN g (aN i (aD (bU (len:=d.length) bX rfl) (aD (cL rfl rfl) (aG ?_))))))
  rcases aH a with ⟨j,a⟩|⟨j,a⟩
  ·refine aM j rfl (bA (aA (aQ (cY (aL (aN i (aN g ?_)))))))
   obtain ⟨a4,o,a⟩:=aB a
   refine aD (dI bX rfl l rfl rfl rfl o) ?_
   obtain ⟨a5,y,z⟩:=cX.el (sz:=1) rfl l o
   cases z
   refine aD (bH (t:=0) qB h y rfl rfl) (aN n (aD (zX rfl rfl) (aG ?_)))
   rcases aH a with ⟨k,a⟩|⟨k,a⟩
   ·refine aM k rfl (aL (aN g (aF (v:=i64 c) (aG (bM (bV (aV (aV ?_))))))))
    have J:=m _ (zI a).symm
    subst J
    have b:(some c)=some R:=b
    obtain rfl:=zI b
    exact bV (aV (aV (bP results80 rfl ⟨rfl,h⟩)))
   ·exact aJ k rfl (bA (bC (aA (aP (aN g (aD (cP rfl rfl) (aF (v:=i64 (wr (c+1))) (aG ⟨wr (c+1),(zI a).symm,i,n,rfl,h⟩))))))))
  ·refine aJ j rfl (cA (aT (aT ?_)))
   have Z:=m _ (zI a).symm
   subst Z
   have b:(aBE)=some R:=b
   exact bJ (aA ⟨b,h⟩)
theorem aEL {o R:(List aU)} (hs:aI G K (L) w) (h3:cX K a1 c2 o) (x:uD o=some R):
  Calls Tryz.prog 59 ([zS a1 o.length c2]:List Value).toArray w (gK fun v w'=>∃ (d7:Option Addr) (d8:Nat),v=zS d7 R.length d8∧aI G K (aK 9 K d7 d8 R::L) w'):=by
 refine aW func59 rfl (by kernel_rfl) (by show (1:Nat)≤65;decide) ?_
 unfold uD at x
 refine aL (aF (v:=zS none 0 0) (aG (aL (bR (Kt:=K) (xs:=([([116,97,117]:aU)]:List aU)) (cs:=[str ([116,97,117]:aU)]) (vs:=[(0,str ([116,97,117]:aU))]) bX gJ rfl rfl hs rfl (by kernel_rfl) rfl rfl rfl ⟨rfl,trivial⟩ (fun a4 w5 (g2:aI G K (aK 9 K a4 1 ([([116,97,117]:aU)]:List aU)::L) w5)=>(aF (v:=zS a4 ([([116,97,117]:aU)]:List aU).length 1) (aG (aQ (aL (aF (v:=i64 0) (aG (bB (fun f w=>∃ (V:List aU) (Z:Option Addr) (c9:Nat),aBF V=some R∧f 3=zS Z V.length c9∧aI G K (aK 9 K Z c9 V::L) w) ?_ ?_))))))))))))
 ·rintro f k7 ⟨V,Z,c9,x,g3,g4⟩
  unfold aBF at x
  refine aA (aL (aN g3 (aF (v:=zS Z V.length c9) (aG ?_))))
  obtain rfl:=zI x
  exact bM (bP results59 rfl ⟨Z,c9,rfl,g4⟩)
 obtain ⟨k8,g6,x⟩:=aB x
 refine cE g6 (fun (s:(List aU × Int)) f w=>match s with|(b,j)=>∃ (k:Option Addr) (l:Nat),f 0=zS a1 o.length c2∧f 3=zS k b.length l∧f 4=i64 j∧aI G K (aK 9 K k l b::L) w) ?_ ?_
 ·exact ⟨a4,1,rfl,rfl,rfl,g2⟩
 ·rintro ⟨b,j⟩ z f k9 a g7 ⟨k,l,a7,a9,b0,c1⟩
  replace a:hY o b j=some z:=a
  unfold hY at a
  refine aQ (aL (aN b0 (aN a7 (aD (bU (len:=o.length) bX rfl) (aD (cL rfl rfl) (aG ?_))))))
  rcases aH a with ⟨c3,a⟩|⟨c3,a⟩
  ·refine aM c3 rfl (bA (aA (aQ (bB (fun f w=>∃ (a2:List aU) (b1:Option Addr) (b2:Nat),nP j a2=some z∧f 0=zS a1 o.length c2∧f 3=zS b1 a2.length b2∧f 4=i64 j∧aI G K (aK 9 K b1 b2 a2::L) w) ?_ ?_))))
   ·rintro f l0 ⟨a2,b1,b2,a,g8,g9,h0,h1⟩
    unfold nP at a
    exact aA (aP (aN h0 (aD (cP rfl rfl) (aF (v:=i64 (wr (j+1))) (aG ⟨(a2,wr (j+1)),(zI a).symm,b1,b2,g8,g9,rfl,h1⟩)))))
   refine aQ (aL (aN a9 (aN a7 (aN b0 ?_))))
   obtain ⟨r,b3,a⟩:=aB a
   refine aD (dI bX rfl h3 rfl rfl rfl b3) ?_
   obtain ⟨l1,c4,h2⟩:=cX.el (sz:=1) rfl h3 b3
   cases h2
   refine aD (bH (t:=0) qB c1 c4 rfl rfl) ?_
   obtain ⟨l2,l3,h4,h5,h6⟩:=aI.lendS (i:=0) c1 (zR _) rfl
   obtain ⟨l4,h7,a⟩:=aB a
   refine aS (vs:=[zS k b.length l,str r]) call80 rfl (aEK h5 h4 h7) ?_
   rintro _ l5 ⟨rfl,h8⟩
   have d9:=h6 _ _ h8
   refine aD (zV rfl rfl) (aG ?_)
   rcases aH a with ⟨c5,a⟩|⟨c5,a⟩
   ·exact aM c5 rfl (cA (aT (bJ (aA ⟨b,k,l,a,a7,a9,b0,d9⟩))))
   ·refine aJ c5 rfl (bA (aA (aL (aF (v:=i64 1) (aG (aQ (bB (fun f w=>∃ (y:Int),uC b j r y=some z∧f 0=zS a1 o.length c2∧f 3=zS k b.length l∧f 4=i64 j∧f 5=i64 y∧aI G K (aK 9 K k l b::L) w) ?_ ?_)))))))
    ·rintro f l6 ⟨y,a,h9,i0,i1,i2,i3⟩
     unfold uC at a
     refine aA (aL (aN i0 (bR (Kt:=K) (xs:=([([]:aU)]:List aU)) (cs:=[str ([]:aU)]) (vs:=[(0,str ([]:aU))]) bX gJ rfl rfl i3 rfl (by kernel_rfl) rfl rfl rfl ⟨rfl,trivial⟩ (fun i4 i5 (i6:aI G K (aK 9 K i4 1 ([([]:aU)]:List aU)::aK 9 K k l b::L) i5)=>?_))))
     obtain ⟨a3,i7,a⟩:=aB a
     refine dG (i:=0) bX underlying24 gJ rfl rfl i6 rfl (zR _) (zR _) i7 rfl rfl rfl rfl (fun _ h=>h) (fun p q i8 (i9:aI G K (aK 9 K p q a3::L) i8)=>(aF (v:=zS p a3.length q) (aG (aQ (aL (aO (v:=zS p a3.length q) (aD (bU (len:=a3.length) bX rfl) (aD (kH rfl rfl) (aF (v:=i64 (wr ((a3.length:Int) - 1))) (aG (bB (fun f w=>∃ (b4:List aU),uB j r y b4=some z∧f 0=zS a1 o.length c2∧f 3=zS p b4.length q∧f 4=i64 j∧f 5=i64 y∧aI G K (aK 9 K p q b4::L) w) ?_ ?_)))))))))))
     ·rintro f l7 ⟨b4,a,e0,e1,e2,j0,c6⟩
      unfold uB at a
      refine aA (aP (aN e1 (aN j0 (aN e0 (aN e2 (aD (dI bX rfl h3 rfl rfl rfl b3) (aD (bH (t:=0) qB c6 c4 rfl rfl) ?_)))))))
      obtain ⟨l8,c7,a⟩:=aB a
      have j1:=dA c6 (i:=0) rfl c7
      refine aD (dT bX rfl j1 rfl rfl rfl c7) ?_
      obtain ⟨e3,e4,a⟩:=aB a
      exact nG (i:=0) (t:=0) (ns:=[str r]) (e':=(r:aU)) sizeOf9 c6 rfl (zR _) rfl rfl rfl c7 e4 rfl rfl (dE rfl) rfl (fun cs h=>by cases h;rfl) (fun j2 (j3:aI G K (aK 9 K p q e3::L) j2)=>(aZ (bC (aA ⟨e3,p,q,a,e0,(Eq.trans e1 (congrArg (fun n=>zS p n q) (lE e4))),e2,j3⟩))))
     obtain ⟨l9,j4,a⟩:=aB a
     refine cE j4 (fun (s:(List aU × Int)) f w=>match s with|(J,a5)=>f 0=zS a1 o.length c2∧f 3=zS p J.length q∧f 4=i64 j∧f 5=i64 y∧f 6=i64 a5∧aI G K (aK 9 K p q J::L) w) ?_ ?_
     ·exact ⟨h9,rfl,i1,i2,rfl,i9⟩
     ·rintro ⟨J,a5⟩ j5 f m0 m j6 ⟨e5,b5,e6,c8,b6,b7⟩
      replace m:nR y J a5=some j5:=m
      unfold nR at m
      refine aQ (aL (aN b6 (aN c8 (aD (kZ rfl rfl) (aG ?_)))))
      rcases aH m with ⟨d0,m⟩|⟨d0,m⟩
      ·refine aM d0 rfl (bA (aA (aQ (cY (aP (aN b5 (aN b6 (aN b5 (aN b6 (aD (kH rfl rfl) ?_))))))))))
       obtain ⟨e7,d1,m⟩:=aB m
       have e8:=dA b7 (i:=0) rfl d1
       refine aD (dT bX rfl e8 rfl rfl rfl d1) (aD (gP (t:=0) qB b7 (i:=0) rfl d1 rfl rfl rfl) ?_)
       obtain ⟨m1,e9,m⟩:=aB m
       refine aD (dT bX rfl e8 rfl rfl rfl e9) ?_
       obtain ⟨f0,f1,m⟩:=aB m
       exact nG (i:=0) (t:=0) (ns:=[str e7]) (e':=(e7:aU)) sizeOf9 b7 rfl (zR _) rfl rfl rfl e9 f1 rfl rfl (dE rfl) rfl (fun cs h=>by cases h;rfl) (fun j7 (j8:aI G K (aK 9 K p q f0::L) j7)=>(aZ (bC (aA (aP (aN b6 (aD (kH rfl rfl) (aF (v:=i64 (wr (a5 - 1))) (aG ⟨(f0,wr (a5 - 1)),(zI m).symm,e5,(Eq.trans b5 (congrArg (fun n=>zS p n q) (lE f1))),e6,c8,rfl,j8⟩)))))))))
      ·refine aJ d0 rfl (cA (aT (aT ?_)))
       have j9:=j6 _ (zI m).symm
       subst j9
       have a:(uB j r y J)=some z:=a
       exact bJ (aA ⟨J,a,e5,b5,e6,c8,b7⟩)
    obtain ⟨m2,k0,a⟩:=aB a
    refine cE k0 (fun (u:Int) f w=>f 0=zS a1 o.length c2∧f 3=zS k b.length l∧f 4=i64 j∧f 5=i64 u∧aI G K (aK 9 K k l b::L) w) ?_ ?_
    ·exact ⟨a7,a9,b0,rfl,d9⟩
    ·rintro u f2 f m3 e k1 ⟨d2,b8,d3,b9,d⟩
     replace e:jG b r u=some f2:=e
     unfold jG at e
     refine aQ (aQ (cN (fun f w=>∃ (d4:Bool),qC u d4=some f2∧f 0=zS a1 o.length c2∧f 3=zS k b.length l∧f 4=i64 j∧f 5=i64 u∧f 35=zB d4∧aI G K (aK 9 K k l b::L) w) ?_ ?_))
     ·rintro f m4 ⟨d4,e,f3,f4,f5,f6,f7,f8⟩
      unfold qC at e
      refine aA ?_
      rcases aH e with ⟨d5,e⟩|⟨d5,e⟩
      ·exact aM d5 f7 (bA (aA (cY (aP (aN f6 (aD (cP rfl rfl) (aF (v:=i64 (wr (u+1))) (aZ (bC (aA ⟨wr (u+1),(zI e).symm,f3,f4,f5,rfl,f8⟩))))))))))
      ·refine aJ d5 f7 (cA (aT (aT ?_)))
       have k2:=k1 _ (zI e).symm
       subst k2
       have a:(uC b j r u)=some z:=a
       exact bJ (aA ⟨u,a,f3,f4,f5,f6,f8⟩)
     refine eR (C:=fun w'=>aI G K (aK 9 K k l b::L) w') bZ (by kernel_rfl) (aI.mono d (eC.drew _)) (bF (fun _ d=>bE b9) (bF (fun _ d=>bE b8) (bF (fun _ d=>bU (len:=b.length) bX rfl) (bF (fun _ d=>cL rfl rfl) (bF (fun _ d=>bE (v:=zB (decide (u < (b.length:Int)))) rfl) ?_)))))
     rcases aH e with ⟨c,e⟩|⟨c,e⟩
     ·refine cC (g:=25) rfl rfl c (bF (fun _ d=>bE b8) (cC (g:=25) rfl rfl c (bF (fun _ d=>bE b9) (cC (g:=25) rfl rfl c ?_))))
      obtain ⟨f9,d6,e⟩:=aB e
      have k3:=dA d (i:=0) rfl d6
      exact bF (fun _ d=>dT bX rfl k3 rfl rfl rfl d6) (cC (g:=25) rfl rfl c (bF (fun _ d=>gP (t:=0) qB d (i:=0) rfl d6 rfl rfl rfl) (cC (g:=25) rfl rfl c (bF (fun _ d=>bE d2) (cC (g:=25) rfl rfl c (bF (fun _ d=>bE d3) (cC (g:=25) rfl rfl c (bF (fun _ d=>dI bX rfl h3 rfl rfl rfl b3) (cC (g:=25) rfl rfl c (bF (fun _ d=>bH (t:=0) qB d c4 rfl rfl) (cC (g:=25) rfl rfl c (bF (fun _ d=>R_lssS rfl rfl) (bF (fun _ d=>bL (v:=zB (wU f9 r)) c rfl rfl) (fE (fun m5 k4=>(aA ⟨wU f9 r,e,d2,b8,d3,b9,rfl,k4⟩))))))))))))))))
     ·exact bI (g:=25) rfl rfl (dQ c) (bI (g:=25) rfl rfl (dQ c) (bI (g:=25) rfl rfl (dQ c) (bI (g:=25) rfl rfl (dQ c) (bI (g:=25) rfl rfl (dQ c) (bI (g:=25) rfl rfl (dQ c) (bI (g:=25) rfl rfl (dQ c) (bI (g:=25) rfl rfl (dQ c) (bI (g:=25) rfl rfl (dQ c) (bF (fun _ d=>bK (v:=zB false) c rfl rfl) (fE (fun m6 k5=>(aA ⟨false,e,d2,b8,d3,b9,rfl,k5⟩))))))))))))
  ·refine aJ c3 rfl (cA (aT (aT ?_)))
   have k6:=g7 _ (zI a).symm
   subst k6
   have x:(aBF b)=some R:=x
   exact bJ (aA ⟨b,k,l,x,a9,c1⟩)
theorem aEM {a:Edge} {h:Nat} {b:Edge} {i:Nat} {R:Bool} (j:aI G K (L) w) (e:kK K a1 h [i64 a.F,i64 a.B,i64 a.To]) (g:kK K a4 i [i64 b.F,i64 b.B,i64 b.To]) (k:aBV a b=some R):
  Calls Tryz.prog 58 ([cU a1 h,cU a4 i]:List Value).toArray w (gK fun v w'=>v=zB R∧aI G K (L) w'):=by
 refine aW func58 rfl (by kernel_rfl) (by show (2:Nat)≤50;decide) ?_
 unfold aBV at k
 refine aL (aF (v:=zB false) (aG (aQ (aQ (eR (C:=fun w'=>aI G K (L) w') bZ (by kernel_rfl) (aI.mono j (eC.drew _)) (bF (fun _ j=>bE (v:=cU a1 h) rfl) (bF (fun _ j=>cJ rfl e) (bF (fun _ j=>bO (k':=h+0) hQ rfl e rfl) (bF (fun _ j=>bH (t:=0) cK j e rfl rfl) (bF (fun _ j=>bE (v:=cU a4 i) rfl) (bF (fun _ j=>cJ rfl g) (bF (fun _ j=>bO (k':=i+0) hQ rfl g rfl) (bF (fun _ j=>bH (t:=0) cK j g rfl rfl) (bF (fun _ j=>aBw rfl rfl) (fE (fun x d=>(aA ?_)))))))))))))))))
 rcases aH k with ⟨l,k⟩|⟨l,k⟩
 ·refine aM l rfl (aQ (eR (C:=fun w'=>aI G K (L) w') bZ (by kernel_rfl) (aI.mono d (eC.drew _)) (bF (fun _ d=>bE (v:=cU a1 h) rfl) (bF (fun _ d=>cJ rfl e) (bF (fun _ d=>bO (k':=h+0) hQ rfl e rfl) (bF (fun _ d=>bH (t:=0) cK d e rfl rfl) (bF (fun _ d=>bE (v:=cU a4 i) rfl) (bF (fun _ d=>cJ rfl g) (bF (fun _ d=>bO (k':=i+0) hQ rfl g rfl) (bF (fun _ d=>bH (t:=0) cK d g rfl rfl) (bF (fun _ d=>cL rfl rfl) (bF (fun _ d=>dV (v:=zB (decide (a.F < b.F))) rfl) (fE (fun y n=>(aA ?_)))))))))))))))
  obtain rfl:=zI k
  exact bM (aV (bP results58 rfl ⟨rfl,n⟩))
 ·refine aJ l rfl (bA (aA (aQ (aQ (eR (C:=fun w'=>aI G K (L) w') bZ (by kernel_rfl) (aI.mono d (eC.drew _)) (bF (fun _ d=>bE (v:=cU a1 h) rfl) (bF (fun _ d=>cJ rfl e) (bF (fun _ d=>bO (k':=h+1) iZ rfl e rfl) (bF (fun _ d=>bH (t:=1) cK d e rfl rfl) (bF (fun _ d=>bE (v:=cU a4 i) rfl) (bF (fun _ d=>cJ rfl g) (bF (fun _ d=>bO (k':=i+1) iZ rfl g rfl) (bF (fun _ d=>bH (t:=1) cK d g rfl rfl) (bF (fun _ d=>aBw rfl rfl) (fE (fun z c=>(aA ?_)))))))))))))))))
  rcases aH k with ⟨m,k⟩|⟨m,k⟩
  ·refine aM m rfl (aQ (eR (C:=fun w'=>aI G K (L) w') bZ (by kernel_rfl) (aI.mono c (eC.drew _)) (bF (fun _ c=>bE (v:=cU a1 h) rfl) (bF (fun _ c=>cJ rfl e) (bF (fun _ c=>bO (k':=h+1) iZ rfl e rfl) (bF (fun _ c=>bH (t:=1) cK c e rfl rfl) (bF (fun _ c=>bE (v:=cU a4 i) rfl) (bF (fun _ c=>cJ rfl g) (bF (fun _ c=>bO (k':=i+1) iZ rfl g rfl) (bF (fun _ c=>bH (t:=1) cK c g rfl rfl) (bF (fun _ c=>cL rfl rfl) (bF (fun _ c=>dV (v:=zB (decide (a.B < b.B))) rfl) (fE (fun J p=>(aA ?_)))))))))))))))
   obtain rfl:=zI k
   exact bM (aV (bP results58 rfl ⟨rfl,p⟩))
  ·refine aJ m rfl (bA (aA (aQ (eR (C:=fun w'=>aI G K (L) w') bZ (by kernel_rfl) (aI.mono c (eC.drew _)) (bF (fun _ c=>bE (v:=cU a1 h) rfl) (bF (fun _ c=>cJ rfl e) (bF (fun _ c=>bO (k':=h+2) gR rfl e rfl) (bF (fun _ c=>bH (t:=2) cK c e rfl rfl) (bF (fun _ c=>bE (v:=cU a4 i) rfl) (bF (fun _ c=>cJ rfl g) (bF (fun _ c=>bO (k':=i+2) gR rfl g rfl) (bF (fun _ c=>bH (t:=2) cK c g rfl rfl) (bF (fun _ c=>cL rfl rfl) (bF (fun _ c=>dV (v:=zB (decide (a.To < b.To))) rfl) (fE (fun V r=>(aA ?_)))))))))))))))))
   obtain rfl:=zI k
   exact bM (bP results58 rfl ⟨rfl,r⟩)
theorem aJM {j:(List Edge)} {e:Edge} {R:(List Edge)} (hs:aI G K (aK 69 K a1 c2 j::L) w) (a:aEF j e=some R):
  Calls Tryz.prog 81 ([zS a1 j.length c2,zA #[i64 e.F,i64 e.B,i64 e.To]]:List Value).toArray w (gK fun v w'=>∃ (c8:Option Addr) (c9:Nat),v=zS c8 R.length c9∧aI G K (aK 69 K c8 c9 R::L) w'):=by
 let l:=[i64 e.F,i64 e.B,i64 e.To]
 let J:=aK 69 K a1 c2 j
 refine aW func81 rfl (by kernel_rfl) (by show (2:Nat)≤57;decide) ?_
 unfold aEF at a
 refine aL (iI (v:=zA #[i64 e.F,i64 e.B,i64 e.To]) (vs:=l) hs rfl rfl (fun c w4 f1=>(aF (v:=zS none 0 0) (aG (aL (aO (v:=zS a1 j.length c2) (aD (bU (len:=j.length) cM rfl) (aF (v:=i64 (j.length:Int)) (aG (aQ (bB (fun f w=>∃ (r:Int),aAV j e r=some R∧f 0=zS a1 j.length c2∧f 3=zP (some ⟨c,0,none⟩)∧f 5=i64 r∧aI G K (box c 69 l::J::L) w) ?_ ?_)))))))))))
 ·rintro f j5 ⟨r,a,e7,e8,e9,k⟩
  unfold aAV at a
  refine aA (aQ (aQ (cN (fun f w=>∃ (b1:Bool),xA j e r b1=some R∧f 0=zS a1 j.length c2∧f 3=zP (some ⟨c,0,none⟩)∧f 5=i64 r∧f 30=zB b1∧aI G K (box c 69 l::J::L) w) ?_ ?_)))
  ·rintro f j6 ⟨b1,a,d0,f2,f3,d1,d2⟩
   unfold xA at a
   refine aA ?_
   rcases aH a with ⟨b2,a⟩|⟨b2,a⟩
   ·refine aM b2 d1 (aL (aN d0 (aF (v:=zS a1 j.length c2) (aG ?_))))
    obtain rfl:=zI a
    exact bM (aV (bP results81 rfl ⟨a1,c2,rfl,(aI.arr 1 [] d2 rfl)⟩))
   ·refine aJ b2 d1 (bA (aA (aL (aN d0 (aD (dL (vs:=[]) (cs:=[i64 0,i64 0,i64 0]) aFy rfl (by kernel_rfl)) (bR (Kt:=K) (xs:=([⟨0,0,0⟩]:List Edge)) (cs:=[i64 0,i64 0,i64 0]) (vs:=[(0,zA #[i64 0,i64 0,i64 0])]) cM gZ rfl rfl d2 rfl (by kernel_rfl) rfl rfl rfl ⟨rfl,trivial⟩ (fun f5 f6 (f7:aI G K (aK 69 K f5 1 ([⟨0,0,0⟩]:List Edge)::box c 69 l::J::L) f6)=>?_)))))))
    obtain ⟨a0,f8,a⟩:=aB a
    refine dG (i:=1) cM underlying25 gZ rfl rfl f7 rfl (zR _) (zR _) f8 rfl rfl rfl rfl (fun _ h=>h) (fun m o f9 (g0:aI G K (box c 69 l::aK 69 K m o a0::L) f9)=>(aF (v:=zS m a0.length o) (aG (aQ (aL (aO (v:=zS m a0.length o) (aD (bU (len:=a0.length) cM rfl) (aD (kH rfl rfl) (aF (v:=i64 (wr ((a0.length:Int) - 1))) (aG (bB (fun f w=>∃ (a4:List Edge),aAU e r a4=some R∧f 0=zS m a4.length o∧f 3=zP (some ⟨c,0,none⟩)∧f 5=i64 r∧aI G K (box c 69 l::aK 69 K m o a4::L) w) ?_ ?_)))))))))))
    ·rintro f j7 ⟨a4,a,d3,g1,g2,b4⟩
     unfold aAU at a
     refine aA (aL (aN d3 (aN g2 (aD (eI (us:=l) mQ b4 (i:=0) rfl g1 rfl rfl) ?_))))
     obtain ⟨j8,b5,a⟩:=aB a
     have g3:=dA b4 (i:=1) rfl b5
     refine aD (dT cM rfl g3 rfl rfl rfl b5) ?_
     obtain ⟨b6,d4,a⟩:=aB a
     refine nG (i:=1) (t:=0) (ns:=l) (e':=(⟨e.F,e.B,e.To⟩:Edge)) sizeOf69 b4 rfl (zR _) rfl rfl rfl b5 d4 rfl rfl (dE rfl) rfl (fun cs h=>by cases h;rfl) (fun g4 (g5:aI G K (box c 69 l::aK 69 K m o b6::L) g4)=>(aG (aL (aN (v:=zS m b6.length o) (Eq.trans d3 (congrArg (fun n=>zS m n o) (lE d4))) (aF (v:=zS m b6.length o) (aG ?_))))))
     obtain rfl:=zI a
     exact bM (bP results81 rfl ⟨m,o,rfl,(aI.arr 1 [] g5 rfl)⟩)
    obtain ⟨j9,g7,a⟩:=aB a
    refine cE g7 (fun (s:(List Edge × Int)) f w=>match s with|(V,a2)=>f 0=zS m V.length o∧f 3=zP (some ⟨c,0,none⟩)∧f 5=i64 r∧f 6=i64 a2∧aI G K (box c 69 l::aK 69 K m o V::L) w) ?_ ?_
    ·exact ⟨rfl,f2,f3,rfl,g0⟩
    ·rintro ⟨V,a2⟩ g8 f k0 p g9 ⟨a5,d5,b7,a6,a7⟩
     replace p:wZ r V a2=some g8:=p
     unfold wZ at p
     refine aQ (aL (aN a6 (aN b7 (aD (kZ rfl rfl) (aG ?_)))))
     rcases aH p with ⟨b8,p⟩|⟨b8,p⟩
     ·refine aM b8 rfl (bA (aA (aQ (cY (aP (aN a5 (aN a6 (aN a5 (aN a6 (aD (kH rfl rfl) ?_))))))))))
      obtain ⟨z,b9,p⟩:=aB p
      have d6:=dA a7 (i:=1) rfl b9
      refine aD (dT cM rfl d6 rfl rfl rfl b9) (aD (aDU (t:=0) (vs:=[i64 z.F,i64 z.B,i64 z.To]) mQ a7 (i:=1) rfl b9 rfl rfl rfl rfl) ?_)
      obtain ⟨k1,d7,p⟩:=aB p
      refine aD (dT cM rfl d6 rfl rfl rfl d7) ?_
      obtain ⟨d8,d9,p⟩:=aB p
      exact nG (i:=1) (t:=0) (ns:=[i64 z.F,i64 z.B,i64 z.To]) (e':=(⟨z.F,z.B,z.To⟩:Edge)) sizeOf69 a7 rfl (zR _) rfl rfl rfl d7 d9 rfl rfl (dE rfl) rfl (fun cs h=>by cases h;rfl) (fun h0 (h1:aI G K (box c 69 l::aK 69 K m o d8::L) h0)=>(aZ (bC (aA (aP (aN a6 (aD (kH rfl rfl) (aF (v:=i64 (wr (a2 - 1))) (aG ⟨(d8,wr (a2 - 1)),(zI p).symm,(Eq.trans a5 (congrArg (fun n=>zS m n o) (lE d9))),d5,b7,rfl,h1⟩)))))))))
     ·refine aJ b8 rfl (cA (aT (aT ?_)))
      have h2:=g9 _ (zI p).symm
      subst h2
      have a:(aAU e r V)=some R:=a
      exact bJ (aA ⟨V,a,a5,d5,b7,a7⟩)
  refine eR (C:=fun w'=>aI G K (box c 69 l::J::L) w') bZ (by kernel_rfl) (aI.mono k (eC.drew _)) (bF (fun _ k=>bE e9) (bF (fun _ k=>kZ rfl rfl) (bF (fun _ k=>bE (v:=zB (decide (0 < r))) rfl) ?_)))
  rcases aH a with ⟨d,a⟩|⟨d,a⟩
  ·refine cC (g:=22) rfl rfl d (bF (fun _ k=>bE e7) (cC (g:=22) rfl rfl d (bF (fun _ k=>bE e9) (cC (g:=22) rfl rfl d (bF (fun _ k=>kH rfl rfl) (cC (g:=22) rfl rfl d ?_))))))
   obtain ⟨Z,c0,a⟩:=aB a
   have h3:=dA k (i:=1) rfl c0
   exact bF (fun _ k=>dT cM rfl h3 rfl rfl rfl c0) (cC (g:=22) rfl rfl d (bF (fun _ k=>aDU (t:=0) (vs:=[i64 Z.F,i64 Z.B,i64 Z.To]) mQ k (i:=1) rfl c0 rfl rfl rfl rfl) (cC (g:=22) rfl rfl d (bF (fun _ k=>eI (us:=l) mQ k (i:=0) rfl e8 rfl rfl) (cC (g:=22) rfl rfl d (bF (fun _ k=>R_eqlG (eq_69 (x:=Z) (y:=e)) rfl rfl) (bF (fun _ k=>bL (v:=zB (decide ((Z:Edge)=e))) d rfl rfl) (fE (fun k2 h4=>(aA ⟨decide ((Z:Edge)=e),a,e7,e8,e9,rfl,h4⟩))))))))))
  ·exact bI (g:=22) rfl rfl (dQ d) (bI (g:=22) rfl rfl (dQ d) (bI (g:=22) rfl rfl (dQ d) (bI (g:=22) rfl rfl (dQ d) (bI (g:=22) rfl rfl (dQ d) (bI (g:=22) rfl rfl (dQ d) (bI (g:=22) rfl rfl (dQ d) (bF (fun _ k=>bK (v:=zB false) d rfl rfl) (fE (fun k3 h5=>(aA ⟨false,a,e7,e8,e9,rfl,h5⟩))))))))))
 obtain ⟨k4,h6,a⟩:=aB a
 refine cE h6 (fun (u:Int) f w=>f 0=zS a1 j.length c2∧f 3=zP (some ⟨c,0,none⟩)∧f 5=i64 u∧aI G K (box c 69 l::J::L) w) ?_ ?_
 ·exact ⟨rfl,rfl,rfl,f1⟩
 ·rintro u e0 f k5 b h7 ⟨c1,c3,a8,c4⟩
  replace b:sH j e u=some e0:=b
  unfold sH at b
  refine aQ (aQ (cN (fun f w=>∃ (c5:Bool),xB u c5=some e0∧f 0=zS a1 j.length c2∧f 3=zP (some ⟨c,0,none⟩)∧f 5=i64 u∧f 17=zB c5∧aI G K (box c 69 l::J::L) w) ?_ ?_))
  ·rintro f k6 ⟨c5,b,e1,e2,e3,e4,e5⟩
   unfold xB at b
   refine aA ?_
   rcases aH b with ⟨c6,b⟩|⟨c6,b⟩
   ·exact aM c6 e4 (bA (aA (cY (aP (aN e3 (aD (kH rfl rfl) (aF (v:=i64 (wr (u - 1))) (aZ (bC (aA ⟨wr (u - 1),(zI b).symm,e1,e2,rfl,e5⟩))))))))))
   ·refine aJ c6 e4 (cA (aT (aT ?_)))
    have h8:=h7 _ (zI b).symm
    subst h8
    have a:(aAV j e u)=some R:=a
    exact bJ (aA ⟨u,a,e1,e2,e3,e5⟩)
  refine aP (aN a8 (aD (kZ rfl rfl) (aO (v:=zB (decide (0 < u))) ?_)))
  rcases aH b with ⟨q,b⟩|⟨q,b⟩
  ·refine bD q rfl rfl (aN c1 (bD q rfl rfl (aN a8 (bD q rfl rfl (aD (kH rfl rfl) (bD q rfl rfl ?_))))))
   obtain ⟨k7,c7,b⟩:=aB b
   have h9:=dA c4 (i:=1) rfl c7
   refine aD (dT cM rfl h9 rfl rfl rfl c7) (bD q rfl rfl ?_)
   obtain ⟨k8,i0,i1,i2,i3⟩:=aI.lendB (i:=0) c4 rfl
   obtain ⟨k9,i4,i5,i6,i7⟩:=aI.lendS (i:=0) i2 i0 rfl
   obtain ⟨l0,i8,i9⟩:=cX.el (sz:=3) rfl i5 c7
   cases i9
   obtain ⟨e6,j0,b⟩:=aB b
   refine aS (vs:=[cU (some ⟨c,0,none⟩) 0,cU a1 ((wr (u - 1)).toNat * 3+0)]) call58 (lst2 c3 rfl) (aEM i6 (i1.mono i4) i8 j0) ?_
   rintro _ l1 ⟨rfl,j1⟩
   have j2:=i7 _ _ j1
   have j3:=i3 _ _ j2
   exact aD (bL (v:=zB e6) q rfl rfl) (aG ⟨e6,b,c1,c3,a8,rfl,j3⟩)
  ·exact aR q rfl rfl (aR q rfl rfl (aR q rfl rfl (aR q rfl rfl (aR q rfl rfl (aD (bK (v:=zB false) q rfl rfl) (aG ⟨false,b,c1,c3,a8,rfl,c4⟩))))))
theorem zF {g h:Int} {J:(List aU)} {edges:(List Edge)} {R:cG} (hs:aI G K (L) w) (h3:cX K a1 c2 J) (h6:cX K a4 c5 edges) (l:oT g h J edges=some R):
  Calls Tryz.prog 43 ([i64 g,i64 h,zS a1 J.length c2,zS a4 edges.length c5]:List Value).toArray w (gK fun v w'=>∃ (b6:Option Addr) (b8:Nat) (b9:Option Addr) (c0:Nat),v=zA (zCa R b6 b8 b9 c0)∧aI G K (aK 9 K b6 b8 R.L::aK 69 K b9 c0 R.E::L) w'):=by
 let u:=zG
 refine aW func43 rfl (by kernel_rfl) (by show (4:Nat)≤43;decide) ?_
 unfold oT at l
 refine aL (bW (vs:=u) zeroValue27 hs rfl (fun m w8 d4=>(aG (aL (aO (v:=i64 g) (aO (v:=i64 h) (aO (v:=zS a1 J.length c2) ?_)))))))
 obtain ⟨a,d5,l⟩:=aB l
 refine aS (vs:=[zS a1 J.length c2]) call59 rfl (aEL d4 h3 d5) ?_
 rintro _ h9 ⟨b,c,rfl,d6⟩
 refine bR (Kt:=K) (xs:=([]:List Edge)) (cs:=[]) (vs:=[]) cM gZ rfl rfl d6 rfl (by kernel_rfl) rfl rfl rfl trivial (fun y d7 (d8:aI G K (aK 69 K y 0 ([]:List Edge)::aK 9 K b c a::box m 27 u::L) d7)=>(aD (dL (vs:=[(0,i64 g),(1,i64 h),(2,zS b a.length c),(3,zS y ([]:List Edge).length 0)]) (cs:=[i64 g,i64 h,zS b a.length c,zS y ([]:List Edge).length 0]) rW rfl (by kernel_rfl)) (bW (vs:=u) zeroValue27 d8 rfl (fun x i0 d9=>(bY (i:=0) (ns:=[i64 g,i64 h,zS b a.length c,zS y ([]:List Edge).length 0]) (us:=[i64 g,i64 h,zS b a.length c,zS y ([]:List Edge).length 0]) sizeOf27 d9 rfl rfl rfl rfl rfl (dE rfl) rfl rfl (fun e0 (e1:aI G K (box x 27 [i64 g,i64 h,zS b a.length c,zS y ([]:List Edge).length 0]::aK 69 K y 0 ([]:List Edge)::aK 9 K b c a::box m 27 u::L) e0)=>(aG (aQ (aL (aF (v:=i64 0) (aG (bB (fun f w=>∃ (n:List Edge) (o:Option Addr) (p:Nat),aBG g h a n=some R∧f 8=zP (some ⟨m,0,none⟩)∧f 9=zP (some ⟨x,0,none⟩)∧aI G K (aK 69 K o p n::box x 27 [i64 g,i64 h,zS b a.length c,zS o n.length p]::aK 9 K b c a::box m 27 u::L) w) ?_ ?_))))))))))))
 ·rintro f i1 ⟨n,o,p,l,c1,e2,c3⟩
  unfold aBG at l
  refine aA (aL (aD (eI (us:=[i64 g,i64 h,zS b a.length c,zS o n.length p]) dJ c3 (i:=1) rfl e2 rfl rfl) (bY (i:=3) (ns:=[i64 g,i64 h,zS b a.length c,zS o n.length p]) (us:=[i64 g,i64 h,zS b a.length c,zS o n.length p]) sizeOf27 c3 rfl c1 rfl rfl rfl (dE rfl) rfl rfl (fun e3 (c4:aI G K (aK 69 K o p n::box x 27 [i64 g,i64 h,zS b a.length c,zS o n.length p]::aK 9 K b c a::box m 27 [i64 g,i64 h,zS b a.length c,zS o n.length p]::L) e3)=>(aG ?_)))))
  obtain rfl:=zI l
  exact bM (vY results43 (fV (vs:=[i64 g,i64 h,zS b a.length c,zS o n.length p]) rfl dJ c4 (i:=3) rfl c1 rfl) ⟨b,c,o,p,rfl,(aI.arr 4 [2,0] c4 rfl)⟩)
 obtain ⟨i2,e5,l⟩:=aB l
 refine cE e5 (fun (s:(List Edge × Int)) f w=>match s with|(k,Z)=>∃ (q:Option Addr) (r:Nat),f 2=zS a1 J.length c2∧f 3=zS a4 edges.length c5∧f 8=zP (some ⟨m,0,none⟩)∧f 9=zP (some ⟨x,0,none⟩)∧f 10=i64 Z∧aI G K (box x 27 [i64 g,i64 h,zS b a.length c,zS q k.length r]::aK 69 K q r k::aK 9 K b c a::box m 27 u::L) w) ?_ ?_
 ·exact ⟨y,0,rfl,rfl,rfl,rfl,rfl,e1⟩
 ·rintro ⟨k,Z⟩ e6 f i3 j e7 ⟨q,r,c6,a9,c7,a0,b0,b1⟩
  replace j:jH J edges a k Z=some e6:=j
  unfold jH at j
  refine aQ (aL (aN b0 (aN a9 (aD (bU (len:=edges.length) cM rfl) (aD (cL rfl rfl) (aG ?_))))))
  rcases aH j with ⟨b2,j⟩|⟨b2,j⟩
  ·refine aM b2 rfl (bA (aA (aQ (cY (aL (aN a9 (aN b0 ?_)))))))
   obtain ⟨d,c8,j⟩:=aB j
   refine aD (dI cM rfl h6 rfl rfl rfl c8) ?_
   obtain ⟨i4,e8,e9⟩:=cX.el (sz:=3) rfl h6 c8
   cases e9
   refine aD (gT (t:=0) (vs:=[i64 d.F,i64 d.B,i64 d.To]) mQ b1 e8 rfl rfl rfl) (bW (vs:=[i64 0,i64 0,i64 0]) zeroValue69 b1 rfl (fun a6 i5 f0=>(bY (i:=0) (ns:=[i64 d.F,i64 d.B,i64 d.To]) (us:=[i64 d.F,i64 d.B,i64 d.To]) sizeOf69 f0 rfl rfl rfl rfl rfl (dE rfl) rfl rfl (fun f1 (f2:aI G K (box a6 69 [i64 d.F,i64 d.B,i64 d.To]::box x 27 [i64 g,i64 h,zS b a.length c,zS q k.length r]::aK 69 K q r k::aK 9 K b c a::box m 27 u::L) f1)=>(aG (aQ ?_))))))
   obtain ⟨i6,b3,f3,f4,f5⟩:=aI.lendB (i:=0) f2 rfl
   obtain ⟨f6,a7,f7,c9,f8⟩:=aI.lendB (i:=0) f4 rfl
   refine fK (C:=fun w'=>∃ L',aI G f6 L' w') [(0,0),(1,0),(2,0),(3,0),(4,0),(5,0),(6,0),(7,1),(8,0),(9,2)] bZ (by kernel_rfl) (fun _ hg=>⟨_,aI.mono c9 hg⟩) (fun i7 f9=>?_)
   have V:=aI.mono c9 f9
   refine bS rfl (fun _ _=>bT (t':=2) fL a0 rfl) (bS rfl (fun _ ⟨_,V⟩=>bH (t:=2) iT V f7 rfl rfl) (bS rfl (fun _ _=>bE c6) (bS rfl (fun _ _=>bT (t':=1) iZ rfl rfl) (bS rfl (fun _ ⟨_,V⟩=>bH (t:=1) cK V (f3.mono a7) rfl rfl) ?_))))
   obtain ⟨g0,d0,j⟩:=aB j
   refine bS rfl (fun _ _=>dI bX rfl (h3.mono (Hp.le_trans b3 a7)) rfl rfl rfl d0) ?_
   obtain ⟨i8,g1,g2⟩:=cX.el (sz:=1) rfl h3 d0
   cases g2
   refine bS rfl (fun _ ⟨_,V⟩=>bH (t:=0) qB V (g1.mono (Hp.le_trans b3 a7)) rfl rfl) (kY rfl ?_)
   obtain ⟨i9,j0,g3,g4,g5⟩:=aI.lendS (i:=1) V (Hp.le_trans b3 a7) rfl
   obtain ⟨z,g6,j⟩:=aB j
   refine aS (vs:=[zS b a.length c,str g0]) call80 rfl (aEK g4 g3 g6) ?_
   rintro _ j1 ⟨rfl,g7⟩
   have d1:=g5 _ _ g7
   refine aZ (aA ⟨⟨_,d1⟩,?_⟩)
   refine bS rfl (fun _ _=>bT (t':=1) iZ rfl rfl) ?_
   have g8:=f8 _ _ d1
   have g9:=f5 _ _ g8
   refine aGa rfl (bY (i:=0) (ns:=[i64 z]) (us:=[i64 d.F,i64 z,i64 d.To]) sizeOf2 g9 rfl rfl rfl rfl rfl (dE rfl) rfl rfl (fun d2 (b4:aI G K (box a6 69 [i64 d.F,i64 z,i64 d.To]::box x 27 [i64 g,i64 h,zS b a.length c,zS q k.length r]::aK 9 K b c a::aK 69 K q r k::box m 27 u::L) d2)=>(aG (lF (aA (aP (aD (bT (t':=3) cV a0 rfl) (aD (dS fH b4 (i:=1) rfl rfl rfl) (aD (eI (us:=[i64 d.F,i64 z,i64 d.To]) mQ b4 (i:=0) rfl rfl rfl rfl) ?_)))))))))
   have h0:aI G K (aK 69 K q r k::box a6 69 [i64 d.F,i64 z,i64 d.To]::box x 27 [i64 g,i64 h,zS b a.length c,zS q k.length r]::aK 9 K b c a::box m 27 u::L) d2:=(aI.arr 4 [3,0,1,2] b4 rfl)
   obtain ⟨a2,h1,j⟩:=aB j
   refine aS (vs:=[zS q k.length r,zA #[i64 d.F,i64 z,i64 d.To]]) call81 rfl (aJM (e:=⟨d.F,z,d.To⟩) h0 h1) ?_
   rintro _ j2 ⟨a3,a5,rfl,h2⟩
   exact aD (bT (t':=3) cV a0 rfl) (bY (i:=2) (ns:=[zS a3 a2.length a5]) (us:=[i64 g,i64 h,zS b a.length c,zS a3 a2.length a5]) sizeOf25 h2 rfl rfl rfl rfl rfl (dE rfl) rfl rfl (fun h4 (h5:aI G K (aK 69 K a3 a5 a2::box a6 69 [i64 d.F,i64 z,i64 d.To]::box x 27 [i64 g,i64 h,zS b a.length c,zS a3 a2.length a5]::aK 9 K b c a::box m 27 u::L) h4)=>(aZ (bC (aA (aP (aN b0 (aD (cP rfl rfl) (aF (v:=i64 (wr (Z+1))) (aG ⟨(a2,wr (Z+1)),(zI j).symm,a3,a5,c6,a9,c7,a0,rfl,(aI.arr 3 [2,0] h5 rfl)⟩))))))))))
  ·refine aJ b2 rfl (cA (aT (aT ?_)))
   have h7:=e7 _ (zI j).symm
   subst h7
   have l:(aBG g h a k)=some R:=l
   exact bJ (aA ⟨k,q,r,l,c7,a0,(aI.arr 2 [1,0] b1 rfl)⟩)
theorem aBr {d:(List Int)} {n R:Int} (p:aI G K (L) w) (k:cX K a1 c2 d) (b:wL d n=some R):
  Calls Tryz.prog 82 ([zS a1 d.length c2,i64 n]:List Value).toArray w (gK fun v w'=>v=i64 R∧aI G K (L) w'):=by
 refine aW func82 rfl (by kernel_rfl) (by show (2:Nat)≤19;decide) ?_
 unfold wL at b
 refine aL (aF (v:=i64 0) (aG (aQ (aL (aF (v:=i64 0) (aG (bB (fun f w=>aAs=some R∧aI G K (L) w) ?_ ?_)))))))
 ·rintro f w4 ⟨b,q⟩
  unfold aAs at b
  refine aA (aL (aF (v:=i64 (-1)) (aG ?_)))
  obtain rfl:=zI b
  exact bM (bP results82 rfl ⟨rfl,q⟩)
 obtain ⟨a2,u,b⟩:=aB b
 refine cE u (fun (c:Int) f w=>f 0=zS a1 d.length c2∧f 1=i64 n∧f 5=i64 c∧aI G K (L) w) ?_ ?_
 ·exact ⟨rfl,rfl,rfl,p⟩
 ·rintro c x f a3 a l ⟨h,m,e,g⟩
  replace a:qY d n c=some x:=a
  unfold qY at a
  refine aQ (aL (aN e (aN h (aD (bU (len:=d.length) cF rfl) (aD (cL rfl rfl) (aG ?_))))))
  rcases aH a with ⟨i,a⟩|⟨i,a⟩
  ·refine aM i rfl (bA (aA (aQ (cY (aL (aN h (aN e ?_)))))))
   obtain ⟨a4,o,a⟩:=aB a
   refine aD (dI cF rfl k rfl rfl rfl o) ?_
   obtain ⟨a5,y,z⟩:=cX.el (sz:=1) rfl k o
   cases z
   refine aD (bH (t:=0) cK g y rfl rfl) (aN m (aD (gE rfl rfl) (aG ?_)))
   rcases aH a with ⟨j,a⟩|⟨j,a⟩
   ·refine aM j rfl (aL (aN e (aF (v:=i64 c) (aG (bM (bV (aV (aV ?_))))))))
    have J:=l _ (zI a).symm
    subst J
    have b:(some c)=some R:=b
    obtain rfl:=zI b
    exact bV (aV (aV (bP results82 rfl ⟨rfl,g⟩)))
   ·exact aJ j rfl (bA (bC (aA (aP (aN e (aD (cP rfl rfl) (aF (v:=i64 (wr (c+1))) (aG ⟨wr (c+1),(zI a).symm,h,m,rfl,g⟩))))))))
  ·refine aJ i rfl (cA (aT (aT ?_)))
   have Z:=l _ (zI a).symm
   subst Z
   have b:(aAs)=some R:=b
   exact bJ (aA ⟨b,g⟩)
theorem aCA {t:cG} {J:Nat} {a:(List Int)} {R:cG} (hs:aI G K (L) w) (z:kK K a1 J (zC t a4 c5 a7 c8)) (h6:cX K a4 c5 t.L) (h9:cX K a7 c8 t.E) (c0:cX K a10 c11 a) (y:xC t a=some R):
  Calls Tryz.prog 45 ([cU a1 J,zS a10 a.length c11]:List Value).toArray w (gK fun v w'=>∃ (d0:Option Addr) (d1:Nat) (d2:Option Addr) (d3:Nat),v=zA (zCa R d0 d1 d2 d3)∧aI G K (aK 9 K d0 d1 R.L::aK 69 K d2 d3 R.E::L) w'):=by
 let o:=zG
 refine aW func45 rfl (by kernel_rfl) (by show (2:Nat)≤66;decide) ?_
 unfold xC at y
 refine aL (bW (vs:=o) zeroValue27 hs rfl (fun l j7 d4=>(aG (aL (aO (v:=zS a10 a.length c11) (aD (bU (len:=a.length) cF rfl) (aO (v:=zS a10 a.length c11) (aO (v:=cU a1 J) (aD (cJ rfl z) (aD (bO (k':=J+1) oP rfl z rfl) (aD (bH (t:=1) cK d4 z rfl rfl) ?_)))))))))))
 obtain ⟨k,e9,y⟩:=aB y
 refine aS (vs:=[zS a10 a.length c11,i64 t.I]) call82 rfl (aBr d4 c0 e9) ?_
 rintro _ j8 ⟨rfl,f0⟩
 refine bR (Kt:=K) (xs:=([]:List Edge)) (cs:=[]) (vs:=[]) cM gZ rfl rfl f0 rfl (by kernel_rfl) rfl rfl rfl trivial (fun u f1 (f2:aI G K (aK 69 K u 0 ([]:List Edge)::box l 27 o::L) f1)=>(aD (dL (vs:=[(0,i64 (a.length:Int)),(1,i64 k),(3,zS u ([]:List Edge).length 0)]) (cs:=[i64 (a.length:Int),i64 k,zS none 0 0,zS u ([]:List Edge).length 0]) rW rfl (by kernel_rfl)) (bW (vs:=o) zeroValue27 f2 rfl (fun m j9 f3=>(bY (i:=0) (ns:=[i64 (a.length:Int),i64 k,zS none 0 0,zS u ([]:List Edge).length 0]) (us:=[i64 (a.length:Int),i64 k,zS none 0 0,zS u ([]:List Edge).length 0]) sizeOf27 f3 rfl rfl rfl rfl rfl (dE rfl) rfl rfl (fun f4 (f5:aI G K (box m 27 [i64 (a.length:Int),i64 k,zS none 0 0,zS u ([]:List Edge).length 0]::aK 69 K u 0 ([]:List Edge)::box l 27 o::L) f4)=>(aG (aL (bR (Kt:=K) (xs:=([]:List aU)) (cs:=[]) (vs:=[]) bX gJ rfl rfl f5 rfl (by kernel_rfl) rfl rfl rfl trivial (fun f6 f7 (d5:aI G K (aK 9 K f6 0 ([]:List aU)::box m 27 [i64 (a.length:Int),i64 k,zS none 0 0,zS u ([]:List Edge).length 0]::aK 69 K u 0 ([]:List Edge)::box l 27 o::L) f7)=>(aO (v:=cU a1 J) (aD (cJ rfl z) (aD (bO (k':=J+2) fL rfl z rfl) (aD (bH (t:=2) iT d5 z rfl rfl) ?_))))))))))))))
 obtain ⟨b,f8,y⟩:=aB y
 refine lW (i:=0) bX underlying24 gJ rfl rfl d5 rfl (zR _) h6 f8 rfl rfl rfl rfl (fun c d f9 (g0:aI G K (aK 9 K c d b::box m 27 [i64 (a.length:Int),i64 k,zS none 0 0,zS u ([]:List Edge).length 0]::aK 69 K u 0 ([]:List Edge)::box l 27 o::L) f9)=>(aD (bT (t':=2) fL rfl rfl) (bY (i:=1) (ns:=[zS c b.length d]) (us:=[i64 (a.length:Int),i64 k,zS c b.length d,zS u ([]:List Edge).length 0]) sizeOf24 g0 rfl rfl rfl rfl rfl (dE rfl) rfl rfl (fun g1 (g2:aI G K (aK 9 K c d b::box m 27 [i64 (a.length:Int),i64 k,zS c b.length d,zS u ([]:List Edge).length 0]::aK 69 K u 0 ([]:List Edge)::box l 27 o::L) g1)=>(aG (aQ (aL (aF (v:=i64 0) (aG (bB (fun f w=>∃ (V:List Edge) (Z:Option Addr) (a0:Nat),aBH a k b V=some R∧f 4=zP (some ⟨l,0,none⟩)∧f 5=zP (some ⟨m,0,none⟩)∧aI G K (aK 69 K Z a0 V::aK 9 K c d b::box m 27 [i64 (a.length:Int),i64 k,zS c b.length d,zS Z V.length a0]::box l 27 o::L) w) ?_ ?_))))))))))
 ·rintro f k0 ⟨V,Z,a0,y,d6,g3,d7⟩
  unfold aBH at y
  refine aA (aL (aD (eI (us:=[i64 (a.length:Int),i64 k,zS c b.length d,zS Z V.length a0]) dJ d7 (i:=2) rfl g3 rfl rfl) (bY (i:=3) (ns:=[i64 (a.length:Int),i64 k,zS c b.length d,zS Z V.length a0]) (us:=[i64 (a.length:Int),i64 k,zS c b.length d,zS Z V.length a0]) sizeOf27 d7 rfl d6 rfl rfl rfl (dE rfl) rfl rfl (fun g4 (d8:aI G K (aK 69 K Z a0 V::aK 9 K c d b::box m 27 [i64 (a.length:Int),i64 k,zS c b.length d,zS Z V.length a0]::box l 27 [i64 (a.length:Int),i64 k,zS c b.length d,zS Z V.length a0]::L) g4)=>(aG ?_)))))
  obtain rfl:=zI y
  exact bM (vY results45 (fV (vs:=[i64 (a.length:Int),i64 k,zS c b.length d,zS Z V.length a0]) rfl dJ d8 (i:=3) rfl d6 rfl) ⟨c,d,Z,a0,rfl,(aI.arr 4 [1,0] d8 rfl)⟩)
 obtain ⟨k1,g6,y⟩:=aB y
 refine cE g6 (fun (s:(List Edge × Int)) f w=>match s with|(n,a2)=>∃ (p:Option Addr) (q:Nat),f 0=cU a1 J∧f 1=zS a10 a.length c11∧f 4=zP (some ⟨l,0,none⟩)∧f 5=zP (some ⟨m,0,none⟩)∧f 6=i64 a2∧aI G K (aK 9 K c d b::box m 27 [i64 (a.length:Int),i64 k,zS c b.length d,zS p n.length q]::aK 69 K p q n::box l 27 o::L) w) ?_ ?_
 ·exact ⟨u,0,rfl,rfl,rfl,rfl,rfl,g2⟩
 ·rintro ⟨n,a2⟩ c1 f k3 e g7 ⟨p,q,b2,b3,c2,c3,b4,b0⟩
  replace e:qF t a n a2=some c1:=e
  unfold qF at e
  refine aQ (aL (aN b4 (aN b2 (aD (cJ rfl z) (aD (bO (k':=J+3) cV rfl z rfl) (aD (bH (t:=3) fH b0 z rfl rfl) (aD (bU (len:=t.E.length) cM rfl) (aD (cL rfl rfl) (aG ?_)))))))))
  rcases aH e with ⟨c4,e⟩|⟨c4,e⟩
  ·refine aM c4 rfl (bA (aA (aQ (bB (fun f w=>∃ (b1:List Edge) (b5:Option Addr) (b6:Nat),qD a2 b1=some c1∧f 0=cU a1 J∧f 1=zS a10 a.length c11∧f 4=zP (some ⟨l,0,none⟩)∧f 5=zP (some ⟨m,0,none⟩)∧f 6=i64 a2∧aI G K (aK 69 K b5 b6 b1::aK 9 K c d b::box m 27 [i64 (a.length:Int),i64 k,zS c b.length d,zS b5 b1.length b6]::box l 27 o::L) w) ?_ ?_))))
   ·rintro f k4 ⟨b1,b5,b6,e,g8,g9,h0,h1,h2,h4⟩
    unfold qD at e
    exact aA (aP (aN h2 (aD (cP rfl rfl) (aF (v:=i64 (wr (a2+1))) (aG ⟨(b1,wr (a2+1)),(zI e).symm,b5,b6,g8,g9,h0,h1,rfl,(aI.arr 3 [1,2,0] h4 rfl)⟩)))))
   refine aL (aN b2 (aD (cJ rfl z) (aD (bO (k':=J+3) cV rfl z rfl) (aD (bH (t:=3) fH b0 z rfl rfl) (aN b4 ?_)))))
   obtain ⟨j,d9,e⟩:=aB e
   refine aD (dI cM rfl h9 rfl rfl rfl d9) ?_
   obtain ⟨k5,h5,h7⟩:=cX.el (sz:=3) rfl h9 d9
   cases h7
   refine aD (gT (t:=0) (vs:=[i64 j.F,i64 j.B,i64 j.To]) mQ b0 h5 rfl rfl rfl) (bW (vs:=[i64 0,i64 0,i64 0]) zeroValue69 b0 rfl (fun a5 k6 h8=>(bY (i:=0) (ns:=[i64 j.F,i64 j.B,i64 j.To]) (us:=[i64 j.F,i64 j.B,i64 j.To]) sizeOf69 h8 rfl rfl rfl rfl rfl (dE rfl) rfl rfl (fun i0 (e0:aI G K (box a5 69 [i64 j.F,i64 j.B,i64 j.To]::aK 9 K c d b::box m 27 [i64 (a.length:Int),i64 k,zS c b.length d,zS p n.length q]::aK 69 K p q n::box l 27 o::L) i0)=>(aG (aL (aN b3 (aD (bT (t':=0) hQ rfl rfl) (aD (dS cK e0 (i:=0) rfl rfl rfl) ?_)))))))))
   obtain ⟨r,i1,e⟩:=aB e
   refine aS (vs:=[zS a10 a.length c11,i64 j.F]) call82 rfl (aBr e0 c0 i1) ?_
   rintro _ k7 ⟨rfl,i2⟩
   refine aD (bT (t':=0) hQ rfl rfl) (bY (i:=0) (ns:=[i64 r]) (us:=[i64 r,i64 j.B,i64 j.To]) sizeOf2 i2 rfl rfl rfl rfl rfl (dE rfl) rfl rfl (fun i3 (e1:aI G K (box a5 69 [i64 r,i64 j.B,i64 j.To]::aK 9 K c d b::box m 27 [i64 (a.length:Int),i64 k,zS c b.length d,zS p n.length q]::aK 69 K p q n::box l 27 o::L) i3)=>(aG (aL (aN b3 (aD (bT (t':=2) gR rfl rfl) (aD (dS cK e1 (i:=0) rfl rfl rfl) ?_)))))))
   obtain ⟨x,i4,e⟩:=aB e
   refine aS (vs:=[zS a10 a.length c11,i64 j.To]) call82 rfl (aBr e1 c0 i4) ?_
   rintro _ k8 ⟨rfl,i5⟩
   refine aD (bT (t':=2) gR rfl rfl) (bY (i:=0) (ns:=[i64 x]) (us:=[i64 r,i64 j.B,i64 x]) sizeOf2 i5 rfl rfl rfl rfl rfl (dE rfl) rfl rfl (fun i6 (b7:aI G K (box a5 69 [i64 r,i64 j.B,i64 x]::aK 9 K c d b::box m 27 [i64 (a.length:Int),i64 k,zS c b.length d,zS p n.length q]::aK 69 K p q n::box l 27 o::L) i6)=>(aG (aQ (cN (fun f w=>∃ (c6:Bool),qE n a2 j r x c6=some c1∧f 0=cU a1 J∧f 1=zS a10 a.length c11∧f 4=zP (some ⟨l,0,none⟩)∧f 5=zP (some ⟨m,0,none⟩)∧f 6=i64 a2∧f 7=zP (some ⟨a5,0,none⟩)∧f 58=zB c6∧aI G K (box a5 69 [i64 r,i64 j.B,i64 x]::aK 9 K c d b::box m 27 [i64 (a.length:Int),i64 k,zS c b.length d,zS p n.length q]::aK 69 K p q n::box l 27 o::L) w) ?_ ?_)))))
   ·rintro f k9 ⟨c6,e,e2,e3,e4,b8,e5,i7,e6,b9⟩
    unfold qE at e
    refine aA ?_
    rcases aH e with ⟨c7,e⟩|⟨c7,e⟩
    ·refine aM c7 e6 (aP (aD (bT (t':=3) cV b8 rfl) (aD (dS fH b9 (i:=2) rfl rfl rfl) (aD (eI (us:=[i64 r,i64 j.B,i64 x]) mQ b9 (i:=0) rfl i7 rfl rfl) (bR (Kt:=K) (xs:=([⟨r,j.B,x⟩]:List Edge)) (cs:=[i64 r,i64 j.B,i64 x]) (vs:=[(0,zA #[i64 r,i64 j.B,i64 x])]) cM gZ rfl rfl b9 rfl (by kernel_rfl) rfl rfl rfl ⟨rfl,trivial⟩ (fun i8 i9 (j0:aI G K (aK 69 K i8 1 ([⟨r,j.B,x⟩]:List Edge)::box a5 69 [i64 r,i64 j.B,i64 x]::aK 9 K c d b::box m 27 [i64 (a.length:Int),i64 k,zS c b.length d,zS p n.length q]::aK 69 K p q n::box l 27 o::L) i9)=>?_))))))
     obtain ⟨a6,j1,e⟩:=aB e
     exact dG (i:=3) cM underlying25 gZ rfl rfl j0 rfl (zR _) (zR _) j1 rfl rfl rfl rfl (fun _ h=>h) (fun a8 a9 j2 (j3:aI G K (box a5 69 [i64 r,i64 j.B,i64 x]::aK 9 K c d b::box m 27 [i64 (a.length:Int),i64 k,zS c b.length d,zS p n.length q]::aK 69 K a8 a9 a6::box l 27 o::L) j2)=>(aD (bT (t':=3) cV b8 rfl) (bY (i:=2) (ns:=[zS a8 a6.length a9]) (us:=[i64 (a.length:Int),i64 k,zS c b.length d,zS a8 a6.length a9]) sizeOf25 j3 rfl rfl rfl rfl rfl (dE rfl) rfl rfl (fun j4 (j5:aI G K (box a5 69 [i64 r,i64 j.B,i64 x]::aK 9 K c d b::box m 27 [i64 (a.length:Int),i64 k,zS c b.length d,zS a8 a6.length a9]::aK 69 K a8 a9 a6::box l 27 o::L) j4)=>(aZ (bC (aA ⟨a6,a8,a9,e,e2,e3,e4,b8,e5,(aI.arr 4 [3,1,2] j5 rfl)⟩)))))))
    ·exact aJ c7 e6 (bA (bC (aA ⟨n,p,q,e,e2,e3,e4,b8,e5,(aI.arr 4 [3,1,2] b9 rfl)⟩)))
   refine aP (aD (bT (t':=0) hQ rfl rfl) (aD (dS cK b7 (i:=0) rfl rfl rfl) (aD (zV rfl rfl) (aO (v:=zB (decide (0≤r))) ?_))))
   rcases aH e with ⟨a3,e⟩|⟨a3,e⟩
   ·exact bD a3 rfl rfl (aD (bT (t':=2) gR rfl rfl) (bD a3 rfl rfl (aD (dS cK b7 (i:=0) rfl rfl rfl) (bD a3 rfl rfl (aD (zV rfl rfl) (aD (bL (v:=zB (decide (0≤x))) a3 rfl rfl) (aG ⟨decide (0≤x),e,b2,b3,c2,c3,b4,rfl,rfl,b7⟩)))))))
   ·exact aR a3 rfl rfl (aR a3 rfl rfl (aR a3 rfl rfl (aD (bK (v:=zB false) a3 rfl rfl) (aG ⟨false,e,b2,b3,c2,c3,b4,rfl,rfl,b7⟩))))
  ·refine aJ c4 rfl (cA (aT (aT ?_)))
   have j6:=g7 _ (zI e).symm
   subst j6
   have y:(aBH a k b n)=some R:=y
   exact bJ (aA ⟨n,p,q,y,c2,c3,(aI.arr 3 [2,0,1] b0 rfl)⟩)
end Gv
