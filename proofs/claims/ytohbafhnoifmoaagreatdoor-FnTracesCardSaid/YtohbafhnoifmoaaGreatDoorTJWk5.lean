/- Walks, printed by program. -/
import Derived.Test.YtohbafhnoifmoaaGreatDoorTJWk1
import Derived.Test.YtohbafhnoifmoaaGreatDoorTJWk2
import Derived.Test.YtohbafhnoifmoaaGreatDoorTJWk3
import Derived.Test.YtohbafhnoifmoaaGreatDoorTJWk4
set_option linter.all false
namespace Gv
open Go.Value renaming slice→zS,bool→zB,pointer→zP,agg→zA
open Option.some renaming inj→zI
open Gv.Hp renaming le_trans→zL,le_refl→zR
open Go Go.Proofs Go.Proofs.Tryz
set_option maxRecDepth 20000
set_option maxHeartbeats 40000000
variable {G:Env} {K:Hp} {L:List nJ} {w:World} {b1 c3 c6 c2 c5:Nat} {a2 a5 a1 a4:Option Addr}
theorem aCD {e:(List UInt8)} {g h:Int} {R:(Int × Int × Int)} (c:aI G K (box b1 78 [zS a2 e.length c3,i64 g,Value.int .u64 h]::L) w) (p:cX K a2 c3 e) (a:rG e g h=some R):
  Calls Tryz.prog 44 ([zP (some ⟨b1,0,none⟩)]:List Value).toArray w (gK fun v w'=>v=i64 R.1∧aI G K (box b1 78 [zS a2 e.length c3,i64 R.2.1,Value.int .u64 R.2.2]::L) w'):=by
 let l:=[zS a2 e.length c3,i64 g,Value.int .u64 h]
 let q:=[zS a2 e.length c3,i64 (wr (g+1)),Value.int .u64 h]
 refine aW func44 rfl (by kernel_rfl) (by show (1:Nat)≤62;decide) ?_
 unfold rG at a
 refine aL (aF (v:=i64 0) (aG (aL (aF (v:=i64 0) (aG (uV (fun f w=>∃ (j:Int),mO e g h j=some R∧f 0=zP (some ⟨b1,0,none⟩)∧f 3=i64 j∧aI G K (box b1 78 l::L) w) ?_ ?_))))))
 ·rintro f w8 ⟨j,a,k,r,u⟩
  unfold mO at a
  refine aL (aN k (aD (kA rfl) (aD (bT (t':=1) aGg rfl rfl) (aD (dS sc_3 u (i:=0) rfl rfl rfl) (aD (cP rfl rfl) (aD (kA rfl) (aD (bT (t':=1) aGg rfl rfl) (bY (i:=0) (ns:=[i64 (wr (g+1))]) (us:=q) sizeOf3 u rfl rfl rfl rfl rfl (dE rfl) rfl rfl (fun J (x:aI G K (box b1 78 q::L) J)=>(aG (aL (aN k (aN k (aD (kA rfl) (aD (bT (t':=2) aKP rfl rfl) (aD (dS sc_76 x (i:=0) rfl rfl rfl) (aD (R_u64mul rfl rfl) (aN r (aD (R_convu64 runUnderlying76 rfl ⟨_,runUnderlying3⟩) (aD (aLu rfl rfl) (aD (aLu rfl rfl) (aD (kA rfl) (aD (bT (t':=2) aKP rfl rfl) ?_)))))))))))))))))))))))
  refine bY (i:=0) (ns:=[Value.int .u64 (pR ((pR ((pR (h * 6364136223846793005))+(pR j)))+1442695040888963407))]) (us:=[zS a2 e.length c3,i64 (wr (g+1)),Value.int .u64 (pR ((pR ((pR (h * 6364136223846793005))+(pR j)))+1442695040888963407))]) sizeOf76 x rfl rfl rfl rfl rfl (dE rfl) rfl rfl ?_
  intro V (d:aI G K (box b1 78 [zS a2 e.length c3,i64 (wr (g+1)),Value.int .u64 (pR ((pR ((pR (h * 6364136223846793005))+(pR j)))+1442695040888963407))]::L) V)
  refine aG (aQ (aQ (eR (C:=fun w'=>aI G K (box b1 78 [zS a2 e.length c3,i64 (wr (g+1)),Value.int .u64 (pR ((pR ((pR (h * 6364136223846793005))+(pR j)))+1442695040888963407))]::L) w') bZ (by kernel_rfl) (aI.mono d (eC.drew _)) (bF (fun _ d=>bE k) (bF (fun _ d=>kA rfl) (bF (fun _ d=>bT (t':=1) aGg rfl rfl) (bF (fun _ d=>dS sc_3 d (i:=0) rfl rfl rfl) (bF (fun _ d=>bE k) (bF (fun _ d=>kA rfl) (bF (fun _ d=>bT (t':=0) aKO rfl rfl) (bF (fun _ d=>dS sc_22 d (i:=0) rfl rfl rfl) (bF (fun _ d=>bU (len:=e.length) sl_22 rfl) (bF (fun _ d=>aEw rfl rfl) (fE (fun a8 m=>(aA ?_))))))))))))))))
  rcases aH a with ⟨n,a⟩|⟨n,a⟩
  ·refine aM n rfl (aL (aN r (aF (v:=i64 j) (aG ?_))))
   obtain rfl:=zI a
   exact bM (aV (bP results44 rfl ⟨rfl,m⟩))
  ·refine aJ n rfl (bA (aA (aL (aN k (aD (kA rfl) (aD (bT (t':=2) aKP rfl rfl) (aD (dS sc_76 m (i:=0) rfl rfl rfl) ?_)))))))
   obtain ⟨a0,a1,a⟩:=aB a
   refine aD (R_shrU rfl rfl a1) (aD (R_andU rfl rfl) (aD (aIi runUnderlying2 rfl ⟨_,runUnderlying76⟩) (aF (v:=i64 (wr (anU a0 255))) (aG ?_))))
   obtain rfl:=zI a
   exact bM (bP results44 rfl ⟨rfl,m⟩)
 refine aQ (eR (C:=fun w'=>aI G K (box b1 78 l::L) w') bZ (by kernel_rfl) (aI.mono c (eC.drew _)) (bF (fun _ c=>bE (v:=zP (some ⟨b1,0,none⟩)) rfl) (bF (fun _ c=>kA rfl) (bF (fun _ c=>bT (t':=1) aGg rfl rfl) (bF (fun _ c=>dS sc_3 c (i:=0) rfl rfl rfl) (bF (fun _ c=>bE (v:=zP (some ⟨b1,0,none⟩)) rfl) (bF (fun _ c=>kA rfl) (bF (fun _ c=>bT (t':=0) aKO rfl rfl) (bF (fun _ c=>dS sc_22 c (i:=0) rfl rfl rfl) (bF (fun _ c=>bU (len:=e.length) sl_22 rfl) (bF (fun _ c=>cL rfl rfl) (fE (fun a9 b=>(aA ?_))))))))))))))
 rcases aH a with ⟨o,a⟩|⟨o,a⟩
 ·refine aM o rfl (eR (C:=fun w'=>aI G K (box b1 78 l::L) w') bZ (by kernel_rfl) (aI.mono b (eC.drew _)) (bF (fun _ b=>bE (v:=zP (some ⟨b1,0,none⟩)) rfl) (bF (fun _ b=>kA rfl) (bF (fun _ b=>bT (t':=0) aKO rfl rfl) (bF (fun _ b=>dS sc_22 b (i:=0) rfl rfl rfl) (bF (fun _ b=>bE (v:=zP (some ⟨b1,0,none⟩)) rfl) (bF (fun _ b=>kA rfl) (bF (fun _ b=>bT (t':=1) aGg rfl rfl) (bF (fun _ b=>dS sc_3 b (i:=0) rfl rfl rfl) ?_)))))))))
  obtain ⟨y,z,a⟩:=aB a
  refine bF (fun _ b=>dI sl_22 rfl p rfl rfl rfl z) ?_
  obtain ⟨b0,a4,a5⟩:=cX.el (sz:=1) rfl p z
  cases a5
  exact bF (fun _ b=>bH (t:=0) sc_5 b a4 rfl rfl) (bF (fun _ b=>aIi runUnderlying3 rfl ⟨_,runUnderlying5⟩) (bF (fun _ b=>dV (v:=i64 (wr (y.toNat:Int))) rfl) (fE (fun b2 a6=>(aA ⟨wr (y.toNat:Int),a,rfl,rfl,a6⟩)))))
 ·exact aJ o rfl (bA (aA ⟨0,a,rfl,rfl,b⟩))
theorem cZ {c:(List UInt8)} {k l n:Int} {R:(Int × Int × Int)} (m:aI G K (box b1 78 [zS a2 c.length c3,i64 k,Value.int .u64 l]::L) w) (o:cX K a2 c3 c) (a:dK c k l n=some R):
  Calls Tryz.prog 19 ([zP (some ⟨b1,0,none⟩),i64 n]:List Value).toArray w (gK fun v w'=>v=i64 R.1∧aI G K (box b1 78 [zS a2 c.length c3,i64 R.2.1,Value.int .u64 R.2.2]::L) w'):=by
 refine aW func19 rfl (by kernel_rfl) (by show (2:Nat)≤20;decide) ?_
 unfold dK at a
 refine aL (aF (v:=i64 0) (aG (aQ (aL (aO (v:=i64 n) (aD (aEw rfl rfl) (aG ?_)))))))
 rcases aH a with ⟨e,a⟩|⟨e,a⟩
 ·refine aM e rfl (aL (aF (v:=i64 0) (aG ?_)))
  obtain rfl:=zI a
  exact bM (aV (bP results19 rfl ⟨rfl,m⟩))
 ·refine aJ e rfl (bA (aA (aL (aO (v:=zP (some ⟨b1,0,none⟩)) ?_))))
  obtain ⟨b,r,a⟩:=aB a
  refine aS (vs:=[zP (some ⟨b1,0,none⟩)]) call44 rfl (aCD m o r) ?_
  rintro _ a0 ⟨rfl,p⟩
  refine aF (v:=i64 b.1) (aG (uV (fun f w=>∃ (g:Int) (h:Int) (i:Int),mP n g h i=some R∧f 1=i64 n∧f 5=i64 g∧aI G K (box b1 78 [zS a2 c.length c3,i64 h,Value.int .u64 i]::L) w) ?_ ?_))
  ·rintro f a1 ⟨g,h,i,a,t,u,x⟩
   unfold mP at a
   refine aL (aN u (aN t ?_))
   obtain ⟨y,z,a⟩:=aB a
   refine aD (R_rem rfl rfl z) (aF (v:=i64 y) (aG ?_))
   obtain rfl:=zI a
   exact bM (bP results19 rfl ⟨rfl,x⟩)
  refine aL (aO (v:=i64 n) (aD (kZ rfl rfl) (aG ?_)))
  rcases aH a with ⟨j,a⟩|⟨j,a⟩
  ·refine aM j rfl (aP (aO (v:=i64 b.1) (aD (aCO rfl rfl) (aO (v:=zP (some ⟨b1,0,none⟩)) ?_))))
   obtain ⟨d,V,a⟩:=aB a
   refine aS (vs:=[zP (some ⟨b1,0,none⟩)]) call44 rfl (aCD p o V) ?_
   rintro _ a3 ⟨rfl,Z⟩
   exact aD (cP rfl rfl) (aF (v:=i64 (wr ((wr (b.1 * 256))+d.1))) (aG ⟨wr ((wr (b.1 * 256))+d.1),d.2.1,d.2.2,a,rfl,rfl,Z⟩))
  ·exact aJ j rfl (bA (aA ⟨b.1,b.2.1,b.2.2,a,rfl,rfl,p⟩))
theorem zH {a:(List UInt8)} {c d n:Int} {R:(Bool × Int × Int)} (e:aI G K (box b1 78 [zS a2 a.length c3,i64 c,Value.int .u64 d]::L) w) (g:cX K a2 c3 a) (b:qI a c d n=some R):
  Calls Tryz.prog 42 ([zP (some ⟨b1,0,none⟩),i64 n]:List Value).toArray w (gK fun v w'=>v=zB R.1∧aI G K (box b1 78 [zS a2 a.length c3,i64 R.2.1,Value.int .u64 R.2.2]::L) w'):=by
 refine aW func42 rfl (by kernel_rfl) (by show (2:Nat)≤9;decide) ?_
 unfold qI at b
 refine aL (aF (v:=zB false) (aG (aL (aO (v:=zP (some ⟨b1,0,none⟩)) (aO (v:=i64 n) ?_)))))
 obtain ⟨h,i,b⟩:=aB b
 refine aS (vs:=[zP (some ⟨b1,0,none⟩),i64 n]) call19 rfl (cZ e g i) ?_
 rintro _ l ⟨rfl,j⟩
 refine aD (gE rfl rfl) (aF (v:=zB (h.1 == 0)) (aG ?_))
 obtain rfl:=zI b
 exact bM (bP results42 rfl ⟨rfl,j⟩)
theorem aFp {c:(List UInt8)} {b4 b5:Int} {R:((List aU) × Int × Int)} (hs:aI G K (box b1 78 [zS a2 c.length c3,i64 b4,Value.int .u64 b5]::L) w) (h4:cX K a2 c3 c) (b:sS c b4 b5=some R):
  Calls Tryz.prog 78 ([zP (some ⟨b1,0,none⟩)]:List Value).toArray w (gK fun v w'=>∃ (d5:Option Addr) (d6:Nat),v=zS d5 R.1.length d6∧aI G K (aK 9 K d5 d6 R.1::box b1 78 [zS a2 c.length c3,i64 R.2.1,Value.int .u64 R.2.2]::L) w'):=by
 let d7:=box b1 78 [zS a2 c.length c3,i64 b4,Value.int .u64 b5]
 refine aW func78 rfl (by kernel_rfl) (by show (1:Nat)≤35;decide) ?_
 unfold sS at b
 refine aL (aF (v:=zS none 0 0) (aG (aL (bR (Kt:=K) (xs:=([([116,97,117]:aU)]:List aU)) (cs:=[str ([116,97,117]:aU)]) (vs:=[(0,str ([116,97,117]:aU))]) bX gJ rfl rfl hs rfl (by kernel_rfl) rfl rfl rfl ⟨rfl,trivial⟩ (fun a5 w6 (e7:aI G K (aK 9 K a5 1 ([([116,97,117]:aU)]:List aU)::d7::L) w6)=>(aF (v:=zS a5 ([([116,97,117]:aU)]:List aU).length 1) (aG (aL (bR (Kt:=K) (xs:=([([97]:aU),([98]:aU),([99]:aU),([103,101,116,40,48,41]:aU),([103,101,116,40,49,41]:aU)]:List aU)) (cs:=[str ([97]:aU),str ([98]:aU),str ([99]:aU),str ([103,101,116,40,48,41]:aU),str ([103,101,116,40,49,41]:aU)]) (vs:=[(0,str ([97]:aU)),(1,str ([98]:aU)),(2,str ([99]:aU)),(3,str ([103,101,116,40,48,41]:aU)),(4,str ([103,101,116,40,49,41]:aU))]) bX gJ rfl rfl e7 rfl (by kernel_rfl) rfl rfl rfl ⟨rfl,rfl,rfl,rfl,rfl,trivial⟩ (fun e w9 (e9:aI G K (aK 9 K e 5 ([([97]:aU),([98]:aU),([99]:aU),([103,101,116,40,48,41]:aU),([103,101,116,40,49,41]:aU)]:List aU)::aK 9 K a5 1 ([([116,97,117]:aU)]:List aU)::d7::L) w9)=>(aF (v:=zS e ([([97]:aU),([98]:aU),([99]:aU),([103,101,116,40,48,41]:aU),([103,101,116,40,49,41]:aU)]:List aU).length 5) (aG (aQ (aL (aF (v:=i64 0) (aG (bB (fun f w=>∃ (n:List aU) (o:Int) (p:Int) (y:Option Addr) (z:Nat),nY n o p=some R∧f 3=zS y n.length z∧aI G K (aK 9 K y z n::box b1 78 [zS a2 c.length c3,i64 o,Value.int .u64 p]::L) w) ?_ ?_)))))))))))))))))
 ·rintro f h8 ⟨n,o,p,y,z,b,b6,d8⟩
  unfold nY at b
  refine aA (uV (fun f w=>∃ (J:List aU) (V:Option Addr) (Z:Nat),nX o p J=some R∧f 3=zS V J.length Z∧aI G K (aK 9 K V Z J::box b1 78 [zS a2 c.length c3,i64 o,Value.int .u64 p]::L) w) ?_ ?_)
  ·rintro f h9 ⟨J,V,Z,b,f0,f1⟩
   unfold nX at b
   refine aL (aN f0 (aF (v:=zS V J.length Z) (aG ?_)))
   obtain rfl:=zI b
   exact bM (bP results78 rfl ⟨V,Z,rfl,f1⟩)
  refine aL (aN b6 (aD (bU (len:=n.length) bX rfl) (aD (gE rfl rfl) (aG ?_))))
  rcases aH b with ⟨b7,b⟩|⟨b7,b⟩
  ·refine aM b7 rfl (aP (aN b6 (bR (Kt:=K) (xs:=([([97]:aU)]:List aU)) (cs:=[str ([97]:aU)]) (vs:=[(0,str ([97]:aU))]) bX gJ rfl rfl d8 rfl (by kernel_rfl) rfl rfl rfl ⟨rfl,trivial⟩ (fun f3 f4 (f5:aI G K (aK 9 K f3 1 ([([97]:aU)]:List aU)::aK 9 K y z n::box b1 78 [zS a2 c.length c3,i64 o,Value.int .u64 p]::L) f4)=>?_))))
   obtain ⟨b8,f6,b⟩:=aB b
   exact dG (i:=0) bX underlying24 gJ rfl rfl f5 rfl (zR _) (zR _) f6 rfl rfl rfl rfl (fun _ h=>h) (fun b9 c0 f7 (f8:aI G K (aK 9 K b9 c0 b8::box b1 78 [zS a2 c.length c3,i64 o,Value.int .u64 p]::L) f7)=>(aF (v:=zS b9 b8.length c0) (aG ⟨b8,b9,c0,b,rfl,f8⟩)))
  ·exact aJ b7 rfl (bA (aA ⟨n,y,z,b,b6,d8⟩))
 obtain ⟨i0,f9,b⟩:=aB b
 refine cE f9 (fun (s:(Int × Int × List aU × Int)) f w=>match s with|(u,x,d,j)=>∃ (k:Option Addr) (l:Nat),f 0=zP (some ⟨b1,0,none⟩)∧f 3=zS k d.length l∧f 4=zS e ([([97]:aU),([98]:aU),([99]:aU),([103,101,116,40,48,41]:aU),([103,101,116,40,49,41]:aU)]:List aU).length 5∧f 5=i64 j∧aI G K (aK 9 K e 5 ([([97]:aU),([98]:aU),([99]:aU),([103,101,116,40,48,41]:aU),([103,101,116,40,49,41]:aU)]:List aU)::aK 9 K k l d::box b1 78 [zS a2 c.length c3,i64 u,Value.int .u64 x]::L) w) ?_ ?_
 ·exact ⟨a5,1,rfl,rfl,rfl,rfl,e9⟩
 ·rintro ⟨u,x,d,j⟩ c1 f g0 a g1 ⟨k,l,c2,a4,c4,c5,d9⟩
  replace a:jL c u x d j=some c1:=a
  unfold jL at a
  refine aQ (aL (aN c5 (aN c4 (aD (bU (len:=([([97]:aU),([98]:aU),([99]:aU),([103,101,116,40,48,41]:aU),([103,101,116,40,49,41]:aU)]:List aU).length) bX rfl) (aD (cL rfl rfl) (aG ?_))))))
  rcases aH a with ⟨c6,a⟩|⟨c6,a⟩
  ·refine aM c6 rfl (bA (aA (aQ (bB (fun f w=>∃ (a6:Int) (a7:Int) (a0:List aU) (a9:Option Addr) (b0:Nat),jK j a6 a7 a0=some c1∧f 0=zP (some ⟨b1,0,none⟩)∧f 3=zS a9 a0.length b0∧f 4=zS e ([([97]:aU),([98]:aU),([99]:aU),([103,101,116,40,48,41]:aU),([103,101,116,40,49,41]:aU)]:List aU).length 5∧f 5=i64 j∧aI G K (aK 9 K a9 b0 a0::aK 9 K e 5 ([([97]:aU),([98]:aU),([99]:aU),([103,101,116,40,48,41]:aU),([103,101,116,40,49,41]:aU)]:List aU)::box b1 78 [zS a2 c.length c3,i64 a6,Value.int .u64 a7]::L) w) ?_ ?_))))
   ·rintro f i1 ⟨a6,a7,a0,a9,b0,a,g2,g3,g4,g5,g6⟩
    unfold jK at a
    exact aA (aP (aN g5 (aD (cP rfl rfl) (aF (v:=i64 (wr (j+1))) (aG ⟨(a6,a7,a0,wr (j+1)),(zI a).symm,a9,b0,g2,g3,g4,rfl,(aI.arr 2 [1,0] g6 rfl)⟩)))))
   refine aQ (cN (fun f w=>∃ (q:Int) (r:Int) (c7:Bool),lA d j q r c7=some c1∧f 0=zP (some ⟨b1,0,none⟩)∧f 3=zS k d.length l∧f 4=zS e ([([97]:aU),([98]:aU),([99]:aU),([103,101,116,40,48,41]:aU),([103,101,116,40,49,41]:aU)]:List aU).length 5∧f 5=i64 j∧f 20=zB c7∧aI G K (aK 9 K e 5 ([([97]:aU),([98]:aU),([99]:aU),([103,101,116,40,48,41]:aU),([103,101,116,40,49,41]:aU)]:List aU)::aK 9 K k l d::box b1 78 [zS a2 c.length c3,i64 q,Value.int .u64 r]::L) w) ?_ ?_)
   ·rintro f i2 ⟨q,r,c7,a,e0,e1,c8,c9,e2,b2⟩
    unfold lA at a
    refine aA ?_
    rcases aH a with ⟨d0,a⟩|⟨d0,a⟩
    ·refine aM d0 e2 (aP (aN e1 (aN c8 (aN c9 ?_))))
     obtain ⟨b3,d1,a⟩:=aB a
     have g7:=dA b2 (i:=0) rfl d1
     refine aD (dT bX rfl g7 rfl rfl rfl d1) (aD (gP (t:=0) qB b2 (i:=0) rfl d1 rfl rfl rfl) (bR (Kt:=K) (xs:=([b3]:List aU)) (cs:=[str b3]) (vs:=[(0,str b3)]) bX gJ rfl rfl b2 rfl (by kernel_rfl) rfl rfl rfl ⟨rfl,trivial⟩ (fun g8 g9 (h0:aI G K (aK 9 K g8 1 ([b3]:List aU)::aK 9 K e 5 ([([97]:aU),([98]:aU),([99]:aU),([103,101,116,40,48,41]:aU),([103,101,116,40,49,41]:aU)]:List aU)::aK 9 K k l d::box b1 78 [zS a2 c.length c3,i64 q,Value.int .u64 r]::L) g9)=>?_)))
     obtain ⟨d2,h1,a⟩:=aB a
     exact dG (i:=1) bX underlying24 gJ rfl rfl h0 rfl (zR _) (zR _) h1 rfl rfl rfl rfl (fun _ h=>h) (fun d3 d4 h2 (h3:aI G K (aK 9 K e 5 ([([97]:aU),([98]:aU),([99]:aU),([103,101,116,40,48,41]:aU),([103,101,116,40,49,41]:aU)]:List aU)::aK 9 K d3 d4 d2::box b1 78 [zS a2 c.length c3,i64 q,Value.int .u64 r]::L) h2)=>(aF (v:=zS d3 d2.length d4) (aZ (bC (aA ⟨q,r,d2,d3,d4,a,e0,rfl,c8,c9,(aI.arr 2 [1,0] h3 rfl)⟩)))))
    ·exact aJ d0 e2 (bA (bC (aA ⟨q,r,d,k,l,a,e0,e1,c8,c9,(aI.arr 2 [1,0] b2 rfl)⟩)))
   refine aP (aN c2 ?_)
   have h5:aI G K (box b1 78 [zS a2 c.length c3,i64 u,Value.int .u64 x]::aK 9 K e 5 ([([97]:aU),([98]:aU),([99]:aU),([103,101,116,40,48,41]:aU),([103,101,116,40,49,41]:aU)]:List aU)::aK 9 K k l d::L) g0:=(aI.arr 3 [2,0,1] d9 rfl)
   obtain ⟨a1,h6,a⟩:=aB a
   refine aS (vs:=[zP (some ⟨b1,0,none⟩),i64 2]) call42 rfl (zH h5 h4 h6) ?_
   rintro _ i3 ⟨rfl,e3⟩
   refine aO (v:=zB a1.1) ?_
   rcases aH a with ⟨m,a⟩|⟨m,a⟩
   ·exact bD m rfl rfl (aN a4 (bD m rfl rfl (aD (bU (len:=d.length) bX rfl) (bD m rfl rfl (aD (cL rfl rfl) (aD (bL (v:=zB (decide ((d.length:Int) < 4))) m rfl rfl) (aG ⟨a1.2.1,a1.2.2,decide ((d.length:Int) < 4),a,c2,a4,c4,c5,rfl,(aI.arr 3 [1,2,0] e3 rfl)⟩)))))))
   ·exact aR m rfl rfl (aR m rfl rfl (aR m rfl rfl (aD (bK (v:=zB false) m rfl rfl) (aG ⟨a1.2.1,a1.2.2,false,a,c2,a4,c4,c5,rfl,(aI.arr 3 [1,2,0] e3 rfl)⟩))))
  ·refine aJ c6 rfl (cA (aT (aT ?_)))
   have h7:=g1 _ (zI a).symm
   subst h7
   have b:(nY d u x)=some R:=b
   exact bJ (aA ⟨d,u,x,k,l,b,a4,(aI.arr 1 [] d9 rfl)⟩)
theorem aFq {c:(List UInt8)} {d e:Int} {a:(List Int)} {R:(Int × Int × Int)} (j:aI G K (box b1 78 [zS a2 c.length c3,i64 d,Value.int .u64 e]::L) w) (k:cX K a2 c3 c) (g:cX K a5 c6 a) (b:sT c d e a=some R):
  Calls Tryz.prog 79 ([zP (some ⟨b1,0,none⟩),zS a5 a.length c6]:List Value).toArray w (gK fun v w'=>v=i64 R.1∧aI G K (box b1 78 [zS a2 c.length c3,i64 R.2.1,Value.int .u64 R.2.2]::L) w'):=by
 refine aW func79 rfl (by kernel_rfl) (by show (2:Nat)≤12;decide) ?_
 unfold sT at b
 refine aL (aF (v:=i64 0) (aG (aL (aO (v:=zS a5 a.length c6) (aO (v:=zP (some ⟨b1,0,none⟩)) (aO (v:=zS a5 a.length c6) (aD (bU (len:=a.length) cF rfl) ?_)))))))
 obtain ⟨q,l,b⟩:=aB b
 refine aS (vs:=[zP (some ⟨b1,0,none⟩),i64 (a.length:Int)]) call19 rfl (cZ j k l) ?_
 rintro _ r ⟨rfl,h⟩
 obtain ⟨m,i,b⟩:=aB b
 refine aD (dI cF rfl g rfl rfl rfl i) ?_
 obtain ⟨u,n,o⟩:=cX.el (sz:=1) rfl g i
 cases o
 refine aD (bH (t:=0) cK h n rfl rfl) (aF (v:=i64 m) (aG ?_))
 obtain rfl:=zI b
 exact bM (bP results79 rfl ⟨rfl,h⟩)
theorem aGQ {b:(List UInt8)} {j2 j3:Int} {R:(cG × Int × Int)} (hs:aI G K (box b1 78 [zS a2 b.length c3,i64 j2,Value.int .u64 j3]::L) w) (h4:cX K a2 c3 b) (g:aBc b j2 j3=some R):
  Calls Tryz.prog 41 ([zP (some ⟨b1,0,none⟩)]:List Value).toArray w (gK fun v w'=>∃ (o5:Option Addr) (o6:Nat) (o7:Option Addr) (o8:Nat),v=zA (zCa R.1 o5 o6 o7 o8)∧aI G K (aK 9 K o5 o6 R.1.L::aK 69 K o7 o8 R.1.E::box b1 78 [zS a2 b.length c3,i64 R.2.1,Value.int .u64 R.2.2]::L) w'):=by
 let k:=zG
 refine aW func41 rfl (by kernel_rfl) (by show (1:Nat)≤125;decide) ?_
 unfold aBc at g
 refine aL (bW (vs:=k) zeroValue27 hs rfl (fun j w6 r5=>(aG (aL (aO (v:=zP (some ⟨b1,0,none⟩)) ?_)))))
 have r6:aI G K (box b1 78 [zS a2 b.length c3,i64 j2,Value.int .u64 j3]::box j 27 k::L) w6:=(aI.arr 2 [1,0] r5 rfl)
 obtain ⟨c,r7,g⟩:=aB g
 refine aS (vs:=[zP (some ⟨b1,0,none⟩),i64 4]) call19 rfl (cZ r6 h4 r7) ?_
 rintro _ w11 ⟨rfl,r8⟩
 refine aD (cP rfl rfl) (aF (v:=i64 (wr (1+c.1))) (aG (aL (aO (v:=i64 (wr (1+c.1))) (aO (v:=zP (some ⟨b1,0,none⟩)) (aO (v:=i64 (wr (1+c.1))) (aD (kH rfl rfl) ?_)))))))
 obtain ⟨n,s0,g⟩:=aB g
 refine aS (vs:=[zP (some ⟨b1,0,none⟩),i64 (wr (7 - (wr (1+c.1))))]) call19 rfl (cZ r8 h4 s0) ?_
 rintro _ w16 ⟨rfl,s1⟩
 refine aD (cP rfl rfl) (aF (v:=i64 (wr ((wr (1+c.1))+n.1))) (aG (aL (aO (v:=zP (some ⟨b1,0,none⟩)) ?_))))
 obtain ⟨a,s2,g⟩:=aB g
 refine aS (vs:=[zP (some ⟨b1,0,none⟩)]) call78 rfl (aFp s1 h4 s2) ?_
 rintro _ w23 ⟨d,e,rfl,s3⟩
 refine aF (v:=zS d a.1.length e) (aG (aL (bR (Kt:=K) (xs:=([]:List Int)) (cs:=[]) (vs:=[]) cF jC rfl rfl s3 rfl (by kernel_rfl) rfl rfl rfl trivial (fun j4 s4 (s5:aI G K (aK 2 K j4 0 ([]:List Int)::aK 9 K d e a.1::box b1 78 [zS a2 b.length c3,i64 a.2.1,Value.int .u64 a.2.2]::box j 27 k::L) s4)=>(aF (v:=zS j4 ([]:List Int).length 0) (aG (aQ (aL (aF (v:=i64 0) (aG (bB (fun f w=>∃ (e0:Int) (e1:Int) (l:List Int) (o:Option Addr) (p:Nat),qV b c n a e0 e1 l=some R∧f 0=zP (some ⟨b1,0,none⟩)∧f 2=zP (some ⟨j,0,none⟩)∧f 3=i64 (wr (1+c.1))∧f 4=i64 (wr ((wr (1+c.1))+n.1))∧f 5=zS d a.1.length e∧f 6=zS o l.length p∧aI G K (aK 2 K o p l::aK 9 K d e a.1::box b1 78 [zS a2 b.length c3,i64 e0,Value.int .u64 e1]::box j 27 k::L) w) ?_ ?_)))))))))))
 ·rintro f w39 ⟨e0,e1,l,o,p,g,o9,s6,p0,s7,s8,s9,t0⟩
  unfold qV at g
  refine aA (aL (bR (Kt:=K) (xs:=([]:List Edge)) (cs:=[]) (vs:=[]) cM gZ rfl rfl t0 rfl (by kernel_rfl) rfl rfl rfl trivial (fun f6 p1 (t1:aI G K (aK 69 K f6 0 ([]:List Edge)::aK 2 K o p l::aK 9 K d e a.1::box b1 78 [zS a2 b.length c3,i64 e0,Value.int .u64 e1]::box j 27 k::L) p1)=>(aF (v:=zS f6 ([]:List Edge).length 0) (aG (aQ (aL (aN o9 (aN p0 (aD (aCO rfl rfl) (aD (cP rfl rfl) ?_)))))))))))
  have t2:aI G K (box b1 78 [zS a2 b.length c3,i64 e0,Value.int .u64 e1]::aK 69 K f6 0 ([]:List Edge)::aK 2 K o p l::aK 9 K d e a.1::box j 27 k::L) p1:=(aI.arr 4 [3,0,1,2] t1 rfl)
  obtain ⟨t3,t4,g⟩:=aB g
  refine aS (vs:=[zP (some ⟨b1,0,none⟩),i64 (wr (2+(wr (2 * (wr (1+c.1))))))]) call19 rfl (cZ t2 h4 t4) ?_
  rintro _ w47 ⟨rfl,t5⟩
  refine aF (v:=i64 t3.1) (aG (bB (fun f w=>∃ (f7:Int) (f8:Int) (b7:List Edge) (c4:Option Addr) (c5:Nat),sU b c n a f7 f8 b7=some R∧f 0=zP (some ⟨b1,0,none⟩)∧f 2=zP (some ⟨j,0,none⟩)∧f 4=i64 (wr ((wr (1+c.1))+n.1))∧f 5=zS d a.1.length e∧f 8=zS c4 b7.length c5∧aI G K (aK 69 K c4 c5 b7::box b1 78 [zS a2 b.length c3,i64 f7,Value.int .u64 f8]::aK 9 K d e a.1::box j 27 k::L) w) ?_ ?_))
  ·rintro f t6 ⟨f7,f8,b7,c4,c5,g,c6,p2,f9,j5,p3,t7⟩
   unfold sU at g
   refine aA (uV (fun f w=>∃ (g0:Int) (g1:Int) (b8:List Edge) (c7:Option Addr) (c8:Nat),pF b c n a g0 g1 b8=some R∧f 0=zP (some ⟨b1,0,none⟩)∧f 2=zP (some ⟨j,0,none⟩)∧f 4=i64 (wr ((wr (1+c.1))+n.1))∧f 5=zS d a.1.length e∧f 8=zS c7 b8.length c8∧aI G K (aK 69 K c7 c8 b8::box b1 78 [zS a2 b.length c3,i64 g0,Value.int .u64 g1]::aK 9 K d e a.1::box j 27 k::L) w) ?_ ?_)
   ·rintro f t8 ⟨g0,g1,b8,c7,c8,g,t9,p4,p5,u0,u1,u2⟩
    unfold pF at g
    refine aL (aN p5 (aN t9 (aN p5 ?_)))
    have u3:aI G K (box b1 78 [zS a2 b.length c3,i64 g0,Value.int .u64 g1]::aK 69 K c7 c8 b8::aK 9 K d e a.1::box j 27 k::L) t8:=(aI.arr 2 [1,0] u2 rfl)
    obtain ⟨j6,u4,g⟩:=aB g
    refine aS (vs:=[zP (some ⟨b1,0,none⟩),i64 (wr ((wr (1+c.1))+n.1))]) call19 rfl (cZ u3 h4 u4) ?_
    rintro _ w76 ⟨rfl,u5⟩
    refine aN u0 (aN u1 ?_)
    obtain ⟨K78,u6,u7,u8,u9⟩:=aI.lendS (i:=2) u5 (zR _) rfl
    obtain ⟨K83,v0,v1,v2,v3⟩:=aI.lendS (i:=1) u8 u6 rfl
    obtain ⟨y,v4,g⟩:=aB g
    refine aS (vs:=[i64 (wr ((wr (1+c.1))+n.1)),i64 j6.1,zS d a.1.length e,zS c7 b8.length c8]) call43 rfl (zF v2 (u7.mono v0) v1 v4) ?_
    rintro _ w94 ⟨c9,d0,d1,d2,rfl,v5⟩
    have v6:=v3 _ _ v5
    have v7:=u9 _ _ v6
    refine bY (i:=5) (ns:=(zC y c9 d0 d1 d2)) (us:=(zC y c9 d0 d1 d2)) sizeOf27 v7 rfl p4 rfl rfl rfl (dE rfl) rfl rfl (fun v8 (p6:aI G K (aK 9 K d e a.1::aK 69 K c7 c8 b8::aK 9 K c9 d0 y.L::aK 69 K d1 d2 y.E::box b1 78 [zS a2 b.length c3,i64 j6.2.1,Value.int .u64 j6.2.2]::box j 27 (zC y c9 d0 d1 d2)::L) v8)=>(aG ?_))
    obtain rfl:=zI g
    exact bM (vY results41 (fV (vs:=(zC y c9 d0 d1 d2)) rfl dJ p6 (i:=5) rfl p4 rfl) ⟨c9,d0,d1,d2,rfl,(aI.arr 6 [2,3,4] p6 rfl)⟩)
   refine aL (aN c6 ?_)
   have w0:aI G K (box b1 78 [zS a2 b.length c3,i64 f7,Value.int .u64 f8]::aK 69 K c4 c5 b7::aK 9 K d e a.1::box j 27 k::L) t6:=(aI.arr 2 [1,0] t7 rfl)
   obtain ⟨p7,w1,g⟩:=aB g
   refine aS (vs:=[zP (some ⟨b1,0,none⟩),i64 3]) call42 rfl (zH w0 h4 w1) ?_
   rintro _ b13 ⟨rfl,p8⟩
   refine aG ?_
   rcases aH g with ⟨j7,g⟩|⟨j7,g⟩
   ·refine aM j7 rfl (aP (aN p3 (aN c6 (aN f9 ?_))))
    obtain ⟨d3,w2,g⟩:=aB g
    refine aS (vs:=[zP (some ⟨b1,0,none⟩),i64 (wr ((wr (1+c.1))+n.1))]) call19 rfl (cZ p8 h4 w2) ?_
    rintro _ b14 ⟨rfl,w3⟩
    refine aN c6 (aN j5 (aD (bU (len:=a.1.length) bX rfl) ?_))
    obtain ⟨d4,w4,g⟩:=aB g
    refine aS (vs:=[zP (some ⟨b1,0,none⟩),i64 (a.1.length:Int)]) call19 rfl (cZ w3 h4 w4) ?_
    rintro _ b15 ⟨rfl,w5⟩
    refine aN c6 (aN f9 ?_)
    obtain ⟨a5,w7,g⟩:=aB g
    refine aS (vs:=[zP (some ⟨b1,0,none⟩),i64 (wr ((wr (1+c.1))+n.1))]) call19 rfl (cZ w5 h4 w7) ?_
    rintro _ b16 ⟨rfl,w8⟩
    refine aD (dL (vs:=[(0,i64 d3.1),(1,i64 d4.1),(2,i64 a5.1)]) (cs:=[i64 d3.1,i64 d4.1,i64 a5.1]) aFy rfl (by kernel_rfl)) (bR (Kt:=K) (xs:=([⟨d3.1,d4.1,a5.1⟩]:List Edge)) (cs:=[i64 d3.1,i64 d4.1,i64 a5.1]) (vs:=[(0,zA #[i64 d3.1,i64 d4.1,i64 a5.1])]) cM gZ rfl rfl w8 rfl (by kernel_rfl) rfl rfl rfl ⟨rfl,trivial⟩ (fun w9 x0 (x1:aI G K (aK 69 K w9 1 ([⟨d3.1,d4.1,a5.1⟩]:List Edge)::box b1 78 [zS a2 b.length c3,i64 a5.2.1,Value.int .u64 a5.2.2]::aK 69 K c4 c5 b7::aK 9 K d e a.1::box j 27 k::L) x0)=>?_))
    obtain ⟨j8,x2,g⟩:=aB g
    exact dG (i:=1) cM underlying25 gZ rfl rfl x1 rfl (zR _) (zR _) x2 rfl rfl rfl rfl (fun _ h=>h) (fun j9 k0 x3 (x4:aI G K (box b1 78 [zS a2 b.length c3,i64 a5.2.1,Value.int .u64 a5.2.2]::aK 69 K j9 k0 j8::aK 9 K d e a.1::box j 27 k::L) x3)=>(aF (v:=zS j9 j8.length k0) (aG ⟨a5.2.1,a5.2.2,j8,j9,k0,g,c6,p2,f9,j5,rfl,(aI.arr 2 [1,0] x4 rfl)⟩)))
   ·exact aJ j7 rfl (bA (aA ⟨p7.2.1,p7.2.2,b7,c4,c5,g,c6,p2,f9,j5,p3,(aI.arr 2 [1,0] p8 rfl)⟩))
  obtain ⟨b17,x5,g⟩:=aB g
  refine cE x5 (fun (s:(Int × Int × List Edge × Int)) f w=>match s with|(e2,e3,d5,J)=>∃ (e4:Option Addr) (e5:Nat),f 0=zP (some ⟨b1,0,none⟩)∧f 2=zP (some ⟨j,0,none⟩)∧f 3=i64 (wr (1+c.1))∧f 4=i64 (wr ((wr (1+c.1))+n.1))∧f 5=zS d a.1.length e∧f 6=zS o l.length p∧f 8=zS e4 d5.length e5∧f 9=i64 J∧aI G K (box b1 78 [zS a2 b.length c3,i64 e2,Value.int .u64 e3]::aK 69 K e4 e5 d5::aK 2 K o p l::aK 9 K d e a.1::box j 27 k::L) w) ?_ ?_
  ·exact ⟨f6,0,o9,s6,p0,s7,s8,s9,rfl,rfl,t5⟩
  ·rintro ⟨e2,e3,d5,J⟩ g2 f b18 q x6 ⟨e4,e5,e6,p9,k1,q0,k2,x7,q1,q2,q3⟩
   replace q:lJ b c n a l e2 e3 d5 J=some g2:=q
   unfold lJ at q
   refine aQ (aL (aN q2 (aD (kZ rfl rfl) (aG ?_))))
   rcases aH q with ⟨k3,q⟩|⟨k3,q⟩
   ·refine aM k3 rfl (bA (aA (aQ (bB (fun f w=>∃ (g3:Int) (g4:Int) (e7:List Edge) (g5:Option Addr) (g6:Nat),yN J g3 g4 e7=some g2∧f 0=zP (some ⟨b1,0,none⟩)∧f 2=zP (some ⟨j,0,none⟩)∧f 3=i64 (wr (1+c.1))∧f 4=i64 (wr ((wr (1+c.1))+n.1))∧f 5=zS d a.1.length e∧f 6=zS o l.length p∧f 8=zS g5 e7.length g6∧f 9=i64 J∧aI G K (aK 69 K g5 g6 e7::box b1 78 [zS a2 b.length c3,i64 g3,Value.int .u64 g4]::aK 2 K o p l::aK 9 K d e a.1::box j 27 k::L) w) ?_ ?_))))
    ·rintro f b19 ⟨g3,g4,e7,g5,g6,q,x8,x9,y0,y1,y2,y3,y4,y5,y6⟩
     unfold yN at q
     exact aA (aP (aN y5 (aD (kH rfl rfl) (aF (v:=i64 (wr (J - 1))) (aG ⟨(g3,g4,e7,wr (J - 1)),(zI q).symm,g5,g6,x8,x9,y0,y1,y2,y3,y4,rfl,(aI.arr 2 [1,0] y6 rfl)⟩)))))
    refine aL (aN e6 (aN k1 ?_))
    obtain ⟨b9,y7,q⟩:=aB q
    refine aS (vs:=[zP (some ⟨b1,0,none⟩),i64 (wr (1+c.1))]) call19 rfl (cZ q3 h4 y7) ?_
    rintro _ b20 ⟨rfl,y8⟩
    refine aF (v:=i64 b9.1) (aG (aL (aN e6 (aN k2 (aD (bU (len:=a.1.length) bX rfl) ?_)))))
    obtain ⟨V,y9,q⟩:=aB q
    refine aS (vs:=[zP (some ⟨b1,0,none⟩),i64 (a.1.length:Int)]) call19 rfl (cZ y8 h4 y9) ?_
    rintro _ b21 ⟨rfl,z0⟩
    refine aF (v:=i64 V.1) (aG (aL (aN e6 (aN k1 ?_))))
    obtain ⟨b4,z1,q⟩:=aB q
    refine aS (vs:=[zP (some ⟨b1,0,none⟩),i64 (wr (1+c.1))]) call19 rfl (cZ z0 h4 z1) ?_
    rintro _ b22 ⟨rfl,z2⟩
    refine aF (v:=i64 b4.1) (aG (aL (aF (v:=i64 0) (aG (bB (fun f w=>∃ (g7:Int) (g8:Int) (e8:List Edge) (g9:Option Addr) (h0:Nat),sV J g7 g8 e8=some g2∧f 0=zP (some ⟨b1,0,none⟩)∧f 2=zP (some ⟨j,0,none⟩)∧f 3=i64 (wr (1+c.1))∧f 4=i64 (wr ((wr (1+c.1))+n.1))∧f 5=zS d a.1.length e∧f 6=zS o l.length p∧f 8=zS g9 e8.length h0∧f 9=i64 J∧aI G K (aK 69 K g9 h0 e8::box b1 78 [zS a2 b.length c3,i64 g7,Value.int .u64 g8]::aK 2 K o p l::aK 9 K d e a.1::box j 27 k::L) w) ?_ ?_)))))
    ·rintro f b23 ⟨g7,g8,e8,g9,h0,q,z3,z4,z5,z6,z7,z8,z9,a00,a01⟩
     unfold sV at q
     exact bC (aA ⟨g7,g8,e8,g9,h0,q,z3,z4,z5,z6,z7,z8,z9,a00,a01⟩)
    obtain ⟨b24,a02,q⟩:=aB q
    refine cE a02 (fun (s:(Int × Int × List Edge × Int)) f w=>match s with|(a3,a4,u,z)=>∃ (Z:Option Addr) (a0:Nat),f 0=zP (some ⟨b1,0,none⟩)∧f 2=zP (some ⟨j,0,none⟩)∧f 3=i64 (wr (1+c.1))∧f 4=i64 (wr ((wr (1+c.1))+n.1))∧f 5=zS d a.1.length e∧f 6=zS o l.length p∧f 8=zS Z u.length a0∧f 9=i64 J∧f 10=i64 b9.1∧f 11=i64 V.1∧f 12=i64 b4.1∧f 13=i64 z∧aI G K (box b1 78 [zS a2 b.length c3,i64 a3,Value.int .u64 a4]::aK 69 K Z a0 u::aK 2 K o p l::aK 9 K d e a.1::box j 27 k::L) w) ?_ ?_
    ·exact ⟨e4,e5,e6,p9,k1,q0,k2,x7,q1,q2,rfl,rfl,rfl,rfl,z2⟩
    ·rintro ⟨a3,a4,u,z⟩ h1 f b25 m a03 ⟨Z,a0,k4,k5,k6,h2,k7,h3,k8,k9,l0,q4,q5,h5,e9⟩
     replace m:mV b c n l b9 V b4 a3 a4 u z=some h1:=m
     unfold mV at m
     refine aQ (aL (aN h5 (aN h2 (aD (cL rfl rfl) (aG ?_)))))
     rcases aH m with ⟨l1,m⟩|⟨l1,m⟩
     ·refine aM l1 rfl (bA (aA (aQ (bB (fun f w=>∃ (h6:Int) (h7:Int) (f0:List Edge) (h8:Option Addr) (h9:Nat),sW z h6 h7 f0=some h1∧f 0=zP (some ⟨b1,0,none⟩)∧f 2=zP (some ⟨j,0,none⟩)∧f 3=i64 (wr (1+c.1))∧f 4=i64 (wr ((wr (1+c.1))+n.1))∧f 5=zS d a.1.length e∧f 6=zS o l.length p∧f 8=zS h8 f0.length h9∧f 9=i64 J∧f 10=i64 b9.1∧f 11=i64 V.1∧f 12=i64 b4.1∧f 13=i64 z∧aI G K (box b1 78 [zS a2 b.length c3,i64 h6,Value.int .u64 h7]::aK 69 K h8 h9 f0::aK 2 K o p l::aK 9 K d e a.1::box j 27 k::L) w) ?_ ?_))))
      ·rintro f b26 ⟨h6,h7,f0,h8,h9,m,a04,a05,a06,a07,a08,a09,a10,a11,a12,a13,a14,a15,a16⟩
       unfold sW at m
       exact aA (aP (aN a15 (aD (cP rfl rfl) (aF (v:=i64 (wr (z+1))) (aG ⟨(h6,h7,f0,wr (z+1)),(zI m).symm,h8,h9,a04,a05,a06,a07,a08,a09,a10,a11,a12,a13,a14,rfl,a16⟩)))))
      refine aQ (aL (aN h3 (aN h5 ?_)))
      obtain ⟨b27,l2,m⟩:=aB m
      have q6:=dA e9 (i:=2) rfl l2
      refine aD (dT cF rfl q6 rfl rfl rfl l2) (aD (gP (t:=0) cK e9 (i:=2) rfl l2 rfl rfl rfl) (aN l0 (aD (aBw rfl rfl) (aG ?_))))
      rcases aH m with ⟨l3,m⟩|⟨l3,m⟩
      ·exact aM l3 rfl (cA (aT (bJ (aA ⟨a3,a4,u,Z,a0,m,k4,k5,k6,h2,k7,h3,k8,k9,l0,q4,q5,h5,e9⟩))))
      ·refine aJ l3 rfl (bA (aA (aL (bR (Kt:=K) (xs:=([]:List Int)) (cs:=[]) (vs:=[]) cF jC rfl rfl e9 rfl (by kernel_rfl) rfl rfl rfl trivial (fun l4 a17 (a18:aI G K (aK 2 K l4 0 ([]:List Int)::box b1 78 [zS a2 b.length c3,i64 a3,Value.int .u64 a4]::aK 69 K Z a0 u::aK 2 K o p l::aK 9 K d e a.1::box j 27 k::L) a17)=>(aF (v:=zS l4 ([]:List Int).length 0) (aG (aQ (aL (aF (v:=i64 0) (aG (bB (fun f w=>∃ (c0:List Int) (d6:Option Addr) (d7:Nat),sX b V a3 a4 u z c0=some h1∧f 0=zP (some ⟨b1,0,none⟩)∧f 2=zP (some ⟨j,0,none⟩)∧f 3=i64 (wr (1+c.1))∧f 4=i64 (wr ((wr (1+c.1))+n.1))∧f 5=zS d a.1.length e∧f 6=zS o l.length p∧f 8=zS Z u.length a0∧f 9=i64 J∧f 10=i64 b9.1∧f 11=i64 V.1∧f 12=i64 b4.1∧f 13=i64 z∧f 14=zS d6 c0.length d7∧aI G K (aK 2 K d6 d7 c0::box b1 78 [zS a2 b.length c3,i64 a3,Value.int .u64 a4]::aK 69 K Z a0 u::aK 2 K o p l::aK 9 K d e a.1::box j 27 k::L) w) ?_ ?_))))))))))))
       ·rintro f b28 ⟨c0,d6,d7,m,q7,a19,a20,a22,a23,a24,a26,a27,a28,q8,a29,q9,a30,a32⟩
        unfold sX at m
        refine aA (aP (aN a26 (aN q9 (aN q8 (aN q7 (aN a30 ?_))))))
        obtain ⟨b29,a33,a34,a35,a36⟩:=aI.lendS (i:=0) a32 (zR _) rfl
        obtain ⟨a6,a37,m⟩:=aB m
        refine aS (vs:=[zP (some ⟨b1,0,none⟩),zS d6 c0.length d7]) call79 rfl (aFq a35 (h4.mono a33) a34 a37) ?_
        rintro _ b30 ⟨rfl,a38⟩
        have a39:=a36 _ _ a38
        refine aD (dL (vs:=[(0,i64 z),(1,i64 V.1),(2,i64 a6.1)]) (cs:=[i64 z,i64 V.1,i64 a6.1]) aFy rfl (by kernel_rfl)) (bR (Kt:=K) (xs:=([⟨z,V.1,a6.1⟩]:List Edge)) (cs:=[i64 z,i64 V.1,i64 a6.1]) (vs:=[(0,zA #[i64 z,i64 V.1,i64 a6.1])]) cM gZ rfl rfl a39 rfl (by kernel_rfl) rfl rfl rfl ⟨rfl,trivial⟩ (fun a40 a42 (a43:aI G K (aK 69 K a40 1 ([⟨z,V.1,a6.1⟩]:List Edge)::aK 2 K d6 d7 c0::box b1 78 [zS a2 b.length c3,i64 a6.2.1,Value.int .u64 a6.2.2]::aK 69 K Z a0 u::aK 2 K o p l::aK 9 K d e a.1::box j 27 k::L) a42)=>?_))
        obtain ⟨l5,a44,m⟩:=aB m
        exact dG (i:=2) cM underlying25 gZ rfl rfl a43 rfl (zR _) (zR _) a44 rfl rfl rfl rfl (fun _ h=>h) (fun l6 l7 a45 (a46:aI G K (aK 2 K d6 d7 c0::box b1 78 [zS a2 b.length c3,i64 a6.2.1,Value.int .u64 a6.2.2]::aK 69 K l6 l7 l5::aK 2 K o p l::aK 9 K d e a.1::box j 27 k::L) a45)=>(aF (v:=zS l6 l5.length l7) (aZ (bC (aA ⟨a6.2.1,a6.2.2,l5,l6,l7,m,q7,a19,a20,a22,a23,a24,rfl,a27,a28,q8,a29,q9,(aI.arr 1 [] a46 rfl)⟩)))))
       obtain ⟨b31,a47,m⟩:=aB m
       refine cE a47 (fun (s:(List Int × Int)) f w=>match s with|(b6,a7)=>∃ (d8:Option Addr) (d9:Nat),f 0=zP (some ⟨b1,0,none⟩)∧f 2=zP (some ⟨j,0,none⟩)∧f 3=i64 (wr (1+c.1))∧f 4=i64 (wr ((wr (1+c.1))+n.1))∧f 5=zS d a.1.length e∧f 6=zS o l.length p∧f 8=zS Z u.length a0∧f 9=i64 J∧f 10=i64 b9.1∧f 11=i64 V.1∧f 12=i64 b4.1∧f 13=i64 z∧f 14=zS d8 b6.length d9∧f 15=i64 a7∧aI G K (aK 2 K d8 d9 b6::box b1 78 [zS a2 b.length c3,i64 a3,Value.int .u64 a4]::aK 69 K Z a0 u::aK 2 K o p l::aK 9 K d e a.1::box j 27 k::L) w) ?_ ?_
       ·exact ⟨l4,0,k4,k5,k6,h2,k7,h3,k8,k9,l0,q4,q5,h5,rfl,rfl,a18⟩
       ·rintro ⟨b6,a7⟩ r0 f b32 x a48 ⟨d8,d9,l8,l9,m0,i0,m1,i1,m2,m3,m4,m5,i2,m6,m7,f1,i3⟩
        replace x:jM c n l b4 b6 a7=some r0:=x
        unfold jM at x
        refine aQ (aL (aN f1 (aN i0 (aD (cL rfl rfl) (aG ?_)))))
        rcases aH x with ⟨m8,x⟩|⟨m8,x⟩
        ·refine aM m8 rfl (bA (aA (aQ (bB (fun f w=>∃ (f2:List Int) (i4:Option Addr) (i5:Nat),sY a7 f2=some r0∧f 0=zP (some ⟨b1,0,none⟩)∧f 2=zP (some ⟨j,0,none⟩)∧f 3=i64 (wr (1+c.1))∧f 4=i64 (wr ((wr (1+c.1))+n.1))∧f 5=zS d a.1.length e∧f 6=zS o l.length p∧f 8=zS Z u.length a0∧f 9=i64 J∧f 10=i64 b9.1∧f 11=i64 V.1∧f 12=i64 b4.1∧f 13=i64 z∧f 14=zS i4 f2.length i5∧f 15=i64 a7∧aI G K (aK 2 K i4 i5 f2::box b1 78 [zS a2 b.length c3,i64 a3,Value.int .u64 a4]::aK 69 K Z a0 u::aK 2 K o p l::aK 9 K d e a.1::box j 27 k::L) w) ?_ ?_))))
         ·rintro f b33 ⟨f2,i4,i5,x,a49,a50,a51,a53,a54,a55,a56,a57,a58,a59,a60,a61,a62,a63,a65⟩
          unfold sY at x
          exact aA (aP (aN a63 (aD (cP rfl rfl) (aF (v:=i64 (wr (a7+1))) (aG ⟨(f2,wr (a7+1)),(zI x).symm,i4,i5,a49,a50,a51,a53,a54,a55,a56,a57,a58,a59,a60,a61,a62,rfl,a65⟩)))))
         refine aL (aN i1 (aN f1 ?_))
         obtain ⟨b34,r1,x⟩:=aB x
         refine aD (dT cF rfl q6 rfl rfl rfl r1) (aD (gP (t:=0) cK i3 (i:=3) rfl r1 rfl rfl rfl) (aN i2 (aD (gE rfl rfl) (aG ?_))))
         rcases aH x with ⟨m9,x⟩|⟨m9,x⟩
         ·refine aM m9 rfl (aP (aN m7 (aN f1 (bR (Kt:=K) (xs:=([a7]:List Int)) (cs:=[i64 a7]) (vs:=[(0,i64 a7)]) cF jC rfl rfl i3 rfl (by kernel_rfl) rfl rfl rfl ⟨rfl,trivial⟩ (fun a66 a67 (a68:aI G K (aK 2 K a66 1 ([a7]:List Int)::aK 2 K d8 d9 b6::box b1 78 [zS a2 b.length c3,i64 a3,Value.int .u64 a4]::aK 69 K Z a0 u::aK 2 K o p l::aK 9 K d e a.1::box j 27 k::L) a67)=>?_)))))
          obtain ⟨n0,a69,x⟩:=aB x
          exact dG (i:=0) cF underlying35 jC rfl rfl a68 rfl (zR _) (zR _) a69 rfl rfl rfl rfl (fun _ h=>h) (fun n1 n2 a70 (a71:aI G K (aK 2 K n1 n2 n0::box b1 78 [zS a2 b.length c3,i64 a3,Value.int .u64 a4]::aK 69 K Z a0 u::aK 2 K o p l::aK 9 K d e a.1::box j 27 k::L) a70)=>(aF (v:=zS n1 n0.length n2) (aZ (bC (aA ⟨n0,n1,n2,x,l8,l9,m0,i0,m1,i1,m2,m3,m4,m5,i2,m6,rfl,f1,a71⟩)))))
         ·exact aJ m9 rfl (bA (bC (aA ⟨b6,d8,d9,x,l8,l9,m0,i0,m1,i1,m2,m3,m4,m5,i2,m6,m7,f1,i3⟩)))
        ·refine aJ m8 rfl (cA (aT (aT ?_)))
         have a72:=a48 _ (zI x).symm
         subst a72
         have m:(sX b V a3 a4 u z b6)=some h1:=m
         exact bJ (aA ⟨b6,d8,d9,m,l8,l9,m0,i0,m1,i1,m2,m3,m4,m5,i2,m6,m7,i3⟩)
     ·refine aJ l1 rfl (cA (aT (aT ?_)))
      have a73:=a03 _ (zI m).symm
      subst a73
      have q:(sV J a3 a4 u)=some g2:=q
      exact bJ (aA ⟨a3,a4,u,Z,a0,q,k4,k5,k6,h2,k7,h3,k8,k9,(aI.arr 2 [1,0] e9 rfl)⟩)
   ·refine aJ k3 rfl (cA (aT (aT ?_)))
    have a74:=x6 _ (zI q).symm
    subst a74
    have g:(sU b c n a e2 e3 d5)=some R:=g
    exact bJ (aA ⟨e2,e3,d5,e4,e5,g,e6,p9,q0,k2,q1,(aI.arr 3 [1,0] q3 rfl)⟩)
 obtain ⟨b35,a75,g⟩:=aB g
 refine cE a75 (fun (s:(Int × Int × List Int × Int)) f w=>match s with|(b0,b2,b3,a8)=>∃ (c1:Option Addr) (c2:Nat),f 0=zP (some ⟨b1,0,none⟩)∧f 2=zP (some ⟨j,0,none⟩)∧f 3=i64 (wr (1+c.1))∧f 4=i64 (wr ((wr (1+c.1))+n.1))∧f 5=zS d a.1.length e∧f 6=zS c1 b3.length c2∧f 7=i64 a8∧aI G K (aK 2 K c1 c2 b3::aK 9 K d e a.1::box b1 78 [zS a2 b.length c3,i64 b0,Value.int .u64 b2]::box j 27 k::L) w) ?_ ?_
 ·exact ⟨j4,0,rfl,rfl,rfl,rfl,rfl,rfl,rfl,s5⟩
 ·rintro ⟨b0,b2,b3,a8⟩ r2 f a76 r a77 ⟨c1,c2,i6,n3,f3,i7,n4,n5,f4,n6⟩
  replace r:lK b c n b0 b2 b3 a8=some r2:=r
  unfold lK at r
  refine aQ (aL (aN f4 (aN i7 (aD (cL rfl rfl) (aG ?_)))))
  rcases aH r with ⟨n7,r⟩|⟨n7,r⟩
  ·refine aM n7 rfl (bA (aA (aQ (bB (fun f w=>∃ (i8:Int) (i9:Int) (f5:List Int) (j0:Option Addr) (j1:Nat),nM a8 i8 i9 f5=some r2∧f 0=zP (some ⟨b1,0,none⟩)∧f 2=zP (some ⟨j,0,none⟩)∧f 3=i64 (wr (1+c.1))∧f 4=i64 (wr ((wr (1+c.1))+n.1))∧f 5=zS d a.1.length e∧f 6=zS j0 f5.length j1∧f 7=i64 a8∧aI G K (aK 2 K j0 j1 f5::aK 9 K d e a.1::box b1 78 [zS a2 b.length c3,i64 i8,Value.int .u64 i9]::box j 27 k::L) w) ?_ ?_))))
   ·rintro f b36 ⟨i8,i9,f5,j0,j1,r,a78,a79,a80,a81,a82,a83,a84,a85⟩
    unfold nM at r
    exact aA (aP (aN a84 (aD (cP rfl rfl) (aF (v:=i64 (wr (a8+1))) (aG ⟨(i8,i9,f5,wr (a8+1)),(zI r).symm,j0,j1,a78,a79,a80,a81,a82,a83,rfl,a85⟩)))))
   refine aL (aN f4 (aN f3 (aD (cL rfl rfl) (aG ?_))))
   rcases aH r with ⟨n8,r⟩|⟨n8,r⟩
   ·refine aM n8 rfl (aP (aN n5 (aN f4 (bR (Kt:=K) (xs:=([a8]:List Int)) (cs:=[i64 a8]) (vs:=[(0,i64 a8)]) cF jC rfl rfl n6 rfl (by kernel_rfl) rfl rfl rfl ⟨rfl,trivial⟩ (fun a86 a87 (a88:aI G K (aK 2 K a86 1 ([a8]:List Int)::aK 2 K c1 c2 b3::aK 9 K d e a.1::box b1 78 [zS a2 b.length c3,i64 b0,Value.int .u64 b2]::box j 27 k::L) a87)=>?_)))))
    obtain ⟨n9,a89,r⟩:=aB r
    exact dG (i:=0) cF underlying35 jC rfl rfl a88 rfl (zR _) (zR _) a89 rfl rfl rfl rfl (fun _ h=>h) (fun o0 o1 a91 (a93:aI G K (aK 2 K o0 o1 n9::aK 9 K d e a.1::box b1 78 [zS a2 b.length c3,i64 b0,Value.int .u64 b2]::box j 27 k::L) a91)=>(aF (v:=zS o0 n9.length o1) (aZ (bC (aA ⟨b0,b2,n9,o0,o1,r,i6,n3,f3,i7,n4,rfl,f4,a93⟩)))))
   ·refine aJ n8 rfl (aP (aN n5 (aN i6 (aN f3 ?_))))
    have a94:aI G K (box b1 78 [zS a2 b.length c3,i64 b0,Value.int .u64 b2]::aK 2 K c1 c2 b3::aK 9 K d e a.1::box j 27 k::L) a76:=(aI.arr 3 [2,0,1] n6 rfl)
    obtain ⟨a9,a95,r⟩:=aB r
    refine aS (vs:=[zP (some ⟨b1,0,none⟩),i64 (wr (1+c.1))]) call19 rfl (cZ a94 h4 a95) ?_
    rintro _ b37 ⟨rfl,a96⟩
    refine bR (Kt:=K) (xs:=([a9.1]:List Int)) (cs:=[i64 a9.1]) (vs:=[(0,i64 a9.1)]) cF jC rfl rfl a96 rfl (by kernel_rfl) rfl rfl rfl ⟨rfl,trivial⟩ (fun a97 a98 (a99:aI G K (aK 2 K a97 1 ([a9.1]:List Int)::box b1 78 [zS a2 b.length c3,i64 a9.2.1,Value.int .u64 a9.2.2]::aK 2 K c1 c2 b3::aK 9 K d e a.1::box j 27 k::L) a98)=>?_)
    obtain ⟨o2,b00,r⟩:=aB r
    exact dG (i:=1) cF underlying35 jC rfl rfl a99 rfl (zR _) (zR _) b00 rfl rfl rfl rfl (fun _ h=>h) (fun o3 o4 b01 (b02:aI G K (box b1 78 [zS a2 b.length c3,i64 a9.2.1,Value.int .u64 a9.2.2]::aK 2 K o3 o4 o2::aK 9 K d e a.1::box j 27 k::L) b01)=>(aF (v:=zS o3 o2.length o4) (aZ (bC (aA ⟨a9.2.1,a9.2.2,o2,o3,o4,r,i6,n3,f3,i7,n4,rfl,f4,(aI.arr 3 [1,2,0] b02 rfl)⟩)))))
  ·refine aJ n7 rfl (cA (aT (aT ?_)))
   have b03:=a77 _ (zI r).symm
   subst b03
   have g:(qV b c n a b0 b2 b3)=some R:=g
   exact bJ (aA ⟨b0,b2,b3,c1,c2,g,i6,n3,f3,i7,n4,n5,n6⟩)
theorem aDD {j:(List UInt8)} {d8 d9:Int} {R:(cG × Int × Int)} (hs:aI G K (box b1 78 [zS a2 j.length c3,i64 d8,Value.int .u64 d9]::L) w) (h4:cX K a2 c3 j) (k:pW j d8 d9=some R):
  Calls Tryz.prog 18 ([zP (some ⟨b1,0,none⟩)]:List Value).toArray w (gK fun v w'=>∃ (f6:Option Addr) (f7:Nat) (f8:Option Addr) (f9:Nat),v=zA (zCa R.1 f6 f7 f8 f9)∧aI G K (aK 9 K f6 f7 R.1.L::aK 69 K f8 f9 R.1.E::box b1 78 [zS a2 j.length c3,i64 R.2.1,Value.int .u64 R.2.2]::L) w'):=by
 let o:=zG
 refine aW func18 rfl (by kernel_rfl) (by show (1:Nat)≤56;decide) ?_
 unfold pW at k
 refine aL (bW (vs:=o) zeroValue27 hs rfl (fun l w6 i0=>(aG (aL (aO (v:=zP (some ⟨b1,0,none⟩)) ?_)))))
 have i1:aI G K (box b1 78 [zS a2 j.length c3,i64 d8,Value.int .u64 d9]::box l 27 o::L) w6:=(aI.arr 2 [1,0] i0 rfl)
 obtain ⟨a,i2,k⟩:=aB k
 refine aS (vs:=[zP (some ⟨b1,0,none⟩)]) call41 rfl (aGQ i1 h4 i2) ?_
 rintro _ o8 ⟨c,d,e,g,rfl,i3⟩
 refine bW (vs:=o) zeroValue27 i3 rfl (fun n o9 i4=>(bY (i:=0) (ns:=(zC a.1 c d e g)) (us:=(zC a.1 c d e g)) sizeOf27 i4 rfl rfl rfl rfl rfl (dE rfl) rfl rfl (fun i5 (i6:aI G K (box n 27 (zC a.1 c d e g)::aK 9 K c d a.1.L::aK 69 K e g a.1.E::box b1 78 [zS a2 j.length c3,i64 a.2.1,Value.int .u64 a.2.2]::box l 27 o::L) i5)=>(aG (aL (bR (Kt:=K) (xs:=([]:List Edge)) (cs:=[]) (vs:=[]) cM gZ rfl rfl i6 rfl (by kernel_rfl) rfl rfl rfl trivial (fun e0 i7 (i8:aI G K (aK 69 K e0 0 ([]:List Edge)::box n 27 (zC a.1 c d e g)::aK 9 K c d a.1.L::aK 69 K e g a.1.E::box b1 78 [zS a2 j.length c3,i64 a.2.1,Value.int .u64 a.2.2]::box l 27 o::L) i7)=>(aF (v:=zS e0 ([]:List Edge).length 0) (aG (aQ (aL (aF (v:=i64 0) (aG (bB (fun f w=>∃ (c9:Int) (d0:Int) (b6:List Edge) (b7:Option Addr) (b8:Nat),tA j a c9 d0 b6=some R∧f 0=zP (some ⟨b1,0,none⟩)∧f 2=zP (some ⟨l,0,none⟩)∧f 3=zP (some ⟨n,0,none⟩)∧f 4=zS b7 b6.length b8∧aI G K (aK 69 K b7 b8 b6::box n 27 (zC a.1 c d e g)::aK 9 K c d a.1.L::aK 69 K e g a.1.E::box b1 78 [zS a2 j.length c3,i64 c9,Value.int .u64 d0]::box l 27 o::L) w) ?_ ?_))))))))))))))
 ·rintro f i9 ⟨c9,d0,b6,b7,b8,k,g0,j0,j1,j2,j3⟩
  unfold tA at k
  refine aA (aQ (aL (aN g0 ?_)))
  have j4:aI G K (box b1 78 [zS a2 j.length c3,i64 c9,Value.int .u64 d0]::aK 69 K b7 b8 b6::box n 27 (zC a.1 c d e g)::aK 9 K c d a.1.L::aK 69 K e g a.1.E::box l 27 o::L) i9:=(aI.arr 5 [4,0,1,2,3] j3 rfl)
  obtain ⟨j5,j6,k⟩:=aB k
  refine aS (vs:=[zP (some ⟨b1,0,none⟩),i64 3]) call19 rfl (cZ j4 h4 j6) ?_
  rintro _ p0 ⟨rfl,j7⟩
  refine aF (v:=i64 j5.1) (aG (bB (fun f w=>∃ (a3:List Edge) (d1:Int) (d2:Int) (b9:Option Addr) (c0:Nat),sZ a a3 d1 d2=some R∧f 2=zP (some ⟨l,0,none⟩)∧f 3=zP (some ⟨n,0,none⟩)∧f 4=zS b9 a3.length c0∧aI G K (aK 69 K b9 c0 a3::box b1 78 [zS a2 j.length c3,i64 d1,Value.int .u64 d2]::box n 27 (zC a.1 c d e g)::aK 9 K c d a.1.L::aK 69 K e g a.1.E::box l 27 o::L) w) ?_ ?_))
  ·rintro f p1 ⟨a3,d1,d2,b9,c0,k,g1,e1,j8,d3⟩
   unfold sZ at k
   refine aA (aL (aD (bT (t':=0) gS e1 rfl) (aD (dS cK d3 (i:=2) rfl rfl rfl) (aD (bT (t':=1) oP e1 rfl) (aD (dS cK d3 (i:=2) rfl rfl rfl) (aD (bT (t':=2) fL e1 rfl) (aD (dS iT d3 (i:=2) rfl rfl rfl) (aN j8 ?_))))))))
   obtain ⟨p2,j9,k0,k1,k2⟩:=aI.lendS (i:=3) d3 (zR _) rfl
   obtain ⟨p3,k3,k4,k5,k6⟩:=aI.lendS (i:=0) k1 j9 rfl
   obtain ⟨p,k7,k⟩:=aB k
   refine aS (vs:=[i64 a.1.N,i64 a.1.I,zS c a.1.L.length d,zS b9 a3.length c0]) call43 rfl (zF k5 (k0.mono k3) k4 k7) ?_
   rintro _ p4 ⟨a4,a5,a6,a7,rfl,k8⟩
   have k9:=k6 _ _ k8
   have l0:=k2 _ _ k9
   refine bY (i:=7) (ns:=(zC p a4 a5 a6 a7)) (us:=(zC p a4 a5 a6 a7)) sizeOf27 l0 rfl g1 rfl rfl rfl (dE rfl) rfl rfl (fun l1 (g2:aI G K (aK 9 K c d a.1.L::aK 69 K b9 c0 a3::aK 9 K a4 a5 p.L::aK 69 K a6 a7 p.E::box b1 78 [zS a2 j.length c3,i64 d1,Value.int .u64 d2]::box n 27 (zC a.1 c d e g)::aK 69 K e g a.1.E::box l 27 (zC p a4 a5 a6 a7)::L) l1)=>(aG ?_))
   obtain rfl:=zI k
   exact bM (vY results18 (fV (vs:=(zC p a4 a5 a6 a7)) rfl dJ g2 (i:=7) rfl g1 rfl) ⟨a4,a5,a6,a7,rfl,(aI.arr 8 [2,3,4] g2 rfl)⟩)
  obtain ⟨p5,l3,k⟩:=aB k
  refine cE l3 (fun (s:(Int × Int × List Edge × Int)) f w=>match s with|(c1,c2,J,c4)=>∃ (c5:Option Addr) (c6:Nat),f 0=zP (some ⟨b1,0,none⟩)∧f 2=zP (some ⟨l,0,none⟩)∧f 3=zP (some ⟨n,0,none⟩)∧f 4=zS c5 J.length c6∧f 7=i64 c4∧aI G K (box b1 78 [zS a2 j.length c3,i64 c1,Value.int .u64 c2]::aK 69 K c5 c6 J::box n 27 (zC a.1 c d e g)::aK 9 K c d a.1.L::aK 69 K e g a.1.E::box l 27 o::L) w) ?_ ?_
  ·exact ⟨b7,b8,g0,j0,j1,j2,rfl,j7⟩
  ·rintro ⟨c1,c2,J,c4⟩ l4 f p6 q l5 ⟨c5,c6,e2,g3,d4,g4,g5,g6⟩
   replace q:mW j a c1 c2 J c4=some l4:=q
   unfold mW at q
   refine aQ (aL (aN g5 (aD (kZ rfl rfl) (aG ?_))))
   rcases aH q with ⟨e3,q⟩|⟨e3,q⟩
   ·refine aM e3 rfl (bA (aA (aQ (cY ?_))))
    obtain ⟨e4,d5,g7,g8,l6⟩:=aI.lendB (i:=2) g6 rfl
    refine fK (C:=fun w'=>∃ L',aI G e4 L' w') [(0,0),(1,0),(2,0),(3,0),(5,0),(6,0),(7,0),(4,1),(8,1),(9,0),(10,1),(11,1),(12,0)] bZ (by kernel_rfl) (fun _ hg=>⟨_,aI.mono g8 hg⟩) (fun p7 l7=>?_)
    have c7:=aI.mono g8 l7
    refine bS rfl (fun _ _=>bE g4) (bS rfl (fun _ _=>bE e2) (bS rfl (fun _ _=>bT (t':=0) gS d4 rfl) (bS rfl (fun _ ⟨_,c7⟩=>bH (t:=0) cK c7 g7 rfl rfl) (bS rfl (fun _ _=>bE e2) (bS rfl (fun _ _=>bT (t':=0) gS d4 rfl) (bS rfl (fun _ ⟨_,c7⟩=>bH (t:=0) cK c7 g7 rfl rfl) (kY rfl ?_)))))))
    obtain ⟨a8,l8,q⟩:=aB q
    refine aS (vs:=[zP (some ⟨b1,0,none⟩),i64 a.1.N]) call19 rfl (cZ c7 (h4.mono d5) l8) ?_
    rintro _ p8 ⟨rfl,g9⟩
    refine aZ (aA ⟨⟨_,g9⟩,?_⟩)
    refine kY rfl ?_
    obtain ⟨u,l9,q⟩:=aB q
    refine aS (vs:=[zP (some ⟨b1,0,none⟩),i64 a.1.N]) call19 rfl (cZ g9 (h4.mono d5) l9) ?_
    rintro _ p9 ⟨rfl,h0⟩
    refine aZ (aA ⟨⟨_,h0⟩,?_⟩)
    refine bS rfl (fun _ _=>dL (vs:=[(0,i64 a8.1),(2,i64 u.1)]) (cs:=[i64 a8.1,i64 0,i64 u.1]) aFy rfl (by kernel_rfl)) (kY rfl (bR (Kt:=K) (xs:=([⟨a8.1,0,u.1⟩]:List Edge)) (cs:=[i64 a8.1,i64 0,i64 u.1]) (vs:=[(0,zA #[i64 a8.1,i64 0,i64 u.1])]) cM gZ rfl rfl h0 rfl (by kernel_rfl) rfl rfl rfl ⟨rfl,trivial⟩ (fun m0 m1 (h1:aI G e4 (aK 69 K m0 1 ([⟨a8.1,0,u.1⟩]:List Edge)::box b1 78 [zS a2 j.length c3,i64 u.2.1,Value.int .u64 u.2.2]::aK 69 K c5 c6 J::aK 9 K c d a.1.L::aK 69 K e g a.1.E::box l 27 o::L) m1)=>(aZ (aA ⟨⟨_,h1⟩,?_⟩)))))
    refine kY rfl ?_
    obtain ⟨e5,m2,q⟩:=aB q
    refine dG (i:=1) cM underlying25 gZ rfl rfl h1 rfl d5 d5 m2 rfl rfl rfl rfl (fun _ h=>h) (fun e6 e7 m3 (h2:aI G e4 (box b1 78 [zS a2 j.length c3,i64 u.2.1,Value.int .u64 u.2.2]::aK 69 K e6 e7 e5::aK 9 K c d a.1.L::aK 69 K e g a.1.E::box l 27 o::L) m3)=>(aZ (aA ⟨⟨_,h2⟩,?_⟩)))
    refine bS rfl (fun _ _=>dV (v:=zS e6 e5.length e7) rfl) (lF ?_)
    have m4:=l6 _ _ h2
    exact bC (aA (aP (aN g5 (aD (kH rfl rfl) (aF (v:=i64 (wr (c4 - 1))) (aG ⟨(u.2.1,u.2.2,e5,wr (c4 - 1)),(zI q).symm,e6,e7,e2,g3,d4,rfl,rfl,(aI.arr 3 [1,2,0] m4 rfl)⟩))))))
   ·refine aJ e3 rfl (cA (aT (aT ?_)))
    have m5:=l5 _ (zI q).symm
    subst m5
    have k:(sZ a J c1 c2)=some R:=k
    exact bJ (aA ⟨J,c1,c2,c5,c6,k,g3,d4,g4,(aI.arr 2 [1,0] g6 rfl)⟩)
 obtain ⟨q0,m6,k⟩:=aB k
 refine cE m6 (fun (s:(Int × Int × List Edge × Int)) f w=>match s with|(V,Z,r,a0)=>∃ (x:Option Addr) (y:Nat),f 0=zP (some ⟨b1,0,none⟩)∧f 2=zP (some ⟨l,0,none⟩)∧f 3=zP (some ⟨n,0,none⟩)∧f 4=zS x r.length y∧f 5=i64 a0∧aI G K (aK 69 K x y r::box n 27 (zC a.1 c d e g)::aK 9 K c d a.1.L::aK 69 K e g a.1.E::box b1 78 [zS a2 j.length c3,i64 V,Value.int .u64 Z]::box l 27 o::L) w) ?_ ?_
 ·exact ⟨e0,0,rfl,rfl,rfl,rfl,rfl,i8⟩
 ·rintro ⟨V,Z,r,a0⟩ h3 f q1 m m7 ⟨x,y,d6,e8,c8,e9,d7,a9⟩
  replace m:mX j a V Z r a0=some h3:=m
  unfold mX at m
  refine aQ (aL (aN d7 (aD (bT (t':=3) cV c8 rfl) (aD (dS fH a9 (i:=1) rfl rfl rfl) (aD (bU (len:=a.1.E.length) cM rfl) (aD (cL rfl rfl) (aG ?_)))))))
  rcases aH m with ⟨f0,m⟩|⟨f0,m⟩
  ·refine aM f0 rfl (bA (aA (aQ (cY (aL (aD (bT (t':=3) cV c8 rfl) (aD (dS fH a9 (i:=1) rfl rfl rfl) (aN d7 ?_))))))))
   obtain ⟨b,f1,m⟩:=aB m
   have m8:=dA a9 (i:=3) rfl f1
   refine aD (dT cM rfl m8 rfl rfl rfl f1) (aD (aDU (t:=0) (vs:=[i64 b.F,i64 b.B,i64 b.To]) mQ a9 (i:=3) rfl f1 rfl rfl rfl rfl) (bW (vs:=[i64 0,i64 0,i64 0]) zeroValue69 a9 rfl (fun a1 q2 m9=>(bY (i:=0) (ns:=[i64 b.F,i64 b.B,i64 b.To]) (us:=[i64 b.F,i64 b.B,i64 b.To]) sizeOf69 m9 rfl rfl rfl rfl rfl (dE rfl) rfl rfl (fun h5 (n0:aI G K (box a1 69 [i64 b.F,i64 b.B,i64 b.To]::aK 69 K x y r::box n 27 (zC a.1 c d e g)::aK 9 K c d a.1.L::aK 69 K e g a.1.E::box b1 78 [zS a2 j.length c3,i64 V,Value.int .u64 Z]::box l 27 o::L) h5)=>(aG (uV (fun f w=>∃ (b0:Int) (b2:Int) (z:Int),pG r a0 b b0 b2 z=some h3∧f 0=zP (some ⟨b1,0,none⟩)∧f 2=zP (some ⟨l,0,none⟩)∧f 3=zP (some ⟨n,0,none⟩)∧f 4=zS x r.length y∧f 5=i64 a0∧f 6=zP (some ⟨a1,0,none⟩)∧aI G K (box a1 69 [i64 b.F,i64 z,i64 b.To]::aK 69 K x y r::box n 27 (zC a.1 c d e g)::aK 9 K c d a.1.L::aK 69 K e g a.1.E::box b1 78 [zS a2 j.length c3,i64 b0,Value.int .u64 b2]::box l 27 o::L) w) ?_ ?_)))))))
   ·rintro f q3 ⟨b0,b2,z,m,n1,n2,n3,n4,n5,n6,h6⟩
    unfold pG at m
    refine aP (aN n4 (aD (eI (us:=[i64 b.F,i64 z,i64 b.To]) mQ h6 (i:=0) rfl n6 rfl rfl) (bR (Kt:=K) (xs:=([⟨b.F,z,b.To⟩]:List Edge)) (cs:=[i64 b.F,i64 z,i64 b.To]) (vs:=[(0,zA #[i64 b.F,i64 z,i64 b.To])]) cM gZ rfl rfl h6 rfl (by kernel_rfl) rfl rfl rfl ⟨rfl,trivial⟩ (fun n7 n8 (n9:aI G K (aK 69 K n7 1 ([⟨b.F,z,b.To⟩]:List Edge)::box a1 69 [i64 b.F,i64 z,i64 b.To]::aK 69 K x y r::box n 27 (zC a.1 c d e g)::aK 9 K c d a.1.L::aK 69 K e g a.1.E::box b1 78 [zS a2 j.length c3,i64 b0,Value.int .u64 b2]::box l 27 o::L) n8)=>?_))))
    obtain ⟨f2,o0,m⟩:=aB m
    exact dG (i:=1) cM underlying25 gZ rfl rfl n9 rfl (zR _) (zR _) o0 rfl rfl rfl rfl (fun _ h=>h) (fun f3 f4 o1 (o2:aI G K (box a1 69 [i64 b.F,i64 z,i64 b.To]::aK 69 K f3 f4 f2::box n 27 (zC a.1 c d e g)::aK 9 K c d a.1.L::aK 69 K e g a.1.E::box b1 78 [zS a2 j.length c3,i64 b0,Value.int .u64 b2]::box l 27 o::L) o1)=>(aF (v:=zS f3 f2.length f4) (aZ (bC (aA (aP (aN n5 (aD (cP rfl rfl) (aF (v:=i64 (wr (a0+1))) (aG ⟨(b0,b2,f2,wr (a0+1)),(zI m).symm,f3,f4,n1,n2,n3,rfl,rfl,(aI.arr 1 [] o2 rfl)⟩))))))))))
   refine aL (aN d6 ?_)
   have o3:aI G K (box b1 78 [zS a2 j.length c3,i64 V,Value.int .u64 Z]::box a1 69 [i64 b.F,i64 b.B,i64 b.To]::aK 69 K x y r::box n 27 (zC a.1 c d e g)::aK 9 K c d a.1.L::aK 69 K e g a.1.E::box l 27 o::L) h5:=(aI.arr 6 [5,0,1,2,3,4] n0 rfl)
   obtain ⟨b3,o4,m⟩:=aB m
   refine aS (vs:=[zP (some ⟨b1,0,none⟩),i64 3]) call42 rfl (zH o3 h4 o4) ?_
   rintro _ q4 ⟨rfl,h7⟩
   refine aG ?_
   rcases aH m with ⟨f5,m⟩|⟨f5,m⟩
   ·exact aM f5 rfl (aP (aD (bT (t':=1) iZ rfl rfl) (bY (i:=1) (ns:=[i64 0]) (us:=[i64 b.F,i64 0,i64 b.To]) sizeOf2 h7 rfl rfl rfl rfl rfl (dE rfl) rfl rfl (fun o5 (o6:aI G K (box b1 78 [zS a2 j.length c3,i64 b3.2.1,Value.int .u64 b3.2.2]::box a1 69 [i64 b.F,i64 0,i64 b.To]::aK 69 K x y r::box n 27 (zC a.1 c d e g)::aK 9 K c d a.1.L::aK 69 K e g a.1.E::box l 27 o::L) o5)=>(aG ⟨b3.2.1,b3.2.2,0,m,d6,e8,c8,e9,d7,rfl,(aI.arr 6 [1,2,3,4,5,0] o6 rfl)⟩)))))
   ·exact aJ f5 rfl (bA (aA ⟨b3.2.1,b3.2.2,b.B,m,d6,e8,c8,e9,d7,rfl,(aI.arr 6 [1,2,3,4,5,0] h7 rfl)⟩))
  ·refine aJ f0 rfl (cA (aT (aT ?_)))
   have o7:=m7 _ (zI m).symm
   subst o7
   have k:(tA j a V Z r)=some R:=k
   exact bJ (aA ⟨V,Z,r,x,y,k,d6,e8,c8,e9,a9⟩)
theorem aIK {p:(List UInt8)} {R:(cG × cG)} (hs:aI G K (L) w) (h3:cX K a1 c2 p) (b:aDz p=some R):
  Calls Tryz.prog 6 ([zS a1 p.length c2]:List Value).toArray w (gK fun v w'=>∃ (g0:Option Addr) (g1:Nat) (g2:Option Addr) (g3:Nat) (g4:Option Addr) (g5:Nat) (g6:Option Addr) (g7:Nat),v=Value.tuple #[zA (zCa R.1 g0 g1 g2 g3),zA (zCa R.2 g4 g5 g6 g7)]∧aI G K (aK 9 K g0 g1 R.1.L::aK 69 K g2 g3 R.1.E::aK 9 K g4 g5 R.2.L::aK 69 K g6 g7 R.2.E::L) w'):=by
 let l:=zG
 refine aW func6 rfl (by kernel_rfl) (by show (1:Nat)≤65;decide) ?_
 unfold aDz at b
 refine aL (bW (vs:=l) zeroValue27 hs rfl (fun y w5 j3=>(bW (vs:=l) zeroValue27 j3 rfl (fun z w8 j4=>(aG (aL (aO (v:=zS a1 p.length c2) ?_)))))))
 obtain ⟨y7,j5,b⟩:=aB b
 refine aS (vs:=[zS a1 p.length c2]) call17 rfl (aID j4 h3 j5) ?_
 rintro _ y8 ⟨m,rfl,j6⟩
 refine aF (v:=zP (some ⟨m,0,none⟩)) (aG (aL (aO (v:=zP (some ⟨m,0,none⟩)) ?_)))
 obtain ⟨a,j7,b⟩:=aB b
 refine aS (vs:=[zP (some ⟨m,0,none⟩)]) call18 rfl (aDD j6 h3 j7) ?_
 rintro _ y9 ⟨e,g,h,j,rfl,j8⟩
 refine bW (vs:=l) zeroValue27 j8 rfl (fun n z0 j9=>(bY (i:=0) (ns:=(zC a.1 e g h j)) (us:=(zC a.1 e g h j)) sizeOf27 j9 rfl rfl rfl rfl rfl (dE rfl) rfl rfl (fun g8 (k0:aI G K (box n 27 (zC a.1 e g h j)::aK 9 K e g a.1.L::aK 69 K h j a.1.E::box m 78 [zS a1 p.length c2,i64 a.2.1,Value.int .u64 a.2.2]::box z 27 l::box y 27 l::L) g8)=>(aG (aL (aO (v:=zP (some ⟨m,0,none⟩)) ?_))))))
 have k1:aI G K (box m 78 [zS a1 p.length c2,i64 a.2.1,Value.int .u64 a.2.2]::box n 27 (zC a.1 e g h j)::aK 9 K e g a.1.L::aK 69 K h j a.1.E::box z 27 l::box y 27 l::L) g8:=(aI.arr 4 [3,0,1,2] k0 rfl)
 obtain ⟨c,k2,b⟩:=aB b
 refine aS (vs:=[zP (some ⟨m,0,none⟩)]) call18 rfl (aDD k1 h3 k2) ?_
 rintro _ z1 ⟨q,r,u,x,rfl,k3⟩
 refine bW (vs:=l) zeroValue27 k3 rfl (fun a2 z2 k4=>(bY (i:=0) (ns:=(zC c.1 q r u x)) (us:=(zC c.1 q r u x)) sizeOf27 k4 rfl rfl rfl rfl rfl (dE rfl) rfl rfl (fun g9 (k5:aI G K (box a2 27 (zC c.1 q r u x)::aK 9 K q r c.1.L::aK 69 K u x c.1.E::box m 78 [zS a1 p.length c2,i64 c.2.1,Value.int .u64 c.2.2]::box n 27 (zC a.1 e g h j)::aK 9 K e g a.1.L::aK 69 K h j a.1.E::box z 27 l::box y 27 l::L) g9)=>(aG (aQ (aL (aO (v:=zP (some ⟨m,0,none⟩)) ?_)))))))
 have k6:aI G K (box m 78 [zS a1 p.length c2,i64 c.2.1,Value.int .u64 c.2.2]::box a2 27 (zC c.1 q r u x)::aK 9 K q r c.1.L::aK 69 K u x c.1.E::box n 27 (zC a.1 e g h j)::aK 9 K e g a.1.L::aK 69 K h j a.1.E::box z 27 l::box y 27 l::L) g9:=(aI.arr 4 [3,0,1,2] k5 rfl)
 obtain ⟨o,k7,b⟩:=aB b
 refine aS (vs:=[zP (some ⟨m,0,none⟩),i64 7]) call19 rfl (cZ k6 h3 k7) ?_
 rintro _ z3 ⟨rfl,c3⟩
 refine aG (bB (fun f w=>∃ (b6:Int) (b8:Int) (a3:List aU) (a4:List Edge) (a5:Option Addr) (a6:Nat) (a7:Option Addr) (a8:Nat),iN a b6 b8 a3 a4=some R∧f 2=zP (some ⟨y,0,none⟩)∧f 3=zP (some ⟨z,0,none⟩)∧f 5=zP (some ⟨n,0,none⟩)∧f 6=zP (some ⟨a2,0,none⟩)∧aI G K (aK 69 K a7 a8 a4::aK 9 K a5 a6 a3::box a2 27 [i64 b6,i64 b8,zS a5 a3.length a6,zS a7 a4.length a8]::box n 27 (zC a.1 e g h j)::aK 9 K e g a.1.L::aK 69 K h j a.1.E::box z 27 l::box y 27 l::L) w) ?_ ?_)
 ·rintro f z4 ⟨b6,b8,a3,a4,a5,a6,a7,a8,b,h0,h1,k8,k9,l0⟩
  unfold iN at b
  refine aA (aQ ?_)
  obtain ⟨z5,z6,l1,l2,l3⟩:=aI.lendB (i:=2) l0 rfl
  obtain ⟨h2,l4,l5,h4,l6⟩:=aI.lendB (i:=2) l2 rfl
  refine fK (C:=fun w'=>∃ L',aI G h2 L' w') [(0,0),(1,0),(2,1),(3,2)] bZ (by kernel_rfl) (fun _ hg=>⟨_,aI.mono h4 hg⟩) (fun z7 l7=>?_)
  have c9:=aI.mono h4 l7
  refine bS rfl (fun _ ⟨_,c9⟩=>gT (t:=0) (vs:=(zC a.1 e g h j)) dJ c9 l5 k8 rfl rfl) (bS rfl (fun _ ⟨_,c9⟩=>gT (t:=0) (vs:=[i64 b6,i64 b8,zS a5 a3.length a6,zS a7 a4.length a8]) dJ c9 (l1.mono l4) k9 rfl rfl) (kY rfl (bY (i:=5) (ns:=(zC a.1 e g h j)) (us:=(zC a.1 e g h j)) sizeOf27 c9 rfl h0 rfl rfl rfl (dE rfl) rfl rfl (fun l8 (h5:aI G h2 (aK 69 K a7 a8 a4::aK 9 K a5 a6 a3::aK 9 K e g a.1.L::aK 69 K h j a.1.E::box z 27 l::box y 27 (zC a.1 e g h j)::L) l8)=>(aZ (aA ⟨⟨_,h5⟩,?_⟩))))))
  have l9:=l6 _ _ h5
  have m0:=l3 _ _ l9
  refine aGa rfl (bY (i:=6) (ns:=[i64 b6,i64 b8,zS a5 a3.length a6,zS a7 a4.length a8]) (us:=[i64 b6,i64 b8,zS a5 a3.length a6,zS a7 a4.length a8]) sizeOf27 m0 rfl h1 rfl rfl rfl (dE rfl) rfl rfl (fun m1 (f0:aI G K (box a2 27 [i64 b6,i64 b8,zS a5 a3.length a6,zS a7 a4.length a8]::box n 27 (zC a.1 e g h j)::aK 69 K a7 a8 a4::aK 9 K a5 a6 a3::aK 9 K e g a.1.L::aK 69 K h j a.1.E::box z 27 [i64 b6,i64 b8,zS a5 a3.length a6,zS a7 a4.length a8]::box y 27 (zC a.1 e g h j)::L) m1)=>(aG (lF (aA ?_)))))
  obtain rfl:=zI b
  exact bM (aGb results6 (fV (vs:=(zC a.1 e g h j)) rfl dJ f0 (i:=7) rfl h0 rfl) (fV (vs:=[i64 b6,i64 b8,zS a5 a3.length a6,zS a7 a4.length a8]) rfl dJ f0 (i:=6) rfl h1 rfl) ⟨e,g,h,j,a5,a6,a7,a8,rfl,(aI.arr 8 [4,5,3,2] f0 rfl)⟩)
 refine aL (aD (gE rfl rfl) (aF (v:=zB (o.1 == 0)) (aG ?_)))
 rcases aH b with ⟨f1,b⟩|⟨f1,b⟩
 ·refine aM f1 rfl (aP ?_)
  obtain ⟨z8,m3,m4,m5,m6⟩:=aI.lendS (i:=5) c3 (zR _) rfl
  obtain ⟨z9,m7,m8,m9,n0⟩:=aI.lendS (i:=5) m5 m3 rfl
  obtain ⟨K94,h6,n1,n2,n3⟩:=aI.lendB (i:=4) m9 rfl
  obtain ⟨J,n4,b⟩:=aB b
  refine aS (vs:=[cU (some ⟨n,0,none⟩) 0]) call20 rfl (aHE n2 n1 (m4.mono (zL m7 h6)) (m8.mono h6) n4) ?_
  rintro _ a01 ⟨d0,d1,d2,d3,rfl,n5⟩
  have n6:=n3 _ _ n5
  have n7:=n0 _ _ n6
  have n8:=m6 _ _ n7
  exact bY (i:=6) (ns:=(zC J d0 d1 d2 d3)) (us:=(zC J d0 d1 d2 d3)) sizeOf27 n8 rfl rfl rfl rfl rfl (dE rfl) rfl rfl (fun n9 (o0:aI G K (aK 9 K e g a.1.L::aK 69 K h j a.1.E::box n 27 (zC a.1 e g h j)::aK 9 K d0 d1 J.L::aK 69 K d2 d3 J.E::box m 78 [zS a1 p.length c2,i64 o.2.1,Value.int .u64 o.2.2]::box a2 27 (zC J d0 d1 d2 d3)::aK 9 K q r c.1.L::aK 69 K u x c.1.E::box z 27 l::box y 27 l::L) n9)=>(aZ (bC (aA ⟨J.N,J.I,J.L,J.E,d0,d1,d2,d3,b,rfl,rfl,rfl,rfl,(aI.arr 9 [4,3,6,2,0,1] o0 rfl)⟩))))
 ·refine aJ f1 rfl (aL (aD (gE rfl rfl) (aF (v:=zB (o.1 == 1)) (aG ?_))))
  rcases aH b with ⟨f2,b⟩|⟨f2,b⟩
  ·refine aM f2 rfl (aP ?_)
   obtain ⟨a02,o1,o2,o3,o4⟩:=aI.lendS (i:=5) c3 (zR _) rfl
   obtain ⟨a03,o5,o6,o7,o8⟩:=aI.lendS (i:=5) o3 o1 rfl
   obtain ⟨a04,h7,o9,p0,p1⟩:=aI.lendB (i:=4) o7 rfl
   obtain ⟨V,p2,b⟩:=aB b
   refine aS (vs:=[cU (some ⟨n,0,none⟩) 0,zB true]) call21 rfl (aEl p0 o9 (o2.mono (zL o5 h7)) (o6.mono h7) p2) ?_
   rintro _ a05 ⟨d4,d5,d6,d7,rfl,p3⟩
   have p4:=p1 _ _ p3
   have p5:=o8 _ _ p4
   have p6:=o4 _ _ p5
   exact bY (i:=6) (ns:=(zC V d4 d5 d6 d7)) (us:=(zC V d4 d5 d6 d7)) sizeOf27 p6 rfl rfl rfl rfl rfl (dE rfl) rfl rfl (fun p7 (p8:aI G K (aK 9 K e g a.1.L::aK 69 K h j a.1.E::box n 27 (zC a.1 e g h j)::aK 9 K d4 d5 V.L::aK 69 K d6 d7 V.E::box m 78 [zS a1 p.length c2,i64 o.2.1,Value.int .u64 o.2.2]::box a2 27 (zC V d4 d5 d6 d7)::aK 9 K q r c.1.L::aK 69 K u x c.1.E::box z 27 l::box y 27 l::L) p7)=>(aZ (bC (aA ⟨V.N,V.I,V.L,V.E,d4,d5,d6,d7,b,rfl,rfl,rfl,rfl,(aI.arr 9 [4,3,6,2,0,1] p8 rfl)⟩))))
  ·refine aJ f2 rfl (aL (aD (gE rfl rfl) (aF (v:=zB (o.1 == 2)) (aG ?_))))
   rcases aH b with ⟨f3,b⟩|⟨f3,b⟩
   ·refine aM f3 rfl (aP ?_)
    obtain ⟨a06,p9,q0,q1,q2⟩:=aI.lendS (i:=5) c3 (zR _) rfl
    obtain ⟨a07,q3,q4,q5,q6⟩:=aI.lendS (i:=5) q1 p9 rfl
    obtain ⟨a08,h8,q7,q8,q9⟩:=aI.lendB (i:=4) q5 rfl
    obtain ⟨Z,r0,b⟩:=aB b
    refine aS (vs:=[cU (some ⟨n,0,none⟩) 0,zB false]) call21 rfl (aEl q8 q7 (q0.mono (zL q3 h8)) (q4.mono h8) r0) ?_
    rintro _ a09 ⟨d8,d9,e0,e1,rfl,r1⟩
    have r2:=q9 _ _ r1
    have r3:=q6 _ _ r2
    have r4:=q2 _ _ r3
    exact bY (i:=6) (ns:=(zC Z d8 d9 e0 e1)) (us:=(zC Z d8 d9 e0 e1)) sizeOf27 r4 rfl rfl rfl rfl rfl (dE rfl) rfl rfl (fun r5 (r6:aI G K (aK 9 K e g a.1.L::aK 69 K h j a.1.E::box n 27 (zC a.1 e g h j)::aK 9 K d8 d9 Z.L::aK 69 K e0 e1 Z.E::box m 78 [zS a1 p.length c2,i64 o.2.1,Value.int .u64 o.2.2]::box a2 27 (zC Z d8 d9 e0 e1)::aK 9 K q r c.1.L::aK 69 K u x c.1.E::box z 27 l::box y 27 l::L) r5)=>(aZ (bC (aA ⟨Z.N,Z.I,Z.L,Z.E,d8,d9,e0,e1,b,rfl,rfl,rfl,rfl,(aI.arr 9 [4,3,6,2,0,1] r6 rfl)⟩))))
   ·refine aJ f3 rfl (aL (aD (gE rfl rfl) (aF (v:=zB (o.1 == 3)) (aG ?_))))
    rcases aH b with ⟨f4,b⟩|⟨f4,b⟩
    ·refine aM f4 rfl (aP ?_)
     obtain ⟨a10,r7,r8,r9,s0⟩:=aI.lendS (i:=5) c3 (zR _) rfl
     obtain ⟨a11,s1,s2,s3,s4⟩:=aI.lendS (i:=5) r9 r7 rfl
     obtain ⟨a12,h9,s5,s6,s7⟩:=aI.lendB (i:=4) s3 rfl
     obtain ⟨a0,s8,b⟩:=aB b
     refine aS (vs:=[cU (some ⟨n,0,none⟩) 0]) call22 rfl (aHI s6 s5 (r8.mono (zL s1 h9)) (s2.mono h9) s8) ?_
     rintro _ a13 ⟨e2,e3,e4,e5,rfl,s9⟩
     have t0:=s7 _ _ s9
     have t1:=s4 _ _ t0
     have t2:=s0 _ _ t1
     exact bY (i:=6) (ns:=(zC a0 e2 e3 e4 e5)) (us:=(zC a0 e2 e3 e4 e5)) sizeOf27 t2 rfl rfl rfl rfl rfl (dE rfl) rfl rfl (fun t3 (t4:aI G K (aK 9 K e g a.1.L::aK 69 K h j a.1.E::box n 27 (zC a.1 e g h j)::aK 9 K e2 e3 a0.L::aK 69 K e4 e5 a0.E::box m 78 [zS a1 p.length c2,i64 o.2.1,Value.int .u64 o.2.2]::box a2 27 (zC a0 e2 e3 e4 e5)::aK 9 K q r c.1.L::aK 69 K u x c.1.E::box z 27 l::box y 27 l::L) t3)=>(aZ (bC (aA ⟨a0.N,a0.I,a0.L,a0.E,e2,e3,e4,e5,b,rfl,rfl,rfl,rfl,(aI.arr 9 [4,3,6,2,0,1] t4 rfl)⟩))))
    ·refine aJ f4 rfl (aL (aD (gE rfl rfl) (aF (v:=zB (o.1 == 4)) (aG ?_))))
     rcases aH b with ⟨f5,b⟩|⟨f5,b⟩
     ·refine aM f5 rfl (aL ?_)
      obtain ⟨a14,t5,t6,t7,t8⟩:=aI.lendS (i:=5) c3 (zR _) rfl
      obtain ⟨a15,t9,u0,u1,u2⟩:=aI.lendS (i:=5) t7 t5 rfl
      obtain ⟨a16,i0,u3,u4,u5⟩:=aI.lendB (i:=4) u1 rfl
      obtain ⟨d,u6,b⟩:=aB b
      refine aS (vs:=[cU (some ⟨n,0,none⟩) 0]) call23 rfl (aCC u4 u3 (t6.mono (zL t9 i0)) (u0.mono i0) u6) ?_
      rintro _ a17 ⟨a9,b0,b1,b2,e6,e7,e8,rfl,a19,u7⟩
      have u8:=u5 _ _ u7
      have u9:=u2 _ _ u8
      have v0:=t8 _ _ u9
      refine aO (v:=Value.tuple #[zA (zCa d.1 a9 b0 b1 b2),zS e6 d.2.1.length e7,zB d.2.2]) (aD (bQ rfl rfl) (aD (bQ rfl rfl) (aD (bQ rfl rfl) (bW (vs:=l) zeroValue27 v0 rfl (fun i1 a21 v1=>(bY (i:=0) (ns:=(zC d.1 a9 b0 b1 b2)) (us:=(zC d.1 a9 b0 b1 b2)) sizeOf27 v1 rfl rfl rfl rfl rfl (dE rfl) rfl rfl (fun v2 (f6:aI G K (box i1 27 (zC d.1 a9 b0 b1 b2)::aK 9 K e g a.1.L::aK 69 K h j a.1.E::box n 27 (zC a.1 e g h j)::aK 9 K a9 b0 d.1.L::aK 69 K b1 b2 d.1.E::aK 35 K e6 e7 (eD e8 d.2.1)::rows [2] e8 d.2.1::box m 78 [zS a1 p.length c2,i64 o.2.1,Value.int .u64 o.2.2]::box a2 27 (zC c.1 q r u x)::aK 9 K q r c.1.L::aK 69 K u x c.1.E::box z 27 l::box y 27 l::L) v2)=>(aF (v:=zS e6 d.2.1.length e7) (aF (v:=zB d.2.2) (aG (aL (aO (v:=zB d.2.2) (aG ?_)))))))))))))
      rcases aH b with ⟨f7,b⟩|⟨f7,b⟩
      ·exact aM f7 rfl (aP (aD (eI (us:=(zC d.1 a9 b0 b1 b2)) dJ f6 (i:=0) rfl rfl rfl rfl) (bY (i:=9) (ns:=(zC d.1 a9 b0 b1 b2)) (us:=(zC d.1 a9 b0 b1 b2)) sizeOf27 f6 rfl rfl rfl rfl rfl (dE rfl) rfl rfl (fun v3 (v4:aI G K (box i1 27 (zC d.1 a9 b0 b1 b2)::aK 9 K e g a.1.L::aK 69 K h j a.1.E::box n 27 (zC a.1 e g h j)::aK 9 K a9 b0 d.1.L::aK 69 K b1 b2 d.1.E::aK 35 K e6 e7 (eD e8 d.2.1)::rows [2] e8 d.2.1::box m 78 [zS a1 p.length c2,i64 o.2.1,Value.int .u64 o.2.2]::box a2 27 (zC d.1 a9 b0 b1 b2)::aK 9 K q r c.1.L::aK 69 K u x c.1.E::box z 27 l::box y 27 l::L) v3)=>(aZ (bC (aA ⟨d.1.N,d.1.I,d.1.L,d.1.E,a9,b0,b1,b2,b,rfl,rfl,rfl,rfl,(aI.arr 12 [5,4,9,3,1,2] v4 rfl)⟩)))))))
      ·exact aJ f7 rfl (bA (bC (aA ⟨c.1.N,c.1.I,c.1.L,c.1.E,q,r,u,x,b,rfl,rfl,rfl,rfl,(aI.arr 12 [11,10,9,3,1,2] f6 rfl)⟩)))
     ·refine aJ f5 rfl (aL (aD (gE rfl rfl) (aF (v:=zB (o.1 == 5)) (aG ?_))))
      rcases aH b with ⟨f8,b⟩|⟨f8,b⟩
      ·refine aM f8 rfl (aL ?_)
       obtain ⟨a22,v5,v6,v7,v8⟩:=aI.lendS (i:=5) c3 (zR _) rfl
       obtain ⟨a23,v9,w0,w1,w2⟩:=aI.lendS (i:=5) v7 v5 rfl
       obtain ⟨a24,i2,w3,w4,w6⟩:=aI.lendB (i:=4) w1 rfl
       obtain ⟨k,w7,b⟩:=aB b
       refine aS (vs:=[cU (some ⟨n,0,none⟩) 0]) call24 rfl (aJP w4 w3 (v6.mono (zL v9 i2)) (w0.mono i2) w7) ?_
       rintro _ a25 ⟨b3,b5,b9,c0,rfl,w9⟩
       have x0:=w6 _ _ w9
       have x1:=w2 _ _ x0
       have x2:=v8 _ _ x1
       refine bY (i:=6) (ns:=(zC k b3 b5 b9 c0)) (us:=(zC k b3 b5 b9 c0)) sizeOf27 x2 rfl rfl rfl rfl rfl (dE rfl) rfl rfl (fun i3 (e9:aI G K (aK 9 K e g a.1.L::aK 69 K h j a.1.E::box n 27 (zC a.1 e g h j)::aK 9 K b3 b5 k.L::aK 69 K b9 c0 k.E::box m 78 [zS a1 p.length c2,i64 o.2.1,Value.int .u64 o.2.2]::box a2 27 (zC k b3 b5 b9 c0)::aK 9 K q r c.1.L::aK 69 K u x c.1.E::box z 27 l::box y 27 l::L) i3)=>(aG (aL (aD (bT (t':=3) cV rfl rfl) (aD (dS fH e9 (i:=6) rfl rfl rfl) (aD (bU (len:=k.E.length) cM rfl) (aD (kZ rfl rfl) (aG ?_))))))))
       rcases aH b with ⟨f9,b⟩|⟨f9,b⟩
       ·refine aM f9 rfl (aL (aO (v:=zP (some ⟨m,0,none⟩)) (aD (bT (t':=3) cV rfl rfl) (aD (dS fH e9 (i:=6) rfl rfl rfl) (aD (bU (len:=k.E.length) cM rfl) ?_)))))
        have x3:aI G K (box m 78 [zS a1 p.length c2,i64 o.2.1,Value.int .u64 o.2.2]::aK 9 K e g a.1.L::aK 69 K h j a.1.E::box n 27 (zC a.1 e g h j)::aK 9 K b3 b5 k.L::aK 69 K b9 c0 k.E::box a2 27 (zC k b3 b5 b9 c0)::aK 9 K q r c.1.L::aK 69 K u x c.1.E::box z 27 l::box y 27 l::L) i3:=(aI.arr 6 [5,0,1,2,3,4] e9 rfl)
        obtain ⟨c1,x4,b⟩:=aB b
        refine aS (vs:=[zP (some ⟨m,0,none⟩),i64 (k.E.length:Int)]) call19 rfl (cZ x3 h3 x4) ?_
        rintro _ a26 ⟨rfl,x5⟩
        refine aF (v:=i64 c1.1) (aG ?_)
        obtain ⟨i4,a27,i5,i6,x6⟩:=aI.lendB (i:=6) x5 rfl
        refine fK (C:=fun w'=>∃ L',aI G i4 L' w') [(0,0),(1,0),(2,0),(3,0),(4,0),(5,0),(6,0),(7,0),(8,0),(9,1),(10,0),(11,2)] bZ (by kernel_rfl) (fun _ hg=>⟨_,aI.mono i6 hg⟩) (fun a28 x7=>?_)
        have c4:=aI.mono i6 x7
        refine bS rfl (fun _ _=>bT (t':=3) cV rfl rfl) (bS rfl (fun _ ⟨_,c4⟩=>bH (t:=3) fH c4 i5 rfl rfl) (bS rfl (fun _ _=>bE (v:=i64 c1.1) rfl) ?_))
        obtain ⟨a29,i7,b⟩:=aB b
        have x8:=rV c4 (i:=5) rfl
        obtain ⟨a30,a31,i8⟩:=Cut.ex 3 b9 c0 0
        refine bS rfl (fun _ _=>aIs cM x8 i8 rfl rfl rfl i7) (bS rfl (fun _ _=>bT (t':=3) cV rfl rfl) (bS rfl (fun _ ⟨_,c4⟩=>bH (t:=3) fH c4 i5 rfl rfl) (bS rfl (fun _ _=>bE (v:=i64 c1.1) rfl) (bS rfl (fun _ _=>cP rfl rfl) ?_))))
        obtain ⟨a33,i9,b⟩:=aB b
        have x9:=rV c4 (i:=5) rfl
        obtain ⟨a35,a36,j0⟩:=Cut.ex 3 b9 c0 (wr (c1.1+1))
        refine bS rfl (fun _ _=>aBm cM x9 j0 rfl rfl rfl i9) (kY rfl ?_)
        obtain ⟨c5,y0,b⟩:=aB b
        refine WO_appV (i:=5) cM underlying25 gZ rfl rfl c4 rfl i7 i8 i9 j0 y0 rfl rfl rfl rfl (fun c6 c7 y1 (j1:aI G i4 (box m 78 [zS a1 p.length c2,i64 c1.2.1,Value.int .u64 c1.2.2]::aK 9 K e g a.1.L::aK 69 K h j a.1.E::box n 27 (zC a.1 e g h j)::aK 9 K b3 b5 k.L::aK 69 K c6 c7 c5::aK 9 K q r c.1.L::aK 69 K u x c.1.E::box z 27 l::box y 27 l::L) y1)=>(aZ (aA ⟨⟨_,j1⟩,?_⟩)))
        refine bS rfl (fun _ _=>bT (t':=3) cV rfl rfl) ?_
        have y2:=x6 _ _ j1
        exact aGa rfl (bY (i:=0) (ns:=[zS c6 c5.length c7]) (us:=[i64 k.N,i64 k.I,zS b3 k.L.length b5,zS c6 c5.length c7]) sizeOf25 y2 rfl rfl rfl rfl rfl (dE rfl) rfl rfl (fun y3 (y4:aI G K (box a2 27 [i64 k.N,i64 k.I,zS b3 k.L.length b5,zS c6 c5.length c7]::box m 78 [zS a1 p.length c2,i64 c1.2.1,Value.int .u64 c1.2.2]::aK 9 K e g a.1.L::aK 69 K h j a.1.E::box n 27 (zC a.1 e g h j)::aK 9 K b3 b5 k.L::aK 69 K c6 c7 c5::aK 9 K q r c.1.L::aK 69 K u x c.1.E::box z 27 l::box y 27 l::L) y3)=>(aG (lF (bC (aA ⟨k.N,k.I,k.L,c5,b3,b5,c6,c7,b,rfl,rfl,rfl,rfl,(aI.arr 9 [6,5,0,4,2,3] y4 rfl)⟩))))))
       ·exact aJ f9 rfl (bA (bC (aA ⟨k.N,k.I,k.L,k.E,b3,b5,b9,c0,b,rfl,rfl,rfl,rfl,(aI.arr 9 [4,3,6,2,0,1] e9 rfl)⟩)))
      ·exact aJ f8 rfl (bA (bC (aA ⟨c.1.N,c.1.I,c.1.L,c.1.E,q,r,u,x,b,rfl,rfl,rfl,rfl,(aI.arr 4 [3,2,1] c3 rfl)⟩)))
theorem wP {t:cG} {k:Int} {R:Bool} (c:aI G K (L) w) (j:cX K a1 c2 t.L) (l:cX K a4 c5 t.E) (a:oG t k=some R):
  Calls Tryz.prog 62 ([zA (zCa t a1 c2 a4 c5),i64 k]:List Value).toArray w (gK fun v w'=>v=zB R∧aI G K (L) w'):=by
 refine aW func62 rfl (by kernel_rfl) (by show (2:Nat)≤10;decide) ?_
 unfold oG at a
 refine aL (iI (v:=zA (zCa t a1 c2 a4 c5)) (vs:=(zC t a1 c2 a4 c5)) c rfl rfl (fun m n b=>(aF (v:=zB false) (aG (aL (aO (v:=i64 k) (aD (bT (t':=0) gS rfl rfl) (aD (dS cK b (i:=0) rfl rfl rfl) (aD (kH rfl rfl) ?_)))))))))
 obtain ⟨d,e,a⟩:=aB a
 refine aS (vs:=[i64 k,i64 0,i64 (wr (t.N - 1))]) call61 rfl (rS b e) ?_
 rintro _ o ⟨rfl,g⟩
 refine aF (v:=zB d) (aG ?_)
 obtain rfl:=zI a
 exact bM (bP results62 rfl ⟨rfl,(aI.arr 1 [] g rfl)⟩)
theorem aKQ {i many:Int} {R:Bool} (b:aI G K (L) w) (a:aGi i many=some R):
  Calls Tryz.prog 64 ([i64 i,i64 many]:List Value).toArray w (gK fun v w'=>v=zB R∧aI G K (L) w'):=by
 refine aW func64 rfl (by kernel_rfl) (by show (2:Nat)≤9;decide) ?_
 unfold aGi at a
 refine aL (aF (v:=zB false) (aG (aL (aO (v:=i64 i) (aO (v:=i64 many) (aD (kH rfl rfl) ?_))))))
 obtain ⟨c,d,a⟩:=aB a
 refine aS (vs:=[i64 i,i64 0,i64 (wr (many - 1))]) call61 rfl (rS b d) ?_
 rintro _ h ⟨rfl,e⟩
 refine aF (v:=zB c) (aG ?_)
 obtain rfl:=zI a
 exact bM (bP results64 rfl ⟨rfl,e⟩)
end Gv
