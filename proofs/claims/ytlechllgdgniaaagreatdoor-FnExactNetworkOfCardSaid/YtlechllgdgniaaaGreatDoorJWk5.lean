/- Walks, printed by program. -/
import Derived.Test.YtlechllgdgniaaaGreatDoorJWk3
set_option linter.all false
namespace Gv
open Gv.Hp renaming le_refl→zR
open Go.Value renaming slice→zS,bool→zB,agg→zA,tuple→zT
open Option.some renaming inj→zI
open Gv.Hp renaming le_trans→zL
open Go Go.Proofs Go.Proofs.Tryz
set_option maxRecDepth 20000
set_option maxHeartbeats 40000000
variable {G:pJ} {K Kf:Hp} {L:List hQ} {w:World} {a1 a4 a7 a10 a13 a16:Option Addr} {c5 c8 c2 c11 c14 c17:Nat}
theorem aPT {t:eP} {d:Nat} {R:Bool} (hm:aJN t=some R) (hs:aN G K (L) w) (b:iR K a1 d (zC t a4 c5 a7 c8)) (h6:cE K a4 c5 t.L) (h:cE K a7 c8 t.E):
  Calls prog 77 ([eJ a1 d]:List Value).toArray w (eR fun v w'=>v=zB R/\aN G K (L) w'):=by
 refine aQ func77 rfl (by kernel_rfl) (by show (1:Nat)<=101;decide) ?_;unfold aJN at hm
 refine aL (aD (v:=zB false) (aG (aO (aO (cW [0] (fun f w=>∃ l,yI t l=some R/\f 39=zB l/\aN G K (L) w) ?_ ?_)))))
 ·rintro f b5 ⟨l,hm,J,b6⟩
  unfold yI at hm
  refine aB ?_
  rcases aH hm with ⟨o,hm⟩|⟨o,hm⟩
  ·exact cA
  ·refine aJ o J (aW (aB (aO (aL (aD (v:=i64 0) (aG (bR [] (fun f w=>aGv=some R/\aN G K (L) w) cA ?_)))))));obtain ⟨b7,V,ho⟩:=aC hm
   refine dS [0] V (fun e f w=>f 3=i64 e/\aN G K (L) w) cA ?_
   ·rintro e p f b8 hm hr ⟨j,k⟩
    unfold aEp at hm
    refine aO (aL (bG j (aI (v:=eJ a1 d) (aA (dG rfl b) (aA (cI (k':=d+3) nX rfl b rfl) (aA (bX (t:=3) aEa k b rfl rfl) (aA (bQ (len:=t.E.length) iI rfl) (aA (cM rfl rfl) (aG ?_)))))))))
    rcases aH hm with ⟨q,hm⟩|⟨q,hm⟩
    ·refine aM q rfl (aW (aB (aO (bZ (aL (aI (v:=eJ a1 d) (aA (dG rfl b) (aA (cI (k':=d+3) nX rfl b rfl) (aA (bX (t:=3) aEa k b rfl rfl) (bG j ?_))))))))));obtain ⟨a,r,hm⟩:=aC hm
     refine aA (cQ iI rfl h rfl rfl rfl r) ?_;obtain ⟨b9,Z,a0⟩:=cE.el (sz:=3) rfl h r
     cases a0
     refine aA (eK (t:=0) (vs:=[i64 a.F,i64 a.B,i64 a.To]) tI k Z rfl rfl rfl) (cR (vs:=[i64 0,i64 0,i64 0]) zeroValue130 k rfl (fun m c0 a2=>(cO (i:=0) (ns:=[i64 a.F,i64 a.B,i64 a.To]) (us:=[i64 a.F,i64 a.B,i64 a.To]) sizeOf130 a2 rfl rfl rfl rfl rfl (dU rfl) rfl rfl (fun a3 (c1:aN G K (box m 130 [i64 a.F,i64 a.B,i64 a.To]::L) a3)=>(aG (aO (aO (cW [0,3,4] (fun f w=>∃ n,aBv t e a n=some p/\f 87=zB n/\aN G K (box m 130 [i64 a.F,i64 a.B,i64 a.To]::L) w) ?_ ?_))))))))
     ·rintro f c2 ⟨n,hm,a5,u⟩
      unfold aBv at hm
      refine aB ?_
      rcases aH hm with ⟨x,hm⟩|⟨x,hm⟩
      ·exact cA
      ·refine aJ x a5 (aW (aB (aO (cW [0,3] (fun f w=>∃ y,aEo e y=some p/\f 100=zB y/\aN G K (L) w) cA (aV (bG j (aA (kA rfl rfl) (aI (v:=zB (decide (0 < e))) ?_))))))))
       rcases aH hm with ⟨c,hm⟩|⟨c,hm⟩
       ·refine bH c rfl rfl (aI (v:=eJ a1 d) (bH c rfl rfl (aA (dG rfl b) (bH c rfl rfl (aA (cI (k':=d+3) nX rfl b rfl) (bH c rfl rfl (aA (bX (t:=3) aEa u b rfl rfl) (bH c rfl rfl (bG j (bH c rfl rfl (aA (fY rfl rfl) (bH c rfl rfl ?_))))))))))));obtain ⟨c3,z,hm⟩:=aC hm
        refine aA (cQ iI rfl h rfl rfl rfl z) ?_;obtain ⟨c4,a6,a8⟩:=cE.el (sz:=3) rfl h z
        cases a8
        refine bH c rfl rfl ?_;obtain ⟨c6,a9,b0,b1,c7⟩:=aN.lendBp u .head
        obtain ⟨c9,b2,hm⟩:=aC hm
        exact aT (vs:=[eJ a7 ((wr (e - 1)).toNat * 3+0),eJ (some ⟨m,0,none⟩) 0]) call114 rfl (aHR b2 b1 (a6.mono a9) b0) cA
       ·exact cA
     exact cA
    ·exact cA
 exact cA
theorem aHS {j:(List Definition)} {p:bS} {k:List bS} {a:Int} {R:((List dM) × Bool)} (hm:rW j p=some R) (hs:aN G K (bB 100 Kf a4 c5 k::L) w) (r:Hp.le Kf K) (h3:cE K a1 c2 j) (h8:ix k a=some p) (d:Lies a4):
  Calls prog 74 ([zS a1 j.length c2,eJ a4 (a.toNat * 3+0)]:List Value).toArray w (eR fun v w'=>∃ m u x,v=zT #[zS u R.1.length x,zB R.2]/\Hp.le K m/\aN G m (bB 108 m u x R.1::bB 100 m a4 c5 k::L) w'):=by
 refine aQ func74 rfl (by kernel_rfl) (by show (2:Nat)<=26;decide) ?_;unfold rW at hm
 refine aL (aD (v:=zS none 0 0) (aD (v:=zB false) (aG (aO ?_))));obtain ⟨o,y,a9⟩:=aN.rawOpen (n:=2) rfl hs (i:=0) rfl
 have z:aN G K (bB 100 Kf a4 c5 o::L) w:=a9
 refine jJ (C:=fun w'=>∃ L',aN G K (bB 100 Kf a4 c5 o::L') w') [(0,0),(1,0),(2,0),(3,0),(4,0),(5,0),(6,0),(7,0),(8,0),(9,0),(10,0),(11,0),(12,0),(13,1),(14,1),(15,0)] cB (by kernel_rfl) (fun _ hg=>⟨_,aN.mono z hg⟩) (fun b6 b0=>?_)
 have c:=aN.mono z b0
 refine dV rfl (fun _ _=>bJ (v:=zS a1 j.length c2) rfl) (dV rfl (fun _ _=>bJ (v:=eJ a4 (a.toNat * 3+0)) rfl) (dV rfl (fun _ _=>R_nilA d rfl) (dV rfl (fun _ _=>kD (k':=a.toNat * 3+0) aHq d rfl rfl) ?_)));obtain ⟨b7,q,b1⟩:=y.at h8
 obtain ⟨J,V,rfl,b2⟩:=b1
 refine dV rfl (fun _ ⟨_,c⟩=>R_ldR (t:=0) (v:=i64 p.Definition) dC c (i:=0) rfl q rfl rfl rfl) (dV rfl (fun _ _=>bJ (v:=eJ a4 (a.toNat * 3+0)) rfl) (dV rfl (fun _ _=>R_nilA d rfl) (dV rfl (fun _ _=>kD (k':=a.toNat * 3+1) aHr d rfl rfl) (dV rfl (fun _ ⟨_,c⟩=>R_ldR (t:=1) (v:=i64 p.Part) dC c (i:=0) rfl q rfl rfl rfl) (dV rfl (fun _ _=>bJ (v:=eJ a4 (a.toNat * 3+0)) rfl) (dV rfl (fun _ _=>R_nilA d rfl) (dV rfl (fun _ _=>kD (k':=a.toNat * 3+2) aHs d rfl rfl) (dV rfl (fun _ ⟨_,c⟩=>R_ldR (t:=2) (v:=zS J p.Values.length V) aCq c (i:=0) rfl q rfl rfl rfl) (pP rfl (eL (Kt:=K) (xs:=([]:List dM)) (cs:=[]) (vs:=[]) tH aMJ rfl rfl c rfl (by kernel_rfl) rfl rfl rfl trivial (fun Z b3 (a0:aN G K (bB 108 K Z 0 ([]:List dM)::bB 100 Kf a4 c5 o::L) b3)=>(cC (aB ⟨⟨_,(aN.arr 2 [1,0] a0 rfl)⟩,?_⟩)))))))))))))
 refine pP rfl ?_;obtain ⟨b,b4,hm⟩:=aC hm
 refine aT (vs:=[zS a1 j.length c2,i64 p.Definition,i64 p.Part,zS J p.Values.length V,zS Z ([]:List dM).length 0]) call108 rfl (aJU (Kf:=K) b4 a0 (zR _) h3 (b2.mono r)) ?_
 rintro _ a2 ⟨l,e,g,rfl,a3,a5⟩
 refine cC (aB ⟨⟨_,(aN.weakK (aN.arr 2 [1,0] a5 rfl) a3)⟩,?_⟩)
 refine dV rfl (fun _ _=>gM (v:=zS e b.length g) rfl) (sQ ?_)
 have b5:aN G l (bB 108 l e g b::bB 100 Kf a4 c5 k::L) a2:=aN.rawClose (n:=2) rfl a5 (i:=1) rfl y
 refine aB (aL (aI (v:=zS e b.length g) (aI (v:=zS e b.length g) (aA (bQ (len:=b.length) tH rfl) (aA (aBl rfl rfl) (aD (v:=zS e b.length g) (aD (v:=zB (decide ((b.length:Int)<=200))) (aG ?_))))))))
 have b8:aN G l (bB 108 l e g b::bB 100 l a4 c5 k::L) a2:=aN.weak (i:=1) b5 rfl (fun _ h=>bB.mono (zL r a3) h)
 exact cA
theorem aIB {s_:cP} {k2:Nat} {k:Int} {R:(eP × Bool)} (hm:lY s_ k=some R) (hs:aN G K (L) w) (h3:iR K a1 k2 [zS a4 s_.Definitions.length c5,zS a7 s_.Components.length c8,zS a10 s_.Meetings.length c11,zS a13 s_.Allowed.length c14,zS a16 s_.Hidden.length c17]) (h6:cE K a4 c5 s_.Definitions) (h9:cE K a7 c8 s_.Components) (q0:cE K a10 c11 s_.Meetings) (q1:cE K a13 c14 s_.Allowed) (q2:cE K a16 c17 s_.Hidden):
  Calls prog 44 ([eJ a1 k2,i64 k]:List Value).toArray w (eR fun v w'=>∃ m4 m5 m6 m7,v=zT #[zA (zCa R.1 m4 m5 m6 m7),zB R.2]/\aN G K (bB 9 K m4 m5 R.1.L::bB 130 K m6 m7 R.1.E::L) w'):=by
 let b:=zG
 refine aQ func44 rfl (by kernel_rfl) (by show (2:Nat)<=114;decide) ?_;unfold lY at hm
 refine aL (cR (vs:=b) zeroValue60 hs rfl (fun d w20 q3=>(aD (v:=zB false) (aG (aL (aI (v:=eJ a1 k2) ?_))))));obtain ⟨r22,q4,hm⟩:=aC hm
 refine aT (vs:=[eJ a1 k2]) call73 rfl (aLL q4 q3 h3 h6 h9 q0 q1 q2) ?_
 rintro _ q5 ⟨K24,a26,c27,rfl,x,q6⟩
 obtain ⟨a6,y,m8,f9⟩:=aN.giveSp q6 (zR _) .head
 replace f9:aN G a6 (box d 60 b::L) q5:=f9
 refine aI (v:=i64 k) ?_;obtain ⟨z,m9,hm⟩:=aC hm
 refine aA (cQ sT rfl m8 rfl rfl rfl m9) ?_;obtain ⟨a31,q7,q8⟩:=cE.el (sz:=3) rfl m8 m9
 obtain ⟨g0,g1,rfl,q9⟩:=q8
 refine aA (eK (t:=0) (vs:=[i64 z.Definition,i64 z.Part,zS g0 z.Values.length g1]) aAe f9 q7 rfl rfl rfl) (eL (Kt:=a6) (xs:=([z]:List bS)) (cs:=[i64 z.Definition,i64 z.Part,zS g0 z.Values.length g1]) (vs:=[(0,zA #[i64 z.Definition,i64 z.Part,zS g0 z.Values.length g1])]) sT aFn rfl rfl f9 rfl (by kernel_rfl) rfl rfl rfl ⟨⟨g0,g1,rfl,q9⟩,trivial⟩ (fun g2 r0 (r1:aN G a6 (bB 100 a6 g2 1 ([z]:List bS)::box d 60 b::L) r0)=>(aD (v:=zS g2 ([z]:List bS).length 1) (aG (aL (eL (Kt:=K) (xs:=([]:List bK)) (cs:=[]) (vs:=[]) dL aCp rfl rfl r1 rfl (by kernel_rfl) rfl rfl rfl trivial (fun j6 r2 (r3:aN G a6 (bB 9 K j6 0 ([]:List bK)::bB 100 a6 g2 1 ([z]:List bS)::box d 60 b::L) r2)=>(aD (v:=zS j6 ([]:List bK).length 0) (aG (aL (eL (Kt:=K) (xs:=([]:List Edge)) (cs:=[]) (vs:=[]) iI aGn rfl rfl r3 rfl (by kernel_rfl) rfl rfl rfl trivial (fun n0 r4 (a32:aN G a6 (bB 130 K n0 0 ([]:List Edge)::bB 9 K j6 0 ([]:List bK)::bB 100 a6 g2 1 ([z]:List bS)::box d 60 b::L) r4)=>(aD (v:=zS n0 ([]:List Edge).length 0) (aG (aO (aL (aD (v:=i64 0) (aG (bR [4] (fun f w=>∃ d0 b8 d1 d2 g3 g4 e1 e2 e3 e4,Hp.le a6 d0/\iB b8 d1 d2=some R/\f 6=zS g3 b8.length g4/\f 7=zS e1 d1.length e2/\f 8=zS e3 d2.length e4/\aN G d0 (bB 130 K e3 e4 d2::bB 9 K e1 e2 d1::bB 100 d0 g3 g4 b8::box d 60 b::L) w) ?_ ?_)))))))))))))))))))
 ·rintro f w65 ⟨d0,b8,d1,d2,g3,g4,e1,e2,e3,e4,g5,hm,r5,r6,r7,r8⟩
  unfold iB at hm
  refine aB (aL (bG r5 (aA (bQ (len:=b8.length) sT rfl) (bG r6 (bG r7 ?_)))));obtain ⟨K67,r9,s0,s1,s2⟩:=aN.lendSp r8 (zL (zL x y) g5) zt1
  obtain ⟨K72,s3,s4,s5,s6⟩:=aN.lendSp s1 (zL (zL (zL x y) g5) r9) .head
  obtain ⟨o,s7,hm⟩:=aC hm
  refine aT (vs:=[i64 (b8.length:Int),i64 0,zS e1 d1.length e2,zS e3 d2.length e4]) call76 rfl (aNc s7 s5 (s0.mono s3) s4) ?_
  rintro _ w83 ⟨e5,e6,e7,e8,rfl,s8⟩
  have s9:=s6 _ _ s8
  have t0:=s2 _ _ s9
  refine cR (vs:=b) zeroValue60 t0 rfl (fun n1 w88 t1=>(cO (i:=0) (ns:=(zC o e5 e6 e7 e8)) (us:=(zC o e5 e6 e7 e8)) sizeOf60 t1 rfl rfl rfl rfl rfl (dU rfl) rfl rfl (fun t2 (t3:aN G d0 (box n1 60 (zC o e5 e6 e7 e8)::bB 9 K e1 e2 d1::bB 130 K e3 e4 d2::bB 9 K e5 e6 o.L::bB 130 K e7 e8 o.E::bB 100 d0 g3 g4 b8::box d 60 b::L) t2)=>(aG (aO ?_)))));obtain ⟨t4,n2,n3,n4,t5⟩:=aN.lendBp t3 .head
  refine jJ (C:=fun w'=>∃ L',aN G t4 L' w') [(0,0),(1,1),(2,2),(3,2)] cB (by kernel_rfl) (fun _ hg=>⟨_,aN.mono n4 hg⟩) (fun w97 t6=>?_)
  have j7:=aN.mono n4 t6
  refine dV rfl (fun _ ⟨_,j7⟩=>eK (t:=0) (vs:=(zC o e5 e6 e7 e8)) wA j7 n3 rfl rfl rfl) (pP rfl ?_);obtain ⟨a40,n5,t7,t8,t9⟩:=aN.lendSp j7 (zL (zL (zL x y) g5) n2) zt2
  obtain ⟨a41,n6,u0,u1,u2⟩:=aN.lendSp t8 (zL (zL (zL (zL x y) g5) n2) n5) zt2
  obtain ⟨a43,u3,hm⟩:=aC hm
  refine aT (vs:=[eJ (some ⟨n1,0,none⟩) 0]) call77 rfl (aPT u3 u1 (n3.mono (zL n5 n6)) (t7.mono n6) u0) ?_
  rintro _ a44 ⟨rfl,u4⟩
  have u5:=u2 _ _ u4
  have n7:=t9 _ _ u5
  refine cC (aB ⟨⟨_,n7⟩,?_⟩)
  have a46:=t5 _ _ n7
  exact cA
 obtain ⟨a47,u6,ho⟩:=aC hm
 refine aJB [0,4] u6 (fun b4 b9 c0 p f w=>∃ a8 c1 d3 d4 d5 d6 d7,Hp.le a6 a8/\f 6=zS c1 b4.length d3/\f 7=zS d4 b9.length d5/\f 8=zS d6 c0.length d7/\f 9=i64 p/\aN G a8 (bB 130 K d6 d7 c0::bB 9 K d4 d5 b9::bB 100 a8 c1 d3 b4::box d 60 b::L) w) cA ?_
 ·rintro b4 b9 c0 p g6 f a49 hm hr ⟨a8,c1,d3,d4,d5,d6,d7,a0,j8,u7,u8,g7,j9⟩
  unfold gO at hm
  refine aO (aL (bG g7 (bG j8 (aA (bQ (len:=b4.length) sT rfl) (aA (cM rfl rfl) (aG ?_))))))
  rcases aH hm with ⟨k0,hm⟩|⟨k0,hm⟩
  ·refine aM k0 rfl (aW (aB (aO (bR [0,4,9] (fun f w=>∃ e9 g8 g9 h0 h1 h2 h4 h5 h7 h8,Hp.le a8 e9/\sV p g8 g9 h0=some g6/\f 6=zS h1 g8.length h2/\f 7=zS h4 g9.length h5/\f 8=zS h7 h0.length h8/\aN G e9 (bB 130 K h7 h8 h0::bB 9 K h4 h5 g9::bB 100 e9 h1 h2 g8::box d 60 b::L) w) ?_ ?_))))
   ·rintro f a50 ⟨e9,g8,g9,h0,h1,h2,h4,h5,h7,h8,u9,hm,v0,v1,v2,v3⟩
    unfold sV at hm
    exact aB (aV (bG g7 (aA (cD rfl rfl) (aD (v:=i64 (wr (p+1))) (aG ⟨_,(zI hm).symm,aU,e9,h1,h2,h4,h5,h7,h8,(zL a0 u9),v0,v1,v2,rfl,v3⟩)))))
   refine aO (jJ (C:=fun w'=>∃ L',aN G a8 L' w') [(0,0),(1,0),(2,0),(3,0),(4,0),(5,0),(6,0),(7,1),(8,0),(9,0),(10,0),(11,0),(12,0)] cB (by kernel_rfl) (fun _ hg=>⟨_,aN.mono j9 hg⟩) (fun v4 v5=>?_))
   have i0:=aN.mono j9 v5
   refine dV rfl (fun _ _=>bJ (v:=eJ a1 k2) rfl) (dV rfl (fun _ _=>dG rfl (h3.mono (zL (zL x y) a0))) (dV rfl (fun _ _=>cI (k':=k2+0) pL rfl (h3.mono (zL (zL x y) a0)) rfl) (dV rfl (fun _ ⟨_,i0⟩=>bX (t:=0) aDY i0 (h3.mono (zL (zL x y) a0)) rfl rfl) (dV rfl (fun _ _=>bJ j8) (dV rfl (fun _ _=>bJ g7) ?_)))));obtain ⟨a51,k1,hm⟩:=aC hm
   have n8:=fC i0 (i:=2) rfl k1
   refine dV rfl (fun _ _=>gE sT rfl n8 rfl rfl rfl k1) (pP rfl ?_)
   have v6:aN G a8 (bB 100 a8 c1 d3 b4::bB 130 K d6 d7 c0::bB 9 K d4 d5 b9::box d 60 b::L) v4:=(aN.arr 3 [2,0,1] i0 rfl)
   obtain ⟨c,v7,hm⟩:=aC hm
   refine aT (vs:=[zS a4 s_.Definitions.length c5,eJ c1 (p.toNat * 3+0)]) call74 rfl (aHS (Kf:=a8) v7 v6 (zR _) (h6.mono (zL (zL x y) a0)) k1 n8) ?_
   rintro _ a52 ⟨a,e,j,rfl,c2,n9⟩
   refine cC (aB ⟨⟨_,(aN.weakK n9 c2)⟩,?_⟩)
   refine dV rfl (fun _ _=>bJ (v:=zT #[zS e c.1.length j,zB c.2]) rfl) (dV rfl (fun _ _=>dF rfl rfl) (dV rfl (fun _ _=>dF rfl rfl) (dV rfl (fun _ _=>gM (v:=zS e c.1.length j) rfl) (dV rfl (fun _ _=>gM (v:=zB c.2) rfl) (sQ (aB (aO (aL (aI (v:=zB c.2) (aA (dA rfl) (aG ?_)))))))))))
   rcases aH hm with ⟨k3,hm⟩|⟨k3,hm⟩
   ·refine aM k3 rfl (aL (aA (iA (vs:=[]) (cs:=b) bs_60 rfl (by kernel_rfl)) (cO (i:=4) (ns:=b) (us:=b) sizeOf60 n9 rfl rfl rfl rfl rfl (dU rfl) rfl rfl (fun v8 (v9:aN G a (bB 108 a e j c.1::bB 100 a c1 d3 b4::bB 130 K d6 d7 c0::bB 9 K d4 d5 b9::box d 60 b::L) v8)=>(aD (v:=zB false) (aG (aX (aK (aZ (aK (aK (aK ?_))))))))))))
    have w0:=hr _ (zI hm).symm
    subst w0
    have hm:(some (⟨0,0,[],[]⟩,false))=some R:=ho
    clear hr ho
    have w1:=aN.nil (α:=bK) v9 9 K
    have o0:=aN.nil (α:=Edge) w1 130 K
    obtain rfl:=zI hm
    exact aZ (aK (aK (xK results44 (iN (vs:=b) rfl wA o0 (i:=6) rfl rfl rfl) (vS rfl rfl) ⟨none,0,none,0,rfl,(aN.weakK (aN.arr 7 [1,0] o0 rfl) (zL (zL (zL x y) a0) c2))⟩)))
   ·refine aJ k3 rfl (aW (aB (aO (aL (aD (v:=i64 0) (aG (bR [0,4,9] (fun f w=>∃ c3 c4 c6 f0 f1 f2 f3 f4 f5,iP p c3 c4 c6=some g6/\f 6=zS f0 c3.length f1/\f 7=zS f2 c4.length f3/\f 8=zS f4 c6.length f5/\aN G a (bB 130 K f4 f5 c6::bB 9 K f2 f3 c4::bB 100 a f0 f1 c3::box d 60 b::L) w) ?_ ?_)))))))
    ·rintro f a53 ⟨c3,c4,c6,f0,f1,f2,f3,f4,f5,hm,a55,a56,a58,a59⟩
     unfold iP at hm
     refine aB (aO (cW [0,4,6,7,8,9] (fun f w=>∃ k4,kH p c3 c4 c6 k4=some g6/\f 105=zB k4/\aN G a (bB 130 K f4 f5 c6::bB 9 K f2 f3 c4::bB 100 a f0 f1 c3::box d 60 b::L) w) ?_ ?_))
     ·rintro f a61 ⟨k4,hm,w3,w4⟩
      unfold kH at hm
      refine aB ?_
      rcases aH hm with ⟨o1,hm⟩|⟨o1,hm⟩
      ·refine aM o1 w3 (aL (aA (iA (vs:=[]) (cs:=b) bs_60 rfl (by kernel_rfl)) (cO (i:=3) (ns:=b) (us:=b) sizeOf60 w4 rfl rfl rfl rfl rfl (dU rfl) rfl rfl (fun w5 (w6:aN G a (bB 130 K f4 f5 c6::bB 9 K f2 f3 c4::bB 100 a f0 f1 c3::box d 60 b::L) w5)=>(aD (v:=zB false) (aG (aX (aZ (aK (aK (aK ?_)))))))))))
       have w7:=hr _ (zI hm).symm
       subst w7
       have hm:(some (⟨0,0,[],[]⟩,false))=some R:=ho
       clear hr ho
       have w8:=aN.nil (α:=bK) w6 9 K
       have o2:=aN.nil (α:=Edge) w8 130 K
       obtain rfl:=zI hm
       exact aZ (aK (aK (xK results44 (iN (vs:=b) rfl wA o2 (i:=5) rfl rfl rfl) (vS rfl rfl) ⟨none,0,none,0,rfl,(aN.weakK (aN.arr 6 [1,0] o2 rfl) (zL (zL (zL x y) a0) c2))⟩)))
      ·exact cA
     exact cA
    obtain ⟨a62,x0,ho⟩:=aC hm
    refine aJB [0,4,9,10] x0 (fun l q n a2 f w=>∃ a3 a9 J V r u,f 6=zS a3 l.length a9/\f 7=zS J q.length V/\f 8=zS r n.length u/\f 12=i64 a2/\aN G a (bB 108 a e j c.1::bB 100 a a3 a9 l::bB 130 K r u n::bB 9 K J V q::box d 60 b::L) w) cA ?_
    ·rintro l q n a2 i1 f a63 hm hr ⟨a3,a9,J,V,r,u,d8,o3,o4,f6,o5⟩
     unfold lG at hm
     refine aO (aL (bG f6 (aI (v:=zS e c.1.length j) (aA (bQ (len:=c.1.length) tH rfl) (aA (cM rfl rfl) (aG ?_))))))
     rcases aH hm with ⟨k5,hm⟩|⟨k5,hm⟩
     ·refine aM k5 rfl (aW (aB (aO (bR [0,4,9,10,12] (fun f w=>∃ i2 i3 i4 i5 i6 i7 i8 i9 j0,sW a2 i2 i3 i4=some i1/\f 6=zS i5 i2.length i6/\f 7=zS i7 i3.length i8/\f 8=zS i9 i4.length j0/\aN G a (bB 130 K i9 j0 i4::bB 9 K i7 i8 i3::bB 100 a i5 i6 i2::bB 108 a e j c.1::box d 60 b::L) w) ?_ ?_))))
      ·rintro f a64 ⟨i2,i3,i4,i5,i6,i7,i8,i9,j0,hm,x1,x2,x3,x4⟩
       unfold sW at hm
       exact aB (aV (bG f6 (aA (cD rfl rfl) (aD (v:=i64 (wr (a2+1))) (aG ⟨_,(zI hm).symm,aU,i5,i6,i7,i8,i9,j0,x1,x2,x3,rfl,(aN.arr 4 [3,2,0,1] x4 rfl)⟩)))))
      refine aL (aD (v:=i64 (-1)) (aG (aO (aL (aD (v:=i64 0) (aG (bR [0,4,6,7,8,9,10,12] (fun f w=>∃ j1,mH p c l q n a2 j1=some i1/\f 13=i64 j1/\aN G a (bB 108 a e j c.1::bB 100 a a3 a9 l::bB 130 K r u n::bB 9 K J V q::box d 60 b::L) w) ?_ ?_)))))))
      ·rintro f a65 ⟨j1,hm,o6,j2⟩
       unfold mH at hm
       refine aB (aAa [0,4,7,8,9,10,12] (fun f w=>∃ b1 b2 b5 b6,mG p c q n a2 b1 b2=some i1/\f 6=zS b5 b1.length b6/\f 13=i64 b2/\aN G a (bB 100 a b5 b6 b1::bB 108 a e j c.1::bB 130 K r u n::bB 9 K J V q::box d 60 b::L) w) ?_ ?_)
       ·rintro f a66 ⟨b1,b2,b5,b6,hm,x5,x6,k6⟩
        unfold mG at hm
        refine aL (bG o3 (aI (v:=zS e c.1.length j) (bG f6 ?_)));obtain ⟨f7,k7,hm⟩:=aC hm
        have o7:=fC k6 (i:=1) rfl k7
        refine aA (gE tH rfl o7 rfl rfl rfl k7) (aA (kD (k':=a2.toNat * 4+0) aHt o7 rfl rfl) ?_);obtain ⟨a67,x7,x8⟩:=aPC (sz:=4) rfl k6 (i:=1) rfl k7
        obtain ⟨a68,a69,rfl,a70⟩:=x8
        refine aA (R_ldC (t:=0) (v:=str f7.B) fF x7 rfl rfl) (eL (Kt:=K) (xs:=([f7.B]:List bK)) (cs:=[str f7.B]) (vs:=[(0,str f7.B)]) dL aCp rfl rfl k6 rfl (by kernel_rfl) rfl rfl rfl ⟨rfl,trivial⟩ (fun x9 y0 (y1:aN G a (bB 9 K x9 1 ([f7.B]:List bK)::bB 100 a b5 b6 b1::bB 108 a e j c.1::bB 130 K r u n::bB 9 K J V q::box d 60 b::L) y0)=>?_));obtain ⟨Z,y2,hm⟩:=aC hm
        refine lL (i:=3) dL underlying25 aCp rfl rfl y1 rfl (zL (zL (zL x y) a0) c2) (zL (zL (zL x y) a0) c2) y2 rfl rfl rfl rfl (fun _ h=>h) (fun d9 e0 y3 (y4:aN G a (bB 100 a b5 b6 b1::bB 108 a e j c.1::bB 130 K r u n::bB 9 K d9 e0 Z::box d 60 b::L) y3)=>(aD (v:=zS d9 Z.length e0) (aG (aV (bG o4 (bG g7 (aI (v:=zS d9 Z.length e0) (aA (bQ (len:=Z.length) dL rfl) (aA (fY rfl rfl) (bG x6 (aA (iA (vs:=[(0,i64 p),(1,i64 (wr ((Z.length:Int) - 1))),(2,i64 b2)]) (cs:=[i64 p,i64 (wr ((Z.length:Int) - 1)),i64 b2]) aSk rfl (by kernel_rfl)) (eL (Kt:=K) (xs:=([⟨p,wr ((Z.length:Int) - 1),b2⟩]:List Edge)) (cs:=[i64 p,i64 (wr ((Z.length:Int) - 1)),i64 b2]) (vs:=[(0,zA #[i64 p,i64 (wr ((Z.length:Int) - 1)),i64 b2])]) iI aGn rfl rfl y4 rfl (by kernel_rfl) rfl rfl rfl ⟨rfl,trivial⟩ ?_))))))))))))
        intro y5 y6 (y7:aN G a (bB 130 K y5 1 ([⟨p,wr ((Z.length:Int) - 1),b2⟩]:List Edge)::bB 100 a b5 b6 b1::bB 108 a e j c.1::bB 130 K r u n::bB 9 K d9 e0 Z::box d 60 b::L) y6)
        obtain ⟨k8,y8,hm⟩:=aC hm
        exact lL (i:=2) iI underlying58 aGn rfl rfl y7 rfl (zL (zL (zL x y) a0) c2) (zL (zL (zL x y) a0) c2) y8 rfl rfl rfl rfl (fun _ h=>h) (fun k9 l0 y9 (z0:aN G a (bB 100 a b5 b6 b1::bB 108 a e j c.1::bB 130 K k9 l0 k8::bB 9 K d9 e0 Z::box d 60 b::L) y9)=>(aD (v:=zS k9 k8.length l0) (cC (bM (aB ⟨aU,b1,Z,k8,b5,b6,d9,e0,k9,l0,hm,x5,rfl,rfl,(aN.arr 4 [2,3,0,1] z0 rfl)⟩)))))
       refine aL (bG o6 (aA (cM rfl rfl) (aG ?_)))
       rcases aH hm with ⟨l1,hm⟩|⟨l1,hm⟩
       ·refine aM l1 rfl (aL (bG d8 (aA (bQ (len:=l.length) sT rfl) (aD (v:=i64 (l.length:Int)) (aG (aV (bG d8 (aI (v:=zS e c.1.length j) (bG f6 ?_)))))))));obtain ⟨a5,l2,hm⟩:=aC hm
        have o8:=fC j2 (i:=0) rfl l2
        refine aA (gE tH rfl o8 rfl rfl rfl l2) (aA (kD (k':=a2.toNat * 4+1) aFz o8 rfl rfl) ?_);obtain ⟨a71,z1,z2⟩:=aPC (sz:=4) rfl j2 (i:=0) rfl l2
        obtain ⟨j3,j4,rfl,z3⟩:=z2
        refine aA (R_ldCG (t:=1) (vs:=[i64 a5.Next.Definition,i64 a5.Next.Part,zS j3 a5.Next.Values.length j4]) aAe z1 rfl rfl rfl) (eL (Kt:=a) (xs:=([a5.Next]:List bS)) (cs:=[i64 a5.Next.Definition,i64 a5.Next.Part,zS j3 a5.Next.Values.length j4]) (vs:=[(0,zA #[i64 a5.Next.Definition,i64 a5.Next.Part,zS j3 a5.Next.Values.length j4])]) sT aFn rfl rfl j2 rfl (by kernel_rfl) rfl rfl rfl ⟨⟨j3,j4,rfl,z3⟩,trivial⟩ (fun z4 z5 (z6:aN G a (bB 100 a z4 1 ([a5.Next]:List bS)::bB 108 a e j c.1::bB 100 a a3 a9 l::bB 130 K r u n::bB 9 K J V q::box d 60 b::L) z5)=>?_))
        obtain ⟨l3,z7,hm⟩:=aC hm
        exact aBJ (i:=1) a sT underlying96 aFn rfl rfl z6 rfl (zR _) (zR _) z7 rfl rfl rfl rfl (fun _ _ _ h=>El.one h) (fun l4 l5 z8 (z9:aN G a (bB 108 a e j c.1::bB 100 a l4 l5 l3::bB 130 K r u n::bB 9 K J V q::box d 60 b::L) z8)=>(aD (v:=zS l4 l3.length l5) (aG ⟨aU,l3,(l.length:Int),l4,l5,hm,rfl,rfl,(aN.arr 2 [1,0] z9 rfl)⟩)))
       ·exact aJ l1 rfl (aW (aB ⟨aU,l,j1,a3,a9,hm,d8,o6,(aN.arr 2 [1,0] j2 rfl)⟩))
      obtain ⟨a72,a00,ho⟩:=aC hm
      refine dN [0,4,6,7,8,9,10,12] a00 (fun b7 b3 f w=>f 13=i64 b7/\f 14=i64 b3/\aN G a (bB 108 a e j c.1::bB 100 a a3 a9 l::bB 130 K r u n::bB 9 K J V q::box d 60 b::L) w) ?_ ?_
      ·exact ⟨rfl,rfl,o5⟩
      ·rintro b7 b3 o9 f a73 hm hr ⟨l6,j5,p0⟩
       unfold iS at hm
       refine aO (aO (cW [0,4,6,7,8,9,10,12,13,14] (fun f w=>∃ l7,kI c l a2 b7 b3 l7=some o9/\f 57=zB l7/\aN G a (bB 108 a e j c.1::bB 100 a a3 a9 l::bB 130 K r u n::bB 9 K J V q::box d 60 b::L) w) ?_ ?_))
       ·rintro f a74 ⟨l7,hm,p1,p2⟩
        unfold kI at hm
        refine aB ?_
        rcases aH hm with ⟨l8,hm⟩|⟨l8,hm⟩
        ·refine aM l8 p1 (aW (aB (aO (bR [0,4,6,7,8,9,10,12,14] (fun f w=>∃ l9,oO b3 l9=some o9/\f 13=i64 l9/\aN G a (bB 108 a e j c.1::bB 100 a a3 a9 l::bB 130 K r u n::bB 9 K J V q::box d 60 b::L) w) ?_ ?_))))
         ·rintro f a75 ⟨l9,hm,a01,a02⟩
          unfold oO at hm
          exact aB (aV (bG j5 (aA (cD rfl rfl) (aD (v:=i64 (wr (b3+1))) (aG ⟨_,(zI hm).symm,aU,a01,rfl,a02⟩)))))
         refine aO ?_;obtain ⟨a76,a03,p3,a04,a05⟩:=aN.lendSp p2 (zR _) .head
         obtain ⟨a06,p4,p5,b0,a07⟩:=aN.lendSp a04 a03 .head
         refine dB (C:=fun w'=>aN G a06 (bB 130 K r u n::bB 9 K J V q::box d 60 b::L) w') cB (by kernel_rfl) (aN.mono b0 (dW.drew _)) (aY (fun _ b0=>bJ d8) (aY (fun _ b0=>bJ j5) ?_));obtain ⟨a77,m0,hm⟩:=aC hm
         have a08:=aPB p5 m0
         refine aY (fun _ b0=>gE sT rfl a08 rfl rfl rfl m0) (aY (fun _ b0=>bJ (v:=zS e c.1.length j) rfl) (aY (fun _ b0=>bJ f6) ?_));obtain ⟨a78,m1,hm⟩:=aC hm
         have p6:=aPB (p3.mono p4) m1
         refine aY (fun _ b0=>gE tH rfl p6 rfl rfl rfl m1) (aY (fun _ b0=>kD (k':=a2.toNat * 4+1) aFz p6 rfl rfl) ?_);obtain ⟨a80,a09,a11⟩:=cE.el (sz:=3) rfl p5 m0
         obtain ⟨a82,a83,rfl,a12⟩:=a11
         obtain ⟨a84,a14,a15⟩:=cE.el (sz:=4) rfl (p3.mono p4) m1
         obtain ⟨a85,a86,rfl,a17⟩:=a15
         obtain ⟨a18,a19,hm⟩:=aC hm
         refine eV (vs:=[eJ a3 (b3.toNat * 3+0),eJ e (a2.toNat * 4+1)]) (v:=zB a18) call75 rfl (fun _ b0=>(aDc a19 b0 a09 a12 (iR.sub (t:=1) (m:=3) a14 rfl) a17)) (dH (fun a87 a20=>?_))
         have a21:=a07 _ _ a20
         have p7:=a05 _ _ a21
         refine aB ?_
         rcases aH hm with ⟨m2,hm⟩|⟨m2,hm⟩
         ·exact aM m2 rfl (aV (bG j5 (aD (v:=i64 b3) (cC (bM (aB ⟨aU,b3,hm,rfl,p7⟩))))))
         ·exact aJ m2 rfl (aW (bM (aB ⟨aU,b7,hm,l6,p7⟩)))
        ·refine aJ l8 p1 (cL (bF (bF ?_)))
         have a22:=hr _ (zI hm).symm
         subst a22
         have hm:(mH p c l q n a2 b7)=some i1:=ho
         clear hr ho
         exact bU (aB ⟨aU,b7,hm,l6,p2⟩)
       refine aV (bG j5 (bG d8 (aA (bQ (len:=l.length) sT rfl) (aA (cM rfl rfl) (aI (v:=zB (decide (b3 < (l.length:Int)))) ?_)))))
       rcases aH hm with ⟨c7,hm⟩|⟨c7,hm⟩
       ·exact bH c7 rfl rfl (bG l6 (bH c7 rfl rfl (aA (cM rfl rfl) (aA (bI (v:=zB (decide (b7 < 0))) c7 rfl rfl) (aG ⟨aU,decide (b7 < 0),hm,rfl,p0⟩)))))
       ·exact bC c7 rfl rfl (bC c7 rfl rfl (aA (bN (v:=zB false) c7 rfl rfl) (aG ⟨aU,false,hm,rfl,p0⟩)))
     ·refine aJ k5 rfl (cL (bF (bF ?_)))
      have a23:=hr _ (zI hm).symm
      subst a23
      have hm:(iP p l q n)=some g6:=ho
      clear hr ho
      exact bU (aB ⟨aU,l,q,n,a3,a9,J,V,r,u,hm,d8,o3,o4,(aN.arr 4 [2,3,1] o5 rfl)⟩)
  ·refine aJ k0 rfl (cL (bF (bF ?_)))
   have a24:=hr _ (zI hm).symm
   subst a24
   have hm:(iB b4 b9 c0)=some R:=ho
   clear hr ho
   exact bU (aB ⟨aU,a8,b4,b9,c0,c1,d3,d4,d5,d6,d7,a0,hm,j8,u7,u8,j9⟩)
theorem aPU {s_:cP} {k2:Nat} {R:(iY × Bool)} (hm:aMn s_=some R) (hs:aN G K (L) w) (h3:iR K a1 k2 [zS a4 s_.Definitions.length c5,zS a7 s_.Components.length c8,zS a10 s_.Meetings.length c11,zS a13 s_.Allowed.length c14,zS a16 s_.Hidden.length c17]) (h6:cE K a4 c5 s_.Definitions) (h9:cE K a7 c8 s_.Components) (d4:cE K a10 c11 s_.Meetings) (d5:cE K a13 c14 s_.Allowed) (d6:cE K a16 c17 s_.Hidden):
  Calls prog 18 ([eJ a1 k2]:List Value).toArray w (eR fun v w'=>∃ K' d7 d8 d9 e0 e1 e2 e3 e4,v=zT #[zA #[zS d7 R.1.Parts.length d8,zS d9 R.1.Meetings.length e0,zS e1 R.1.Allowed.length e2,zS e3 R.1.Hidden.length e4],zB R.2]/\Hp.le K K'/\aN G K' (bB 60 K' d7 d8 R.1.Parts::bB 93 K d9 e0 R.1.Meetings::bB 9 K e1 e2 R.1.Allowed::bB 9 K e3 e4 R.1.Hidden::L) w'):=by
 let q:=[zS none 0 0,zS none 0 0,zS none 0 0,zS none 0 0]
 refine aQ func18 rfl (by kernel_rfl) (by show (1:Nat)<=44;decide) ?_;unfold aMn at hm
 refine aL (cR (vs:=q) zeroValue32 hs rfl (fun r i1 f1=>(aD (v:=zB false) (aG (aL (aI (v:=eJ a1 k2) ?_))))));obtain ⟨a,f2,hm⟩:=aC hm
 refine aT (vs:=[eJ a1 k2]) call43 rfl (aNV f2 f1 h3 h6 h9 d4 d5 d6) ?_
 rintro _ i2 ⟨n,a8,a9,b0,b1,c,d,e,g,j,k,rfl,u,f3⟩
 refine cR (vs:=[zS none 0 0,zS none 0 0,zS none 0 0,zS none 0 0,zS none 0 0]) zeroValue38 f3 rfl (fun c2 i3 f4=>(cO (i:=0) (ns:=[zS a8 a.Definitions.length a9,zS b0 a.Components.length b1,zS c a.Meetings.length d,zS e a.Allowed.length g,zS j a.Hidden.length k]) (us:=[zS a8 a.Definitions.length a9,zS b0 a.Components.length b1,zS c a.Meetings.length d,zS e a.Allowed.length g,zS j a.Hidden.length k]) sizeOf38 f4 rfl rfl rfl rfl rfl (dU rfl) rfl rfl (fun f5 (f6:aN G n (box c2 38 [zS a8 a.Definitions.length a9,zS b0 a.Components.length b1,zS c a.Meetings.length d,zS e a.Allowed.length g,zS j a.Hidden.length k]::bB 89 n a8 a9 a.Definitions::bB 91 n b0 b1 a.Components::bB 93 K c d a.Meetings::bB 9 K e g a.Allowed::bB 9 K j k a.Hidden::box r 32 q::L) f5)=>(aG (aL (eL (Kt:=n) (xs:=([]:List eP)) (cs:=[]) (vs:=[]) yR aRY rfl rfl f6 rfl (by kernel_rfl) rfl rfl rfl trivial (fun b2 f7 (b9:aN G n (bB 60 n b2 0 ([]:List eP)::box c2 38 [zS a8 a.Definitions.length a9,zS b0 a.Components.length b1,zS c a.Meetings.length d,zS e a.Allowed.length g,zS j a.Hidden.length k]::bB 89 n a8 a9 a.Definitions::bB 91 n b0 b1 a.Components::bB 93 K c d a.Meetings::bB 9 K e g a.Allowed::bB 9 K j k a.Hidden::box r 32 q::L) f7)=>(aA (bA (t':=2) aBN rfl rfl) (aA (bO aFy b9 (i:=1) rfl rfl rfl) (aA (bA (t':=3) aBO rfl rfl) (aA (bO jG b9 (i:=1) rfl rfl rfl) (aA (bA (t':=4) aBP rfl rfl) (aA (bO jG b9 (i:=1) rfl rfl rfl) (aA (iA (vs:=[(0,zS b2 ([]:List eP).length 0),(1,zS c a.Meetings.length d),(2,zS e a.Allowed.length g),(3,zS j a.Hidden.length k)]) (cs:=[zS b2 ([]:List eP).length 0,zS c a.Meetings.length d,zS e a.Allowed.length g,zS j a.Hidden.length k]) aLo rfl (by kernel_rfl)) (cR (vs:=q) zeroValue32 b9 rfl (fun a2 i4 f8=>(cO (i:=0) (ns:=[zS b2 ([]:List eP).length 0,zS c a.Meetings.length d,zS e a.Allowed.length g,zS j a.Hidden.length k]) (us:=[zS b2 ([]:List eP).length 0,zS c a.Meetings.length d,zS e a.Allowed.length g,zS j a.Hidden.length k]) sizeOf32 f8 rfl rfl rfl rfl rfl (dU rfl) rfl rfl (fun f9 (i5:aN G n (box a2 32 [zS b2 ([]:List eP).length 0,zS c a.Meetings.length d,zS e a.Allowed.length g,zS j a.Hidden.length k]::bB 60 n b2 0 ([]:List eP)::box c2 38 [zS a8 a.Definitions.length a9,zS b0 a.Components.length b1,zS c a.Meetings.length d,zS e a.Allowed.length g,zS j a.Hidden.length k]::bB 89 n a8 a9 a.Definitions::bB 91 n b0 b1 a.Components::bB 93 K c d a.Meetings::bB 9 K e g a.Allowed::bB 9 K j k a.Hidden::box r 32 q::L) f9)=>(aG (aO (aL (aD (v:=i64 0) (aG ?_)))))))))))))))))))))))
 refine bR [2,5] (fun f w=>∃ b3 V Z a0,Hp.le n b3/\aBw a V=some R/\aN G b3 (bB 60 b3 Z a0 V::box a2 32 [zS Z V.length a0,zS c a.Meetings.length d,zS e a.Allowed.length g,zS j a.Hidden.length k]::bB 93 K c d a.Meetings::bB 9 K e g a.Allowed::bB 9 K j k a.Hidden::box r 32 q::L) w) ?_ ?_
 ·rintro f i6 ⟨b3,V,Z,a0,g0,hm,e5⟩
  unfold aBw at hm
  refine aB (aL (aA (eH (us:=[zS Z V.length a0,zS c a.Meetings.length d,zS e a.Allowed.length g,zS j a.Hidden.length k]) wB e5 (i:=1) rfl rfl rfl rfl) (cO (i:=5) (ns:=[zS Z V.length a0,zS c a.Meetings.length d,zS e a.Allowed.length g,zS j a.Hidden.length k]) (us:=[zS Z V.length a0,zS c a.Meetings.length d,zS e a.Allowed.length g,zS j a.Hidden.length k]) sizeOf32 e5 rfl rfl rfl rfl rfl (dU rfl) rfl rfl (fun g1 (e6:aN G b3 (bB 60 b3 Z a0 V::box a2 32 [zS Z V.length a0,zS c a.Meetings.length d,zS e a.Allowed.length g,zS j a.Hidden.length k]::bB 93 K c d a.Meetings::bB 9 K e g a.Allowed::bB 9 K j k a.Hidden::box r 32 [zS Z V.length a0,zS c a.Meetings.length d,zS e a.Allowed.length g,zS j a.Hidden.length k]::L) g1)=>(aD (v:=zB true) (aG ?_))))))
  obtain rfl:=zI hm
  exact aX (xK results18 (iN (vs:=[zS Z V.length a0,zS c a.Meetings.length d,zS e a.Allowed.length g,zS j a.Hidden.length k]) rfl wB e6 (i:=5) rfl rfl rfl) (vS rfl rfl) ⟨b3,Z,a0,c,d,e,g,j,k,rfl,(zL u g0),(aN.arr 6 [0,2,3,4] e6 rfl)⟩)
 obtain ⟨i7,g3,ho⟩:=aC hm
 refine dN [0,2,5] g3 (fun x c0 f w=>∃ a5 y z,Hp.le n a5/\f 6=i64 c0/\aN G a5 (box a2 32 [zS y x.length z,zS c a.Meetings.length d,zS e a.Allowed.length g,zS j a.Hidden.length k]::bB 60 a5 y z x::bB 93 K c d a.Meetings::bB 9 K e g a.Allowed::bB 9 K j k a.Hidden::box r 32 q::L) w) cA ?_
 ·rintro x c0 i8 f i9 hm hr ⟨a5,y,z,J,c3,e7⟩
  unfold yJ at hm
  refine aO (aL (bG c3 (aI (v:=eJ a1 k2) (aA (dG rfl (h3.mono (zL u J))) (aA (cI (k':=k2+1) mD rfl (h3.mono (zL u J)) rfl) (aA (bX (t:=1) aBn e7 (h3.mono (zL u J)) rfl rfl) (aA (bQ (len:=s_.Components.length) oJ rfl) (aA (cM rfl rfl) (aG ?_)))))))))
  rcases aH hm with ⟨e8,hm⟩|⟨e8,hm⟩
  ·refine aM e8 rfl (aW (aB (aO (bZ (aL (aI (v:=eJ a1 k2) (bG c3 ?_)))))));obtain ⟨b,g4,hm⟩:=aC hm
   refine aT (vs:=[eJ a1 k2,i64 c0]) call44 rfl (aIB g4 e7 (h3.mono (zL u J)) (h6.mono (zL u J)) (h9.mono (zL u J)) (d4.mono (zL u J)) (d5.mono (zL u J)) (d6.mono (zL u J))) ?_
   rintro _ j0 ⟨o,p,l,m,rfl,g5⟩
   refine aI (v:=zT #[zA (zCa b.1 o p l m),zB b.2]) (aA (dF rfl rfl) (aA (dF rfl rfl) (cR (vs:=zG) zeroValue60 g5 rfl (fun b4 j1 g6=>(cO (i:=0) (ns:=(zC b.1 o p l m)) (us:=(zC b.1 o p l m)) sizeOf60 g6 rfl rfl rfl rfl rfl (dU rfl) rfl rfl (fun c4 (c6:aN G a5 (box b4 60 (zC b.1 o p l m)::bB 9 K o p b.1.L::bB 130 K l m b.1.E::box a2 32 [zS y x.length z,zS c a.Meetings.length d,zS e a.Allowed.length g,zS j a.Hidden.length k]::bB 60 a5 y z x::bB 93 K c d a.Meetings::bB 9 K e g a.Allowed::bB 9 K j k a.Hidden::box r 32 q::L) c4)=>(aD (v:=zB b.2) (aG (aO (aL (aI (v:=zB b.2) (aA (dA rfl) (aG ?_)))))))))))))
   rcases aH hm with ⟨e9,hm⟩|⟨e9,hm⟩
   ·exact cA
   ·refine aJ e9 rfl (aW (aB (aV (aA (bA (t':=0) aIf rfl rfl) (aA (bO sc_29 c6 (i:=3) rfl rfl rfl) (aA (eH (us:=(zC b.1 o p l m)) wA c6 (i:=0) rfl rfl rfl rfl) ?_))))));obtain ⟨g7,c7,g8,c9⟩:=aN.giveSp c6 (zL u J) zt1
    replace c9:aN G g7 (box b4 60 (zC b.1 o p l m)::bB 130 K l m b.1.E::box a2 32 [zS y x.length z,zS c a.Meetings.length d,zS e a.Allowed.length g,zS j a.Hidden.length k]::bB 60 a5 y z x::bB 93 K c d a.Meetings::bB 9 K e g a.Allowed::bB 9 K j k a.Hidden::box r 32 q::L) c4:=c9
    obtain ⟨a3,d0,g9,d1⟩:=aN.giveSp c9 (zL (zL u J) c7) zt1
    replace d1:aN G a3 (box b4 60 (zC b.1 o p l m)::box a2 32 [zS y x.length z,zS c a.Meetings.length d,zS e a.Allowed.length g,zS j a.Hidden.length k]::bB 60 a5 y z x::bB 93 K c d a.Meetings::bB 9 K e g a.Allowed::bB 9 K j k a.Hidden::box r 32 q::L) c4:=d1
    refine eL (Kt:=a3) (xs:=([⟨b.1.N,b.1.I,b.1.L,b.1.E⟩]:List eP)) (cs:=(zC b.1 o p l m)) (vs:=[(0,zA (zCa b.1 o p l m))]) yR aRY rfl rfl d1 rfl (by kernel_rfl) rfl rfl rfl ⟨⟨o,p,l,m,rfl,(g8.mono d0),g9⟩,trivial⟩ (fun h0 h1 (h2:aN G a3 (bB 60 a3 h0 1 ([⟨b.1.N,b.1.I,b.1.L,b.1.E⟩]:List eP)::box b4 60 (zC b.1 o p l m)::box a2 32 [zS y x.length z,zS c a.Meetings.length d,zS e a.Allowed.length g,zS j a.Hidden.length k]::bB 60 a5 y z x::bB 93 K c d a.Meetings::bB 9 K e g a.Allowed::bB 9 K j k a.Hidden::box r 32 q::L) h1)=>?_)
    obtain ⟨b8,h4,hm⟩:=aC hm
    exact aBJ (i:=2) a3 yR underlying29 aRY rfl rfl h2 rfl (zL c7 d0) (zR _) h4 rfl rfl rfl rfl (fun _ _ _ h=>El.one h) (fun b5 b6 h5 (h7:aN G a3 (box b4 60 (zC b.1 o p l m)::box a2 32 [zS y x.length z,zS c a.Meetings.length d,zS e a.Allowed.length g,zS j a.Hidden.length k]::bB 60 a3 b5 b6 b8::bB 93 K c d a.Meetings::bB 9 K e g a.Allowed::bB 9 K j k a.Hidden::box r 32 q::L) h5)=>(aA (bA (t':=0) aIf rfl rfl) (cO (i:=1) (ns:=[zS b5 b8.length b6]) (us:=[zS b5 b8.length b6,zS c a.Meetings.length d,zS e a.Allowed.length g,zS j a.Hidden.length k]) sizeOf29 h7 rfl rfl rfl rfl rfl (dU rfl) rfl rfl (fun h8 (i0:aN G a3 (box b4 60 (zC b.1 o p l m)::box a2 32 [zS b5 b8.length b6,zS c a.Meetings.length d,zS e a.Allowed.length g,zS j a.Hidden.length k]::bB 60 a3 b5 b6 b8::bB 93 K c d a.Meetings::bB 9 K e g a.Allowed::bB 9 K j k a.Hidden::box r 32 q::L) h8)=>(cC (bM (aB (aV (bG c3 (aA (cD rfl rfl) (aD (v:=i64 (wr (c0+1))) (aG ⟨_,(zI hm).symm,aU,a3,b5,b6,(zL (zL J c7) d0),rfl,(aN.arr 1 [] i0 rfl)⟩))))))))))))
  ·exact cA
theorem aKL {s_:cP} {R:(iY × Int)} (hm:aCJ s_=some R) (hs:aN G K (L) w) (x:cE K a1 c2 s_.Definitions) (y:cE K a4 c5 s_.Components) (z:cE K a7 c8 s_.Meetings) (J:cE K a10 c11 s_.Allowed) (V:cE K a13 c14 s_.Hidden):
  Calls prog 5 ([zA #[zS a1 s_.Definitions.length c2,zS a4 s_.Components.length c5,zS a7 s_.Meetings.length c8,zS a10 s_.Allowed.length c11,zS a13 s_.Hidden.length c14]]:List Value).toArray w (eR fun v w'=>∃ q Z a0 a2 a3 a5 a6 a8 a9,v=zT #[zA #[zS Z R.1.Parts.length a0,zS a2 R.1.Meetings.length a3,zS a5 R.1.Allowed.length a6,zS a8 R.1.Hidden.length a9],i64 R.2]/\Hp.le K q/\aN G q (bB 60 q Z a0 R.1.Parts::bB 93 K a2 a3 R.1.Meetings::bB 9 K a5 a6 R.1.Allowed::bB 9 K a8 a9 R.1.Hidden::L) w'):=by
 let l:=[zS none 0 0,zS none 0 0,zS none 0 0,zS none 0 0]
 let b0:=[zS a1 s_.Definitions.length c2,zS a4 s_.Components.length c5,zS a7 s_.Meetings.length c8,zS a10 s_.Allowed.length c11,zS a13 s_.Hidden.length c14]
 refine aQ func5 rfl (by kernel_rfl) (by show (1:Nat)<=17;decide) ?_;unfold aCJ at hm
 refine aL (dQ (v:=zA #[zS a1 s_.Definitions.length c2,zS a4 s_.Components.length c5,zS a7 s_.Meetings.length c8,zS a10 s_.Allowed.length c11,zS a13 s_.Hidden.length c14]) (vs:=b0) hs rfl rfl (fun r e4 b8=>(cR (vs:=l) zeroValue32 b8 rfl (fun p e5 b9=>(aD (v:=i64 0) (aG (aO (aL ?_))))))));obtain ⟨e6,n,c0,c1,c3⟩:=aN.lendBp b9 zt1
 obtain ⟨e7,c4,hm⟩:=aC hm
 refine aT (vs:=[eJ (some ⟨r,0,none⟩) 0]) call17 rfl (aPQ c4 c1 c0 (x.mono n) (y.mono n) (z.mono n) (J.mono n) (V.mono n)) ?_
 rintro _ c6 ⟨rfl,c7⟩
 have b1:=c3 _ _ c7
 refine aA (dA rfl) (aG ?_)
 rcases aH hm with ⟨t,hm⟩|⟨t,hm⟩
 ·refine aM t rfl (aL (aA (iA (vs:=[]) (cs:=l) aLo rfl (by kernel_rfl)) (cO (i:=1) (ns:=l) (us:=l) sizeOf32 b1 rfl rfl rfl rfl rfl (dU rfl) rfl rfl (fun c9 (d0:aN G K (box r 38 b0::box p 32 l::L) c9)=>(aD (v:=i64 1) (aG ?_))))))
  have d1:=aN.nil (α:=eP) d0 60 K
  have d2:=aN.nil (α:=bV) d1 93 K
  have d3:=aN.nil (α:=bK) d2 9 K
  have b2:=aN.nil (α:=bK) d3 9 K
  obtain rfl:=zI hm
  exact aX (aK (xK results5 (iN (vs:=l) rfl wB b2 (i:=5) rfl rfl rfl) (vS rfl rfl) ⟨K,none,0,none,0,none,0,none,0,rfl,(zR _),(aN.arr 6 [3,2,1,0] b2 rfl)⟩))
 ·refine aJ t rfl (aW (aB (aL ?_)));obtain ⟨d5,m,d6,u,_⟩:=aN.lendBp b1 .head
  replace u:aN G d5 (box p 32 l::L) c6:=u
  obtain ⟨a,d7,hm⟩:=aC hm
  refine aT (vs:=[eJ (some ⟨r,0,none⟩) 0]) call18 (lst1 (elp_b rfl)) (aPU d7 u d6 (x.mono m) (y.mono m) (z.mono m) (J.mono m) (V.mono m)) ?_
  rintro _ e8 ⟨o,b,c,d,e,g,h,j,k,rfl,d8,d9⟩
  refine aI (v:=zT #[zA #[zS b a.1.Parts.length c,zS d a.1.Meetings.length e,zS g a.1.Allowed.length h,zS j a.1.Hidden.length k],zB a.2]) (aA (dF rfl rfl) (aA (dF rfl rfl) (cR (vs:=l) zeroValue32 d9 rfl (fun b3 e9 e0=>(cO (i:=0) (ns:=[zS b a.1.Parts.length c,zS d a.1.Meetings.length e,zS g a.1.Allowed.length h,zS j a.1.Hidden.length k]) (us:=[zS b a.1.Parts.length c,zS d a.1.Meetings.length e,zS g a.1.Allowed.length h,zS j a.1.Hidden.length k]) sizeOf32 e0 rfl rfl rfl rfl rfl (dU rfl) rfl rfl (fun e1 (b4:aN G o (box b3 32 [zS b a.1.Parts.length c,zS d a.1.Meetings.length e,zS g a.1.Allowed.length h,zS j a.1.Hidden.length k]::bB 60 o b c a.1.Parts::bB 93 K d e a.1.Meetings::bB 9 K g h a.1.Allowed::bB 9 K j k a.1.Hidden::box p 32 l::L) e1)=>(aD (v:=zB a.2) (aG (aO (aL (aI (v:=zB a.2) (aA (dA rfl) (aG ?_)))))))))))))
  rcases aH hm with ⟨b5,hm⟩|⟨b5,hm⟩
  ·exact cA
  ·refine aJ b5 rfl (aW (aB (aL (aA (eH (us:=[zS b a.1.Parts.length c,zS d a.1.Meetings.length e,zS g a.1.Allowed.length h,zS j a.1.Hidden.length k]) wB b4 (i:=0) rfl rfl rfl rfl) (cO (i:=5) (ns:=[zS b a.1.Parts.length c,zS d a.1.Meetings.length e,zS g a.1.Allowed.length h,zS j a.1.Hidden.length k]) (us:=[zS b a.1.Parts.length c,zS d a.1.Meetings.length e,zS g a.1.Allowed.length h,zS j a.1.Hidden.length k]) sizeOf32 b4 rfl rfl rfl rfl rfl (dU rfl) rfl rfl (fun e2 (b6:aN G o (box b3 32 [zS b a.1.Parts.length c,zS d a.1.Meetings.length e,zS g a.1.Allowed.length h,zS j a.1.Hidden.length k]::bB 60 o b c a.1.Parts::bB 93 K d e a.1.Meetings::bB 9 K g h a.1.Allowed::bB 9 K j k a.1.Hidden::box p 32 [zS b a.1.Parts.length c,zS d a.1.Meetings.length e,zS g a.1.Allowed.length h,zS j a.1.Hidden.length k]::L) e2)=>(aD (v:=i64 0) (aG ?_))))))))
   obtain rfl:=zI hm
   exact aX (xK results5 (iN (vs:=[zS b a.1.Parts.length c,zS d a.1.Meetings.length e,zS g a.1.Allowed.length h,zS j a.1.Hidden.length k]) rfl wB b6 (i:=5) rfl rfl rfl) (vS rfl rfl) ⟨o,b,c,d,e,g,h,j,k,rfl,(zL m d8),(aN.arr 6 [1,2,3,4] b6 rfl)⟩)
theorem aNZ {a R:bP} (hm:aJO a=some R) (b:aN G K (L) w):
  Calls prog 245 ([zA #[i64 a.Kind,i64 a.Value]]:List Value).toArray w (eR fun v w'=>v=zA #[i64 R.Kind,i64 R.Value]/\aN G K (L) w'):=by
 exact cA
theorem aNe {a R:(List bP)} (hm:aIj a=some R) (Z:aN G K (L) w) (p:cE K a1 c2 a):
  Calls prog 193 ([zS a1 a.length c2]:List Value).toArray w (eR fun v w'=>∃ q r,v=zS q R.length r/\aN G K (bB 242 K q r R::L) w'):=by
 refine aQ func193 rfl (by kernel_rfl) (by show (1:Nat)<=23;decide) ?_;unfold aIj at hm
 refine aL (aD (v:=zS none 0 0) (aG (aL (aI (v:=zS a1 a.length c2) (aA (bQ (len:=a.length) aPI rfl) ?_)))));obtain ⟨b,q5,hm⟩:=aC hm
 refine aMA (e:=(⟨0,0⟩:bP)) lE ez_242 rfl rfl Z rfl rfl rfl q5 rfl (fun c w7 (b2:aN G K (bB 242 K c b.length b::L) w7)=>(aD (v:=zS c b.length b.length) (aG (aO (aL (aD (v:=i64 0) (aG (bR [] (fun f w=>∃ k,aDu k=some R/\f 3=zS c k.length b.length/\aN G K (bB 242 K c b.length k::L) w) cA ?_))))))));obtain ⟨b3,a3,ho⟩:=aC hm
 refine dN [0] a3 (fun l m f w=>f 3=zS c l.length b.length/\f 4=i64 m/\aN G K (bB 242 K c b.length l::L) w) cA ?_
 ·rintro l m b4 f b5 hm hr ⟨u,d,x⟩
  unfold aAH at hm
  refine aO (aL (bG d (aI (v:=zS a1 a.length c2) (aA (bQ (len:=a.length) aPI rfl) (aA (cM rfl rfl) (aG ?_))))))
  rcases aH hm with ⟨y,hm⟩|⟨y,hm⟩
  ·refine aM y rfl (aW (aB (aO (bZ (aV (bG u (bG d (aI (v:=zS a1 a.length c2) (bG d ?_)))))))));obtain ⟨g,z,hm⟩:=aC hm
   refine aA (cQ aPI rfl p rfl rfl rfl z) ?_;obtain ⟨b6,a4,a5⟩:=cE.el (sz:=2) rfl p z
   cases a5
   refine aA (eK (t:=0) (vs:=[i64 g.Kind,i64 g.Value]) ag_303 x a4 rfl rfl rfl) ?_;obtain ⟨j,a7,hm⟩:=aC hm
   refine aT (vs:=[zA #[i64 g.Kind,i64 g.Value]]) call245 rfl (aNZ a7 x) ?_
   rintro _ b7 ⟨rfl,J⟩
   obtain ⟨b8,o,hm⟩:=aC hm
   have a8:=fC J (i:=0) rfl o
   refine aA (gE lE rfl a8 rfl rfl rfl o) ?_;obtain ⟨a9,V,hm⟩:=aC hm
   exact mU (i:=0) (t:=0) (ns:=[i64 j.Kind,i64 j.Value]) (e':=(⟨j.Kind,j.Value⟩:bP)) sizeOf242 J rfl (zR _) rfl rfl rfl o V rfl rfl (dU rfl) rfl (fun cs h=>by cases h;rfl) (fun b0 (b1:aN G K (bB 242 K c b.length a9::L) b0)=>(cC (bM (aB (aV (bG d (aA (cD rfl rfl) (aD (v:=i64 (wr (m+1))) (aG ⟨_,(zI hm).symm,aU,(Eq.trans u (congrArg (fun n=>zS c n b.length) (cH V))),rfl,b1⟩)))))))))
  ·exact cA
theorem aLP {a R:(List (List bP))} (hm:aGw a=some R) (hs:aN G K (L) w) (r:cE K a1 c2 a):
  Calls prog 158 ([zS a1 a.length c2]:List Value).toArray w (eR fun v w'=>∃ u x o,v=zS u R.length x/\List.length o=List.length R/\aN G K (bB 203 K u x (bT o R)::rows [242] o R::L) w'):=by
 refine aQ func158 rfl (by kernel_rfl) (by show (1:Nat)<=23;decide) ?_;unfold aGw at hm
 refine aL (aD (v:=zS none 0 0) (aG (aL (aI (v:=zS a1 a.length c2) (aA (bQ (len:=a.length) aKB rfl) ?_)))));obtain ⟨b,y,hm⟩:=aC hm
 refine aPD (tys:=[242]) (hd:=((none,0):Dp.Hd (List bP))) jR aPJ rfl rfl hs rfl rfl rfl y rfl (pcs_nil _) ?_
 intro c w7 (a7:aN G K (bB 203 K c b.length (bT (List.replicate (a.length:Int).toNat ((none,0):Dp.Hd (List bP))) b)::rows [242] (List.replicate (a.length:Int).toNat ((none,0):Dp.Hd (List bP))) b::L) w7)
 refine aD (v:=zS c b.length b.length) (aG (aO (aL (aD (v:=i64 0) (aG (bR [] (fun f w=>∃ e p,aCa e=some R/\f 3=zS c e.length b.length/\List.length p=List.length e/\aN G K (bB 203 K c b.length (bT p e)::rows [242] p e::L) w) cA ?_))))));obtain ⟨c0,a8,ho⟩:=aC hm
 refine dN [0] a8 (fun g i32 f w=>∃ d,f 3=zS c g.length b.length/\f 4=i64 i32/\List.length d=List.length g/\aN G K (bB 203 K c b.length (bT d g)::rows [242] d g::L) w) ?_ ?_
 ·exact ⟨(List.replicate (a.length:Int).toNat ((none,0):Dp.Hd (List bP))),rfl,rfl,(aFv (hd:=((none,0):Dp.Hd (List bP))) y).2.1,a7⟩
 ·rintro g i32 c1 f c3 hm hr ⟨d,z,k,l,J⟩
  unfold wP at hm
  refine aO (aL (bG k (aI (v:=zS a1 a.length c2) (aA (bQ (len:=a.length) aKB rfl) (aA (cM rfl rfl) (aG ?_))))))
  rcases aH hm with ⟨V,hm⟩|⟨V,hm⟩
  ·refine aM V rfl (aW (aB (aO (bZ (aV (bG z (bG k (aI (v:=zS a1 a.length c2) (bG k ?_)))))))));obtain ⟨a9,Z,hm⟩:=aC hm
   refine aA (cQ aKB rfl r rfl rfl rfl Z) ?_;obtain ⟨c4,b0,b1⟩:=cE.el (sz:=1) rfl r Z
   obtain ⟨b2,b3,rfl,b4⟩:=b1
   refine aA (bX (t:=0) sc_244 J b0 rfl rfl) ?_;obtain ⟨b5,b6,hm⟩:=aC hm
   refine aT (vs:=[zS b2 a9.length b3]) call193 rfl (aNe b6 J b4) ?_
   rintro _ c5 ⟨h,j,rfl,a0⟩
   obtain ⟨c6,m,hm⟩:=aC hm
   obtain ⟨⟨c7,c8⟩,a2⟩:=aGk l m
   have b7:=fC a0 (i:=1) rfl (lT l m a2)
   refine aA (gE jR rfl b7 rfl rfl rfl m) ?_;obtain ⟨a3,q,hm⟩:=aC hm
   refine aPE (i:=0) (tys:=[242]) (hd':=(h,j)) (e':=b5) (hds:=d) sizeOf203 a0 l rfl rfl rfl rfl rfl m a2 q rfl ?_
   intro b8 (b9:aN G K (bB 203 K c b.length (bT (List.set d i32.toNat (h,j)) a3)::rows [242] (List.set d i32.toNat (h,j)) a3::L) b8)
   exact cC (bM (aB (aV (bG k (aA (cD rfl rfl) (aD (v:=i64 (wr (i32+1))) (aG ⟨_,(zI hm).symm,aU,(List.set d i32.toNat (h,j)),(Eq.trans z (congrArg (fun n=>zS c n b.length) (cH q))),rfl,(aMl (hd:=((h,j):Dp.Hd (List bP))) l q),b9⟩)))))))
  ·exact cA
theorem aOa {a R:Part} (hm:aJP a=some R) (e:aN G K (L) w) (g:cE K a1 c2 a.Arguments):
  Calls prog 115 ([zA #[i64 a.Kind,i64 a.Number,str a.Name,zS a1 a.Arguments.length c2]]:List Value).toArray w (eR fun v w'=>∃ c d b,v=zA #[i64 R.Kind,i64 R.Number,str R.Name,zS c R.Arguments.length d]/\List.length b=List.length R.Arguments/\aN G K (bB 203 K c d (bT b R.Arguments)::rows [242] b R.Arguments::L) w'):=by
 exact cA
theorem aNf {a R:(List Part)} (hm:aIk a=some R) (hs:aN G K (L) w) (y:cE K a1 c2 a):
  Calls prog 78 ([zS a1 a.length c2]:List Value).toArray w (eR fun v w'=>∃ z J r,v=zS z R.length J/\List.length r=List.length R/\aN G K (bB 162 K z J (bT r R)::rows [203,242] r R::L) w'):=by
 refine aQ func78 rfl (by kernel_rfl) (by show (1:Nat)<=23;decide) ?_;unfold aIk at hm
 refine aL (aD (v:=zS none 0 0) (aG (aL (aI (v:=zS a1 a.length c2) (aA (bQ (len:=a.length) aOQ rfl) ?_)))));obtain ⟨b,V,hm⟩:=aC hm
 refine aPD (tys:=[203,242]) (hd:=(((none,0),[]):Dp.Hd Part)) jV aPK rfl rfl hs rfl rfl rfl V rfl (aPH _) ?_
 intro d w7 (b3:aN G K (bB 162 K d b.length (bT (List.replicate (a.length:Int).toNat (((none,0),[]):Dp.Hd Part)) b)::rows [203,242] (List.replicate (a.length:Int).toNat (((none,0),[]):Dp.Hd Part)) b::L) w7)
 refine aD (v:=zS d b.length b.length) (aG (aO (aL (aD (v:=i64 0) (aG (bR [] (fun f w=>∃ l u,aDv l=some R/\f 3=zS d l.length b.length/\List.length u=List.length l/\aN G K (bB 162 K d b.length (bT u l)::rows [203,242] u l::L) w) cA ?_))))));obtain ⟨c6,b4,ho⟩:=aC hm
 refine dN [0] b4 (fun e i32 f w=>∃ c,f 3=zS d e.length b.length/\f 4=i64 i32/\List.length c=List.length e/\aN G K (bB 162 K d b.length (bT c e)::rows [203,242] c e::L) w) ?_ ?_
 ·exact ⟨(List.replicate (a.length:Int).toNat (((none,0),[]):Dp.Hd Part)),rfl,rfl,(aFv (hd:=(((none,0),[]):Dp.Hd Part)) V).2.1,b3⟩
 ·rintro e i32 c7 f c8 hm hr ⟨c,Z,o,p,a0⟩
  unfold aAI at hm
  refine aO (aL (bG o (aI (v:=zS a1 a.length c2) (aA (bQ (len:=a.length) aOQ rfl) (aA (cM rfl rfl) (aG ?_))))))
  rcases aH hm with ⟨a2,hm⟩|⟨a2,hm⟩
  ·refine aM a2 rfl (aW (aB (aO (bZ (aV (bG Z (bG o (aI (v:=zS a1 a.length c2) (bG o ?_)))))))));obtain ⟨h,a3,hm⟩:=aC hm
   refine aA (cQ aOQ rfl y rfl rfl rfl a3) ?_;obtain ⟨c9,b5,b6⟩:=cE.el (sz:=4) rfl y a3
   obtain ⟨a4,a5,rfl,b7⟩:=b6
   refine aA (eK (t:=0) (vs:=[i64 h.Kind,i64 h.Number,str h.Name,zS a4 h.Arguments.length a5]) ag_167 a0 b5 rfl rfl rfl) ?_;obtain ⟨m,b8,hm⟩:=aC hm
   refine aT (vs:=[zA #[i64 h.Kind,i64 h.Number,str h.Name,zS a4 h.Arguments.length a5]]) call115 rfl (aOa b8 a0 b7) ?_
   rintro _ a7 ⟨j,k,g,rfl,b9,a8⟩
   obtain ⟨d0,q,hm⟩:=aC hm
   obtain ⟨⟨⟨d1,d2⟩,d3⟩,a9⟩:=aGk p q
   have c0:=fC a8 (i:=2) rfl (lT p q a9)
   refine aA (gE jV rfl c0 rfl rfl rfl q) ?_
   have c1:aN G K (bB 203 K j k (bT g m.Arguments)::rows [242] g m.Arguments::bB 162 K d b.length (bT c e)::rows [203,242] c e::L) a7:=a8
   have c3:aN G K (bB 203 K j k (bT g m.Arguments)::aGQ [242] g m.Arguments::bB 162 K d b.length (bT c e)::rows [203,242] c e::L) a7:=aN.closeL (i:=1) c1 rfl b9
   obtain ⟨b0,x,hm⟩:=aC hm
   refine aPE (i:=0) (tys:=[203,242]) (hd':=(((j,k),g):Dp.Hd Part)) (e':=(m:Part)) (hds:=c) sizeOf162 c3 p rfl rfl rfl rfl rfl q a9 x rfl ?_
   intro c4 (c5:aN G K (bB 162 K d b.length (bT (List.set c i32.toNat ((j,k),g)) b0)::rows [203,242] (List.set c i32.toNat ((j,k),g)) b0::L) c4)
   exact cC (bM (aB (aV (bG o (aA (cD rfl rfl) (aD (v:=i64 (wr (i32+1))) (aG ⟨_,(zI hm).symm,aU,(List.set c i32.toNat ((j,k),g)),(Eq.trans Z (congrArg (fun n=>zS d n b.length) (cH x))),rfl,(aMl (hd:=(((j,k),g):Dp.Hd Part)) p x),c5⟩)))))))
  ·exact cA
theorem aIC {a R:Definition} (hm:aAJ a=some R) (e:aN G K (L) w) (g:cE K a1 c2 a.Body):
  Calls prog 45 ([zA #[str a.Name,i64 a.Parameters,zS a1 a.Body.length c2]]:List Value).toArray w (eR fun v w'=>∃ c d b,v=zA #[str R.Name,i64 R.Parameters,zS c R.Body.length d]/\List.length b=List.length R.Body/\aN G K (bB 162 K c d (bT b R.Body)::rows [203,242] b R.Body::L) w'):=by
 exact cA
theorem aHT {a R:(List Definition)} (hm:xT a=some R) (hs:aN G K (L) w) (y:cE K a1 c2 a):
  Calls prog 19 ([zS a1 a.length c2]:List Value).toArray w (eR fun v w'=>∃ z J r,v=zS z R.length J/\List.length r=List.length R/\aN G K (bB 89 K z J (bT r R)::rows [162,203,242] r R::L) w'):=by
 refine aQ func19 rfl (by kernel_rfl) (by show (1:Nat)<=23;decide) ?_;unfold xT at hm
 refine aL (aD (v:=zS none 0 0) (aG (aL (aI (v:=zS a1 a.length c2) (aA (bQ (len:=a.length) aOR rfl) ?_)))));obtain ⟨b,V,hm⟩:=aC hm
 refine aPD (tys:=[162,203,242]) (hd:=(((none,0),[]):Dp.Hd Definition)) iW ez_89 rfl rfl hs rfl rfl rfl V rfl (aJd _) ?_
 intro d w7 (b3:aN G K (bB 89 K d b.length (bT (List.replicate (a.length:Int).toNat (((none,0),[]):Dp.Hd Definition)) b)::rows [162,203,242] (List.replicate (a.length:Int).toNat (((none,0),[]):Dp.Hd Definition)) b::L) w7)
 refine aD (v:=zS d b.length b.length) (aG (aO (aL (aD (v:=i64 0) (aG (bR [] (fun f w=>∃ l u,rJ l=some R/\f 3=zS d l.length b.length/\List.length u=List.length l/\aN G K (bB 89 K d b.length (bT u l)::rows [162,203,242] u l::L) w) cA ?_))))));obtain ⟨c6,b4,ho⟩:=aC hm
 refine dN [0] b4 (fun e i32 f w=>∃ c,f 3=zS d e.length b.length/\f 4=i64 i32/\List.length c=List.length e/\aN G K (bB 89 K d b.length (bT c e)::rows [162,203,242] c e::L) w) ?_ ?_
 ·exact ⟨(List.replicate (a.length:Int).toNat (((none,0),[]):Dp.Hd Definition)),rfl,rfl,(aFv (hd:=(((none,0),[]):Dp.Hd Definition)) V).2.1,b3⟩
 ·rintro e i32 c7 f c8 hm hr ⟨c,Z,o,p,a0⟩
  unfold nM at hm
  refine aO (aL (bG o (aI (v:=zS a1 a.length c2) (aA (bQ (len:=a.length) aOR rfl) (aA (cM rfl rfl) (aG ?_))))))
  rcases aH hm with ⟨a2,hm⟩|⟨a2,hm⟩
  ·refine aM a2 rfl (aW (aB (aO (bZ (aV (bG Z (bG o (aI (v:=zS a1 a.length c2) (bG o ?_)))))))));obtain ⟨k,a3,hm⟩:=aC hm
   refine aA (cQ aOR rfl y rfl rfl rfl a3) ?_;obtain ⟨c9,b5,b6⟩:=cE.el (sz:=3) rfl y a3
   obtain ⟨a4,a5,rfl,b7⟩:=b6
   refine aA (eK (t:=0) (vs:=[str k.Name,i64 k.Parameters,zS a4 k.Body.length a5]) ag_76 a0 b5 rfl rfl rfl) ?_;obtain ⟨m,b8,hm⟩:=aC hm
   refine aT (vs:=[zA #[str k.Name,i64 k.Parameters,zS a4 k.Body.length a5]]) call45 rfl (aIC b8 a0 b7) ?_
   rintro _ a7 ⟨h,j,g,rfl,b9,a8⟩
   obtain ⟨d0,q,hm⟩:=aC hm
   obtain ⟨⟨⟨d1,d2⟩,d3⟩,a9⟩:=aGk p q
   have c0:=fC a8 (i:=2) rfl (lT p q a9)
   refine aA (gE iW rfl c0 rfl rfl rfl q) ?_
   have c1:aN G K (bB 162 K h j (bT g m.Body)::rows [203,242] g m.Body::bB 89 K d b.length (bT c e)::rows [162,203,242] c e::L) a7:=a8
   have c3:aN G K (bB 162 K h j (bT g m.Body)::aGQ [203,242] g m.Body::bB 89 K d b.length (bT c e)::rows [162,203,242] c e::L) a7:=aN.closeL (i:=1) c1 rfl b9
   obtain ⟨b0,x,hm⟩:=aC hm
   refine aPE (i:=0) (tys:=[162,203,242]) (hd':=(((h,j),g):Dp.Hd Definition)) (e':=(m:Definition)) (hds:=c) sizeOf89 c3 p rfl rfl rfl rfl rfl q a9 x rfl ?_
   intro c4 (c5:aN G K (bB 89 K d b.length (bT (List.set c i32.toNat ((h,j),g)) b0)::rows [162,203,242] (List.set c i32.toNat ((h,j),g)) b0::L) c4)
   exact cC (bM (aB (aV (bG o (aA (cD rfl rfl) (aD (v:=i64 (wr (i32+1))) (aG ⟨_,(zI hm).symm,aU,(List.set c i32.toNat ((h,j),g)),(Eq.trans Z (congrArg (fun n=>zS d n b.length) (cH x))),rfl,(aMl (hd:=(((h,j),g):Dp.Hd Definition)) p x),c5⟩)))))))
  ·exact cA
theorem aLQ {a R:(List Int)} (hm:aGx a=some R) (J:aN G K (L) w) (o:cE K a1 c2 a):
  Calls prog 79 ([zS a1 a.length c2]:List Value).toArray w (eR fun v w'=>∃ p q,v=zS p R.length q/\aN G K (bB 2 K p q R::L) w'):=by
 refine aQ func79 rfl (by kernel_rfl) (by show (1:Nat)<=22;decide) ?_;unfold aGx at hm
 refine aL (aD (v:=zS none 0 0) (aG (aL (aI (v:=zS a1 a.length c2) (aA (bQ (len:=a.length) gF rfl) ?_)))));obtain ⟨b,V,hm⟩:=aC hm
 refine aMA (e:=(0:Int)) gF aFx rfl rfl J rfl rfl rfl V rfl (fun c Z (a9:aN G K (bB 2 K c b.length b::L) Z)=>(aD (v:=zS c b.length b.length) (aG (aO (aL (aD (v:=i64 0) (aG (bR [] (fun f w=>∃ g,aCb g=some R/\f 3=zS c g.length b.length/\aN G K (bB 2 K c b.length g::L) w) cA ?_))))))));obtain ⟨b0,a0,ho⟩:=aC hm
 refine dN [0] a0 (fun j k f w=>f 3=zS c j.length b.length/\f 4=i64 k/\aN G K (bB 2 K c b.length j::L) w) cA ?_
 ·rintro j k b1 f b2 hm hr ⟨r,d,l⟩
  unfold wQ at hm
  refine aO (aL (bG d (aI (v:=zS a1 a.length c2) (aA (bQ (len:=a.length) gF rfl) (aA (cM rfl rfl) (aG ?_))))))
  rcases aH hm with ⟨u,hm⟩|⟨u,hm⟩
  ·refine aM u rfl (aW (aB (aO (bZ (aV (bG r (bG d (aI (v:=zS a1 a.length c2) (bG d ?_)))))))));obtain ⟨x,y,hm⟩:=aC hm
   refine aA (cQ gF rfl o rfl rfl rfl y) ?_;obtain ⟨b3,a2,a3⟩:=cE.el (sz:=1) rfl o y
   cases a3
   refine aA (bX (t:=0) dC l a2 rfl rfl) ?_;obtain ⟨b4,m,hm⟩:=aC hm
   have a4:=fC l (i:=0) rfl m
   refine aA (gE gF rfl a4 rfl rfl rfl m) ?_;obtain ⟨a5,z,hm⟩:=aC hm
   exact mU (i:=0) (t:=0) (ns:=[i64 x]) (e':=(x:Int)) sizeOf2 l rfl (zR _) rfl rfl rfl m z rfl rfl (dU rfl) rfl (fun cs h=>by cases h;rfl) (fun a7 (a8:aN G K (bB 2 K c b.length a5::L) a7)=>(cC (bM (aB (aV (bG d (aA (cD rfl rfl) (aD (v:=i64 (wr (k+1))) (aG ⟨_,(zI hm).symm,aU,(Eq.trans r (congrArg (fun n=>zS c n b.length) (cH z))),rfl,a8⟩)))))))))
  ·exact cA
theorem aJj {a R:bL} (hm:aCc a=some R) (d:aN G K (L) w) (e:cE K a1 c2 a.Values):
  Calls prog 46 ([zA #[i64 a.Definition,zS a1 a.Values.length c2]]:List Value).toArray w (eR fun v w'=>∃ b c,v=zA #[i64 R.Definition,zS b R.Values.length c]/\aN G K (bB 2 K b c R.Values::L) w'):=by
 exact cA
end Gv
namespace Gv
open Gv.Hp renaming le_refl→zR
open Go.Value renaming slice→zS,bool→zB,pointer→zP,agg→zA
open Go Go.Proofs Go.Proofs.Tryz
set_option maxRecDepth 20000
set_option maxHeartbeats 40000000
variable {G:pJ} {K:Hp} {L:List hQ} {w:World} {a1 a4 a7 a10 a13 a2 a16:Option Addr} {c2 c5 c8 c11 c14 b1 c3 c17:Nat}
theorem aID {a R:(List bL)} (hm:aAK a=some R) (hs:aN G K (L) w) (u:cE K a1 c2 a):
  Calls prog 20 ([zS a1 a.length c2]:List Value).toArray w (eR fun v w'=>∃ x y p,v=zS x R.length y/\List.length p=List.length R/\aN G K (bB 91 K x y (bT p R)::rows [2] p R::L) w'):=by
 refine aQ func20 rfl (by kernel_rfl) (by show (1:Nat)<=23;decide) ?_;unfold aAK at hm
 refine aL (aD (v:=zS none 0 0) (aG (aL (aI (v:=zS a1 a.length c2) (aA (bQ (len:=a.length) aOS rfl) ?_)))));obtain ⟨b,z,hm⟩:=aC hm
 refine aPD (tys:=[2]) (hd:=((none,0):Dp.Hd bL)) oJ ez_91 rfl rfl hs rfl rfl rfl z rfl (aJF _) ?_
 intro d w7 (b1:aN G K (bB 91 K d b.length (bT (List.replicate (a.length:Int).toNat ((none,0):Dp.Hd bL)) b)::rows [2] (List.replicate (a.length:Int).toNat ((none,0):Dp.Hd bL)) b::L) w7)
 refine aD (v:=zS d b.length b.length) (aG (aO (aL (aD (v:=i64 0) (aG (bR [] (fun f w=>∃ j q,sX j=some R/\f 3=zS d j.length b.length/\List.length q=List.length j/\aN G K (bB 91 K d b.length (bT q j)::rows [2] q j::L) w) cA ?_))))));obtain ⟨c3,b2,ho⟩:=aC hm
 refine dN [0] b2 (fun e i32 f w=>∃ c,f 3=zS d e.length b.length/\f 4=i64 i32/\List.length c=List.length e/\aN G K (bB 91 K d b.length (bT c e)::rows [2] c e::L) w) ?_ ?_
 ·exact ⟨(List.replicate (a.length:Int).toNat ((none,0):Dp.Hd bL)),rfl,rfl,(aFv (hd:=((none,0):Dp.Hd bL)) z).2.1,b1⟩
 ·rintro e i32 c4 f c5 hm hr ⟨c,J,k,l,V⟩
  unfold oP at hm
  refine aO (aL (bG k (aI (v:=zS a1 a.length c2) (aA (bQ (len:=a.length) aOS rfl) (aA (cM rfl rfl) (aG ?_))))))
  rcases aH hm with ⟨Z,hm⟩|⟨Z,hm⟩
  ·refine aM Z rfl (aW (aB (aO (bZ (aV (bG J (bG k (aI (v:=zS a1 a.length c2) (bG k ?_)))))))));obtain ⟨m,a0,hm⟩:=aC hm
   refine aA (cQ aOS rfl u rfl rfl rfl a0) ?_;obtain ⟨c6,b3,b4⟩:=cE.el (sz:=2) rfl u a0
   obtain ⟨a2,a3,rfl,b5⟩:=b4
   refine aA (eK (t:=0) (vs:=[i64 m.Definition,zS a2 m.Values.length a3]) ag_80 V b3 rfl rfl rfl) ?_;obtain ⟨a4,b6,hm⟩:=aC hm
   refine aT (vs:=[zA #[i64 m.Definition,zS a2 m.Values.length a3]]) call46 rfl (aJj b6 V b5) ?_
   rintro _ b7 ⟨g,h,rfl,a5⟩
   obtain ⟨c7,o,hm⟩:=aC hm
   obtain ⟨⟨c8,c9⟩,a7⟩:=aGk l o
   have b8:=fC a5 (i:=1) rfl (lT l o a7)
   refine aA (gE oJ rfl b8 rfl rfl rfl o) ?_
   have b9:aN G K (bB 2 K g h a4.Values::bB 91 K d b.length (bT c e)::rows [2] c e::L) b7:=a5
   obtain ⟨a8,r,hm⟩:=aC hm
   refine aPE (i:=0) (tys:=[2]) (hd':=((g,h):Dp.Hd bL)) (e':=(a4:bL)) (hds:=c) sizeOf91 b9 l rfl rfl rfl rfl rfl o a7 r rfl ?_
   intro c0 (c1:aN G K (bB 91 K d b.length (bT (List.set c i32.toNat (g,h)) a8)::rows [2] (List.set c i32.toNat (g,h)) a8::L) c0)
   exact cC (bM (aB (aV (bG k (aA (cD rfl rfl) (aD (v:=i64 (wr (i32+1))) (aG ⟨_,(Option.some.inj hm).symm,aU,(List.set c i32.toNat (g,h)),(Eq.trans J (congrArg (fun n=>zS d n b.length) (cH r))),rfl,(aMl (hd:=((g,h):Dp.Hd bL)) l r),c1⟩)))))))
  ·exact cA
theorem aKM {a R:bV} (hm:aFd a=some R) (b:aN G K (L) w):
  Calls prog 47 ([zA #[str a.Left,str a.Right,str a.Result]]:List Value).toArray w (eR fun v w'=>v=zA #[str R.Left,str R.Right,str R.Result]/\aN G K (L) w'):=by
 exact cA
theorem aJV {a R:(List bV)} (hm:aDw a=some R) (Z:aN G K (L) w) (p:cE K a1 c2 a):
  Calls prog 21 ([zS a1 a.length c2]:List Value).toArray w (eR fun v w'=>∃ q r,v=zS q R.length r/\aN G K (bB 93 K q r R::L) w'):=by
 refine aQ func21 rfl (by kernel_rfl) (by show (1:Nat)<=23;decide) ?_;unfold aDw at hm
 refine aL (aD (v:=zS none 0 0) (aG (aL (aI (v:=zS a1 a.length c2) (aA (bQ (len:=a.length) aOT rfl) ?_)))));obtain ⟨b,q5,hm⟩:=aC hm
 refine aMA (e:=(⟨[],[],[]⟩:bV)) lV aRU rfl rfl Z rfl rfl rfl q5 rfl (fun c w7 (b2:aN G K (bB 93 K c b.length b::L) w7)=>(aD (v:=zS c b.length b.length) (aG (aO (aL (aD (v:=i64 0) (aG (bR [] (fun f w=>∃ k,xU k=some R/\f 3=zS c k.length b.length/\aN G K (bB 93 K c b.length k::L) w) cA ?_))))))));obtain ⟨b3,a3,ho⟩:=aC hm
 refine dN [0] a3 (fun l m f w=>f 3=zS c l.length b.length/\f 4=i64 m/\aN G K (bB 93 K c b.length l::L) w) cA ?_
 ·rintro l m b4 f b5 hm hr ⟨u,j,x⟩
  unfold rX at hm
  refine aO (aL (bG j (aI (v:=zS a1 a.length c2) (aA (bQ (len:=a.length) aOT rfl) (aA (cM rfl rfl) (aG ?_))))))
  rcases aH hm with ⟨y,hm⟩|⟨y,hm⟩
  ·refine aM y rfl (aW (aB (aO (bZ (aV (bG u (bG j (aI (v:=zS a1 a.length c2) (bG j ?_)))))))));obtain ⟨d,z,hm⟩:=aC hm
   refine aA (cQ aOT rfl p rfl rfl rfl z) ?_;obtain ⟨b6,a4,a5⟩:=cE.el (sz:=3) rfl p z
   cases a5
   refine aA (eK (t:=0) (vs:=[str d.Left,str d.Right,str d.Result]) ag_83 x a4 rfl rfl rfl) ?_;obtain ⟨g,a7,hm⟩:=aC hm
   refine aT (vs:=[zA #[str d.Left,str d.Right,str d.Result]]) call47 rfl (aKM a7 x) ?_
   rintro _ b7 ⟨rfl,J⟩
   obtain ⟨b8,o,hm⟩:=aC hm
   have a8:=fC J (i:=0) rfl o
   refine aA (gE lV rfl a8 rfl rfl rfl o) ?_;obtain ⟨a9,V,hm⟩:=aC hm
   exact mU (i:=0) (t:=0) (ns:=[str g.Left,str g.Right,str g.Result]) (e':=(⟨g.Left,g.Right,g.Result⟩:bV)) sizeOf93 J rfl (Hp.le_refl _) rfl rfl rfl o V rfl rfl (dU rfl) rfl (fun cs h=>by cases h;rfl) (fun b0 (b1:aN G K (bB 93 K c b.length a9::L) b0)=>(cC (bM (aB (aV (bG j (aA (cD rfl rfl) (aD (v:=i64 (wr (m+1))) (aG ⟨_,(Option.some.inj hm).symm,aU,(Eq.trans u (congrArg (fun n=>zS c n b.length) (cH V))),rfl,b1⟩)))))))))
  ·exact cA
theorem aFS {a R:(List bK)} (hm:zO a=some R) (J:aN G K (L) w) (o:cE K a1 c2 a):
  Calls prog 22 ([zS a1 a.length c2]:List Value).toArray w (eR fun v w'=>∃ p q,v=zS p R.length q/\aN G K (bB 9 K p q R::L) w'):=by
 refine aQ func22 rfl (by kernel_rfl) (by show (1:Nat)<=22;decide) ?_;unfold zO at hm
 refine aL (aD (v:=zS none 0 0) (aG (aL (aI (v:=zS a1 a.length c2) (aA (bQ (len:=a.length) dL rfl) ?_)))));obtain ⟨b,V,hm⟩:=aC hm
 refine aMA (e:=([]:bK)) dL aCp rfl rfl J rfl rfl rfl V rfl (fun c Z (a9:aN G K (bB 9 K c b.length b::L) Z)=>(aD (v:=zS c b.length b.length) (aG (aO (aL (aD (v:=i64 0) (aG (bR [] (fun f w=>∃ g,aAL g=some R/\f 3=zS c g.length b.length/\aN G K (bB 9 K c b.length g::L) w) cA ?_))))))));obtain ⟨b0,a0,ho⟩:=aC hm
 refine dN [0] a0 (fun j k f w=>f 3=zS c j.length b.length/\f 4=i64 k/\aN G K (bB 9 K c b.length j::L) w) cA ?_
 ·rintro j k b1 f b2 hm hr ⟨r,d,l⟩
  unfold aAM at hm
  refine aO (aL (bG d (aI (v:=zS a1 a.length c2) (aA (bQ (len:=a.length) dL rfl) (aA (cM rfl rfl) (aG ?_))))))
  rcases aH hm with ⟨u,hm⟩|⟨u,hm⟩
  ·refine aM u rfl (aW (aB (aO (bZ (aV (bG r (bG d (aI (v:=zS a1 a.length c2) (bG d ?_)))))))));obtain ⟨x,y,hm⟩:=aC hm
   refine aA (cQ dL rfl o rfl rfl rfl y) ?_;obtain ⟨b3,a2,a3⟩:=cE.el (sz:=1) rfl o y
   cases a3
   refine aA (bX (t:=0) fF l a2 rfl rfl) ?_;obtain ⟨b4,m,hm⟩:=aC hm
   have a4:=fC l (i:=0) rfl m
   refine aA (gE dL rfl a4 rfl rfl rfl m) ?_;obtain ⟨a5,z,hm⟩:=aC hm
   exact mU (i:=0) (t:=0) (ns:=[str x]) (e':=(x:bK)) sizeOf9 l rfl (Hp.le_refl _) rfl rfl rfl m z rfl rfl (dU rfl) rfl (fun cs h=>by cases h;rfl) (fun a7 (a8:aN G K (bB 9 K c b.length a5::L) a7)=>(cC (bM (aB (aV (bG d (aA (cD rfl rfl) (aD (v:=i64 (wr (k+1))) (aG ⟨_,(Option.some.inj hm).symm,aU,(Eq.trans r (congrArg (fun n=>zS c n b.length) (cH z))),rfl,a8⟩)))))))))
  ·exact cA
theorem yE {a R:cP} (hm:rK a=some R) (hs:aN G K (L) w) (h3:cE K a1 c2 a.Definitions) (h6:cE K a4 c5 a.Components) (h9:cE K a7 c8 a.Meetings) (b5:cE K a10 c11 a.Allowed) (d1:cE K a13 c14 a.Hidden):
  Calls prog 6 ([zA #[zS a1 a.Definitions.length c2,zS a4 a.Components.length c5,zS a7 a.Meetings.length c8,zS a10 a.Allowed.length c11,zS a13 a.Hidden.length c14]]:List Value).toArray w (eR fun v w'=>∃ x y p z J q V Z a0 a2 a3 a5,v=zA #[zS x R.Definitions.length y,zS z R.Components.length J,zS V R.Meetings.length Z,zS a0 R.Allowed.length a2,zS a3 R.Hidden.length a5]/\List.length p=List.length R.Definitions/\List.length q=List.length R.Components/\aN G K (bB 89 K x y (bT p R.Definitions)::rows [162,203,242] p R.Definitions::bB 91 K z J (bT q R.Components)::rows [2] q R.Components::bB 93 K V Z R.Meetings::bB 9 K a0 a2 R.Allowed::bB 9 K a3 a5 R.Hidden::L) w'):=by
 let l:=[zS a1 a.Definitions.length c2,zS a4 a.Components.length c5,zS a7 a.Meetings.length c8,zS a10 a.Allowed.length c11,zS a13 a.Hidden.length c14]
 let k:=[zS none 0 0,zS none 0 0,zS none 0 0,zS none 0 0,zS none 0 0]
 refine aQ func6 rfl (by kernel_rfl) (by show (1:Nat)<=25;decide) ?_;unfold rK at hm
 refine aL (dQ (v:=zA #[zS a1 a.Definitions.length c2,zS a4 a.Components.length c5,zS a7 a.Meetings.length c8,zS a10 a.Allowed.length c11,zS a13 a.Hidden.length c14]) (vs:=l) hs rfl rfl (fun r d2 b6=>(cR (vs:=k) zeroValue38 b6 rfl (fun t d3 b7=>(aG (aL (cR (vs:=k) zeroValue38 b7 rfl (fun u d4 a6=>(aG (aL (aA (bA (t':=0) fa_27_0 rfl rfl) (aA (bO sc_22 a6 (i:=2) rfl rfl rfl) ?_))))))))))));obtain ⟨b,b8,hm⟩:=aC hm
 refine aT (vs:=[zS a1 a.Definitions.length c2]) call19 rfl (aHT b8 a6 h3) ?_
 rintro _ d5 ⟨c,d,j,rfl,d6,b9⟩
 refine aA (bA (t':=0) pL rfl rfl) (cO (i:=2) (ns:=[zS c b.length d]) (us:=[zS c b.length d,zS none 0 0,zS none 0 0,zS none 0 0,zS none 0 0]) sizeOf35 b9 rfl rfl rfl rfl rfl (dU rfl) rfl rfl (fun c0 (a8:aN G K (bB 89 K c d (bT j b)::rows [162,203,242] j b::box u 38 [zS c b.length d,zS none 0 0,zS none 0 0,zS none 0 0,zS none 0 0]::box t 38 k::box r 27 l::L) c0)=>(aG (aL (aA (bA (t':=1) fa_27_1 rfl rfl) (aA (bO sc_23 a8 (i:=4) rfl rfl rfl) ?_))))))
 obtain ⟨e,c1,hm⟩:=aC hm
 refine aT (vs:=[zS a4 a.Components.length c5]) call20 rfl (aID c1 a8 h6) ?_
 rintro _ d7 ⟨g,h,m,rfl,d8,c3⟩
 refine aA (bA (t':=1) mD rfl rfl) (cO (i:=4) (ns:=[zS g e.length h]) (us:=[zS c b.length d,zS g e.length h,zS none 0 0,zS none 0 0,zS none 0 0]) sizeOf36 c3 rfl rfl rfl rfl rfl (dU rfl) rfl rfl (fun c4 (a9:aN G K (bB 91 K g h (bT m e)::rows [2] m e::bB 89 K c d (bT j b)::rows [162,203,242] j b::box u 38 [zS c b.length d,zS g e.length h,zS none 0 0,zS none 0 0,zS none 0 0]::box t 38 k::box r 27 l::L) c4)=>(aG (aL (aA (bA (t':=2) fa_27_2 rfl rfl) (aA (bO sc_24 a9 (i:=6) rfl rfl rfl) ?_))))))
 obtain ⟨n,c6,hm⟩:=aC hm
 refine aT (vs:=[zS a7 a.Meetings.length c8]) call21 rfl (aJV c6 a9 h9) ?_
 rintro _ d9 ⟨o,c48,rfl,c7⟩
 refine aA (bA (t':=2) aBN rfl rfl) (cO (i:=5) (ns:=[zS o n.length c48]) (us:=[zS c b.length d,zS g e.length h,zS o n.length c48,zS none 0 0,zS none 0 0]) sizeOf30 c7 rfl rfl rfl rfl rfl (dU rfl) rfl rfl (fun c9 (b0:aN G K (bB 93 K o c48 n::bB 91 K g h (bT m e)::rows [2] m e::bB 89 K c d (bT j b)::rows [162,203,242] j b::box u 38 [zS c b.length d,zS g e.length h,zS o n.length c48,zS none 0 0,zS none 0 0]::box t 38 k::box r 27 l::L) c9)=>(aG (aL (aA (bA (t':=3) fa_27_3 rfl rfl) (aA (bO jG b0 (i:=7) rfl rfl rfl) ?_))))))
 obtain ⟨e0,d0,hm⟩:=aC hm
 exact aT (vs:=[zS a10 a.Allowed.length c11]) call22 rfl (aFS d0 b0 b5) cA
theorem aGB {d:Definition} {R:Bool} (hm:sY d=some R) (a:aN G K (L) w) (b:cE K a1 c2 d.Body):
  Calls prog 160 ([zA #[str d.Name,i64 d.Parameters,zS a1 d.Body.length c2]]:List Value).toArray w (eR fun v w'=>v=zB R/\aN G K (L) w'):=by
 exact cA
theorem lJ {s_:(List Definition)} {R:Int} (hm:eN s_=some R) (p:aN G K (L) w) (e:cE K a1 c2 s_):
  Calls prog 162 ([zS a1 s_.length c2,Value.func (.func 160) #[] #[]]:List Value).toArray w (eR fun v w'=>v=i64 R/\aN G K (L) w'):=by
 refine aQ func162 rfl (by kernel_rfl) (by show (2:Nat)<=19;decide) ?_;unfold eN at hm
 refine aL (aD (v:=i64 0) (aG (aO (aL (aI (v:=zS a1 s_.length c2) (aA (bQ (len:=s_.length) iW rfl) (aI (v:=i64 0) (aG (bR [] (fun f w=>eE=some R/\aN G K (L) w) cA ?_)))))))));obtain ⟨q,k,ho⟩:=aC hm
 refine dS [0,1,7] k (fun b f w=>f 8=i64 b/\aN G K (L) w) cA ?_
 ·rintro b r f u hm hr ⟨g,h⟩
  unfold dJ at hm
  refine aL (aA (cM g rfl) (aG (aO ?_)))
  rcases aH hm with ⟨i,hm⟩|⟨i,hm⟩
  ·refine aM i rfl (aW (aB (aO (bZ (aL (bG g (aD (v:=i64 b) (aG (aL (aI (v:=Value.func (.func 160) #[] #[]) (aI (v:=zS a1 s_.length c2) (aI (v:=i64 b) ?_))))))))))));obtain ⟨a,j,hm⟩:=aC hm
   refine aA (cQ iW rfl e rfl rfl rfl j) ?_;obtain ⟨x,l,m⟩:=cE.el (sz:=3) rfl e j
   obtain ⟨c,d,rfl,n⟩:=m
   refine aA (eK (t:=0) (vs:=[str a.Name,i64 a.Parameters,zS c a.Body.length d]) aES h l rfl rfl rfl) ?_;obtain ⟨y,o,hm⟩:=aC hm
   exact rQ (vs:=[zA #[str a.Name,i64 a.Parameters,zS c a.Body.length d]]) (caps:=[]) (us:=[zA #[str a.Name,i64 a.Parameters,zS c a.Body.length d]]) rfl call160 rfl rfl (aGB o h n) cA
  ·exact cA
theorem kO {s_:(List Definition)} {R:Bool} (hm:dK s_=some R) (a:aN G K (L) w) (b:cE K a1 c2 s_):
  Calls prog 159 ([zS a1 s_.length c2,Value.func (.func 160) #[] #[]]:List Value).toArray w (eR fun v w'=>v=zB R/\aN G K (L) w'):=by
 exact cA
theorem aIE {a:(List Definition)} {R:Bool} (hm:tT a=some R) (b:aN G K (L) w) (c:cE K a1 c2 a):
  Calls prog 116 ([zS a1 a.length c2]:List Value).toArray w (eR fun v w'=>v=zB R/\aN G K (L) w'):=by
 exact cA
theorem aEM {d:Definition} {p:bK} {a:Nat} {R:Bool} (hm:oQ d p=some R) (b:aN G K (L) w) (c:cE K a1 c2 d.Body) (e:iR K a4 a [str p]):
  Calls prog 163 ([zA #[str d.Name,i64 d.Parameters,zS a1 d.Body.length c2],eJ a4 a]:List Value).toArray w (eR fun v w'=>v=zB R/\aN G K (L) w'):=by
 exact cA
theorem kP {s_:(List Definition)} {g:bK} {b:Nat} {R:Int} (hm:eF s_ g=some R) (u:aN G K (L) w) (h:cE K a1 c2 s_) (m:iR K a4 b [str g]):
  Calls prog 162 ([zS a1 s_.length c2,Value.func (.func 163) #[] #[eJ a4 b]]:List Value).toArray w (eR fun v w'=>v=i64 R/\aN G K (L) w'):=by
 refine aQ func162 rfl (by kernel_rfl) (by show (2:Nat)<=19;decide) ?_;unfold eF at hm
 refine aL (aD (v:=i64 0) (aG (aO (aL (aI (v:=zS a1 s_.length c2) (aA (bQ (len:=s_.length) iW rfl) (aI (v:=i64 0) (aG (bR [] (fun f w=>eA=some R/\aN G K (L) w) cA ?_)))))))));obtain ⟨x,n,ho⟩:=aC hm
 refine dS [0,1,7] n (fun c f w=>f 8=i64 c/\aN G K (L) w) cA ?_
 ·rintro c y f z hm hr ⟨i,j⟩
  unfold dD at hm
  refine aL (aA (cM i rfl) (aG (aO ?_)))
  rcases aH hm with ⟨k,hm⟩|⟨k,hm⟩
  ·refine aM k rfl (aW (aB (aO (bZ (aL (bG i (aD (v:=i64 c) (aG (aL (aI (v:=Value.func (.func 163) #[] #[eJ a4 b]) (aI (v:=zS a1 s_.length c2) (aI (v:=i64 c) ?_))))))))))));obtain ⟨a,l,hm⟩:=aC hm
   refine aA (cQ iW rfl h rfl rfl rfl l) ?_;obtain ⟨J,o,p⟩:=cE.el (sz:=3) rfl h l
   obtain ⟨d,e,rfl,q⟩:=p
   refine aA (eK (t:=0) (vs:=[str a.Name,i64 a.Parameters,zS d a.Body.length e]) aES j o rfl rfl rfl) ?_;obtain ⟨V,r,hm⟩:=aC hm
   exact rQ (vs:=[zA #[str a.Name,i64 a.Parameters,zS d a.Body.length e]]) (caps:=[eJ a4 b]) (us:=[zA #[str a.Name,i64 a.Parameters,zS d a.Body.length e],eJ a4 b]) rfl call163 rfl rfl (aEM r j q m) cA
  ·exact cA
theorem aGC {a:(List Definition)} {b:bK} {R:Int} (hm:oR a b=some R) (d:aN G K (L) w) (e:cE K a1 c2 a):
  Calls prog 118 ([zS a1 a.length c2,str b]:List Value).toArray w (eR fun v w'=>v=i64 R/\aN G K (L) w'):=by
 refine aQ func118 rfl (by kernel_rfl) (by show (2:Nat)<=8;decide) ?_;unfold oR at hm
 refine aL (dQ (v:=str b) (vs:=[str b]) d rfl rfl (fun c l g=>(aD (v:=i64 0) (aG (aL (aI (v:=zS a1 a.length c2) (aA (yH (vs:=[zP (some ⟨c,0,none⟩)]) rfl) ?_)))))));obtain ⟨m,h,i,j,n⟩:=aN.lendBp g .head
 obtain ⟨o,k,hm⟩:=aC hm
 exact aT (vs:=[zS a1 a.length c2,Value.func (.func 163) #[] #[eJ (some ⟨c,0,none⟩) 0]]) call162 rfl (kP k j (e.mono h) i) cA
theorem aEx {p:Part} {R:Int} (hm:wR p=some R) (b:aN G K (L) w) (d:cE K a1 c2 p.Arguments):
  Calls prog 181 ([zA #[i64 p.Kind,i64 p.Number,str p.Name,zS a1 p.Arguments.length c2]]:List Value).toArray w (eR fun v w'=>v=i64 R/\aN G K (L) w'):=by
 refine aQ func181 rfl (by kernel_rfl) (by show (1:Nat)<=11;decide) ?_;unfold wR at hm
 exact aL (dQ (v:=zA #[i64 p.Kind,i64 p.Number,str p.Name,zS a1 p.Arguments.length c2]) (vs:=[i64 p.Kind,i64 p.Number,str p.Name,zS a1 p.Arguments.length c2]) b rfl rfl (fun e g c=>(aD (v:=i64 0) (aG (aO (aL (aA (bA (t':=0) fE rfl rfl) (aA (bO dC c (i:=0) rfl rfl rfl) (aG (bZ (aAa [4] (fun f w=>∃ a,qJ p a=some R/\f 5=zB a/\aN G K (L) w) cA cA)))))))))))
theorem aBo {d:Definition} {part R:Int} (hm:lH d part=some R) (c:aN G K (L) w) (j:cE K a1 c2 d.Body):
  Calls prog 141 ([zA #[str d.Name,i64 d.Parameters,zS a1 d.Body.length c2],i64 part]:List Value).toArray w (eR fun v w'=>v=i64 R/\aN G K (L) w'):=by
 let a:=[str d.Name,i64 d.Parameters,zS a1 d.Body.length c2]
 refine aQ func141 rfl (by kernel_rfl) (by show (2:Nat)<=25;decide) ?_;unfold lH at hm
 refine aL (dQ (v:=zA #[str d.Name,i64 d.Parameters,zS a1 d.Body.length c2]) (vs:=a) c rfl rfl (fun e k l=>(aD (v:=i64 0) (aG (aO (aL (aD (v:=i64 1) (aG (bR [] (fun f w=>∃ b,kN b=some R/\f 1=i64 b/\aN G K (L) w) cA ?_)))))))));obtain ⟨m,g,ho⟩:=aC hm
 exact dN [2] g (fun h i f w=>f 1=i64 h/\f 5=i64 i/\aN G K (box e 89 a::L) w) cA cA
theorem aCP {rec_:Int->fD->(List fD)->Definition->Definition->Option (Int × (List fD))} (ih:∀ {G:pJ} {K:Hp} {L:List hQ} {w:World} {d:Int} {p:fD} {b1:Nat} {k:(List fD)} {a2:Option Addr} {c3:Nat} {c:Definition} {a4:Option Addr} {q:Nat} {a7:Option Addr} {c8:Nat} {a10:Option Addr} {g:Nat} {b:Definition} {a13:Option Addr} {n:Nat} {a16:Option Addr} {c17:Nat} {R:(Int × (List fD))} (hm:rec_ d p k c b=some R) (hs:aN G K (bB 223 K a2 c3 k::box b1 219 [zS a2 k.length c3]::L) w) (h6:iR K a4 q [str c.Name,i64 c.Parameters,zS a7 c.Body.length c8]) (h9:cE K a7 c8 c.Body) (a5:iR K a10 g [Value.func (.func 194) #[] #[zP (some ⟨b1,0,none⟩),eJ a13 n,eJ a10 g]]) (a6:iR K a13 n [str b.Name,i64 b.Parameters,zS a16 b.Body.length c17]) (a8:cE K a16 c17 b.Body),
  Calls prog 194 ([i64 d,zA #[i64 p.scope,zB p.behind],zP (some ⟨b1,0,none⟩),eJ a4 q,eJ a10 g]:List Value).toArray w (eR fun v w'=>∃ r u,v=i64 R.1/\aN G K (bB 223 K r u R.2::box b1 219 [zS r R.2.length u]::L) w'))
  {G:pJ} {K:Hp} {L:List hQ} {w:World} {d:Int} {p:fD} {b1:Nat} {k:(List fD)} {a2:Option Addr} {c3:Nat} {c:Definition} {a4:Option Addr} {q:Nat} {a7:Option Addr} {c8:Nat} {a10:Option Addr} {g:Nat} {b:Definition} {a13:Option Addr} {n:Nat} {a16:Option Addr} {c17:Nat} {R:(Int × (List fD))} (hm:fM rec_ d p k c b=some R) (hs:aN G K (bB 223 K a2 c3 k::box b1 219 [zS a2 k.length c3]::L) w) (h6:iR K a4 q [str c.Name,i64 c.Parameters,zS a7 c.Body.length c8]) (h9:cE K a7 c8 c.Body) (a5:iR K a10 g [Value.func (.func 194) #[] #[zP (some ⟨b1,0,none⟩),eJ a13 n,eJ a10 g]]) (a6:iR K a13 n [str b.Name,i64 b.Parameters,zS a16 b.Body.length c17]) (a8:cE K a16 c17 b.Body):
  Calls prog 194 ([i64 d,zA #[i64 p.scope,zB p.behind],zP (some ⟨b1,0,none⟩),eJ a4 q,eJ a10 g]:List Value).toArray w (eR fun v w'=>∃ r u,v=i64 R.1/\aN G K (bB 223 K r u R.2::box b1 219 [zS r R.2.length u]::L) w'):=by
 let o:=[i64 p.scope,zB p.behind]
 refine aQ func194 rfl (by kernel_rfl) (by show (5:Nat)<=45;decide) ?_;unfold fM at hm
 refine aL (dQ (v:=zA #[i64 p.scope,zB p.behind]) (vs:=o) hs rfl rfl (fun J e5 V=>(aD (v:=i64 0) (aG (aL (aA (bO sc_219 V (i:=2) rfl rfl rfl) (aI (v:=i64 d) (aA (eH (us:=o) ag_223 V (i:=0) rfl rfl rfl rfl) ?_))))))));obtain ⟨e6,a9,hm⟩:=aC hm
 have c9:=fC V (i:=1) rfl a9
 refine aA (gE sl_219 rfl c9 rfl rfl rfl a9) ?_;obtain ⟨e,b7,hm⟩:=aC hm
 refine mU (i:=1) (t:=0) (ns:=o) (e':=(⟨p.scope,p.behind⟩:fD)) sizeOf223 V rfl (Hp.le_refl _) rfl rfl rfl a9 b7 rfl rfl (dU rfl) rfl (fun cs h=>by cases h;rfl) (fun b8 (d0:aN G K (box J 223 o::bB 223 K a2 c3 e::box b1 219 [zS a2 k.length c3]::L) b8)=>?_)
 have b0:aN G K (box J 223 o::bB 223 K a2 c3 e::box b1 219 [zS a2 e.length c3]::L) b8:=by rw [←(cH b7)];exact d0
 refine aG (aL (aA (cI (k':=q+2) kT rfl h6 rfl) (aA (bX (t:=2) yQ b0 h6 rfl rfl) (aI (v:=i64 d) ?_))));obtain ⟨a,b9,hm⟩:=aC hm
 refine aA (cQ jV rfl h9 rfl rfl rfl b9) ?_;obtain ⟨e7,d1,d2⟩:=cE.el (sz:=4) rfl h9 b9
 obtain ⟨l,m,rfl,d3⟩:=d2
 refine aA (eK (t:=0) (vs:=[i64 a.Kind,i64 a.Number,str a.Name,zS l a.Arguments.length m]) tG b0 d1 rfl rfl rfl) (cR (vs:=[i64 0,i64 0,str ([]:bK),zS none 0 0]) zeroValue162 b0 rfl (fun b2 e8 d4=>(cO (i:=0) (ns:=[i64 a.Kind,i64 a.Number,str a.Name,zS l a.Arguments.length m]) (us:=[i64 a.Kind,i64 a.Number,str a.Name,zS l a.Arguments.length m]) sizeOf162 d4 rfl rfl rfl rfl rfl (dU rfl) rfl rfl (fun d5 (b3:aN G K (box b2 162 [i64 a.Kind,i64 a.Number,str a.Name,zS l a.Arguments.length m]::box J 223 o::bB 223 K a2 c3 e::box b1 219 [zS a2 e.length c3]::L) d5)=>(aG (aL (aA (bA (t':=0) aHu rfl rfl) (aA (bO dC b3 (i:=1) rfl rfl rfl) (aA (bA (t':=0) fE rfl rfl) (aA (bO dC b3 (i:=0) rfl rfl rfl) (aA (cX rfl rfl) (aA (iA (vs:=[(0,i64 p.scope),(1,zB (a.Kind == 1))]) (cs:=[i64 p.scope,zB (a.Kind == 1)]) bs_223 rfl (by kernel_rfl)) (cR (vs:=[i64 0,zB false]) zeroValue223 b3 rfl (fun Z e9 d6=>(cO (i:=0) (ns:=[i64 p.scope,zB (a.Kind == 1)]) (us:=[i64 p.scope,zB (a.Kind == 1)]) sizeOf223 d6 rfl rfl rfl rfl rfl (dU rfl) rfl rfl (fun d7 (f0:aN G K (box Z 223 [i64 p.scope,zB (a.Kind == 1)]::box b2 162 [i64 a.Kind,i64 a.Number,str a.Name,zS l a.Arguments.length m]::box J 223 o::bB 223 K a2 c3 e::box b1 219 [zS a2 e.length c3]::L) d7)=>(aG (aAa [0,4,8,9] (fun f w=>∃ j,eQ rec_ d b e a j=some R/\aN G K (box Z 223 [i64 j,zB (a.Kind == 1)]::box b2 162 [i64 a.Kind,i64 a.Number,str a.Name,zS l a.Arguments.length m]::bB 223 K a2 c3 e::box b1 219 [zS a2 e.length c3]::L) w) ?_ ?_))))))))))))))))))
 ·rintro f f1 ⟨j,hm,c0⟩
  unfold eQ at hm
  refine aL (aI (v:=i64 d) (aA (cD rfl rfl) (aD (v:=i64 (wr (d+1))) (aG (aO (aL (aA (eH (us:=[i64 a.Kind,i64 a.Number,str a.Name,zS l a.Arguments.length m]) tG c0 (i:=1) rfl rfl rfl rfl) ?_)))))));obtain ⟨f2,d8,hm⟩:=aC hm
  refine aT (vs:=[zA #[i64 a.Kind,i64 a.Number,str a.Name,zS l a.Arguments.length m]]) call181 rfl (aEx d8 c0 d3) ?_
  rintro _ f3 ⟨rfl,f4⟩
  refine aI (v:=i64 0) (aG (bR [] (fun f w=>∃ c1 b4 c2 c4,iD c1 b4=some R/\f 10=i64 c1/\aN G K (bB 223 K c2 c4 b4::box b1 219 [zS c2 b4.length c4]::L) w) cA ?_));obtain ⟨f5,d9,ho⟩:=aC hm
  refine mL [4,9,36] d9 (fun a0 c5 x f w=>∃ y z,f 10=i64 a0/\f 37=i64 c5/\aN G K (box Z 223 [i64 j,zB (a.Kind == 1)]::bB 223 K y z x::box b1 219 [zS y x.length z]::L) w) cA ?_
  ·rintro a0 c5 x f6 f e0 hm hr ⟨y,z,e1,e2,b5⟩
   unfold gJ at hm
   refine aL (aA (cM e2 rfl) (aG (aO ?_)))
   rcases aH hm with ⟨c6,hm⟩|⟨c6,hm⟩
   ·refine aM c6 rfl (aW (aB (aO (bZ (aV (aA (bX (t:=0) sc_254 b5 a5 rfl rfl) (bG e1 (aA (eH (us:=[i64 j,zB (a.Kind == 1)]) ag_223 b5 (i:=0) rfl rfl rfl rfl) ?_))))))))
    have e3:aN G K (bB 223 K y z x::box b1 219 [zS y x.length z]::box Z 223 [i64 j,zB (a.Kind == 1)]::L) e0:=(aN.arr 3 [1,2,0] b5 rfl)
    obtain ⟨f7,e4,hm⟩:=aC hm
    exact rQ (vs:=[i64 a0,zA #[i64 j,zB (a.Kind == 1)]]) (caps:=[zP (some ⟨b1,0,none⟩),eJ a13 n,eJ a10 g]) (us:=[i64 a0,zA #[i64 j,zB (a.Kind == 1)],zP (some ⟨b1,0,none⟩),eJ a13 n,eJ a10 g]) rfl call194 rfl rfl (ih (p:=⟨j,a.Kind == 1⟩) e4 e3 a6 a8 a5 a6 a8) cA
   ·exact cA
 exact cA
theorem aCQ (n:Nat):∀ {G:pJ} {K:Hp} {L:List hQ} {w:World} {l:Int} {p:fD} {b1:Nat} {c:(List fD)} {a2:Option Addr} {c3:Nat} {a:Definition} {a4:Option Addr} {m:Nat} {a7:Option Addr} {c8:Nat} {a10:Option Addr} {d:Nat} {b:Definition} {a13:Option Addr} {o:Nat} {a16:Option Addr} {c17:Nat} {R:(Int × (List fD))} (hm:dZ n l p c a b=some R) (e:aN G K (bB 223 K a2 c3 c::box b1 219 [zS a2 c.length c3]::L) w) (g:iR K a4 m [str a.Name,i64 a.Parameters,zS a7 a.Body.length c8]) (h:cE K a7 c8 a.Body) (i:iR K a10 d [Value.func (.func 194) #[] #[zP (some ⟨b1,0,none⟩),eJ a13 o,eJ a10 d]]) (j:iR K a13 o [str b.Name,i64 b.Parameters,zS a16 b.Body.length c17]) (k:cE K a16 c17 b.Body),
  Calls prog 194 ([i64 l,zA #[i64 p.scope,zB p.behind],zP (some ⟨b1,0,none⟩),eJ a4 m,eJ a10 d]:List Value).toArray w (eR fun v w'=>∃ q r,v=i64 R.1/\aN G K (bB 223 K q r R.2::box b1 219 [zS q R.2.length r]::L) w'):=by
 induction n with
 |zero=>
  intro G K L w l p b1 c a2 c3 a a4 m a7 c8 a10 d b a13 o a16 c17 R hm e g h i j k
  unfold dZ at hm
  cases hm
 |succ n ih=>
  intro G K L w l p b1 c a2 c3 a a4 m a7 c8 a10 d b a13 o a16 c17 R hm e g h i j k
  exact aCP (rec_:=dZ n) (fun hm e g h i j k=>ih hm e g h i j k) hm e g h i j k
theorem aDC {at_:Int} {p:fD} {p':(List fD)} {p'':Definition} {k5 k11:Nat} {p_c1_:Definition} {k14:Nat} {R:(Int × (List fD))} (hm:rL at_ p p' p'' p_c1_=some R) (hs:aN G K (bB 223 K a2 c3 p'::box b1 219 [zS a2 p'.length c3]::L) w) (h6:iR K a4 k5 [str p''.Name,i64 p''.Parameters,zS a7 p''.Body.length c8]) (h9:cE K a7 c8 p''.Body) (h12:iR K a10 k11 [Value.func (.func 194) #[] #[zP (some ⟨b1,0,none⟩),eJ a13 k14,eJ a10 k11]]) (h15:iR K a13 k14 [str p_c1_.Name,i64 p_c1_.Parameters,zS a16 p_c1_.Body.length c17]) (h18:cE K a16 c17 p_c1_.Body):
  Calls prog 194 ([i64 at_,zA #[i64 p.scope,zB p.behind],zP (some ⟨b1,0,none⟩),eJ a4 k5,eJ a10 k11]:List Value).toArray w (eR fun v w'=>∃ ra0 rc0,v=i64 R.1/\aN G K (bB 223 K ra0 rc0 R.2::box b1 219 [zS ra0 R.2.length rc0]::L) w'):=aCQ 100000 hm hs h6 h9 h12 h15 h18
theorem aFp {d:Definition} {R:(List fD)} (hm:mN d=some R) (x:aN G K (L) w) (m:cE K a1 c2 d.Body):
  Calls prog 164 ([zA #[str d.Name,i64 d.Parameters,zS a1 d.Body.length c2]]:List Value).toArray w (eR fun v w'=>∃ n o,v=zS n R.length o/\aN G K (bB 223 K n o R::L) w'):=by
 let j:=[str d.Name,i64 d.Parameters,zS a1 d.Body.length c2]
 refine aQ func164 rfl (by kernel_rfl) (by show (1:Nat)<=16;decide) ?_;unfold mN at hm
 refine aL (dQ (v:=zA #[str d.Name,i64 d.Parameters,zS a1 d.Body.length c2]) (vs:=j) x rfl rfl (fun b w5 q=>(aD (v:=zS none 0 0) (aG (aL (aA (bA (t':=2) kT rfl rfl) (aA (bO yQ q (i:=0) rfl rfl rfl) (aA (bQ (len:=d.Body.length) jV rfl) ?_))))))));obtain ⟨a,y,hm⟩:=aC hm
 refine aMA (e:=(⟨0,false⟩:fD)) sl_219 ez_223 rfl rfl q rfl rfl rfl y rfl (fun g z (J:aN G K (bB 223 K g a.length a::box b 89 j::L) z)=>(cR (vs:=[zS none 0 0]) zeroValue219 J rfl (fun c b1 V=>(cO (i:=0) (ns:=[zS g a.length a.length]) (us:=[zS g a.length a.length]) sizeOf219 V rfl rfl rfl rfl rfl (dU rfl) rfl rfl (fun Z (a0:aN G K (box c 219 [zS g a.length a.length]::bB 223 K g a.length a::box b 89 j::L) Z)=>(aG (aL (cR (vs:=[Value.nilFunc]) zeroValue254 a0 rfl (fun h b2 a2=>(aG (aL (aA (yH (vs:=[zP (some ⟨c,0,none⟩),zP (some ⟨b,0,none⟩),zP (some ⟨h,0,none⟩)]) rfl) (cO (i:=0) (ns:=[Value.func (.func 194) #[] #[zP (some ⟨c,0,none⟩),zP (some ⟨b,0,none⟩),zP (some ⟨h,0,none⟩)]]) (us:=[Value.func (.func 194) #[] #[zP (some ⟨c,0,none⟩),zP (some ⟨b,0,none⟩),zP (some ⟨h,0,none⟩)]]) sizeOf254 a2 rfl rfl rfl rfl rfl (dU rfl) rfl rfl (fun r (l:aN G K (box h 254 [Value.func (.func 194) #[] #[zP (some ⟨c,0,none⟩),zP (some ⟨b,0,none⟩),zP (some ⟨h,0,none⟩)]]::box c 219 [zS g a.length a.length]::bB 223 K g a.length a::box b 89 j::L) r)=>(aG (aL (aA (bO sc_254 l (i:=0) rfl rfl rfl) (aA (bA (t':=1) xL rfl rfl) (aA (bO dC l (i:=3) rfl rfl rfl) (aA (iA (vs:=[(0,i64 d.Parameters)]) (cs:=[i64 d.Parameters,zB false]) bs_223 rfl (by kernel_rfl)) ?_))))))))))))))))))))
 obtain ⟨b3,t,u,a3,b5⟩:=aN.lendBp l zt3
 obtain ⟨a4,k,a5,a6,b6⟩:=aN.lendBp a3 .head
 have a7:aN G a4 (bB 223 K g a.length a::box c 219 [zS g a.length a.length]::L) r:=(aN.arr 2 [1,0] a6 rfl)
 obtain ⟨b7,a8,hm⟩:=aC hm
 exact rQ (vs:=[i64 0,zA #[i64 d.Parameters,zB false]]) (caps:=[zP (some ⟨c,0,none⟩),eJ (some ⟨b,0,none⟩) 0,eJ (some ⟨h,0,none⟩) 0]) (us:=[i64 0,zA #[i64 d.Parameters,zB false],zP (some ⟨c,0,none⟩),eJ (some ⟨b,0,none⟩) 0,eJ (some ⟨h,0,none⟩) 0]) rfl call194 rfl rfl (aDC (p:=⟨d.Parameters,false⟩) a8 a7 (u.mono k) (m.mono (Hp.le_trans t k)) (show iR _ _ _ [Value.func (.func 194) #[] #[zP (some ⟨c,0,none⟩),eJ (some ⟨b,0,none⟩) 0,eJ (some ⟨h,0,none⟩) 0]] from a5) (u.mono k) (m.mono (Hp.le_trans t k))) cA
theorem aDD {i many:Int} {R:Bool} (hm:aCd i many=some R) (a:aN G K (L) w):
  Calls prog 121 ([i64 i,i64 many]:List Value).toArray w (eR fun v w'=>v=zB R/\aN G K (L) w'):=by
 exact cA
theorem aJk {p:Part} {R:Bool} (hm:wS p=some R) (g:aN G K (L) w) (h:cE K a1 c2 p.Arguments):
  Calls prog 195 ([zA #[i64 p.Kind,i64 p.Number,str p.Name,zS a1 p.Arguments.length c2]]:List Value).toArray w (eR fun v w'=>v=zB R/\aN G K (L) w'):=by
 let b:=[i64 p.Kind,i64 p.Number,str p.Name,zS a1 p.Arguments.length c2]
 refine aQ func195 rfl (by kernel_rfl) (by show (1:Nat)<=56;decide) ?_;unfold wS at hm
 refine aL (dQ (v:=zA #[i64 p.Kind,i64 p.Number,str p.Name,zS a1 p.Arguments.length c2]) (vs:=b) g rfl rfl (fun d i j=>(aD (v:=zB false) (aG (aO (cW [1] (fun f w=>∃ a,qK p a=some R/\f 3=zB a/\aN G K (box d 162 b::L) w) ?_ ?_))))))
 ·rintro f k ⟨a,hm,l,m⟩
  unfold qK at hm
  refine aB (aO (cW [1,3] (fun f w=>∃ c,nD p a c=some R/\f 4=zB c/\aN G K (box d 162 b::L) w) ?_ ?_))
  ·rintro f n ⟨c,hm,o,q⟩
   unfold nD at hm
   exact aB (aO (cW [] (fun f w=>∃ e,fH e=some R/\f 2=zB e/\aN G K (L) w) cA cA))
  exact cA
 exact cA
theorem aIF {p:Part} {a:(List Definition)} {R:Bool} (hm:tU p a=some R) (e:aN G K (L) w) (g:cE K a1 c2 p.Arguments) (h:cE K a4 c5 a):
  Calls prog 196 ([zA #[i64 p.Kind,i64 p.Number,str p.Name,zS a1 p.Arguments.length c2],zS a4 a.length c5]:List Value).toArray w (eR fun v w'=>v=zB R/\aN G K (L) w'):=by
 refine aQ func196 rfl (by kernel_rfl) (by show (2:Nat)<=38;decide) ?_;unfold tU at hm
 refine aL (dQ (v:=zA #[i64 p.Kind,i64 p.Number,str p.Name,zS a1 p.Arguments.length c2]) (vs:=[i64 p.Kind,i64 p.Number,str p.Name,zS a1 p.Arguments.length c2]) e rfl rfl (fun j k b=>(aD (v:=zB false) (aG (aL (aA (bA (t':=3) jC rfl rfl) (aA (bO pQ b (i:=0) rfl rfl rfl) (aA (bQ (len:=p.Arguments.length) jR rfl) (aD (v:=i64 (p.Arguments.length:Int)) (aG (aO (aL (aA (bA (t':=0) fE rfl rfl) (aA (bO dC b (i:=0) rfl rfl rfl) (aG (bZ (aL (aA (cX rfl rfl) (aD (v:=zB (p.Kind == 1)) (aG ?_))))))))))))))))))))
 rcases aH hm with ⟨c,hm⟩|⟨c,hm⟩
 ·exact aM c rfl (aO (cW [] (fun f w=>∃ d,mJ d=some R/\f 4=zB d/\aN G K (L) w) cA cA))
 ·exact cA
theorem aJW {t:bP} {a:Int} {R:Bool} (hm:aAN t a=some R) (b:aN G K (L) w):
  Calls prog 247 ([zA #[i64 t.Kind,i64 t.Value],i64 a]:List Value).toArray w (eR fun v w'=>v=zB R/\aN G K (L) w'):=by
 exact cA
theorem aCR {t:bP} {R:Int} (hm:rY t=some R) (a:aN G K (L) w):
  Calls prog 248 ([zA #[i64 t.Kind,i64 t.Value]]:List Value).toArray w (eR fun v w'=>v=i64 R/\aN G K (L) w'):=by
 exact cA
theorem aJX {e:(List bP)} {b h:Int} {R:Bool} (hm:aAO e b h=some R) (hs:aN G K (L) w) (j:cE K a1 c2 e):
  Calls prog 199 ([zS a1 e.length c2,i64 b,i64 h]:List Value).toArray w (eR fun v w'=>v=zB R/\aN G K (L) w'):=by
 refine aQ func199 rfl (by kernel_rfl) (by show (3:Nat)<=47;decide) ?_;unfold aAO at hm
 refine aL (aD (v:=zB false) (aG (aO (aO (cW [0,1] (fun f w=>∃ c,oE e b c=some R/\f 24=zB c/\aN G K (L) w) ?_ ?_)))))
 ·rintro f w6 ⟨c,hm,u,a3⟩
  unfold oE at hm
  refine aB ?_
  rcases aH hm with ⟨k,hm⟩|⟨k,hm⟩
  ·exact cA
  ·refine aJ k u (aW (aB (aL (aD (v:=i64 1) (aG (aO (aL (aI (v:=zS a1 e.length c2) (aA (bQ (len:=e.length) lE rfl) (aI (v:=i64 0) (aG (bR [] (fun f w=>∃ l,xV l=some R/\f 7=i64 l/\aN G K (L) w) cA ?_))))))))))));obtain ⟨a4,x,ho⟩:=aC hm
   refine dN [1,25,26] x (fun d g f w=>f 7=i64 d/\f 27=i64 g/\aN G K (L) w) cA ?_
   ·rintro d g y f a5 hm hr ⟨a6,m,n⟩
    unfold sA at hm
    refine aL (aA (cM m rfl) (aG (aO ?_)))
    rcases aH hm with ⟨o,hm⟩|⟨o,hm⟩
    ·refine aM o rfl (aW (aB (aO (bZ (aL ?_)))));obtain ⟨a,p,hm⟩:=aC hm
     refine aA (cQ lE rfl j rfl rfl m p) ?_;obtain ⟨a7,z,J⟩:=cE.el (sz:=2) rfl j p
     cases J
     exact aA (eK (t:=0) (vs:=[i64 a.Kind,i64 a.Value]) aGo n z rfl rfl rfl) (cR (vs:=[i64 0,i64 0]) zeroValue242 n rfl (fun q a8 V=>(cO (i:=0) (ns:=[i64 a.Kind,i64 a.Value]) (us:=[i64 a.Kind,i64 a.Value]) sizeOf242 V rfl rfl rfl rfl rfl (dU rfl) rfl rfl (fun Z (a9:aN G K (box q 242 [i64 a.Kind,i64 a.Value]::L) Z)=>(aG (aO (aO (cW [1,7,9,25,26,27] (fun f w=>∃ r,rZ d g a r=some y/\f 38=zB r/\aN G K (box q 242 [i64 a.Kind,i64 a.Value]::L) w) cA cA))))))))
    ·exact cA
 exact cA
theorem aGZ {e:(List bP)} {p:fD} {a:Nat} {R:Bool} (hm:vI e p=some R) (b:aN G K (L) w) (c:cE K a1 c2 e) (d:iR K a4 a [i64 p.scope,zB p.behind]):
  Calls prog 198 ([zS a1 e.length c2,eJ a4 a]:List Value).toArray w (eR fun v w'=>v=zB R/\aN G K (L) w'):=by
 exact cA
theorem nS {s_:(List (List bP))} {c:fD} {a:Nat} {R:Int} (hm:fN s_ c=some R) (u:aN G K (L) w) (d:cE K a1 c2 s_) (m:iR K a4 a [i64 c.scope,zB c.behind]):
  Calls prog 246 ([zS a1 s_.length c2,Value.func (.func 198) #[] #[eJ a4 a]]:List Value).toArray w (eR fun v w'=>v=i64 R/\aN G K (L) w'):=by
 refine aQ func246 rfl (by kernel_rfl) (by show (2:Nat)<=19;decide) ?_;unfold fN at hm
 refine aL (aD (v:=i64 0) (aG (aO (aL (aI (v:=zS a1 s_.length c2) (aA (bQ (len:=s_.length) jR rfl) (aI (v:=i64 0) (aG (bR [] (fun f w=>fB=some R/\aN G K (L) w) cA ?_)))))))));obtain ⟨x,n,ho⟩:=aC hm
 refine dS [0,1,7] n (fun b f w=>f 8=i64 b/\aN G K (L) w) cA ?_
 ·rintro b y f z hm hr ⟨e,g⟩
  unfold eB at hm
  refine aL (aA (cM e rfl) (aG (aO ?_)))
  rcases aH hm with ⟨h,hm⟩|⟨h,hm⟩
  ·refine aM h rfl (aW (aB (aO (bZ (aL (bG e (aD (v:=i64 b) (aG (aL (aI (v:=Value.func (.func 198) #[] #[eJ a4 a]) (aI (v:=zS a1 s_.length c2) (aI (v:=i64 b) ?_))))))))))));obtain ⟨i,j,hm⟩:=aC hm
   refine aA (cQ jR rfl d rfl rfl rfl j) ?_;obtain ⟨J,o,p⟩:=cE.el (sz:=1) rfl d j
   obtain ⟨k,l,rfl,q⟩:=p
   refine aA (bX (t:=0) aFm g o rfl rfl) ?_;obtain ⟨V,r,hm⟩:=aC hm
   exact rQ (vs:=[zS k i.length l]) (caps:=[eJ a4 a]) (us:=[zS k i.length l,eJ a4 a]) rfl call198 rfl rfl (aGZ r g q m) cA
  ·exact cA
theorem mQ {s_:(List (List bP))} {a:fD} {b:Nat} {R:Bool} (hm:eC s_ a=some R) (c:aN G K (L) w) (d:cE K a1 c2 s_) (e:iR K a4 b [i64 a.scope,zB a.behind]):
  Calls prog 197 ([zS a1 s_.length c2,Value.func (.func 198) #[] #[eJ a4 b]]:List Value).toArray w (eR fun v w'=>v=zB R/\aN G K (L) w'):=by
 exact cA
end Gv
