/- Walks, printed by program. -/
import Derived.Test.YtlechllgdgniaaaGreatDoorJWk7
set_option linter.all false
namespace Gv
open Gv.Hp renaming le_refl→zR
open Go.Value renaming slice→zS,bool→zB,pointer→zP,agg→zA,tuple→zT,map→zM
open Option.some renaming inj→zI
open Gv.Hp renaming le_trans→zL
open Go Go.Proofs Go.Proofs.Tryz
set_option maxRecDepth 20000
set_option maxHeartbeats 40000000
variable {G:pJ} {K Kf:Hp} {L:List hQ} {w:World} {b1 c3 c6 c9 c2 c5 c8 b4 b5 c7 c10 c18 c21 c24 c27 c30 c11 c14 c17 c20:Nat} {a2 a5 a8 a1 a4 a7 a6 a9 a11 a14 a17 a20 a23 a26 a29 a10 a13 a16 a19:Option Addr}
theorem aFq {rec_:(List Definition)->(List dM)->(List (bK × Bool))->Int->Int->(List Int)->Option ((List dM) × (List (bK × Bool)))} (ih:∀ {G:pJ} {K:Hp} {L:List hQ} {w:World} {Kf:Hp} {b1:Nat} {g:(List Definition)} {a2:Option Addr} {c3:Nat} {n:(List dM)} {a5:Option Addr} {c6:Nat} {d:(List (bK × Bool))} {c:Nat} {k:Int} {part:Int} {e:(List Int)} {a8:Option Addr} {c9:Nat} {R:((List dM) × (List (bK × Bool)))} (hm:rec_ g n d k part e=some R) (hs:aN G K (bB 108 Kf a5 c6 n::nW c d::box b1 154 [zS a2 g.length c3,zS a5 n.length c6,zM (some c)]::L) w) (hG:G.lo=0) (b5:Hp.le Kf K) (h4:cE K a2 c3 g) (a1:cE K a8 c9 e),
  Calls prog 95 ([zP (some ⟨b1,0,none⟩),i64 k,i64 part,zS a8 e.length c9]:List Value).toArray w (eR fun v w'=>∃ K' c2 c4,v=zT #[]/\Hp.le K K'/\aN G K' (bB 108 K' c2 c4 R.1::nW c R.2::box b1 154 [zS a2 g.length c3,zS c2 R.1.length c4,zM (some c)]::L) w'))
  {G:pJ} {K:Hp} {L:List hQ} {w:World} {Kf:Hp} {b1:Nat} {g:(List Definition)} {a2:Option Addr} {c3:Nat} {n:(List dM)} {a5:Option Addr} {c6:Nat} {d:(List (bK × Bool))} {c:Nat} {k:Int} {part:Int} {e:(List Int)} {a8:Option Addr} {c9:Nat} {R:((List dM) × (List (bK × Bool)))} (hm:dR rec_ g n d k part e=some R) (hs:aN G K (bB 108 Kf a5 c6 n::nW c d::box b1 154 [zS a2 g.length c3,zS a5 n.length c6,zM (some c)]::L) w) (hG:G.lo=0) (b5:Hp.le Kf K) (h4:cE K a2 c3 g) (a1:cE K a8 c9 e):
  Calls prog 95 ([zP (some ⟨b1,0,none⟩),i64 k,i64 part,zS a8 e.length c9]:List Value).toArray w (eR fun v w'=>∃ K' c2 c4,v=zT #[]/\Hp.le K K'/\aN G K' (bB 108 K' c2 c4 R.1::nW c R.2::box b1 154 [zS a2 g.length c3,zS c2 R.1.length c4,zM (some c)]::L) w'):=by
 let o:=[zS a2 g.length c3,zS a5 n.length c6,zM (some c)]
 let g4:=[zP (some ⟨b1,0,none⟩),i64 k,i64 (wr (part+1)),zS a8 e.length c9]
 let b8:=bB 108 K a5 c6 n
 let c1:=bB 108 Kf a5 c6 n
 refine aQ func95 rfl (by kernel_rfl) (by show (4:Nat)<=118;decide) ?_;unfold dR at hm
 refine aL (aI (v:=zP (some ⟨b1,0,none⟩)) (aA (lS rfl) (aA (bA (t':=0) aTg rfl rfl) (aA (bO aDY hs (i:=2) rfl rfl rfl) (aI (v:=i64 k) ?_)))));obtain ⟨b,g5,hm⟩:=aC hm
 refine aA (cQ iW rfl h4 rfl rfl rfl g5) ?_;obtain ⟨r2,j0,j1⟩:=cE.el (sz:=3) rfl h4 g5
 obtain ⟨j,l,rfl,c5⟩:=j1
 refine aA (eK (t:=0) (vs:=[str b.Name,i64 b.Parameters,zS j b.Body.length l]) aES hs j0 rfl rfl rfl) (cR (vs:=[str ([]:bK),i64 0,zS none 0 0]) zeroValue89 hs rfl (fun y r3 j2=>(cO (i:=0) (ns:=[str b.Name,i64 b.Parameters,zS j b.Body.length l]) (us:=[str b.Name,i64 b.Parameters,zS j b.Body.length l]) sizeOf89 j2 rfl rfl rfl rfl rfl (dU rfl) rfl rfl (fun j3 (e2:aN G K (box y 89 [str b.Name,i64 b.Parameters,zS j b.Body.length l]::c1::nW c d::box b1 154 o::L) j3)=>(aG (aL (aA (bA (t':=2) kT rfl rfl) (aA (bO yQ e2 (i:=0) rfl rfl rfl) (aI (v:=i64 part) ?_)))))))))
 obtain ⟨a,g6,hm⟩:=aC hm
 refine aA (cQ jV rfl c5 rfl rfl rfl g6) ?_;obtain ⟨r4,j4,j5⟩:=cE.el (sz:=4) rfl c5 g6
 obtain ⟨p,q,rfl,e3⟩:=j5
 refine aA (eK (t:=0) (vs:=[i64 a.Kind,i64 a.Number,str a.Name,zS p a.Arguments.length q]) tG e2 j4 rfl rfl rfl) (cR (vs:=[i64 0,i64 0,str ([]:bK),zS none 0 0]) zeroValue162 e2 rfl (fun z r5 j6=>(cO (i:=0) (ns:=[i64 a.Kind,i64 a.Number,str a.Name,zS p a.Arguments.length q]) (us:=[i64 a.Kind,i64 a.Number,str a.Name,zS p a.Arguments.length q]) sizeOf162 j6 rfl rfl rfl rfl rfl (dU rfl) rfl rfl (fun c7 (V:aN G K (box z 162 [i64 a.Kind,i64 a.Number,str a.Name,zS p a.Arguments.length q]::box y 89 [str b.Name,i64 b.Parameters,zS j b.Body.length l]::c1::nW c d::box b1 154 o::L) c7)=>(aG (aL (aA (bA (t':=0) fE rfl rfl) (aA (bO dC V (i:=0) rfl rfl rfl) (aG (bR [] (fun f w=>∃ e4 e5 g7 g8 g9,Hp.le K e4/\iC e5 g7=some R/\aN G e4 (bB 108 e4 g8 g9 e5::nW c g7::box b1 154 [zS a2 g.length c3,zS g8 e5.length g9,zM (some c)]::L) w) cA (aL (aA (cX rfl rfl) (aD (v:=zB (a.Kind == 1)) (aG ?_))))))))))))))
 rcases aH hm with ⟨e6,hm⟩|⟨e6,hm⟩
 ·refine aM e6 rfl (aO ?_);obtain ⟨j7,e7,h0,h1,j8⟩:=aN.lendBp V .head
  refine jJ (C:=fun w'=>∃ L',aN G j7 L' w') [(0,0),(1,0),(2,0),(3,0),(4,0),(5,1),(6,1),(7,0),(8,0),(9,0),(10,0),(11,0)] cB (by kernel_rfl) (fun _ hg=>⟨_,aN.mono h1 hg⟩) (fun r6 j9=>?_)
  have c8:=aN.mono h1 j9
  refine dV rfl (fun _ _=>bA (t':=2) lU rfl rfl) (dV rfl (fun _ ⟨_,c8⟩=>bX (t:=2) fF c8 h0 rfl rfl) (dV rfl (fun _ _=>bA (t':=3) jC rfl rfl) (dV rfl (fun _ ⟨_,c8⟩=>bX (t:=3) pQ c8 h0 rfl rfl) (dV rfl (fun _ _=>bJ (v:=zS a8 e.length c9) rfl) (pP rfl ?_)))));obtain ⟨e8,k0,hm⟩:=aC hm
  refine aT (vs:=[zS p a.Arguments.length q,zS a8 e.length c9]) call139 rfl (aEy k0 c8 (e3.mono e7) (a1.mono e7)) ?_
  rintro _ r8 ⟨e9,f0,rfl,h2⟩
  refine cC (aB ⟨⟨_,h2⟩,?_⟩)
  refine pP rfl ?_;obtain ⟨r9,s0,k1,k2,k3⟩:=aN.lendSp h2 e7 .head
  obtain ⟨a3,k4,hm⟩:=aC hm
  refine aT (vs:=[str a.Name,zS e9 e8.length f0]) call138 rfl (aHL k4 k2 hG k1) ?_
  rintro _ s1 ⟨rfl,k5⟩
  have h3:=k3 _ _ k5
  refine cC (aB ⟨⟨_,h3⟩,?_⟩)
  refine dV rfl (fun _ _=>bJ (v:=zT #[str a3.1,zB a3.2]) rfl) (dV rfl (fun _ _=>dF rfl rfl) (dV rfl (fun _ _=>dF rfl rfl) (dV rfl (fun _ _=>gM (v:=str a3.1) rfl) (dV rfl (fun _ _=>gM (v:=zB a3.2) rfl) (sQ ?_)))))
  have k6:=j8 _ _ h3
  refine aB (aL (aI (v:=i64 k) (aI (v:=i64 part) (aA (cD rfl rfl) (aI (v:=zS a8 e.length c9) ?_)))));obtain ⟨a4,k7,hm⟩:=aC hm
  refine aT (vs:=[zS a8 e.length c9]) call92 rfl (jT k7 k6 a1) ?_
  rintro _ s2 ⟨a6,a7,rfl,k8⟩
  refine aA (iA (vs:=[(0,i64 k),(1,i64 (wr (part+1))),(2,zS a6 a4.length a7)]) (cs:=[i64 k,i64 (wr (part+1)),zS a6 a4.length a7]) aKC rfl (by kernel_rfl)) (cR (vs:=[i64 0,i64 0,zS none 0 0]) zeroValue100 k8 rfl (fun d0 s3 k9=>(cO (i:=0) (ns:=[i64 k,i64 (wr (part+1)),zS a6 a4.length a7]) (us:=[i64 k,i64 (wr (part+1)),zS a6 a4.length a7]) sizeOf100 k9 rfl rfl rfl rfl rfl (dU rfl) rfl rfl (fun l0 (f1:aN G K (box d0 100 [i64 k,i64 (wr (part+1)),zS a6 a4.length a7]::bB 2 K a6 a7 a4::box z 162 [i64 a.Kind,i64 a.Number,str a.Name,zS p a.Arguments.length q]::bB 2 K e9 f0 e8::box y 89 [str b.Name,i64 b.Parameters,zS j b.Body.length l]::c1::nW c d::box b1 154 o::L) l0)=>(aG (aAa [0,10,12] (fun f w=>∃ a9 b0 Z b2 b3,oU g n d a3 a9 b0 Z=some R/\aN G K (bB 2 K b2 b3 Z::box d0 100 [i64 a9,i64 b0,zS b2 Z.length b3]::c1::nW c d::box b1 154 o::L) w) ?_ ?_))))))
  ·rintro f h5 ⟨a9,b0,Z,b2,b3,hm,h6⟩
   unfold oU at hm
   refine aV (aI (v:=zP (some ⟨b1,0,none⟩)) (aI (v:=str a3.1) (aA (eH (us:=[i64 a9,i64 b0,zS b2 Z.length b3]) aAe h6 (i:=1) rfl rfl rfl rfl) (aA (iA (vs:=[(0,str a3.1),(1,zA #[i64 a9,i64 b0,zS b2 Z.length b3])]) (cs:=[str a3.1,i64 a9,i64 b0,zS b2 Z.length b3]) bs_108 rfl (by kernel_rfl)) ?_))));obtain ⟨f2,l1,s4,f3⟩:=aN.giveSp h6 (zR _) .head
   replace f3:aN G f2 (box d0 100 [i64 a9,i64 b0,zS b2 Z.length b3]::c1::nW c d::box b1 154 o::L) h5:=f3
   have s5:aN G f2 (box d0 100 [i64 a9,i64 b0,zS b2 Z.length b3]::bB 108 f2 a5 c6 n::nW c d::box b1 154 o::L) h5:=aN.weak (i:=1) f3 rfl (fun _ h=>bB.mono (zL b5 l1) h)
   exact cA
  refine aL (aA (bA (t':=2) kT rfl rfl) (aA (bO yQ f1 (i:=4) rfl rfl rfl) (aI (v:=i64 part) (aA (cD rfl rfl) ?_))));obtain ⟨m,h7,hm⟩:=aC hm
  refine aA (cQ jV rfl c5 rfl rfl rfl h7) ?_;obtain ⟨s6,l2,l3⟩:=cE.el (sz:=4) rfl c5 h7
  obtain ⟨d5,d6,rfl,s7⟩:=l3
  refine aA (eK (t:=0) (vs:=[i64 m.Kind,i64 m.Number,str m.Name,zS d5 m.Arguments.length d6]) tG f1 l2 rfl rfl rfl) (cR (vs:=[i64 0,i64 0,str ([]:bK),zS none 0 0]) zeroValue162 f1 rfl (fun l4 s8 l5=>(cO (i:=0) (ns:=[i64 m.Kind,i64 m.Number,str m.Name,zS d5 m.Arguments.length d6]) (us:=[i64 m.Kind,i64 m.Number,str m.Name,zS d5 m.Arguments.length d6]) sizeOf162 l5 rfl rfl rfl rfl rfl (dU rfl) rfl rfl (fun l6 (h8:aN G K (box l4 162 [i64 m.Kind,i64 m.Number,str m.Name,zS d5 m.Arguments.length d6]::box d0 100 [i64 k,i64 (wr (part+1)),zS a6 a4.length a7]::bB 2 K a6 a7 a4::box z 162 [i64 a.Kind,i64 a.Number,str a.Name,zS p a.Arguments.length q]::bB 2 K e9 f0 e8::box y 89 [str b.Name,i64 b.Parameters,zS j b.Body.length l]::c1::nW c d::box b1 154 o::L) l6)=>(aG (aL (aA (bA (t':=0) fE rfl rfl) (aA (bO dC h8 (i:=0) rfl rfl rfl) (aA (cX rfl rfl) (aG ?_))))))))))
  rcases aH hm with ⟨h9,hm⟩|⟨h9,hm⟩
  ·refine aM h9 rfl ?_;obtain ⟨l7,s9,t0,i0,t1⟩:=aN.lendBp h8 .head
   refine jJ (C:=fun w'=>∃ L',aN G l7 L' w') [(0,0),(1,0),(2,0),(3,0),(4,0),(5,1),(6,0),(7,2)] cB (by kernel_rfl) (fun _ hg=>⟨_,aN.mono i0 hg⟩) (fun t2 l8=>?_)
   have t3:=aN.mono i0 l8
   exact cA
  ·exact cA
 ·refine aJ e6 rfl (aL (aA (cX rfl rfl) (aD (v:=zB (a.Kind == 2)) (aG ?_))))
  rcases aH hm with ⟨f4,hm⟩|⟨f4,hm⟩
  ·refine aM f4 rfl (aL (aI (v:=zP (some ⟨b1,0,none⟩)) (aI (v:=i64 k) (aI (v:=i64 part) (aA (cD rfl rfl) (aI (v:=zS a8 e.length c9) ?_))))))
   have l9:aN G K (box z 162 [i64 a.Kind,i64 a.Number,str a.Name,zS p a.Arguments.length q]::box y 89 [str b.Name,i64 b.Parameters,zS j b.Body.length l]::b8::nW c d::box b1 154 o::L) c7:=aN.weak (i:=2) V rfl (fun _ h=>bB.mono b5 h)
   have m0:aN G K (b8::nW c d::box b1 154 o::box z 162 [i64 a.Kind,i64 a.Number,str a.Name,zS p a.Arguments.length q]::box y 89 [str b.Name,i64 b.Parameters,zS j b.Body.length l]::L) c7:=(aN.arr 5 [2,3,4,0,1] l9 rfl)
   obtain ⟨t4,m1,hm⟩:=aC hm
   refine aT (vs:=g4) call95 rfl (ih (Kf:=K) m1 m0 hG (zR _) h4 a1) ?_
   rintro _ t5 ⟨m2,t6,t7,rfl,d7,i1⟩
   refine aG (aV (aI (v:=zP (some ⟨b1,0,none⟩)) (aI (v:=i64 k) (aA (eH (us:=[str b.Name,i64 b.Parameters,zS j b.Body.length l]) aES i1 (i:=4) rfl rfl rfl rfl) (aI (v:=i64 part) (aA (cD rfl rfl) ?_))))));obtain ⟨m3,m4,hm⟩:=aC hm
   refine aT (vs:=[zA #[str b.Name,i64 b.Parameters,zS j b.Body.length l],i64 (wr (part+1))]) call141 rfl (aBo m4 i1 (c5.mono d7)) ?_
   rintro _ t8 ⟨rfl,m5⟩
   refine aI (v:=zS a8 e.length c9) ?_;obtain ⟨i2,m6,hm⟩:=aC hm
   refine aT (vs:=[zP (some ⟨b1,0,none⟩),i64 k,i64 m3,zS a8 e.length c9]) call95 rfl (ih (Kf:=m2) m6 m5 hG (zR _) (h4.mono d7) (a1.mono d7)) ?_
   rintro _ t9 ⟨m7,m8,m9,rfl,n0,n1⟩
   exact cC (bM (aB ⟨aU,m7,i2.1,i2.2,m8,m9,(zL d7 n0),hm,(aN.arr 5 [0,1,2] n1 rfl)⟩))
  ·refine aJ f4 rfl (aL (aA (cX rfl rfl) (aD (v:=zB (a.Kind == 3)) (aG ?_))))
   rcases aH hm with ⟨f5,hm⟩|⟨f5,hm⟩
   ·refine aM f5 rfl (aL (aA (bA (t':=3) jC rfl rfl) (aA (bO pQ V (i:=0) rfl rfl rfl) ?_)));obtain ⟨n2,i3,hm⟩:=aC hm
    refine aA (cQ jR rfl e3 rfl rfl rfl i3) ?_;obtain ⟨u0,n3,n4⟩:=cE.el (sz:=1) rfl e3 i3
    obtain ⟨n5,n6,rfl,n7⟩:=n4
    refine aA (bX (t:=0) aFm V n3 rfl rfl) (aI (v:=zS a8 e.length c9) ?_);obtain ⟨u1,n8,hm⟩:=aC hm
    refine aT (vs:=[zS n5 n2.length n6,zS a8 e.length c9]) call142 rfl (aGX n8 V n7 a1) ?_
    rintro _ f6 ⟨rfl,i4⟩
    refine aA (gL rfl rfl) (aG ?_)
    rcases aH hm with ⟨f7,hm⟩|⟨f7,hm⟩
    ·refine aM f7 rfl (aV (aI (v:=zP (some ⟨b1,0,none⟩)) (aI (v:=i64 k) (aI (v:=i64 part) (aA (cD rfl rfl) (aI (v:=zS a8 e.length c9) ?_))))))
     have n9:aN G K (box z 162 [i64 a.Kind,i64 a.Number,str a.Name,zS p a.Arguments.length q]::box y 89 [str b.Name,i64 b.Parameters,zS j b.Body.length l]::b8::nW c d::box b1 154 o::L) f6:=aN.weak (i:=2) i4 rfl (fun _ h=>bB.mono b5 h)
     have o0:aN G K (b8::nW c d::box b1 154 o::box z 162 [i64 a.Kind,i64 a.Number,str a.Name,zS p a.Arguments.length q]::box y 89 [str b.Name,i64 b.Parameters,zS j b.Body.length l]::L) f6:=(aN.arr 5 [2,3,4,0,1] n9 rfl)
     obtain ⟨i5,o1,hm⟩:=aC hm
     refine aT (vs:=g4) call95 rfl (ih (Kf:=K) o1 o0 hG (zR _) h4 a1) ?_
     rintro _ u2 ⟨o2,o3,o4,rfl,o5,o6⟩
     exact cC (bM (aB ⟨aU,o2,i5.1,i5.2,o3,o4,o5,hm,(aN.arr 5 [0,1,2] o6 rfl)⟩))
    ·refine aJ f7 rfl ?_
     have o7:aN G K (box z 162 [i64 a.Kind,i64 a.Number,str a.Name,zS p a.Arguments.length q]::box y 89 [str b.Name,i64 b.Parameters,zS j b.Body.length l]::b8::nW c d::box b1 154 o::L) f6:=aN.weak (i:=2) i4 rfl (fun _ h=>bB.mono b5 h)
     exact aW (bM (aB ⟨aU,K,n,d,a5,c6,(zR _),hm,(aN.arr 2 [] o7 rfl)⟩))
   ·refine aJ f5 rfl (aL (aA (cX rfl rfl) (aD (v:=zB (a.Kind == 4)) (aG ?_))))
    rcases aH hm with ⟨f8,hm⟩|⟨f8,hm⟩
    ·refine aM f8 rfl (aL (aA (bA (t':=1) jW rfl rfl) (aA (bO dC V (i:=0) rfl rfl rfl) (aA (cD rfl rfl) (aI (v:=i64 0) (aG (bR [] (fun f w=>∃ d1 d2 d8 d9 e0,Hp.le K d1/\oV d2 d8=some R/\aN G d1 (bB 108 d1 d9 e0 d2::nW c d8::box b1 154 [zS a2 g.length c3,zS d9 d2.length e0,zM (some c)]::L) w) ?_ ?_)))))))
     ·rintro f u3 ⟨d1,d2,d8,d9,e0,o8,hm,o9⟩
      unfold oV at hm
      exact bM (aB ⟨aU,d1,d2,d8,d9,e0,o8,hm,o9⟩)
     have p0:aN G K (box z 162 [i64 a.Kind,i64 a.Number,str a.Name,zS p a.Arguments.length q]::box y 89 [str b.Name,i64 b.Parameters,zS j b.Body.length l]::b8::nW c d::box b1 154 o::L) c7:=aN.weak (i:=2) V rfl (fun _ h=>bB.mono b5 h)
     obtain ⟨u4,p1,ho⟩:=aC hm
     refine mL [0,1,2,3,103] p1 (fun r b4 a0 f w=>∃ J u x,Hp.le K J/\f 104=i64 a0/\aN G J (bB 108 J u x r::nW c b4::box b1 154 [zS a2 g.length c3,zS u r.length x,zM (some c)]::L) w) ?_ ?_
     ·exact ⟨K,a5,c6,(zR _),rfl,(aN.arr 2 [] p0 rfl)⟩
     ·rintro r b4 a0 u5 f u6 hm hr ⟨J,u,x,b9,f9,i6⟩
      unfold gN at hm
      refine aL (aA (cM f9 rfl) (aG (aO ?_)))
      rcases aH hm with ⟨g0,hm⟩|⟨g0,hm⟩
      ·refine aM g0 rfl (aW (aB (aO (bZ (aL (bG f9 (aD (v:=i64 a0) (aG (aV (aI (v:=zP (some ⟨b1,0,none⟩)) (aI (v:=i64 k) (aI (v:=i64 part) (aA (cD rfl rfl) (aI (v:=zS a8 e.length c9) ?_))))))))))))));obtain ⟨p2,p3,hm⟩:=aC hm
       refine aT (vs:=[zS a8 e.length c9]) call92 rfl (jT p3 i6 (a1.mono b9)) ?_
       rintro _ u7 ⟨p4,p5,rfl,p6⟩
       refine aI (v:=i64 a0) (eL (Kt:=K) (xs:=([a0]:List Int)) (cs:=[i64 a0]) (vs:=[(0,i64 a0)]) gF aFx rfl rfl p6 rfl (by kernel_rfl) rfl rfl rfl ⟨rfl,trivial⟩ (fun p7 p8 (p9:aN G J (bB 2 K p7 1 ([a0]:List Int)::bB 2 K p4 p5 p2::bB 108 J u x r::nW c b4::box b1 154 [zS a2 g.length c3,zS u r.length x,zM (some c)]::L) p8)=>?_));obtain ⟨i7,q0,hm⟩:=aC hm
       refine lL (i:=0) gF underlying78 aFx rfl rfl p9 rfl b9 b9 q0 rfl rfl rfl rfl (fun _ h=>h) (fun i8 i9 g1 (q1:aN G J (bB 2 K i8 i9 i7::bB 108 J u x r::nW c b4::box b1 154 [zS a2 g.length c3,zS u r.length x,zM (some c)]::L) g1)=>?_);obtain ⟨e1,g2,q2,g3⟩:=aN.giveSp q1 b9 .head
       replace g3:aN G e1 (bB 108 J u x r::nW c b4::box b1 154 [zS a2 g.length c3,zS u r.length x,zM (some c)]::L) g1:=g3
       have q3:aN G e1 (bB 108 e1 u x r::nW c b4::box b1 154 [zS a2 g.length c3,zS u r.length x,zM (some c)]::L) g1:=aN.weak (i:=0) g3 rfl (fun _ h=>bB.mono g2 h)
       obtain ⟨u8,q4,hm⟩:=aC hm
       refine aT (vs:=[zP (some ⟨b1,0,none⟩),i64 k,i64 (wr (part+1)),zS i8 i7.length i9]) call95 rfl (ih (Kf:=e1) q4 q3 hG (zR _) (h4.mono (zL b9 g2)) q2) ?_
       rintro _ u9 ⟨q5,q6,q7,rfl,q8,q9⟩
       exact cC (bM (aB (aV (aA (cD f9 rfl) (aI (v:=i64 (wr (a0+1))) (aG ⟨_,(zI hm).symm,aU,q5,q6,q7,(zL (zL b9 g2) q8),rfl,q9⟩))))))
      ·refine aJ g0 rfl (cL (bF (bF ?_)))
       have r0:=hr _ (zI hm).symm
       subst r0
       have hm:(oV r b4)=some R:=ho
       clear hr ho
       exact bU (aB ⟨aU,J,r,b4,u,x,b9,hm,i6⟩)
    ·refine aJ f8 rfl ?_
     have r1:aN G K (box z 162 [i64 a.Kind,i64 a.Number,str a.Name,zS p a.Arguments.length q]::box y 89 [str b.Name,i64 b.Parameters,zS j b.Body.length l]::b8::nW c d::box b1 154 o::L) c7:=aN.weak (i:=2) V rfl (fun _ h=>bB.mono b5 h)
     exact aW (bM (aB ⟨aU,K,n,d,a5,c6,(zR _),hm,(aN.arr 2 [] r1 rfl)⟩))
theorem aFr (n:Nat):∀ {G:pJ} {K:Hp} {L:List hQ} {w:World} {Kf:Hp} {b1:Nat} {a:(List Definition)} {a2:Option Addr} {c3:Nat} {c:(List dM)} {a5:Option Addr} {c6:Nat} {l:(List (bK × Bool))} {b:Nat} {k:Int} {part:Int} {d:(List Int)} {a8:Option Addr} {c9:Nat} {R:((List dM) × (List (bK × Bool)))} (hm:cG n a c l k part d=some R) (e:aN G K (bB 108 Kf a5 c6 c::nW b l::box b1 154 [zS a2 a.length c3,zS a5 c.length c6,zM (some b)]::L) w) (g:G.lo=0) (h:Hp.le Kf K) (i:cE K a2 c3 a) (j:cE K a8 c9 d),
  Calls prog 95 ([zP (some ⟨b1,0,none⟩),i64 k,i64 part,zS a8 d.length c9]:List Value).toArray w (eR fun v w'=>∃ m o p,v=zT #[]/\Hp.le K m/\aN G m (bB 108 m o p R.1::nW b R.2::box b1 154 [zS a2 a.length c3,zS o R.1.length p,zM (some b)]::L) w'):=by
 induction n with
 |zero=>
  intro G K L w Kf b1 a a2 c3 c a5 c6 l b k part d a8 c9 R hm e g h i j
  unfold cG at hm
  cases hm
 |succ n ih=>
  intro G K L w Kf b1 a a2 c3 c a5 c6 l b k part d a8 c9 R hm e g h i j
  exact aFq (rec_:=cG n) (fun hm e g h i j=>ih hm e g h i j) hm e g h i j
theorem aGF {x0_:(List Definition)} {x1_:(List dM)} {x2_M:(List (bK × Bool))} {r7:Nat} {k part:Int} {values:(List Int)} {R:((List dM) × (List (bK × Bool)))} (hm:aAS x0_ x1_ x2_M k part values=some R) (hs:aN G K (bB 108 Kf a5 c6 x1_::nW r7 x2_M::box b1 154 [zS a2 x0_.length c3,zS a5 x1_.length c6,zM (some r7)]::L) w) (hG:G.lo=0) (hKf:Hp.le Kf K) (h4:cE K a2 c3 x0_) (h10:cE K a8 c9 values):
  Calls prog 95 ([zP (some ⟨b1,0,none⟩),i64 k,i64 part,zS a8 values.length c9]:List Value).toArray w (eR fun v w'=>∃ K' ra1 rc1,v=zT #[]/\Hp.le K K'/\aN G K' (bB 108 K' ra1 rc1 R.1::nW r7 R.2::box b1 154 [zS a2 x0_.length c3,zS ra1 R.1.length rc1,zM (some r7)]::L) w'):=aFr 100000 hm hs hG hKf h4 h10
theorem aPV {a:(List Definition)} {p:bS} {R:((List dM) × Bool)} (hm:aGz a p=some R) (k:aN G K (L) w) (q:G.lo=0) (r:cE K a1 c2 a) (t:cE K a4 c5 p.Values):
  Calls prog 53 ([zS a1 a.length c2,zA #[i64 p.Definition,i64 p.Part,zS a4 p.Values.length c5]]:List Value).toArray w (eR fun v w'=>∃ d e g,v=zT #[zS e R.1.length g,zB R.2]/\Hp.le K d/\aN G d (bB 108 d e g R.1::L) w'):=by
 let h:=[i64 p.Definition,i64 p.Part,zS a4 p.Values.length c5]
 refine aQ func53 rfl (by kernel_rfl) (by show (2:Nat)<=29;decide) ?_;unfold aGz at hm
 refine aL (dQ (v:=zA #[i64 p.Definition,i64 p.Part,zS a4 p.Values.length c5]) (vs:=h) k rfl rfl (fun l u m=>(aD (v:=zS none 0 0) (aD (v:=zB false) (aG (aL (aI (v:=zS a1 a.length c2) (aQE bK Bool m ?_))))))))
 intro b n (o:aN G K (nW b ([]:(List (bK × Bool)))::box l 100 h::L) n)
 refine aA (iA (vs:=[(0,zS a1 a.length c2),(2,zM (some b))]) (cs:=[zS a1 a.length c2,zS none 0 0,zM (some b)]) bs_154 rfl (by kernel_rfl)) (dQ (v:=zA #[zS a1 a.length c2,zS none 0 0,zM (some b)]) (vs:=[zS a1 a.length c2,zS none 0 0,zM (some b)]) o rfl rfl (fun j x c=>(aD (v:=zP (some ⟨j,0,none⟩)) (aG (aL (aI (v:=zP (some ⟨j,0,none⟩)) (aA (bA (t':=0) aHq rfl rfl) (aA (bO dC c (i:=2) rfl rfl rfl) (aA (bA (t':=1) aHr rfl rfl) (aA (bO dC c (i:=2) rfl rfl rfl) (aA (bA (t':=2) aHs rfl rfl) (aA (bO aCq c (i:=2) rfl rfl rfl) ?_))))))))))))
 have y:=aN.nil (α:=dM) c 108 K
 exact cA
theorem jN {b:(List bS)} {e:(List (bK × Int))} {c:Nat} {a:(List vQ)} {s_:bS} {R:(Int × (List bS) × (List (bK × Int)))} (hm:gC b e a s_=some R) (hs:aN G K (bB 100 Kf a2 c3 b::nW c e::bB 146 K a5 c6 a::box b1 143 [zS a2 b.length c3,zM (some c),zS a5 a.length c6,Value.func (.func 51) #[] #[]]::L) w) (hG:G.lo=0) (b3:Hp.le Kf K) (q:cE Kf a7 c8 s_.Values):
  Calls prog 87 ([zP (some ⟨b1,0,none⟩),zA #[i64 s_.Definition,i64 s_.Part,zS a7 s_.Values.length c8]]:List Value).toArray w (eR fun v w'=>∃ r u,v=i64 R.1/\aN G K (bB 100 Kf r u R.2.1::nW c R.2.2::bB 146 K a5 c6 a::box b1 143 [zS r R.2.1.length u,zM (some c),zS a5 a.length c6,Value.func (.func 51) #[] #[]]::L) w'):=by
 let g:=[i64 s_.Definition,i64 s_.Part,zS a7 s_.Values.length c8]
 let x:=[zA #[i64 s_.Definition,i64 s_.Part,zS a7 s_.Values.length c8]]
 refine aQ func87 rfl (by kernel_rfl) (by show (2:Nat)<=47;decide) ?_;unfold gC at hm
 refine aL (dQ (v:=zA #[i64 s_.Definition,i64 s_.Part,zS a7 s_.Values.length c8]) (vs:=g) hs rfl rfl (fun b4 e5 b5=>(aD (v:=i64 0) (aG (aO ?_)))));obtain ⟨e6,b6,b7,b8,b9⟩:=aN.lendBp b5 .head
 obtain ⟨c0,y,c1,J,c2⟩:=aN.lendBp b8 zt3
 refine jJ (C:=fun w'=>∃ L',aN G c0 L' w') [(0,0),(1,0),(2,0),(3,0),(4,0),(5,1),(6,0)] cB (by kernel_rfl) (fun _ hg=>⟨_,aN.mono J hg⟩) (fun e7 c4=>?_)
 have j:=aN.mono J c4
 refine dV rfl (fun _ _=>bJ (v:=zP (some ⟨b1,0,none⟩)) rfl) (dV rfl (fun _ _=>lS rfl) (dV rfl (fun _ _=>bA (t':=3) aTh rfl rfl) (dV rfl (fun _ ⟨_,j⟩=>bX (t:=3) sc_102 j c1 rfl rfl) (dV rfl (fun _ ⟨_,j⟩=>eK (t:=0) (vs:=g) aAe j (b7.mono y) rfl rfl rfl) (pP rfl ?_)))));obtain ⟨d,c5,hm⟩:=aC hm
 refine rQ (vs:=x) (caps:=[]) (us:=x) rfl call51 rfl rfl (aGW c5 j hG (q.mono (zL (zL b3 b6) y))) ?_
 rintro _ e8 ⟨rfl,V⟩
 refine cC (aB ⟨⟨_,V⟩,?_⟩)
 refine dV rfl (fun _ _=>gM (v:=str d) rfl) (sQ ?_)
 have c7:=c2 _ _ V
 have l:=b9 _ _ c7
 refine aB (aL (aI (v:=zP (some ⟨b1,0,none⟩)) (aA (lS rfl) (aA (bA (t':=1) aQR rfl rfl) (aA (bO sc_140 l (i:=1) rfl rfl rfl) (aI (v:=str d) (aA (R_look (kv:=e) (k:=d) (z:=(0:Int)) runUnderlying140 ko_9 zeroValue2 l (i:=3) rfl rfl rfl) (aI (v:=zT #[i64 ((oG e d).getD 0),zB ((oG e d).isSome)]) (aA (dF rfl rfl) (aA (dF rfl rfl) (aD (v:=i64 ((oG e d).getD 0)) (aD (v:=zB ((oG e d).isSome)) (aG (aAa [] (fun f w=>∃ Z n a0 a1 a3,gH Z n a0=some R/\f 6=i64 Z/\aN G K (bB 100 Kf a1 a3 n::box b1 143 [zS a1 n.length a3,zM (some c),zS a5 a.length c6,Value.func (.func 51) #[] #[]]::nW c a0::bB 146 K a5 c6 a::L) w) cA (aL (aI (v:=zB ((oG e d).isSome)) (aA (dA rfl) (aG ?_))))))))))))))))))
 rcases aH hm with ⟨a4,hm⟩|⟨a4,hm⟩
 ·refine aM a4 rfl (aL (aI (v:=zP (some ⟨b1,0,none⟩)) (aA (lS rfl) (aA (bA (t':=0) aCr rfl rfl) (aA (bO aML l (i:=1) rfl rfl rfl) (aA (bQ (len:=b.length) sT rfl) (aD (v:=i64 (b.length:Int)) (aG (aL (aI (v:=zP (some ⟨b1,0,none⟩)) (aA (lS rfl) (aA (bA (t':=1) aQR rfl rfl) (aA (bO sc_140 l (i:=1) rfl rfl rfl) (aI (v:=str d) (aI (v:=i64 (b.length:Int)) ?_)))))))))))))));obtain ⟨o,c9,hm⟩:=aC hm
  refine aQF (i:=3) (k:=d) (v:=(b.length:Int)) runUnderlying140 ko_9 l rfl rfl rfl rfl c9 (fun d0 (d1:aN G K (box b4 100 g::box b1 143 [zS a2 b.length c3,zM (some c),zS a5 a.length c6,Value.func (.func 51) #[] #[]]::bB 100 Kf a2 c3 b::nW c o::bB 146 K a5 c6 a::L) d0)=>(aG ?_));obtain ⟨e9,f0,d2,d3,f1⟩:=aN.lendBp d1 .head
  obtain ⟨p,d4,d5,a6,d6⟩:=aN.lendBp d3 .head
  refine jJ (C:=fun w'=>∃ L',aN G p L' w') [(0,0),(1,0),(2,0),(3,0),(4,0),(5,1),(6,1),(7,1),(8,2),(9,2),(10,2)] cB (by kernel_rfl) (fun _ hg=>⟨_,aN.mono a6 hg⟩) (fun f2 d7=>?_)
  have m:=aN.mono a6 d7
  refine dV rfl (fun _ _=>bJ (v:=zP (some ⟨b1,0,none⟩)) rfl) (dV rfl (fun _ _=>bJ (v:=zP (some ⟨b1,0,none⟩)) rfl) (dV rfl (fun _ _=>lS rfl) (dV rfl (fun _ _=>bA (t':=0) aCr rfl rfl) (dV rfl (fun _ ⟨_,m⟩=>bX (t:=0) aML m d5 rfl rfl) (pP rfl (aA (eK (t:=0) (vs:=g) aAe m (d2.mono d4) rfl rfl rfl) (cC (aB ⟨⟨_,m⟩,?_⟩))))))))
  refine pP rfl (eL (Kt:=Kf) (xs:=([s_]:List bS)) (cs:=g) (vs:=[(0,zA #[i64 s_.Definition,i64 s_.Part,zS a7 s_.Values.length c8])]) sT aFn rfl rfl m rfl (by kernel_rfl) rfl rfl rfl ⟨⟨a7,c8,rfl,q⟩,trivial⟩ (fun d8 d9 (a8:aN G p (bB 100 Kf d8 1 ([s_]:List bS)::bB 100 Kf a2 c3 b::nW c o::bB 146 K a5 c6 a::L) d9)=>(cC (aB ⟨⟨_,a8⟩,?_⟩))))
  refine pP rfl ?_;obtain ⟨e0,e1,hm⟩:=aC hm
  refine aBJ (i:=0) Kf sT underlying96 aFn rfl rfl a8 rfl (zR _) (zR _) e1 rfl rfl rfl rfl (fun _ _ _ h=>El.one h) (fun e2 e3 e4 (a9:aN G p (bB 100 Kf e2 e3 e0::nW c o::bB 146 K a5 c6 a::L) e4)=>(cC (aB ⟨⟨_,a9⟩,?_⟩)))
  have f3:=d6 _ _ a9
  exact cA
 ·exact cA
theorem aBz {d:bK} {g:bS} {b1:(List bS)} {b9:(List (bK × Int))} {b:Nat} {m:(List vQ)} {p:Int} {c0:Nat} {R:((List bS) × (List (bK × Int)) × (List vQ))} (hm:jD d g b1 b9 m p=some R) (hs:aN G K (bB 100 Kf a6 c7 b1::nW b b9::bB 146 K a9 c10 m::box b5 143 [zS a6 b1.length c7,zM (some b),zS a9 m.length c10,Value.func (.func 51) #[] #[]]::box b4 139 [zP (some ⟨b5,0,none⟩)]::L) w) (hG:G.lo=0) (c3:Hp.le Kf K) (h3:cE Kf a1 c2 g.Values) (e3:iR K a11 c0 [i64 p]):
  Calls prog 88 ([str d,zA #[i64 g.Definition,i64 g.Part,zS a1 g.Values.length c2],zP (some ⟨b4,0,none⟩),eJ a11 c0]:List Value).toArray w (eR fun v w'=>∃ c5 c6 c8 c9,v=zT #[]/\aN G K (bB 100 Kf c5 c6 R.1::nW b R.2.1::bB 146 K c8 c9 R.2.2::box b5 143 [zS c5 R.1.length c6,zM (some b),zS c8 R.2.2.length c9,Value.func (.func 51) #[] #[]]::box b4 139 [zP (some ⟨b5,0,none⟩)]::L) w'):=by
 let d0:=[zP (some ⟨b5,0,none⟩),zA #[i64 g.Definition,i64 g.Part,zS a1 g.Values.length c2]]
 let d1:=[i64 g.Definition,i64 g.Part,zS a1 g.Values.length c2]
 refine aQ func88 rfl (by kernel_rfl) (by show (4:Nat)<=21;decide) ?_;unfold jD at hm
 refine aL (dQ (v:=zA #[i64 g.Definition,i64 g.Part,zS a1 g.Values.length c2]) (vs:=d1) hs rfl rfl (fun g6 g7 e4=>(aG (cW [] (fun f w=>∃ b2 d2 b3 d3 d4 d5 d6,jO b2 d2 b3=some R/\aN G K (bB 146 K d5 d6 b3::bB 100 Kf d3 d4 b2::nW b d2::box b5 143 [zS d3 b2.length d4,zM (some b),zS d5 b3.length d6,Value.func (.func 51) #[] #[]]::box b4 139 [zP (some ⟨b5,0,none⟩)]::L) w) cA ?_))));obtain ⟨g8,q,e5,e6,g9⟩:=aN.lendBp e4 .head
 obtain ⟨n,o,b6,e7,b7⟩:=aN.lendBp e6 zt4
 refine aKw (C:=fun w'=>∃ L',aN G n L' w') [] cB (by kernel_rfl) (fun h0 e8=>?_)
 have c:=aN.mono e7 e8
 refine tD (i:=0) rfl (by kernel_rfl) ⟨_,c⟩ (fun _ ⟨_,c⟩=>bX (t:=0) aEb c b6 rfl rfl) (tD (i:=1) rfl (by kernel_rfl) ⟨_,c⟩ (fun _ ⟨_,c⟩=>bX (t:=0) aEb c b6 rfl rfl) (tD (i:=2) rfl (by kernel_rfl) ⟨_,c⟩ (fun _ _=>lS rfl) (tD (i:=3) rfl (by kernel_rfl) ⟨_,c⟩ (fun _ _=>bA (t':=2) aFA rfl rfl) (tD (i:=5) rfl (by kernel_rfl) ⟨_,c⟩ (fun _ ⟨_,c⟩=>bX (t:=0) sc_3 c (e3.mono (zL q o)) rfl rfl) (tD (i:=6) rfl (by kernel_rfl) ⟨_,c⟩ (fun _ _=>bJ (v:=str d) rfl) (tD (i:=7) rfl (by kernel_rfl) ⟨_,c⟩ (fun _ ⟨_,c⟩=>bX (t:=0) aEb c b6 rfl rfl) (tD (i:=8) rfl (by kernel_rfl) ⟨_,c⟩ (fun _ ⟨_,c⟩=>eK (t:=0) (vs:=d1) aAe c (e5.mono o) rfl rfl rfl) (aMm (i:=4) (j:=9) (by kernel_rfl) rfl rfl ?_ ?_))))))))
 ·refine aA (bO aMM c (i:=3) rfl rfl rfl) (cC (aB ⟨fun _=>⟨_,c⟩,?_⟩))
  refine lM (i:=9) (by kernel_rfl) rfl ?_;obtain ⟨e,e9,hm⟩:=aC hm
  refine aT (vs:=d0) call87 rfl (jN (Kf:=Kf) e9 c hG (zL (zL c3 q) o) h3) ?_
  rintro _ h1 ⟨r,u,rfl,b8⟩
  refine cC (aB ⟨fun _=>⟨_,b8⟩,?_⟩)
  refine tD (i:=10) rfl (by kernel_rfl) ⟨_,b8⟩ (fun _ _=>iA (vs:=[(0,i64 p),(1,str d),(2,i64 e.1)]) (cs:=[i64 p,str d,i64 e.1]) bs_146 rfl (by kernel_rfl)) (lM (i:=11) (by kernel_rfl) rfl (eL (Kt:=K) (xs:=([⟨p,d,e.1⟩]:List vQ)) (cs:=[i64 p,str d,i64 e.1]) (vs:=[(0,zA #[i64 p,str d,i64 e.1])]) aFo aKD rfl rfl b8 rfl (by kernel_rfl) rfl rfl rfl ⟨rfl,trivial⟩ (fun f0 f1 (d7:aN G n (bB 146 K f0 1 ([⟨p,d,e.1⟩]:List vQ)::bB 100 Kf r u e.2.1::nW b e.2.2::bB 146 K a9 c10 m::box b5 143 [zS r e.2.1.length u,zM (some b),zS a9 m.length c10,Value.func (.func 51) #[] #[]]::L) f1)=>(cC (aB ⟨fun _=>⟨_,d7⟩,?_⟩)))))
  refine lM (i:=12) (by kernel_rfl) rfl ?_;obtain ⟨y,f2,hm⟩:=aC hm
  refine lL (i:=2) aFo underlying141 aKD rfl rfl d7 rfl (zL q o) (zL q o) f2 rfl rfl rfl rfl (fun _ h=>h) (fun z J f3 (a5:aN G n (bB 100 Kf r u e.2.1::nW b e.2.2::bB 146 K z J y::box b5 143 [zS r e.2.1.length u,zM (some b),zS a9 m.length c10,Value.func (.func 51) #[] #[]]::L) f3)=>(cC (aB ⟨fun _=>⟨_,a5⟩,?_⟩)))
  refine tD (i:=13) rfl (by kernel_rfl) ⟨_,a5⟩ (fun _ _=>lS rfl) (tD (i:=14) rfl (by kernel_rfl) ⟨_,a5⟩ (fun _ _=>bA (t':=2) aFA rfl rfl) (lM (i:=15) (by kernel_rfl) rfl (cO (i:=3) (ns:=[zS z y.length J]) (us:=[zS r e.2.1.length u,zM (some b),zS z y.length J,Value.func (.func 51) #[] #[]]) sizeOf141 a5 rfl rfl rfl rfl rfl (dU rfl) rfl rfl (fun f4 (d8:aN G n (bB 100 Kf r u e.2.1::nW b e.2.2::bB 146 K z J y::box b5 143 [zS r e.2.1.length u,zM (some b),zS z y.length J,Value.func (.func 51) #[] #[]]::L) f4)=>(cC (aB ⟨fun _=>⟨_,d8⟩,?_⟩))))))
  refine aGl (by kernel_rfl) ?_
  have h2:=b7 _ _ d8
  exact cA
 ·obtain ⟨a,f5,hm⟩:=aC hm
  refine aT (vs:=d0) call87 rfl (jN (Kf:=Kf) f5 c hG (zL (zL c3 q) o) h3) ?_
  rintro _ h4 ⟨k,l,rfl,x⟩
  refine cC (aB ⟨fun _=>⟨_,x⟩,?_⟩)
  refine tD (i:=10) rfl (by kernel_rfl) ⟨_,x⟩ (fun _ _=>iA (vs:=[(0,i64 p),(1,str d),(2,i64 a.1)]) (cs:=[i64 p,str d,i64 a.1]) bs_146 rfl (by kernel_rfl)) (aMm (i:=4) (j:=11) (by kernel_rfl) rfl rfl ?_ ?_)
  ·refine aA (bO aMM x (i:=3) rfl rfl rfl) (cC (aB ⟨fun _=>⟨_,x⟩,?_⟩))
   refine lM (i:=11) (by kernel_rfl) rfl (eL (Kt:=K) (xs:=([⟨p,d,a.1⟩]:List vQ)) (cs:=[i64 p,str d,i64 a.1]) (vs:=[(0,zA #[i64 p,str d,i64 a.1])]) aFo aKD rfl rfl x rfl (by kernel_rfl) rfl rfl rfl ⟨rfl,trivial⟩ (fun f6 f7 (d9:aN G n (bB 146 K f6 1 ([⟨p,d,a.1⟩]:List vQ)::bB 100 Kf k l a.2.1::nW b a.2.2::bB 146 K a9 c10 m::box b5 143 [zS k a.2.1.length l,zM (some b),zS a9 m.length c10,Value.func (.func 51) #[] #[]]::L) f7)=>(cC (aB ⟨fun _=>⟨_,d9⟩,?_⟩))))
   refine lM (i:=12) (by kernel_rfl) rfl ?_;obtain ⟨V,f8,hm⟩:=aC hm
   refine lL (i:=2) aFo underlying141 aKD rfl rfl d9 rfl (zL q o) (zL q o) f8 rfl rfl rfl rfl (fun _ h=>h) (fun Z a0 f9 (a7:aN G n (bB 100 Kf k l a.2.1::nW b a.2.2::bB 146 K Z a0 V::box b5 143 [zS k a.2.1.length l,zM (some b),zS a9 m.length c10,Value.func (.func 51) #[] #[]]::L) f9)=>(cC (aB ⟨fun _=>⟨_,a7⟩,?_⟩)))
   refine tD (i:=13) rfl (by kernel_rfl) ⟨_,a7⟩ (fun _ _=>lS rfl) (tD (i:=14) rfl (by kernel_rfl) ⟨_,a7⟩ (fun _ _=>bA (t':=2) aFA rfl rfl) (lM (i:=15) (by kernel_rfl) rfl (cO (i:=3) (ns:=[zS Z V.length a0]) (us:=[zS k a.2.1.length l,zM (some b),zS Z V.length a0,Value.func (.func 51) #[] #[]]) sizeOf141 a7 rfl rfl rfl rfl rfl (dU rfl) rfl rfl (fun g0 (e0:aN G n (bB 100 Kf k l a.2.1::nW b a.2.2::bB 146 K Z a0 V::box b5 143 [zS k a.2.1.length l,zM (some b),zS Z V.length a0,Value.func (.func 51) #[] #[]]::L) g0)=>(cC (aB ⟨fun _=>⟨_,e0⟩,?_⟩))))))
   refine aGl (by kernel_rfl) ?_
   have h5:=b7 _ _ e0
   exact cA
  ·refine eL (Kt:=K) (xs:=([⟨p,d,a.1⟩]:List vQ)) (cs:=[i64 p,str d,i64 a.1]) (vs:=[(0,zA #[i64 p,str d,i64 a.1])]) aFo aKD rfl rfl x rfl (by kernel_rfl) rfl rfl rfl ⟨rfl,trivial⟩ (fun g1 g2 (a8:aN G n (bB 146 K g1 1 ([⟨p,d,a.1⟩]:List vQ)::bB 100 Kf k l a.2.1::nW b a.2.2::bB 146 K a9 c10 m::box b5 143 [zS k a.2.1.length l,zM (some b),zS a9 m.length c10,Value.func (.func 51) #[] #[]]::L) g2)=>(cC (aB ⟨fun _=>⟨_,a8⟩,?_⟩)))
   refine lM (i:=4) (by kernel_rfl) rfl (aA (bO aMM a8 (i:=4) rfl rfl rfl) (cC (aB ⟨fun _=>⟨_,a8⟩,?_⟩)))
   refine lM (i:=12) (by kernel_rfl) rfl ?_;obtain ⟨a2,g3,hm⟩:=aC hm
   refine lL (i:=2) aFo underlying141 aKD rfl rfl a8 rfl (zL q o) (zL q o) g3 rfl rfl rfl rfl (fun _ h=>h) (fun a3 a4 g4 (b0:aN G n (bB 100 Kf k l a.2.1::nW b a.2.2::bB 146 K a3 a4 a2::box b5 143 [zS k a.2.1.length l,zM (some b),zS a9 m.length c10,Value.func (.func 51) #[] #[]]::L) g4)=>(cC (aB ⟨fun _=>⟨_,b0⟩,?_⟩)))
   refine tD (i:=13) rfl (by kernel_rfl) ⟨_,b0⟩ (fun _ _=>lS rfl) (tD (i:=14) rfl (by kernel_rfl) ⟨_,b0⟩ (fun _ _=>bA (t':=2) aFA rfl rfl) (lM (i:=15) (by kernel_rfl) rfl (cO (i:=3) (ns:=[zS a3 a2.length a4]) (us:=[zS k a.2.1.length l,zM (some b),zS a3 a2.length a4,Value.func (.func 51) #[] #[]]) sizeOf141 b0 rfl rfl rfl rfl rfl (dU rfl) rfl rfl (fun g5 (e1:aN G n (bB 100 Kf k l a.2.1::nW b a.2.2::bB 146 K a3 a4 a2::box b5 143 [zS k a.2.1.length l,zM (some b),zS a3 a2.length a4,Value.func (.func 51) #[] #[]]::L) g5)=>(cC (aB ⟨fun _=>⟨_,e1⟩,?_⟩))))))
   refine aGl (by kernel_rfl) ?_
   have h6:=b7 _ _ e1
   exact cA
theorem aCS {p:bS} {x:(List bS)} {Z:(List (bK × Int))} {c:Nat} {y:(List vQ)} {b2:Int} {z:Nat} {d:cP} {a0:Nat} {R:(Bool × (List bS) × (List (bK × Int)) × (List vQ))} (hm:gP p x Z y b2 d=some R) (hs:aN G K (bB 100 Kf a6 c7 x::nW c Z::bB 146 K a9 c10 y::box b5 143 [zS a6 x.length c7,zM (some c),zS a9 y.length c10,Value.func (.func 51) #[] #[]]::box b4 139 [zP (some ⟨b5,0,none⟩)]::L) w) (hG:G.lo=0) (d4:Hp.le Kf K) (h3:cE K a1 c2 p.Values) (d6:iR K a11 z [i64 b2]) (b6:iR K a14 a0 [zS a17 d.Definitions.length c18,zS a20 d.Components.length c21,zS a23 d.Meetings.length c24,zS a26 d.Allowed.length c27,zS a29 d.Hidden.length c30]) (d7:cE K a17 c18 d.Definitions) (f0:cE K a20 c21 d.Components) (f1:cE K a23 c24 d.Meetings) (f2:cE K a26 c27 d.Allowed) (f3:cE K a29 c30 d.Hidden):
  Calls prog 52 ([zA #[i64 p.Definition,i64 p.Part,zS a1 p.Values.length c2],Value.func (.func 88) #[] #[zP (some ⟨b4,0,none⟩),eJ a11 z],eJ a14 a0]:List Value).toArray w (eR fun v w'=>∃ K' b7 b8 b9 c0,v=zB R.1/\Hp.le K K'/\aN G K' (bB 100 K' b7 b8 R.2.1::nW c R.2.2.1::bB 146 K b9 c0 R.2.2.2::box b5 143 [zS b7 R.2.1.length b8,zM (some c),zS b9 R.2.2.2.length c0,Value.func (.func 51) #[] #[]]::box b4 139 [zP (some ⟨b5,0,none⟩)]::L) w'):=by
 let a3:=[i64 p.Definition,i64 p.Part,zS a1 p.Values.length c2]
 let J:=[zP (some ⟨b5,0,none⟩)]
 refine aQ func52 rfl (by kernel_rfl) (by show (3:Nat)<=31;decide) ?_;unfold gP at hm
 refine aL (dQ (v:=zA #[i64 p.Definition,i64 p.Part,zS a1 p.Values.length c2]) (vs:=a3) hs rfl rfl (fun d8 f4 a4=>(aD (v:=zB false) (aG (aL (aA (cI (k':=a0+0) pL rfl b6 rfl) (aA (bX (t:=0) aDY a4 b6 rfl rfl) (aA (eH (us:=a3) aAe a4 (i:=0) rfl rfl rfl rfl) ?_))))))));obtain ⟨e,d9,hm⟩:=aC hm
 refine aT (vs:=[zS a17 d.Definitions.length c18,zA #[i64 p.Definition,i64 p.Part,zS a1 p.Values.length c2]]) call53 rfl (aPV d9 a4 hG d7 h3) ?_
 rintro _ e0 ⟨b,k,l,rfl,c1,e1⟩
 refine aI (v:=zT #[zS k e.1.length l,zB e.2]) (aA (dF rfl rfl) (aA (dF rfl rfl) (aD (v:=zS k e.1.length l) (aD (v:=zB e.2) (aG (aO (aL (aI (v:=zS k e.1.length l) (aA (bQ (len:=e.1.length) tH rfl) (aI (v:=i64 0) (aG (bR [7] (fun f w=>∃ a5 c3 a7 c4 c45 c5 c6,gQ e a5 c3 a7=some R/\aN G b (bB 146 K c5 c6 a7::bB 100 b c4 c45 a5::nW c c3::box b5 143 [zS c4 a5.length c45,zM (some c),zS c5 a7.length c6,Value.func (.func 51) #[] #[]]::box b4 139 J::L) w) cA ?_))))))))))))
 have f5:aN G b (bB 108 b k l e.1::box d8 100 a3::bB 100 b a6 c7 x::nW c Z::bB 146 K a9 c10 y::box b5 143 [zS a6 x.length c7,zM (some c),zS a9 y.length c10,Value.func (.func 51) #[] #[]]::box b4 139 J::L) e0:=aN.weak (i:=2) e1 rfl (fun _ h=>bB.mono (zL d4 c1) h)
 obtain ⟨f6,e2,ho⟩:=aC hm
 refine aJB [1,7,17,18] e2 (fun m V n c8 f w=>∃ o q r u,f 19=i64 c8/\aN G b (bB 108 b k l e.1::bB 100 b o q m::nW c V::bB 146 K r u n::box b5 143 [zS o m.length q,zM (some c),zS r n.length u,Value.func (.func 51) #[] #[]]::box b4 139 J::L) w) cA ?_
 ·rintro m V n c8 f7 f f8 hm hr ⟨o,q,r,u,c9,a8⟩
  unfold gR at hm
  refine aL (aA (cM c9 rfl) (aG (aO ?_)))
  rcases aH hm with ⟨d0,hm⟩|⟨d0,hm⟩
  ·refine aM d0 rfl (aW (aB (aO (bZ (aL ?_)))));obtain ⟨a,b0,hm⟩:=aC hm
   have e3:=fC a8 (i:=0) rfl b0
   refine aA (gE tH rfl e3 rfl rfl c9 b0) ?_;obtain ⟨f9,e4,e5⟩:=aPC (sz:=4) rfl a8 (i:=0) rfl b0
   obtain ⟨g,j,rfl,e6⟩:=e5
   refine aA (R_ldCG (t:=0) (vs:=[str a.B,i64 a.Next.Definition,i64 a.Next.Part,zS g a.Next.Values.length j]) aSj e4 rfl rfl rfl) (cR (vs:=[str ([]:bK),i64 0,i64 0,zS none 0 0]) zeroValue108 a8 rfl (fun d1 g0 e7=>(cO (i:=0) (ns:=[str a.B,i64 a.Next.Definition,i64 a.Next.Part,zS g a.Next.Values.length j]) (us:=[str a.B,i64 a.Next.Definition,i64 a.Next.Part,zS g a.Next.Values.length j]) sizeOf108 e7 rfl rfl rfl rfl rfl (dU rfl) rfl rfl (fun d2 (b1:aN G b (box d1 108 [str a.B,i64 a.Next.Definition,i64 a.Next.Part,zS g a.Next.Values.length j]::bB 108 b k l e.1::bB 100 b o q m::nW c V::bB 146 K r u n::box b5 143 [zS o m.length q,zM (some c),zS r n.length u,Value.func (.func 51) #[] #[]]::box b4 139 J::L) d2)=>(aG (aV (aI (v:=Value.func (.func 88) #[] #[zP (some ⟨b4,0,none⟩),eJ a11 z]) (aA (bA (t':=0) aHt rfl rfl) (aA (bO fF b1 (i:=0) rfl rfl rfl) (aA (bA (t':=1) aFz rfl rfl) (aA (eH (us:=[i64 a.Next.Definition,i64 a.Next.Part,zS g a.Next.Values.length j]) aAe b1 (i:=0) rfl rfl rfl rfl) ?_)))))))))))
   have e8:aN G b (bB 100 b o q m::nW c V::bB 146 K r u n::box b5 143 [zS o m.length q,zM (some c),zS r n.length u,Value.func (.func 51) #[] #[]]::box b4 139 J::box d1 108 [str a.B,i64 a.Next.Definition,i64 a.Next.Part,zS g a.Next.Values.length j]::bB 108 b k l e.1::L) d2:=(aN.arr 7 [2,3,4,5,6,0,1] b1 rfl)
   obtain ⟨g1,e9,hm⟩:=aC hm
   exact rQ (vs:=[str a.B,zA #[i64 a.Next.Definition,i64 a.Next.Part,zS g a.Next.Values.length j]]) (caps:=[zP (some ⟨b4,0,none⟩),eJ a11 z]) (us:=[str a.B,zA #[i64 a.Next.Definition,i64 a.Next.Part,zS g a.Next.Values.length j],zP (some ⟨b4,0,none⟩),eJ a11 z]) rfl call88 rfl rfl (aBz (Kf:=b) e9 e8 hG (zR _) e6 (d6.mono c1)) cA
  ·exact cA
theorem aDE {q:bS} {J:cP} {k5:Nat} {R:(eP × (List bS) × Bool)} (hm:jB q J=some R) (hs:aN G K (L) w) (hG:G.lo=0) (h3:cE K a1 c2 q.Values) (h6:iR K a4 k5 [zS a7 J.Definitions.length c8,zS a10 J.Components.length c11,zS a13 J.Meetings.length c14,zS a16 J.Allowed.length c17,zS a19 J.Hidden.length c20]) (h9:cE K a7 c8 J.Definitions) (l2:cE K a10 c11 J.Components) (l3:cE K a13 c14 J.Meetings) (l4:cE K a16 c17 J.Allowed) (l5:cE K a19 c20 J.Hidden):
  Calls prog 49 ([zA #[i64 q.Definition,i64 q.Part,zS a1 q.Values.length c2],Value.func (.func 51) #[] #[],Value.func (.func 52) #[] #[eJ a4 k5]]:List Value).toArray w (eR fun v w'=>∃ K' h8 i0 i1 i2 i3 i4,v=zT #[zA (zCa R.1 h8 i0 i1 i2),zS i3 R.2.1.length i4,zB R.2.2]/\Hp.le K K'/\aN G K' (bB 9 K h8 i0 R.1.L::bB 130 K i1 i2 R.1.E::bB 100 K' i3 i4 R.2.1::L) w'):=by
 let d:=zG
 let d2:=[i64 q.Definition,i64 q.Part,zS a1 q.Values.length c2]
 refine aQ func49 rfl (by kernel_rfl) (by show (3:Nat)<=73;decide) ?_;unfold jB at hm
 refine aL (dQ (v:=zA #[i64 q.Definition,i64 q.Part,zS a1 q.Values.length c2]) (vs:=d2) hs rfl rfl (fun e0 w6 l6=>(cR (vs:=d) zeroValue60 l6 rfl (fun g w7 l7=>(aD (v:=zS none 0 0) (aD (v:=zB false) (aG (aL (aQE bK Int l7 ?_)))))))))
 intro a l8 (l9:aN G K (nW a ([]:(List (bK × Int)))::box g 60 d::box e0 100 d2::L) l8)
 refine aI (v:=Value.func (.func 51) #[] #[]) (aA (iA (vs:=[(1,zM (some a)),(3,Value.func (.func 51) #[] #[])]) (cs:=[zS none 0 0,zM (some a),zS none 0 0,Value.func (.func 51) #[] #[]]) bs_143 rfl (by kernel_rfl)) (dQ (v:=zA #[zS none 0 0,zM (some a),zS none 0 0,Value.func (.func 51) #[] #[]]) (vs:=[zS none 0 0,zM (some a),zS none 0 0,Value.func (.func 51) #[] #[]]) l9 rfl rfl (fun b w8 m0=>(cR (vs:=[zP none]) zeroValue139 m0 rfl (fun e w9 m1=>(cO (i:=0) (ns:=[zP (some ⟨b,0,none⟩)]) (us:=[zP (some ⟨b,0,none⟩)]) sizeOf139 m1 rfl rfl rfl rfl rfl (dU rfl) rfl rfl ?_))))))
 intro i5 (g1:aN G K (box e 139 [zP (some ⟨b,0,none⟩)]::box b 143 [zS none 0 0,zM (some a),zS none 0 0,Value.func (.func 51) #[] #[]]::nW a ([]:(List (bK × Int)))::box g 60 d::box e0 100 d2::L) i5)
 refine aG (aL (aA (bO aEb g1 (i:=0) rfl rfl rfl) (aA (eH (us:=d2) aAe g1 (i:=4) rfl rfl rfl rfl) ?_)))
 have m2:=aN.nil (α:=bS) g1 100 K
 have m3:=aN.nil (α:=vQ) m2 146 K
 have m4:aN G K (bB 100 K none 0 ([]:List bS)::nW a ([]:(List (bK × Int)))::bB 146 K none 0 ([]:List vQ)::box b 143 [zS none 0 0,zM (some a),zS none 0 0,Value.func (.func 51) #[] #[]]::box e 139 [zP (some ⟨b,0,none⟩)]::box g 60 d::box e0 100 d2::L) i5:=(aN.arr 5 [1,4,0,3,2] m3 rfl)
 obtain ⟨g2,m5,hm⟩:=aC hm
 refine aT (vs:=[zP (some ⟨b,0,none⟩),zA #[i64 q.Definition,i64 q.Part,zS a1 q.Values.length c2]]) call87 rfl (jN (Kf:=K) m5 m4 hG (zR _) h3) ?_
 rintro _ x0 ⟨i6,c45,rfl,m6⟩
 refine aG (aO (aL (cR (vs:=[i64 0]) zeroValue3 m6 rfl (fun m7 x1 m8=>(cO (i:=0) (ns:=[i64 0]) (us:=[i64 0]) sizeOf3 m8 rfl rfl rfl rfl rfl (dU rfl) rfl rfl (fun m9 (n0:aN G K (box m7 3 [i64 0]::bB 100 K i6 c45 g2.2.1::nW a g2.2.2::bB 146 K none 0 ([]:List vQ)::box b 143 [zS i6 g2.2.1.length c45,zM (some a),zS none 0 0,Value.func (.func 51) #[] #[]]::box e 139 [zP (some ⟨b,0,none⟩)]::box g 60 d::box e0 100 d2::L) m9)=>(aG (bR [6,9] (fun f w=>∃ y k b8 l V Z n o,Hp.le K y/\fO k b8 l=some R/\aN G y (bB 146 K n o l::bB 100 y V Z k::nW a b8::box b 143 [zS V k.length Z,zM (some a),zS n l.length o,Value.func (.func 51) #[] #[]]::box e 139 [zP (some ⟨b,0,none⟩)]::box g 60 d::L) w) ?_ ?_))))))))
 ·rintro f x2 ⟨y,k,b8,l,V,Z,n,o,b0,hm,n1⟩
  unfold fO at hm
  refine aB (aO (cW [6,9] (fun f w=>∃ b9 c0 b5 b6 g3 d3 d4 d5 d6,kU k b9 c0 b5 b6=some R/\f 12=zP (some ⟨g3,0,none⟩)/\aN G y (bB 130 K d5 d6 b6::bB 9 K d3 d4 b5::box g3 60 [i64 b9,i64 c0,zS d3 b5.length d4,zS d5 b6.length d6]::bB 146 K n o l::bB 100 y V Z k::nW a b8::box b 143 [zS V k.length Z,zM (some a),zS n l.length o,Value.func (.func 51) #[] #[]]::box e 139 [zP (some ⟨b,0,none⟩)]::box g 60 d::L) w) ?_ ?_))
  ·rintro f x3 ⟨b9,c0,b5,b6,g3,d3,d4,d5,d6,hm,i7,n2⟩
   unfold kU at hm
   refine aB (aO ?_);obtain ⟨x4,i8,i9,n3,x5⟩:=aN.lendBp n2 zt2
   obtain ⟨x6,e1,n4,n5,x7⟩:=aN.lendBp n3 zt5
   obtain ⟨n6,d9,n7,j0,x8⟩:=aN.lendBp n5 zt5
   refine jJ (C:=fun w'=>∃ L',aN G n6 L' w') [(0,0),(1,0),(2,0),(3,0),(4,0),(5,1),(6,1),(7,1),(8,2),(9,2)] cB (by kernel_rfl) (fun _ hg=>⟨_,aN.mono j0 hg⟩) (fun x9 n8=>?_)
   have b2:=aN.mono j0 n8
   refine dV rfl (fun _ ⟨_,b2⟩=>eK (t:=0) (vs:=[i64 b9,i64 c0,zS d3 b5.length d4,zS d5 b6.length d6]) wA b2 (i9.mono (zL e1 d9)) i7 rfl rfl) (dV rfl (fun _ ⟨_,b2⟩=>bX (t:=0) aEb b2 n7 rfl rfl) (dV rfl (fun _ _=>lS rfl) (dV rfl (fun _ _=>bA (t':=0) aCr rfl rfl) (dV rfl (fun _ ⟨_,b2⟩=>bX (t:=0) aML b2 (n4.mono d9) rfl rfl) (pP rfl (aA (eK (t:=0) (vs:=[i64 b9,i64 c0,zS d3 b5.length d4,zS d5 b6.length d6]) wA b2 (i9.mono (zL e1 d9)) i7 rfl rfl) (cC (aB ⟨⟨_,b2⟩,?_⟩))))))))
   refine pP rfl ?_;obtain ⟨y0,n9,o0,o1,o2⟩:=aN.lendSp b2 (zL (zL (zL b0 i8) e1) d9) zt1
   obtain ⟨y1,o3,o4,o5,o6⟩:=aN.lendSp o1 (zL (zL (zL (zL b0 i8) e1) d9) n9) .head
   obtain ⟨y2,o7,hm⟩:=aC hm
   refine aT (vs:=[zA #[i64 b9,i64 c0,zS d3 b5.length d4,zS d5 b6.length d6]]) call91 rfl (aLR (t:=⟨b9,c0,b5,b6⟩) o7 o5 hG (o0.mono o3) o4) ?_
   rintro _ y3 ⟨rfl,o8⟩
   have o9:=o6 _ _ o8
   have y4:=o2 _ _ o9
   exact cA
  obtain ⟨y5,b7,g4,p0,g5⟩:=aN.lendBp n1 zt3
  obtain ⟨p1,a0,g6,p2,g7⟩:=aN.lendBp p0 zt3
  refine aKw (C:=fun w'=>∃ L',aN G p1 L' w') [16] cB (by kernel_rfl) (fun y6 p3=>?_)
  have c:=aN.mono p2 p3
  refine tD (i:=0) rfl (by kernel_rfl) ⟨_,c⟩ (fun _ ⟨_,c⟩=>bX (t:=0) aEb c g6 rfl rfl) (tD (i:=1) rfl (by kernel_rfl) ⟨_,c⟩ (fun _ _=>lS rfl) (tD (i:=2) rfl (by kernel_rfl) ⟨_,c⟩ (fun _ _=>bA (t':=0) aCr rfl rfl) (tD (i:=3) rfl (by kernel_rfl) ⟨_,c⟩ (fun _ ⟨_,c⟩=>bX (t:=0) aML c (g4.mono a0) rfl rfl) (tD (i:=4) rfl (by kernel_rfl) ⟨_,c⟩ (fun _ _=>bQ (len:=k.length) sT rfl) (tD (i:=5) rfl (by kernel_rfl) ⟨_,c⟩ (fun _ ⟨_,c⟩=>bX (t:=0) aEb c g6 rfl rfl) (tD (i:=6) rfl (by kernel_rfl) ⟨_,c⟩ (fun _ _=>lS rfl) (tD (i:=7) rfl (by kernel_rfl) ⟨_,c⟩ (fun _ _=>bA (t':=2) aFA rfl rfl) (tD (i:=8) rfl (by kernel_rfl) ⟨_,c⟩ (fun _ ⟨_,c⟩=>bX (t:=2) aMM c (g4.mono a0) rfl rfl) (tD (i:=10) rfl (by kernel_rfl) ⟨_,c⟩ (fun _ ⟨_,c⟩=>bX (t:=0) aEb c g6 rfl rfl) (tD (i:=11) rfl (by kernel_rfl) ⟨_,c⟩ (fun _ _=>lS rfl) (tD (i:=12) rfl (by kernel_rfl) ⟨_,c⟩ (fun _ _=>bA (t':=2) aFA rfl rfl) (tD (i:=13) rfl (by kernel_rfl) ⟨_,c⟩ (fun _ ⟨_,c⟩=>bX (t:=2) aMM c (g4.mono a0) rfl rfl) (aMm (i:=9) (j:=15) (by kernel_rfl) rfl rfl ?_ ?_)))))))))))))
  ·obtain ⟨y7,y8,p4,p5,p6⟩:=aN.lendSp c (zL (zL b0 b7) a0) .head
   obtain ⟨e2,p7,hm⟩:=aC hm
   refine aT (vs:=[zS n l.length o]) call90 rfl (aGV p7 p5 p4) ?_
   rintro _ y9 ⟨e3,e4,rfl,p8⟩
   have g8:=p6 _ _ p8
   refine cC (aB ⟨fun _=>⟨_,g8⟩,?_⟩)
   refine aMm (i:=14) (j:=15) (by kernel_rfl) rfl rfl ?_ ?_
   ·obtain ⟨z0,p9,q0,q1,q2⟩:=aN.lendSp g8 (zL (zL b0 b7) a0) zt1
    obtain ⟨z1,q3,q4,q5,q6⟩:=aN.lendSp q1 (zL (zL (zL b0 b7) a0) p9) .head
    obtain ⟨r,q7,hm⟩:=aC hm
    refine aT (vs:=[i64 (k.length:Int),i64 0,zS e3 e2.length e4,zS n l.length o]) call89 rfl (aJp q7 q5 (q0.mono q3) q4) ?_
    rintro _ z2 ⟨e5,e6,e7,e8,rfl,q8⟩
    have q9:=q6 _ _ q8
    have j1:=q2 _ _ q9
    refine cC (aB ⟨fun _=>⟨_,j1⟩,?_⟩)
    refine lM (i:=15) (by kernel_rfl) rfl (cR (vs:=d) zeroValue60 j1 rfl (fun r0 z3 j2=>(cC (aB ⟨fun _=>⟨_,j2⟩,?_⟩))))
    refine lM (i:=16) (by kernel_rfl) rfl ?_
    have r1:=g7 _ _ j2
    have r2:=g5 _ _ r1
    refine cO (i:=2) (ns:=(zC r e5 e6 e7 e8)) (us:=(zC r e5 e6 e7 e8)) sizeOf60 r2 rfl rfl rfl rfl rfl (dU rfl) rfl rfl (fun r3 (z4:aN G y (box b 143 [zS V k.length Z,zM (some a),zS n l.length o,Value.func (.func 51) #[] #[]]::box e 139 [zP (some ⟨b,0,none⟩)]::box r0 60 (zC r e5 e6 e7 e8)::bB 9 K e3 e4 e2::bB 146 K n o l::bB 9 K e5 e6 r.L::bB 130 K e7 e8 r.E::bB 100 y V Z k::nW a b8::box g 60 d::L) r3)=>(cC (aB ⟨no_c rfl,?_⟩)))
    exact aGl (by kernel_rfl) cA
   ·refine cR (vs:=d) zeroValue60 g8 rfl (fun r4 z5 j3=>(cC (aB ⟨fun _=>⟨_,j3⟩,?_⟩)))
    refine lM (i:=14) (by kernel_rfl) rfl ?_;obtain ⟨z6,r5,r6,r7,r8⟩:=aN.lendSp j3 (zL (zL b0 b7) a0) zt2
    obtain ⟨z7,r9,s0,s1,s2⟩:=aN.lendSp r7 (zL (zL (zL b0 b7) a0) r5) zt1
    obtain ⟨u,s3,hm⟩:=aC hm
    refine aT (vs:=[i64 (k.length:Int),i64 0,zS e3 e2.length e4,zS n l.length o]) call89 rfl (aJp s3 s1 (r6.mono r9) s0) ?_
    rintro _ z8 ⟨e9,f0,f1,f2,rfl,s4⟩
    have s5:=s2 _ _ s4
    have j4:=r8 _ _ s5
    refine cC (aB ⟨fun _=>⟨_,j4⟩,?_⟩)
    refine lM (i:=16) (by kernel_rfl) rfl ?_
    have s6:=g7 _ _ j4
    have s7:=g5 _ _ s6
    refine cO (i:=6) (ns:=(zC u e9 f0 f1 f2)) (us:=(zC u e9 f0 f1 f2)) sizeOf60 s7 rfl rfl rfl rfl rfl (dU rfl) rfl rfl (fun s8 (z9:aN G y (box b 143 [zS V k.length Z,zM (some a),zS n l.length o,Value.func (.func 51) #[] #[]]::box e 139 [zP (some ⟨b,0,none⟩)]::bB 9 K e3 e4 e2::bB 146 K n o l::bB 9 K e9 f0 u.L::bB 130 K f1 f2 u.E::box r4 60 (zC u e9 f0 f1 f2)::bB 100 y V Z k::nW a b8::box g 60 d::L) s8)=>(cC (aB ⟨no_c rfl,?_⟩)))
    exact aGl (by kernel_rfl) cA
  ·refine cR (vs:=d) zeroValue60 c rfl (fun s9 a00 j5=>(cC (aB ⟨fun _=>⟨_,j5⟩,?_⟩)))
   refine lM (i:=9) (by kernel_rfl) rfl ?_;obtain ⟨a01,a02,t0,t1,t2⟩:=aN.lendSp j5 (zL (zL b0 b7) a0) zt1
   obtain ⟨j6,t3,hm⟩:=aC hm
   refine aT (vs:=[zS n l.length o]) call90 rfl (aGV t3 t1 t0) ?_
   rintro _ a03 ⟨j7,j8,rfl,t4⟩
   have j9:=t2 _ _ t4
   refine cC (aB ⟨fun _=>⟨_,j9⟩,?_⟩)
   refine lM (i:=14) (by kernel_rfl) rfl ?_;obtain ⟨a04,t5,t6,t7,t8⟩:=aN.lendSp j9 (zL (zL b0 b7) a0) zt1
   obtain ⟨a05,t9,u0,u1,u2⟩:=aN.lendSp t7 (zL (zL (zL b0 b7) a0) t5) .head
   obtain ⟨x,u3,hm⟩:=aC hm
   refine aT (vs:=[i64 (k.length:Int),i64 0,zS j7 j6.length j8,zS n l.length o]) call89 rfl (aJp u3 u1 (t6.mono t9) u0) ?_
   rintro _ a06 ⟨f3,f4,f5,f6,rfl,u4⟩
   have u5:=u2 _ _ u4
   have k0:=t8 _ _ u5
   refine cC (aB ⟨fun _=>⟨_,k0⟩,?_⟩)
   refine lM (i:=16) (by kernel_rfl) rfl ?_
   have u6:=g7 _ _ k0
   have u7:=g5 _ _ u6
   refine cO (i:=6) (ns:=(zC x f3 f4 f5 f6)) (us:=(zC x f3 f4 f5 f6)) sizeOf60 u7 rfl rfl rfl rfl rfl (dU rfl) rfl rfl (fun u8 (a07:aN G y (box b 143 [zS V k.length Z,zM (some a),zS n l.length o,Value.func (.func 51) #[] #[]]::box e 139 [zP (some ⟨b,0,none⟩)]::bB 9 K j7 j8 j6::bB 146 K n o l::bB 9 K f3 f4 x.L::bB 130 K f5 f6 x.E::box s9 60 (zC x f3 f4 f5 f6)::bB 100 y V Z k::nW a b8::box g 60 d::L) u8)=>(cC (aB ⟨no_c rfl,?_⟩)))
   exact aGl (by kernel_rfl) cA
 have a08:=aN.nil (α:=vQ) n0 146 K
 obtain ⟨a09,u9,ho⟩:=aC hm
 refine aJB [2,6,9] u9 (fun z d7 a2 b1 f w=>∃ c1 a3 a5 a6 a8 c3,Hp.le K c1/\f 10=zP (some ⟨c3,0,none⟩)/\aN G c1 (bB 146 K a6 a8 a2::box c3 3 [i64 b1]::bB 100 c1 a3 a5 z::nW a d7::box b 143 [zS a3 z.length a5,zM (some a),zS a6 a2.length a8,Value.func (.func 51) #[] #[]]::box e 139 [zP (some ⟨b,0,none⟩)]::box g 60 d::L) w) cA ?_
 ·rintro z d7 a2 b1 v0 f a11 hm hr ⟨c1,a3,a5,a6,a8,c3,c4,f7,a9⟩
  unfold eD at hm
  refine aO (aO (dB (C:=fun w'=>aN G c1 (bB 146 K a6 a8 a2::box c3 3 [i64 b1]::bB 100 c1 a3 a5 z::nW a d7::box b 143 [zS a3 z.length a5,zM (some a),zS a6 a2.length a8,Value.func (.func 51) #[] #[]]::box e 139 [zP (some ⟨b,0,none⟩)]::box g 60 d::L) w') cB (by kernel_rfl) (aN.mono a9 (dW.drew _)) (aY (fun _ a9=>bO sc_3 a9 (i:=1) rfl f7 rfl) (aY (fun _ a9=>bO aEb a9 (i:=5) rfl rfl rfl) (aY (fun _ a9=>lS rfl) (aY (fun _ a9=>bA (t':=0) aCr rfl rfl) (aY (fun _ a9=>bO aML a9 (i:=4) rfl rfl rfl) (aY (fun _ a9=>bQ (len:=z.length) sT rfl) (aY (fun _ a9=>cM rfl rfl) (dH (fun v1 v2=>(aB ?_))))))))))))
  rcases aH hm with ⟨k1,hm⟩|⟨k1,hm⟩
  ·refine aM k1 rfl (aW (aB (aO (bZ (aO ?_)))));obtain ⟨c5,b3,g9,h0,_⟩:=aN.lendBp v2 zt1
   replace h0:aN G c5 (bB 146 K a6 a8 a2::bB 100 c1 a3 a5 z::nW a d7::box b 143 [zS a3 z.length a5,zM (some a),zS a6 a2.length a8,Value.func (.func 51) #[] #[]]::box e 139 [zP (some ⟨b,0,none⟩)]::box g 60 d::L) v1:=h0
   refine aKw (C:=fun w'=>∃ L',aN G c5 L' w') [] cB (by kernel_rfl) (fun k2 v3=>?_)
   have p:=aN.mono h0 v3
   refine tD (i:=0) rfl (by kernel_rfl) ⟨_,p⟩ (fun _ _=>bJ (v:=Value.func (.func 52) #[] #[eJ a4 k5]) rfl) (tD (i:=5) rfl (by kernel_rfl) ⟨_,p⟩ (fun _ ⟨_,p⟩=>bX (t:=0) sc_3 p g9 (elp_b f7) rfl) (tD (i:=8) rfl (by kernel_rfl) ⟨_,p⟩ (fun _ _=>yH (vs:=[zP (some ⟨e,0,none⟩),eJ (some ⟨c3,0,none⟩) 0]) (lst2 rfl (elp_b f7))) (lM (i:=1) (by kernel_rfl) rfl (aA (bO aEb p (i:=4) rfl rfl rfl) (cC (aB ⟨fun _=>⟨_,p⟩,?_⟩))))))
   refine tD (i:=2) rfl (by kernel_rfl) ⟨_,p⟩ (fun _ _=>lS rfl) (tD (i:=3) rfl (by kernel_rfl) ⟨_,p⟩ (fun _ _=>bA (t':=0) aCr rfl rfl) (lM (i:=4) (by kernel_rfl) rfl (aA (bO aML p (i:=3) rfl rfl rfl) (cC (aB ⟨fun _=>⟨_,p⟩,?_⟩)))))
   obtain ⟨b4,h1,hm⟩:=aC hm
   have v4:=fC p (i:=1) rfl h1
   refine tD (i:=6) rfl (by kernel_rfl) ⟨_,p⟩ (fun _ _=>gE sT rfl v4 rfl rfl rfl h1) (lM (i:=7) (by kernel_rfl) rfl ?_);obtain ⟨a12,v5,v6⟩:=aPC (sz:=3) rfl p (i:=1) rfl h1
   obtain ⟨h2,h4,rfl,v7⟩:=v6
   refine aA (R_ldCG (t:=0) (vs:=[i64 b4.Definition,i64 b4.Part,zS h2 b4.Values.length h4]) aAe v5 rfl rfl rfl) (cC (aB ⟨fun _=>⟨_,p⟩,?_⟩))
   refine lM (i:=9) (by kernel_rfl) rfl ?_
   have v8:aN G c5 (bB 146 K a6 a8 a2::bB 100 c5 a3 a5 z::nW a d7::box b 143 [zS a3 z.length a5,zM (some a),zS a6 a2.length a8,Value.func (.func 51) #[] #[]]::box e 139 [zP (some ⟨b,0,none⟩)]::box g 60 d::L) k2:=aN.weak (i:=1) p rfl (fun _ h=>bB.mono b3 h)
   have v9:aN G c5 (bB 100 c5 a3 a5 z::nW a d7::bB 146 K a6 a8 a2::box b 143 [zS a3 z.length a5,zM (some a),zS a6 a2.length a8,Value.func (.func 51) #[] #[]]::box e 139 [zP (some ⟨b,0,none⟩)]::box g 60 d::L) k2:=(aN.arr 3 [1,2,0] v8 rfl)
   obtain ⟨m,w0,hm⟩:=aC hm
   refine rQ (vs:=[zA #[i64 b4.Definition,i64 b4.Part,zS h2 b4.Values.length h4],Value.func (.func 88) #[] #[zP (some ⟨e,0,none⟩),eJ (some ⟨c3,0,none⟩) 0]]) (caps:=[eJ a4 k5]) (us:=[zA #[i64 b4.Definition,i64 b4.Part,zS h2 b4.Values.length h4],Value.func (.func 88) #[] #[zP (some ⟨e,0,none⟩),eJ (some ⟨c3,0,none⟩) 0],eJ a4 k5]) rfl call52 rfl rfl (aCS (Kf:=c5) w0 v9 hG (zR _) (v7.mono b3) g9 (h6.mono (zL c4 b3)) (h9.mono (zL c4 b3)) (l2.mono (zL c4 b3)) (l3.mono (zL c4 b3)) (l4.mono (zL c4 b3)) (l5.mono (zL c4 b3))) ?_
   rintro _ a14 ⟨c6,c7,c9,d0,d1,rfl,f8,k3⟩
   refine cC (aB ⟨fun _=>⟨_,(aN.weakK k3 f8)⟩,?_⟩)
   refine tD (i:=10) rfl (by kernel_rfl) ⟨_,(aN.weakK k3 f8)⟩ (fun _ _=>gM (v:=zB m.1) rfl) (aGl (by kernel_rfl) (aB (aO (cW [2,6,9,10] (fun f w=>∃ h5,iE b1 m h5=some v0/\f 48=zB h5/\aN G c6 (bB 100 c6 c7 c9 m.2.1::nW a m.2.2.1::bB 146 K d0 d1 m.2.2.2::box b 143 [zS c7 m.2.1.length c9,zM (some a),zS d0 m.2.2.2.length d1,Value.func (.func 51) #[] #[]]::box e 139 [zP (some ⟨b,0,none⟩)]::box g 60 d::L) w) ?_ ?_))))
   ·rintro f a15 ⟨h5,hm,w1,k4⟩
    unfold iE at hm
    refine aB ?_
    rcases aH hm with ⟨k6,hm⟩|⟨k6,hm⟩
    ·exact cA
    ·exact aJ k6 w1 (aW (bM (aB (aO (aL (aA (bX (t:=0) sc_3 k4 (g9.mono f8) (elp_b f7) rfl) (aG (aV (cR (vs:=[i64 0]) zeroValue3 k4 rfl (fun h7 a17 w2=>(cO (i:=0) (ns:=[i64 b1]) (us:=[i64 b1]) sizeOf3 w2 rfl rfl rfl rfl rfl (dU rfl) rfl rfl (fun w3 (k7:aN G c6 (box h7 3 [i64 b1]::bB 100 c6 c7 c9 m.2.1::nW a m.2.2.1::bB 146 K d0 d1 m.2.2.2::box b 143 [zS c7 m.2.1.length c9,zM (some a),zS d0 m.2.2.2.length d1,Value.func (.func 51) #[] #[]]::box e 139 [zP (some ⟨b,0,none⟩)]::box g 60 d::L) w3)=>(aG (aV (aA (bO sc_3 k7 (i:=0) rfl rfl rfl) (aA (cD rfl rfl) (cO (i:=0) (ns:=[i64 (wr (b1+1))]) (us:=[i64 (wr (b1+1))]) sizeOf3 k7 rfl rfl rfl rfl rfl (dU rfl) rfl rfl (fun w4 (w5:aN G c6 (box h7 3 [i64 (wr (b1+1))]::bB 100 c6 c7 c9 m.2.1::nW a m.2.2.1::bB 146 K d0 d1 m.2.2.2::box b 143 [zS c7 m.2.1.length c9,zM (some a),zS d0 m.2.2.2.length d1,Value.func (.func 51) #[] #[]]::box e 139 [zP (some ⟨b,0,none⟩)]::box g 60 d::L) w4)=>(aG ⟨_,(zI hm).symm,aU,c6,c7,c9,d0,d1,h7,(zL (zL c4 b3) f8),rfl,(aN.arr 4 [3,0,1,2] w5 rfl)⟩)))))))))))))))))))
   exact cA
  ·exact cA
theorem aEz {s_:cP} {k:Int} {R:(eP × Bool)} (hm:jK s_ k=some R) (hs:aN G K (L) w) (hG:G.lo=0) (l:cE K a1 c2 s_.Definitions) (m:cE K a4 c5 s_.Components) (n:cE K a7 c8 s_.Meetings) (o:cE K a10 c11 s_.Allowed) (p:cE K a13 c14 s_.Hidden):
  Calls prog 24 ([zA #[zS a1 s_.Definitions.length c2,zS a4 s_.Components.length c5,zS a7 s_.Meetings.length c8,zS a10 s_.Allowed.length c11,zS a13 s_.Hidden.length c14],i64 k]:List Value).toArray w (eR fun v w'=>∃ q r u x,v=zT #[zA (zCa R.1 q r u x),zB R.2]/\aN G K (bB 9 K q r R.1.L::bB 130 K u x R.1.E::L) w'):=by
 let e:=[zS a1 s_.Definitions.length c2,zS a4 s_.Components.length c5,zS a7 s_.Meetings.length c8,zS a10 s_.Allowed.length c11,zS a13 s_.Hidden.length c14]
 let g:=zG
 refine aQ func24 rfl (by kernel_rfl) (by show (2:Nat)<=22;decide) ?_;unfold jK at hm
 refine aL (dQ (v:=zA #[zS a1 s_.Definitions.length c2,zS a4 s_.Components.length c5,zS a7 s_.Meetings.length c8,zS a10 s_.Allowed.length c11,zS a13 s_.Hidden.length c14]) (vs:=e) hs rfl rfl (fun h b8 a6=>(cR (vs:=g) zeroValue60 a6 rfl (fun y b9 z=>(aD (v:=zB false) (aG (aL (aA (eH (us:=e) aHp z (i:=1) rfl rfl rfl rfl) ?_))))))));obtain ⟨c0,a8,hm⟩:=aC hm
 refine aT (vs:=[zA #[zS a1 s_.Definitions.length c2,zS a4 s_.Components.length c5,zS a7 s_.Meetings.length c8,zS a10 s_.Allowed.length c11,zS a13 s_.Hidden.length c14]]) call50 rfl (aIG a8 z l m n o p) ?_
 rintro _ J ⟨c1,c3,c4,rfl,a9,b0⟩
 obtain ⟨b1,c,V,_,d,_⟩:=aN.lendD' (i:=0) b0 a9 rfl rfl
 replace d:aN G b1 (box y 60 g::box h 38 e::L) J:=d
 refine aI (v:=i64 k) ?_;obtain ⟨a,Z,hm⟩:=aC hm
 refine aA (cQ sT rfl V rfl rfl rfl Z) ?_;obtain ⟨c6,b2,b3⟩:=cE.el (sz:=3) rfl V Z
 obtain ⟨a0,a2,rfl,b4⟩:=b3
 refine aA (eK (t:=0) (vs:=[i64 a.Definition,i64 a.Part,zS a0 a.Values.length a2]) aAe d b2 rfl rfl rfl) (aA (yH (vs:=[zP (some ⟨h,0,none⟩)]) rfl) ?_);obtain ⟨b5,b,b6,j,_⟩:=aN.lendBp d zt1
 replace j:aN G b5 (box y 60 g::L) J:=j
 obtain ⟨c7,b7,hm⟩:=aC hm
 exact aT (vs:=[zA #[i64 a.Definition,i64 a.Part,zS a0 a.Values.length a2],Value.func (.func 51) #[] #[],Value.func (.func 52) #[] #[eJ (some ⟨h,0,none⟩) 0]]) call49 rfl (aDE b7 j hG (b4.mono b) b6 (l.mono (zL c b)) (m.mono (zL c b)) (n.mono (zL c b)) (o.mono (zL c b)) (p.mono (zL c b))) cA
theorem oB {s_ R:(List bV)} (hm:fP s_=some R) (h:aN G K (L) w) (c:cE K a1 c2 s_):
  Calls prog 54 ([zS a1 s_.length c2]:List Value).toArray w (eR fun v w'=>∃ d e,v=zS d R.length e/\aN G K (bB 93 K d e R::L) w'):=by
 refine aQ func54 rfl (by kernel_rfl) (by show (1:Nat)<=8;decide) ?_;unfold fP at hm
 refine aL (aD (v:=zS none 0 0) (aG (aO (aL (aI (v:=zS a1 s_.length c2) (aA (aPF lV rfl rfl) (aG ?_)))))))
 rcases aKz c with ⟨j,k,l⟩|m
 ·subst j;subst k;subst l
  refine aMv rfl ?_
  replace hm:(some [])=some R:=hm
  exact cA
 ·refine aMw (Eq.trans rfl (congrArg zB m)) (aW (aB (aL (eL (Kt:=K) (xs:=([]:List bV)) (cs:=[]) (vs:=[]) lV aRU rfl rfl h rfl (by kernel_rfl) rfl rfl rfl trivial (fun n o (p:aN G K (bB 93 K n 0 ([]:List bV)::L) o)=>(aI (v:=zS a1 s_.length c2) ?_))))));obtain ⟨g,q,hm⟩:=aC hm
  refine aDT (i:=0) lV underlying30 aRU rfl rfl p rfl (zR _) c q rfl rfl rfl rfl (fun a b r (t:aN G K (bB 93 K a b g::L) r)=>(aD (v:=zS a g.length b) (aG ?_)));obtain rfl:=zI hm
  exact aX (aP results54 rfl ⟨a,b,rfl,t⟩)
theorem mR {s_ R:(List bK)} (hm:gU s_=some R) (h:aN G K (L) w) (c:cE K a1 c2 s_):
  Calls prog 55 ([zS a1 s_.length c2]:List Value).toArray w (eR fun v w'=>∃ d e,v=zS d R.length e/\aN G K (bB 9 K d e R::L) w'):=by
 refine aQ func55 rfl (by kernel_rfl) (by show (1:Nat)<=8;decide) ?_;unfold gU at hm
 refine aL (aD (v:=zS none 0 0) (aG (aO (aL (aI (v:=zS a1 s_.length c2) (aA (aPF dL rfl rfl) (aG ?_)))))))
 rcases aKz c with ⟨j,k,l⟩|m
 ·subst j;subst k;subst l
  refine aMv rfl ?_
  replace hm:(some [])=some R:=hm
  exact cA
 ·refine aMw (Eq.trans rfl (congrArg zB m)) (aW (aB (aL (eL (Kt:=K) (xs:=([]:List bK)) (cs:=[]) (vs:=[]) dL aCp rfl rfl h rfl (by kernel_rfl) rfl rfl rfl trivial (fun n o (p:aN G K (bB 9 K n 0 ([]:List bK)::L) o)=>(aI (v:=zS a1 s_.length c2) ?_))))));obtain ⟨g,q,hm⟩:=aC hm
  refine aDT (i:=0) dL underlying25 aCp rfl rfl p rfl (zR _) c q rfl rfl rfl rfl (fun a b r (t:aN G K (bB 9 K a b g::L) r)=>(aD (v:=zS a g.length b) (aG ?_)));obtain rfl:=zI hm
  exact aX (aP results55 rfl ⟨a,b,rfl,t⟩)
theorem aIJ {n:iY} {b:(List eP)} {c:List (Dp.Hd eP)} {R:iY} (hm:tY n b=some R) (u:aN G K (bB 60 K a13 c14 (bT c b)::rows [9,130] c b::L) w) (h3:cE K a1 c2 n.Parts) (x:cE K a4 c5 n.Meetings) (y:cE K a7 c8 n.Allowed) (a5:cE K a10 c11 n.Hidden) (a6:List.length c=List.length b):
  Calls prog 25 ([zA #[zS a1 n.Parts.length c2,zS a4 n.Meetings.length c5,zS a7 n.Allowed.length c8,zS a10 n.Hidden.length c11],zS a13 b.length c14]:List Value).toArray w (eR fun v w'=>∃ g h d i j k l m o,v=zA #[zS g R.Parts.length h,zS i R.Meetings.length j,zS k R.Allowed.length l,zS m R.Hidden.length o]/\List.length d=List.length R.Parts/\aN G K (bB 60 K g h (bT d R.Parts)::rows [9,130] d R.Parts::bB 93 K i j R.Meetings::bB 9 K k l R.Allowed::bB 9 K m o R.Hidden::L) w'):=by
 refine aQ func25 rfl (by kernel_rfl) (by show (2:Nat)<=16;decide) ?_;unfold tY at hm
 refine aL (dQ (v:=zA #[zS a1 n.Parts.length c2,zS a4 n.Meetings.length c5,zS a7 n.Allowed.length c8,zS a10 n.Hidden.length c11]) (vs:=[zS a1 n.Parts.length c2,zS a4 n.Meetings.length c5,zS a7 n.Allowed.length c8,zS a10 n.Hidden.length c11]) u rfl rfl (fun a8 a9 z=>(cR (vs:=[zS none 0 0,zS none 0 0,zS none 0 0,zS none 0 0]) zeroValue32 z rfl (fun b0 b1 J=>(aG (aO ?_))))));obtain ⟨V,p,e,q,b2⟩:=aN.lendBp J zt1
 refine jJ (C:=fun w'=>∃ L',aN G V L' w') [(0,0),(1,0),(2,0),(4,0),(5,0),(7,0),(8,0),(3,1),(6,1),(9,1),(10,0),(11,2)] cB (by kernel_rfl) (fun _ hg=>⟨_,aN.mono q hg⟩) (fun b3 Z=>?_)
 have a:=aN.mono q Z
 refine dV rfl (fun _ _=>bJ (v:=zS a13 b.length c14) rfl) (dV rfl (fun _ _=>bA (t':=1) aJJ rfl rfl) (dV rfl (fun _ ⟨_,a⟩=>bX (t:=1) aFy a e rfl rfl) (dV rfl (fun _ _=>bA (t':=2) aJK rfl rfl) (dV rfl (fun _ ⟨_,a⟩=>bX (t:=2) jG a e rfl rfl) (dV rfl (fun _ _=>bA (t':=3) aJL rfl rfl) (dV rfl (fun _ ⟨_,a⟩=>bX (t:=3) jG a e rfl rfl) (pP rfl ?_)))))));obtain ⟨b4,a0,hm⟩:=aC hm
 refine aT (vs:=[zS a4 n.Meetings.length c5]) call54 rfl (oB a0 a (x.mono p)) ?_
 rintro _ b5 ⟨b6,b7,rfl,r⟩
 refine cC (aB ⟨⟨_,r⟩,?_⟩)
 refine pP rfl ?_;obtain ⟨b8,a2,hm⟩:=aC hm
 exact aT (vs:=[zS a7 n.Allowed.length c8]) call55 rfl (mR a2 r (y.mono p)) cA
theorem aFU {s_:cP} {R:(iY × Int)} (hm:zU s_=some R) (hs:aN G K (L) w) (hG:G.lo=0) (h3:cE K a1 c2 s_.Definitions) (h6:cE K a4 c5 s_.Components) (h9:cE K a7 c8 s_.Meetings) (b3:cE K a10 c11 s_.Allowed) (b4:cE K a13 c14 s_.Hidden):
  Calls prog 7 ([zA #[zS a1 s_.Definitions.length c2,zS a4 s_.Components.length c5,zS a7 s_.Meetings.length c8,zS a10 s_.Allowed.length c11,zS a13 s_.Hidden.length c14]]:List Value).toArray w (eR fun v w'=>∃ b5 b6 z b7 b8 b9 c0 c1 c3,v=zT #[zA #[zS b5 R.1.Parts.length b6,zS b7 R.1.Meetings.length b8,zS b9 R.1.Allowed.length c0,zS c1 R.1.Hidden.length c3],i64 R.2]/\List.length z=List.length R.1.Parts/\aN G K (bB 60 K b5 b6 (bT z R.1.Parts)::rows [9,130] z R.1.Parts::bB 93 K b7 b8 R.1.Meetings::bB 9 K b9 c0 R.1.Allowed::bB 9 K c1 c3 R.1.Hidden::L) w'):=by
 let k:=[zS a1 s_.Definitions.length c2,zS a4 s_.Components.length c5,zS a7 s_.Meetings.length c8,zS a10 s_.Allowed.length c11,zS a13 s_.Hidden.length c14]
 let g:=[zS none 0 0,zS none 0 0,zS none 0 0,zS none 0 0]
 let l:=[zS none 0 0,zS a7 s_.Meetings.length c8,zS a10 s_.Allowed.length c11,zS a13 s_.Hidden.length c14]
 let J:=bB 60 K none 0 (bT ([]:List (Dp.Hd eP)) ([]:List eP))
 let V:=rows [9,130] ([]:List (Dp.Hd eP)) ([]:List eP)
 refine aQ func7 rfl (by kernel_rfl) (by show (1:Nat)<=43;decide) ?_;unfold zU at hm
 refine aL (dQ (v:=zA #[zS a1 s_.Definitions.length c2,zS a4 s_.Components.length c5,zS a7 s_.Meetings.length c8,zS a10 s_.Allowed.length c11,zS a13 s_.Hidden.length c14]) (vs:=k) hs rfl rfl (fun n g8 e2=>(cR (vs:=g) zeroValue32 e2 rfl (fun m g9 c4=>(aD (v:=i64 0) (aG (aO (aL (aA (eH (us:=k) aHp c4 (i:=1) rfl rfl rfl rfl) ?_)))))))));obtain ⟨h0,e3,hm⟩:=aC hm
 refine aT (vs:=[zA #[zS a1 s_.Definitions.length c2,zS a4 s_.Components.length c5,zS a7 s_.Meetings.length c8,zS a10 s_.Allowed.length c11,zS a13 s_.Hidden.length c14]]) call23 rfl (aJo e3 c4 h3 h6 h9 b3 b4) ?_
 rintro _ h1 ⟨rfl,u⟩
 refine aA (dA rfl) (aG ?_)
 rcases aH hm with ⟨Z,hm⟩|⟨Z,hm⟩
 ·refine aM Z rfl (aL (aA (iA (vs:=[]) (cs:=g) aLo rfl (by kernel_rfl)) (cO (i:=0) (ns:=g) (us:=g) sizeOf32 u rfl rfl rfl rfl rfl (dU rfl) rfl rfl (fun c6 (e4:aN G K (box m 32 g::box n 38 k::L) c6)=>(aD (v:=i64 1) (aG ?_))))))
  have e5:aN G K (J::V::box m 32 g::box n 38 k::L) c6:=aN.nil (α:=Cells _) (aN.rowsNil (α:=eP) (tys:=[9,130]) e4) 60 K
  have e6:=aN.nil (α:=bV) e5 93 K
  have e7:=aN.nil (α:=bK) e6 9 K
  have c7:=aN.nil (α:=bK) e7 9 K
  obtain rfl:=zI hm
  exact aX (aK (xK results7 (iN (vs:=g) rfl wB c7 (i:=5) rfl rfl rfl) (vS rfl rfl) ⟨none,0,([]:List (Dp.Hd eP)),none,0,none,0,none,0,rfl,rfl,(aN.arr 7 [3,4,2,1,0] c7 rfl)⟩))
 ·refine aJ Z rfl (aW (aB (aL (aA (bA (t':=2) aBN rfl rfl) (aA (bO aFy u (i:=1) rfl rfl rfl) (aA (bA (t':=3) aBO rfl rfl) (aA (bO jG u (i:=1) rfl rfl rfl) (aA (bA (t':=4) aBP rfl rfl) (aA (bO jG u (i:=1) rfl rfl rfl) (aA (iA (vs:=[(1,zS a7 s_.Meetings.length c8),(2,zS a10 s_.Allowed.length c11),(3,zS a13 s_.Hidden.length c14)]) (cs:=l) aLo rfl (by kernel_rfl)) (cR (vs:=g) zeroValue32 u rfl (fun o h2 e9=>(cO (i:=0) (ns:=l) (us:=l) sizeOf32 e9 rfl rfl rfl rfl rfl (dU rfl) rfl rfl (fun c9 (d0:aN G K (box o 32 l::box m 32 g::box n 38 k::L) c9)=>(aG (aL (aD (v:=zS none 0 0) (aG (aO (aL (aA (bA (t':=1) mD rfl rfl) (aA (bO aBn d0 (i:=2) rfl rfl rfl) (aA (bQ (len:=s_.Components.length) oJ rfl) (aI (v:=i64 0) ?_))))))))))))))))))))))))
  refine aG (bR [2,4] (fun f w=>∃ y d1 d2 a0,qP s_ y=some R/\f 5=zS d1 y.length d2/\List.length a0=List.length y/\aN G K (bB 60 K d1 d2 (bT a0 y)::rows [9,130] a0 y::box o 32 l::box m 32 g::L) w) cA ?_)
  have f0:aN G K (J::V::box o 32 l::box m 32 g::box n 38 k::L) c9:=aN.nil (α:=Cells _) (aN.rowsNil (α:=eP) (tys:=[9,130]) d0) 60 K
  obtain ⟨h4,f1,ho⟩:=aC hm
  refine dN [1,2,4,22] f1 (fun j r f w=>∃ p q h,f 5=zS p j.length q/\f 23=i64 r/\List.length h=List.length j/\aN G K (bB 60 K p q (bT h j)::rows [9,130] h j::box o 32 l::box m 32 g::box n 38 k::L) w) ?_ ?_
  ·exact ⟨none,0,[],rfl,rfl,rfl,f0⟩
  ·rintro j r h5 f h7 hm hr ⟨p,q,h,f2,a2,d3,d4⟩
   unfold nP at hm
   refine aL (aA (cM a2 rfl) (aG (aO ?_)))
   rcases aH hm with ⟨d5,hm⟩|⟨d5,hm⟩
   ·refine aM d5 rfl (aW (aB (aO (bZ (aL (bG a2 (aD (v:=i64 r) (aG (aL (aA (eH (us:=k) aHp d4 (i:=4) rfl rfl rfl rfl) (aI (v:=i64 r) ?_)))))))))));obtain ⟨a,f3,hm⟩:=aC hm
    refine aT (vs:=[zA #[zS a1 s_.Definitions.length c2,zS a4 s_.Components.length c5,zS a7 s_.Meetings.length c8,zS a10 s_.Allowed.length c11,zS a13 s_.Hidden.length c14],i64 r]) call24 rfl (aEz f3 d4 hG h3 h6 h9 b3 b4) ?_
    rintro _ h8 ⟨b,c,d,e,rfl,f4⟩
    refine aI (v:=zT #[zA (zCa a.1 b c d e),zB a.2]) (aA (dF rfl rfl) (aA (dF rfl rfl) (cR (vs:=zG) zeroValue60 f4 rfl (fun t i0 f5=>(cO (i:=0) (ns:=(zC a.1 b c d e)) (us:=(zC a.1 b c d e)) sizeOf60 f5 rfl rfl rfl rfl rfl (dU rfl) rfl rfl (fun d6 (a3:aN G K (box t 60 (zC a.1 b c d e)::bB 9 K b c a.1.L::bB 130 K d e a.1.E::bB 60 K p q (bT h j)::rows [9,130] h j::box o 32 l::box m 32 g::box n 38 k::L) d6)=>(aD (v:=zB a.2) (aG (aO (aL (aI (v:=zB a.2) (aA (dA rfl) (aG ?_)))))))))))))
    rcases aH hm with ⟨a5,hm⟩|⟨a5,hm⟩
    ·refine aM a5 rfl (aL (aA (iA (vs:=[]) (cs:=g) aLo rfl (by kernel_rfl)) (cO (i:=6) (ns:=g) (us:=g) sizeOf32 a3 rfl rfl rfl rfl rfl (dU rfl) rfl rfl (fun d7 (f6:aN G K (box t 60 (zC a.1 b c d e)::bB 9 K b c a.1.L::bB 130 K d e a.1.E::bB 60 K p q (bT h j)::rows [9,130] h j::box o 32 l::box m 32 g::box n 38 k::L) d7)=>(aD (v:=i64 5) (aG (aX (aK (aZ (aK (aK ?_)))))))))))
     have f7:=hr _ (zI hm).symm
     subst f7
     have hm:(some (⟨[],[],[],[]⟩,5))=some R:=ho
     clear hr ho
     have f8:aN G K (J::V::box t 60 (zC a.1 b c d e)::bB 9 K b c a.1.L::bB 130 K d e a.1.E::bB 60 K p q (bT h j)::rows [9,130] h j::box o 32 l::box m 32 g::box n 38 k::L) d7:=aN.nil (α:=Cells _) (aN.rowsNil (α:=eP) (tys:=[9,130]) f6) 60 K
     have f9:=aN.nil (α:=bV) f8 93 K
     have g0:=aN.nil (α:=bK) f9 9 K
     have d8:=aN.nil (α:=bK) g0 9 K
     obtain rfl:=zI hm
     exact aZ (aK (aK (xK results7 (iN (vs:=g) rfl wB d8 (i:=11) rfl rfl rfl) (vS rfl rfl) ⟨none,0,([]:List (Dp.Hd eP)),none,0,none,0,none,0,rfl,rfl,(aN.arr 13 [3,4,2,1,0] d8 rfl)⟩)))
    ·refine aJ a5 rfl (aW (aB (aV (bG f2 (aA (eH (us:=(zC a.1 b c d e)) wA a3 (i:=0) rfl rfl rfl rfl) ?_)))))
     have g2:aN G K (rows [9,130] ([((b,c),(d,e))]:List (Dp.Hd eP)) ([a.1]:List eP)::box t 60 (zC a.1 b c d e)::bB 60 K p q (bT h j)::rows [9,130] h j::box o 32 l::box m 32 g::box n 38 k::L) d6:=aN.rowsOneS (tys:=[9,130]) (hd:=(((b,c),(d,e)):Dp.Hd eP)) (x:=(a.1:eP)) (aN.arr 3 [1,2,0] a3 rfl)
     refine eL (Kt:=K) (xs:=bT ([((b,c),(d,e))]:List (Dp.Hd eP)) ([a.1]:List eP)) (cs:=(zC a.1 b c d e)) (vs:=[(0,zA (zCa a.1 b c d e))]) yR aRY rfl rfl g2 rfl (by kernel_rfl) rfl rfl rfl ⟨rfl,trivial⟩ ?_
     intro g3 g4 (g5:aN G K (bB 60 K g3 1 (bT ([((b,c),(d,e))]:List (Dp.Hd eP)) ([a.1]:List eP))::rows [9,130] ([((b,c),(d,e))]:List (Dp.Hd eP)) ([a.1]:List eP)::box t 60 (zC a.1 b c d e)::bB 60 K p q (bT h j)::rows [9,130] h j::box o 32 l::box m 32 g::box n 38 k::L) g4)
     obtain ⟨a6,d9,hm⟩:=aC hm
     refine WO_appD (i:=1) (tys:=[9,130]) (hds:=h) (hds2:=([((b,c),(d,e))]:List (Dp.Hd eP))) yR underlying29 aRY rfl rfl g5 d3 rfl rfl rfl d9 rfl rfl rfl rfl ?_
     intro a8 a9 g6 (g7:aN G K (bB 60 K a8 a9 (bT (h++([((b,c),(d,e))]:List (Dp.Hd eP))) a6)::rows [9,130] (h++([((b,c),(d,e))]:List (Dp.Hd eP))) a6::box t 60 (zC a.1 b c d e)::box o 32 l::box m 32 g::box n 38 k::L) g6)
     exact aD (v:=zS a8 a6.length a9) (cC (bM (aB (aV (aA (cD a2 rfl) (aI (v:=i64 (wr (r+1))) (aG ⟨_,(zI hm).symm,aU,a8,a9,(h++([((b,c),(d,e))]:List (Dp.Hd eP))),rfl,rfl,(aPz d3 rfl d9),(aN.arr 3 [0,1] g7 rfl)⟩)))))))
   ·exact cA
end Gv
namespace Gv
open Gv.Hp renaming le_refl→zR
open Go.Value renaming slice→zS,bool→zB,agg→zA
open Option.some renaming inj→zI
open Go Go.Proofs Go.Proofs.Tryz
set_option maxRecDepth 20000
set_option maxHeartbeats 40000000
variable {G:pJ} {K:Hp} {L:List hQ} {w:World} {a1 a4 a7 a10 a13 a16 a19 a22 a25 a28:Option Addr} {c2 c5 c8 c11 c14 c17 c20 c23 c26 c29:Nat}
theorem qW {a b:(List bK)} {R:Bool} (hm:oW a b=some R) (g:aN G K (L) w) (h:cE K a1 c2 a) (i:cE K a4 c5 b):
  Calls prog 28 ([zS a1 a.length c2,zS a4 b.length c5]:List Value).toArray w (eR fun v w'=>v=zB R/\aN G K (L) w'):=by
 refine aQ func28 rfl (by kernel_rfl) (by show (2:Nat)<=26;decide) ?_;unfold oW at hm
 refine aL (aD (v:=zB false) (aG (aO (aL (aI (v:=zS a1 a.length c2) (aA (bQ (len:=a.length) dL rfl) (aI (v:=zS a4 b.length c5) (aA (bQ (len:=b.length) dL rfl) (aA (gL rfl rfl) (aG ?_))))))))))
 rcases aH hm with ⟨c,hm⟩|⟨c,hm⟩
 ·exact cA
 ·refine aJ c rfl (aW (aB (aO (aL (aD (v:=i64 0) (aG (bR [] (fun f w=>aAT=some R/\aN G K (L) w) cA ?_)))))));obtain ⟨j,d,ho⟩:=aC hm
  exact dS [0,1] d (fun e f w=>f 5=i64 e/\aN G K (L) w) cA cA
theorem aOc {a b:Edge} {R:Bool} (hm:aHE a b=some R) (c:aN G K (L) w):
  Calls prog 143 ([zA #[i64 a.F,i64 a.B,i64 a.To],zA #[i64 b.F,i64 b.B,i64 b.To]]:List Value).toArray w (eR fun v w'=>v=zB R/\aN G K (L) w'):=by
 exact cA
theorem aNh {a b:(List Edge)} {R:Bool} (hm:aFO a b=some R) (g:aN G K (L) w) (h:cE K a1 c2 a) (i:cE K a4 c5 b):
  Calls prog 96 ([zS a1 a.length c2,zS a4 b.length c5]:List Value).toArray w (eR fun v w'=>v=zB R/\aN G K (L) w'):=by
 refine aQ func96 rfl (by kernel_rfl) (by show (2:Nat)<=27;decide) ?_;unfold aFO at hm
 refine aL (aD (v:=zB false) (aG (aO (aL (aI (v:=zS a1 a.length c2) (aA (bQ (len:=a.length) iI rfl) (aI (v:=zS a4 b.length c5) (aA (bQ (len:=b.length) iI rfl) (aA (gL rfl rfl) (aG ?_))))))))))
 rcases aH hm with ⟨c,hm⟩|⟨c,hm⟩
 ·exact cA
 ·refine aJ c rfl (aW (aB (aO (aL (aD (v:=i64 0) (aG (bR [] (fun f w=>aDz=some R/\aN G K (L) w) cA ?_)))))));obtain ⟨j,d,ho⟩:=aC hm
  exact dS [0,1] d (fun e f w=>f 5=i64 e/\aN G K (L) w) cA cA
theorem aPW {a b:eP} {R:Bool} (hm:aJQ a b=some R) (c:aN G K (L) w) (d:cE K a1 c2 a.L) (e:cE K a4 c5 a.E) (g:cE K a7 c8 b.L) (h:cE K a10 c11 b.E):
  Calls prog 56 ([zA (zCa a a1 c2 a4 c5),zA (zCa b a7 c8 a10 c11)]:List Value).toArray w (eR fun v w'=>v=zB R/\aN G K (L) w'):=by
 exact cA
theorem aOd {a b:(List eP)} {R:Bool} (hm:aHF a b=some R) (g:aN G K (L) w) (h:cE K a1 c2 a) (i:cE K a4 c5 b):
  Calls prog 26 ([zS a1 a.length c2,zS a4 b.length c5]:List Value).toArray w (eR fun v w'=>v=zB R/\aN G K (L) w'):=by
 refine aQ func26 rfl (by kernel_rfl) (by show (2:Nat)<=27;decide) ?_;unfold aHF at hm
 refine aL (aD (v:=zB false) (aG (aO (aL (aI (v:=zS a1 a.length c2) (aA (bQ (len:=a.length) yR rfl) (aI (v:=zS a4 b.length c5) (aA (bQ (len:=b.length) yR rfl) (aA (gL rfl rfl) (aG ?_))))))))))
 rcases aH hm with ⟨c,hm⟩|⟨c,hm⟩
 ·exact cA
 ·refine aJ c rfl (aW (aB (aO (aL (aD (v:=i64 0) (aG (bR [] (fun f w=>aFh=some R/\aN G K (L) w) cA ?_)))))));obtain ⟨j,d,ho⟩:=aC hm
  exact dS [0,1] d (fun e f w=>f 5=i64 e/\aN G K (L) w) cA cA
theorem aKQ {a b:bV} {R:Bool} (hm:uA a b=some R) (c:aN G K (L) w):
  Calls prog 57 ([zA #[str a.Left,str a.Right,str a.Result],zA #[str b.Left,str b.Right,str b.Result]]:List Value).toArray w (eR fun v w'=>v=zB R/\aN G K (L) w'):=by
 exact cA
theorem aFi {a b:(List bV)} {R:Bool} (hm:rN a b=some R) (g:aN G K (L) w) (h:cE K a1 c2 a) (i:cE K a4 c5 b):
  Calls prog 27 ([zS a1 a.length c2,zS a4 b.length c5]:List Value).toArray w (eR fun v w'=>v=zB R/\aN G K (L) w'):=by
 refine aQ func27 rfl (by kernel_rfl) (by show (2:Nat)<=27;decide) ?_;unfold rN at hm
 refine aL (aD (v:=zB false) (aG (aO (aL (aI (v:=zS a1 a.length c2) (aA (bQ (len:=a.length) lV rfl) (aI (v:=zS a4 b.length c5) (aA (bQ (len:=b.length) lV rfl) (aA (gL rfl rfl) (aG ?_))))))))))
 rcases aH hm with ⟨c,hm⟩|⟨c,hm⟩
 ·exact cA
 ·refine aJ c rfl (aW (aB (aO (aL (aD (v:=i64 0) (aG (bR [] (fun f w=>yA=some R/\aN G K (L) w) cA ?_)))))));obtain ⟨j,d,ho⟩:=aC hm
  exact dS [0,1] d (fun e f w=>f 5=i64 e/\aN G K (L) w) cA cA
theorem aBA {a b:iY} {R:Bool} (hm:uB a b=some R) (c:aN G K (L) w) (d:cE K a1 c2 a.Parts) (e:cE K a4 c5 a.Meetings) (g:cE K a7 c8 a.Allowed) (h:cE K a10 c11 a.Hidden) (i:cE K a13 c14 b.Parts) (j:cE K a16 c17 b.Meetings) (k:cE K a19 c20 b.Allowed) (l:cE K a22 c23 b.Hidden):
  Calls prog 8 ([zA #[zS a1 a.Parts.length c2,zS a4 a.Meetings.length c5,zS a7 a.Allowed.length c8,zS a10 a.Hidden.length c11],zA #[zS a13 b.Parts.length c14,zS a16 b.Meetings.length c17,zS a19 b.Allowed.length c20,zS a22 b.Hidden.length c23]]:List Value).toArray w (eR fun v w'=>v=zB R/\aN G K (L) w'):=by
 exact cA
theorem aOe {a b:bP} {R:Bool} (hm:aHG a b=some R) (c:aN G K (L) w):
  Calls prog 270 ([zA #[i64 a.Kind,i64 a.Value],zA #[i64 b.Kind,i64 b.Value]]:List Value).toArray w (eR fun v w'=>v=zB R/\aN G K (L) w'):=by
 exact cA
theorem aNi {a b:(List bP)} {R:Bool} (hm:aIm a b=some R) (g:aN G K (L) w) (h:cE K a1 c2 a) (i:cE K a4 c5 b):
  Calls prog 235 ([zS a1 a.length c2,zS a4 b.length c5]:List Value).toArray w (eR fun v w'=>v=zB R/\aN G K (L) w'):=by
 refine aQ func235 rfl (by kernel_rfl) (by show (2:Nat)<=27;decide) ?_;unfold aIm at hm
 refine aL (aD (v:=zB false) (aG (aO (aL (aI (v:=zS a1 a.length c2) (aA (bQ (len:=a.length) lE rfl) (aI (v:=zS a4 b.length c5) (aA (bQ (len:=b.length) lE rfl) (aA (gL rfl rfl) (aG ?_))))))))))
 rcases aH hm with ⟨c,hm⟩|⟨c,hm⟩
 ·exact cA
 ·refine aJ c rfl (aW (aB (aO (aL (aD (v:=i64 0) (aG (bR [] (fun f w=>aDA=some R/\aN G K (L) w) cA ?_)))))));obtain ⟨j,d,ho⟩:=aC hm
  exact dS [0,1] d (fun e f w=>f 5=i64 e/\aN G K (L) w) cA cA
theorem aLU {a b:(List (List bP))} {R:Bool} (hm:aGA a b=some R) (g:aN G K (L) w) (h:cE K a1 c2 a) (i:cE K a4 c5 b):
  Calls prog 184 ([zS a1 a.length c2,zS a4 b.length c5]:List Value).toArray w (eR fun v w'=>v=zB R/\aN G K (L) w'):=by
 refine aQ func184 rfl (by kernel_rfl) (by show (2:Nat)<=27;decide) ?_;unfold aGA at hm
 refine aL (aD (v:=zB false) (aG (aO (aL (aI (v:=zS a1 a.length c2) (aA (bQ (len:=a.length) jR rfl) (aI (v:=zS a4 b.length c5) (aA (bQ (len:=b.length) jR rfl) (aA (gL rfl rfl) (aG ?_))))))))))
 rcases aH hm with ⟨c,hm⟩|⟨c,hm⟩
 ·exact cA
 ·refine aJ c rfl (aW (aB (aO (aL (aD (v:=i64 0) (aG (bR [] (fun f w=>aCh=some R/\aN G K (L) w) cA ?_)))))));obtain ⟨j,d,ho⟩:=aC hm
  exact dS [0,1] d (fun e f w=>f 5=i64 e/\aN G K (L) w) cA cA
theorem aOf {a b:Part} {R:Bool} (hm:aHH a b=some R) (c:aN G K (L) w) (d:cE K a1 c2 a.Arguments) (e:cE K a4 c5 b.Arguments):
  Calls prog 144 ([zA #[i64 a.Kind,i64 a.Number,str a.Name,zS a1 a.Arguments.length c2],zA #[i64 b.Kind,i64 b.Number,str b.Name,zS a4 b.Arguments.length c5]]:List Value).toArray w (eR fun v w'=>v=zB R/\aN G K (L) w'):=by
 exact cA
theorem aNj {a b:(List Part)} {R:Bool} (hm:aIn a b=some R) (g:aN G K (L) w) (h:cE K a1 c2 a) (i:cE K a4 c5 b):
  Calls prog 97 ([zS a1 a.length c2,zS a4 b.length c5]:List Value).toArray w (eR fun v w'=>v=zB R/\aN G K (L) w'):=by
 refine aQ func97 rfl (by kernel_rfl) (by show (2:Nat)<=27;decide) ?_;unfold aIn at hm
 refine aL (aD (v:=zB false) (aG (aO (aL (aI (v:=zS a1 a.length c2) (aA (bQ (len:=a.length) jV rfl) (aI (v:=zS a4 b.length c5) (aA (bQ (len:=b.length) jV rfl) (aA (gL rfl rfl) (aG ?_))))))))))
 rcases aH hm with ⟨c,hm⟩|⟨c,hm⟩
 ·exact cA
 ·refine aJ c rfl (aW (aB (aO (aL (aD (v:=i64 0) (aG (bR [] (fun f w=>aDB=some R/\aN G K (L) w) cA ?_)))))));obtain ⟨j,d,ho⟩:=aC hm
  exact dS [0,1] d (fun e f w=>f 5=i64 e/\aN G K (L) w) cA cA
theorem aIK {a b:Definition} {R:Bool} (hm:uC a b=some R) (c:aN G K (L) w) (d:cE K a1 c2 a.Body) (e:cE K a4 c5 b.Body):
  Calls prog 58 ([zA #[str a.Name,i64 a.Parameters,zS a1 a.Body.length c2],zA #[str b.Name,i64 b.Parameters,zS a4 b.Body.length c5]]:List Value).toArray w (eR fun v w'=>v=zB R/\aN G K (L) w'):=by
 exact cA
theorem aHW {a b:(List Definition)} {R:Bool} (hm:yB a b=some R) (g:aN G K (L) w) (h:cE K a1 c2 a) (i:cE K a4 c5 b):
  Calls prog 29 ([zS a1 a.length c2,zS a4 b.length c5]:List Value).toArray w (eR fun v w'=>v=zB R/\aN G K (L) w'):=by
 refine aQ func29 rfl (by kernel_rfl) (by show (2:Nat)<=27;decide) ?_;unfold yB at hm
 refine aL (aD (v:=zB false) (aG (aO (aL (aI (v:=zS a1 a.length c2) (aA (bQ (len:=a.length) iW rfl) (aI (v:=zS a4 b.length c5) (aA (bQ (len:=b.length) iW rfl) (aA (gL rfl rfl) (aG ?_))))))))))
 rcases aH hm with ⟨c,hm⟩|⟨c,hm⟩
 ·exact cA
 ·refine aJ c rfl (aW (aB (aO (aL (aD (v:=i64 0) (aG (bR [] (fun f w=>rO=some R/\aN G K (L) w) cA ?_)))))));obtain ⟨j,d,ho⟩:=aC hm
  exact dS [0,1] d (fun e f w=>f 5=i64 e/\aN G K (L) w) cA cA
theorem aLV {a b:(List Int)} {R:Bool} (hm:aEs a b=some R) (g:aN G K (L) w) (h:cE K a1 c2 a) (i:cE K a4 c5 b):
  Calls prog 98 ([zS a1 a.length c2,zS a4 b.length c5]:List Value).toArray w (eR fun v w'=>v=zB R/\aN G K (L) w'):=by
 refine aQ func98 rfl (by kernel_rfl) (by show (2:Nat)<=26;decide) ?_;unfold aEs at hm
 refine aL (aD (v:=zB false) (aG (aO (aL (aI (v:=zS a1 a.length c2) (aA (bQ (len:=a.length) gF rfl) (aI (v:=zS a4 b.length c5) (aA (bQ (len:=b.length) gF rfl) (aA (gL rfl rfl) (aG ?_))))))))))
 rcases aH hm with ⟨c,hm⟩|⟨c,hm⟩
 ·exact cA
 ·refine aJ c rfl (aW (aB (aO (aL (aD (v:=i64 0) (aG (bR [] (fun f w=>aCi=some R/\aN G K (L) w) cA ?_)))))));obtain ⟨j,d,ho⟩:=aC hm
  exact dS [0,1] d (fun e f w=>f 5=i64 e/\aN G K (L) w) cA cA
theorem aJq {a b:bL} {R:Bool} (hm:xD a b=some R) (c:aN G K (L) w) (d:cE K a1 c2 a.Values) (e:cE K a4 c5 b.Values):
  Calls prog 59 ([zA #[i64 a.Definition,zS a1 a.Values.length c2],zA #[i64 b.Definition,zS a4 b.Values.length c5]]:List Value).toArray w (eR fun v w'=>v=zB R/\aN G K (L) w'):=by
 exact cA
theorem aIL {a b:(List bL)} {R:Bool} (hm:aAX a b=some R) (g:aN G K (L) w) (h:cE K a1 c2 a) (i:cE K a4 c5 b):
  Calls prog 30 ([zS a1 a.length c2,zS a4 b.length c5]:List Value).toArray w (eR fun v w'=>v=zB R/\aN G K (L) w'):=by
 refine aQ func30 rfl (by kernel_rfl) (by show (2:Nat)<=27;decide) ?_;unfold aAX at hm
 refine aL (aD (v:=zB false) (aG (aO (aL (aI (v:=zS a1 a.length c2) (aA (bQ (len:=a.length) oJ rfl) (aI (v:=zS a4 b.length c5) (aA (bQ (len:=b.length) oJ rfl) (aA (gL rfl rfl) (aG ?_))))))))))
 rcases aH hm with ⟨c,hm⟩|⟨c,hm⟩
 ·exact cA
 ·refine aJ c rfl (aW (aB (aO (aL (aD (v:=i64 0) (aG (bR [] (fun f w=>tA=some R/\aN G K (L) w) cA ?_)))))));obtain ⟨j,d,ho⟩:=aC hm
  exact dS [0,1] d (fun e f w=>f 5=i64 e/\aN G K (L) w) cA cA
theorem aLW {a b:cP} {R:Bool} (hm:aEt a b=some R) (c:aN G K (L) w) (d:cE K a1 c2 a.Definitions) (e:cE K a4 c5 a.Components) (g:cE K a7 c8 a.Meetings) (h:cE K a10 c11 a.Allowed) (i:cE K a13 c14 a.Hidden) (j:cE K a16 c17 b.Definitions) (k:cE K a19 c20 b.Components) (l:cE K a22 c23 b.Meetings) (m:cE K a25 c26 b.Allowed) (n:cE K a28 c29 b.Hidden):
  Calls prog 9 ([zA #[zS a1 a.Definitions.length c2,zS a4 a.Components.length c5,zS a7 a.Meetings.length c8,zS a10 a.Allowed.length c11,zS a13 a.Hidden.length c14],zA #[zS a16 b.Definitions.length c17,zS a19 b.Components.length c20,zS a22 b.Meetings.length c23,zS a25 b.Allowed.length c26,zS a28 b.Hidden.length c29]]:List Value).toArray w (eR fun v w'=>v=zB R/\aN G K (L) w'):=by
 exact cA
theorem iV {k:Int} {R:bK} (hm:jE k=some R) (y:aN G K (L) w):
  Calls prog 60 ([i64 k]:List Value).toArray w (eR fun v w'=>v=str R/\aN G K (L) w'):=by
 refine aQ func60 rfl (by kernel_rfl) (by show (1:Nat)<=20;decide) ?_;unfold jE at hm
 refine aL (aD (v:=str ([]:bK)) (aG (aO (aL (aI (v:=i64 k) (aA (aBl rfl rfl) (aG ?_)))))))
 rcases aH hm with ⟨c,hm⟩|⟨c,hm⟩
 ·exact cA
 ·refine aJ c rfl (aW (aB (aL (aD (v:=str ([]:bK)) (aG (aO (bR [] (fun f w=>∃ d,xE d=some R/\f 3=str d/\aN G K (L) w) cA ?_)))))));obtain ⟨z,l,ho⟩:=aC hm
  refine dN [] l (fun e g f w=>f 0=i64 e/\f 3=str g/\aN G K (L) w) cA ?_
  ·rintro e g J f V hm hr ⟨b,m,n⟩
   unfold aCj at hm
   refine aO (aL (bG b (aA (kA rfl rfl) (aG ?_))))
   rcases aH hm with ⟨h,hm⟩|⟨h,hm⟩
   ·refine aM h rfl (aW (aB (bZ (aL (bG b ?_)))));obtain ⟨a,o,hm⟩:=aC hm
    refine aA (aLm rfl rfl o) (aA (cD rfl rfl) (aA (aOG runUnderlying5 rfl ⟨_,runUnderlying3⟩) (eL (Kt:=K) (xs:=([(UInt8.ofInt (wr (48+a)))]:List UInt8)) (cs:=[Value.int .u8 ((UInt8.ofInt (wr (48+a))).toNat:Int)]) (vs:=[(0,Value.int .u8 ((UInt8.ofInt (wr (48+a))).toNat:Int))]) aDZ ez_5 rfl rfl n rfl (by kernel_rfl) rfl rfl rfl ⟨rfl,trivial⟩ ?_)))
    intro p q (j:aN G K (bB 5 K p 1 ([(UInt8.ofInt (wr (48+a)))]:List UInt8)::L) q)
    refine aA (aOF underlying159 underlying5 underlying9 j (i:=0) rfl rfl rfl) (bG m ?_);obtain ⟨r,t,hm⟩:=aC hm
    refine aA (aCZ rfl rfl t) (aD (v:=str r) (aG (aV (bG b ?_))));obtain ⟨u,x,hm⟩:=aC hm
    exact aA (R_quo rfl rfl x) (aD (v:=i64 u) (cC (bM (aB ⟨_,(zI hm).symm,aU,rfl,rfl,(aN.arr 1 [] j rfl)⟩))))
   ·exact cA
theorem aKR {a:(List bP)} {k:Int} {R:(Int × (List bP))} (hm:aCL a k=some R) (hs:aN G K (bB 242 K a1 c2 a::L) w):
  Calls prog 145 ([zS a1 a.length c2,i64 k]:List Value).toArray w (eR fun v w'=>v=i64 R.1/\a.length=R.2.length/\aN G K (bB 242 K a1 c2 R.2::L) w'):=by
 refine aQ func145 rfl (by kernel_rfl) (by show (2:Nat)<=27;decide) ?_;unfold aCL at hm
 refine aL (aD (v:=i64 0) (aG (aO (aL (aD (v:=i64 0) (aG (bR [] (fun f w=>∃ q m,aAY q m=some R/\f 1=i64 q/\a.length=m.length/\aN G K (bB 242 K a1 c2 m::L) w) cA ?_)))))));obtain ⟨a9,J,ho⟩:=aC hm
 refine mL [] J (fun c b d f w=>f 0=zS a1 c.length c2/\f 1=i64 b/\f 5=i64 d/\a.length=c.length/\aN G K (bB 242 K a1 c2 c::L) w) cA ?_
 ·rintro c b d b0 f b1 hm hr ⟨e,r,g,V,u⟩
  unfold uD at hm
  refine aO (aL (bG g (bG e (aA (bQ (len:=c.length) lE rfl) (aA (cM rfl rfl) (aG ?_))))))
  rcases aH hm with ⟨x,hm⟩|⟨x,hm⟩
  ·refine aM x rfl (aW (aB (aO (bZ (aL (bG e (bG g (bG r ?_))))))));obtain ⟨Z,o,hm⟩:=aC hm
   have j:=fC u (i:=0) rfl o
   refine aA (gE lE rfl j rfl rfl rfl o) (aA (kD (k':=d.toNat * 2+0) vY j rfl rfl) ?_);obtain ⟨y,l,hm⟩:=aC hm
   refine mU (i:=0) (t:=0) (ns:=[i64 b]) (e':=(⟨b,Z.Value⟩:bP)) sizeOf2 u rfl (zR _) rfl rfl rfl o l rfl rfl (dU rfl) rfl (fun cs h=>by cases h;rfl) (fun a0 (a2:aN G K (bB 242 K a1 c2 y::L) a0)=>(aG (aL (bG r (aA (cD rfl rfl) (aD (v:=i64 (wr (b+1))) (aG (aL (bG (v:=zS a1 y.length c2) (Eq.trans e (congrArg (fun n=>zS a1 n c2) (cH l))) (bG g (aI (v:=i64 (wr (b+1))) ?_)))))))))));obtain ⟨a3,z,hm⟩:=aC hm
   refine aA (gE lE rfl j rfl rfl rfl z) (aA (kD (k':=d.toNat * 2+1) kW j rfl rfl) ?_);obtain ⟨a5,p,hm⟩:=aC hm
   exact mU (i:=0) (t:=1) (ns:=[i64 (wr (b+1))]) (e':=(⟨a3.Kind,wr (b+1)⟩:bP)) sizeOf2 a2 rfl (zR _) rfl rfl rfl z p rfl rfl (dU rfl) rfl (fun cs h=>by cases h;rfl) (fun a6 (a7:aN G K (bB 242 K a1 c2 a5::L) a6)=>(aG (aV (aI (v:=i64 (wr (b+1))) (aA (cD rfl rfl) (aD (v:=i64 (wr ((wr (b+1))+1))) (cC (bM (aB (aV (bG g (aA (cD rfl rfl) (aD (v:=i64 (wr (d+1))) (aG ⟨_,(zI hm).symm,aU,(Eq.trans (Eq.trans e (congrArg (fun n=>zS a1 n c2) (cH l))) (congrArg (fun n=>zS a1 n c2) (cH p))),rfl,rfl,((V.trans (cH l)).trans (cH p)),a7⟩))))))))))))))
  ·exact cA
theorem aKc {a:(List (List bP))} {b:List (Dp.Hd (List bP))} {k:Int} {R:(Int × (List (List bP)))} (hm:aAZ a k=some R) (hs:aN G K (bB 203 K a1 c2 (bT b a)::rows [242] b a::L) w) (b3:List.length b=List.length a):
  Calls prog 99 ([zS a1 a.length c2,i64 k]:List Value).toArray w (eR fun v w'=>v=i64 R.1/\a.length=R.2.length/\aN G K (bB 203 K a1 c2 (bT b R.2)::rows [242] b R.2::L) w'):=by
 refine aQ func99 rfl (by kernel_rfl) (by show (2:Nat)<=19;decide) ?_;unfold aAZ at hm
 refine aL (aD (v:=i64 0) (aG (aO (aL (aD (v:=i64 0) (aG (bR [] (fun f w=>∃ y g,yC y g=some R/\f 1=i64 y/\List.length b=List.length g/\a.length=g.length/\aN G K (bB 203 K a1 c2 (bT b g)::rows [242] b g::L) w) cA ?_)))))));obtain ⟨b4,V,ho⟩:=aC hm
 refine mL [] V (fun c m d f w=>f 0=zS a1 c.length c2/\f 1=i64 m/\f 5=i64 d/\List.length b=List.length c/\a.length=c.length/\aN G K (bB 203 K a1 c2 (bT b c)::rows [242] b c::L) w) cA ?_
 ·rintro c m d b5 f z hm hr ⟨o,Z,p,h,a0,q⟩
  unfold sB at hm
  refine aO (aL (bG p (bG o (aA (bQ (len:=c.length) jR rfl) (aA (cM rfl rfl) (aG ?_))))))
  rcases aH hm with ⟨c48,hm⟩|⟨c48,hm⟩
  ·refine aM c48 rfl (aW (aB (aO (bZ (aV (bG o (bG p ?_)))))));obtain ⟨r,e,hm⟩:=aC hm
   obtain ⟨⟨u,x⟩,j⟩:=aGk h e
   have a2:=fC q (i:=0) rfl (lT h e j)
   refine aA (gE jR rfl a2 rfl rfl rfl e) (aA (aDa (t:=0) aFm q (i:=0) rfl (lT h e j) rfl rfl rfl) (bG Z ?_))
   have a3:aN G K (bB 203 K a1 c2 (bT b c)::rows [242] ((b).eraseIdx d.toNat) ((c).eraseIdx d.toNat)::bB 242 K u x r::L) z:=aN.focusR (i:=0) q rfl rfl j e
   have a4:aN G K (bB 242 K u x r::bB 203 K a1 c2 (bT b c)::rows [242] ((b).eraseIdx d.toNat) ((c).eraseIdx d.toNat)::L) z:=(aN.arr 3 [2,0,1] a3 rfl)
   obtain ⟨a5,a7,hm⟩:=aC hm
   refine aT (vs:=[zS u r.length x,i64 m]) call145 rfl (aKR a7 a4) ?_
   rintro _ a8 ⟨rfl,a9,b0⟩
   obtain ⟨J,l,hm⟩:=aC hm
   have b1:aN G K (bB 203 K a1 c2 (bT b J)::rows [242] b J::L) a8:=aN.unfocusR (tys:=[242]) b0 h j e a9 l
   exact aD (v:=i64 a5.1) (cC (bM (aB (aV (bG p (aA (cD rfl rfl) (aD (v:=i64 (wr (d+1))) (aG ⟨_,(zI hm).symm,aU,(Eq.trans o (congrArg (fun n=>zS a1 n c2) (cH l))),rfl,rfl,(h.trans (cH l)),(a0.trans (cH l)),b1⟩))))))))
  ·exact cA
theorem aKS {a:(List Part)} {b:List (Dp.Hd Part)} {k:Int} {R:(Int × (List Part))} (hm:aCM a k=some R) (hs:aN G K (bB 162 K a1 c2 (bT b a)::rows [203,242] b a::L) w) (d8:List.length b=List.length a):
  Calls prog 61 ([zS a1 a.length c2,i64 k]:List Value).toArray w (eR fun v w'=>v=i64 R.1/\a.length=R.2.length/\aN G K (bB 162 K a1 c2 (bT b R.2)::rows [203,242] b R.2::L) w'):=by
 refine aQ func61 rfl (by kernel_rfl) (by show (2:Nat)<=42;decide) ?_;unfold aCM at hm
 refine aL (aD (v:=i64 0) (aG (aO (aL (aD (v:=i64 0) (aG (bR [] (fun f w=>∃ k5 y,aBa k5 y=some R/\f 1=i64 k5/\List.length b=List.length y/\a.length=y.length/\aN G K (bB 162 K a1 c2 (bT b y)::rows [203,242] b y::L) w) cA ?_)))))));obtain ⟨d9,c3,ho⟩:=aC hm
 refine mL [] c3 (fun p c d f w=>f 0=zS a1 p.length c2/\f 1=i64 c/\f 5=i64 d/\List.length b=List.length p/\a.length=p.length/\aN G K (bB 162 K a1 c2 (bT b p)::rows [203,242] b p::L) w) cA ?_
 ·rintro p c d e0 f e1 hm hr ⟨u,b2,x,l,c4,b3⟩
  unfold uE at hm
  refine aO (aL (bG x (bG u (aA (bQ (len:=p.length) jV rfl) (aA (cM rfl rfl) (aG ?_))))))
  rcases aH hm with ⟨c48,hm⟩|⟨c48,hm⟩
  ·refine aM c48 rfl (aW (aB (aO (bZ (aL (bG u (bG x (bG b2 ?_))))))));obtain ⟨a4,V,hm⟩:=aC hm
   obtain ⟨⟨⟨z,J⟩,m⟩,q⟩:=aGk l V
   have o:=fC b3 (i:=0) rfl (lT l V q)
   refine aA (gE jV rfl o rfl rfl rfl V) (aA (kD (k':=d.toNat * 4+0) fE o rfl rfl) ?_);obtain ⟨a5,e,hm⟩:=aC hm
   refine aHn (i:=0) (t:=0) (ns:=[i64 c]) (e':=(⟨c,a4.Number,a4.Name,a4.Arguments⟩:Part)) sizeOf2 b3 l rfl rfl rfl rfl rfl V q e rfl rfl (dU rfl) rfl rfl rfl (fun c5 (c6:aN G K (bB 162 K a1 c2 (bT b a5)::rows [203,242] b a5::L) c5)=>(aG (aL (bG b2 (aA (cD rfl rfl) (aD (v:=i64 (wr (c+1))) (aG (aL (bG (v:=zS a1 a5.length c2) (Eq.trans u (congrArg (fun n=>zS a1 n c2) (cH e))) (bG x (aI (v:=i64 (wr (c+1))) ?_)))))))))))
   obtain ⟨a7,b4,hm⟩:=aC hm
   refine aA (gE jV rfl o rfl rfl rfl b4) (aA (kD (k':=d.toNat * 4+1) jW o rfl rfl) ?_);obtain ⟨a8,j,hm⟩:=aC hm
   refine aHn (i:=0) (t:=1) (ns:=[i64 (wr (c+1))]) (e':=(⟨a7.Kind,wr (c+1),a7.Name,a7.Arguments⟩:Part)) sizeOf2 c6 (l.trans (cH e)) rfl rfl rfl rfl rfl b4 q j rfl rfl (dU rfl) rfl rfl rfl (fun c7 (c8:aN G K (bB 162 K a1 c2 (bT b a8)::rows [203,242] b a8::L) c7)=>(aG (aL (aI (v:=i64 (wr (c+1))) (aA (cD rfl rfl) (aD (v:=i64 (wr ((wr (c+1))+1))) (aG (aL (bG (v:=zS a1 a8.length c2) (Eq.trans (Eq.trans u (congrArg (fun n=>zS a1 n c2) (cH e))) (congrArg (fun n=>zS a1 n c2) (cH j))) (bG x (aI (v:=i64 (wr ((wr (c+1))+1))) ?_)))))))))))
   obtain ⟨b5,c9,hm⟩:=aC hm
   refine aT (vs:=[i64 (wr ((wr (c+1))+1))]) call60 rfl (iV c9 c8) ?_
   rintro _ e2 ⟨rfl,d0⟩
   obtain ⟨a9,b6,hm⟩:=aC hm
   refine aA (gE jV rfl o rfl rfl rfl b6) (aA (kD (k':=d.toNat * 4+2) lU o rfl rfl) ?_);obtain ⟨g,r,hm⟩:=aC hm
   refine aHn (i:=0) (t:=2) (ns:=[str b5]) (e':=(⟨a9.Kind,a9.Number,b5,a9.Arguments⟩:Part)) sizeOf9 d0 ((l.trans (cH e)).trans (cH j)) rfl rfl rfl rfl rfl b6 q r rfl rfl (dU rfl) rfl rfl rfl (fun Z (b7:aN G K (bB 162 K a1 c2 (bT b g)::rows [203,242] b g::L) Z)=>(aG (aL (aI (v:=i64 (wr ((wr (c+1))+1))) (aA (cD rfl rfl) (aD (v:=i64 (wr ((wr ((wr (c+1))+1))+1))) (aG (aV (bG (v:=zS a1 g.length c2) (Eq.trans (Eq.trans (Eq.trans u (congrArg (fun n=>zS a1 n c2) (cH e))) (congrArg (fun n=>zS a1 n c2) (cH j))) (congrArg (fun n=>zS a1 n c2) (cH r))) (bG x ?_))))))))))
   obtain ⟨h,a0,hm⟩:=aC hm
   refine aA (gE jV rfl o rfl rfl rfl a0) (aA (kD (k':=d.toNat * 4+3) jC o rfl rfl) (aA (aDa (t:=3) pQ b7 (i:=0) rfl (lT (((l.trans (cH e)).trans (cH j)).trans (cH r)) a0 q) rfl rfl rfl) (aI (v:=i64 (wr ((wr ((wr (c+1))+1))+1))) ?_)))
   have d1:aN G K (bB 162 K a1 c2 (bT b g)::rows [203,242] ((b).eraseIdx d.toNat) ((g).eraseIdx d.toNat)::bB 203 K z J (bT m h.Arguments)::aGQ [242] m h.Arguments::L) Z:=aN.arr 4 [3,2,0,1] (aN.rowOut (i:=1) b7 rfl q (aMC a0)) rfl
   obtain ⟨b8,b0⟩:=aN.openL (i:=3) d1 rfl
   replace b0:aN G K (bB 162 K a1 c2 (bT b g)::rows [203,242] ((b).eraseIdx d.toNat) ((g).eraseIdx d.toNat)::bB 203 K z J (bT m h.Arguments)::rows [242] m h.Arguments::L) Z:=b0
   have d2:aN G K (bB 203 K z J (bT m h.Arguments)::rows [242] m h.Arguments::bB 162 K a1 c2 (bT b g)::rows [203,242] ((b).eraseIdx d.toNat) ((g).eraseIdx d.toNat)::L) Z:=(aN.arr 4 [2,3,0,1] b0 rfl)
   obtain ⟨a2,d3,hm⟩:=aC hm
   refine aT (vs:=[zS z h.Arguments.length J,i64 (wr ((wr ((wr (c+1))+1))+1))]) call99 rfl (aKc d3 d2 b8) ?_
   rintro _ b9 ⟨rfl,c0,d4⟩
   obtain ⟨c1,a3,hm⟩:=aC hm
   have d5:aN G K (bB 203 K z J (bT m a2.2)::aGQ [242] m a2.2::bB 162 K a1 c2 (bT b g)::rows [203,242] ((b).eraseIdx d.toNat) ((g).eraseIdx d.toNat)::L) b9:=aN.closeL (i:=1) d4 rfl (b8.trans c0)
   have d6:aN G K (bB 162 K a1 c2 (bT b c1)::rows [203,242] b c1::L) b9:=aN.unfocusS (tys:=[203,242]) (x':=(⟨h.Kind,h.Number,h.Name,a2.2⟩:Part)) (aN.arr 4 [0,1,3,2] d5 rfl) (((l.trans (cH e)).trans (cH j)).trans (cH r)) q a0 (aSf c0) a3
   exact aD (v:=i64 a2.1) (cC (bM (aB (aV (bG x (aA (cD rfl rfl) (aD (v:=i64 (wr (d+1))) (aG ⟨_,(zI hm).symm,aU,(Eq.trans (Eq.trans (Eq.trans (Eq.trans u (congrArg (fun n=>zS a1 n c2) (cH e))) (congrArg (fun n=>zS a1 n c2) (cH j))) (congrArg (fun n=>zS a1 n c2) (cH r))) (congrArg (fun n=>zS a1 n c2) (cH a3))),rfl,rfl,((((l.trans (cH e)).trans (cH j)).trans (cH r)).trans (cH a3)),((((c4.trans (cH e)).trans (cH j)).trans (cH r)).trans (cH a3)),d6⟩))))))))
  ·exact cA
theorem aGG {a:(List Definition)} {b:List (Dp.Hd Definition)} {k:Int} {R:(Int × (List Definition))} (hm:oZ a k=some R) (hs:aN G K (bB 89 K a1 c2 (bT b a)::rows [162,203,242] b a::L) w) (d2:List.length b=List.length a):
  Calls prog 31 ([zS a1 a.length c2,i64 k]:List Value).toArray w (eR fun v w'=>v=i64 R.1/\a.length=R.2.length/\aN G K (bB 89 K a1 c2 (bT b R.2)::rows [162,203,242] b R.2::L) w'):=by
 refine aQ func31 rfl (by kernel_rfl) (by show (2:Nat)<=35;decide) ?_;unfold oZ at hm
 refine aL (aD (v:=i64 0) (aG (aO (aL (aD (v:=i64 0) (aG (bR [] (fun f w=>∃ k5 r,oY k5 r=some R/\f 1=i64 k5/\List.length b=List.length r/\a.length=r.length/\aN G K (bB 89 K a1 c2 (bT b r)::rows [162,203,242] b r::L) w) cA ?_)))))));obtain ⟨d3,b8,ho⟩:=aC hm
 refine mL [] b8 (fun l d c f w=>f 0=zS a1 l.length c2/\f 1=i64 d/\f 5=i64 c/\List.length b=List.length l/\a.length=l.length/\aN G K (bB 89 K a1 c2 (bT b l)::rows [162,203,242] b l::L) w) cA ?_
 ·rintro l d c d4 f d5 hm hr ⟨u,a7,x,m,b9,c0⟩
  unfold lZ at hm
  refine aO (aL (bG x (bG u (aA (bQ (len:=l.length) iW rfl) (aA (cM rfl rfl) (aG ?_))))))
  rcases aH hm with ⟨c48,hm⟩|⟨c48,hm⟩
  ·refine aM c48 rfl (aW (aB (aO (bZ (aL (bG u (bG x (bG a7 ?_))))))));obtain ⟨a8,c1,hm⟩:=aC hm
   refine aT (vs:=[i64 d]) call60 rfl (iV c1 c0) ?_
   rintro _ d6 ⟨rfl,a9⟩
   obtain ⟨b0,J,hm⟩:=aC hm
   obtain ⟨⟨⟨y,z⟩,j⟩,p⟩:=aGk m J
   have q:=fC a9 (i:=0) rfl (lT m J p)
   refine aA (gE iW rfl q rfl rfl rfl J) (aA (kD (k':=c.toNat * 3+0) aBL q rfl rfl) ?_);obtain ⟨a3,g,hm⟩:=aC hm
   refine aHn (i:=0) (t:=0) (ns:=[str a8]) (e':=(⟨a8,b0.Parameters,b0.Body⟩:Definition)) sizeOf9 a9 m rfl rfl rfl rfl rfl J p g rfl rfl (dU rfl) rfl rfl rfl (fun c3 (c4:aN G K (bB 89 K a1 c2 (bT b a3)::rows [162,203,242] b a3::L) c3)=>(aG (aL (bG a7 (aA (cD rfl rfl) (aD (v:=i64 (wr (d+1))) (aG (aL (bG (v:=zS a1 a3.length c2) (Eq.trans u (congrArg (fun n=>zS a1 n c2) (cH g))) (bG x (aI (v:=i64 (wr (d+1))) ?_)))))))))))
   obtain ⟨b1,b2,hm⟩:=aC hm
   refine aA (gE iW rfl q rfl rfl rfl b2) (aA (kD (k':=c.toNat * 3+1) xL q rfl rfl) ?_);obtain ⟨e,o,hm⟩:=aC hm
   refine aHn (i:=0) (t:=1) (ns:=[i64 (wr (d+1))]) (e':=(⟨b1.Name,wr (d+1),b1.Body⟩:Definition)) sizeOf2 c4 (m.trans (cH g)) rfl rfl rfl rfl rfl b2 p o rfl rfl (dU rfl) rfl rfl rfl (fun V (b3:aN G K (bB 89 K a1 c2 (bT b e)::rows [162,203,242] b e::L) V)=>(aG (aL (aI (v:=i64 (wr (d+1))) (aA (cD rfl rfl) (aD (v:=i64 (wr ((wr (d+1))+1))) (aG (aV (bG (v:=zS a1 e.length c2) (Eq.trans (Eq.trans u (congrArg (fun n=>zS a1 n c2) (cH g))) (congrArg (fun n=>zS a1 n c2) (cH o))) (bG x ?_))))))))))
   obtain ⟨h,Z,hm⟩:=aC hm
   refine aA (gE iW rfl q rfl rfl rfl Z) (aA (kD (k':=c.toNat * 3+2) kT q rfl rfl) (aA (aDa (t:=2) yQ b3 (i:=0) rfl (lT ((m.trans (cH g)).trans (cH o)) Z p) rfl rfl rfl) (aI (v:=i64 (wr ((wr (d+1))+1))) ?_)))
   have c5:aN G K (bB 89 K a1 c2 (bT b e)::rows [162,203,242] ((b).eraseIdx c.toNat) ((e).eraseIdx c.toNat)::bB 162 K y z (bT j h.Body)::aGQ [203,242] j h.Body::L) V:=aN.arr 4 [3,2,0,1] (aN.rowOut (i:=1) b3 rfl p (aMC Z)) rfl
   obtain ⟨b4,a4⟩:=aN.openL (i:=3) c5 rfl
   replace a4:aN G K (bB 89 K a1 c2 (bT b e)::rows [162,203,242] ((b).eraseIdx c.toNat) ((e).eraseIdx c.toNat)::bB 162 K y z (bT j h.Body)::rows [203,242] j h.Body::L) V:=a4
   have c6:aN G K (bB 162 K y z (bT j h.Body)::rows [203,242] j h.Body::bB 89 K a1 c2 (bT b e)::rows [162,203,242] ((b).eraseIdx c.toNat) ((e).eraseIdx c.toNat)::L) V:=(aN.arr 4 [2,3,0,1] a4 rfl)
   obtain ⟨a0,c7,hm⟩:=aC hm
   refine aT (vs:=[zS y h.Body.length z,i64 (wr ((wr (d+1))+1))]) call61 rfl (aKS c7 c6 b4) ?_
   rintro _ b5 ⟨rfl,b6,c8⟩
   obtain ⟨b7,a2,hm⟩:=aC hm
   have c9:aN G K (bB 162 K y z (bT j a0.2)::aGQ [203,242] j a0.2::bB 89 K a1 c2 (bT b e)::rows [162,203,242] ((b).eraseIdx c.toNat) ((e).eraseIdx c.toNat)::L) b5:=aN.closeL (i:=1) c8 rfl (b4.trans b6)
   have d0:aN G K (bB 89 K a1 c2 (bT b b7)::rows [162,203,242] b b7::L) b5:=aN.unfocusS (tys:=[162,203,242]) (x':=(⟨h.Name,h.Parameters,a0.2⟩:Definition)) (aN.arr 4 [0,1,3,2] c9 rfl) ((m.trans (cH g)).trans (cH o)) p Z (aKA b6) a2
   exact aD (v:=i64 a0.1) (cC (bM (aB (aV (bG x (aA (cD rfl rfl) (aD (v:=i64 (wr (c+1))) (aG ⟨_,(zI hm).symm,aU,(Eq.trans (Eq.trans (Eq.trans u (congrArg (fun n=>zS a1 n c2) (cH g))) (congrArg (fun n=>zS a1 n c2) (cH o))) (congrArg (fun n=>zS a1 n c2) (cH a2))),rfl,rfl,(((m.trans (cH g)).trans (cH o)).trans (cH a2)),(((b9.trans (cH g)).trans (cH o)).trans (cH a2)),d0⟩))))))))
  ·exact cA
theorem aKd {a:(List Int)} {k:Int} {R:(Int × (List Int))} (hm:aBb a k=some R) (Z:aN G K (bB 2 K a1 c2 a::L) w):
  Calls prog 62 ([zS a1 a.length c2,i64 k]:List Value).toArray w (eR fun v w'=>v=i64 R.1/\a.length=R.2.length/\aN G K (bB 2 K a1 c2 R.2::L) w'):=by
 refine aQ func62 rfl (by kernel_rfl) (by show (2:Nat)<=19;decide) ?_;unfold aBb at hm
 refine aL (aD (v:=i64 0) (aG (aO (aL (aD (v:=i64 0) (aG (bR [] (fun f w=>∃ o d,sC o d=some R/\f 1=i64 o/\a.length=d.length/\aN G K (bB 2 K a1 c2 d::L) w) cA ?_)))))));obtain ⟨a0,u,ho⟩:=aC hm
 refine mL [] u (fun b c e f w=>f 0=zS a1 b.length c2/\f 1=i64 c/\f 5=i64 e/\a.length=b.length/\aN G K (bB 2 K a1 c2 b::L) w) cA ?_
 ·rintro b c e a2 f a3 hm hr ⟨g,p,j,x,q⟩
  unfold yD at hm
  refine aO (aL (bG j (bG g (aA (bQ (len:=b.length) gF rfl) (aA (cM rfl rfl) (aG ?_))))))
  rcases aH hm with ⟨r,hm⟩|⟨r,hm⟩
  ·refine aM r rfl (aW (aB (aO (bZ (aL (bG g (bG j (bG p ?_))))))));obtain ⟨a5,l,hm⟩:=aC hm
   have y:=fC q (i:=0) rfl l
   refine aA (gE gF rfl y rfl rfl rfl l) ?_;obtain ⟨z,m,hm⟩:=aC hm
   exact mU (i:=0) (t:=0) (ns:=[i64 c]) (e':=(c:Int)) sizeOf2 q rfl (zR _) rfl rfl rfl l m rfl rfl (dU rfl) rfl (fun cs h=>by cases h;rfl) (fun J (V:aN G K (bB 2 K a1 c2 z::L) J)=>(aG (aV (bG p (aA (cD rfl rfl) (aD (v:=i64 (wr (c+1))) (cC (bM (aB (aV (bG j (aA (cD rfl rfl) (aD (v:=i64 (wr (e+1))) (aG ⟨_,(zI hm).symm,aU,(Eq.trans g (congrArg (fun n=>zS a1 n c2) (cH m))),rfl,rfl,(x.trans (cH m)),V⟩))))))))))))))
  ·exact cA
theorem aHb {a:(List bL)} {b:List (Dp.Hd bL)} {k:Int} {R:(Int × (List bL))} (hm:qQ a k=some R) (hs:aN G K (bB 91 K a1 c2 (bT b a)::rows [2] b a::L) w) (b8:List.length b=List.length a):
  Calls prog 32 ([zS a1 a.length c2,i64 k]:List Value).toArray w (eR fun v w'=>v=i64 R.1/\a.length=R.2.length/\aN G K (bB 91 K a1 c2 (bT b R.2)::rows [2] b R.2::L) w'):=by
 refine aQ func32 rfl (by kernel_rfl) (by show (2:Nat)<=27;decide) ?_;unfold qQ at hm
 refine aL (aD (v:=i64 0) (aG (aO (aL (aD (v:=i64 0) (aG (bR [] (fun f w=>∃ Z l,pM Z l=some R/\f 1=i64 Z/\List.length b=List.length l/\a.length=l.length/\aN G K (bB 91 K a1 c2 (bT b l)::rows [2] b l::L) w) cA ?_)))))));obtain ⟨b9,a7,ho⟩:=aC hm
 refine mL [] a7 (fun d e c f w=>f 0=zS a1 d.length c2/\f 1=i64 e/\f 5=i64 c/\List.length b=List.length d/\a.length=d.length/\aN G K (bB 91 K a1 c2 (bT b d)::rows [2] b d::L) w) cA ?_
 ·rintro d e c c0 f c1 hm hr ⟨o,a0,p,j,a8,a2⟩
  unfold mP at hm
  refine aO (aL (bG p (bG o (aA (bQ (len:=d.length) oJ rfl) (aA (cM rfl rfl) (aG ?_))))))
  rcases aH hm with ⟨c48,hm⟩|⟨c48,hm⟩
  ·refine aM c48 rfl (aW (aB (aO (bZ (aL (bG o (bG p (bG a0 ?_))))))));obtain ⟨a9,q,hm⟩:=aC hm
   obtain ⟨⟨z,J⟩,m⟩:=aGk j q
   have r:=fC a2 (i:=0) rfl (lT j q m)
   refine aA (gE oJ rfl r rfl rfl rfl q) (aA (kD (k':=c.toNat * 2+0) aBM r rfl rfl) ?_);obtain ⟨g,h,hm⟩:=aC hm
   refine aHn (i:=0) (t:=0) (ns:=[i64 e]) (e':=(⟨e,a9.Values⟩:bL)) sizeOf2 a2 j rfl rfl rfl rfl rfl q m h rfl rfl (dU rfl) rfl rfl rfl (fun V (a3:aN G K (bB 91 K a1 c2 (bT b g)::rows [2] b g::L) V)=>(aG (aL (bG a0 (aA (cD rfl rfl) (aD (v:=i64 (wr (e+1))) (aG (aV (bG (v:=zS a1 g.length c2) (Eq.trans o (congrArg (fun n=>zS a1 n c2) (cH h))) (bG p ?_))))))))));obtain ⟨u,x,hm⟩:=aC hm
   refine aA (gE oJ rfl r rfl rfl rfl x) (aA (kD (k':=c.toNat * 2+1) xM r rfl rfl) (aA (aDa (t:=1) aCq a3 (i:=0) rfl (lT (j.trans (cH h)) x m) rfl rfl rfl) (aI (v:=i64 (wr (e+1))) ?_)))
   have b0:aN G K (bB 91 K a1 c2 (bT b g)::rows [2] ((b).eraseIdx c.toNat) ((g).eraseIdx c.toNat)::bB 2 K z J u.Values::L) V:=aN.arr 3 [2,1,0] (aN.rowOut (i:=1) a3 rfl m (aMC x)) rfl
   have b1:aN G K (bB 2 K z J u.Values::bB 91 K a1 c2 (bT b g)::rows [2] ((b).eraseIdx c.toNat) ((g).eraseIdx c.toNat)::L) V:=(aN.arr 3 [2,0,1] b0 rfl)
   obtain ⟨a4,b2,hm⟩:=aC hm
   refine aT (vs:=[zS z u.Values.length J,i64 (wr (e+1))]) call62 rfl (aKd b2 b1) ?_
   rintro _ b3 ⟨rfl,b4,b5⟩
   obtain ⟨a5,y,hm⟩:=aC hm
   have b6:aN G K (bB 91 K a1 c2 (bT b a5)::rows [2] b a5::L) b3:=aN.unfocusS (tys:=[2]) (x':=(⟨u.Definition,a4.2⟩:bL)) (aN.arr 3 [0,2,1] b5 rfl) (j.trans (cH h)) m x (aLD b4) y
   exact aD (v:=i64 a4.1) (cC (bM (aB (aV (bG p (aA (cD rfl rfl) (aD (v:=i64 (wr (c+1))) (aG ⟨_,(zI hm).symm,aU,(Eq.trans (Eq.trans o (congrArg (fun n=>zS a1 n c2) (cH h))) (congrArg (fun n=>zS a1 n c2) (cH y))),rfl,rfl,((j.trans (cH h)).trans (cH y)),((a8.trans (cH h)).trans (cH y)),b6⟩))))))))
  ·exact cA
theorem aDd {a:(List bV)} {k:Int} {R:(Int × (List bV))} (hm:mA a k=some R) (hs:aN G K (bB 93 K a1 c2 a::L) w):
  Calls prog 33 ([zS a1 a.length c2,i64 k]:List Value).toArray w (eR fun v w'=>v=i64 R.1/\a.length=R.2.length/\aN G K (bB 93 K a1 c2 R.2::L) w'):=by
 refine aQ func33 rfl (by kernel_rfl) (by show (2:Nat)<=37;decide) ?_;unfold mA at hm
 refine aL (aD (v:=i64 0) (aG (aO (aL (aD (v:=i64 0) (aG (bR [] (fun f w=>∃ r o,pA r o=some R/\f 1=i64 r/\a.length=o.length/\aN G K (bB 93 K a1 c2 o::L) w) cA ?_)))))));obtain ⟨c5,a8,ho⟩:=aC hm
 refine mL [] a8 (fun e b c f w=>f 0=zS a1 e.length c2/\f 1=i64 b/\f 5=i64 c/\a.length=e.length/\aN G K (bB 93 K a1 c2 e::L) w) cA ?_
 ·rintro e b c c6 f c7 hm hr ⟨g,u,j,a9,b0⟩
  unfold kM at hm
  refine aO (aL (bG j (bG g (aA (bQ (len:=e.length) lV rfl) (aA (cM rfl rfl) (aG ?_))))))
  rcases aH hm with ⟨x,hm⟩|⟨x,hm⟩
  ·refine aM x rfl (aW (aB (aO (bZ (aL (bG g (bG j (bG u ?_))))))));obtain ⟨y,b1,hm⟩:=aC hm
   refine aT (vs:=[i64 b]) call60 rfl (iV b1 b0) ?_
   rintro _ c8 ⟨rfl,z⟩
   obtain ⟨J,p,hm⟩:=aC hm
   have d:=fC z (i:=0) rfl p
   refine aA (gE lV rfl d rfl rfl rfl p) (aA (kD (k':=c.toNat * 3+0) oK d rfl rfl) ?_);obtain ⟨V,l,hm⟩:=aC hm
   refine mU (i:=0) (t:=0) (ns:=[str y]) (e':=(⟨y,J.Right,J.Result⟩:bV)) sizeOf9 z rfl (zR _) rfl rfl rfl p l rfl rfl (dU rfl) rfl (fun cs h=>by cases h;rfl) (fun b2 (b3:aN G K (bB 93 K a1 c2 V::L) b2)=>(aG (aL (bG u (aA (cD rfl rfl) (aD (v:=i64 (wr (b+1))) (aG (aL (bG (v:=zS a1 V.length c2) (Eq.trans g (congrArg (fun n=>zS a1 n c2) (cH l))) (bG j (aI (v:=i64 (wr (b+1))) ?_)))))))))));obtain ⟨Z,b4,hm⟩:=aC hm
   refine aT (vs:=[i64 (wr (b+1))]) call60 rfl (iV b4 b3) ?_
   rintro _ c9 ⟨rfl,b5⟩
   obtain ⟨a0,a2,hm⟩:=aC hm
   refine aA (gE lV rfl d rfl rfl rfl a2) (aA (kD (k':=c.toNat * 3+1) rC d rfl rfl) ?_);obtain ⟨a3,m,hm⟩:=aC hm
   refine mU (i:=0) (t:=1) (ns:=[str Z]) (e':=(⟨a0.Left,Z,a0.Result⟩:bV)) sizeOf9 b5 rfl (zR _) rfl rfl rfl a2 m rfl rfl (dU rfl) rfl (fun cs h=>by cases h;rfl) (fun b6 (b7:aN G K (bB 93 K a1 c2 a3::L) b6)=>(aG (aL (aI (v:=i64 (wr (b+1))) (aA (cD rfl rfl) (aD (v:=i64 (wr ((wr (b+1))+1))) (aG (aL (bG (v:=zS a1 a3.length c2) (Eq.trans (Eq.trans g (congrArg (fun n=>zS a1 n c2) (cH l))) (congrArg (fun n=>zS a1 n c2) (cH m))) (bG j (aI (v:=i64 (wr ((wr (b+1))+1))) ?_)))))))))))
   obtain ⟨a5,b8,hm⟩:=aC hm
   refine aT (vs:=[i64 (wr ((wr (b+1))+1))]) call60 rfl (iV b8 b7) ?_
   rintro _ d0 ⟨rfl,b9⟩
   obtain ⟨a6,a7,hm⟩:=aC hm
   refine aA (gE lV rfl d rfl rfl rfl a7) (aA (kD (k':=c.toNat * 3+2) aAd d rfl rfl) ?_);obtain ⟨c0,q,hm⟩:=aC hm
   exact mU (i:=0) (t:=2) (ns:=[str a5]) (e':=(⟨a6.Left,a6.Right,a5⟩:bV)) sizeOf9 b9 rfl (zR _) rfl rfl rfl a7 q rfl rfl (dU rfl) rfl (fun cs h=>by cases h;rfl) (fun c1 (c3:aN G K (bB 93 K a1 c2 c0::L) c1)=>(aG (aV (aI (v:=i64 (wr ((wr (b+1))+1))) (aA (cD rfl rfl) (aD (v:=i64 (wr ((wr ((wr (b+1))+1))+1))) (cC (bM (aB (aV (bG j (aA (cD rfl rfl) (aD (v:=i64 (wr (c+1))) (aG ⟨_,(zI hm).symm,aU,(Eq.trans (Eq.trans (Eq.trans g (congrArg (fun n=>zS a1 n c2) (cH l))) (congrArg (fun n=>zS a1 n c2) (cH m))) (congrArg (fun n=>zS a1 n c2) (cH q))),rfl,rfl,(((a9.trans (cH l)).trans (cH m)).trans (cH q)),c3⟩))))))))))))))
  ·exact cA
end Gv
