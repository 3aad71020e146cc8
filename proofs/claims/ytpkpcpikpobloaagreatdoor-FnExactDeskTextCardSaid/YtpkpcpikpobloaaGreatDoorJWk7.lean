/- Walks, printed by program. -/
import Derived.Test.YtpkpcpikpobloaaGreatDoorJWk5
set_option linter.all false
namespace Gv
open Gv.Hp renaming le_refl→zR
open Go.Value renaming slice→zS,bool→zB,pointer→zP,agg→zA,tuple→zT
open Option.some renaming inj→zI
open Gv.Hp renaming le_trans→zL
open Go Go.Proofs Go.Proofs.Tryz
set_option maxRecDepth 20000
set_option maxHeartbeats 40000000
variable {G:kE} {K:Hp} {L:List eV} {w:World} {a1 a4 a7 a10 a13 a16 a19 a22:Option Addr} {c2 c5 c8 c11 c14 c17 c20 c23:Nat}
theorem aID {a R:Kept} (hm:aGN a=some R) (hs:aG G K (L) w) (h3:aX K a1 c2 a.S.L) (h6:aX K a4 c5 a.S.E) (h9:aX K a7 c8 a.Formula) (e0:aX K a10 c11 a.Source.Definitions) (e1:aX K a13 c14 a.Source.Components) (e2:aX K a16 c17 a.Source.Meetings) (e3:aX K a19 c20 a.Source.Allowed) (e4:aX K a22 c23 a.Source.Hidden):
  Calls prog 21 ([zA #[str a.Name,i64 a.Kind,i64 a.S.N,i64 a.S.I,zS a1 a.S.L.length c2,zS a4 a.S.E.length c5,zS a7 a.Formula.length c8,zS a10 a.Source.Definitions.length c11,zS a13 a.Source.Components.length c14,zS a16 a.Source.Meetings.length c17,zS a19 a.Source.Allowed.length c20,zS a22 a.Source.Hidden.length c23]]:List Value).toArray w (cJ fun v w'=>∃ a8 a9 b0 b1 b2 b3 b4 b5 a5 b6 b7 a6 b8 b9 c0 c1 c3 c4,v=zA #[str R.Name,i64 R.Kind,i64 R.S.N,i64 R.S.I,zS a8 R.S.L.length a9,zS b0 R.S.E.length b1,zS b2 R.Formula.length b3,zS b4 R.Source.Definitions.length b5,zS b6 R.Source.Components.length b7,zS b8 R.Source.Meetings.length b9,zS c0 R.Source.Allowed.length c1,zS c3 R.Source.Hidden.length c4]/\List.length a5=List.length R.Source.Definitions/\List.length a6=List.length R.Source.Components/\aG G K (aV 9 K a8 a9 R.S.L::aV 106 K b0 b1 R.S.E::aV 132 K b2 b3 R.Formula::aV 151 K b4 b5 (cG a5 R.Source.Definitions)::rows [206,239,242] a5 R.Source.Definitions::aV 155 K b6 b7 (cG a6 R.Source.Components)::rows [2] a6 R.Source.Components::aV 159 K b8 b9 R.Source.Meetings::aV 9 K c0 c1 R.Source.Allowed::aV 9 K c3 c4 R.Source.Hidden::L) w'):=by
 let z:=[str a.Name,i64 a.Kind,i64 a.S.N,i64 a.S.I,zS a1 a.S.L.length c2,zS a4 a.S.E.length c5,zS a7 a.Formula.length c8,zS a10 a.Source.Definitions.length c11,zS a13 a.Source.Components.length c14,zS a16 a.Source.Meetings.length c17,zS a19 a.Source.Allowed.length c20,zS a22 a.Source.Hidden.length c23]
 let J:=[str ([]:aK),i64 0,i64 0,i64 0,zS none 0 0,zS none 0 0,zS none 0 0,zS none 0 0,zS none 0 0,zS none 0 0,zS none 0 0,zS none 0 0]
 let c6:=[str a.Name,i64 a.Kind,i64 0,i64 0,zS none 0 0,zS none 0 0,zS none 0 0,zS none 0 0,zS none 0 0,zS none 0 0,zS none 0 0,zS none 0 0]
 let c7:=[str a.Name,i64 0,i64 0,i64 0,zS none 0 0,zS none 0 0,zS none 0 0,zS none 0 0,zS none 0 0,zS none 0 0,zS none 0 0,zS none 0 0]
 refine aN func21 rfl (by kernel_rfl) (by show (1:Nat)<=23;decide) ?_;unfold aGN at hm
 refine aL (eO (v:=zA #[str a.Name,i64 a.Kind,i64 a.S.N,i64 a.S.I,zS a1 a.S.L.length c2,zS a4 a.S.E.length c5,zS a7 a.Formula.length c8,zS a10 a.Source.Definitions.length c11,zS a13 a.Source.Components.length c14,zS a16 a.Source.Meetings.length c17,zS a19 a.Source.Allowed.length c20,zS a22 a.Source.Hidden.length c23]) (vs:=z) hs rfl rfl (fun V g2 e5=>(dV (vs:=J) zeroValue50 e5 rfl (fun Z g3 e6=>(aM (aL (dV (vs:=J) zeroValue50 e6 rfl (fun a0 g4 c9=>(aM (aL (aC (bG (t':=0) fa_66_0 rfl rfl) (aC (cX nV c9 (i:=2) rfl rfl rfl) (aC (bG (t':=0) aJO rfl rfl) (eW (i:=0) (ns:=[str a.Name]) (us:=c7) sizeOf9 c9 rfl rfl rfl rfl rfl (jY rfl) rfl rfl (fun e7 (d0:aG G K (box a0 50 c7::box Z 50 J::box V 66 z::L) e7)=>(aM (aL (aC (bG (t':=1) fa_66_1 rfl rfl) (aC (cX gH d0 (i:=2) rfl rfl rfl) (aC (bG (t':=1) aHp rfl rfl) (eW (i:=0) (ns:=[i64 a.Kind]) (us:=c6) sizeOf2 d0 rfl rfl rfl rfl rfl (jY rfl) rfl rfl (fun e8 (d1:aG G K (box a0 50 c6::box Z 50 J::box V 66 z::L) e8)=>(aM ?_)))))))))))))))))))))))
 refine aL (aC (bG (t':=2) fa_66_2 rfl rfl) (aC (jN (us:=(zC a.S a1 c2 a4 c5)) ag_58 d1 (i:=2) rfl rfl rfl rfl) ?_));obtain ⟨b,e9,hm⟩:=aB hm
 refine aW (vs:=[zA (zCa a.S a1 c2 a4 c5)]) call43 rfl (aKF e9 d1 h3 h6) ?_
 rintro _ g5 ⟨d,e,g,h,rfl,f0⟩
 refine aC (bG (t':=2) aEV rfl rfl) (eW (i:=2) (ns:=(zC b d e g h)) (us:=[str a.Name,i64 a.Kind,i64 b.N,i64 b.I,zS d b.L.length e,zS g b.E.length h,zS none 0 0,zS none 0 0,zS none 0 0,zS none 0 0,zS none 0 0,zS none 0 0]) sizeOf42 f0 rfl rfl rfl rfl rfl (jY rfl) rfl rfl (fun f1 (d2:aG G K (aV 9 K d e b.L::aV 106 K g h b.E::box a0 50 [str a.Name,i64 a.Kind,i64 b.N,i64 b.I,zS d b.L.length e,zS g b.E.length h,zS none 0 0,zS none 0 0,zS none 0 0,zS none 0 0,zS none 0 0,zS none 0 0]::box Z 50 J::box V 66 z::L) f1)=>(aM (aL (aC (bG (t':=6) fa_66_3 rfl rfl) (aC (cX sc_59 d2 (i:=4) rfl rfl rfl) ?_))))))
 obtain ⟨l,f2,hm⟩:=aB hm
 refine aW (vs:=[zS a7 a.Formula.length c8]) call44 rfl (aHb f2 d2 h9) ?_
 rintro _ g6 ⟨j,k,rfl,f3⟩
 refine aC (bG (t':=6) aEW rfl rfl) (eW (i:=3) (ns:=[zS j l.length k]) (us:=[str a.Name,i64 a.Kind,i64 b.N,i64 b.I,zS d b.L.length e,zS g b.E.length h,zS j l.length k,zS none 0 0,zS none 0 0,zS none 0 0,zS none 0 0,zS none 0 0]) sizeOf43 f3 rfl rfl rfl rfl rfl (jY rfl) rfl rfl (fun f4 (d3:aG G K (aV 132 K j k l::aV 9 K d e b.L::aV 106 K g h b.E::box a0 50 [str a.Name,i64 a.Kind,i64 b.N,i64 b.I,zS d b.L.length e,zS g b.E.length h,zS j l.length k,zS none 0 0,zS none 0 0,zS none 0 0,zS none 0 0,zS none 0 0]::box Z 50 J::box V 66 z::L) f4)=>(aM (aL (aC (bG (t':=7) fa_66_4 rfl rfl) (aC (jN (us:=[zS a10 a.Source.Definitions.length c11,zS a13 a.Source.Components.length c14,zS a16 a.Source.Meetings.length c17,zS a19 a.Source.Allowed.length c20,zS a22 a.Source.Hidden.length c23]) ag_64 d3 (i:=5) rfl rfl rfl rfl) ?_))))))
 obtain ⟨c,f5,hm⟩:=aB hm
 refine aW (vs:=[zA #[zS a10 a.Source.Definitions.length c11,zS a13 a.Source.Components.length c14,zS a16 a.Source.Meetings.length c17,zS a19 a.Source.Allowed.length c20,zS a22 a.Source.Hidden.length c23]]) call45 rfl (aGd f5 d3 e0 e1 e2 e3 e4) ?_
 rintro _ g7 ⟨m,n,a2,o,p,a3,q,r,t,u,x,y,rfl,f6,f7,f8⟩
 refine aC (bG (t':=7) aDh rfl rfl) (eW (i:=10) (ns:=[zS m c.Definitions.length n,zS o c.Components.length p,zS q c.Meetings.length r,zS t c.Allowed.length u,zS x c.Hidden.length y]) (us:=[str a.Name,i64 a.Kind,i64 b.N,i64 b.I,zS d b.L.length e,zS g b.E.length h,zS j l.length k,zS m c.Definitions.length n,zS o c.Components.length p,zS q c.Meetings.length r,zS t c.Allowed.length u,zS x c.Hidden.length y]) sizeOf48 f8 rfl rfl rfl rfl rfl (jY rfl) rfl rfl (fun f9 (d4:aG G K (aV 151 K m n (cG a2 c.Definitions)::rows [206,239,242] a2 c.Definitions::aV 155 K o p (cG a3 c.Components)::rows [2] a3 c.Components::aV 159 K q r c.Meetings::aV 9 K t u c.Allowed::aV 9 K x y c.Hidden::aV 132 K j k l::aV 9 K d e b.L::aV 106 K g h b.E::box a0 50 [str a.Name,i64 a.Kind,i64 b.N,i64 b.I,zS d b.L.length e,zS g b.E.length h,zS j l.length k,zS m c.Definitions.length n,zS o c.Components.length p,zS q c.Meetings.length r,zS t c.Allowed.length u,zS x c.Hidden.length y]::box Z 50 J::box V 66 z::L) f9)=>(aM (aL (aC (jN (us:=[str a.Name,i64 a.Kind,i64 b.N,i64 b.I,zS d b.L.length e,zS g b.E.length h,zS j l.length k,zS m c.Definitions.length n,zS o c.Components.length p,zS q c.Meetings.length r,zS t c.Allowed.length u,zS x c.Hidden.length y]) aNh d4 (i:=10) rfl rfl rfl rfl) (eW (i:=11) (ns:=[str a.Name,i64 a.Kind,i64 b.N,i64 b.I,zS d b.L.length e,zS g b.E.length h,zS j l.length k,zS m c.Definitions.length n,zS o c.Components.length p,zS q c.Meetings.length r,zS t c.Allowed.length u,zS x c.Hidden.length y]) (us:=[str a.Name,i64 a.Kind,i64 b.N,i64 b.I,zS d b.L.length e,zS g b.E.length h,zS j l.length k,zS m c.Definitions.length n,zS o c.Components.length p,zS q c.Meetings.length r,zS t c.Allowed.length u,zS x c.Hidden.length y]) sizeOf50 d4 rfl rfl rfl rfl rfl (jY rfl) rfl rfl (fun g0 (d5:aG G K (aV 151 K m n (cG a2 c.Definitions)::rows [206,239,242] a2 c.Definitions::aV 155 K o p (cG a3 c.Components)::rows [2] a3 c.Components::aV 159 K q r c.Meetings::aV 9 K t u c.Allowed::aV 9 K x y c.Hidden::aV 132 K j k l::aV 9 K d e b.L::aV 106 K g h b.E::box a0 50 [str a.Name,i64 a.Kind,i64 b.N,i64 b.I,zS d b.L.length e,zS g b.E.length h,zS j l.length k,zS m c.Definitions.length n,zS o c.Components.length p,zS q c.Meetings.length r,zS t c.Allowed.length u,zS x c.Hidden.length y]::box Z 50 [str a.Name,i64 a.Kind,i64 b.N,i64 b.I,zS d b.L.length e,zS g b.E.length h,zS j l.length k,zS m c.Definitions.length n,zS o c.Components.length p,zS q c.Meetings.length r,zS t c.Allowed.length u,zS x c.Hidden.length y]::box V 66 z::L) g0)=>(aM ?_))))))))
 obtain rfl:=zI hm
 exact aGk (retQ_m1 results21 (aQR (vs:=[str a.Name,i64 a.Kind,i64 b.N,i64 b.I,zS d b.L.length e,zS g b.E.length h,zS j l.length k,zS m c.Definitions.length n,zS o c.Components.length p,zS q c.Meetings.length r,zS t c.Allowed.length u,zS x c.Hidden.length y]) rfl aNh d5 (i:=11) rfl rfl rfl) ⟨d,e,g,h,j,k,m,n,a2,o,p,a3,q,r,t,u,x,y,rfl,f6,f7,(aG.arr 13 [8,9,7,0,1,2,3,4,5,6] d5 rfl)⟩)
theorem aNL {a R:(List Kept)} (hm:aHC a=some R) (hs:aG G K (L) w) (h3:aX K a1 c2 a):
  Calls prog 12 ([zS a1 a.length c2]:List Value).toArray w (cJ fun v w'=>∃ K' d1 d2,v=zS d1 R.length d2/\Hp.le K K'/\aG G K' (aV 50 K' d1 d2 R::L) w'):=by
 refine aN func12 rfl (by kernel_rfl) (by show (1:Nat)<=23;decide) ?_;unfold aHC at hm
 refine aL (aI (v:=zS none 0 0) (aM (aL (aO (v:=zS a1 a.length c2) (aC (aU (len:=a.length) aMZ rfl) ?_)))));obtain ⟨d,q5,hm⟩:=aB hm
 refine aIh (e:=(⟨[],0,⟨0,0,[],[]⟩,[],⟨[],[],[],[],[]⟩⟩:Kept)) vY ez_50 rfl rfl hs rfl rfl rfl q5 ⟨none,0,none,0,none,0,none,0,none,0,none,0,none,0,none,0,rfl,kM _,kM _,kM _,kM _,kM _,kM _,kM _,kM _⟩ (fun h w7 (j4:aG G K (aV 50 K h d.length d::L) w7)=>(aI (v:=zS h d.length d.length) (aM (aH (aL (aI (v:=i64 0) (aM (aQ [] (fun f w=>∃ K9 b6,Hp.le K K9/\aKj b6=some R/\f 3=zS h b6.length d.length/\aG G K9 (aV 50 K9 h d.length b6::L) w) aF ?_))))))))
 obtain ⟨j5,g0,ho⟩:=aB hm
 refine cA [0] g0 (fun k b7 f w=>∃ j,Hp.le K j/\f 3=zS h k.length d.length/\f 4=i64 b7/\aG G j (aV 50 j h d.length k::L) w) aF ?_
 ·rintro k b7 j6 f j7 hm hr ⟨j,g,d3,b0,d4⟩
  unfold xC at hm
  refine aH (aL (bO b0 (aO (v:=zS a1 a.length c2) (aC (aU (len:=a.length) aMZ rfl) (aC (dJ rfl rfl) (aM ?_))))))
  rcases aJ hm with ⟨d5,hm⟩|⟨d5,hm⟩
  ·refine aR d5 rfl (aT (aE (aH (bJ (bL (bO d3 (bO b0 (aO (v:=zS a1 a.length c2) (bO b0 ?_)))))))));obtain ⟨c,d6,hm⟩:=aB hm
   refine aC (cK aMZ rfl (h3.mono g) rfl rfl rfl d6) ?_;obtain ⟨j8,g1,g2⟩:=aX.el (sz:=12) rfl h3 d6
   obtain ⟨d7,d8,d9,e0,e1,e2,e3,e4,e5,e6,e7,e8,e9,f0,f1,f2,rfl,g3,g4,g5,g6,g7,g8,g9,h0⟩:=g2
   refine aC (dQ (t:=0) (vs:=[str c.Name,i64 c.Kind,i64 c.S.N,i64 c.S.I,zS d7 c.S.L.length d8,zS d9 c.S.E.length e0,zS e1 c.Formula.length e2,zS e3 c.Source.Definitions.length e4,zS e5 c.Source.Components.length e6,zS e7 c.Source.Meetings.length e8,zS e9 c.Source.Allowed.length f0,zS f1 c.Source.Hidden.length f2]) ag_66 d4 (g1.mono g) rfl rfl rfl) ?_;obtain ⟨b,h1,hm⟩:=aB hm
   refine aW (vs:=[zA #[str c.Name,i64 c.Kind,i64 c.S.N,i64 c.S.I,zS d7 c.S.L.length d8,zS d9 c.S.E.length e0,zS e1 c.Formula.length e2,zS e3 c.Source.Definitions.length e4,zS e5 c.Source.Components.length e6,zS e7 c.Source.Meetings.length e8,zS e9 c.Source.Allowed.length f0,zS f1 c.Source.Hidden.length f2]]) call21 rfl (aID h1 d4 (g3.mono g) (g4.mono g) (g5.mono g) (g6.mono g) (g7.mono g) (g8.mono g) (g9.mono g) (h0.mono g)) ?_
   rintro _ u ⟨f3,f4,b8,b9,b1,b2,a8,a9,a4,a5,a7,x,V,Z,y,z,l,m,rfl,h2,h4,f5⟩
   obtain ⟨j9,c0,hm⟩:=aB hm
   have h5:=eG f5 (i:=10) rfl c0
   refine aC (iU vY rfl h5 rfl rfl rfl c0) ?_;obtain ⟨h6,a0,h7,c1⟩:=aG.giveSp f5 g .head
   replace c1:aG G h6 (aV 106 K b8 b9 b.S.E::aV 132 K b1 b2 b.Formula::aV 151 K a8 a9 (cG a4 b.Source.Definitions)::rows [206,239,242] a4 b.Source.Definitions::aV 155 K a5 a7 (cG x b.Source.Components)::rows [2] x b.Source.Components::aV 159 K V Z b.Source.Meetings::aV 9 K y z b.Source.Allowed::aV 9 K l m b.Source.Hidden::aV 50 j h d.length k::L) u:=c1
   obtain ⟨h8,a2,h9,c3⟩:=aG.giveSp c1 (zL g a0) .head
   replace c3:aG G h8 (aV 132 K b1 b2 b.Formula::aV 151 K a8 a9 (cG a4 b.Source.Definitions)::rows [206,239,242] a4 b.Source.Definitions::aV 155 K a5 a7 (cG x b.Source.Components)::rows [2] x b.Source.Components::aV 159 K V Z b.Source.Meetings::aV 9 K y z b.Source.Allowed::aV 9 K l m b.Source.Hidden::aV 50 j h d.length k::L) u:=c3
   obtain ⟨i0,a3,i1,c4⟩:=aG.giveSp c3 (zL (zL g a0) a2) .head
   replace c4:aG G i0 (aV 151 K a8 a9 (cG a4 b.Source.Definitions)::rows [206,239,242] a4 b.Source.Definitions::aV 155 K a5 a7 (cG x b.Source.Components)::rows [2] x b.Source.Components::aV 159 K V Z b.Source.Meetings::aV 9 K y z b.Source.Allowed::aV 9 K l m b.Source.Hidden::aV 50 j h d.length k::L) u:=c4
   obtain ⟨i2,J,i3,_,c5,_⟩:=aG.lendD' (i:=0) c4 h2 rfl rfl
   replace c5:aG G i2 (aV 155 K a5 a7 (cG x b.Source.Components)::rows [2] x b.Source.Components::aV 159 K V Z b.Source.Meetings::aV 9 K y z b.Source.Allowed::aV 9 K l m b.Source.Hidden::aV 50 j h d.length k::L) u:=c5
   obtain ⟨i4,o,i5,_,c6,_⟩:=aG.lendD' (i:=0) c5 h4 rfl rfl
   replace c6:aG G i4 (aV 159 K V Z b.Source.Meetings::aV 9 K y z b.Source.Allowed::aV 9 K l m b.Source.Hidden::aV 50 j h d.length k::L) u:=c6
   obtain ⟨i6,p,i7,c7⟩:=aG.giveSp c6 (zL (zL (zL (zL (zL g a0) a2) a3) J) o) .head
   replace c7:aG G i6 (aV 9 K y z b.Source.Allowed::aV 9 K l m b.Source.Hidden::aV 50 j h d.length k::L) u:=c7
   obtain ⟨i8,q,i9,c8⟩:=aG.giveSp c7 (zL (zL (zL (zL (zL (zL g a0) a2) a3) J) o) p) .head
   replace c8:aG G i8 (aV 9 K l m b.Source.Hidden::aV 50 j h d.length k::L) u:=c8
   obtain ⟨b3,r,j0,c9⟩:=aG.giveSp c8 (zL (zL (zL (zL (zL (zL (zL g a0) a2) a3) J) o) p) q) .head
   replace c9:aG G b3 (aV 50 j h d.length k::L) u:=c9
   obtain ⟨j1,f6,hm⟩:=aB hm
   exact WO_stE (i:=0) (ns:=[str b.Name,i64 b.Kind,i64 b.S.N,i64 b.S.I,zS f3 b.S.L.length f4,zS b8 b.S.E.length b9,zS b1 b.Formula.length b2,zS a8 b.Source.Definitions.length a9,zS a5 b.Source.Components.length a7,zS V b.Source.Meetings.length Z,zS y b.Source.Allowed.length z,zS l b.Source.Hidden.length m]) (e':=(⟨b.Name,b.Kind,⟨b.S.N,b.S.I,b.S.L,b.S.E⟩,b.Formula,⟨b.Source.Definitions,b.Source.Components,b.Source.Meetings,b.Source.Allowed,b.Source.Hidden⟩⟩:Kept)) sizeOf50 c9 rfl (zL (zL (zL (zL (zL (zL (zL a0 a2) a3) J) o) p) q) r) rfl rfl rfl c0 f6 rfl ⟨f3,f4,b8,b9,b1,b2,a8,a9,a5,a7,V,Z,y,z,l,m,rfl,(h7.mono (zL (zL (zL (zL (zL (zL a2 a3) J) o) p) q) r)),(h9.mono (zL (zL (zL (zL (zL a3 J) o) p) q) r)),(i1.mono (zL (zL (zL (zL J o) p) q) r)),(i3.mono (zL (zL (zL o p) q) r)),(i5.mono (zL (zL p q) r)),(i7.mono (zL q r)),(i9.mono r),j0⟩ (fun j2 (j3:aG G b3 (aV 50 b3 h d.length j1::L) j2)=>(bR (eK (aE (bL (bO b0 (aC (mQ rfl rfl) (aI (v:=i64 (wr (b7+1))) (aM ⟨_,(zI hm).symm,gB,b3,(zL (zL (zL (zL (zL (zL (zL (zL g a0) a2) a3) J) o) p) q) r),(Eq.trans d3 (congrArg (fun n=>zS h n d.length) (uS f6))),rfl,j3⟩)))))))))
  ·exact aF
theorem aAp {a R:pR} (hm:aEw a=some R) (e:aG G K (L) w) (g:aX K a1 c2 a.Kept):
  Calls prog 6 ([zA #[zS a1 a.Kept.length c2]]:List Value).toArray w (cJ fun v w'=>∃ b c d,v=zA #[zS c R.Kept.length d]/\Hp.le K b/\aG G b (aV 50 b c d R.Kept::L) w'):=by
 exact aF
theorem aAM {n:bI} {R:Int} (hm:kA n=some R) (d:aG G K (L) w):
  Calls prog 150 ([zA #[i64 n.Kind,i64 n.Variable,str n.B,zB n.Not]]:List Value).toArray w (cJ fun v w'=>v=i64 R/\aG G K (L) w'):=by
 refine aN func150 rfl (by kernel_rfl) (by show (1:Nat)<=13;decide) ?_;unfold kA at hm
 refine aL (eO (v:=zA #[i64 n.Kind,i64 n.Variable,str n.B,zB n.Not]) (vs:=[i64 n.Kind,i64 n.Variable,str n.B,zB n.Not]) d rfl rfl (fun h j e=>(aI (v:=i64 0) (aM (aH (aL (aC (bG (t':=0) aAw rfl rfl) (aC (cX gH e (i:=0) rfl rfl rfl) (aM (bJ (gC [4] (fun f w=>∃ a,lH n a=some R/\f 5=zB a/\aG G K (L) w) ?_ ?_)))))))))))
 ·rintro f k ⟨a,hm,g,l⟩
  unfold lH at hm
  rcases aJ hm with ⟨b,hm⟩|⟨b,hm⟩
  ·exact aF
  ·exact aP b g (gC [] (fun f w=>∃ c,jC c=some R/\f 8=zB c/\aG G K (L) w) aF aF)
 exact aF
theorem aNM {a:(List bI)} {R:Bool} (hm:aEx a=some R) (g:aG G K (L) w) (h:aX K a1 c2 a):
  Calls prog 105 ([zS a1 a.length c2]:List Value).toArray w (cJ fun v w'=>v=zB R/\aG G K (L) w'):=by
 refine aN func105 rfl (by kernel_rfl) (by show (1:Nat)<=22;decide) ?_;unfold aEx at hm
 refine aL (aI (v:=zB false) (aM (aL (aI (v:=i64 1) (aM (aH (aL (aO (v:=zS a1 a.length c2) (aC (aU (len:=a.length) sM rfl) (aO (v:=i64 0) (aM (aQ [] (fun f w=>∃ b,aKk b=some R/\f 3=i64 b/\aG G K (L) w) aF ?_))))))))))));obtain ⟨i,c,ho⟩:=aB hm
 exact cA [6,7] c (fun d e f w=>f 3=i64 d/\f 8=i64 e/\aG G K (L) w) aF aF
theorem xR {n:bI} {R:Bool} (hm:pW n=some R) (b:aG G K (L) w):
  Calls prog 151 ([zA #[i64 n.Kind,i64 n.Variable,str n.B,zB n.Not]]:List Value).toArray w (cJ fun v w'=>v=zB R/\aG G K (L) w'):=by
 refine aN func151 rfl (by kernel_rfl) (by show (1:Nat)<=11;decide) ?_;unfold pW at hm
 exact aL (eO (v:=zA #[i64 n.Kind,i64 n.Variable,str n.B,zB n.Not]) (vs:=[i64 n.Kind,i64 n.Variable,str n.B,zB n.Not]) b rfl rfl (fun c d e=>(aI (v:=zB false) (aM (aH (bB [] (fun f w=>∃ a,lX a=some R/\f 2=zB a/\aG G K (L) w) aF aF))))))
theorem sH {a b:aK} {R:(aK × Bool)} (hm:iH a b=some R) (c:aG G K (L) w):
  Calls prog 204 ([str a,str b]:List Value).toArray w (cJ fun v w'=>v=zT #[str R.1,zB R.2]/\aG G K (L) w'):=by
 exact aF
theorem mK {a b:aK} {R:(aK × Bool)} (hm:kH a b=some R) (c:aG G K (L) w):
  Calls prog 163 ([str a,str b]:List Value).toArray w (cJ fun v w'=>v=zT #[str R.1,zB R.2]/\aG G K (L) w'):=by
 exact aF
theorem aLp {a:aK} {R:Bool} (hm:aAG a=some R) (d:aG G K (L) w) (g:G.lo=0):
  Calls prog 152 ([str a]:List Value).toArray w (cJ fun v w'=>v=zB R/\aG G K (L) w'):=by
 refine aN func152 rfl (by kernel_rfl) (by show (1:Nat)<=23;decide) ?_;unfold aAG at hm
 refine aL (aI (v:=zB false) (aM (aL (aO (v:=str a) ?_))));obtain ⟨b,e,hm⟩:=aB hm
 refine aW (vs:=[str a,str ([42]:aK)]) call163 rfl (mK e d) ?_
 rintro _ h ⟨rfl,i⟩
 exact aO (v:=zT #[str b.1,zB b.2]) (aC (iL rfl rfl) (aC (iL rfl rfl) (aI (v:=str b.1) (aI (v:=zB b.2) (aM (aH (bB [] (fun f w=>∃ c,nD c=some R/\f 2=zB c/\aG G K (L) w) aF aF)))))))
theorem aHd {n:bI} {R:Bool} (hm:oV n=some R) (e:aG G K (L) w) (h:G.lo=0):
  Calls prog 106 ([zA #[i64 n.Kind,i64 n.Variable,str n.B,zB n.Not]]:List Value).toArray w (cJ fun v w'=>v=zB R/\aG G K (L) w'):=by
 let a:=[i64 n.Kind,i64 n.Variable,str n.B,zB n.Not]
 refine aN func106 rfl (by kernel_rfl) (by show (1:Nat)<=16;decide) ?_;unfold oV at hm
 refine aL (eO (v:=zA #[i64 n.Kind,i64 n.Variable,str n.B,zB n.Not]) (vs:=a) e rfl rfl (fun j k b=>(aI (v:=zB false) (aM (aH (aL (aC (jN (us:=a) aIR b (i:=0) rfl rfl rfl rfl) ?_)))))));obtain ⟨l,g,hm⟩:=aB hm
 refine aW (vs:=[zA #[i64 n.Kind,i64 n.Variable,str n.B,zB n.Not]]) call151 rfl (xR g b) ?_
 rintro _ m ⟨rfl,o⟩
 refine aM ?_
 rcases aJ hm with ⟨c,hm⟩|⟨c,hm⟩
 ·exact aF
 ·exact aP c rfl (aT (aE (aH (bB [] (fun f w=>∃ d,oD d=some R/\f 2=zB d/\aG G K (L) w) aF aF))))
theorem aHY {n:bI} {R:Bool} (hm:nE n=some R) (b:aG G K (L) w):
  Calls prog 153 ([zA #[i64 n.Kind,i64 n.Variable,str n.B,zB n.Not]]:List Value).toArray w (cJ fun v w'=>v=zB R/\aG G K (L) w'):=by
 refine aN func153 rfl (by kernel_rfl) (by show (1:Nat)<=11;decide) ?_;unfold nE at hm
 exact aL (eO (v:=zA #[i64 n.Kind,i64 n.Variable,str n.B,zB n.Not]) (vs:=[i64 n.Kind,i64 n.Variable,str n.B,zB n.Not]) b rfl rfl (fun c d e=>(aI (v:=zB false) (aM (aH (bB [] (fun f w=>∃ a,pX a=some R/\f 2=zB a/\aG G K (L) w) aF aF))))))
theorem aHZ {n:bI} {R:Bool} (hm:qZ n=some R) (c:aG G K (L) w):
  Calls prog 107 ([zA #[i64 n.Kind,i64 n.Variable,str n.B,zB n.Not]]:List Value).toArray w (cJ fun v w'=>v=zB R/\aG G K (L) w'):=by
 let a:=[i64 n.Kind,i64 n.Variable,str n.B,zB n.Not]
 refine aN func107 rfl (by kernel_rfl) (by show (1:Nat)<=16;decide) ?_;unfold qZ at hm
 exact aL (eO (v:=zA #[i64 n.Kind,i64 n.Variable,str n.B,zB n.Not]) (vs:=a) c rfl rfl (fun d e g=>(aI (v:=zB false) (aM (aH (aH (bB [1] (fun f w=>∃ b,pY n b=some R/\f 9=zB b/\aG G K (box d 132 a::L) w) aF aF)))))))
theorem aKG {a:(List bI)} {k R:Int} (hm:kP a k=some R) (g:aG G K (L) w) (h:aX K a1 c2 a):
  Calls prog 154 ([zS a1 a.length c2,i64 k]:List Value).toArray w (cJ fun v w'=>v=i64 R/\aG G K (L) w'):=by
 refine aN func154 rfl (by kernel_rfl) (by show (2:Nat)<=19;decide) ?_;unfold kP at hm
 refine aL (aI (v:=i64 0) (aM (aH (aL (aI (v:=i64 1) (aM (aQ [] (fun f w=>∃ b,aAY b=some R/\f 1=i64 b/\aG G K (L) w) aF ?_)))))));obtain ⟨i,c,ho⟩:=aB hm
 exact cA [0] c (fun d e f w=>f 1=i64 d/\f 5=i64 e/\aG G K (L) w) aF aF
theorem aOR {a:(List bI)} {k R:Int} (hm:aCE a k=some R) (i:aG G K (L) w) (j:aX K a1 c2 a):
  Calls prog 108 ([zS a1 a.length c2,i64 k]:List Value).toArray w (cJ fun v w'=>v=i64 R/\aG G K (L) w'):=by
 refine aN func108 rfl (by kernel_rfl) (by show (2:Nat)<=38;decide) ?_;unfold aCE at hm
 refine aL (aI (v:=i64 0) (aM (aH (aL (aO (v:=i64 k) (aC (jM rfl rfl) (aI (v:=i64 (wr (k - 1))) (aM (aQ [] (fun f w=>aLR=some R/\aG G K (L) w) aF ?_)))))))));obtain ⟨l,e,ho⟩:=aB hm
 refine bS [0,1] e (fun b f w=>f 5=i64 b/\aG G K (L) w) aF ?_
 ·rintro b g f m hm hr ⟨h,n⟩
  unfold aAI at hm
  refine aH (aL (bO h (aC (aPh rfl rfl) (aM ?_))))
  rcases aJ hm with ⟨c,hm⟩|⟨c,hm⟩
  ·exact aR c rfl (aT (aE (aH (bJ (aH (bB [0,1,5] (fun f w=>∃ d,aAH b d=some g/\f 36=zB d/\aG G K (L) w) aF aF))))))
  ·exact aF
theorem aIa {b:(List bI)} {R:Bool} (hm:gO b=some R) (z:aG G K (L) w) (J:G.lo=0) (g:aX K a1 c2 b):
  Calls prog 50 ([zS a1 b.length c2]:List Value).toArray w (cJ fun v w'=>v=zB R/\aG G K (L) w'):=by
 refine aN func50 rfl (by kernel_rfl) (by show (1:Nat)<=47;decide) ?_;unfold gO at hm
 refine aL (aI (v:=zB false) (aM (aH (aH (bB [0] (fun f w=>∃ d,lZ b d=some R/\f 13=zB d/\aG G K (L) w) ?_ ?_)))))
 ·rintro f V ⟨d,hm,n,Z⟩
  unfold lZ at hm
  refine aE ?_
  rcases aJ hm with ⟨h,hm⟩|⟨h,hm⟩
  ·exact aF
  ·refine aP h n (aT (aE (aH (aL (aO (v:=zS a1 b.length c2) (aC (aU (len:=b.length) sM rfl) (aO (v:=i64 0) (aM (aQ [] (fun f w=>xD=some R/\aG G K (L) w) aF ?_)))))))));obtain ⟨a0,o,ho⟩:=aB hm
   refine bS [0,14,15] o (fun c f w=>f 16=i64 c/\aG G K (L) w) aF ?_
   ·rintro c p f a2 hm hr ⟨e,j⟩
    unfold lY at hm
    refine aL (aC (dJ e rfl) (aM (aH ?_)))
    rcases aJ hm with ⟨k,hm⟩|⟨k,hm⟩
    ·refine aR k rfl (aT (aE (aH (bJ (aL (bO e ?_))))));obtain ⟨a,l,hm⟩:=aB hm
     refine aC (cK sM rfl g rfl rfl e l) ?_;obtain ⟨a3,q,r⟩:=aX.el (sz:=4) rfl g l
     cases r
     exact aC (dQ (t:=0) (vs:=[i64 a.Kind,i64 a.Variable,str a.B,zB a.Not]) aIR j q rfl rfl rfl) (dV (vs:=[i64 0,i64 0,str ([]:aK),zB false]) zeroValue132 j rfl (fun u a4 x=>(aI (v:=i64 c) (eW (i:=0) (ns:=[i64 a.Kind,i64 a.Variable,str a.B,zB a.Not]) (us:=[i64 a.Kind,i64 a.Variable,str a.B,zB a.Not]) sizeOf132 x rfl rfl rfl rfl rfl (jY rfl) rfl rfl (fun y (a5:aG G K (box u 132 [i64 a.Kind,i64 a.Variable,str a.B,zB a.Not]::L) y)=>(aM (aH (bB [0,14,15,16] (fun f w=>∃ m,iI c m=some p/\f 45=zB m/\aG G K (L) w) aF aF))))))))
    ·exact aF
 exact aF
theorem aAN {rec_:(List bI)->Option ((Tr bI) × (List bI))} (ih:∀ {G:kE} {K:Hp} {L:List eV} {w:World} {c:(List bI)} {a1:Option Addr} {c2:Nat} {R:((Tr bI) × (List bI))} (hm:rec_ c=some R) (hs:aG G K (L) w) (g:aX K a1 c2 c),
  Calls prog 111 ([zS a1 c.length c2]:List Value).toArray w (cJ fun v w'=>∃ d r u x,v=zT #[cD r 0,zS u R.2.length x]/\Hp.le K d/\trd d R.1 r/\aX d u x R.2/\aG G d (L) w'))
  {G:kE} {K:Hp} {L:List eV} {w:World} {c:(List bI)} {a1:Option Addr} {c2:Nat} {R:((Tr bI) × (List bI))} (hm:gV rec_ c=some R) (hs:aG G K (L) w) (g:aX K a1 c2 c):
  Calls prog 111 ([zS a1 c.length c2]:List Value).toArray w (cJ fun v w'=>∃ d r u x,v=zT #[cD r 0,zS u R.2.length x]/\Hp.le K d/\trd d R.1 r/\aX d u x R.2/\aG G d (L) w'):=by
 refine aN func111 rfl (by kernel_rfl) (by show (1:Nat)<=38;decide) ?_;unfold gV at hm
 refine aL (aI (v:=zP none) (aI (v:=zS none 0 0) (aM (aL (aO (v:=zS a1 c.length c2) ?_)))));obtain ⟨a,q5,hm⟩:=aB hm
 refine aC (cK sM rfl g rfl rfl rfl q5) ?_;obtain ⟨g1,b6,c9⟩:=aX.el (sz:=4) rfl g q5
 cases c9
 refine aC (dQ (t:=0) (vs:=[i64 a.Kind,i64 a.Variable,str a.B,zB a.Not]) aIR hs b6 rfl rfl rfl) (aC (aDe (vs:=[(0,zA #[i64 a.Kind,i64 a.Variable,str a.B,zB a.Not])]) (cs:=[i64 a.Kind,i64 a.Variable,str a.B,zB a.Not,zS none 0 0]) bs_172 rfl (by kernel_rfl)) (eO (v:=zA #[i64 a.Kind,i64 a.Variable,str a.B,zB a.Not,zS none 0 0]) (vs:=[i64 a.Kind,i64 a.Variable,str a.B,zB a.Not,zS none 0 0]) hs rfl rfl (fun b g2 b7=>(aI (v:=zP (some ⟨b,0,none⟩)) (aM (aL (aO (v:=zS a1 c.length c2) ?_)))))))
 obtain ⟨d0,b8,hm⟩:=aB hm
 obtain ⟨d1,d2,c0⟩:=Cut.ex 4 a1 c2 1
 have g3:=aX.cut' g b8 c0
 refine aC (aMU sM g.room c0 rfl rfl rfl b8) (aI (v:=zS d1 d0.length d2) (aM (aH (aL (aO (v:=zS a1 c.length c2) (aC (cK sM rfl g rfl rfl rfl q5) (aC (dQ (t:=0) (vs:=[i64 a.Kind,i64 a.Variable,str a.B,zB a.Not]) aIR b7 b6 rfl rfl rfl) ?_)))))));obtain ⟨g4,d3,hm⟩:=aB hm
 refine aW (vs:=[zA #[i64 a.Kind,i64 a.Variable,str a.B,zB a.Not]]) call150 rfl (aAM d3 b7) ?_
 rintro _ g5 ⟨rfl,d4⟩
 refine aO (v:=i64 0) (aM (aQ [4] (fun f w=>∃ y j z a0 a2 J V,Hp.le K y/\zD a j z=some R/\f 5=zS J z.length V/\aX y J V z/\aG G y (aV 110 y a0 a2 j::box b 172 [i64 a.Kind,i64 a.Variable,str a.B,zB a.Not,zS a0 j.length a2]::L) w) ?_ ?_))
 ·rintro f c1 ⟨y,j,z,a0,a2,J,V,d5,hm,d6,d7,d8⟩
  unfold zD at hm
  refine aE (aL (aO (v:=zP (some ⟨b,0,none⟩)) (bO d6 (aI (v:=zP (some ⟨b,0,none⟩)) (aI (v:=zS J z.length V) (aM ?_))))));obtain ⟨d9,c3,e0,a9⟩:=aG.giveSp d8 (Hp.le_refl _) .head
  replace a9:aG G d9 (box b 172 [i64 a.Kind,i64 a.Variable,str a.B,zB a.Not,zS a0 j.length a2]::L) c1:=a9
  obtain ⟨b0,b1,e1,b2,_⟩:=aG.lendBp a9 .head
  replace b2:aG G b0 (L) c1:=b2
  have e2:trd b0 (Tr.mk a j) (some ⟨b,0,none⟩):=trd_mk e1 (e0.mono b1)
  obtain rfl:=zI hm
  exact aGk (retQ_2 results111 rfl rfl ⟨b0,(some ⟨b,0,none⟩),J,V,(tp2 (elp_b rfl) rfl),(zL (zL d5 c3) b1),e2,(d7.mono (zL c3 b1)),b2⟩)
 have g6:=aG.nil (α:=(Tr bI)) d4 110 K
 obtain ⟨g7,e5,ho⟩:=aB hm
 refine aBY [4,17] e5 (fun k a3 b3 f w=>∃ l m n a4 a5,Hp.le K l/\f 5=zS a4 a3.length a5/\f 18=i64 b3/\aX l a4 a5 a3/\aG G l (aV 110 l m n k::box b 172 [i64 a.Kind,i64 a.Variable,str a.B,zB a.Not,zS m k.length n]::L) w) aF ?_
 ·rintro k a3 b3 g8 f g9 hm hr ⟨l,m,n,a4,a5,e6,e7,c4,e8,e9⟩
  unfold nF at hm
  refine aL (aC (dJ c4 rfl) (aM (aH ?_)))
  rcases aJ hm with ⟨c5,hm⟩|⟨c5,hm⟩
  ·refine aR c5 rfl (aT (aE (aH (bJ (aL (aI (v:=zP none) (aM (aL (bO e7 ?_)))))))));obtain ⟨a6,f0,hm⟩:=aB hm
   refine aW (vs:=[zS a4 a3.length a5]) call111 rfl (ih f0 e9 e8) ?_
   rintro _ h0 ⟨e,o,b4,b5,rfl,c6,f1,f2,c7⟩
   refine aO (v:=zT #[cD o 0,zS b4 a6.2.length b5]) (aC (iL rfl rfl) (aC (iL rfl rfl) (aI (v:=cD o 0) (aI (v:=zS b4 a6.2.length b5) (aM (bL (aO (v:=zP (some ⟨b,0,none⟩)) (aO (v:=zP (some ⟨b,0,none⟩)) (aC (vT rfl) (aC (bG (t':=4) qO rfl rfl) (aC (cX aDM c7 (i:=1) rfl rfl rfl) (aO (v:=cD o 0) (dH (Kt:=e) (xs:=([a6.1]:List (Tr bI))) (cs:=[cD o 0]) (vs:=[(0,cD o 0)]) aCd ez_110 rfl rfl c7 rfl (by kernel_rfl) rfl rfl rfl ⟨⟨o,rfl,f1⟩,trivial⟩ (fun f3 f4 (f5:aG G e (aV 110 e f3 1 ([a6.1]:List (Tr bI))::aV 110 l m n k::box b 172 [i64 a.Kind,i64 a.Variable,str a.B,zB a.Not,zS m k.length n]::L) f4)=>?_))))))))))))))
   obtain ⟨Z,f6,hm⟩:=aB hm
   exact WO_appO (i:=0) e aCd underlying170 ez_110 rfl rfl f5 rfl c6 (Hp.le_refl _) f6 rfl rfl rfl rfl (fun _ _ _ h=>El.one h) (fun p q f7 (f8:aG G e (aV 110 e p q Z::box b 172 [i64 a.Kind,i64 a.Variable,str a.B,zB a.Not,zS m k.length n]::L) f7)=>(aC (vT rfl) (aC (bG (t':=4) qO rfl rfl) (eW (i:=1) (ns:=[zS p Z.length q]) (us:=[i64 a.Kind,i64 a.Variable,str a.B,zB a.Not,zS p Z.length q]) sizeOf170 f8 rfl rfl rfl rfl rfl (jY rfl) rfl rfl (fun f9 (g0:aG G e (aV 110 e p q Z::box b 172 [i64 a.Kind,i64 a.Variable,str a.B,zB a.Not,zS p Z.length q]::L) f9)=>(bR (eK (aE (bL (aC (mQ c4 rfl) (aO (v:=i64 (wr (b3+1))) (aM ⟨_,(zI hm).symm,gB,e,p,q,b4,b5,(zL e6 c6),rfl,rfl,f2,g0⟩))))))))))))
  ·exact aF
theorem aAO (n:Nat):∀ {G:kE} {K:Hp} {L:List eV} {w:World} {a:(List bI)} {a1:Option Addr} {c2:Nat} {R:((Tr bI) × (List bI))} (hm:gW n a=some R) (b:aG G K (L) w) (c:aX K a1 c2 a),
  Calls prog 111 ([zS a1 a.length c2]:List Value).toArray w (cJ fun v w'=>∃ d e g h,v=zT #[cD e 0,zS g R.2.length h]/\Hp.le K d/\trd d R.1 e/\aX d g h R.2/\aG G d (L) w'):=by
 induction n with
 |zero=>
  intro G K L w a a1 c2 R hm b c
  unfold gW at hm
  cases hm
 |succ n ih=>
  intro G K L w a a1 c2 R hm b c
  exact aAN (rec_:=gW n) (fun hm b c=>ih hm b c) hm b c
theorem aJg {f_:(List bI)} {R:((Tr bI) × (List bI))} (hm:aDU f_=some R) (hs:aG G K (L) w) (h3:aX K a1 c2 f_):
  Calls prog 111 ([zS a1 f_.length c2]:List Value).toArray w (cJ fun v w'=>∃ K' ra1 ra2 rc2,v=zT #[cD ra1 0,zS ra2 R.2.length rc2]/\Hp.le K K'/\trd K' R.1 ra1/\aX K' ra2 rc2 R.2/\aG G K' (L) w'):=aAO 100000 hm hs h3
theorem aLq {a:(List bI)} {R:(Tr bI)} (hm:aGO a=some R) (d:aG G K (L) w) (e:aX K a1 c2 a):
  Calls prog 55 ([zS a1 a.length c2]:List Value).toArray w (cJ fun v w'=>∃ b c,v=cD c 0/\Hp.le K b/\trd b R c/\aG G b (L) w'):=by
 exact aF
theorem oY {a:aK} {c:Bool} {R:aK} (hm:zE a c=some R) (e:aG G K (L) w):
  Calls prog 114 ([str a,zB c]:List Value).toArray w (cJ fun v w'=>v=str R/\aG G K (L) w'):=by
 refine aN func114 rfl (by kernel_rfl) (by show (2:Nat)<=23;decide) ?_;unfold zE at hm
 refine aL (aI (v:=str ([]:aK)) (aM (aL (aO (v:=str a) ?_))));obtain ⟨b,g,hm⟩:=aB hm
 refine aW (vs:=[str a,str ([42]:aK)]) call163 rfl (mK g e) ?_
 rintro _ h ⟨rfl,i⟩
 exact aO (v:=zT #[str b.1,zB b.2]) (aC (iL rfl rfl) (aC (iL rfl rfl) (aI (v:=str b.1) (aI (v:=zB b.2) (aM (aH (aQ [1] (fun f w=>∃ d,pK c d=some R/\f 0=str d/\aG G K (L) w) aF aF)))))))
theorem vC {a:(List Int)} {b R:Int} (hm:eT a b=some R) (e:aG G K (L) w) (g:aX K a1 c2 a):
  Calls prog 162 ([zS a1 a.length c2,i64 b]:List Value).toArray w (cJ fun v w'=>v=i64 R/\aG G K (L) w'):=by
 refine aN func162 rfl (by kernel_rfl) (by show (2:Nat)<=19;decide) ?_;unfold eT at hm
 refine aL (aI (v:=i64 0) (aM (aH (aL (aO (v:=zS a1 a.length c2) (aC (aU (len:=a.length) dW rfl) (aO (v:=i64 0) (aM (aQ [] (fun f w=>mA=some R/\aG G K (L) w) aF ?_)))))))));obtain ⟨h,c,ho⟩:=aB hm
 exact bS [0,1,7] c (fun d f w=>f 8=i64 d/\aG G K (L) w) aF aF
theorem jV {a:(List Int)} {b:Int} {R:Bool} (hm:cF a b=some R) (c:aG G K (L) w) (d:aX K a1 c2 a):
  Calls prog 113 ([zS a1 a.length c2,i64 b]:List Value).toArray w (cJ fun v w'=>v=zB R/\aG G K (L) w'):=by
 exact aF
theorem bP {rec_:(Tr bI)->Option aK} (g:∀ {G:kE} {K:Hp} {L:List eV} {w:World} {h:(Tr bI)} {a1:Option Addr} {R:aK} (hm:rec_ h=some R) (d:aG G K (L) w) (c:trd K h a1),
  Calls prog 56 ([cD a1 0]:List Value).toArray w (cJ fun v w'=>v=str R/\aG G K (L) w')) {G:kE} {K:Hp} {L:List eV} {w:World} {a:(Tr bI)} {a1:Option Addr} {kinds:(List Int)} {a3:Option Addr} {c4:Nat} {R:aK} (hm:eN rec_ a kinds=some R) (d:aG G K (L) w) (c:trd K a a1) (j:aX K a3 c4 kinds):
  Calls prog 112 ([cD a1 0,zS a3 kinds.length c4]:List Value).toArray w (cJ fun v w'=>v=str R/\aG G K (L) w'):=by
 refine aN func112 rfl (by kernel_rfl) (by show (2:Nat)<=18;decide) ?_;unfold eN at hm
 refine aL (aI (v:=str ([]:aK)) (aM (aH (aL (aO (v:=zS a3 kinds.length c4) (aO (v:=cD a1 0) ?_))))));obtain ⟨k,l,b,p⟩:=trd.el c
 replace b:eM K a1 0 [i64 a.val.Kind,i64 a.val.Variable,str a.val.B,zB a.val.Not,zS k a.kids.length l]:=b
 refine aC (dA rfl b) (aC (cB (k':=0+0) aNi rfl b rfl) (aC (cB (k':=0+0) aAw rfl b rfl) (aC (bY (t:=0) gH d b rfl rfl) ?_)));obtain ⟨q,m,hm⟩:=aB hm
 refine aW (vs:=[zS a3 kinds.length c4,i64 a.val.Kind]) call113 rfl (jV m d j) ?_
 rintro _ r ⟨rfl,i⟩
 refine aM ?_
 rcases aJ hm with ⟨e,hm⟩|⟨e,hm⟩
 ·refine aR e rfl (aL (aO (v:=cD a1 0) ?_));obtain ⟨u,n,hm⟩:=aB hm
  exact aW (vs:=[cD a1 0]) call56 rfl (g n i c) aF
 ·refine aP e rfl (aT (aE (aL (aO (v:=cD a1 0) ?_))));obtain ⟨x,o,hm⟩:=aB hm
  exact aW (vs:=[cD a1 0]) call56 rfl (g o i c) aF
end Gv
namespace Gv
open Gv.Hp renaming le_refl→zR
open Go.Value renaming slice→zS,bool→zB,pointer→zP,agg→zA
open Gv.Hp renaming le_trans→zL
open Go Go.Proofs Go.Proofs.Tryz
set_option maxRecDepth 20000
set_option maxHeartbeats 40000000
variable {G:kE} {K:Hp} {L:List eV} {w:World} {a1 a4 a2 a7 a10 a13 a16:Option Addr} {c2 b1 c3 c8 c17 c5:Nat}
theorem yB {rec_:(Tr bI)->Option aK} (k:∀ {G:kE} {K:Hp} {L:List eV} {w:World} {b:(Tr bI)} {a1:Option Addr} {R:aK} (hm:rec_ b=some R) (hs:aG G K (L) w) (h2:trd K b a1),
  Calls prog 56 ([cD a1 0]:List Value).toArray w (cJ fun v w'=>v=str R/\aG G K (L) w'))
  {G:kE} {K:Hp} {L:List eV} {w:World} {b:(Tr bI)} {a1:Option Addr} {R:aK} (hm:gD rec_ b=some R) (hs:aG G K (L) w) (h2:trd K b a1):
  Calls prog 56 ([cD a1 0]:List Value).toArray w (cJ fun v w'=>v=str R/\aG G K (L) w'):=by
 let m:=[i64 b.val.Kind,i64 b.val.Variable,str b.val.B,zB b.val.Not]
 let V:=[str b.val.B,zB b.val.Not]
 refine aN func56 rfl (by kernel_rfl) (by show (1:Nat)<=134;decide) ?_;unfold gD at hm
 refine aL (aI (v:=str ([]:aK)) (aM (aL (aI (v:=Value.func (.func 112) #[] #[]) (aM (aL (aO (v:=cD a1 0) ?_)))))));obtain ⟨a3,c4,a,l⟩:=trd.el h2
 replace a:eM K a1 0 [i64 b.val.Kind,i64 b.val.Variable,str b.val.B,zB b.val.Not,zS a3 b.kids.length c4]:=a
 refine aC (dA rfl a) (aC (cB (k':=0+0) aNi rfl a rfl) (aC (dQ (t:=0) (vs:=m) aIR hs a rfl rfl rfl) (dV (vs:=[i64 0,i64 0,str ([]:aK),zB false]) zeroValue132 hs rfl (fun x w8 j8=>(eW (i:=0) (ns:=m) (us:=m) sizeOf132 j8 rfl rfl rfl rfl rfl (jY rfl) rfl rfl (fun j9 (u:aG G K (box x 132 m::L) j9)=>(aM (aH (aL (aC (bG (t':=0) aAw rfl rfl) (aC (cX gH u (i:=0) rfl rfl rfl) (aM (bJ (aL (aC (dP rfl rfl) (aI (v:=zB (b.val.Kind == 0)) (aM ?_)))))))))))))))))
 rcases aJ hm with ⟨f6,hm⟩|⟨f6,hm⟩
 ·exact aF
 ·refine aP f6 rfl (aL (aC (dP rfl rfl) (aI (v:=zB (b.val.Kind == 1)) (aM ?_))))
  rcases aJ hm with ⟨f7,hm⟩|⟨f7,hm⟩
  ·exact aF
  ·refine aP f7 rfl (aL (aC (dP rfl rfl) (aI (v:=zB (b.val.Kind == 2)) (aM ?_))))
   rcases aJ hm with ⟨b5,hm⟩|⟨b5,hm⟩
   ·refine aR b5 rfl (aH (bB [] (fun f w=>∃ f8,aDr f8=some R/\f 2=str f8/\aG G K (L) w) aF (aEd (C:=fun w'=>∃ L',aG G K L' w') [] Tryz_mixed (by kernel_rfl) (fun w22 k0=>?_))))
    have c:=aG.mono u k0
    refine eQ (i:=0) rfl (by kernel_rfl) ⟨_,c⟩ (fun _ _=>aZ (v:=Value.func (.func 112) #[] #[]) rfl) (eQ (i:=1) rfl (by kernel_rfl) ⟨_,c⟩ (fun _ _=>aZ (v:=cD a1 0) rfl) (eQ (i:=2) rfl (by kernel_rfl) ⟨_,c⟩ (fun _ _=>dA rfl a) (eQ (i:=3) rfl (by kernel_rfl) ⟨_,c⟩ (fun _ _=>cB (k':=0+4) qO rfl a rfl) (eQ (i:=4) rfl (by kernel_rfl) ⟨_,c⟩ (fun _ ⟨_,c⟩=>bY (t:=4) aDM c a rfl rfl) ?_))));obtain ⟨e25,f9,hm⟩:=aB hm
    refine eQ (i:=5) rfl (by kernel_rfl) ⟨_,c⟩ (fun _ _=>cK aCd rfl l rfl rfl rfl f9) ?_;obtain ⟨a29,k1,k2⟩:=aX.el (sz:=1) rfl l f9
    obtain ⟨z,rfl,b6⟩:=k2
    refine eQ (i:=6) rfl (by kernel_rfl) ⟨_,c⟩ (fun _ ⟨_,c⟩=>bY (t:=0) aEY c k1 rfl rfl) (eQ (i:=10) rfl (by kernel_rfl) ⟨_,c⟩ (fun _ _=>aZ (v:=Value.func (.func 112) #[] #[]) rfl) (eQ (i:=11) rfl (by kernel_rfl) ⟨_,c⟩ (fun _ _=>aZ (v:=cD a1 0) rfl) (eQ (i:=12) rfl (by kernel_rfl) ⟨_,c⟩ (fun _ _=>dA rfl a) (eQ (i:=13) rfl (by kernel_rfl) ⟨_,c⟩ (fun _ _=>cB (k':=0+4) qO rfl a rfl) (eQ (i:=14) rfl (by kernel_rfl) ⟨_,c⟩ (fun _ ⟨_,c⟩=>bY (t:=4) aDM c a rfl rfl) ?_)))))
    obtain ⟨e32,g0,hm⟩:=aB hm
    refine eQ (i:=15) rfl (by kernel_rfl) ⟨_,c⟩ (fun _ _=>cK aCd rfl l rfl rfl rfl g0) ?_;obtain ⟨a32,k3,k4⟩:=aX.el (sz:=1) rfl l g0
    obtain ⟨J,rfl,b8⟩:=k4
    refine eQ (i:=16) rfl (by kernel_rfl) ⟨_,c⟩ (fun _ ⟨_,c⟩=>bY (t:=0) aEY c k3 rfl rfl) (aHn (i:=7) (j:=17) (by kernel_rfl) rfl rfl ?_ ?_)
    ·refine dH (Kt:=K) (xs:=([2,3]:List Int)) (cs:=[i64 2,i64 3]) (vs:=[(0,i64 2),(1,i64 3)]) dW yK rfl rfl c rfl (by kernel_rfl) rfl rfl rfl ⟨rfl,rfl,trivial⟩ (fun y k5 (b9:aG G K (aV 2 K y 2 ([2,3]:List Int)::box x 132 m::L) k5)=>(bR (aE ⟨fun _=>⟨_,b9⟩,?_⟩)))
     refine aHn (i:=8) (j:=17) (by kernel_rfl) rfl rfl ?_ ?_
     ·obtain ⟨K42,k6,k7,k8,k9⟩:=aG.lendSp b9 (zR _) .head
      obtain ⟨r47,l0,hm⟩:=aB hm
      refine eP (vs:=[cD z 0,zS y ([2,3]:List Int).length 2]) (caps:=[]) (us:=[cD z 0,zS y ([2,3]:List Int).length 2]) rfl call112 rfl rfl (bP k l0 k8 (b6.mono k6) k7) ?_
      rintro _ w49 ⟨rfl,l1⟩
      have c0:=k9 _ _ l1
      refine bR (aE ⟨fun _=>⟨_,c0⟩,?_⟩)
      obtain ⟨s52,l2,hm⟩:=aB hm
      refine eQ (i:=9) rfl (by kernel_rfl) ⟨_,c0⟩ (fun _ _=>eA rfl rfl l2) (iC (i:=17) (by kernel_rfl) rfl (dH (Kt:=K) (xs:=([3]:List Int)) (cs:=[i64 3]) (vs:=[(0,i64 3)]) dW yK rfl rfl c0 rfl (by kernel_rfl) rfl rfl rfl ⟨rfl,trivial⟩ (fun c1 l3 (g1:aG G K (aV 2 K c1 1 ([3]:List Int)::aV 2 K y 2 ([2,3]:List Int)::box x 132 m::L) l3)=>(bR (aE ⟨fun _=>⟨_,g1⟩,?_⟩)))))
      refine iC (i:=18) (by kernel_rfl) rfl ?_;obtain ⟨K57,l4,l5,l6,l7⟩:=aG.lendSp g1 (zR _) .head
      obtain ⟨r62,l8,hm⟩:=aB hm
      refine eP (vs:=[cD J 0,zS c1 ([3]:List Int).length 1]) (caps:=[]) (us:=[cD J 0,zS c1 ([3]:List Int).length 1]) rfl call112 rfl rfl (bP k l8 l6 (b8.mono l4) l5) ?_
      rintro _ w64 ⟨rfl,l9⟩
      have c2:=l7 _ _ l9
      refine bR (aE ⟨fun _=>⟨_,c2⟩,?_⟩)
      obtain ⟨m0,m1,hm⟩:=aB hm
      exact eQ (i:=19) rfl (by kernel_rfl) ⟨_,c2⟩ (fun _ _=>eA rfl rfl m1) (eQ (i:=20) rfl (by kernel_rfl) ⟨_,c2⟩ (fun _ _=>dM (v:=str m0) rfl) (vW (by kernel_rfl) aF))
     ·refine dH (Kt:=K) (xs:=([3]:List Int)) (cs:=[i64 3]) (vs:=[(0,i64 3)]) dW yK rfl rfl b9 rfl (by kernel_rfl) rfl rfl rfl ⟨rfl,trivial⟩ (fun c3 m2 (g2:aG G K (aV 2 K c3 1 ([3]:List Int)::aV 2 K y 2 ([2,3]:List Int)::box x 132 m::L) m2)=>(bR (aE ⟨fun _=>⟨_,g2⟩,?_⟩)))
      refine iC (i:=8) (by kernel_rfl) rfl ?_;obtain ⟨K72,m3,m4,m5,m6⟩:=aG.lendSp g2 (zR _) zt1
      obtain ⟨r77,m7,hm⟩:=aB hm
      refine eP (vs:=[cD z 0,zS y ([2,3]:List Int).length 2]) (caps:=[]) (us:=[cD z 0,zS y ([2,3]:List Int).length 2]) rfl call112 rfl rfl (bP k m7 m5 (b6.mono m3) m4) ?_
      rintro _ w79 ⟨rfl,m8⟩
      have c5:=m6 _ _ m8
      refine bR (aE ⟨fun _=>⟨_,c5⟩,?_⟩)
      obtain ⟨s82,m9,hm⟩:=aB hm
      refine eQ (i:=9) rfl (by kernel_rfl) ⟨_,c5⟩ (fun _ _=>eA rfl rfl m9) (iC (i:=18) (by kernel_rfl) rfl ?_);obtain ⟨K84,n0,n1,n2,n3⟩:=aG.lendSp c5 (zR _) zt1
      obtain ⟨r89,n4,hm⟩:=aB hm
      refine eP (vs:=[cD J 0,zS c3 ([3]:List Int).length 1]) (caps:=[]) (us:=[cD J 0,zS c3 ([3]:List Int).length 1]) rfl call112 rfl rfl (bP k n4 n2 (b8.mono n0) n1) ?_
      rintro _ w91 ⟨rfl,n5⟩
      have c6:=n3 _ _ n5
      refine bR (aE ⟨fun _=>⟨_,c6⟩,?_⟩)
      obtain ⟨n6,n7,hm⟩:=aB hm
      exact eQ (i:=19) rfl (by kernel_rfl) ⟨_,c6⟩ (fun _ _=>eA rfl rfl n7) (eQ (i:=20) rfl (by kernel_rfl) ⟨_,c6⟩ (fun _ _=>dM (v:=str n6) rfl) (vW (by kernel_rfl) aF))
    ·refine dH (Kt:=K) (xs:=([3]:List Int)) (cs:=[i64 3]) (vs:=[(0,i64 3)]) dW yK rfl rfl c rfl (by kernel_rfl) rfl rfl rfl ⟨rfl,trivial⟩ (fun Z n8 (g3:aG G K (aV 2 K Z 1 ([3]:List Int)::box x 132 m::L) n8)=>(bR (aE ⟨fun _=>⟨_,g3⟩,?_⟩)))
     refine iC (i:=7) (by kernel_rfl) rfl (dH (Kt:=K) (xs:=([2,3]:List Int)) (cs:=[i64 2,i64 3]) (vs:=[(0,i64 2),(1,i64 3)]) dW yK rfl rfl g3 rfl (by kernel_rfl) rfl rfl rfl ⟨rfl,rfl,trivial⟩ (fun c7 n9 (g4:aG G K (aV 2 K c7 2 ([2,3]:List Int)::aV 2 K Z 1 ([3]:List Int)::box x 132 m::L) n9)=>(bR (aE ⟨fun _=>⟨_,g4⟩,?_⟩))))
     refine iC (i:=8) (by kernel_rfl) rfl ?_;obtain ⟨a49,o0,o1,o2,o3⟩:=aG.lendSp g4 (zR _) .head
     obtain ⟨a50,o4,hm⟩:=aB hm
     refine eP (vs:=[cD z 0,zS c7 ([2,3]:List Int).length 2]) (caps:=[]) (us:=[cD z 0,zS c7 ([2,3]:List Int).length 2]) rfl call112 rfl rfl (bP k o4 o2 (b6.mono o0) o1) ?_
     rintro _ a51 ⟨rfl,o5⟩
     have c8:=o3 _ _ o5
     refine bR (aE ⟨fun _=>⟨_,c8⟩,?_⟩)
     obtain ⟨a52,o6,hm⟩:=aB hm
     refine eQ (i:=9) rfl (by kernel_rfl) ⟨_,c8⟩ (fun _ _=>eA rfl rfl o6) (iC (i:=18) (by kernel_rfl) rfl ?_);obtain ⟨a53,o7,o8,o9,p0⟩:=aG.lendSp c8 (zR _) zt1
     obtain ⟨a55,p1,hm⟩:=aB hm
     refine eP (vs:=[cD J 0,zS Z ([3]:List Int).length 1]) (caps:=[]) (us:=[cD J 0,zS Z ([3]:List Int).length 1]) rfl call112 rfl rfl (bP k p1 o9 (b8.mono o7) o8) ?_
     rintro _ a56 ⟨rfl,p2⟩
     have c9:=p0 _ _ p2
     refine bR (aE ⟨fun _=>⟨_,c9⟩,?_⟩)
     obtain ⟨p3,p4,hm⟩:=aB hm
     exact eQ (i:=19) rfl (by kernel_rfl) ⟨_,c9⟩ (fun _ _=>eA rfl rfl p4) (eQ (i:=20) rfl (by kernel_rfl) ⟨_,c9⟩ (fun _ _=>dM (v:=str p3) rfl) (vW (by kernel_rfl) aF))
   ·refine aP b5 rfl (aL (aC (dP rfl rfl) (aI (v:=zB (b.val.Kind == 3)) (aM ?_))))
    rcases aJ hm with ⟨d0,hm⟩|⟨d0,hm⟩
    ·refine aR d0 rfl (aH (lQ (C:=fun w'=>∃ L',aG G K L' w') [(0,0),(1,0),(2,0),(3,0),(4,0),(5,0),(6,0),(10,0),(11,0),(12,0),(13,0),(14,0),(15,0),(16,0),(7,1),(8,1),(9,0),(17,1),(18,0),(19,0)] Tryz_mixed (by kernel_rfl) (fun _ hg=>⟨_,aG.mono u hg⟩) (fun a57 p5=>?_)))
     have n:=aG.mono u p5
     refine dN rfl (fun _ _=>aZ (v:=Value.func (.func 112) #[] #[]) rfl) (dN rfl (fun _ _=>aZ (v:=cD a1 0) rfl) (dN rfl (fun _ _=>dA rfl a) (dN rfl (fun _ _=>cB (k':=0+4) qO rfl a rfl) (dN rfl (fun _ ⟨_,n⟩=>bY (t:=4) aDM n a rfl rfl) ?_))));obtain ⟨a58,g5,hm⟩:=aB hm
     refine dN rfl (fun _ _=>cK aCd rfl l rfl rfl rfl g5) ?_;obtain ⟨a59,p6,p7⟩:=aX.el (sz:=1) rfl l g5
     obtain ⟨g6,rfl,p8⟩:=p7
     refine dN rfl (fun _ ⟨_,n⟩=>bY (t:=0) aEY n p6 rfl rfl) (dN rfl (fun _ _=>aZ (v:=Value.func (.func 112) #[] #[]) rfl) (dN rfl (fun _ _=>aZ (v:=cD a1 0) rfl) (dN rfl (fun _ _=>dA rfl a) (dN rfl (fun _ _=>cB (k':=0+4) qO rfl a rfl) (dN rfl (fun _ ⟨_,n⟩=>bY (t:=4) aDM n a rfl rfl) ?_)))));obtain ⟨a60,g7,hm⟩:=aB hm
     refine dN rfl (fun _ _=>cK aCd rfl l rfl rfl rfl g7) ?_;obtain ⟨a61,p9,q0⟩:=aX.el (sz:=1) rfl l g7
     obtain ⟨g8,rfl,q1⟩:=q0
     refine dN rfl (fun _ ⟨_,n⟩=>bY (t:=0) aEY n p9 rfl rfl) (vV rfl (dH (Kt:=K) (xs:=([3]:List Int)) (cs:=[i64 3]) (vs:=[(0,i64 3)]) dW yK rfl rfl n rfl (by kernel_rfl) rfl rfl rfl ⟨rfl,trivial⟩ (fun d1 q2 (g9:aG G K (aV 2 K d1 1 ([3]:List Int)::box x 132 m::L) q2)=>(bR (aE ⟨⟨_,g9⟩,?_⟩)))))
     refine vV rfl ?_;obtain ⟨a62,q3,q4,q5,q6⟩:=aG.lendSp g9 (zR _) .head
     obtain ⟨a63,q7,hm⟩:=aB hm
     refine eP (vs:=[cD g6 0,zS d1 ([3]:List Int).length 1]) (caps:=[]) (us:=[cD g6 0,zS d1 ([3]:List Int).length 1]) rfl call112 rfl rfl (bP k q7 q5 (p8.mono q3) q4) ?_
     rintro _ a64 ⟨rfl,q8⟩
     have h0:=q6 _ _ q8
     refine bR (aE ⟨⟨_,h0⟩,?_⟩)
     obtain ⟨a65,q9,hm⟩:=aB hm
     refine dN rfl (fun _ _=>eA rfl rfl q9) (vV rfl ?_);obtain ⟨a66,r0,hm⟩:=aB hm
     have hcl:=bP k (kinds:=[]) r0 h0 q1 (kM (α:=Int) _)
     exact eP (vs:=[cD g8 0,zS none 0 0]) (caps:=[]) (us:=[cD g8 0,zS none 0 0]) rfl call112 rfl rfl hcl aF
    ·refine aP d0 rfl (aL (aC (dP rfl rfl) (aI (v:=zB (b.val.Kind == 4)) (aM ?_))))
     rcases aJ hm with ⟨d2,hm⟩|⟨d2,hm⟩
     ·refine aR d2 rfl (aH (bB [] (fun f w=>∃ h1,aDs h1=some R/\f 2=str h1/\aG G K (L) w) aF ?_));obtain ⟨d3,o,h3,r1,a67⟩:=aG.lendBp u .head
      refine aEd (C:=fun w'=>∃ L',aG G d3 L' w') [] Tryz_mixed (by kernel_rfl) (fun a68 r2=>?_)
      have d:=aG.mono r1 r2
      refine eQ (i:=0) rfl (by kernel_rfl) ⟨_,d⟩ (fun _ _=>bG (t':=2) aGv rfl rfl) (eQ (i:=1) rfl (by kernel_rfl) ⟨_,d⟩ (fun _ ⟨_,d⟩=>bY (t:=2) nV d h3 rfl rfl) (eQ (i:=2) rfl (by kernel_rfl) ⟨_,d⟩ (fun _ _=>bG (t':=3) aJL rfl rfl) (eQ (i:=3) rfl (by kernel_rfl) ⟨_,d⟩ (fun _ ⟨_,d⟩=>bY (t:=3) sc_4 d h3 rfl rfl) (eQ (i:=7) rfl (by kernel_rfl) ⟨_,d⟩ (fun _ _=>aZ (v:=Value.func (.func 112) #[] #[]) rfl) (eQ (i:=8) rfl (by kernel_rfl) ⟨_,d⟩ (fun _ _=>aZ (v:=cD a1 0) rfl) (eQ (i:=9) rfl (by kernel_rfl) ⟨_,d⟩ (fun _ _=>dA rfl (a.mono o)) (eQ (i:=10) rfl (by kernel_rfl) ⟨_,d⟩ (fun _ _=>cB (k':=0+4) qO rfl (a.mono o) rfl) (eQ (i:=11) rfl (by kernel_rfl) ⟨_,d⟩ (fun _ ⟨_,d⟩=>bY (t:=4) aDM d (a.mono o) rfl rfl) ?_))))))))
      obtain ⟨a70,h4,hm⟩:=aB hm
      refine eQ (i:=12) rfl (by kernel_rfl) ⟨_,d⟩ (fun _ _=>cK aCd rfl (l.mono o) rfl rfl rfl h4) ?_;obtain ⟨a71,r3,r4⟩:=aX.el (sz:=1) rfl l h4
      obtain ⟨a0,rfl,h5⟩:=r4
      refine eQ (i:=13) rfl (by kernel_rfl) ⟨_,d⟩ (fun _ ⟨_,d⟩=>bY (t:=0) aEY d (r3.mono o) rfl rfl) (aHn (i:=4) (j:=14) (by kernel_rfl) rfl rfl ?_ ?_)
      ·obtain ⟨a72,r5,hm⟩:=aB hm
       refine aW (vs:=V) call114 rfl (oY r5 d) ?_
       rintro _ a73 ⟨rfl,a2⟩
       refine bR (aE ⟨fun _=>⟨_,a2⟩,?_⟩)
       obtain ⟨a74,r6,hm⟩:=aB hm
       refine eQ (i:=5) rfl (by kernel_rfl) ⟨_,a2⟩ (fun _ _=>eA rfl rfl r6) ?_;obtain ⟨a75,r7,hm⟩:=aB hm
       refine eQ (i:=6) rfl (by kernel_rfl) ⟨_,a2⟩ (fun _ _=>eA rfl rfl r7) (iC (i:=14) (by kernel_rfl) rfl (dH (Kt:=K) (xs:=([2,3]:List Int)) (cs:=[i64 2,i64 3]) (vs:=[(0,i64 2),(1,i64 3)]) dW yK rfl rfl a2 rfl (by kernel_rfl) rfl rfl rfl ⟨rfl,rfl,trivial⟩ (fun d4 r8 (h7:aG G d3 (aV 2 K d4 2 ([2,3]:List Int)::L) r8)=>(bR (aE ⟨fun _=>⟨_,h7⟩,?_⟩)))))
       refine iC (i:=15) (by kernel_rfl) rfl ?_;obtain ⟨a76,r9,s0,s1,s2⟩:=aG.lendSp h7 o .head
       obtain ⟨a77,s3,hm⟩:=aB hm
       refine eP (vs:=[cD a0 0,zS d4 ([2,3]:List Int).length 2]) (caps:=[]) (us:=[cD a0 0,zS d4 ([2,3]:List Int).length 2]) rfl call112 rfl rfl (bP k s3 s1 (h5.mono (zL o r9)) s0) ?_
       rintro _ a78 ⟨rfl,s4⟩
       have d5:=s2 _ _ s4
       refine bR (aE ⟨fun _=>⟨_,d5⟩,?_⟩)
       obtain ⟨s5,s6,hm⟩:=aB hm
       exact eQ (i:=16) rfl (by kernel_rfl) ⟨_,d5⟩ (fun _ _=>eA rfl rfl s6) (eQ (i:=17) rfl (by kernel_rfl) ⟨_,d5⟩ (fun _ _=>dM (v:=str s5) rfl) (vW (by kernel_rfl) aF))
      ·refine dH (Kt:=K) (xs:=([2,3]:List Int)) (cs:=[i64 2,i64 3]) (vs:=[(0,i64 2),(1,i64 3)]) dW yK rfl rfl d rfl (by kernel_rfl) rfl rfl rfl ⟨rfl,rfl,trivial⟩ (fun d6 s7 (h8:aG G d3 (aV 2 K d6 2 ([2,3]:List Int)::L) s7)=>(bR (aE ⟨fun _=>⟨_,h8⟩,?_⟩)))
       refine iC (i:=4) (by kernel_rfl) rfl ?_;obtain ⟨a79,s8,hm⟩:=aB hm
       refine aW (vs:=V) call114 rfl (oY s8 h8) ?_
       rintro _ a80 ⟨rfl,a4⟩
       refine bR (aE ⟨fun _=>⟨_,a4⟩,?_⟩)
       obtain ⟨a81,s9,hm⟩:=aB hm
       refine eQ (i:=5) rfl (by kernel_rfl) ⟨_,a4⟩ (fun _ _=>eA rfl rfl s9) ?_;obtain ⟨a82,t0,hm⟩:=aB hm
       refine eQ (i:=6) rfl (by kernel_rfl) ⟨_,a4⟩ (fun _ _=>eA rfl rfl t0) (iC (i:=15) (by kernel_rfl) rfl ?_);obtain ⟨a83,t1,t2,t3,t4⟩:=aG.lendSp a4 o .head
       obtain ⟨a84,t5,hm⟩:=aB hm
       refine eP (vs:=[cD a0 0,zS d6 ([2,3]:List Int).length 2]) (caps:=[]) (us:=[cD a0 0,zS d6 ([2,3]:List Int).length 2]) rfl call112 rfl rfl (bP k t5 t3 (h5.mono (zL o t1)) t2) ?_
       rintro _ a85 ⟨rfl,t6⟩
       have d7:=t4 _ _ t6
       refine bR (aE ⟨fun _=>⟨_,d7⟩,?_⟩)
       obtain ⟨t7,t8,hm⟩:=aB hm
       exact eQ (i:=16) rfl (by kernel_rfl) ⟨_,d7⟩ (fun _ _=>eA rfl rfl t8) (eQ (i:=17) rfl (by kernel_rfl) ⟨_,d7⟩ (fun _ _=>dM (v:=str t7) rfl) (vW (by kernel_rfl) aF))
     ·refine aP d2 rfl (aL (aC (dP rfl rfl) (aI (v:=zB (b.val.Kind == 5)) (aM ?_))))
      rcases aJ hm with ⟨d8,hm⟩|⟨d8,hm⟩
      ·refine aR d8 rfl (aH (bB [] (fun f w=>∃ h9,aDt h9=some R/\f 2=str h9/\aG G K (L) w) aF ?_));obtain ⟨d9,p,i0,t9,a86⟩:=aG.lendBp u .head
       refine aEd (C:=fun w'=>∃ L',aG G d9 L' w') [] Tryz_mixed (by kernel_rfl) (fun a87 u0=>?_)
       have e:=aG.mono t9 u0
       refine eQ (i:=0) rfl (by kernel_rfl) ⟨_,e⟩ (fun _ _=>bG (t':=2) aGv rfl rfl) (eQ (i:=1) rfl (by kernel_rfl) ⟨_,e⟩ (fun _ ⟨_,e⟩=>bY (t:=2) nV e i0 rfl rfl) (eQ (i:=2) rfl (by kernel_rfl) ⟨_,e⟩ (fun _ _=>bG (t':=3) aJL rfl rfl) (eQ (i:=3) rfl (by kernel_rfl) ⟨_,e⟩ (fun _ ⟨_,e⟩=>bY (t:=3) sc_4 e i0 rfl rfl) (eQ (i:=7) rfl (by kernel_rfl) ⟨_,e⟩ (fun _ _=>aZ (v:=Value.func (.func 112) #[] #[]) rfl) (eQ (i:=8) rfl (by kernel_rfl) ⟨_,e⟩ (fun _ _=>aZ (v:=cD a1 0) rfl) (eQ (i:=9) rfl (by kernel_rfl) ⟨_,e⟩ (fun _ _=>dA rfl (a.mono p)) (eQ (i:=10) rfl (by kernel_rfl) ⟨_,e⟩ (fun _ _=>cB (k':=0+4) qO rfl (a.mono p) rfl) (eQ (i:=11) rfl (by kernel_rfl) ⟨_,e⟩ (fun _ ⟨_,e⟩=>bY (t:=4) aDM e (a.mono p) rfl rfl) ?_))))))))
       obtain ⟨a88,i1,hm⟩:=aB hm
       refine eQ (i:=12) rfl (by kernel_rfl) ⟨_,e⟩ (fun _ _=>cK aCd rfl (l.mono p) rfl rfl rfl i1) ?_;obtain ⟨a89,u1,u2⟩:=aX.el (sz:=1) rfl l i1
       obtain ⟨a5,rfl,i2⟩:=u2
       refine eQ (i:=13) rfl (by kernel_rfl) ⟨_,e⟩ (fun _ ⟨_,e⟩=>bY (t:=0) aEY e (u1.mono p) rfl rfl) (aHn (i:=4) (j:=14) (by kernel_rfl) rfl rfl ?_ ?_)
       ·obtain ⟨a90,u3,hm⟩:=aB hm
        refine aW (vs:=V) call114 rfl (oY u3 e) ?_
        rintro _ a91 ⟨rfl,a6⟩
        refine bR (aE ⟨fun _=>⟨_,a6⟩,?_⟩)
        obtain ⟨a92,u4,hm⟩:=aB hm
        refine eQ (i:=5) rfl (by kernel_rfl) ⟨_,a6⟩ (fun _ _=>eA rfl rfl u4) ?_;obtain ⟨a93,u5,hm⟩:=aB hm
        refine eQ (i:=6) rfl (by kernel_rfl) ⟨_,a6⟩ (fun _ _=>eA rfl rfl u5) (iC (i:=14) (by kernel_rfl) rfl (dH (Kt:=K) (xs:=([2,3]:List Int)) (cs:=[i64 2,i64 3]) (vs:=[(0,i64 2),(1,i64 3)]) dW yK rfl rfl a6 rfl (by kernel_rfl) rfl rfl rfl ⟨rfl,rfl,trivial⟩ (fun e0 u6 (i3:aG G d9 (aV 2 K e0 2 ([2,3]:List Int)::L) u6)=>(bR (aE ⟨fun _=>⟨_,i3⟩,?_⟩)))))
        refine iC (i:=15) (by kernel_rfl) rfl ?_;obtain ⟨a94,u7,u8,u9,v0⟩:=aG.lendSp i3 p .head
        obtain ⟨a95,v1,hm⟩:=aB hm
        refine eP (vs:=[cD a5 0,zS e0 ([2,3]:List Int).length 2]) (caps:=[]) (us:=[cD a5 0,zS e0 ([2,3]:List Int).length 2]) rfl call112 rfl rfl (bP k v1 u9 (i2.mono (zL p u7)) u8) ?_
        rintro _ a97 ⟨rfl,v2⟩
        have e1:=v0 _ _ v2
        refine bR (aE ⟨fun _=>⟨_,e1⟩,?_⟩)
        obtain ⟨v3,v4,hm⟩:=aB hm
        exact eQ (i:=16) rfl (by kernel_rfl) ⟨_,e1⟩ (fun _ _=>eA rfl rfl v4) (eQ (i:=17) rfl (by kernel_rfl) ⟨_,e1⟩ (fun _ _=>dM (v:=str v3) rfl) (vW (by kernel_rfl) aF))
       ·refine dH (Kt:=K) (xs:=([2,3]:List Int)) (cs:=[i64 2,i64 3]) (vs:=[(0,i64 2),(1,i64 3)]) dW yK rfl rfl e rfl (by kernel_rfl) rfl rfl rfl ⟨rfl,rfl,trivial⟩ (fun e2 v5 (i4:aG G d9 (aV 2 K e2 2 ([2,3]:List Int)::L) v5)=>(bR (aE ⟨fun _=>⟨_,i4⟩,?_⟩)))
        refine iC (i:=4) (by kernel_rfl) rfl ?_;obtain ⟨a98,v6,hm⟩:=aB hm
        refine aW (vs:=V) call114 rfl (oY v6 i4) ?_
        rintro _ b00 ⟨rfl,a7⟩
        refine bR (aE ⟨fun _=>⟨_,a7⟩,?_⟩)
        obtain ⟨b01,v7,hm⟩:=aB hm
        refine eQ (i:=5) rfl (by kernel_rfl) ⟨_,a7⟩ (fun _ _=>eA rfl rfl v7) ?_;obtain ⟨b02,v8,hm⟩:=aB hm
        refine eQ (i:=6) rfl (by kernel_rfl) ⟨_,a7⟩ (fun _ _=>eA rfl rfl v8) (iC (i:=15) (by kernel_rfl) rfl ?_);obtain ⟨b03,v9,w0,w1,w2⟩:=aG.lendSp a7 p .head
        obtain ⟨b04,w3,hm⟩:=aB hm
        refine eP (vs:=[cD a5 0,zS e2 ([2,3]:List Int).length 2]) (caps:=[]) (us:=[cD a5 0,zS e2 ([2,3]:List Int).length 2]) rfl call112 rfl rfl (bP k w3 w1 (i2.mono (zL p v9)) w0) ?_
        rintro _ b05 ⟨rfl,w4⟩
        have e3:=w2 _ _ w4
        refine bR (aE ⟨fun _=>⟨_,e3⟩,?_⟩)
        obtain ⟨w5,w6,hm⟩:=aB hm
        exact eQ (i:=16) rfl (by kernel_rfl) ⟨_,e3⟩ (fun _ _=>eA rfl rfl w6) (eQ (i:=17) rfl (by kernel_rfl) ⟨_,e3⟩ (fun _ _=>dM (v:=str w5) rfl) (vW (by kernel_rfl) aF))
      ·refine aP d8 rfl (aL (aC (dP rfl rfl) (aI (v:=zB (b.val.Kind == 7)) (aM ?_))))
       rcases aJ hm with ⟨e4,hm⟩|⟨e4,hm⟩
       ·refine aR e4 rfl (aH (bB [] (fun f w=>∃ i5,aDu i5=some R/\f 2=str i5/\aG G K (L) w) aF ?_));obtain ⟨e5,q,w7,w9,b06⟩:=aG.lendBp u .head
        refine aEd (C:=fun w'=>∃ L',aG G e5 L' w') [] Tryz_mixed (by kernel_rfl) (fun b07 x0=>?_)
        have g:=aG.mono w9 x0
        refine eQ (i:=0) rfl (by kernel_rfl) ⟨_,g⟩ (fun _ _=>bG (t':=1) aNb rfl rfl) (eQ (i:=1) rfl (by kernel_rfl) ⟨_,g⟩ (fun _ ⟨_,g⟩=>bY (t:=1) gH g w7 rfl rfl) (eQ (i:=5) rfl (by kernel_rfl) ⟨_,g⟩ (fun _ _=>aZ (v:=Value.func (.func 112) #[] #[]) rfl) (eQ (i:=6) rfl (by kernel_rfl) ⟨_,g⟩ (fun _ _=>aZ (v:=cD a1 0) rfl) (eQ (i:=7) rfl (by kernel_rfl) ⟨_,g⟩ (fun _ _=>dA rfl (a.mono q)) (eQ (i:=8) rfl (by kernel_rfl) ⟨_,g⟩ (fun _ _=>cB (k':=0+4) qO rfl (a.mono q) rfl) (eQ (i:=9) rfl (by kernel_rfl) ⟨_,g⟩ (fun _ ⟨_,g⟩=>bY (t:=4) aDM g (a.mono q) rfl rfl) ?_))))))
        obtain ⟨b08,i6,hm⟩:=aB hm
        refine eQ (i:=10) rfl (by kernel_rfl) ⟨_,g⟩ (fun _ _=>cK aCd rfl (l.mono q) rfl rfl rfl i6) ?_;obtain ⟨b09,x1,x2⟩:=aX.el (sz:=1) rfl l i6
        obtain ⟨a8,rfl,i7⟩:=x2
        refine eQ (i:=11) rfl (by kernel_rfl) ⟨_,g⟩ (fun _ ⟨_,g⟩=>bY (t:=0) aEY g (x1.mono q) rfl rfl) (aHn (i:=2) (j:=12) (by kernel_rfl) rfl rfl ?_ ?_)
        ·obtain ⟨b10,x3,hm⟩:=aB hm
         refine aW (vs:=[i64 b.val.Variable]) call53 rfl (nP g x3) ?_
         rintro _ b11 ⟨rfl,a9⟩
         refine bR (aE ⟨fun _=>⟨_,a9⟩,?_⟩)
         obtain ⟨b12,x4,hm⟩:=aB hm
         refine eQ (i:=3) rfl (by kernel_rfl) ⟨_,a9⟩ (fun _ _=>eA rfl rfl x4) ?_;obtain ⟨b13,x5,hm⟩:=aB hm
         refine eQ (i:=4) rfl (by kernel_rfl) ⟨_,a9⟩ (fun _ _=>eA rfl rfl x5) (iC (i:=12) (by kernel_rfl) rfl (dH (Kt:=K) (xs:=([2,3]:List Int)) (cs:=[i64 2,i64 3]) (vs:=[(0,i64 2),(1,i64 3)]) dW yK rfl rfl a9 rfl (by kernel_rfl) rfl rfl rfl ⟨rfl,rfl,trivial⟩ (fun e6 x6 (i8:aG G e5 (aV 2 K e6 2 ([2,3]:List Int)::L) x6)=>(bR (aE ⟨fun _=>⟨_,i8⟩,?_⟩)))))
         refine iC (i:=13) (by kernel_rfl) rfl ?_;obtain ⟨b14,x7,x8,x9,y0⟩:=aG.lendSp i8 q .head
         obtain ⟨b15,y1,hm⟩:=aB hm
         refine eP (vs:=[cD a8 0,zS e6 ([2,3]:List Int).length 2]) (caps:=[]) (us:=[cD a8 0,zS e6 ([2,3]:List Int).length 2]) rfl call112 rfl rfl (bP k y1 x9 (i7.mono (zL q x7)) x8) ?_
         rintro _ b16 ⟨rfl,y2⟩
         have e7:=y0 _ _ y2
         refine bR (aE ⟨fun _=>⟨_,e7⟩,?_⟩)
         obtain ⟨y3,y4,hm⟩:=aB hm
         exact eQ (i:=14) rfl (by kernel_rfl) ⟨_,e7⟩ (fun _ _=>eA rfl rfl y4) (eQ (i:=15) rfl (by kernel_rfl) ⟨_,e7⟩ (fun _ _=>dM (v:=str y3) rfl) (vW (by kernel_rfl) aF))
        ·refine dH (Kt:=K) (xs:=([2,3]:List Int)) (cs:=[i64 2,i64 3]) (vs:=[(0,i64 2),(1,i64 3)]) dW yK rfl rfl g rfl (by kernel_rfl) rfl rfl rfl ⟨rfl,rfl,trivial⟩ (fun e8 y5 (i9:aG G e5 (aV 2 K e8 2 ([2,3]:List Int)::L) y5)=>(bR (aE ⟨fun _=>⟨_,i9⟩,?_⟩)))
         refine iC (i:=2) (by kernel_rfl) rfl ?_;obtain ⟨b17,y6,hm⟩:=aB hm
         refine aW (vs:=[i64 b.val.Variable]) call53 rfl (nP i9 y6) ?_
         rintro _ b18 ⟨rfl,b0⟩
         refine bR (aE ⟨fun _=>⟨_,b0⟩,?_⟩)
         obtain ⟨b19,y7,hm⟩:=aB hm
         refine eQ (i:=3) rfl (by kernel_rfl) ⟨_,b0⟩ (fun _ _=>eA rfl rfl y7) ?_;obtain ⟨b20,y8,hm⟩:=aB hm
         refine eQ (i:=4) rfl (by kernel_rfl) ⟨_,b0⟩ (fun _ _=>eA rfl rfl y8) (iC (i:=13) (by kernel_rfl) rfl ?_);obtain ⟨b21,y9,z0,z1,z2⟩:=aG.lendSp b0 q .head
         obtain ⟨b22,z3,hm⟩:=aB hm
         refine eP (vs:=[cD a8 0,zS e8 ([2,3]:List Int).length 2]) (caps:=[]) (us:=[cD a8 0,zS e8 ([2,3]:List Int).length 2]) rfl call112 rfl rfl (bP k z3 z1 (i7.mono (zL q y9)) z0) ?_
         rintro _ b23 ⟨rfl,z4⟩
         have e9:=z2 _ _ z4
         refine bR (aE ⟨fun _=>⟨_,e9⟩,?_⟩)
         obtain ⟨z5,z6,hm⟩:=aB hm
         exact eQ (i:=14) rfl (by kernel_rfl) ⟨_,e9⟩ (fun _ _=>eA rfl rfl z6) (eQ (i:=15) rfl (by kernel_rfl) ⟨_,e9⟩ (fun _ _=>dM (v:=str z5) rfl) (vW (by kernel_rfl) aF))
       ·refine aP e4 rfl (aL (aC (dP rfl rfl) (aI (v:=zB (b.val.Kind == 8)) (aM ?_))))
        rcases aJ hm with ⟨j0,hm⟩|⟨j0,hm⟩
        ·refine aR j0 rfl (aH (bB [] (fun f w=>∃ j1,aDv j1=some R/\f 2=str j1/\aG G K (L) w) aF ?_));obtain ⟨f0,r,z7,z8,b24⟩:=aG.lendBp u .head
         refine aEd (C:=fun w'=>∃ L',aG G f0 L' w') [] Tryz_mixed (by kernel_rfl) (fun b25 z9=>?_)
         have h:=aG.mono z8 z9
         refine eQ (i:=0) rfl (by kernel_rfl) ⟨_,h⟩ (fun _ _=>bG (t':=1) aNb rfl rfl) (eQ (i:=1) rfl (by kernel_rfl) ⟨_,h⟩ (fun _ ⟨_,h⟩=>bY (t:=1) gH h z7 rfl rfl) (eQ (i:=5) rfl (by kernel_rfl) ⟨_,h⟩ (fun _ _=>aZ (v:=Value.func (.func 112) #[] #[]) rfl) (eQ (i:=6) rfl (by kernel_rfl) ⟨_,h⟩ (fun _ _=>aZ (v:=cD a1 0) rfl) (eQ (i:=7) rfl (by kernel_rfl) ⟨_,h⟩ (fun _ _=>dA rfl (a.mono r)) (eQ (i:=8) rfl (by kernel_rfl) ⟨_,h⟩ (fun _ _=>cB (k':=0+4) qO rfl (a.mono r) rfl) (eQ (i:=9) rfl (by kernel_rfl) ⟨_,h⟩ (fun _ ⟨_,h⟩=>bY (t:=4) aDM h (a.mono r) rfl rfl) ?_))))))
         obtain ⟨b26,j2,hm⟩:=aB hm
         refine eQ (i:=10) rfl (by kernel_rfl) ⟨_,h⟩ (fun _ _=>cK aCd rfl (l.mono r) rfl rfl rfl j2) ?_;obtain ⟨b27,a00,a01⟩:=aX.el (sz:=1) rfl l j2
         obtain ⟨b1,rfl,j3⟩:=a01
         refine eQ (i:=11) rfl (by kernel_rfl) ⟨_,h⟩ (fun _ ⟨_,h⟩=>bY (t:=0) aEY h (a00.mono r) rfl rfl) (aHn (i:=2) (j:=12) (by kernel_rfl) rfl rfl ?_ ?_)
         ·obtain ⟨b28,a02,hm⟩:=aB hm
          refine aW (vs:=[i64 b.val.Variable]) call53 rfl (nP h a02) ?_
          rintro _ b29 ⟨rfl,b2⟩
          refine bR (aE ⟨fun _=>⟨_,b2⟩,?_⟩)
          obtain ⟨b30,a03,hm⟩:=aB hm
          refine eQ (i:=3) rfl (by kernel_rfl) ⟨_,b2⟩ (fun _ _=>eA rfl rfl a03) ?_;obtain ⟨b31,a04,hm⟩:=aB hm
          refine eQ (i:=4) rfl (by kernel_rfl) ⟨_,b2⟩ (fun _ _=>eA rfl rfl a04) (iC (i:=12) (by kernel_rfl) rfl (dH (Kt:=K) (xs:=([2,3]:List Int)) (cs:=[i64 2,i64 3]) (vs:=[(0,i64 2),(1,i64 3)]) dW yK rfl rfl b2 rfl (by kernel_rfl) rfl rfl rfl ⟨rfl,rfl,trivial⟩ (fun f1 a05 (j4:aG G f0 (aV 2 K f1 2 ([2,3]:List Int)::L) a05)=>(bR (aE ⟨fun _=>⟨_,j4⟩,?_⟩)))))
          refine iC (i:=13) (by kernel_rfl) rfl ?_;obtain ⟨b32,a06,a07,a08,a09⟩:=aG.lendSp j4 r .head
          obtain ⟨b33,a10,hm⟩:=aB hm
          refine eP (vs:=[cD b1 0,zS f1 ([2,3]:List Int).length 2]) (caps:=[]) (us:=[cD b1 0,zS f1 ([2,3]:List Int).length 2]) rfl call112 rfl rfl (bP k a10 a08 (j3.mono (zL r a06)) a07) ?_
          rintro _ b34 ⟨rfl,a11⟩
          have f2:=a09 _ _ a11
          refine bR (aE ⟨fun _=>⟨_,f2⟩,?_⟩)
          obtain ⟨a12,a13,hm⟩:=aB hm
          exact eQ (i:=14) rfl (by kernel_rfl) ⟨_,f2⟩ (fun _ _=>eA rfl rfl a13) (eQ (i:=15) rfl (by kernel_rfl) ⟨_,f2⟩ (fun _ _=>dM (v:=str a12) rfl) (vW (by kernel_rfl) aF))
         ·refine dH (Kt:=K) (xs:=([2,3]:List Int)) (cs:=[i64 2,i64 3]) (vs:=[(0,i64 2),(1,i64 3)]) dW yK rfl rfl h rfl (by kernel_rfl) rfl rfl rfl ⟨rfl,rfl,trivial⟩ (fun f3 a14 (j5:aG G f0 (aV 2 K f3 2 ([2,3]:List Int)::L) a14)=>(bR (aE ⟨fun _=>⟨_,j5⟩,?_⟩)))
          refine iC (i:=2) (by kernel_rfl) rfl ?_;obtain ⟨b35,a15,hm⟩:=aB hm
          refine aW (vs:=[i64 b.val.Variable]) call53 rfl (nP j5 a15) ?_
          rintro _ b36 ⟨rfl,b3⟩
          refine bR (aE ⟨fun _=>⟨_,b3⟩,?_⟩)
          obtain ⟨b37,a16,hm⟩:=aB hm
          refine eQ (i:=3) rfl (by kernel_rfl) ⟨_,b3⟩ (fun _ _=>eA rfl rfl a16) ?_;obtain ⟨b38,a17,hm⟩:=aB hm
          refine eQ (i:=4) rfl (by kernel_rfl) ⟨_,b3⟩ (fun _ _=>eA rfl rfl a17) (iC (i:=13) (by kernel_rfl) rfl ?_);obtain ⟨b39,a18,a19,a20,a21⟩:=aG.lendSp b3 r .head
          obtain ⟨b40,a22,hm⟩:=aB hm
          refine eP (vs:=[cD b1 0,zS f3 ([2,3]:List Int).length 2]) (caps:=[]) (us:=[cD b1 0,zS f3 ([2,3]:List Int).length 2]) rfl call112 rfl rfl (bP k a22 a20 (j3.mono (zL r a18)) a19) ?_
          rintro _ b41 ⟨rfl,a23⟩
          have f4:=a21 _ _ a23
          refine bR (aE ⟨fun _=>⟨_,f4⟩,?_⟩)
          obtain ⟨a24,a25,hm⟩:=aB hm
          exact eQ (i:=14) rfl (by kernel_rfl) ⟨_,f4⟩ (fun _ _=>eA rfl rfl a25) (eQ (i:=15) rfl (by kernel_rfl) ⟨_,f4⟩ (fun _ _=>dM (v:=str a24) rfl) (vW (by kernel_rfl) aF))
        ·exact aF
theorem yC (n:Nat):∀ {G:kE} {K:Hp} {L:List eV} {w:World} {c:(Tr bI)} {a1:Option Addr} {R:aK} (hm:eC n c=some R) (a:aG G K (L) w) (b:trd K c a1),
  Calls prog 56 ([cD a1 0]:List Value).toArray w (cJ fun v w'=>v=str R/\aG G K (L) w'):=by
 induction n with
 |zero=>
  intro G K L w c a1 R hm a b
  unfold eC at hm
  cases hm
 |succ n ih=>
  intro G K L w c a1 R hm a b
  exact yB (rec_:=eC n) (fun hm a b=>ih hm a b) hm a b
theorem aIb {x_:(Tr bI)} {R:aK} (hm:aCF x_=some R) (hs:aG G K (L) w) (h2:trd K x_ a1):
  Calls prog 56 ([cD a1 0]:List Value).toArray w (cJ fun v w'=>v=str R/\aG G K (L) w'):=yC 100000 hm hs h2
theorem aJh {a:(List bI)} {R:aK} (hm:pL a=some R) (b:aG G K (L) w) (c:G.lo=0) (d:aX K a1 c2 a):
  Calls prog 24 ([zS a1 a.length c2]:List Value).toArray w (cJ fun v w'=>v=str R/\aG G K (L) w'):=by
 exact aF
theorem xS {d:Definition} {R:Bool} (hm:xE d=some R) (a:aG G K (L) w) (b:aX K a1 c2 d.Body):
  Calls prog 229 ([zA #[str d.Name,i64 d.Parameters,zS a1 d.Body.length c2]]:List Value).toArray w (cJ fun v w'=>v=zB R/\aG G K (L) w'):=by
 exact aF
theorem jF {b:(List Definition)} {R:Int} (hm:cV b=some R) (q:aG G K (L) w) (g:aX K a1 c2 b):
  Calls prog 230 ([zS a1 b.length c2,Value.func (.func 229) #[] #[]]:List Value).toArray w (cJ fun v w'=>v=i64 R/\aG G K (L) w'):=by
 refine aN func230 rfl (by kernel_rfl) (by show (2:Nat)<=19;decide) ?_;unfold cV at hm
 refine aL (aI (v:=i64 0) (aM (aH (aL (aO (v:=zS a1 b.length c2) (aC (aU (len:=b.length) qN rfl) (aO (v:=i64 0) (aM (aQ [] (fun f w=>fJ=some R/\aG G K (L) w) aF ?_)))))))));obtain ⟨r,l,ho⟩:=aB hm
 refine bS [0,1,7] l (fun c f w=>f 8=i64 c/\aG G K (L) w) aF ?_
 ·rintro c u f x hm hr ⟨h,i⟩
  unfold bZ at hm
  refine aL (aC (dJ h rfl) (aM (aH ?_)))
  rcases aJ hm with ⟨j,hm⟩|⟨j,hm⟩
  ·refine aR j rfl (aT (aE (aH (bJ (aL (bO h (aI (v:=i64 c) (aM (aL (aO (v:=Value.func (.func 229) #[] #[]) (aO (v:=zS a1 b.length c2) (aO (v:=i64 c) ?_))))))))))));obtain ⟨a,k,hm⟩:=aB hm
   refine aC (cK qN rfl g rfl rfl rfl k) ?_;obtain ⟨y,m,n⟩:=aX.el (sz:=3) rfl g k
   obtain ⟨d,e,rfl,o⟩:=n
   refine aC (dQ (t:=0) (vs:=[str a.Name,i64 a.Parameters,zS d a.Body.length e]) aEX i m rfl rfl rfl) ?_;obtain ⟨z,p,hm⟩:=aB hm
   exact eP (vs:=[zA #[str a.Name,i64 a.Parameters,zS d a.Body.length e]]) (caps:=[]) (us:=[zA #[str a.Name,i64 a.Parameters,zS d a.Body.length e]]) rfl call229 rfl rfl (xS p i o) aF
  ·exact aF
theorem iN {a:(List Definition)} {R:Bool} (hm:cN a=some R) (b:aG G K (L) w) (c:aX K a1 c2 a):
  Calls prog 228 ([zS a1 a.length c2,Value.func (.func 229) #[] #[]]:List Value).toArray w (cJ fun v w'=>v=zB R/\aG G K (L) w'):=by
 exact aF
theorem aIc {a:(List Definition)} {R:Bool} (hm:xF a=some R) (b:aG G K (L) w) (c:aX K a1 c2 a):
  Calls prog 192 ([zS a1 a.length c2]:List Value).toArray w (cJ fun v w'=>v=zB R/\aG G K (L) w'):=by
 exact aF
theorem sO {d:Definition} {p:aK} {a:Nat} {R:Bool} (hm:rA d p=some R) (b:aG G K (L) w) (c:aX K a1 c2 d.Body) (e:eM K a4 a [str p]):
  Calls prog 231 ([zA #[str d.Name,i64 d.Parameters,zS a1 d.Body.length c2],cD a4 a]:List Value).toArray w (cJ fun v w'=>v=zB R/\aG G K (L) w'):=by
 exact aF
theorem fB {b:(List Definition)} {h:aK} {c:Nat} {R:Int} (hm:cO b h=some R) (x:aG G K (L) w) (i:aX K a1 c2 b) (n:eM K a4 c [str h]):
  Calls prog 230 ([zS a1 b.length c2,Value.func (.func 231) #[] #[cD a4 c]]:List Value).toArray w (cJ fun v w'=>v=i64 R/\aG G K (L) w'):=by
 refine aN func230 rfl (by kernel_rfl) (by show (2:Nat)<=19;decide) ?_;unfold cO at hm
 refine aL (aI (v:=i64 0) (aM (aH (aL (aO (v:=zS a1 b.length c2) (aC (aU (len:=b.length) qN rfl) (aO (v:=i64 0) (aM (aQ [] (fun f w=>fE=some R/\aG G K (L) w) aF ?_)))))))));obtain ⟨y,o,ho⟩:=aB hm
 refine bS [0,1,7] o (fun d f w=>f 8=i64 d/\aG G K (L) w) aF ?_
 ·rintro d z f J hm hr ⟨j,k⟩
  unfold bV at hm
  refine aL (aC (dJ j rfl) (aM (aH ?_)))
  rcases aJ hm with ⟨l,hm⟩|⟨l,hm⟩
  ·refine aR l rfl (aT (aE (aH (bJ (aL (bO j (aI (v:=i64 d) (aM (aL (aO (v:=Value.func (.func 231) #[] #[cD a4 c]) (aO (v:=zS a1 b.length c2) (aO (v:=i64 d) ?_))))))))))));obtain ⟨a,m,hm⟩:=aB hm
   refine aC (cK qN rfl i rfl rfl rfl m) ?_;obtain ⟨V,p,q⟩:=aX.el (sz:=3) rfl i m
   obtain ⟨e,g,rfl,r⟩:=q
   refine aC (dQ (t:=0) (vs:=[str a.Name,i64 a.Parameters,zS e a.Body.length g]) aEX k p rfl rfl rfl) ?_;obtain ⟨Z,u,hm⟩:=aB hm
   exact eP (vs:=[zA #[str a.Name,i64 a.Parameters,zS e a.Body.length g]]) (caps:=[cD a4 c]) (us:=[zA #[str a.Name,i64 a.Parameters,zS e a.Body.length g],cD a4 c]) rfl call231 rfl rfl (sO u k r n) aF
  ·exact aF
theorem xT {a:(List Definition)} {b:aK} {R:Int} (hm:mB a b=some R) (d:aG G K (L) w) (e:aX K a1 c2 a):
  Calls prog 193 ([zS a1 a.length c2,str b]:List Value).toArray w (cJ fun v w'=>v=i64 R/\aG G K (L) w'):=by
 refine aN func193 rfl (by kernel_rfl) (by show (2:Nat)<=8;decide) ?_;unfold mB at hm
 refine aL (eO (v:=str b) (vs:=[str b]) d rfl rfl (fun c l g=>(aI (v:=i64 0) (aM (aL (aO (v:=zS a1 a.length c2) (aC (yG (vs:=[zP (some ⟨c,0,none⟩)]) rfl) ?_)))))));obtain ⟨m,h,i,j,n⟩:=aG.lendBp g .head
 obtain ⟨o,k,hm⟩:=aB hm
 exact aW (vs:=[zS a1 a.length c2,Value.func (.func 231) #[] #[cD (some ⟨c,0,none⟩) 0]]) call230 rfl (fB k j (e.mono h) i) aF
theorem aCO {p:bH} {R:Int} (hm:tP p=some R) (b:aG G K (L) w) (d:aX K a1 c2 p.Arguments):
  Calls prog 264 ([zA #[i64 p.Kind,i64 p.Number,str p.Name,zS a1 p.Arguments.length c2]]:List Value).toArray w (cJ fun v w'=>v=i64 R/\aG G K (L) w'):=by
 refine aN func264 rfl (by kernel_rfl) (by show (1:Nat)<=11;decide) ?_;unfold tP at hm
 exact aL (eO (v:=zA #[i64 p.Kind,i64 p.Number,str p.Name,zS a1 p.Arguments.length c2]) (vs:=[i64 p.Kind,i64 p.Number,str p.Name,zS a1 p.Arguments.length c2]) b rfl rfl (fun e g c=>(aI (v:=i64 0) (aM (aH (aL (aC (bG (t':=0) oQ rfl rfl) (aC (cX gH c (i:=0) rfl rfl rfl) (aM (bJ (gC [4] (fun f w=>∃ a,sC p a=some R/\f 5=zB a/\aG G K (L) w) aF aF)))))))))))
theorem aGi {d:Definition} {part R:Int} (hm:kY d part=some R) (c:aG G K (L) w) (j:aX K a1 c2 d.Body):
  Calls prog 232 ([zA #[str d.Name,i64 d.Parameters,zS a1 d.Body.length c2],i64 part]:List Value).toArray w (cJ fun v w'=>v=i64 R/\aG G K (L) w'):=by
 let a:=[str d.Name,i64 d.Parameters,zS a1 d.Body.length c2]
 refine aN func232 rfl (by kernel_rfl) (by show (2:Nat)<=25;decide) ?_;unfold kY at hm
 refine aL (eO (v:=zA #[str d.Name,i64 d.Parameters,zS a1 d.Body.length c2]) (vs:=a) c rfl rfl (fun e k l=>(aI (v:=i64 0) (aM (aH (aL (aI (v:=i64 1) (aM (aQ [] (fun f w=>∃ b,mM b=some R/\f 1=i64 b/\aG G K (L) w) aF ?_)))))))));obtain ⟨m,g,ho⟩:=aB hm
 exact cA [2] g (fun h i f w=>f 1=i64 h/\f 5=i64 i/\aG G K (box e 151 a::L) w) aF aF
theorem nR {rec_:Int->dK->(List dK)->Definition->Definition->Option (Int × (List dK))} (ih:∀ {G:kE} {K:Hp} {L:List eV} {w:World} {d:Int} {p:dK} {b1:Nat} {k:(List dK)} {a2:Option Addr} {c3:Nat} {c:Definition} {a4:Option Addr} {q:Nat} {a7:Option Addr} {c8:Nat} {a10:Option Addr} {g:Nat} {b:Definition} {a13:Option Addr} {n:Nat} {a16:Option Addr} {c17:Nat} {R:(Int × (List dK))} (hm:rec_ d p k c b=some R) (hs:aG G K (aV 293 K a2 c3 k::box b1 289 [zS a2 k.length c3]::L) w) (h6:eM K a4 q [str c.Name,i64 c.Parameters,zS a7 c.Body.length c8]) (h9:aX K a7 c8 c.Body) (a5:eM K a10 g [Value.func (.func 265) #[] #[zP (some ⟨b1,0,none⟩),cD a13 n,cD a10 g]]) (a6:eM K a13 n [str b.Name,i64 b.Parameters,zS a16 b.Body.length c17]) (a8:aX K a16 c17 b.Body),
  Calls prog 265 ([i64 d,zA #[i64 p.scope,zB p.behind],zP (some ⟨b1,0,none⟩),cD a4 q,cD a10 g]:List Value).toArray w (cJ fun v w'=>∃ r u,v=i64 R.1/\aG G K (aV 293 K r u R.2::box b1 289 [zS r R.2.length u]::L) w'))
  {G:kE} {K:Hp} {L:List eV} {w:World} {d:Int} {p:dK} {b1:Nat} {k:(List dK)} {a2:Option Addr} {c3:Nat} {c:Definition} {a4:Option Addr} {q:Nat} {a7:Option Addr} {c8:Nat} {a10:Option Addr} {g:Nat} {b:Definition} {a13:Option Addr} {n:Nat} {a16:Option Addr} {c17:Nat} {R:(Int × (List dK))} (hm:dR rec_ d p k c b=some R) (hs:aG G K (aV 293 K a2 c3 k::box b1 289 [zS a2 k.length c3]::L) w) (h6:eM K a4 q [str c.Name,i64 c.Parameters,zS a7 c.Body.length c8]) (h9:aX K a7 c8 c.Body) (a5:eM K a10 g [Value.func (.func 265) #[] #[zP (some ⟨b1,0,none⟩),cD a13 n,cD a10 g]]) (a6:eM K a13 n [str b.Name,i64 b.Parameters,zS a16 b.Body.length c17]) (a8:aX K a16 c17 b.Body):
  Calls prog 265 ([i64 d,zA #[i64 p.scope,zB p.behind],zP (some ⟨b1,0,none⟩),cD a4 q,cD a10 g]:List Value).toArray w (cJ fun v w'=>∃ r u,v=i64 R.1/\aG G K (aV 293 K r u R.2::box b1 289 [zS r R.2.length u]::L) w'):=by
 let o:=[i64 p.scope,zB p.behind]
 refine aN func265 rfl (by kernel_rfl) (by show (5:Nat)<=45;decide) ?_;unfold dR at hm
 refine aL (eO (v:=zA #[i64 p.scope,zB p.behind]) (vs:=o) hs rfl rfl (fun J e5 V=>(aI (v:=i64 0) (aM (aL (aC (cX sc_289 V (i:=2) rfl rfl rfl) (aO (v:=i64 d) (aC (jN (us:=o) ag_293 V (i:=0) rfl rfl rfl rfl) ?_))))))));obtain ⟨e6,a9,hm⟩:=aB hm
 have c9:=eG V (i:=1) rfl a9
 refine aC (iU sl_289 rfl c9 rfl rfl rfl a9) ?_;obtain ⟨e,b7,hm⟩:=aB hm
 refine aDK (i:=1) (t:=0) (ns:=o) (e':=(⟨p.scope,p.behind⟩:dK)) sizeOf293 V rfl (zR _) rfl rfl rfl a9 b7 rfl rfl (jY rfl) rfl (fun cs h=>by cases h;rfl) (fun b8 (d0:aG G K (box J 293 o::aV 293 K a2 c3 e::box b1 289 [zS a2 k.length c3]::L) b8)=>?_)
 have b0:aG G K (box J 293 o::aV 293 K a2 c3 e::box b1 289 [zS a2 e.length c3]::L) b8:=by rw [←(uS b7)];exact d0
 refine aM (aL (aC (cB (k':=q+2) aCb rfl h6 rfl) (aC (bY (t:=2) yL b0 h6 rfl rfl) (aO (v:=i64 d) ?_))));obtain ⟨a,b9,hm⟩:=aB hm
 refine aC (cK lO rfl h9 rfl rfl rfl b9) ?_;obtain ⟨e7,d1,d2⟩:=aX.el (sz:=4) rfl h9 b9
 obtain ⟨l,m,rfl,d3⟩:=d2
 refine aC (dQ (t:=0) (vs:=[i64 a.Kind,i64 a.Number,str a.Name,zS l a.Arguments.length m]) yM b0 d1 rfl rfl rfl) (dV (vs:=[i64 0,i64 0,str ([]:aK),zS none 0 0]) zeroValue206 b0 rfl (fun b2 e8 d4=>(eW (i:=0) (ns:=[i64 a.Kind,i64 a.Number,str a.Name,zS l a.Arguments.length m]) (us:=[i64 a.Kind,i64 a.Number,str a.Name,zS l a.Arguments.length m]) sizeOf206 d4 rfl rfl rfl rfl rfl (jY rfl) rfl rfl (fun d5 (b3:aG G K (box b2 206 [i64 a.Kind,i64 a.Number,str a.Name,zS l a.Arguments.length m]::box J 293 o::aV 293 K a2 c3 e::box b1 289 [zS a2 e.length c3]::L) d5)=>(aM (aL (aC (bG (t':=0) aRe rfl rfl) (aC (cX gH b3 (i:=1) rfl rfl rfl) (aC (bG (t':=0) oQ rfl rfl) (aC (cX gH b3 (i:=0) rfl rfl rfl) (aC (dP rfl rfl) (aC (aDe (vs:=[(0,i64 p.scope),(1,zB (a.Kind == 1))]) (cs:=[i64 p.scope,zB (a.Kind == 1)]) bs_293 rfl (by kernel_rfl)) (dV (vs:=[i64 0,zB false]) zeroValue293 b3 rfl (fun Z e9 d6=>(eW (i:=0) (ns:=[i64 p.scope,zB (a.Kind == 1)]) (us:=[i64 p.scope,zB (a.Kind == 1)]) sizeOf293 d6 rfl rfl rfl rfl rfl (jY rfl) rfl rfl (fun d7 (f0:aG G K (box Z 293 [i64 p.scope,zB (a.Kind == 1)]::box b2 206 [i64 a.Kind,i64 a.Number,str a.Name,zS l a.Arguments.length m]::box J 293 o::aV 293 K a2 c3 e::box b1 289 [zS a2 e.length c3]::L) d7)=>(aM (gC [0,4,8,9] (fun f w=>∃ j,cW rec_ d b e a j=some R/\aG G K (box Z 293 [i64 j,zB (a.Kind == 1)]::box b2 206 [i64 a.Kind,i64 a.Number,str a.Name,zS l a.Arguments.length m]::aV 293 K a2 c3 e::box b1 289 [zS a2 e.length c3]::L) w) ?_ ?_))))))))))))))))))
 ·rintro f f1 ⟨j,hm,c0⟩
  unfold cW at hm
  refine aL (aO (v:=i64 d) (aC (mQ rfl rfl) (aI (v:=i64 (wr (d+1))) (aM (aH (aL (aC (jN (us:=[i64 a.Kind,i64 a.Number,str a.Name,zS l a.Arguments.length m]) yM c0 (i:=1) rfl rfl rfl rfl) ?_)))))));obtain ⟨f2,d8,hm⟩:=aB hm
  refine aW (vs:=[zA #[i64 a.Kind,i64 a.Number,str a.Name,zS l a.Arguments.length m]]) call264 rfl (aCO d8 c0 d3) ?_
  rintro _ f3 ⟨rfl,f4⟩
  refine aO (v:=i64 0) (aM (aQ [] (fun f w=>∃ c1 b4 c2 c4,iS c1 b4=some R/\f 10=i64 c1/\aG G K (aV 293 K c2 c4 b4::box b1 289 [zS c2 b4.length c4]::L) w) aF ?_));obtain ⟨f5,d9,ho⟩:=aB hm
  refine aBY [4,9,36] d9 (fun a0 c5 x f w=>∃ y z,f 10=i64 a0/\f 37=i64 c5/\aG G K (box Z 293 [i64 j,zB (a.Kind == 1)]::aV 293 K y z x::box b1 289 [zS y x.length z]::L) w) aF ?_
  ·rintro a0 c5 x f6 f e0 hm hr ⟨y,z,e1,e2,b5⟩
   unfold eX at hm
   refine aL (aC (dJ e2 rfl) (aM (aH ?_)))
   rcases aJ hm with ⟨c6,hm⟩|⟨c6,hm⟩
   ·refine aR c6 rfl (aT (aE (aH (bJ (bL (aC (bY (t:=0) sc_325 b5 a5 rfl rfl) (bO e1 (aC (jN (us:=[i64 j,zB (a.Kind == 1)]) ag_293 b5 (i:=0) rfl rfl rfl rfl) ?_))))))))
    have e3:aG G K (aV 293 K y z x::box b1 289 [zS y x.length z]::box Z 293 [i64 j,zB (a.Kind == 1)]::L) e0:=(aG.arr 3 [1,2,0] b5 rfl)
    obtain ⟨f7,e4,hm⟩:=aB hm
    exact eP (vs:=[i64 a0,zA #[i64 j,zB (a.Kind == 1)]]) (caps:=[zP (some ⟨b1,0,none⟩),cD a13 n,cD a10 g]) (us:=[i64 a0,zA #[i64 j,zB (a.Kind == 1)],zP (some ⟨b1,0,none⟩),cD a13 n,cD a10 g]) rfl call265 rfl rfl (ih (p:=⟨j,a.Kind == 1⟩) e4 e3 a6 a8 a5 a6 a8) aF
   ·exact aF
 exact aF
theorem nS (n:Nat):∀ {G:kE} {K:Hp} {L:List eV} {w:World} {l:Int} {p:dK} {b1:Nat} {c:(List dK)} {a2:Option Addr} {c3:Nat} {a:Definition} {a4:Option Addr} {m:Nat} {a7:Option Addr} {c8:Nat} {a10:Option Addr} {d:Nat} {b:Definition} {a13:Option Addr} {o:Nat} {a16:Option Addr} {c17:Nat} {R:(Int × (List dK))} (hm:cI n l p c a b=some R) (e:aG G K (aV 293 K a2 c3 c::box b1 289 [zS a2 c.length c3]::L) w) (g:eM K a4 m [str a.Name,i64 a.Parameters,zS a7 a.Body.length c8]) (h:aX K a7 c8 a.Body) (i:eM K a10 d [Value.func (.func 265) #[] #[zP (some ⟨b1,0,none⟩),cD a13 o,cD a10 d]]) (j:eM K a13 o [str b.Name,i64 b.Parameters,zS a16 b.Body.length c17]) (k:aX K a16 c17 b.Body),
  Calls prog 265 ([i64 l,zA #[i64 p.scope,zB p.behind],zP (some ⟨b1,0,none⟩),cD a4 m,cD a10 d]:List Value).toArray w (cJ fun v w'=>∃ q r,v=i64 R.1/\aG G K (aV 293 K q r R.2::box b1 289 [zS q R.2.length r]::L) w'):=by
 induction n with
 |zero=>
  intro G K L w l p b1 c a2 c3 a a4 m a7 c8 a10 d b a13 o a16 c17 R hm e g h i j k
  unfold cI at hm
  cases hm
 |succ n ih=>
  intro G K L w l p b1 c a2 c3 a a4 m a7 c8 a10 d b a13 o a16 c17 R hm e g h i j k
  exact nR (rec_:=cI n) (fun hm e g h i j k=>ih hm e g h i j k) hm e g h i j k
theorem qI {at_:Int} {p:dK} {p':(List dK)} {p'':Definition} {k5 k11:Nat} {p_c1_:Definition} {k14:Nat} {R:(Int × (List dK))} (hm:oE at_ p p' p'' p_c1_=some R) (hs:aG G K (aV 293 K a2 c3 p'::box b1 289 [zS a2 p'.length c3]::L) w) (h6:eM K a4 k5 [str p''.Name,i64 p''.Parameters,zS a7 p''.Body.length c8]) (h9:aX K a7 c8 p''.Body) (h12:eM K a10 k11 [Value.func (.func 265) #[] #[zP (some ⟨b1,0,none⟩),cD a13 k14,cD a10 k11]]) (h15:eM K a13 k14 [str p_c1_.Name,i64 p_c1_.Parameters,zS a16 p_c1_.Body.length c17]) (h18:aX K a16 c17 p_c1_.Body):
  Calls prog 265 ([i64 at_,zA #[i64 p.scope,zB p.behind],zP (some ⟨b1,0,none⟩),cD a4 k5,cD a10 k11]:List Value).toArray w (cJ fun v w'=>∃ ra0 rc0,v=i64 R.1/\aG G K (aV 293 K ra0 rc0 R.2::box b1 289 [zS ra0 R.2.length rc0]::L) w'):=nS 100000 hm hs h6 h9 h12 h15 h18
theorem uA {d:Definition} {R:(List dK)} (hm:kI d=some R) (x:aG G K (L) w) (m:aX K a1 c2 d.Body):
  Calls prog 233 ([zA #[str d.Name,i64 d.Parameters,zS a1 d.Body.length c2]]:List Value).toArray w (cJ fun v w'=>∃ n o,v=zS n R.length o/\aG G K (aV 293 K n o R::L) w'):=by
 let j:=[str d.Name,i64 d.Parameters,zS a1 d.Body.length c2]
 refine aN func233 rfl (by kernel_rfl) (by show (1:Nat)<=16;decide) ?_;unfold kI at hm
 refine aL (eO (v:=zA #[str d.Name,i64 d.Parameters,zS a1 d.Body.length c2]) (vs:=j) x rfl rfl (fun b w5 q=>(aI (v:=zS none 0 0) (aM (aL (aC (bG (t':=2) aCb rfl rfl) (aC (cX yL q (i:=0) rfl rfl rfl) (aC (aU (len:=d.Body.length) lO rfl) ?_))))))));obtain ⟨a,y,hm⟩:=aB hm
 refine aIh (e:=(⟨0,false⟩:dK)) sl_289 ez_293 rfl rfl q rfl rfl rfl y rfl (fun g z (J:aG G K (aV 293 K g a.length a::box b 151 j::L) z)=>(dV (vs:=[zS none 0 0]) zeroValue289 J rfl (fun c b1 V=>(eW (i:=0) (ns:=[zS g a.length a.length]) (us:=[zS g a.length a.length]) sizeOf289 V rfl rfl rfl rfl rfl (jY rfl) rfl rfl (fun Z (a0:aG G K (box c 289 [zS g a.length a.length]::aV 293 K g a.length a::box b 151 j::L) Z)=>(aM (aL (dV (vs:=[Value.nilFunc]) zeroValue325 a0 rfl (fun h b2 a2=>(aM (aL (aC (yG (vs:=[zP (some ⟨c,0,none⟩),zP (some ⟨b,0,none⟩),zP (some ⟨h,0,none⟩)]) rfl) (eW (i:=0) (ns:=[Value.func (.func 265) #[] #[zP (some ⟨c,0,none⟩),zP (some ⟨b,0,none⟩),zP (some ⟨h,0,none⟩)]]) (us:=[Value.func (.func 265) #[] #[zP (some ⟨c,0,none⟩),zP (some ⟨b,0,none⟩),zP (some ⟨h,0,none⟩)]]) sizeOf325 a2 rfl rfl rfl rfl rfl (jY rfl) rfl rfl (fun r (l:aG G K (box h 325 [Value.func (.func 265) #[] #[zP (some ⟨c,0,none⟩),zP (some ⟨b,0,none⟩),zP (some ⟨h,0,none⟩)]]::box c 289 [zS g a.length a.length]::aV 293 K g a.length a::box b 151 j::L) r)=>(aM (aL (aC (cX sc_325 l (i:=0) rfl rfl rfl) (aC (bG (t':=1) aNd rfl rfl) (aC (cX gH l (i:=3) rfl rfl rfl) (aC (aDe (vs:=[(0,i64 d.Parameters)]) (cs:=[i64 d.Parameters,zB false]) bs_293 rfl (by kernel_rfl)) ?_))))))))))))))))))))
 obtain ⟨b3,t,u,a3,b5⟩:=aG.lendBp l zt3
 obtain ⟨a4,k,a5,a6,b6⟩:=aG.lendBp a3 .head
 have a7:aG G a4 (aV 293 K g a.length a::box c 289 [zS g a.length a.length]::L) r:=(aG.arr 2 [1,0] a6 rfl)
 obtain ⟨b7,a8,hm⟩:=aB hm
 exact eP (vs:=[i64 0,zA #[i64 d.Parameters,zB false]]) (caps:=[zP (some ⟨c,0,none⟩),cD (some ⟨b,0,none⟩) 0,cD (some ⟨h,0,none⟩) 0]) (us:=[i64 0,zA #[i64 d.Parameters,zB false],zP (some ⟨c,0,none⟩),cD (some ⟨b,0,none⟩) 0,cD (some ⟨h,0,none⟩) 0]) rfl call265 rfl rfl (qI (p:=⟨d.Parameters,false⟩) a8 a7 (u.mono k) (m.mono (zL t k)) (show eM _ _ _ [Value.func (.func 265) #[] #[zP (some ⟨c,0,none⟩),cD (some ⟨b,0,none⟩) 0,cD (some ⟨h,0,none⟩) 0]] from a5) (u.mono k) (m.mono (zL t k))) aF
theorem aQj {i many:Int} {R:Bool} (hm:aBE i many=some R) (a:aG G K (L) w):
  Calls prog 103 ([i64 i,i64 many]:List Value).toArray w (cJ fun v w'=>v=zB R/\aG G K (L) w'):=by
 exact aF
theorem aCP {p:bH} {R:Bool} (hm:tQ p=some R) (g:aG G K (L) w) (h:aX K a1 c2 p.Arguments):
  Calls prog 266 ([zA #[i64 p.Kind,i64 p.Number,str p.Name,zS a1 p.Arguments.length c2]]:List Value).toArray w (cJ fun v w'=>v=zB R/\aG G K (L) w'):=by
 let b:=[i64 p.Kind,i64 p.Number,str p.Name,zS a1 p.Arguments.length c2]
 refine aN func266 rfl (by kernel_rfl) (by show (1:Nat)<=56;decide) ?_;unfold tQ at hm
 refine aL (eO (v:=zA #[i64 p.Kind,i64 p.Number,str p.Name,zS a1 p.Arguments.length c2]) (vs:=b) g rfl rfl (fun d i j=>(aI (v:=zB false) (aM (aH (bB [1] (fun f w=>∃ a,nG p a=some R/\f 3=zB a/\aG G K (box d 206 b::L) w) ?_ ?_))))))
 ·rintro f k ⟨a,hm,l,m⟩
  unfold nG at hm
  refine aE (aH (bB [1,3] (fun f w=>∃ c,kZ p a c=some R/\f 4=zB c/\aG G K (box d 206 b::L) w) ?_ ?_))
  ·rintro f n ⟨c,hm,o,q⟩
   unfold kZ at hm
   exact aE (aH (bB [] (fun f w=>∃ e,eD e=some R/\f 2=zB e/\aG G K (L) w) aF aF))
  exact aF
 exact aF
theorem aBh {p:bH} {a:(List Definition)} {R:Bool} (hm:rB p a=some R) (e:aG G K (L) w) (g:aX K a1 c2 p.Arguments) (h:aX K a4 c5 a):
  Calls prog 267 ([zA #[i64 p.Kind,i64 p.Number,str p.Name,zS a1 p.Arguments.length c2],zS a4 a.length c5]:List Value).toArray w (cJ fun v w'=>v=zB R/\aG G K (L) w'):=by
 refine aN func267 rfl (by kernel_rfl) (by show (2:Nat)<=38;decide) ?_;unfold rB at hm
 refine aL (eO (v:=zA #[i64 p.Kind,i64 p.Number,str p.Name,zS a1 p.Arguments.length c2]) (vs:=[i64 p.Kind,i64 p.Number,str p.Name,zS a1 p.Arguments.length c2]) e rfl rfl (fun j k b=>(aI (v:=zB false) (aM (aL (aC (bG (t':=3) oR rfl rfl) (aC (cX aAW b (i:=0) rfl rfl rfl) (aC (aU (len:=p.Arguments.length) mT rfl) (aI (v:=i64 (p.Arguments.length:Int)) (aM (aH (aL (aC (bG (t':=0) oQ rfl rfl) (aC (cX gH b (i:=0) rfl rfl rfl) (aM (bJ (aL (aC (dP rfl rfl) (aI (v:=zB (p.Kind == 1)) (aM ?_))))))))))))))))))))
 rcases aJ hm with ⟨c,hm⟩|⟨c,hm⟩
 ·exact aR c rfl (aH (bB [] (fun f w=>∃ d,mC d=some R/\f 4=zB d/\aG G K (L) w) aF aF))
 ·exact aF
theorem aAP {t:aS} {R:Int} (hm:uN t=some R) (a:aG G K (L) w):
  Calls prog 275 ([zA #[i64 t.Kind,i64 t.Value]]:List Value).toArray w (cJ fun v w'=>v=i64 R/\aG G K (L) w'):=by
 exact aF
theorem aKH {t:aS} {a:Int} {R:Bool} (hm:aBF t a=some R) (b:aG G K (L) w):
  Calls prog 286 ([zA #[i64 t.Kind,i64 t.Value],i64 a]:List Value).toArray w (cJ fun v w'=>v=zB R/\aG G K (L) w'):=by
 exact aF
theorem aKI {e:(List aS)} {b h:Int} {R:Bool} (hm:xG e b h=some R) (hs:aG G K (L) w) (j:aX K a1 c2 e):
  Calls prog 270 ([zS a1 e.length c2,i64 b,i64 h]:List Value).toArray w (cJ fun v w'=>v=zB R/\aG G K (L) w'):=by
 refine aN func270 rfl (by kernel_rfl) (by show (3:Nat)<=47;decide) ?_;unfold xG at hm
 refine aL (aI (v:=zB false) (aM (aH (aH (bB [0,1] (fun f w=>∃ c,lR e b c=some R/\f 24=zB c/\aG G K (L) w) ?_ ?_)))))
 ·rintro f w6 ⟨c,hm,u,a3⟩
  unfold lR at hm
  refine aE ?_
  rcases aJ hm with ⟨k,hm⟩|⟨k,hm⟩
  ·exact aF
  ·refine aP k u (aT (aE (aL (aI (v:=i64 1) (aM (aH (aL (aO (v:=zS a1 e.length c2) (aC (aU (len:=e.length) nW rfl) (aO (v:=i64 0) (aM (aQ [] (fun f w=>∃ l,aFR l=some R/\f 7=i64 l/\aG G K (L) w) aF ?_))))))))))));obtain ⟨a4,x,ho⟩:=aB hm
   refine cA [1,25,26] x (fun d g f w=>f 7=i64 d/\f 27=i64 g/\aG G K (L) w) aF ?_
   ·rintro d g y f a5 hm hr ⟨a6,m,n⟩
    unfold oW at hm
    refine aL (aC (dJ m rfl) (aM (aH ?_)))
    rcases aJ hm with ⟨o,hm⟩|⟨o,hm⟩
    ·refine aR o rfl (aT (aE (aH (bJ (aL ?_)))));obtain ⟨a,p,hm⟩:=aB hm
     refine aC (cK nW rfl j rfl rfl m p) ?_;obtain ⟨a7,z,J⟩:=aX.el (sz:=2) rfl j p
     cases J
     exact aC (dQ (t:=0) (vs:=[i64 a.Kind,i64 a.Value]) aIT n z rfl rfl rfl) (dV (vs:=[i64 0,i64 0]) zeroValue242 n rfl (fun q a8 V=>(eW (i:=0) (ns:=[i64 a.Kind,i64 a.Value]) (us:=[i64 a.Kind,i64 a.Value]) sizeOf242 V rfl rfl rfl rfl rfl (jY rfl) rfl rfl (fun Z (a9:aG G K (box q 242 [i64 a.Kind,i64 a.Value]::L) Z)=>(aM (aH (aH (bB [1,7,9,25,26,27] (fun f w=>∃ r,uO d g a r=some y/\f 38=zB r/\aG G K (box q 242 [i64 a.Kind,i64 a.Value]::L) w) aF aF))))))))
    ·exact aF
 exact aF
theorem yD {e:(List aS)} {p:dK} {a:Nat} {R:Bool} (hm:zF e p=some R) (b:aG G K (L) w) (c:aX K a1 c2 e) (d:eM K a4 a [i64 p.scope,zB p.behind]):
  Calls prog 269 ([zS a1 e.length c2,cD a4 a]:List Value).toArray w (cJ fun v w'=>v=zB R/\aG G K (L) w'):=by
 exact aF
end Gv
