/- Walks, printed by program. -/
import Derived.Test.YtffnhnhfedmjcaaGreatDoorJWk1
set_option linter.all false
namespace Gv
open Gv.Hp renaming le_refl→zR
open Go.Value renaming slice→zS,bool→zB,agg→zA
open Option.some renaming inj→zI
open Gv.Hp renaming le_trans→zL
open Go Go.Proofs Go.Proofs.Tryz
set_option maxRecDepth 20000
set_option maxHeartbeats 40000000
variable {G:yU} {K:Hp} {L:List jN} {w:World} {a1 a4 a7 a10:Option Addr} {c2 c5 c8 c11:Nat}
theorem aFG {r:(List UInt8)} {R:(aO × (List Int))} (hm:aCQ r=some R) (hs:aD G K (L) w) (h3:bE K a1 c2 r):
  Calls prog 5 ([zS a1 r.length c2]:List Value).toArray w (eQ fun v w'=>∃ K' e1 e2 e3 e4 e5 e6 e7 e8 e9 f0,v=Value.tuple #[zA #[zS e1 R.1.Parts.length e2,zS e3 R.1.Meetings.length e4,zS e5 R.1.Allowed.length e6,zS e7 R.1.Hidden.length e8],zS e9 R.2.length f0]/\Hp.le K K'/\bE K' e1 e2 R.1.Parts/\bE K' e3 e4 R.1.Meetings/\bE K' e5 e6 R.1.Allowed/\bE K' e7 e8 R.1.Hidden/\bE K' e9 f0 R.2/\aD G K' (L) w'):=by
 let u:=[zS none 0 0,zS none 0 0,zS none 0 0,zS none 0 0]
 refine aFe func5 ?_;unfold aCQ at hm
 refine aCk ?_;refine aFm fun q w5 g4=>?_
 refine aCk ?_;obtain ⟨r7,q8,hm⟩:=aB hm
 refine aED call12 (aHe q8 g4 h3) ?_
 rintro _ l9 ⟨b9,rfl,g6⟩
 refine aCk ?_;obtain ⟨a,g7,hm⟩:=aB hm
 refine aED call13 (aFF g7 g6 h3) ?_
 rintro _ m0 ⟨f1,m1,m2,g,j,d,e,b,c,rfl,a5,m3⟩
 refine aFm fun p m4 m5=>?_;refine aJz fun m6 m7=>?_
 refine aCk ?_;refine aU [2,4,5] (fun f w=>∃ t a3 a4 b0 b1 b2,Hp.le f1 t/\xY r a a3 a4 b0=some R/\aD G t (aG 35 t b1 b2 b0::box p 28 [zS b1 b0.length b2,zS g a.1.Meetings.length j,zS d a.1.Allowed.length e,zS b a.1.Hidden.length c]::aG 69 K g j a.1.Meetings::aG 9 K d e a.1.Allowed::aG 9 K b c a.1.Hidden::box b9 67 [zS a1 r.length c2,i64 a3,Value.int .u64 a4]::box q 28 u::L) w) ?_ ?_
 ·rintro f g8 ⟨t,a3,a4,b0,b1,b2,a9,hm,f2⟩
  unfold xY at hm
  iterate 1 refine aFl ?_
  refine tS [2,4,5] (fun f w=>∃ k l m,uB r a a3 a4 k=some R/\aD G t (aG 35 t l m k::box p 28 [zS l k.length m,zS g a.1.Meetings.length j,zS d a.1.Allowed.length e,zS b a.1.Hidden.length c]::aG 69 K g j a.1.Meetings::aG 9 K d e a.1.Allowed::aG 9 K b c a.1.Hidden::box b9 67 [zS a1 r.length c2,i64 a3,Value.int .u64 a4]::box q 28 u::L) w) ?_ ?_
  ·rintro f m8 ⟨k,l,m,hm,m9⟩
   unfold uB at hm
   refine aCk ?_;refine aKc ([]:List Int) fun n0 n1 n2=>?_
   refine aCk ?_;refine aU [2,4,5] (fun f w=>∃ b3 J V,aBK r a a3 a4 k b3=some R/\f 6=zS J b3.length V/\aD G t (aG 2 K J V b3::aG 35 t l m k::box p 28 [zS l k.length m,zS g a.1.Meetings.length j,zS d a.1.Allowed.length e,zS b a.1.Hidden.length c]::aG 69 K g j a.1.Meetings::aG 9 K d e a.1.Allowed::aG 9 K b c a.1.Hidden::box b9 67 [zS a1 r.length c2,i64 a3,Value.int .u64 a4]::box q 28 u::L) w) ?_ ?_
   ·rintro f g9 ⟨b3,J,V,hm,n3,n4⟩
    unfold aBK at hm
    refine aCk ?_
    have h0:aD G t (box b9 67 [zS a1 r.length c2,i64 a3,Value.int .u64 a4]::aG 2 K J V b3::aG 35 t l m k::box p 28 [zS l k.length m,zS g a.1.Meetings.length j,zS d a.1.Allowed.length e,zS b a.1.Hidden.length c]::aG 69 K g j a.1.Meetings::aG 9 K d e a.1.Allowed::aG 9 K b c a.1.Hidden::box q 28 u::L) g9:=aKa
    obtain ⟨n5,h1,hm⟩:=aB hm
    refine aED call15 (gT h1 h0 (h3.mono (zL a5 a9))) ?_
    rintro _ n6 ⟨rfl,n7⟩
    refine aCk ?_;refine aU [2,5] (fun f w=>∃ a6,aBI a k a6=some R/\f 6=zS J a6.length V/\aD G t (aG 2 K J V a6::aG 35 t l m k::box p 28 [zS l k.length m,zS g a.1.Meetings.length j,zS d a.1.Allowed.length e,zS b a.1.Hidden.length c]::aG 69 K g j a.1.Meetings::aG 9 K d e a.1.Allowed::aG 9 K b c a.1.Hidden::box q 28 u::L) w) ?_ ?_
    ·rintro f n8 ⟨a6,hm,n9,o0⟩
     unfold aBI at hm
     refine aCk ?_;refine aJz fun b5 h2=>?_
     refine aCk ?_;obtain ⟨h4,b6,h5,c9⟩:=aD.giveSp h2 (Hp.le_refl _) zt1
     replace c9:aD G h4 (aG 2 K J V a6::box p 28 [zS l k.length m,zS g a.1.Meetings.length j,zS d a.1.Allowed.length e,zS b a.1.Hidden.length c]::aG 69 K g j a.1.Meetings::aG 9 K d e a.1.Allowed::aG 9 K b c a.1.Hidden::box q 28 [zS l k.length m,zS g a.1.Meetings.length j,zS d a.1.Allowed.length e,zS b a.1.Hidden.length c]::L) b5:=c9
     obtain ⟨h6,b7,h7,d0⟩:=aD.giveSp c9 (zL (zL a5 a9) b6) zt2
     replace d0:aD G h6 (aG 2 K J V a6::box p 28 [zS l k.length m,zS g a.1.Meetings.length j,zS d a.1.Allowed.length e,zS b a.1.Hidden.length c]::aG 9 K d e a.1.Allowed::aG 9 K b c a.1.Hidden::box q 28 [zS l k.length m,zS g a.1.Meetings.length j,zS d a.1.Allowed.length e,zS b a.1.Hidden.length c]::L) b5:=d0
     obtain ⟨h8,b8,h9,d1⟩:=aD.giveSp d0 (zL (zL (zL a5 a9) b6) b7) zt2
     replace d1:aD G h8 (aG 2 K J V a6::box p 28 [zS l k.length m,zS g a.1.Meetings.length j,zS d a.1.Allowed.length e,zS b a.1.Hidden.length c]::aG 9 K b c a.1.Hidden::box q 28 [zS l k.length m,zS g a.1.Meetings.length j,zS d a.1.Allowed.length e,zS b a.1.Hidden.length c]::L) b5:=d1
     obtain ⟨i0,c0,i1,d2⟩:=aD.giveSp d1 (zL (zL (zL (zL a5 a9) b6) b7) b8) zt2
     replace d2:aD G i0 (aG 2 K J V a6::box p 28 [zS l k.length m,zS g a.1.Meetings.length j,zS d a.1.Allowed.length e,zS b a.1.Hidden.length c]::box q 28 [zS l k.length m,zS g a.1.Meetings.length j,zS d a.1.Allowed.length e,zS b a.1.Hidden.length c]::L) b5:=d2
     obtain ⟨f3,c1,i2,d3⟩:=aD.giveSp d2 (zL (zL (zL (zL (zL a5 a9) b6) b7) b8) c0) .head
     replace d3:aD G f3 (box p 28 [zS l k.length m,zS g a.1.Meetings.length j,zS d a.1.Allowed.length e,zS b a.1.Hidden.length c]::box q 28 [zS l k.length m,zS g a.1.Meetings.length j,zS d a.1.Allowed.length e,zS b a.1.Hidden.length c]::L) b5:=d3
     obtain rfl:=zI hm
     exact nY (aKJ results5 (aCJ (vs:=[zS l k.length m,zS g a.1.Meetings.length j,zS d a.1.Allowed.length e,zS b a.1.Hidden.length c]) rfl uR d3 (i:=1) rfl rfl rfl) (aFg rfl rfl) ⟨f3,l,m,g,j,d,e,b,c,J,V,rfl,(zL (zL (zL (zL (zL (zL a5 a9) b6) b7) b8) c0) c1),(h5.mono (zL (zL (zL b7 b8) c0) c1)),(h7.mono (zL (zL b8 c0) c1)),(h9.mono (zL c0 c1)),(i1.mono c1),i2,aKa⟩)
    obtain ⟨o1,i4,ho⟩:=aB hm
    refine cQ [2,5] i4 (fun d4 f4 f w=>f 6=zS J d4.length V/\f 8=i64 f4/\aD G t (aG 2 K J V d4::aG 35 t l m k::box p 28 [zS l k.length m,zS g a.1.Meetings.length j,zS d a.1.Allowed.length e,zS b a.1.Hidden.length c]::aG 69 K g j a.1.Meetings::aG 9 K d e a.1.Allowed::aG 9 K b c a.1.Hidden::box q 28 u::L) w) aP ?_
    ·rintro d4 f4 o2 f o3 hm hr ⟨i5,o4,i6⟩
     unfold aBJ at hm
     refine aCk ?_
     rcases aS hm with ⟨i7,hm⟩|⟨i7,hm⟩
     ·refine aCk ?_;refine dE (aCk ?_)
      obtain ⟨o5,i8,hm⟩:=aB hm
      refine aED call16 (aHh i8 i6) ?_
      rintro _ o6 ⟨rfl,i9,j0⟩
      refine aCk ?_;exact ⟨_,(zI hm).symm,cE,(Eq.trans i5 (congrArg (fun n=>zS J n V) i9)),rfl,j0⟩
     ·exact aP
   obtain ⟨o7,j1,ho⟩:=aB hm
   exact cQ [2,4,5] j1 (fun f5 j2 f w=>∃ f6 f7,f 6=zS f6 f5.length f7/\f 7=i64 j2/\aD G t (aG 2 K f6 f7 f5::aG 35 t l m k::box p 28 [zS l k.length m,zS g a.1.Meetings.length j,zS d a.1.Allowed.length e,zS b a.1.Hidden.length c]::aG 69 K g j a.1.Meetings::aG 9 K d e a.1.Allowed::aG 9 K b c a.1.Hidden::box b9 67 [zS a1 r.length c2,i64 a3,Value.int .u64 a4]::box q 28 u::L) w) aP aP
  refine aCk ?_
  rcases aS hm with ⟨j3,hm⟩|⟨j3,hm⟩
  ·refine aCk ?_;obtain ⟨j4,f8,hm⟩:=aB hm
   have j5:=own_capE f2 (i:=0) rfl
   obtain ⟨j6,j7,f9⟩:=Cut.ex 4 b1 b2 0
   refine aF (aGP lU j5 f9 rfl rfl rfl f8) ?_
   have o8:aD G t (aG 35 t j6 j7 j4::box p 28 [zS b1 b0.length b2,zS g a.1.Meetings.length j,zS d a.1.Allowed.length e,zS b a.1.Hidden.length c]::aG 69 K g j a.1.Meetings::aG 9 K d e a.1.Allowed::aG 9 K b c a.1.Hidden::box b9 67 [zS a1 r.length c2,i64 a3,Value.int .u64 a4]::box q 28 u::L) g8:=aD.cutPE f2 (i:=0) rfl f8 f9
   exact aP
  ·exact aP
 obtain ⟨o9,j8,ho⟩:=aB hm
 refine vX [2,4,5] j8 (fun c4 c5 x f w=>∃ a2 y z,Hp.le f1 a2/\aD G a2 (box p 28 [zS y x.length z,zS g a.1.Meetings.length j,zS d a.1.Allowed.length e,zS b a.1.Hidden.length c]::aG 35 a2 y z x::aG 69 K g j a.1.Meetings::aG 9 K d e a.1.Allowed::aG 9 K b c a.1.Hidden::box b9 67 [zS a1 r.length c2,i64 c4,Value.int .u64 c5]::box q 28 u::L) w) aP ?_
 ·rintro c4 c5 x p0 f j9 hm hr ⟨a2,y,z,c6,k0⟩
  unfold xZ at hm
  refine aCk ?_
  rcases aS hm with ⟨k1,hm⟩|⟨k1,hm⟩
  ·refine aCk ?_;refine dE ?_
   have g0:aD G a2 (box p 28 [zS y x.length z,zS g a.1.Meetings.length j,zS d a.1.Allowed.length e,zS b a.1.Hidden.length c]::aG 35 a2 y z x::aG 69 K g j a.1.Meetings::aG 9 K d e a.1.Allowed::aG 9 K b c a.1.Hidden::box b9 67 [zS a1 r.length c2,i64 c4,Value.int .u64 c5]::box q 28 u::L) j9:=k0
   refine dG (C:=fun w'=>∃ L',aD G a2 (box p 28 [zS y x.length z,zS g a.1.Meetings.length j,zS d a.1.Allowed.length e,zS b a.1.Hidden.length c]::L') w') [(0,0),(1,0),(2,0),(3,1),(4,1),(5,1),(6,0),(7,2)] Tryz_mixed (by kernel_rfl) (fun _ hg=>⟨_,aD.mono g0 hg⟩) (fun k2 k3=>?_)
   have p1:=aD.mono g0 k3
   refine aCk ?_;refine jZ rfl ?_
   have k4:aD G a2 (box b9 67 [zS a1 r.length c2,i64 c4,Value.int .u64 c5]::box p 28 [zS y x.length z,zS g a.1.Meetings.length j,zS d a.1.Allowed.length e,zS b a.1.Hidden.length c]::aG 35 a2 y z x::aG 69 K g j a.1.Meetings::aG 9 K d e a.1.Allowed::aG 9 K b c a.1.Hidden::box q 28 u::L) k2:=aKa
   obtain ⟨o,k5,hm⟩:=aB hm
   refine aED call14 (xF k5 k4 (h3.mono (zL a5 c6))) ?_
   rintro _ g1 ⟨d5,d6,c7,c8,rfl,k6⟩
   refine aR (aC ⟨⟨_,aKa⟩,?_⟩)
   refine jZ rfl ?_;obtain ⟨k7,d7,k8,d8⟩:=aD.giveSp k6 (zL a5 c6) .head
   replace d8:aD G k7 (aG 72 K c7 c8 o.1.E::box b9 67 [zS a1 r.length c2,i64 o.2.1,Value.int .u64 o.2.2]::box p 28 [zS y x.length z,zS g a.1.Meetings.length j,zS d a.1.Allowed.length e,zS b a.1.Hidden.length c]::aG 35 a2 y z x::aG 69 K g j a.1.Meetings::aG 9 K d e a.1.Allowed::aG 9 K b c a.1.Hidden::box q 28 u::L) g1:=d8
   obtain ⟨a7,d9,k9,e0⟩:=aD.giveSp d8 (zL (zL a5 c6) d7) .head
   replace e0:aD G a7 (box b9 67 [zS a1 r.length c2,i64 o.2.1,Value.int .u64 o.2.2]::box p 28 [zS y x.length z,zS g a.1.Meetings.length j,zS d a.1.Allowed.length e,zS b a.1.Hidden.length c]::aG 35 a2 y z x::aG 69 K g j a.1.Meetings::aG 9 K d e a.1.Allowed::aG 9 K b c a.1.Hidden::box q 28 u::L) g1:=e0
   refine cZ (Kt:=a7) (xs:=([⟨o.1.N,o.1.I,o.1.L,o.1.E⟩]:List bA)) (cs:=(zC o.1 d5 d6 c7 c8)) (vs:=[(0,zA (zCa o.1 d5 d6 c7 c8))]) lU aEL rfl rfl e0 rfl (by kernel_rfl) rfl rfl rfl ⟨⟨d5,d6,c7,c8,rfl,(k8.mono d9),k9⟩,trivial⟩ (fun l0 l1 (l2:aD G a7 (aG 35 a7 l0 1 ([⟨o.1.N,o.1.I,o.1.L,o.1.E⟩]:List bA)::box b9 67 [zS a1 r.length c2,i64 o.2.1,Value.int .u64 o.2.2]::box p 28 [zS y x.length z,zS g a.1.Meetings.length j,zS d a.1.Allowed.length e,zS b a.1.Hidden.length c]::aG 35 a2 y z x::aG 69 K g j a.1.Meetings::aG 9 K d e a.1.Allowed::aG 9 K b c a.1.Hidden::box q 28 u::L) l1)=>(aR (aC ⟨⟨_,aKa⟩,?_⟩)))
   refine jZ rfl ?_;obtain ⟨l3,l4,hm⟩:=aB hm
   refine aIQ (i:=2) a7 lU underlying24 aEL rfl rfl l2 rfl (zL d7 d9) (Hp.le_refl _) l4 rfl rfl rfl rfl (fun _ _ _ h=>El.one h) (fun g2 g3 l5 (p2:aD G a7 (box b9 67 [zS a1 r.length c2,i64 o.2.1,Value.int .u64 o.2.2]::box p 28 [zS y x.length z,zS g a.1.Meetings.length j,zS d a.1.Allowed.length e,zS b a.1.Hidden.length c]::aG 35 a7 g2 g3 l3::aG 69 K g j a.1.Meetings::aG 9 K d e a.1.Allowed::aG 9 K b c a.1.Hidden::box q 28 u::L) l5)=>(aR (aC ⟨⟨_,aKa⟩,?_⟩)))
   refine aCk ?_;refine WE_s rfl (aJz fun p3 p4=>?_)
   refine aCk ?_;refine qE (aCk ?_)
   exact ⟨_,(zI hm).symm,cE,a7,g2,g3,(zL (zL c6 d7) d9),aKa⟩
  ·exact aP
theorem aKt {a:(List UInt8)} {k n R:Int} (hm:aLC a k n=some R) (o:aD G K (L) w) (d:bE K a1 c2 a):
  Calls prog 6 ([zS a1 a.length c2,i64 k,i64 n]:List Value).toArray w (eQ fun v w'=>v=i64 R/\aD G K (L) w'):=by
 refine aFe func6 ?_;unfold aLC at hm
 iterate 7 refine aFl ?_
 refine cI [0,1,2] (fun f w=>∃ b,aFB a k n b=some R/\f 14=zB b/\aD G K (L) w) ?_ ?_
 ·rintro f p ⟨b,hm,q,c⟩
  unfold aFB at hm
  refine aCk ?_
  rcases aS hm with ⟨e,hm⟩|⟨e,hm⟩
  ·exact aP
  ·refine aCk ?_;obtain ⟨r,g,hm⟩:=aB hm
   refine aCk ?_;obtain ⟨u,h,i⟩:=bE.el (sz:=1) rfl d g
   cases i
   refine aF (bG (t:=0) sc_5 c h rfl rfl) (aF (aIU runUnderlying2 rfl ⟨_,runUnderlying5⟩) (aJ (v:=i64 n) ?_));obtain ⟨j,l,hm⟩:=aB hm
   refine aF (R_rem rfl rfl l) (aM (v:=i64 j) (aI ?_));obtain rfl:=zI hm
   exact aMD results6 ⟨rfl,c⟩
 exact aP
theorem aIx {t:bA} {k:Int} {R:Bool} (hm:wO t k=some R) (a:aD G K (L) w) (b:bE K a1 c2 t.L) (c:bE K a4 c5 t.E):
  Calls prog 75 ([zA (zCa t a1 c2 a4 c5),i64 k]:List Value).toArray w (eQ fun v w'=>v=zB R/\aD G K (L) w'):=by
 exact aP
theorem aOi {i many:Int} {R:Bool} (hm:aKP i many=some R) (a:aD G K (L) w):
  Calls prog 77 ([i64 i,i64 many]:List Value).toArray w (eQ fun v w'=>v=zB R/\aD G K (L) w'):=by
 exact aP
theorem aDn {t:bA} {R:Bool} (hm:pC t=some R) (z:aD G K (L) w) (J:G.lo=0) (i:bE K a1 c2 t.L) (j:bE K a4 c5 t.E):
  Calls prog 37 ([zA (zCa t a1 c2 a4 c5)]:List Value).toArray w (eQ fun v w'=>v=zB R/\aD G K (L) w'):=by
 let a:=(zC t a1 c2 a4 c5)
 refine aFe func37 ?_;unfold pC at hm
 refine aCk ?_;refine aKb fun b V a0=>?_
 iterate 5 refine aFl ?_
 refine cI [1] (fun f w=>∃ c,sY t c=some R/\f 30=zB c/\aD G K (box b 35 a::L) w) ?_ ?_
 ·rintro f a2 ⟨c,hm,a3,a5⟩
  unfold sY at hm
  refine aCk ?_
  rcases aS hm with ⟨k,hm⟩|⟨k,hm⟩
  ·exact aP
  ·refine aCk ?_;refine aU [1] (fun f w=>aCC t=some R/\aD G K (box b 35 a::L) w) ?_ ?_
   ·rintro f a6 ⟨hm,a7⟩
    unfold aCC at hm
    refine aCk ?_;refine aU [] (fun f w=>aIa=some R/\aD G K (L) w) aP ?_
    obtain ⟨a8,l,ho⟩:=aB hm
    refine gI [1,65,66] l (fun d f w=>f 67=i64 d/\aD G K (box b 35 a::L) w) aP ?_
    ·rintro d m f a9 hm hr ⟨b0,b1⟩
     unfold aAt at hm
     refine aCk ?_
     rcases aS hm with ⟨n,hm⟩|⟨n,hm⟩
     ·refine aCk ?_;refine dE (aCk ?_)
      obtain ⟨b2,o,hm⟩:=aB hm
      refine aCk ?_;obtain ⟨b3,b4,p⟩:=bE.el (sz:=3) rfl j o
      cases p
      refine aCk ?_;refine aFm fun b5 b6 b8=>?_
      refine aCk ?_;refine aJz fun b9 c0=>?_
      refine aCk ?_;exact cI [1,65,66,67] (fun f w=>∃ g,sX d g=some m/\f 107=zB g/\aD G K (box b 35 a::L) w) aP aP
     ·exact aP
   obtain ⟨c1,q,ho⟩:=aB hm
   refine gI [1,32,33] q (fun e f w=>f 34=i64 e/\aD G K (box b 35 a::L) w) aP ?_
   ·rintro e r f c3 hm hr ⟨c4,c6⟩
    unfold aAu at hm
    refine aCk ?_
    rcases aS hm with ⟨u,hm⟩|⟨u,hm⟩
    ·refine aCk ?_;refine dE (aCk ?_)
     obtain ⟨c7,x,hm⟩:=aB hm
     refine aCk ?_;obtain ⟨c8,c9,y⟩:=bE.el (sz:=1) rfl i x
     cases y
     iterate 6 refine aFl ?_
     exact cI [1,32,33,34] (fun f w=>∃ h,wP e h=some r/\f 62=zB h/\aD G K (box b 35 a::L) w) aP aP
    ·exact aP
 exact aP
theorem aBU {t:bA} {R:Bool} (hm:aBL t=some R) (a:aD G K (L) w) (b:G.lo=0) (c:bE K a1 c2 t.L) (d:bE K a4 c5 t.E):
  Calls prog 36 ([zA (zCa t a1 c2 a4 c5)]:List Value).toArray w (eQ fun v w'=>v=zB R/\aD G K (L) w'):=by
 exact aP
theorem aGh {a b:bK} {R:Int} (hm:oW a b=some R) (d:aD G K (L) w):
  Calls prog 80 ([zA #[str a.Left,str a.Right,str a.Result],zA #[str b.Left,str b.Right,str b.Result]]:List Value).toArray w (eQ fun v w'=>v=i64 R/\aD G K (L) w'):=by
 refine aFe func80 ?_;unfold oW at hm
 refine aCk ?_;refine aKb fun e g h=>?_
 refine aKb fun i j k=>?_;refine aCk ?_
 refine aKc ([a.Left,a.Right]:List aH) fun l m n=>?_;refine aCk ?_
 refine aKc ([b.Left,b.Right]:List aH) fun o p c=>?_;obtain ⟨q,r,t,u,x⟩:=aD.lendSp c (Hp.le_refl _) zt1
 exact aP
theorem aCV {o p:bK} {a:Nat} {R:Bool} (hm:aAH o p=some R) (c:aD G K (L) w) (d:fK K a1 a [str p.Left,str p.Right,str p.Result]):
  Calls prog 82 ([zA #[str o.Left,str o.Right,str o.Result],cX a1 a]:List Value).toArray w (eQ fun v w'=>v=zB R/\aD G K (L) w'):=by
 refine aFe func82 ?_;unfold aAH at hm
 refine aCk ?_;refine aKb fun e g h=>?_
 iterate 4 refine aFl ?_
 exact cI [] (fun f w=>∃ b,vD b=some R/\f 3=zB b/\aD G K (L) w) aP aP
theorem pR {s_:(List bK)} {b:bK} {c:Nat} {R:Int} (hm:eJ s_ b=some R) (n:aD G K (L) w) (e:bE K a1 c2 s_) (g:fK K a4 c [str b.Left,str b.Right,str b.Result]):
  Calls prog 125 ([zS a1 s_.length c2,Value.func (.func 82) #[] #[cX a4 c]]:List Value).toArray w (eQ fun v w'=>v=i64 R/\aD G K (L) w'):=by
 refine aFe func125 ?_;unfold eJ at hm
 refine aCk ?_;refine aU [] (fun f w=>kF=some R/\aD G K (L) w) aP ?_
 obtain ⟨o,h,ho⟩:=aB hm
 refine gI [0,1,7] h (fun d f w=>f 8=i64 d/\aD G K (L) w) aP ?_
 ·rintro d p f q hm hr ⟨r,i⟩
  unfold cT at hm
  refine aCk ?_
  rcases aS hm with ⟨j,hm⟩|⟨j,hm⟩
  ·refine aCk ?_;refine dE (aCk ?_)
   obtain ⟨a,k,hm⟩:=aB hm
   refine aCk ?_;obtain ⟨t,u,l⟩:=bE.el (sz:=3) rfl e k
   cases l
   refine aCk ?_;obtain ⟨x,m,hm⟩:=aB hm
   exact eE (vs:=[zA #[str a.Left,str a.Right,str a.Result]]) (caps:=[cX a4 c]) (us:=[zA #[str a.Left,str a.Right,str a.Result],cX a4 c]) rfl call82 rfl rfl (aCV m i g) aP
  ·exact aP
theorem jA {s_:(List bK)} {a:bK} {b:Nat} {R:Bool} (hm:dU s_ a=some R) (c:aD G K (L) w) (d:bE K a1 c2 s_) (e:fK K a4 b [str a.Left,str a.Right,str a.Result]):
  Calls prog 81 ([zS a1 s_.length c2,Value.func (.func 82) #[] #[cX a4 b]]:List Value).toArray w (eQ fun v w'=>v=zB R/\aD G K (L) w'):=by
 exact aP
theorem aJh {a:(List bK)} {R:Bool} (hm:vE a=some R) (t:aD G K (L) w) (e:bE K a1 c2 a):
  Calls prog 38 ([zS a1 a.length c2]:List Value).toArray w (eQ fun v w'=>v=zB R/\aD G K (L) w'):=by
 refine aFe func38 ?_;unfold vE at hm
 refine aCk ?_;refine aU [0] (fun f w=>aDh a=some R/\aD G K (L) w) aP ?_
 obtain ⟨u,h,ho⟩:=aB hm
 refine gI [0,5,6] h (fun c f w=>f 7=i64 c/\aD G K (L) w) aP ?_
 ·rintro c i f x hm hr ⟨y,z⟩
  unfold mW at hm
  refine aCk ?_
  rcases aS hm with ⟨j,hm⟩|⟨j,hm⟩
  ·refine aCk ?_;refine dE (aCk ?_)
   obtain ⟨b,k,hm⟩:=aB hm
   refine aCk ?_;obtain ⟨J,V,l⟩:=bE.el (sz:=3) rfl e k
   cases l
   refine aCk ?_;refine aFm fun g a0 a2=>?_
   refine aCk ?_;refine aJz fun a3 a4=>?_
   refine aCk ?_;refine cI [0,4,5,6,7] (fun f w=>∃ d,kN a c b d=some i/\f 48=zB d/\aD G K (box g 69 [str b.Left,str b.Right,str b.Result]::L) w) ?_ ?_
   ·rintro f a5 ⟨d,hm,a6,m⟩
    unfold kN at hm
    refine aCk ?_
    rcases aS hm with ⟨n,hm⟩|⟨n,hm⟩
    ·exact aP
    ·iterate 6 refine aFl ?_
     refine aF (eV (vs:=[Value.pointer (some ⟨g,0,none⟩)]) rfl) ?_;obtain ⟨a7,o,p,q,a8⟩:=aD.lendBp m .head
     obtain ⟨a9,r,hm⟩:=aB hm
     exact aED call81 (jA r q (e.mono o) p) aP
   exact aP
  ·exact aP
theorem aLH {a:(List aH)} {R:Bool} (hm:zN a=some R) (k:aD G K (L) w) (d:bE K a1 c2 a):
  Calls prog 39 ([zS a1 a.length c2]:List Value).toArray w (eQ fun v w'=>v=zB R/\aD G K (L) w'):=by
 refine aFe func39 ?_;unfold zN at hm
 refine aCk ?_;refine aU [0] (fun f w=>aGc a=some R/\aD G K (L) w) aP ?_
 obtain ⟨l,e,ho⟩:=aB hm
 refine gI [0,5,6] e (fun b f w=>f 7=i64 b/\aD G K (L) w) aP ?_
 ·rintro b g f m hm hr ⟨n,o⟩
  unfold aBN at hm
  refine aCk ?_
  rcases aS hm with ⟨h,hm⟩|⟨h,hm⟩
  ·refine aCk ?_;refine dE (aCk ?_)
   obtain ⟨p,i,hm⟩:=aB hm
   refine aCk ?_;obtain ⟨q,r,j⟩:=bE.el (sz:=1) rfl d i
   cases j
   iterate 6 refine aFl ?_
   exact cI [0,5,6,7] (fun f w=>∃ c,aBM b c=some g/\f 27=zB c/\aD G K (L) w) aP aP
  ·exact aP
theorem uH {s_:(List bA)} {R:Int} (hm:gD s_=some R) (r:aD G K (L) w) (h:G.lo=0) (i:bE K a1 c2 s_):
  Calls prog 74 ([zS a1 s_.length c2,Value.func (.func 36) #[] #[]]:List Value).toArray w (eQ fun v w'=>v=i64 R/\aD G K (L) w'):=by
 refine aFe func74 ?_;unfold gD at hm
 refine aCk ?_;refine aU [] (fun f w=>iT=some R/\aD G K (L) w) aP ?_
 obtain ⟨t,j,ho⟩:=aB hm
 refine gI [0,1,7] j (fun b f w=>f 8=i64 b/\aD G K (L) w) aP ?_
 ·rintro b u f x hm hr ⟨y,k⟩
  unfold bW at hm
  refine aCk ?_
  rcases aS hm with ⟨l,hm⟩|⟨l,hm⟩
  ·refine aCk ?_;refine dE (aCk ?_)
   obtain ⟨a,m,hm⟩:=aB hm
   refine aCk ?_;obtain ⟨z,J,n⟩:=bE.el (sz:=4) rfl i m
   obtain ⟨c,d,e,g,rfl,o,p⟩:=n
   refine aCk ?_;obtain ⟨V,q,hm⟩:=aB hm
   exact eE (vs:=[zA (zCa a c d e g)]) (caps:=[]) (us:=[zA (zCa a c d e g)]) rfl call36 rfl rfl (aBU q k h o p) aP
  ·exact aP
theorem sQ {s_:(List bA)} {R:Bool} (hm:fL s_=some R) (a:aD G K (L) w) (b:G.lo=0) (c:bE K a1 c2 s_):
  Calls prog 35 ([zS a1 s_.length c2,Value.func (.func 36) #[] #[]]:List Value).toArray w (eQ fun v w'=>v=zB R/\aD G K (L) w'):=by
 exact aP
theorem tQ {n:aO} {R:Bool} (hm:mN n=some R) (e:aD G K (L) w) (g:G.lo=0) (h:bE K a1 c2 n.Parts) (i:bE K a4 c5 n.Meetings) (j:bE K a7 c8 n.Allowed) (k:bE K a10 c11 n.Hidden):
  Calls prog 17 ([zA #[zS a1 n.Parts.length c2,zS a4 n.Meetings.length c5,zS a7 n.Allowed.length c8,zS a10 n.Hidden.length c11]]:List Value).toArray w (eQ fun v w'=>v=zB R/\aD G K (L) w'):=by
 refine aFe func17 ?_;unfold mN at hm
 refine aCk ?_;refine aKb fun c l m=>?_
 iterate 5 refine aFl ?_
 refine cI [1] (fun f w=>∃ a,sF n a=some R/\f 12=zB a/\aD G K (box c 28 [zS a1 n.Parts.length c2,zS a4 n.Meetings.length c5,zS a7 n.Allowed.length c8,zS a10 n.Hidden.length c11]::L) w) ?_ ?_
 ·rintro f o ⟨a,hm,p,q⟩
  unfold sF at hm
  refine aCk ?_
  rcases aS hm with ⟨d,hm⟩|⟨d,hm⟩
  ·exact aP
  ·iterate 4 refine aFl ?_
   exact cI [] (fun f w=>∃ b,sE b=some R/\f 2=zB b/\aD G K (L) w) aP aP
 exact aP
theorem uI {s_ R:(List Edge)} (hm:bS s_=some R) (hs:aD G K (aG 72 K a1 c2 s_::L) w):
  Calls prog 129 ([zS a1 s_.length c2]:List Value).toArray w (eQ fun v w'=>∃ z J,v=zS z R.length J/\aD G K (aG 72 K z J R::L) w'):=by
 refine aFe func129 ?_;unfold bS at hm
 refine aCk ?_
 rcases aS hm with ⟨c3,hm⟩|⟨c3,hm⟩
 ·exact aP
 ·refine aCk ?_;refine aU [0] (fun f w=>mO s_=some R/\aD G K (aG 72 K a1 c2 s_::L) w) aP ?_
  obtain ⟨e8,b7,ho⟩:=aB hm
  refine gI [0] b7 (fun c f w=>f 3=i64 c/\aD G K (aG 72 K a1 c2 s_::L) w) aP ?_
  ·rintro c V f e9 hm hr ⟨f0,d⟩
   unfold bX at hm
   refine aCk ?_
   rcases aS hm with ⟨b8,hm⟩|⟨b8,hm⟩
   ·refine aCk ?_;refine aU [0] (fun f w=>dV c=some V/\f 3=i64 c/\aD G K (aG 72 K a1 c2 s_::L) w) ?_ ?_
    ·rintro f f1 ⟨hm,f2,b9⟩
     unfold dV at hm
     refine aCk ?_;exact ⟨_,(zI hm).symm,cE,rfl,b9⟩
    refine aCk ?_;refine aME ?_
    refine aCk ?_;obtain ⟨c0,a0,hm⟩:=aB hm
    have b:=dJ d (i:=0) rfl a0
    refine cJ (fun _ d=>fI eI rfl b rfl rfl rfl a0) (aCk ?_);obtain ⟨c1,c4,hm⟩:=aB hm
    refine cJ (fun _ d=>fI eI rfl b rfl rfl rfl c4) (aCk ?_);refine cJ (fun _ d=>R_eqlG (eq_72 (x:=c0) (y:=c1)) rfl rfl) (aAf (fun f3 c5=>(aCk ?_)))
    rcases aS hm with ⟨c6,hm⟩|⟨c6,hm⟩
    ·refine aCk ?_;obtain ⟨f4,e,hm⟩:=aB hm
     have g:=oU c5 (i:=0) rfl
     obtain ⟨f5,f6,j⟩:=Cut.ex 3 a1 c2 c
     refine aF (aEf eI g j rfl rfl rfl e) (aCk ?_);refine aU [] (fun f w=>∃ k l,fM k l=some V/\f 0=zS a1 k.length c2/\f 3=i64 l/\aD G K (aG 72 K a1 c2 k::L) w) ?_ ?_
     ·rintro f f7 ⟨k,l,hm,c7,f8,a2⟩
      unfold fM at hm
      refine aCk ?_;obtain ⟨f9,c8,hm⟩:=aB hm
      have c9:=oU a2 (i:=0) rfl
      obtain ⟨g0,g1,a3⟩:=Cut.ex 3 a1 c2 l
      refine aF (aEf eI c9 a3 rfl rfl rfl c8) ?_;obtain ⟨a4,a5,hm⟩:=aB hm
      refine aDU eI aBd rfl a2 (i:=0) rfl a3 rfl rfl a5 (fun a6 (a7:aD G K (aG 72 K a1 c2 a4::L) a6)=>?_)
      iterate 4 refine aFl ?_
      refine bH (v:=zS a1 a4.length c2) (Eq.trans c7 (congrArg (fun n=>zS a1 n c2) (aEE a5))) (aCk ?_);obtain ⟨a8,a9,hm⟩:=aB hm
      have d0:=oU a7 (i:=0) rfl
      obtain ⟨d1,d2,b0⟩:=Cut.ex 3 a1 c2 0
      refine aF (aGP eI d0 b0 rfl rfl rfl a9) (aCk ?_);refine nY (aAm (nE (nE (nE ?_))))
      have d3:=hr _ (zI hm).symm
      subst d3
      have hm:(some a8)=some R:=ho
      clear hr ho
      have g2:aD G K (aG 72 K d1 d2 a8::L) a6:=aD.cutP a7 (i:=0) rfl a9 b0
      exact aP
     obtain ⟨g3,d4,ho⟩:=aB hm
     refine vX [4] d4 (fun o p q f w=>f 0=zS a1 o.length c2/\f 3=i64 p/\f 5=i64 q/\aD G K (aG 72 K a1 c2 o::L) w) aP ?_
     ·rintro o p q d5 f g4 hm hr ⟨d6,g5,g6,r⟩
      unfold dX at hm
      refine aCk ?_
      rcases aS hm with ⟨d7,hm⟩|⟨d7,hm⟩
      ·refine aCk ?_;refine aU [4,5] (fun f w=>∃ m u,dW q m u=some d5/\f 0=zS a1 m.length c2/\f 3=i64 u/\aD G K (aG 72 K a1 c2 m::L) w) ?_ ?_
       ·rintro f g7 ⟨m,u,hm,d8,d9,e0⟩
        unfold dW at hm
        refine aCk ?_;exact ⟨_,(zI hm).symm,cE,d8,d9,rfl,e0⟩
       refine aCk ?_;refine aME ?_
       refine aCk ?_;obtain ⟨g8,b1,hm⟩:=aB hm
       obtain ⟨a,e1,hm⟩:=aB hm
       refine cJ (fun _ r=>aIY eI b j e g rfl rfl rfl b1 rfl) (aCk ?_);obtain ⟨g9,e2,hm⟩:=aB hm
       obtain ⟨e3,h0,hm⟩:=aB hm
       refine cJ (fun _ r=>aIY eI b j e g rfl rfl rfl e2 rfl) (aCk ?_);refine cJ (fun _ r=>R_neqG (eq_72 (x:=a) (y:=e3)) rfl rfl) (aAf (fun h1 b2=>(aCk ?_)))
       rcases aS hm with ⟨e4,hm⟩|⟨e4,hm⟩
       ·refine aCk ?_;refine aF (aIY eI b j e g rfl rfl rfl b1 rfl) (aF (aCl (t:=0) (vs:=[i64 a.F,i64 a.B,i64 a.To]) rP b2 (i:=0) rfl e1 rfl rfl rfl rfl) ?_)
        obtain ⟨h2,b3,hm⟩:=aB hm
        refine aF (fI eI rfl b rfl rfl rfl b3) ?_;obtain ⟨b4,b5,hm⟩:=aB hm
        refine pO (i:=0) (t:=0) (ns:=[i64 a.F,i64 a.B,i64 a.To]) (e':=(⟨a.F,a.B,a.To⟩:Edge)) sizeOf72 b2 rfl (Hp.le_refl _) rfl rfl rfl b3 b5 rfl rfl (dM rfl) rfl (fun cs h=>by cases h;rfl) (fun e5 (e6:aD G K (aG 72 K a1 c2 b4::L) e5)=>(aCk ?_));exact ⟨cE,b4,wr (p+1),hm,(Eq.trans d6 (congrArg (fun n=>zS a1 n c2) (iS b5))),rfl,e6⟩
       ·exact aP
      ·exact aP
    ·exact aP
   ·exact aP
end Gv
namespace Gv
open Gv.Hp renaming le_refl→zR
open Go.Value renaming slice→zS,bool→zB,pointer→zP,agg→zA,tuple→zT,map→zM
open Option.some renaming inj→zI
open Gv.Hp renaming le_trans→zL
open Go Go.Proofs Go.Proofs.Tryz
set_option maxRecDepth 20000
set_option maxHeartbeats 40000000
variable {G:yU} {K Kf:Hp} {L:List jN} {w:World} {a1 a4 a7 a10 a13 a2 a5 a6 a9 a11 a16 a19 a24 a27 a29:Option Addr} {c2 c5 c8 c11 c14 b1 c3 c6 b4 b5 c7 c10 c17 b22 b23 c25 c28:Nat}
theorem oM {s_ R:(List aH)} (hm:gB s_=some R) (hs:aD G K (aG 9 K a1 c2 s_::L) w):
  Calls prog 128 ([zS a1 s_.length c2]:List Value).toArray w (eQ fun v w'=>∃ r u,v=zS r R.length u/\aD G K (aG 9 K r u R::L) w'):=by
 refine aFe func128 ?_;unfold gB at hm
 refine aCk ?_
 rcases aS hm with ⟨c3,hm⟩|⟨c3,hm⟩
 ·exact aP
 ·refine aCk ?_;refine aU [0] (fun f w=>pL s_=some R/\aD G K (aG 9 K a1 c2 s_::L) w) aP ?_
  obtain ⟨e3,b5,ho⟩:=aB hm
  refine gI [0] b5 (fun b f w=>f 3=i64 b/\aD G K (aG 9 K a1 c2 s_::L) w) aP ?_
  ·rintro b x f e4 hm hr ⟨e5,l⟩
   unfold fB at hm
   refine aCk ?_
   rcases aS hm with ⟨b6,hm⟩|⟨b6,hm⟩
   ·refine aCk ?_;refine aU [0] (fun f w=>iD b=some x/\f 3=i64 b/\aD G K (aG 9 K a1 c2 s_::L) w) ?_ ?_
    ·rintro f e6 ⟨hm,e7,b7⟩
     unfold iD at hm
     refine aCk ?_;exact ⟨_,(zI hm).symm,cE,rfl,b7⟩
    refine aCk ?_;refine aME ?_
    refine aCk ?_;obtain ⟨e8,y,hm⟩:=aB hm
    have a:=dJ l (i:=0) rfl y
    refine cJ (fun _ l=>fI fJ rfl a rfl rfl rfl y) (aCk ?_);obtain ⟨e9,b8,hm⟩:=aB hm
    refine cJ (fun _ l=>fI fJ rfl a rfl rfl rfl b8) (aCk ?_);refine aAf (fun f0 b9=>(aCk ?_))
    rcases aS hm with ⟨c0,hm⟩|⟨c0,hm⟩
    ·refine aCk ?_;obtain ⟨f1,c,hm⟩:=aB hm
     have d:=oU b9 (i:=0) rfl
     obtain ⟨f2,f3,e⟩:=Cut.ex 1 a1 c2 b
     refine aF (aEf fJ d e rfl rfl rfl c) (aCk ?_);refine aU [] (fun f w=>∃ g j,iE g j=some x/\f 0=zS a1 g.length c2/\f 3=i64 j/\aD G K (aG 9 K a1 c2 g::L) w) ?_ ?_
     ·rintro f f4 ⟨g,j,hm,c1,f5,z⟩
      unfold iE at hm
      refine aCk ?_;obtain ⟨f6,c4,hm⟩:=aB hm
      have c5:=oU z (i:=0) rfl
      obtain ⟨f7,f8,J⟩:=Cut.ex 1 a1 c2 j
      refine aF (aEf fJ c5 J rfl rfl rfl c4) ?_;obtain ⟨V,a0,hm⟩:=aB hm
      refine aDU fJ aFs rfl z (i:=0) rfl J rfl rfl a0 (fun a2 (a3:aD G K (aG 9 K a1 c2 V::L) a2)=>?_)
      iterate 4 refine aFl ?_
      refine bH (v:=zS a1 V.length c2) (Eq.trans c1 (congrArg (fun n=>zS a1 n c2) (aEE a0))) (aCk ?_);obtain ⟨a4,a5,hm⟩:=aB hm
      have c6:=oU a3 (i:=0) rfl
      obtain ⟨c7,c8,a6⟩:=Cut.ex 1 a1 c2 0
      refine aF (aGP fJ c6 a6 rfl rfl rfl a5) (aCk ?_);refine nY (aAm (nE (nE (nE ?_))))
      have c9:=hr _ (zI hm).symm
      subst c9
      have hm:(some a4)=some R:=ho
      clear hr ho
      have f9:aD G K (aG 9 K c7 c8 a4::L) a2:=aD.cutP a3 (i:=0) rfl a5 a6
      exact aP
     obtain ⟨g0,d0,ho⟩:=aB hm
     refine vX [4] d0 (fun m o p f w=>f 0=zS a1 m.length c2/\f 3=i64 o/\f 5=i64 p/\aD G K (aG 9 K a1 c2 m::L) w) aP ?_
     ·rintro m o p d1 f g1 hm hr ⟨d2,g2,g3,a7⟩
      unfold fA at hm
      refine aCk ?_
      rcases aS hm with ⟨d3,hm⟩|⟨d3,hm⟩
      ·refine aCk ?_;refine aU [4,5] (fun f w=>∃ k q,eZ p k q=some d1/\f 0=zS a1 k.length c2/\f 3=i64 q/\aD G K (aG 9 K a1 c2 k::L) w) ?_ ?_
       ·rintro f g4 ⟨k,q,hm,d4,d5,d6⟩
        unfold eZ at hm
        refine aCk ?_;exact ⟨_,(zI hm).symm,cE,d4,d5,rfl,d6⟩
       refine aCk ?_;refine aME ?_
       refine aCk ?_;obtain ⟨g5,a8,hm⟩:=aB hm
       obtain ⟨a9,d7,hm⟩:=aB hm
       refine cJ (fun _ a7=>aIY fJ a e c d rfl rfl rfl a8 rfl) (aCk ?_);obtain ⟨g6,d8,hm⟩:=aB hm
       obtain ⟨g7,g8,hm⟩:=aB hm
       refine cJ (fun _ a7=>aIY fJ a e c d rfl rfl rfl d8 rfl) (aCk ?_);refine aAf (fun g9 b0=>(aCk ?_))
       rcases aS hm with ⟨d9,hm⟩|⟨d9,hm⟩
       ·refine aCk ?_;refine aF (aIY fJ a e c d rfl rfl rfl a8 rfl) (aF (qD (t:=0) yX b0 (i:=0) rfl d7 rfl rfl rfl) ?_)
        obtain ⟨h0,b1,hm⟩:=aB hm
        refine aF (fI fJ rfl a rfl rfl rfl b1) ?_;obtain ⟨b2,b3,hm⟩:=aB hm
        refine pO (i:=0) (t:=0) (ns:=[str a9]) (e':=(a9:aH)) sizeOf9 b0 rfl (zR _) rfl rfl rfl b1 b3 rfl rfl (dM rfl) rfl (fun cs h=>by cases h;rfl) (fun e0 (e1:aD G K (aG 9 K a1 c2 b2::L) e0)=>(aCk ?_));exact ⟨cE,b2,wr (o+1),hm,(Eq.trans d2 (congrArg (fun n=>zS a1 n c2) (iS b3))),rfl,e1⟩
       ·exact aP
      ·exact aP
    ·exact aP
   ·exact aP
theorem pN {s_:(List aH)} {a:aH} {R:Int} (hm:fG s_ a=some R) (d:aD G K (L) w) (e:bE K a1 c2 s_):
  Calls prog 99 ([zS a1 s_.length c2,str a]:List Value).toArray w (eQ fun v w'=>v=i64 R/\aD G K (L) w'):=by
 refine aFe func99 ?_;unfold fG at hm
 refine aCk ?_;refine aU [] (fun f w=>qH=some R/\aD G K (L) w) aP ?_
 obtain ⟨g,b,ho⟩:=aB hm
 exact gI [0,1,7] b (fun c f w=>f 8=i64 c/\aD G K (L) w) aP aP
theorem aAX {a b:Int} {x:(List aH)} {arcs:(List cO)} {R:bA} (hm:aFC a b x arcs=some R) (hs:aD G K (L) w) (h3:bE K a1 c2 x) (h6:bE K a4 c5 arcs):
  Calls prog 85 ([i64 a,i64 b,zS a1 x.length c2,zS a4 arcs.length c5]:List Value).toArray w (eQ fun v w'=>∃ a2 a3 a5 a6,v=zA (zCa R a2 a3 a5 a6)/\aD G K (aG 9 K a2 a3 R.L::aG 72 K a5 a6 R.E::L) w'):=by
 let h:=zG
 refine aFe func85 ?_;unfold aFC at hm
 refine aCk ?_;refine aFm fun j w8 f1=>?_
 refine aCk ?_;refine aKc ([([116,97,117]:aH)]:List aH) fun f2 f3 b3=>?_
 refine aCk ?_;obtain ⟨n,b4,hm⟩:=aB hm
 refine aIl (i:=0) fJ underlying26 aFs rfl rfl b3 rfl (zR _) h3 b4 rfl rfl rfl rfl (fun d e b5 (f4:aD G K (aG 9 K d e n::box j 35 h::L) b5)=>(aF (jU (vs:=[(0,i64 a),(1,i64 b),(2,zS d n.length e)]) (cs:=[i64 a,i64 b,zS d n.length e,zS none 0 0]) aEJ rfl (by kernel_rfl)) (aFm fun o f5 f6=>?_)));refine aJz fun b6 f7=>?_
 refine aCk ?_
 have b8:aD G K (aG 9 K d e n::box o 35 [i64 a,i64 b,zS d n.length e,zS none 0 0]::box j 35 h::L) b6:=aKa
 obtain ⟨a7,b9,hm⟩:=aB hm
 refine aED call126 (lib_SortStr b8 b9) ?_
 rintro _ c0 ⟨rfl,c1,c3⟩
 have c4:aD G K (aG 9 K d e a7::box o 35 [i64 a,i64 b,zS d a7.length e,zS none 0 0]::box j 35 h::L) c0:=by rw [←c1];exact c3
 refine aCk ?_;obtain ⟨g,c6,hm⟩:=aB hm
 refine aED call128 (oM c6 c4) ?_
 rintro _ f8 ⟨k,l,rfl,f9⟩
 refine aCk ?_;refine aJz fun g0 c7=>?_
 refine aCk ?_;refine aU [8,9] (fun f w=>∃ r p q,aGY a b g r=some R/\aD G K (aG 72 K p q r::aG 9 K k l g::box o 35 [i64 a,i64 b,zS k g.length l,zS p r.length q]::box j 35 h::L) w) ?_ ?_
 ·rintro f g1 ⟨r,p,q,hm,c8⟩
  unfold aGY at hm
  refine aCk ?_;obtain ⟨a8,c9,hm⟩:=aB hm
  refine aED call97 (lib_SortEdge c8 c9) ?_
  rintro _ d0 ⟨rfl,d1,d2⟩
  have g2:aD G K (aG 72 K p q a8::aG 9 K k l g::box o 35 [i64 a,i64 b,zS k g.length l,zS p a8.length q]::box j 35 h::L) d0:=by rw [←d1];exact d2
  exact aP
 have g3:=aD.nil (α:=Edge) c7 72 K
 obtain ⟨g4,d3,ho⟩:=aB hm
 refine cQ [8,9,25,26] d3 (fun y a9 f w=>∃ z J,f 27=i64 a9/\aD G K (aG 72 K z J y::aG 9 K k l g::box o 35 [i64 a,i64 b,zS k g.length l,zS z y.length J]::box j 35 h::L) w) aP ?_
 ·rintro y a9 g5 f g6 hm hr ⟨z,J,g7,g8⟩
  unfold aCR at hm
  refine aCk ?_
  rcases aS hm with ⟨d4,hm⟩|⟨d4,hm⟩
  ·refine aCk ?_;refine dE (aCk ?_)
   obtain ⟨m,d5,hm⟩:=aB hm
   refine aCk ?_;obtain ⟨g9,h0,d6⟩:=bE.el (sz:=3) rfl h6 d5
   cases d6
   refine aCk ?_;refine aFm fun h1 h2 h4=>?_
   refine aJz fun h5 d7=>?_;refine aCk ?_
   obtain ⟨h7,d8,V,d9,h8⟩:=aD.lendBp d7 .head
   obtain ⟨h9,u,e0,i0,e1⟩:=aD.lendBp d9 zt2
   refine aKg [(0,0),(1,0),(2,0),(3,0),(4,0),(5,0),(6,0),(7,0),(9,0),(10,0),(8,1),(11,0),(12,1),(13,1),(14,0),(15,2)] fun i1 c=>?_;refine aCk ?_
   refine bB rfl (fun _ ⟨_,c⟩=>bG (t:=0) eG c (V.mono u) rfl rfl) (bB rfl (fun _ _=>aV (t':=2) mL rfl rfl) (bB rfl (fun _ ⟨_,c⟩=>bG (t:=2) uQ c e0 rfl rfl) (bB rfl (fun _ _=>aV (t':=1) aJb rfl rfl) (bB rfl (fun _ ⟨_,c⟩=>bG (t:=1) yX c (V.mono u) rfl rfl) (bB rfl (fun _ _=>aV (t':=2) aPG rfl rfl) (bB rfl (fun _ ⟨_,c⟩=>bG (t:=2) eG c (V.mono u) rfl rfl) (jZ rfl ?_)))))));obtain ⟨i2,i3,e2,e3,e4⟩:=aD.lendSp c (zL d8 u) zt1
   obtain ⟨a0,e5,hm⟩:=aB hm
   refine aED call99 (pN e5 e3 e2) ?_
   rintro _ i4 ⟨rfl,e6⟩
   have e7:=e4 _ _ e6
   refine aR (aC ⟨⟨_,e7⟩,?_⟩)
   refine bB rfl (fun _ _=>jU (vs:=[(0,i64 m.from_),(1,i64 a0),(2,i64 m.to_)]) (cs:=[i64 m.from_,i64 a0,i64 m.to_]) aLz rfl (by kernel_rfl)) (jZ rfl (aKc ([⟨m.from_,a0,m.to_⟩]:List Edge) fun i5 i6 e8=>?_));refine aR (aC ⟨⟨_,e8⟩,?_⟩)
   refine jZ rfl ?_;obtain ⟨i7,i8,hm⟩:=aB hm
   refine aMq fun i9 j0 j1 b0=>?_;refine aR (aC ⟨⟨_,b0⟩,?_⟩)
   refine aCk ?_
   have j2:=e1 _ _ b0
   exact aP
  ·exact aP
theorem wH {arcs:(List cO)} {R:(List aH)} (hm:yB arcs=some R) (j:aD G K (L) w) (m:bE K a1 c2 arcs):
  Calls prog 86 ([zS a1 arcs.length c2]:List Value).toArray w (eQ fun v w'=>∃ b c,v=zS b R.length c/\aD G K (aG 9 K b c R::L) w'):=by
 refine aFe func86 ?_;unfold yB at hm
 refine aCk ?_;refine aU [] (fun f w=>∃ a d e,aIb a=some R/\f 3=zS d a.length e/\aD G K (aG 9 K d e a::L) w) aP ?_
 have n:=aD.nil (α:=aH) j 9 K
 obtain ⟨o,k,ho⟩:=aB hm
 exact cQ [6,7] k (fun g l f w=>∃ h i,f 3=zS h g.length i/\f 8=i64 l/\aD G K (aG 9 K h i g::L) w) aP aP
theorem yJ {s_:(List Int)} {R:aH} (hm:rC s_=some R) (a:aD G K (L) w) (b:G.lo=0) (c:bE K a1 c2 s_):
  Calls prog 41 ([zS a1 s_.length c2]:List Value).toArray w (eQ fun v w'=>v=str R/\aD G K (L) w'):=by
 exact aP
theorem uJ {t:bA} {k:Int} {R:(List Edge)} (hm:nR t k=some R) (y:aD G K (L) w) (z:bE K a1 c2 t.L) (J:bE K a4 c5 t.E):
  Calls prog 90 ([zA (zCa t a1 c2 a4 c5),i64 k]:List Value).toArray w (eQ fun v w'=>∃ j l,v=zS j R.length l/\aD G K (aG 72 K j l R::L) w'):=by
 refine aFe func90 ?_;unfold nR at hm
 refine aCk ?_;refine aKb fun V w8 o=>?_
 refine aCk ?_;refine aU [] (fun f w=>∃ d m n,aGd d=some R/\f 5=zS m d.length n/\aD G K (aG 72 K m n d::L) w) aP ?_
 have a2:=aD.nil (α:=Edge) o 72 K
 obtain ⟨a3,p,ho⟩:=aB hm
 refine cQ [1,9,10] p (fun e g f w=>∃ h i,f 5=zS h e.length i/\f 11=i64 g/\aD G K (aG 72 K h i e::L) w) aP ?_
 ·rintro e g q f a5 hm hr ⟨h,i,a6,a7,a8⟩
  unfold aBP at hm
  refine aCk ?_
  rcases aS hm with ⟨r,hm⟩|⟨r,hm⟩
  ·refine aCk ?_;refine aU [1,9,10,11] (fun f w=>∃ a b c,aBO g a=some q/\f 5=zS b a.length c/\aD G K (aG 72 K b c a::L) w) ?_ ?_
   ·rintro f a9 ⟨a,b,c,hm,u,x⟩
    unfold aBO at hm
    refine aCk ?_;exact ⟨_,(zI hm).symm,cE,b,c,u,rfl,x⟩
   exact aP
  ·exact aP
theorem aAD {m:bK} {p:aH} {b:Nat} {a:aH} {c:Nat} {R:Bool} (hm:tN m p a=some R) (g:aD G K (L) w) (h:fK K a1 b [str p]) (i:fK K a4 c [str a]):
  Calls prog 174 ([zA #[str m.Left,str m.Right,str m.Result],cX a1 b,cX a4 c]:List Value).toArray w (eQ fun v w'=>v=zB R/\aD G K (L) w'):=by
 refine aFe func174 ?_;unfold tN at hm
 refine aCk ?_;refine aKb fun j k l=>?_
 iterate 4 refine aFl ?_
 refine cI [] (fun f w=>∃ d,pP d=some R/\f 4=zB d/\aD G K (L) w) aP (aCk ?_);refine aF (R_minS rfl rfl) (aCk ?_)
 rcases aS hm with ⟨e,hm⟩|⟨e,hm⟩
 ·refine aCk ?_;refine aF (R_maxS rfl rfl) (aCk ?_)
  exact ⟨cE,m.Right == (mxS p a),hm,rfl,aKa⟩
 ·exact aP
theorem jB {s_:(List bK)} {d:aH} {b:Nat} {e:aH} {c:Nat} {R:Int} (hm:cU s_ d e=some R) (q:aD G K (L) w) (h:bE K a1 c2 s_) (i:fK K a4 b [str d]) (j:fK K a7 c [str e]):
  Calls prog 125 ([zS a1 s_.length c2,Value.func (.func 174) #[] #[cX a4 b,cX a7 c]]:List Value).toArray w (eQ fun v w'=>v=i64 R/\aD G K (L) w'):=by
 refine aFe func125 ?_;unfold cU at hm
 refine aCk ?_;refine aU [] (fun f w=>jO=some R/\aD G K (L) w) aP ?_
 obtain ⟨r,k,ho⟩:=aB hm
 refine gI [0,1,7] k (fun g f w=>f 8=i64 g/\aD G K (L) w) aP ?_
 ·rintro g t f u hm hr ⟨x,l⟩
  unfold cL at hm
  refine aCk ?_
  rcases aS hm with ⟨m,hm⟩|⟨m,hm⟩
  ·refine aCk ?_;refine dE (aCk ?_)
   obtain ⟨a,n,hm⟩:=aB hm
   refine aCk ?_;obtain ⟨y,z,o⟩:=bE.el (sz:=3) rfl h n
   cases o
   refine aCk ?_;obtain ⟨J,p,hm⟩:=aB hm
   exact eE (vs:=[zA #[str a.Left,str a.Right,str a.Result]]) (caps:=[cX a4 b,cX a7 c]) (us:=[zA #[str a.Left,str a.Right,str a.Result],cX a4 b,cX a7 c]) rfl call174 rfl rfl (aAD p l i j) aP
  ·exact aP
theorem aCh {s_:aNY} {a b:aH} {R:(aH × Bool)} (hm:zO s_ a b=some R) (o:aD G K (L) w) (p:bE K a1 c2 s_.Definitions) (q:bE K a4 c5 s_.Components) (d:bE K a7 c8 s_.Meetings) (r:bE K a10 c11 s_.Allowed) (t:bE K a13 c14 s_.Hidden):
  Calls prog 134 ([zA #[zS a1 s_.Definitions.length c2,zS a4 s_.Components.length c5,zS a7 s_.Meetings.length c8,zS a10 s_.Allowed.length c11,zS a13 s_.Hidden.length c14],str a,str b]:List Value).toArray w (eQ fun v w'=>v=zT #[str R.1,zB R.2]/\aD G K (L) w'):=by
 refine aFe func134 ?_;unfold zO at hm
 refine aCk ?_;refine aKb fun u x y=>?_
 refine aKb fun e z J=>?_;refine aKb fun g V h=>?_
 iterate 8 refine aFl ?_
 refine aF (eV (vs:=[zP (some ⟨e,0,none⟩),zP (some ⟨g,0,none⟩)]) rfl) ?_;obtain ⟨a0,i,j,k,a2⟩:=aD.lendBp h zt1
 obtain ⟨a3,c,l,m,a5⟩:=aD.lendBp k .head
 obtain ⟨a6,n,hm⟩:=aB hm
 exact aED call125 (jB n m (d.mono (zL i c)) (j.mono c) l) aP
theorem lR {a b:(List Int)} {R:Bool} (hm:cR a b=some R) (g:aD G K (L) w) (h:bE K a1 c2 a) (i:bE K a4 c5 b):
  Calls prog 53 ([zS a1 a.length c2,zS a4 b.length c5]:List Value).toArray w (eQ fun v w'=>v=zB R/\aD G K (L) w'):=by
 refine aFe func53 ?_;unfold cR at hm
 refine aCk ?_
 rcases aS hm with ⟨c,hm⟩|⟨c,hm⟩
 ·exact aP
 ·refine aCk ?_;refine aU [] (fun f w=>sG=some R/\aD G K (L) w) aP ?_
  obtain ⟨j,d,ho⟩:=aB hm
  exact gI [0,1,12] d (fun e f w=>f 13=i64 e/\aD G K (L) w) aP aP
theorem rT {n:aO} {a b:aH} {R:(aH × Bool)} (hm:lX n a b=some R) (r:aD G K (L) w) (c:G.lo=0) (t:bE K a1 c2 n.Parts) (g:bE K a4 c5 n.Meetings) (u:bE K a7 c8 n.Allowed) (x:bE K a10 c11 n.Hidden):
  Calls prog 91 ([zA #[zS a1 n.Parts.length c2,zS a4 n.Meetings.length c5,zS a7 n.Allowed.length c8,zS a10 n.Hidden.length c11],str a,str b]:List Value).toArray w (eQ fun v w'=>v=zT #[str R.1,zB R.2]/\aD G K (L) w'):=by
 refine aFe func91 ?_;unfold lX at hm
 refine aCk ?_;refine aKb fun y z h=>?_
 refine aCk ?_;obtain ⟨d,i,hm⟩:=aB hm
 refine aED call98 (aCu i h c) ?_
 rintro _ J ⟨j,k,rfl,l⟩
 refine aCk ?_;obtain ⟨V,m,hm⟩:=aB hm
 refine aED call98 (aCu m l c) ?_
 rintro _ a0 ⟨a2,a3,rfl,o⟩
 iterate 13 refine aFl ?_
 refine aF (jU (vs:=[(2,zS a4 n.Meetings.length c5)]) (cs:=[zS none 0 0,zS none 0 0,zS a4 n.Meetings.length c5,zS none 0 0,zS none 0 0]) bs_177 rfl (by kernel_rfl)) (aCk ?_);obtain ⟨p,q,hm⟩:=aB hm
 have hcl:=aCh (s_:=⟨[],[],n.Meetings,[],[]⟩) q o (aDB (α:=Definition) _) (aDB (α:=aJH) _) g (aDB (α:=aH) _) (aDB (α:=aH) _)
 refine aED call134 hcl ?_
 rintro _ a5 ⟨rfl,a6⟩
 iterate 9 refine aFl ?_
 exact cI [9,14] (fun f w=>∃ e,oX d p e=some R/\f 44=zB e/\aD G K (aG 2 K j k d.2.1::L) w) aP aP
theorem aCW {n:Int} {R:(List Int)} (hm:aDj n=some R) (j:aD G K (L) w):
  Calls prog 46 ([i64 n]:List Value).toArray w (eQ fun v w'=>∃ b c,v=zS b R.length c/\aD G K (aG 2 K b c R::L) w'):=by
 refine aFe func46 ?_;unfold aDj at hm
 refine aCk ?_;refine aU [] (fun f w=>∃ a d e,aNj a=some R/\f 3=zS d a.length e/\aD G K (aG 2 K d e a::L) w) aP ?_
 have m:=aD.nil (α:=Int) j 2 K
 obtain ⟨o,k,ho⟩:=aB hm
 exact cQ [5] k (fun g l f w=>∃ h i,f 3=zS h g.length i/\f 6=i64 l/\aD G K (aG 2 K h i g::L) w) aP aP
theorem lS {s_:(List Int)} {a R:Int} (hm:bP s_ a=some R) (d:aD G K (L) w) (e:bE K a1 c2 s_):
  Calls prog 55 ([zS a1 s_.length c2,i64 a]:List Value).toArray w (eQ fun v w'=>v=i64 R/\aD G K (L) w'):=by
 refine aFe func55 ?_;unfold bP at hm
 refine aCk ?_;refine aU [] (fun f w=>sH=some R/\aD G K (L) w) aP ?_
 obtain ⟨g,b,ho⟩:=aB hm
 exact gI [0,1,7] b (fun c f w=>f 8=i64 c/\aD G K (L) w) aP aP
theorem qZ {k:Int} {p:(List Int)} {a:Nat} {R:Int} (hm:wQ k p=some R) (b:aD G K (L) w) (c:fK K a1 a [zS a4 p.length c5]) (d:bE K a4 c5 p):
  Calls prog 95 ([i64 k,cX a1 a]:List Value).toArray w (eQ fun v w'=>v=i64 R/\aD G K (L) w'):=by
 exact aP
theorem cD {s_ R:(List aH)} (hm:bO s_=some R) (r:aD G K (L) w) (a:bE K a1 c2 s_):
  Calls prog 96 ([zS a1 s_.length c2]:List Value).toArray w (eQ fun v w'=>∃ b c,v=zS b R.length c/\aD G K (aG 9 K b c R::L) w'):=by
 refine aFe func96 ?_;unfold bO at hm
 iterate 9 refine aFl ?_
 refine aF (aJa fJ rfl rfl) (aCk ?_)
 rcases aHz a with ⟨g,h,j⟩|k
 ·subst g;subst h;subst j
  refine aIL rfl ?_
  replace hm:(some [])=some R:=hm
  exact aP
 ·refine aIM (Eq.trans rfl (congrArg zB k)) (aCk ?_);refine aKc ([]:List aH) fun t u l=>?_
  refine aCk ?_;obtain ⟨m,n,hm⟩:=aB hm
  refine aIl (i:=0) fJ underlying26 aFs rfl rfl l rfl (zR _) a n rfl rfl rfl rfl (fun d e o (p:aD G K (aG 9 K d e m::L) o)=>(aCk ?_));obtain rfl:=zI hm
  exact aMD results96 ⟨d,e,rfl,p⟩
theorem rW {t:bA} {a:(List Int)} {R:bA} (hm:vF t a=some R) (hs:aD G K (L) w) (h3:bE K a1 c2 t.L) (h6:bE K a4 c5 t.E) (y:bE K a7 c8 a):
  Calls prog 50 ([zA (zCa t a1 c2 a4 c5),zS a7 a.length c8]:List Value).toArray w (eQ fun v w'=>∃ b4 b5 b6 b7,v=zA (zCa R b4 b5 b6 b7)/\aD G K (aG 9 K b4 b5 R.L::aG 72 K b6 b7 R.E::L) w'):=by
 let m:=zG
 let z:=[zS a7 a.length c8]
 refine aFe func50 ?_;unfold vF at hm
 refine aCk ?_;refine aKb fun e4 j1 j2=>?_
 refine aKb fun c j3 j4=>?_;refine aFm fun n j5 e5=>?_
 iterate 4 refine aFl ?_
 refine aF (eV (vs:=[zP (some ⟨c,0,none⟩)]) rfl) (aCk ?_);refine cI [2,4,5] (fun f w=>∃ g b h d e,aAw t a g b=some R/\f 6=zP (some ⟨h,0,none⟩)/\aD G K (aG 9 K d e b::box h 35 [i64 (a.length:Int),i64 g,zS d b.length e,zS none 0 0]::box n 35 m::box c 29 z::box e4 35 (zC t a1 c2 a4 c5)::L) w) ?_ ?_
 ·rintro f j6 ⟨g,b,h,d,e,hm,j7,e6⟩
  unfold aAw at hm
  refine aCk ?_;refine aU [4,6] (fun f w=>∃ J p q,aAv a g b J=some R/\aD G K (aG 72 K p q J::aG 9 K d e b::box h 35 [i64 (a.length:Int),i64 g,zS d b.length e,zS p J.length q]::box n 35 m::L) w) ?_ ?_
  ·rintro f j8 ⟨J,p,q,hm,e7⟩
   unfold aAv at hm
   refine aCk ?_;obtain ⟨b8,e8,hm⟩:=aB hm
   refine aED call97 (lib_SortEdge e7 e8) ?_
   rintro _ e9 ⟨rfl,f0,f1⟩
   have j9:aD G K (aG 72 K p q b8::aG 9 K d e b::box h 35 [i64 (a.length:Int),i64 g,zS d b.length e,zS p b8.length q]::box n 35 m::L) e9:=by rw [←f0];exact f1
   exact aP
  have k0:=aD.nil (α:=Edge) e6 72 K
  obtain ⟨k1,f2,ho⟩:=aB hm
  refine cQ [4,5,6,23,24] f2 (fun o V f w=>∃ r u,f 25=i64 V/\aD G K (aG 72 K r u o::aG 9 K d e b::box h 35 [i64 (a.length:Int),i64 g,zS d b.length e,zS r o.length u]::box n 35 m::box c 29 z::L) w) aP ?_
  ·rintro o V b9 f k2 hm hr ⟨r,u,k3,k4⟩
   unfold mJ at hm
   refine aCk ?_
   rcases aS hm with ⟨f3,hm⟩|⟨f3,hm⟩
   ·refine aCk ?_;refine aU [4,5,6,23,24,25] (fun f w=>∃ a0 a2 a3,mI V a0=some b9/\aD G K (aG 72 K a2 a3 a0::aG 9 K d e b::box h 35 [i64 (a.length:Int),i64 g,zS d b.length e,zS a2 a0.length a3]::box n 35 m::box c 29 z::L) w) ?_ ?_
    ·rintro f k5 ⟨a0,a2,a3,hm,f4⟩
     unfold mI at hm
     refine aCk ?_;exact ⟨_,(zI hm).symm,cE,a2,a3,rfl,f4⟩
    refine aCk ?_;obtain ⟨k,f5,hm⟩:=aB hm
    refine aCk ?_;obtain ⟨k6,k7,f6⟩:=bE.el (sz:=3) rfl h6 f5
    cases f6
    refine aCk ?_;refine aFm fun f7 k8 k9=>?_
    refine aJz fun l0 f8=>?_;refine aCk ?_
    obtain ⟨l1,c0,l2,l3,f9⟩:=aD.lendBp f8 .head
    refine aKg [(0,0),(1,0),(2,0),(4,0),(5,0),(6,0),(3,1),(7,1),(8,0),(9,0)] fun l4 g0=>?_;refine aCk ?_
    refine jZ rfl ?_;obtain ⟨l5,g1,g2,g3,g4⟩:=aD.lendBp g0 zt4
    obtain ⟨g5,g6,hm⟩:=aB hm
    refine eE (vs:=[i64 k.F]) (caps:=[cX (some ⟨c,0,none⟩) 0]) (us:=[i64 k.F,cX (some ⟨c,0,none⟩) 0]) rfl call95 rfl rfl (qZ g6 g3 g2 (y.mono (zL c0 g1))) ?_
    rintro _ l6 ⟨rfl,g7⟩
    have c1:=g4 _ _ g7
    refine aR (aC ⟨⟨_,c1⟩,?_⟩)
    refine jZ rfl ?_;obtain ⟨l7,g8,g9,h0,h1⟩:=aD.lendBp c1 .head
    obtain ⟨h2,h4,hm⟩:=aB hm
    refine eE (vs:=[i64 k.To]) (caps:=[cX (some ⟨c,0,none⟩) 0]) (us:=[i64 k.To,cX (some ⟨c,0,none⟩) 0]) rfl call95 rfl rfl (qZ h4 h0 g9 (y.mono (zL c0 g8))) ?_
    rintro _ l8 ⟨rfl,h5⟩
    have c3:=h1 _ _ h5
    refine aR (aC ⟨⟨_,c3⟩,?_⟩)
    refine aCk ?_;refine qE ?_
    have l9:=f9 _ _ c3
    iterate 2 refine aFl ?_
    exact cI [4,5,6,8,9,10,23,24,25] (fun f w=>∃ c4,oB o V k g5 h2 c4=some b9/\f 42=zB c4/\aD G K (box f7 72 [i64 k.F,i64 k.B,i64 k.To]::box c 29 z::aG 72 K r u o::aG 9 K d e b::box h 35 [i64 (a.length:Int),i64 g,zS d b.length e,zS r o.length u]::box n 35 m::L) w) aP aP
   ·exact aP
 obtain ⟨m0,x,a9,h7,b0⟩:=aD.lendBp e5 zt1
 obtain ⟨h8,l,m1,i0,b1⟩:=aD.lendBp h7 zt1
 refine pY (C:=fun w'=>∃ L',aD G h8 L' w') [11] Tryz_mixed (by kernel_rfl) (fun m2 i1=>?_)
 have a5:=aD.mono i0 i1
 refine dH (i:=0) rfl (by kernel_rfl) ⟨_,a5⟩ (fun _ ⟨_,a5⟩=>bG (t:=0) tV a5 (a9.mono l) rfl rfl) (aGy 1 ?_);refine aGy 2 ?_
 refine aGy 3 ?_;refine aGy 4 ?_
 refine aGy 6 ?_;refine aGy 7 ?_
 refine oT (i:=5) (j:=10) (by kernel_rfl) rfl rfl ?_ ?_
 ·obtain ⟨a6,i2,hm⟩:=aB hm
  refine eE (vs:=[i64 t.I]) (caps:=[cX (some ⟨c,0,none⟩) 0]) (us:=[i64 t.I,cX (some ⟨c,0,none⟩) 0]) rfl call95 rfl rfl (qZ i2 a5 (a9.mono l) (y.mono (zL x l))) ?_
  rintro _ m3 ⟨rfl,c6⟩
  refine aR (aC ⟨fun _=>⟨_,c6⟩,?_⟩)
  refine oT (i:=8) (j:=10) (by kernel_rfl) rfl rfl ?_ ?_
  ·obtain ⟨c7,i3,hm⟩:=aB hm
   refine aED call96 (cD i3 c6 (h3.mono (zL x l))) ?_
   rintro _ m4 ⟨c9,d0,rfl,d1⟩
   refine aR (aC ⟨fun _=>⟨_,d1⟩,?_⟩)
   refine dH (i:=9) rfl (by kernel_rfl) ⟨_,d1⟩ (fun _ _=>jU (vs:=[(0,i64 (a.length:Int)),(1,i64 a6),(2,zS c9 c7.length d0)]) (cs:=[i64 (a.length:Int),i64 a6,zS c9 c7.length d0,zS none 0 0]) aEJ rfl (by kernel_rfl)) (bI (i:=10) (by kernel_rfl) rfl (aFm fun m5 m6 d2=>?_));refine aR (aC ⟨fun _=>⟨_,d2⟩,?_⟩)
   refine bI (i:=11) (by kernel_rfl) rfl ?_
   have i4:=b1 _ _ d2
   have m7:=b0 _ _ i4
   refine aJz fun m8 m9=>?_;refine aR (aC ⟨aCe rfl,?_⟩)
   exact iC (by kernel_rfl) aP
  ·refine aFm fun n0 n1 d3=>?_;refine aR (aC ⟨fun _=>⟨_,d3⟩,?_⟩)
   refine bI (i:=8) (by kernel_rfl) rfl ?_;obtain ⟨d4,i5,hm⟩:=aB hm
   refine aED call96 (cD i5 d3 (h3.mono (zL x l))) ?_
   rintro _ n2 ⟨d5,d6,rfl,b2⟩
   refine aR (aC ⟨fun _=>⟨_,b2⟩,?_⟩)
   refine dH (i:=9) rfl (by kernel_rfl) ⟨_,b2⟩ (fun _ _=>jU (vs:=[(0,i64 (a.length:Int)),(1,i64 a6),(2,zS d5 d4.length d6)]) (cs:=[i64 (a.length:Int),i64 a6,zS d5 d4.length d6,zS none 0 0]) aEJ rfl (by kernel_rfl)) (bI (i:=11) (by kernel_rfl) rfl ?_)
   have i6:=b1 _ _ b2
   have n3:=b0 _ _ i6
   refine aJz fun n4 n5=>?_;refine aR (aC ⟨aCe rfl,?_⟩)
   exact iC (by kernel_rfl) aP
 ·refine aFm fun n6 n7 d7=>?_;refine aR (aC ⟨fun _=>⟨_,d7⟩,?_⟩)
  refine bI (i:=5) (by kernel_rfl) rfl ?_;obtain ⟨d8,i7,hm⟩:=aB hm
  refine eE (vs:=[i64 t.I]) (caps:=[cX (some ⟨c,0,none⟩) 0]) (us:=[i64 t.I,cX (some ⟨c,0,none⟩) 0]) rfl call95 rfl rfl (qZ i7 d7 (a9.mono l) (y.mono (zL x l))) ?_
  rintro _ n8 ⟨rfl,d9⟩
  refine aR (aC ⟨fun _=>⟨_,d9⟩,?_⟩)
  refine bI (i:=8) (by kernel_rfl) rfl ?_;obtain ⟨e0,i8,hm⟩:=aB hm
  refine aED call96 (cD i8 d9 (h3.mono (zL x l))) ?_
  rintro _ n9 ⟨e1,e2,rfl,b3⟩
  refine aR (aC ⟨fun _=>⟨_,b3⟩,?_⟩)
  refine dH (i:=9) rfl (by kernel_rfl) ⟨_,b3⟩ (fun _ _=>jU (vs:=[(0,i64 (a.length:Int)),(1,i64 d8),(2,zS e1 e0.length e2)]) (cs:=[i64 (a.length:Int),i64 d8,zS e1 e0.length e2,zS none 0 0]) aEJ rfl (by kernel_rfl)) (bI (i:=11) (by kernel_rfl) rfl ?_)
  have i9:=b1 _ _ b3
  have o0:=b0 _ _ i9
  refine aJz fun o1 o2=>?_;refine aR (aC ⟨aCe rfl,?_⟩)
  exact iC (by kernel_rfl) aP
theorem aCv {s_ R:aH} (hm:oI s_=some R) (a:aD G K (L) w) (b:G.lo=0):
  Calls prog 51 ([str s_]:List Value).toArray w (eQ fun v w'=>v=str R/\aD G K (L) w'):=by
 exact aP
theorem xR {s_:(List aH)} {a:aH} {R:Bool} (hm:cW s_ a=some R) (b:aD G K (L) w) (c:bE K a1 c2 s_):
  Calls prog 52 ([zS a1 s_.length c2,str a]:List Value).toArray w (eQ fun v w'=>v=zB R/\aD G K (L) w'):=by
 exact aP
theorem aCX {n:aO} {a:aH} {R:(aH × Bool)} (hm:aAI n a=some R) (b:aD G K (L) w) (c:G.lo=0) (d:bE K a1 c2 n.Parts) (e:bE K a4 c5 n.Meetings) (g:bE K a7 c8 n.Allowed) (h:bE K a10 c11 n.Hidden):
  Calls prog 19 ([zA #[zS a1 n.Parts.length c2,zS a4 n.Meetings.length c5,zS a7 n.Allowed.length c8,zS a10 n.Hidden.length c11],str a]:List Value).toArray w (eQ fun v w'=>v=zT #[str R.1,zB R.2]/\aD G K (L) w'):=by
 exact aP
theorem gO {c:(List (List Int))} {e:(List (aH × Int))} {b:Nat} {a:(List cO)} {s_:(List Int)} {R:(Int × (List (List Int)) × (List (aH × Int)))} (hm:dP c e a s_=some R) (V:aD G K (aG 29 Kf a2 c3 c::kV b e::aG 129 K a5 c6 a::box b1 127 [zS a2 c.length c3,zM (some b),zS a5 a.length c6,Value.func (.func 41) #[] #[]]::L) w) (hG:G.lo=0) (a1:Hp.le Kf K) (l:bE Kf a7 c8 s_):
  Calls prog 83 ([zP (some ⟨b1,0,none⟩),zS a7 s_.length c8]:List Value).toArray w (eQ fun v w'=>∃ m n,v=i64 R.1/\aD G K (aG 29 Kf m n R.2.1::kV b R.2.2::aG 129 K a5 c6 a::box b1 127 [zS m R.2.1.length n,zM (some b),zS a5 a.length c6,Value.func (.func 41) #[] #[]]::L) w'):=by
 let g:=[zS a2 c.length c3,zM (some b),zS a5 a.length c6,Value.func (.func 41) #[] #[]]
 refine aFe func83 ?_;unfold dP at hm
 refine aCk ?_;obtain ⟨o,a3,hm⟩:=aB hm
 refine eE (vs:=[zS a7 s_.length c8]) (caps:=[]) (us:=[zS a7 s_.length c8]) rfl call41 rfl rfl (yJ a3 V hG (l.mono a1)) ?_
 rintro _ b7 ⟨rfl,p⟩
 refine aCk ?_;refine aF (R_look (kv:=e) (k:=o) (z:=(0:Int)) runUnderlying124 ko_9 zeroValue2 p (i:=1) rfl rfl rfl) ?_
 iterate 7 refine aFl ?_
 refine tS [] (fun f w=>∃ q j r t u,nS q j r=some R/\f 6=i64 q/\aD G K (aG 29 Kf t u j::kV b r::aG 129 K a5 c6 a::box b1 127 [zS t j.length u,zM (some b),zS a5 a.length c6,Value.func (.func 41) #[] #[]]::L) w) aP (aCk ?_)
 rcases aS hm with ⟨a4,hm⟩|⟨a4,hm⟩
 ·refine aCk ?_;obtain ⟨d,a6,hm⟩:=aB hm
  refine aPx (i:=1) (k:=o) (v:=(c.length:Int)) runUnderlying124 ko_9 p rfl rfl rfl rfl a6 (fun a8 (a9:aD G K (aG 29 Kf a2 c3 c::kV b d::aG 129 K a5 c6 a::box b1 127 g::L) a8)=>(aCk ?_));refine cZ (Kt:=Kf) (xs:=([s_]:List (List Int))) (cs:=[zS a7 s_.length c8]) (vs:=[(0,zS a7 s_.length c8)]) iG aAb rfl rfl a9 rfl (by kernel_rfl) rfl rfl rfl ⟨⟨a7,c8,rfl,l⟩,trivial⟩ (fun b0 b2 (b3:aD G K (aG 29 Kf b0 1 ([s_]:List (List Int))::aG 29 Kf a2 c3 c::kV b d::aG 129 K a5 c6 a::box b1 127 g::L) b2)=>?_)
  obtain ⟨x,b4,hm⟩:=aB hm
  refine aIQ (i:=0) Kf iG underlying36 aAb rfl rfl b3 rfl (zR _) (zR _) b4 rfl rfl rfl rfl (fun _ _ _ h=>El.one h) (fun y J b5 (b8:aD G K (aG 29 Kf y J x::kV b d::aG 129 K a5 c6 a::box b1 127 g::L) b5)=>(aCk ?_));refine aJz fun b9 b6=>?_
  refine aCk ?_;exact ⟨cE,(c.length:Int),x,d,y,J,hm,rfl,b6⟩
 ·exact aP
theorem eK {s_ R:(List Int)} (hm:bY s_=some R) (r:aD G K (L) w) (a:bE K a1 c2 s_):
  Calls prog 70 ([zS a1 s_.length c2]:List Value).toArray w (eQ fun v w'=>∃ b c,v=zS b R.length c/\aD G K (aG 2 K b c R::L) w'):=by
 refine aFe func70 ?_;unfold bY at hm
 iterate 9 refine aFl ?_
 refine aF (aJa bR rfl rfl) (aCk ?_)
 rcases aHz a with ⟨g,h,j⟩|k
 ·subst g;subst h;subst j
  refine aIL rfl ?_
  replace hm:(some [])=some R:=hm
  exact aP
 ·refine aIM (Eq.trans rfl (congrArg zB k)) (aCk ?_);refine aKc ([]:List Int) fun t u l=>?_
  refine aCk ?_;obtain ⟨m,n,hm⟩:=aB hm
  refine aIl (i:=0) bR underlying29 yY rfl rfl l rfl (zR _) a n rfl rfl rfl rfl (fun d e o (p:aD G K (aG 2 K d e m::L) o)=>(aCk ?_));obtain rfl:=zI hm
  exact aMD results70 ⟨d,e,rfl,p⟩
theorem mE {i k:Int} {p:(List Int)} {d:Nat} {R:(List Int)} (hm:kG i k p=some R) (o:aD G K (L) w) (J:fK K a1 d [zS a4 p.length c5]) (q:bE K a4 c5 p):
  Calls prog 89 ([i64 i,i64 k,cX a1 d]:List Value).toArray w (eQ fun v w'=>∃ e g,v=zS e R.length g/\aD G K (aG 2 K e g R::L) w'):=by
 refine aFe func89 ?_;unfold kG at hm
 refine aCk ?_;obtain ⟨V,r,hm⟩:=aB hm
 refine aED call70 (eK r o q) ?_
 rintro _ a0 ⟨a,b,rfl,j⟩
 refine aCk ?_;obtain ⟨a2,c,hm⟩:=aB hm
 have u:=dJ j (i:=0) rfl c
 refine aF (fI bR rfl u rfl rfl rfl c) ?_;obtain ⟨l,m,hm⟩:=aB hm
 refine pO (i:=0) (t:=0) (ns:=[i64 k]) (e':=(k:Int)) sizeOf2 j rfl (zR _) rfl rfl rfl c m rfl rfl (dM rfl) rfl (fun cs h=>by cases h;rfl) (fun x (y:aD G K (aG 2 K a b l::L) x)=>?_)
 iterate 4 refine aFl ?_
 refine bH (v:=zS a l.length b) (Eq.trans rfl (congrArg (fun n=>zS a n b) (iS m))) (aCk ?_);obtain rfl:=zI hm
 exact aMD results89 ⟨a,b,rfl,y⟩
theorem pS {a:aH} {d:(List Int)} {e:(List (List Int))} {q:(List (aH × Int))} {b:Nat} {g:(List cO)} {p:Int} {r:Nat} {R:((List (List Int)) × (List (aH × Int)) × (List cO))} (hm:kT a d e q g p=some R) (hs:aD G K (aG 29 Kf a6 c7 e::kV b q::aG 129 K a9 c10 g::box b5 127 [zS a6 e.length c7,zM (some b),zS a9 g.length c10,Value.func (.func 41) #[] #[]]::box b4 123 [zP (some ⟨b5,0,none⟩)]::L) w) (t:G.lo=0) (u:Hp.le Kf K) (x:bE Kf a1 c2 d) (c9:fK K a11 r [i64 p]):
  Calls prog 84 ([str a,zS a1 d.length c2,zP (some ⟨b4,0,none⟩),cX a11 r]:List Value).toArray w (eQ fun v w'=>∃ y z J V,v=zT #[]/\aD G K (aG 29 Kf y z R.1::kV b R.2.1::aG 129 K J V R.2.2::box b5 127 [zS y R.1.length z,zM (some b),zS J R.2.2.length V,Value.func (.func 41) #[] #[]]::box b4 123 [zP (some ⟨b5,0,none⟩)]::L) w'):=by
 refine aFe func84 ?_;unfold kT at hm
 refine cI [] (fun f w=>∃ h a0 k a2 a3 a4 a5,aAc h a0 k=some R/\aD G K (aG 129 K a4 a5 k::aG 29 Kf a2 a3 h::kV b a0::box b5 127 [zS a2 h.length a3,zM (some b),zS a4 k.length a5,Value.func (.func 41) #[] #[]]::box b4 123 [zP (some ⟨b5,0,none⟩)]::L) w) aP ?_;obtain ⟨b7,a7,d0,b8,l⟩:=aD.lendBp hs zt4
 refine pY (C:=fun w'=>∃ L',aD G b7 L' w') [] Tryz_mixed (by kernel_rfl) (fun d1 b9=>?_)
 have m:=aD.mono b8 b9
 refine aGy 0 ?_;refine aGy 1 ?_
 refine aGy 2 ?_;refine aGy 3 ?_
 refine aGy 5 ?_;refine aGy 6 ?_
 refine aGy 7 ?_;refine aGy 8 ?_
 refine oT (i:=4) (j:=9) (by kernel_rfl) rfl rfl ?_ ?_
 ·iterate 1 refine aFl ?_
  refine aR (aC ⟨fun _=>⟨_,m⟩,?_⟩)
  refine bI (i:=9) (by kernel_rfl) rfl ?_;obtain ⟨n,c0,hm⟩:=aB hm
  refine aED call83 (gO (Kf:=Kf) c0 m t (zL u a7) x) ?_
  rintro _ d2 ⟨d3,d4,rfl,a8⟩
  refine aR (aC ⟨fun _=>⟨_,a8⟩,?_⟩)
  refine dH (i:=10) rfl (by kernel_rfl) ⟨_,a8⟩ (fun _ _=>jU (vs:=[(0,i64 p),(1,str a),(2,i64 n.1)]) (cs:=[i64 p,str a,i64 n.1]) aOb rfl (by kernel_rfl)) (bI (i:=11) (by kernel_rfl) rfl (aKc ([⟨p,a,n.1⟩]:List cO) fun d5 d6 c1=>?_));refine aR (aC ⟨fun _=>⟨_,c1⟩,?_⟩)
  refine bI (i:=12) (by kernel_rfl) rfl ?_;obtain ⟨d7,d8,hm⟩:=aB hm
  refine aMq fun d9 c45 e0 c3=>?_;refine aR (aC ⟨fun _=>⟨_,c3⟩,?_⟩)
  refine aGy 13 ?_;refine aGy 14 ?_
  refine bI (i:=15) (by kernel_rfl) rfl (aJz fun e1 b0=>?_);refine aR (aC ⟨fun _=>⟨_,b0⟩,?_⟩)
  refine iC (by kernel_rfl) ?_
  have e2:=l _ _ b0
  exact aP
 ·obtain ⟨c,c4,hm⟩:=aB hm
  refine aED call83 (gO (Kf:=Kf) c4 m t (zL u a7) x) ?_
  rintro _ e3 ⟨e4,e5,rfl,o⟩
  refine aR (aC ⟨fun _=>⟨_,o⟩,?_⟩)
  refine dH (i:=10) rfl (by kernel_rfl) ⟨_,o⟩ (fun _ _=>jU (vs:=[(0,i64 p),(1,str a),(2,i64 c.1)]) (cs:=[i64 p,str a,i64 c.1]) aOb rfl (by kernel_rfl)) (oT (i:=4) (j:=11) (by kernel_rfl) rfl rfl ?_ ?_)
  ·iterate 1 refine aFl ?_
   refine aR (aC ⟨fun _=>⟨_,o⟩,?_⟩)
   refine bI (i:=11) (by kernel_rfl) rfl (aKc ([⟨p,a,c.1⟩]:List cO) fun e6 e7 c5=>?_);refine aR (aC ⟨fun _=>⟨_,c5⟩,?_⟩)
   refine bI (i:=12) (by kernel_rfl) rfl ?_;obtain ⟨e8,e9,hm⟩:=aB hm
   refine aMq fun f0 f1 f2 c6=>?_;refine aR (aC ⟨fun _=>⟨_,c6⟩,?_⟩)
   refine aGy 13 ?_;refine aGy 14 ?_
   refine bI (i:=15) (by kernel_rfl) rfl (aJz fun f3 b1=>?_);refine aR (aC ⟨fun _=>⟨_,b1⟩,?_⟩)
   refine iC (by kernel_rfl) ?_
   have f4:=l _ _ b1
   exact aP
  ·refine aKc ([⟨p,a,c.1⟩]:List cO) fun f5 f6 b2=>?_;refine aR (aC ⟨fun _=>⟨_,b2⟩,?_⟩)
   refine bI (i:=4) (by kernel_rfl) rfl ?_
   iterate 1 refine aFl ?_
   refine aR (aC ⟨fun _=>⟨_,b2⟩,?_⟩)
   refine bI (i:=12) (by kernel_rfl) rfl ?_;obtain ⟨f7,f8,hm⟩:=aB hm
   refine aMq fun f9 g0 g1 c8=>?_;refine aR (aC ⟨fun _=>⟨_,c8⟩,?_⟩)
   refine aGy 13 ?_;refine aGy 14 ?_
   refine bI (i:=15) (by kernel_rfl) rfl (aJz fun g2 b3=>?_);refine aR (aC ⟨fun _=>⟨_,b3⟩,?_⟩)
   refine iC (by kernel_rfl) ?_
   have g3:=l _ _ b3
   exact aP
theorem oN {c:aH} {b:(List Int)} {i:Nat} {a:aO} {j:Nat} {g:(List (List Int))} {k:(List (aH × Int))} {d:Nat} {h:(List cO)} {l:Int} {e:Nat} {R:((List (List Int)) × (List (aH × Int)) × (List cO))} (hm:jK c b a g k h l=some R) (t:aD G K (aG 29 Kf a24 c25 g::kV d k::aG 129 K a27 c28 h::box b23 127 [zS a24 g.length c25,zM (some d),zS a27 h.length c28,Value.func (.func 41) #[] #[]]::box b22 123 [zP (some ⟨b23,0,none⟩)]::L) w) (m:G.lo=0) (u:Hp.le Kf K) (x:bE Kf a1 c2 b) (h6:fK K a4 i [Value.func (.func 19) #[zA #[zS a7 a.Parts.length c8,zS a10 a.Meetings.length c11,zS a13 a.Allowed.length c14,zS a16 a.Hidden.length c17]] #[]]) (y:bE K a7 c8 a.Parts) (z:bE K a10 c11 a.Meetings) (J:bE K a13 c14 a.Allowed) (V:bE K a16 c17 a.Hidden) (a9:fK K a19 j [Value.func (.func 84) #[] #[zP (some ⟨b22,0,none⟩),cX a29 e]]) (a0:fK K a29 e [i64 l]):
  Calls prog 45 ([str c,zS a1 b.length c2,cX a4 i,cX a19 j]:List Value).toArray w (eQ fun v w'=>∃ n o p q,v=zT #[]/\aD G K (aG 29 Kf n o R.1::kV d R.2.1::aG 129 K p q R.2.2::box b23 127 [zS n R.1.length o,zM (some d),zS p R.2.2.length q,Value.func (.func 41) #[] #[]]::box b22 123 [zP (some ⟨b23,0,none⟩)]::L) w'):=by
 refine aFe func45 ?_;unfold jK at hm
 refine aCk ?_;obtain ⟨r,a2,hm⟩:=aB hm
 refine aNh (bs:=[zA #[zS a7 a.Parts.length c8,zS a10 a.Meetings.length c11,zS a13 a.Allowed.length c14,zS a16 a.Hidden.length c17]]) (vs:=[str c]) (caps:=[]) (us:=[zA #[zS a7 a.Parts.length c8,zS a10 a.Meetings.length c11,zS a13 a.Allowed.length c14,zS a16 a.Hidden.length c17],str c]) rfl call19 rfl rfl (aCX a2 t m y z J V) ?_
 rintro _ b0 ⟨rfl,a3⟩
 refine aCk ?_
 rcases aS hm with ⟨a5,hm⟩|⟨a5,hm⟩
 ·refine aCk ?_;obtain ⟨b1,a6,hm⟩:=aB hm
  exact eE (vs:=[str r.1,zS a1 b.length c2]) (caps:=[zP (some ⟨b22,0,none⟩),cX a29 e]) (us:=[str r.1,zS a1 b.length c2,zP (some ⟨b22,0,none⟩),cX a29 e]) rfl call84 rfl rfl (pS (Kf:=Kf) a6 a3 m u x a0) aP
 ·exact aP
end Gv
