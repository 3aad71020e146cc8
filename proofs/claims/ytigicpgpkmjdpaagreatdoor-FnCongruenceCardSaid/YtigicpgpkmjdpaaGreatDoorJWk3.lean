/- Walks, printed by program. -/
import Derived.Test.YtigicpgpkmjdpaaGreatDoorJWk1
set_option linter.all false
namespace Gv
open Go.Value renaming slice→zS,bool→zB,pointer→zP
open Option.some renaming inj→zI
open Gv.Hp renaming le_trans→zL,le_refl→zR
open Go Go.Proofs Go.Proofs.Tryz
set_option maxRecDepth 20000
set_option maxHeartbeats 40000000
variable {G:zZ} {K:Hp} {L:List jM} {w:World} {a1 a4 a7 a10:Option Addr} {c2 c5 c8 c11:Nat}
theorem aEP {q:(List UInt8)} {R:(aX × (List Int))} (hm:aBP q=some R) (hs:aF G K (L) w) (h3:bG K a1 c2 q):
  Calls prog 5 ([zS a1 q.length c2]:List Value).toArray w (eZ fun v w'=>∃ K' f0 f1 f2 f3 f4 f5 f6 f7 f8 f9,v=Value.tuple #[Value.agg #[zS f0 R.1.Parts.length f1,zS f2 R.1.Meetings.length f3,zS f4 R.1.Allowed.length f5,zS f6 R.1.Hidden.length f7],zS f8 R.2.length f9]/\Hp.le K K'/\bG K' f0 f1 R.1.Parts/\bG K' f2 f3 R.1.Meetings/\bG K' f4 f5 R.1.Allowed/\bG K' f6 f7 R.1.Hidden/\bG K' f8 f9 R.2/\aF G K' (L) w'):=by
 let x:=[zS none 0 0,zS none 0 0,zS none 0 0,zS none 0 0]
 refine aO func5 rfl (by kernel_rfl) (by show (1:Nat)<=54;decide) ?_;unfold aBP at hm
 refine aK (aZ (vs:=x) zeroValue28 hs rfl (fun r w5 i1=>(aJ (v:=zS none 0 0) (aH (aK (aG (v:=zS a1 q.length c2) ?_))))));obtain ⟨r7,q8,hm⟩:=aB hm
 refine aR (vs:=[zS a1 q.length c2]) call11 rfl (aDA q8 i1 h3) ?_
 rintro _ n6 ⟨t,rfl,i3⟩
 refine aJ (v:=zP (some ⟨t,0,none⟩)) (aH (aK (aG (v:=zP (some ⟨t,0,none⟩)) ?_)));obtain ⟨a,i4,hm⟩:=aB hm
 refine aR (vs:=[zP (some ⟨t,0,none⟩)]) call12 rfl (aEO i4 i3 h3) ?_
 rintro _ n7 ⟨c9,d0,d1,g,j,d,e,b,c,rfl,a7,i5⟩
 refine aZ (vs:=x) zeroValue28 i5 rfl (fun p n8 i6=>(bS (i:=0) (ns:=[zS d0 a.1.Parts.length d1,zS g a.1.Meetings.length j,zS d a.1.Allowed.length e,zS b a.1.Hidden.length c]) (us:=[zS d0 a.1.Parts.length d1,zS g a.1.Meetings.length j,zS d a.1.Allowed.length e,zS b a.1.Hidden.length c]) sizeOf28 i6 rfl rfl rfl rfl rfl (dQ rfl) rfl rfl (fun i7 (n9:aF G c9 (box p 28 [zS d0 a.1.Parts.length d1,zS g a.1.Meetings.length j,zS d a.1.Allowed.length e,zS b a.1.Hidden.length c]::aL 35 c9 d0 d1 a.1.Parts::aL 67 K g j a.1.Meetings::aL 9 K d e a.1.Allowed::aL 9 K b c a.1.Hidden::box t 64 [zS a1 q.length c2,i64 a.2.1,Value.int .u64 a.2.2]::box r 28 x::L) i7)=>(aH (aM (aQ [2,4,5] (fun f w=>∃ u a3 a4 a9 b5 b6,Hp.le c9 u/\vQ q a a3 a4 a9=some R/\aF G u (aL 35 u b5 b6 a9::box p 28 [zS b5 a9.length b6,zS g a.1.Meetings.length j,zS d a.1.Allowed.length e,zS b a.1.Hidden.length c]::aL 67 K g j a.1.Meetings::aL 9 K d e a.1.Allowed::aL 9 K b c a.1.Hidden::box t 64 [zS a1 q.length c2,i64 a3,Value.int .u64 a4]::box r 28 x::L) w) ?_ ?_))))))
 ·rintro f i8 ⟨u,a3,a4,a9,b5,b6,b0,hm,d2⟩
  unfold vQ at hm
  refine aC (mB [2,4,5] (fun f w=>∃ k l m,rX q a a3 a4 k=some R/\aF G u (aL 35 u l m k::box p 28 [zS l k.length m,zS g a.1.Meetings.length j,zS d a.1.Allowed.length e,zS b a.1.Hidden.length c]::aL 67 K g j a.1.Meetings::aL 9 K d e a.1.Allowed::aL 9 K b c a.1.Hidden::box t 64 [zS a1 q.length c2,i64 a3,Value.int .u64 a4]::box r 28 x::L) w) ?_ ?_)
  ·rintro f o0 ⟨k,l,m,hm,i9⟩
   unfold rX at hm
   refine aK (cK (Kt:=K) (xs:=([]:List Int)) (cs:=[]) (vs:=[]) bJ zD rfl rfl i9 rfl (by kernel_rfl) rfl rfl rfl trivial (fun g0 j0 (o1:aF G u (aL 2 K g0 0 ([]:List Int)::aL 35 u l m k::box p 28 [zS l k.length m,zS g a.1.Meetings.length j,zS d a.1.Allowed.length e,zS b a.1.Hidden.length c]::aL 67 K g j a.1.Meetings::aL 9 K d e a.1.Allowed::aL 9 K b c a.1.Hidden::box t 64 [zS a1 q.length c2,i64 a3,Value.int .u64 a4]::box r 28 x::L) j0)=>(aJ (v:=zS g0 ([]:List Int).length 0) (aH (aM (aK (aJ (v:=i64 0) (aH (aQ [2,4,5] (fun f w=>∃ b7 y z,aAA q a a3 a4 k b7=some R/\f 6=zS y b7.length z/\aF G u (aL 2 K y z b7::aL 35 u l m k::box p 28 [zS l k.length m,zS g a.1.Meetings.length j,zS d a.1.Allowed.length e,zS b a.1.Hidden.length c]::aL 67 K g j a.1.Meetings::aL 9 K d e a.1.Allowed::aL 9 K b c a.1.Hidden::box t 64 [zS a1 q.length c2,i64 a3,Value.int .u64 a4]::box r 28 x::L) w) ?_ ?_)))))))))
   ·rintro f j1 ⟨b7,y,z,hm,o2,j2⟩
    unfold aAA at hm
    refine aC (aM (aK (aG (v:=zP (some ⟨t,0,none⟩)) ?_)))
    have j3:aF G u (box t 64 [zS a1 q.length c2,i64 a3,Value.int .u64 a4]::aL 2 K y z b7::aL 35 u l m k::box p 28 [zS l k.length m,zS g a.1.Meetings.length j,zS d a.1.Allowed.length e,zS b a.1.Hidden.length c]::aL 67 K g j a.1.Meetings::aL 9 K d e a.1.Allowed::aL 9 K b c a.1.Hidden::box r 28 x::L) j1:=(aF.arr 7 [6,0,1,2,3,4,5] j2 rfl)
    obtain ⟨j4,j5,hm⟩:=aB hm
    refine aR (vs:=[zP (some ⟨t,0,none⟩),i64 6]) call14 rfl (fH j5 j3 (h3.mono (zL a7 b0))) ?_
    rintro _ o3 ⟨rfl,o4⟩
    refine aJ (v:=i64 j4.1) (aH (aQ [2,5] (fun f w=>∃ a5,aAy a k a5=some R/\f 6=zS y a5.length z/\aF G u (aL 2 K y z a5::aL 35 u l m k::box p 28 [zS l k.length m,zS g a.1.Meetings.length j,zS d a.1.Allowed.length e,zS b a.1.Hidden.length c]::aL 67 K g j a.1.Meetings::aL 9 K d e a.1.Allowed::aL 9 K b c a.1.Hidden::box r 28 x::L) w) ?_ ?_))
    ·rintro f o5 ⟨a5,hm,j6,g1⟩
     unfold aAy at hm
     refine aC (aK (aD (jH (us:=[zS l k.length m,zS g a.1.Meetings.length j,zS d a.1.Allowed.length e,zS b a.1.Hidden.length c]) aBI g1 (i:=2) rfl rfl rfl rfl) (bC j6 (bS (i:=6) (ns:=[zS l k.length m,zS g a.1.Meetings.length j,zS d a.1.Allowed.length e,zS b a.1.Hidden.length c]) (us:=[zS l k.length m,zS g a.1.Meetings.length j,zS d a.1.Allowed.length e,zS b a.1.Hidden.length c]) sizeOf28 g1 rfl rfl rfl rfl rfl (dQ rfl) rfl rfl (fun b1 (j7:aF G u (aL 2 K y z a5::aL 35 u l m k::box p 28 [zS l k.length m,zS g a.1.Meetings.length j,zS d a.1.Allowed.length e,zS b a.1.Hidden.length c]::aL 67 K g j a.1.Meetings::aL 9 K d e a.1.Allowed::aL 9 K b c a.1.Hidden::box r 28 [zS l k.length m,zS g a.1.Meetings.length j,zS d a.1.Allowed.length e,zS b a.1.Hidden.length c]::L) b1)=>(aJ (v:=zS y a5.length z) (aH ?_)))))))
     obtain ⟨j8,b8,j9,e0⟩:=aF.giveSp j7 (zR _) zt1
     replace e0:aF G j8 (aL 2 K y z a5::box p 28 [zS l k.length m,zS g a.1.Meetings.length j,zS d a.1.Allowed.length e,zS b a.1.Hidden.length c]::aL 67 K g j a.1.Meetings::aL 9 K d e a.1.Allowed::aL 9 K b c a.1.Hidden::box r 28 [zS l k.length m,zS g a.1.Meetings.length j,zS d a.1.Allowed.length e,zS b a.1.Hidden.length c]::L) b1:=e0
     obtain ⟨k0,c0,k1,e1⟩:=aF.giveSp e0 (zL (zL a7 b0) b8) zt2
     replace e1:aF G k0 (aL 2 K y z a5::box p 28 [zS l k.length m,zS g a.1.Meetings.length j,zS d a.1.Allowed.length e,zS b a.1.Hidden.length c]::aL 9 K d e a.1.Allowed::aL 9 K b c a.1.Hidden::box r 28 [zS l k.length m,zS g a.1.Meetings.length j,zS d a.1.Allowed.length e,zS b a.1.Hidden.length c]::L) b1:=e1
     obtain ⟨k2,c1,k3,e2⟩:=aF.giveSp e1 (zL (zL (zL a7 b0) b8) c0) zt2
     replace e2:aF G k2 (aL 2 K y z a5::box p 28 [zS l k.length m,zS g a.1.Meetings.length j,zS d a.1.Allowed.length e,zS b a.1.Hidden.length c]::aL 9 K b c a.1.Hidden::box r 28 [zS l k.length m,zS g a.1.Meetings.length j,zS d a.1.Allowed.length e,zS b a.1.Hidden.length c]::L) b1:=e2
     obtain ⟨k4,c3,k5,e3⟩:=aF.giveSp e2 (zL (zL (zL (zL a7 b0) b8) c0) c1) zt2
     replace e3:aF G k4 (aL 2 K y z a5::box p 28 [zS l k.length m,zS g a.1.Meetings.length j,zS d a.1.Allowed.length e,zS b a.1.Hidden.length c]::box r 28 [zS l k.length m,zS g a.1.Meetings.length j,zS d a.1.Allowed.length e,zS b a.1.Hidden.length c]::L) b1:=e3
     obtain ⟨g2,c4,k6,d3⟩:=aF.giveSp e3 (zL (zL (zL (zL (zL a7 b0) b8) c0) c1) c3) .head
     replace d3:aF G g2 (box p 28 [zS l k.length m,zS g a.1.Meetings.length j,zS d a.1.Allowed.length e,zS b a.1.Hidden.length c]::box r 28 [zS l k.length m,zS g a.1.Meetings.length j,zS d a.1.Allowed.length e,zS b a.1.Hidden.length c]::L) b1:=d3
     obtain rfl:=zI hm
     exact fU (retQ_m2 results5 (aDg (vs:=[zS l k.length m,zS g a.1.Meetings.length j,zS d a.1.Allowed.length e,zS b a.1.Hidden.length c]) rfl aBI d3 (i:=1) rfl rfl rfl) (aMQ rfl rfl) ⟨g2,l,m,g,j,d,e,b,c,y,z,rfl,(zL (zL (zL (zL (zL (zL a7 b0) b8) c0) c1) c3) c4),(j9.mono (zL (zL (zL c0 c1) c3) c4)),(k1.mono (zL (zL c1 c3) c4)),(k3.mono (zL c3 c4)),(k5.mono c4),k6,(aF.arr 2 [] d3 rfl)⟩)
    obtain ⟨o6,k8,ho⟩:=aB hm
    refine cC [2,5] k8 (fun d4 e4 f w=>f 6=zS y d4.length z/\f 8=i64 e4/\aF G u (aL 2 K y z d4::aL 35 u l m k::box p 28 [zS l k.length m,zS g a.1.Meetings.length j,zS d a.1.Allowed.length e,zS b a.1.Hidden.length c]::aL 67 K g j a.1.Meetings::aL 9 K d e a.1.Allowed::aL 9 K b c a.1.Hidden::box r 28 x::L) w) aP ?_
    ·rintro d4 e4 o7 f o8 hm hr ⟨g3,g4,k9⟩
     unfold aAz at hm
     refine aM (aK (bC g4 (aD (aAa rfl rfl) (aH ?_))))
     rcases aN hm with ⟨g5,hm⟩|⟨g5,hm⟩
     ·refine aS g5 rfl (aY (aC (aM (cV (aU (bC g3 ?_))))));obtain ⟨o9,l0,hm⟩:=aB hm
      refine aR (vs:=[zS y d4.length z]) call15 rfl (aGx l0 k9) ?_
      rintro _ p0 ⟨rfl,l1,l2⟩
      exact aT (dB (aC (aU (bC g4 (aD (uW rfl rfl) (aJ (v:=i64 (wr (e4 - 1))) (aH ⟨_,(zI hm).symm,bL,(Eq.trans g3 (congrArg (fun n=>zS y n z) l1)),rfl,l2⟩)))))))
     ·exact aP
   obtain ⟨p1,l3,ho⟩:=aB hm
   exact cC [2,4,5] l3 (fun g6 l4 f w=>∃ g7 g8,f 6=zS g7 g6.length g8/\f 7=i64 l4/\aF G u (aL 2 K g7 g8 g6::aL 35 u l m k::box p 28 [zS l k.length m,zS g a.1.Meetings.length j,zS d a.1.Allowed.length e,zS b a.1.Hidden.length c]::aL 67 K g j a.1.Meetings::aL 9 K d e a.1.Allowed::aL 9 K b c a.1.Hidden::box t 64 [zS a1 q.length c2,i64 a3,Value.int .u64 a4]::box r 28 x::L) w) aP aP
  refine aK (aD (aV (t':=0) mS rfl rfl) (aD (cJ aBH d2 (i:=1) rfl rfl rfl) (aD (bH (len:=a9.length) rI rfl) (aD (aAa rfl rfl) (aH ?_)))))
  rcases aN hm with ⟨g9,hm⟩|⟨g9,hm⟩
  ·refine aS g9 rfl (aU (aD (aV (t':=0) mS rfl rfl) (aD (cJ aBH d2 (i:=1) rfl rfl rfl) ?_)));obtain ⟨l5,h0,hm⟩:=aB hm
   have l6:=own_capE d2 (i:=0) rfl
   obtain ⟨l7,l8,h1⟩:=Cut.ex 4 b5 b6 0
   refine aD (aGa rI l6 h1 rfl rfl rfl h0) ?_
   have p2:aF G u (aL 35 u l7 l8 l5::box p 28 [zS b5 a9.length b6,zS g a.1.Meetings.length j,zS d a.1.Allowed.length e,zS b a.1.Hidden.length c]::aL 67 K g j a.1.Meetings::aL 9 K d e a.1.Allowed::aL 9 K b c a.1.Hidden::box t 64 [zS a1 q.length c2,i64 a3,Value.int .u64 a4]::box r 28 x::L) i8:=aF.cutPE d2 (i:=0) rfl h0 h1
   exact aP
  ·exact aP
 obtain ⟨p3,l9,ho⟩:=aB hm
 refine oR [2,4,5] l9 (fun d5 d6 J f w=>∃ a2 V a0,Hp.le c9 a2/\aF G a2 (box p 28 [zS V J.length a0,zS g a.1.Meetings.length j,zS d a.1.Allowed.length e,zS b a.1.Hidden.length c]::aL 35 a2 V a0 J::aL 67 K g j a.1.Meetings::aL 9 K d e a.1.Allowed::aL 9 K b c a.1.Hidden::box t 64 [zS a1 q.length c2,i64 d5,Value.int .u64 d6]::box r 28 x::L) w) aP ?_
 ·rintro d5 d6 J p4 f m0 hm hr ⟨a2,V,a0,d7,h2⟩
  unfold vR at hm
  refine aM (aK (aD (aV (t':=0) mS rfl rfl) (aD (cJ aBH h2 (i:=0) rfl rfl rfl) (aD (bH (len:=J.length) rI rfl) (aD (cU rfl rfl) (aH ?_))))))
  rcases aN hm with ⟨h4,hm⟩|⟨h4,hm⟩
  ·refine aS h4 rfl (aY (aC (cV ?_)))
   have h5:aF G a2 (box p 28 [zS V J.length a0,zS g a.1.Meetings.length j,zS d a.1.Allowed.length e,zS b a.1.Hidden.length c]::aL 35 a2 V a0 J::aL 67 K g j a.1.Meetings::aL 9 K d e a.1.Allowed::aL 9 K b c a.1.Hidden::box t 64 [zS a1 q.length c2,i64 d5,Value.int .u64 d6]::box r 28 x::L) m0:=h2
   refine cW (C:=fun w'=>∃ L',aF G a2 (box p 28 [zS V J.length a0,zS g a.1.Meetings.length j,zS d a.1.Allowed.length e,zS b a.1.Hidden.length c]::L') w') [(0,0),(1,0),(2,0),(3,1),(4,1),(5,1),(6,0),(7,2)] Tryz_mixed (by kernel_rfl) (fun _ hg=>⟨_,aF.mono h5 hg⟩) (fun m1 m2=>?_)
   have e5:=aF.mono h5 m2
   refine bA rfl (fun _ _=>aV (t':=0) mS rfl rfl) (bA rfl (fun _ ⟨_,e5⟩=>cJ aBH e5 (i:=0) rfl rfl rfl) (bA rfl (fun _ _=>aW (v:=zP (some ⟨t,0,none⟩)) rfl) (jN rfl ?_)))
   have m3:aF G a2 (box t 64 [zS a1 q.length c2,i64 d5,Value.int .u64 d6]::box p 28 [zS V J.length a0,zS g a.1.Meetings.length j,zS d a.1.Allowed.length e,zS b a.1.Hidden.length c]::aL 35 a2 V a0 J::aL 67 K g j a.1.Meetings::aL 9 K d e a.1.Allowed::aL 9 K b c a.1.Hidden::box r 28 x::L) m1:=(aF.arr 6 [5,0,1,2,3,4] e5 rfl)
   obtain ⟨o,m4,hm⟩:=aB hm
   refine aR (vs:=[zP (some ⟨t,0,none⟩)]) call13 rfl (uT m4 m3 (h3.mono (zL a7 d7))) ?_
   rintro _ h6 ⟨e6,e7,d8,d9,rfl,h7⟩
   refine aT (aC ⟨⟨_,(aF.arr 4 [3,0,1,2] h7 rfl)⟩,?_⟩)
   refine jN rfl ?_;obtain ⟨m5,c5,m6,e8⟩:=aF.giveSp h7 (zL a7 d7) .head
   replace e8:aF G m5 (aL 70 K d8 d9 o.1.E::box t 64 [zS a1 q.length c2,i64 o.2.1,Value.int .u64 o.2.2]::box p 28 [zS V J.length a0,zS g a.1.Meetings.length j,zS d a.1.Allowed.length e,zS b a.1.Hidden.length c]::aL 35 a2 V a0 J::aL 67 K g j a.1.Meetings::aL 9 K d e a.1.Allowed::aL 9 K b c a.1.Hidden::box r 28 x::L) h6:=e8
   obtain ⟨a6,c6,m7,e9⟩:=aF.giveSp e8 (zL (zL a7 d7) c5) .head
   replace e9:aF G a6 (box t 64 [zS a1 q.length c2,i64 o.2.1,Value.int .u64 o.2.2]::box p 28 [zS V J.length a0,zS g a.1.Meetings.length j,zS d a.1.Allowed.length e,zS b a.1.Hidden.length c]::aL 35 a2 V a0 J::aL 67 K g j a.1.Meetings::aL 9 K d e a.1.Allowed::aL 9 K b c a.1.Hidden::box r 28 x::L) h6:=e9
   refine cK (Kt:=a6) (xs:=([⟨o.1.N,o.1.I,o.1.L,o.1.E⟩]:List bB)) (cs:=(zC o.1 e6 e7 d8 d9)) (vs:=[(0,Value.agg (zCa o.1 e6 e7 d8 d9))]) rI aFC rfl rfl e9 rfl (by kernel_rfl) rfl rfl rfl ⟨⟨e6,e7,d8,d9,rfl,(m6.mono c6),m7⟩,trivial⟩ (fun m8 m9 (h8:aF G a6 (aL 35 a6 m8 1 ([⟨o.1.N,o.1.I,o.1.L,o.1.E⟩]:List bB)::box t 64 [zS a1 q.length c2,i64 o.2.1,Value.int .u64 o.2.2]::box p 28 [zS V J.length a0,zS g a.1.Meetings.length j,zS d a.1.Allowed.length e,zS b a.1.Hidden.length c]::aL 35 a2 V a0 J::aL 67 K g j a.1.Meetings::aL 9 K d e a.1.Allowed::aL 9 K b c a.1.Hidden::box r 28 x::L) m9)=>(aT (aC ⟨⟨_,(aF.weakK (aF.arr 3 [2,0,1] h8 rfl) (zL c5 c6))⟩,?_⟩)))
   refine jN rfl ?_;obtain ⟨c7,n0,hm⟩:=aB hm
   refine aFe (i:=2) a6 rI underlying24 aFC rfl rfl h8 rfl (zL c5 c6) (zR _) n0 rfl rfl rfl rfl (fun _ _ _ h=>El.one h) (fun b2 b3 n1 (h9:aF G a6 (box t 64 [zS a1 q.length c2,i64 o.2.1,Value.int .u64 o.2.2]::box p 28 [zS V J.length a0,zS g a.1.Meetings.length j,zS d a.1.Allowed.length e,zS b a.1.Hidden.length c]::aL 35 a6 b2 b3 c7::aL 67 K g j a.1.Meetings::aL 9 K d e a.1.Allowed::aL 9 K b c a.1.Hidden::box r 28 x::L) n1)=>(aT (aC ⟨⟨_,(aF.weakK (aF.arr 2 [1,0] h9 rfl) (zL c5 c6))⟩,?_⟩)))
   exact bA rfl (fun _ _=>aV (t':=0) mS rfl rfl) (WE_s rfl (bS (i:=1) (ns:=[zS b2 c7.length b3]) (us:=[zS b2 c7.length b3,zS g a.1.Meetings.length j,zS d a.1.Allowed.length e,zS b a.1.Hidden.length c]) sizeOf24 h9 rfl rfl rfl rfl rfl (dQ rfl) rfl rfl (fun n2 (n3:aF G a6 (box t 64 [zS a1 q.length c2,i64 o.2.1,Value.int .u64 o.2.2]::box p 28 [zS b2 c7.length b3,zS g a.1.Meetings.length j,zS d a.1.Allowed.length e,zS b a.1.Hidden.length c]::aL 35 a6 b2 b3 c7::aL 67 K g j a.1.Meetings::aL 9 K d e a.1.Allowed::aL 9 K b c a.1.Hidden::box r 28 x::L) n2)=>(aH (oS (dB (aC ⟨_,(zI hm).symm,bL,a6,b2,b3,(zL (zL d7 c5) c6),(aF.arr 6 [1,2,3,4,5,0] n3 rfl)⟩)))))))
  ·exact aP
theorem aJI {a:(List UInt8)} {k n R:Int} (hm:aKI a k n=some R) (p:aF G K (L) w) (c:bG K a1 c2 a):
  Calls prog 6 ([zS a1 a.length c2,i64 k,i64 n]:List Value).toArray w (eZ fun v w'=>v=i64 R/\aF G K (L) w'):=by
 refine aO func6 rfl (by kernel_rfl) (by show (3:Nat)<=22;decide) ?_;unfold aKI at hm
 refine aK (aJ (v:=i64 0) (aH (aM (aM (cH [0,1,2] (fun f w=>∃ b,aEL a k n b=some R/\f 14=zB b/\aF G K (L) w) ?_ ?_)))))
 ·rintro f q ⟨b,hm,h,d⟩
  unfold aEL at hm
  refine aC ?_
  rcases aN hm with ⟨e,hm⟩|⟨e,hm⟩
  ·exact aP
  ·refine bE e h (aY (aC (aK (aG (v:=zS a1 a.length c2) (aG (v:=i64 k) ?_)))));obtain ⟨r,g,hm⟩:=aB hm
   refine aD (dP sl_22 rfl c rfl rfl rfl g) ?_;obtain ⟨u,i,j⟩:=bG.el (sz:=1) rfl c g
   cases j
   refine aD (bD (t:=0) sc_5 d i rfl rfl) (aD (aIi runUnderlying2 rfl ⟨_,runUnderlying5⟩) (aG (v:=i64 n) ?_));obtain ⟨l,m,hm⟩:=aB hm
   refine aD (R_rem rfl rfl m) (aJ (v:=i64 l) (aH ?_));obtain rfl:=zI hm
   exact fU (eE results6 rfl ⟨rfl,d⟩)
 exact aP
theorem yW {a:(List Int)} {n R:Int} (hm:zH a n=some R) (d:aF G K (L) w) (e:bG K a1 c2 a):
  Calls prog 65 ([zS a1 a.length c2,i64 n]:List Value).toArray w (eZ fun v w'=>v=i64 R/\aF G K (L) w'):=by
 refine aO func65 rfl (by kernel_rfl) (by show (2:Nat)<=19;decide) ?_;unfold zH at hm
 refine aK (aJ (v:=i64 0) (aH (aM (aK (aJ (v:=i64 0) (aH (aQ [] (fun f w=>aHl=some R/\aF G K (L) w) aP ?_)))))));obtain ⟨g,b,ho⟩:=aB hm
 exact fK [0,1] b (fun c f w=>f 5=i64 c/\aF G K (L) w) aP aP
theorem aGy {t:bB} {q:Nat} {a:(List Int)} {R:bB} (hm:aEM t a=some R) (hs:aF G K (L) w) (k:fV K a1 q (zC t a4 c5 a7 c8)) (h6:bG K a4 c5 t.L) (h9:bG K a7 c8 t.E) (a2:bG K a10 c11 a):
  Calls prog 31 ([cR a1 q,zS a10 a.length c11]:List Value).toArray w (eZ fun v w'=>∃ a8 a9 b0 b1,v=Value.agg (zCa R a8 a9 b0 b1)/\aF G K (aL 9 K a8 a9 R.L::aL 70 K b0 b1 R.E::L) w'):=by
 let h:=zG
 refine aO func31 rfl (by kernel_rfl) (by show (2:Nat)<=66;decide) ?_;unfold aEM at hm
 refine aK (aZ (vs:=h) zeroValue35 hs rfl (fun l f1 b2=>(aH (aK (aG (v:=zS a10 a.length c11) (aD (bH (len:=a.length) bJ rfl) (aG (v:=zS a10 a.length c11) (aG (v:=cR a1 q) (aD (kI rfl k) (aD (jY (k':=q+1) aDX rfl k rfl) (aD (bD (t:=1) dC b2 k rfl rfl) ?_)))))))))));obtain ⟨g,c4,hm⟩:=aB hm
 refine aR (vs:=[zS a10 a.length c11,i64 t.I]) call65 rfl (yW c4 b2 a2) ?_
 rintro _ f2 ⟨rfl,c6⟩
 refine cK (Kt:=K) (xs:=([]:List Edge)) (cs:=[]) (vs:=[]) cS sM rfl rfl c6 rfl (by kernel_rfl) rfl rfl rfl trivial (fun j c7 (c9:aF G K (aL 70 K j 0 ([]:List Edge)::box l 35 h::L) c7)=>(aD (iR (vs:=[(0,i64 (a.length:Int)),(1,i64 g),(3,zS j ([]:List Edge).length 0)]) (cs:=[i64 (a.length:Int),i64 g,zS none 0 0,zS j ([]:List Edge).length 0]) aED rfl (by kernel_rfl)) (aZ (vs:=h) zeroValue35 c9 rfl (fun n f3 d0=>(bS (i:=0) (ns:=[i64 (a.length:Int),i64 g,zS none 0 0,zS j ([]:List Edge).length 0]) (us:=[i64 (a.length:Int),i64 g,zS none 0 0,zS j ([]:List Edge).length 0]) sizeOf35 d0 rfl rfl rfl rfl rfl (dQ rfl) rfl rfl (fun d1 (d2:aF G K (box n 35 [i64 (a.length:Int),i64 g,zS none 0 0,zS j ([]:List Edge).length 0]::aL 70 K j 0 ([]:List Edge)::box l 35 h::L) d1)=>(aH (aK (cK (Kt:=K) (xs:=([]:List aI)) (cs:=[]) (vs:=[]) eG aDQ rfl rfl d2 rfl (by kernel_rfl) rfl rfl rfl trivial (fun d3 d4 (b3:aF G K (aL 9 K d3 0 ([]:List aI)::box n 35 [i64 (a.length:Int),i64 g,zS none 0 0,zS j ([]:List Edge).length 0]::aL 70 K j 0 ([]:List Edge)::box l 35 h::L) d4)=>(aG (v:=cR a1 q) (aD (kI rfl k) (aD (jY (k':=q+2) oE rfl k rfl) (aD (bD (t:=2) xV b3 k rfl rfl) ?_))))))))))))))
 obtain ⟨c,d5,hm⟩:=aB hm
 refine aFd (i:=0) eG underlying26 aDQ rfl rfl b3 rfl (zR _) h6 d5 rfl rfl rfl rfl (fun d e d6 (d7:aF G K (aL 9 K d e c::box n 35 [i64 (a.length:Int),i64 g,zS none 0 0,zS j ([]:List Edge).length 0]::aL 70 K j 0 ([]:List Edge)::box l 35 h::L) d6)=>(aD (aV (t':=2) oE rfl rfl) (bS (i:=1) (ns:=[zS d c.length e]) (us:=[i64 (a.length:Int),i64 g,zS d c.length e,zS j ([]:List Edge).length 0]) sizeOf26 d7 rfl rfl rfl rfl rfl (dQ rfl) rfl rfl (fun d8 (f4:aF G K (aL 9 K d e c::box n 35 [i64 (a.length:Int),i64 g,zS d c.length e,zS j ([]:List Edge).length 0]::aL 70 K j 0 ([]:List Edge)::box l 35 h::L) d8)=>(aH (aM (aK (aJ (v:=i64 0) (aH (aQ [4,5] (fun f w=>∃ a3 b4 b5,aIx a g c a3=some R/\aF G K (aL 70 K b4 b5 a3::aL 9 K d e c::box n 35 [i64 (a.length:Int),i64 g,zS d c.length e,zS b4 a3.length b5]::box l 35 h::L) w) aP ?_))))))))))
 obtain ⟨f5,d9,ho⟩:=aB hm
 refine cC [0,1,4,5] d9 (fun m u f w=>∃ o p,f 6=i64 u/\aF G K (aL 9 K d e c::box n 35 [i64 (a.length:Int),i64 g,zS d c.length e,zS o m.length p]::aL 70 K o p m::box l 35 h::L) w) aP ?_
 ·rintro m u b6 f f6 hm hr ⟨o,p,a5,y⟩
  unfold wU at hm
  refine aM (aK (bC a5 (aG (v:=cR a1 q) (aD (kI rfl k) (aD (jY (k':=q+3) fY rfl k rfl) (aD (bD (t:=3) oJ y k rfl rfl) (aD (bH (len:=t.E.length) cS rfl) (aD (cU rfl rfl) (aH ?_)))))))))
  rcases aN hm with ⟨b7,hm⟩|⟨b7,hm⟩
  ·refine aS b7 rfl (aY (aC (aM (aQ [0,1,4,5,6] (fun f w=>∃ z J V,tC u z=some b6/\aF G K (aL 70 K J V z::aL 9 K d e c::box n 35 [i64 (a.length:Int),i64 g,zS d c.length e,zS J z.length V]::box l 35 h::L) w) ?_ ?_))))
   ·rintro f f7 ⟨z,J,V,hm,e0⟩
    unfold tC at hm
    exact aC (aU (bC a5 (aD (dT rfl rfl) (aJ (v:=i64 (wr (u+1))) (aH ⟨_,(zI hm).symm,bL,J,V,rfl,(aF.arr 3 [1,2,0] e0 rfl)⟩)))))
   refine aK (aG (v:=cR a1 q) (aD (kI rfl k) (aD (jY (k':=q+3) fY rfl k rfl) (aD (bD (t:=3) oJ y k rfl rfl) (bC a5 ?_)))));obtain ⟨b,b8,hm⟩:=aB hm
   refine aD (dP cS rfl h9 rfl rfl rfl b8) ?_;obtain ⟨f8,e1,e2⟩:=bG.el (sz:=3) rfl h9 b8
   cases e2
   refine aD (fP (t:=0) (vs:=[i64 b.F,i64 b.B,i64 b.To]) qA y e1 rfl rfl rfl) (aZ (vs:=[i64 0,i64 0,i64 0]) zeroValue70 y rfl (fun a0 f9 e3=>(bS (i:=0) (ns:=[i64 b.F,i64 b.B,i64 b.To]) (us:=[i64 b.F,i64 b.B,i64 b.To]) sizeOf70 e3 rfl rfl rfl rfl rfl (dQ rfl) rfl rfl (fun e4 (b9:aF G K (box a0 70 [i64 b.F,i64 b.B,i64 b.To]::aL 9 K d e c::box n 35 [i64 (a.length:Int),i64 g,zS d c.length e,zS o m.length p]::aL 70 K o p m::box l 35 h::L) e4)=>(aH (aK (aG (v:=zS a10 a.length c11) (aD (aV (t':=0) uY rfl rfl) (aD (cJ dC b9 (i:=0) rfl rfl rfl) ?_)))))))))
   obtain ⟨r,e5,hm⟩:=aB hm
   refine aR (vs:=[zS a10 a.length c11,i64 b.F]) call65 rfl (yW e5 b9 a2) ?_
   rintro _ g0 ⟨rfl,e6⟩
   refine aD (aV (t':=0) uY rfl rfl) (bS (i:=0) (ns:=[i64 r]) (us:=[i64 r,i64 b.B,i64 b.To]) sizeOf2 e6 rfl rfl rfl rfl rfl (dQ rfl) rfl rfl (fun e7 (c0:aF G K (box a0 70 [i64 r,i64 b.B,i64 b.To]::aL 9 K d e c::box n 35 [i64 (a.length:Int),i64 g,zS d c.length e,zS o m.length p]::aL 70 K o p m::box l 35 h::L) e7)=>(aH (aK (aG (v:=zS a10 a.length c11) (aD (aV (t':=2) pQ rfl rfl) (aD (cJ dC c0 (i:=0) rfl rfl rfl) ?_)))))))
   obtain ⟨x,e8,hm⟩:=aB hm
   refine aR (vs:=[zS a10 a.length c11,i64 b.To]) call65 rfl (yW e8 c0 a2) ?_
   rintro _ g1 ⟨rfl,e9⟩
   exact aD (aV (t':=2) pQ rfl rfl) (bS (i:=0) (ns:=[i64 x]) (us:=[i64 r,i64 b.B,i64 x]) sizeOf2 e9 rfl rfl rfl rfl rfl (dQ rfl) rfl rfl (fun f0 (g2:aF G K (box a0 70 [i64 r,i64 b.B,i64 x]::aL 9 K d e c::box n 35 [i64 (a.length:Int),i64 g,zS d c.length e,zS o m.length p]::aL 70 K o p m::box l 35 h::L) f0)=>(aH (aM (cH [0,1,4,5,6,7] (fun f w=>∃ c1,wT m u b r x c1=some b6/\f 58=zB c1/\aF G K (box a0 70 [i64 r,i64 b.B,i64 x]::aL 9 K d e c::box n 35 [i64 (a.length:Int),i64 g,zS d c.length e,zS o m.length p]::aL 70 K o p m::box l 35 h::L) w) aP aP)))))
  ·exact aP
theorem aFE {t:bB} {d:Nat} {R:(List Int)} (hm:aDq t=some R) (hs:aF G K (L) w) (c:fV K a1 d (zC t a4 c5 a7 c8)) (h6:bG K a4 c5 t.L) (h9:bG K a7 c8 t.E):
  Calls prog 32 ([cR a1 d]:List Value).toArray w (eZ fun v w'=>∃ b3 b4,v=zS b3 R.length b4/\aF G K (aL 2 K b3 b4 R::L) w'):=by
 refine aO func32 rfl (by kernel_rfl) (by show (1:Nat)<=82;decide) ?_;unfold aDq at hm
 refine aK (aJ (v:=zS none 0 0) (aH (aK (aG (v:=cR a1 d) (aD (kI rfl c) (aD (jY (k':=d+0) gT rfl c rfl) (aD (bD (t:=0) dC hs c rfl rfl) ?_)))))));obtain ⟨a,d7,hm⟩:=aB hm
 refine aIf (e:=(false:Bool)) lV ez_4 rfl rfl hs rfl rfl rfl d7 rfl (fun b d8 (u:aF G K (aL 4 K b a.length a::L) d8)=>(aJ (v:=zS b a.length a.length) (aH (aK (aG (v:=zS b a.length a.length) (aG (v:=cR a1 d) (aD (kI rfl c) (aD (jY (k':=d+1) aDX rfl c rfl) (aD (bD (t:=1) dC u c rfl rfl) ?_)))))))));obtain ⟨g4,x,hm⟩:=aB hm
 have b5:=dU u (i:=0) rfl x
 refine aD (fL lV rfl b5 rfl rfl rfl x) ?_;obtain ⟨d9,b6,hm⟩:=aB hm
 refine nO (i:=0) (t:=0) (ns:=[zB true]) (e':=(true:Bool)) sizeOf4 u rfl (zR _) rfl rfl rfl x b6 rfl rfl (dQ rfl) rfl (fun cs h=>by cases h;rfl) (fun e0 (e1:aF G K (aL 4 K b a.length d9::L) e0)=>(aH (aM (aK (aJ (v:=zB true) (aH (aQ [0] (fun f w=>∃ g,aBB t g=some R/\f 3=zS b g.length a.length/\aF G K (aL 4 K b a.length g::L) w) ?_ ?_)))))))
 ·rintro f g5 ⟨g,hm,g6,e2⟩
  unfold aBB at hm
  refine aC (aK (cK (Kt:=K) (xs:=([]:List Int)) (cs:=[]) (vs:=[]) bJ zD rfl rfl e2 rfl (by kernel_rfl) rfl rfl rfl trivial (fun b7 e3 (g7:aF G K (aL 2 K b7 0 ([]:List Int)::aL 4 K b a.length g::L) e3)=>(aJ (v:=zS b7 ([]:List Int).length 0) (aH (aM (aK (aJ (v:=i64 0) (aH (aQ [] (fun f w=>∃ y b8 b9,aHm y=some R/\f 6=zS b8 y.length b9/\aF G K (aL 2 K b8 b9 y::L) w) aP ?_))))))))));obtain ⟨g8,e4,ho⟩:=aB hm
  refine cC [0,3] e4 (fun z l f w=>∃ J V,f 6=zS J z.length V/\f 7=i64 l/\aF G K (aL 2 K J V z::aL 4 K b a.length g::L) w) aP ?_
  ·rintro z l e5 f g9 hm hr ⟨J,V,h0,c0,e6⟩
   unfold xY at hm
   refine aM (aK (bC c0 (aG (v:=cR a1 d) (aD (kI rfl c) (aD (jY (k':=d+0) gT rfl c rfl) (aD (bD (t:=0) dC e6 c rfl rfl) (aD (cU rfl rfl) (aH ?_))))))))
   rcases aN hm with ⟨c1,hm⟩|⟨c1,hm⟩
   ·refine aS c1 rfl (aY (aC (aM (aQ [0,3,7] (fun f w=>∃ m o p,xX l m=some e5/\f 6=zS o m.length p/\aF G K (aL 2 K o p m::aL 4 K b a.length g::L) w) ?_ ?_))))
    ·rintro f h1 ⟨m,o,p,hm,e7,e8⟩
     unfold xX at hm
     exact aC (aU (bC c0 (aD (dT rfl rfl) (aJ (v:=i64 (wr (l+1))) (aH ⟨_,(zI hm).symm,bL,o,p,e7,rfl,e8⟩)))))
    exact aP
   ·exact aP
 obtain ⟨h2,e9,ho⟩:=aB hm
 refine cC [0] e9 (fun a0 c2 f w=>f 3=zS b a0.length a.length/\f 4=zB c2/\aF G K (aL 4 K b a.length a0::L) w) ?_ ?_
 ·exact ⟨(Eq.trans rfl (congrArg (fun n=>zS b n a.length) (jG b6))),rfl,e1⟩
 ·rintro a0 c2 c3 f h4 hm hr ⟨h5,f0,h7⟩
  unfold aDp at hm
  refine aM (aK (bC f0 (aH ?_)))
  rcases aN hm with ⟨c4,hm⟩|⟨c4,hm⟩
  ·refine aS c4 rfl (aY (aC (aQ [0] (fun f w=>∃ q a2,aEs q a2=some c3/\f 3=zS b q.length a.length/\f 4=zB a2/\aF G K (aL 4 K b a.length q::L) w) ?_ ?_)))
   ·rintro f h8 ⟨q,a2,hm,f1,f2,f3⟩
    unfold aEs at hm
    exact aC ⟨_,(zI hm).symm,bL,f1,f2,f3⟩
   refine aK (aJ (v:=zB false) (aH (aK (aJ (v:=i64 0) (aH (aQ [0] (fun f w=>∃ a3 c6,aHn a3 c6=some c3/\f 3=zS b a3.length a.length/\f 4=zB c6/\aF G K (aL 4 K b a.length a3::L) w) aP ?_))))));obtain ⟨i0,f4,ho⟩:=aB hm
   refine oR [0] f4 (fun k a5 j f w=>f 3=zS b k.length a.length/\f 4=zB a5/\f 5=i64 j/\aF G K (aL 4 K b a.length k::L) w) aP ?_
   ·rintro k a5 j c7 f i1 hm hr ⟨c9,i2,a6,f5⟩
    unfold xZ at hm
    refine aM (aK (bC a6 (aG (v:=cR a1 d) (aD (kI rfl c) (aD (jY (k':=d+3) fY rfl c rfl) (aD (bD (t:=3) oJ f5 c rfl rfl) (aD (bH (len:=t.E.length) cS rfl) (aD (cU rfl rfl) (aH ?_)))))))))
    rcases aN hm with ⟨d0,hm⟩|⟨d0,hm⟩
    ·refine aS d0 rfl (aY (aC (aM (aQ [0,5] (fun f w=>∃ r a8,qY j r a8=some c7/\f 3=zS b r.length a.length/\f 4=zB a8/\aF G K (aL 4 K b a.length r::L) w) ?_ ?_))))
     ·rintro f i3 ⟨r,a8,hm,f6,f7,f8⟩
      unfold qY at hm
      exact aC (aU (bC a6 (aD (dT rfl rfl) (aJ (v:=i64 (wr (j+1))) (aH ⟨_,(zI hm).symm,bL,f6,f7,rfl,f8⟩)))))
     refine aM (cH [0,3,4,5] (fun f w=>∃ a9,qZ t k a5 j a9=some c7/\f 53=zB a9/\aF G K (aL 4 K b a.length k::L) w) ?_ ?_)
     ·rintro f i4 ⟨a9,hm,f9,b0⟩
      unfold qZ at hm
      refine aC ?_
      rcases aN hm with ⟨d1,hm⟩|⟨d1,hm⟩
      ·refine aS d1 f9 (aK (bC c9 (aG (v:=cR a1 d) (aD (kI rfl c) (aD (jY (k':=d+3) fY rfl c rfl) (aD (bD (t:=3) oJ b0 c rfl rfl) (bC a6 ?_)))))));obtain ⟨i5,d2,hm⟩:=aB hm
       refine aD (dP cS rfl h9 rfl rfl rfl d2) ?_;obtain ⟨i6,d3,g0⟩:=bG.el (sz:=3) rfl h9 d2
       cases g0
       refine aD (jY (k':=j.toNat * 3+2) pQ rfl d3 rfl) (aD (bD (t:=2) dC b0 d3 rfl rfl) ?_);obtain ⟨i7,d4,hm⟩:=aB hm
       refine aD (fL lV rfl b5 rfl rfl rfl d4) ?_;obtain ⟨d5,d6,hm⟩:=aB hm
       exact nO (i:=0) (t:=0) (ns:=[zB true]) (e':=(true:Bool)) sizeOf4 b0 rfl (zR _) rfl rfl rfl d4 d6 rfl rfl (dQ rfl) rfl (fun cs h=>by cases h;rfl) (fun g1 (g2:aF G K (aL 4 K b a.length d5::L) g1)=>(aH (aU (aJ (v:=zB true) (aT (dB (aC ⟨bL,d5,true,hm,(Eq.trans c9 (congrArg (fun n=>zS b n a.length) (jG d6))),rfl,g2⟩)))))))
      ·exact aP
     exact aP
    ·exact aP
  ·exact aP
theorem uB {e:Edge} {a:Nat} {p:(List Int)} {R:Bool} (hm:vS e p=some R) (c:aF G K (L) w) (d:fV K a1 a [i64 e.F,i64 e.B,i64 e.To]) (g:bG K a4 c5 p):
  Calls prog 66 ([cR a1 a,zS a4 p.length c5]:List Value).toArray w (eZ fun v w'=>v=zB R/\aF G K (L) w'):=by
 refine aO func66 rfl (by kernel_rfl) (by show (2:Nat)<=27;decide) ?_;unfold vS at hm
 exact aK (aJ (v:=zB false) (aH (aM (cH [] (fun f w=>∃ b,aBC b=some R/\f 4=zB b/\aF G K (L) w) aP aP))))
theorem aGz {a:(List Bool)} {R:(List Int)} (hm:aCZ a=some R) (r:aF G K (L) w) (J:bG K a1 c2 a):
  Calls prog 67 ([zS a1 a.length c2]:List Value).toArray w (eZ fun v w'=>∃ k l,v=zS k R.length l/\aF G K (aL 2 K k l R::L) w'):=by
 refine aO func67 rfl (by kernel_rfl) (by show (1:Nat)<=21;decide) ?_;unfold aCZ at hm
 refine aK (aJ (v:=zS none 0 0) (aH (aK (cK (Kt:=K) (xs:=([]:List Int)) (cs:=[]) (vs:=[]) bJ zD rfl rfl r rfl (by kernel_rfl) rfl rfl rfl trivial (fun m t (V:aF G K (aL 2 K m 0 ([]:List Int)::L) t)=>(aJ (v:=zS m ([]:List Int).length 0) (aH (aM (aK (aJ (v:=i64 0) (aH (aQ [] (fun f w=>∃ g n o,aIy g=some R/\f 3=zS n g.length o/\aF G K (aL 2 K n o g::L) w) aP ?_))))))))))));obtain ⟨a0,u,ho⟩:=aB hm
 refine cC [0] u (fun h b f w=>∃ i j,f 3=zS i h.length j/\f 4=i64 b/\aF G K (aL 2 K i j h::L) w) aP ?_
 ·rintro h b x f a2 hm hr ⟨i,j,a3,p,a5⟩
  unfold wV at hm
  refine aM (aK (bC p (aG (v:=zS a1 a.length c2) (aD (bH (len:=a.length) lV rfl) (aD (cU rfl rfl) (aH ?_))))))
  rcases aN hm with ⟨q,hm⟩|⟨q,hm⟩
  ·refine aS q rfl (aY (aC (aM (aQ [0,4] (fun f w=>∃ c d e,aAB b c=some x/\f 3=zS d c.length e/\aF G K (aL 2 K d e c::L) w) ?_ ?_))))
   ·rintro f a6 ⟨c,d,e,hm,y,z⟩
    unfold aAB at hm
    exact aC (aU (bC p (aD (dT rfl rfl) (aJ (v:=i64 (wr (b+1))) (aH ⟨_,(zI hm).symm,bL,d,e,y,rfl,z⟩)))))
   exact aP
  ·exact aP
theorem aAQ {t:bB} {j:Nat} {p:(List Int)} {R:(List Bool)} (hm:wX t p=some R) (hs:aF G K (L) w) (c:fV K a1 j (zC t a4 c5 a7 c8)) (h6:bG K a4 c5 t.L) (h9:bG K a7 c8 t.E) (e3:bG K a10 c11 p):
  Calls prog 68 ([cR a1 j,zS a10 p.length c11]:List Value).toArray w (eZ fun v w'=>∃ c1 c2,v=zS c1 R.length c2/\aF G K (aL 4 K c1 c2 R::L) w'):=by
 refine aO func68 rfl (by kernel_rfl) (by show (2:Nat)<=82;decide) ?_;unfold wX at hm
 refine aK (aJ (v:=zS none 0 0) (aH (aK (aG (v:=cR a1 j) (aD (kI rfl c) (aD (jY (k':=j+0) gT rfl c rfl) (aD (bD (t:=0) dC hs c rfl rfl) ?_)))))));obtain ⟨a,e4,hm⟩:=aB hm
 refine aIf (e:=(false:Bool)) lV ez_4 rfl rfl hs rfl rfl rfl e4 rfl (fun b e5 (i1:aF G K (aL 4 K b a.length a::L) e5)=>(aJ (v:=zS b a.length a.length) (aH (aM (aK (aJ (v:=i64 0) (aH (aQ [0,1] (fun f w=>∃ r,wW t p r=some R/\f 5=zS b r.length a.length/\aF G K (aL 4 K b a.length r::L) w) ?_ ?_))))))))
 ·rintro f i2 ⟨r,hm,i3,i4⟩
  unfold wW at hm
  refine aC (aM (aK (aJ (v:=zB true) (aH (aQ [] (fun f w=>∃ J,aCj J=some R/\f 5=zS b J.length a.length/\aF G K (aL 4 K b a.length J::L) w) aP ?_)))));obtain ⟨i5,e6,ho⟩:=aB hm
  refine cC [0,1] e6 (fun V c3 f w=>f 5=zS b V.length a.length/\f 7=zB c3/\aF G K (aL 4 K b a.length V::L) w) aP ?_
  ·rintro V c3 c4 f i6 hm hr ⟨i7,e7,i8⟩
   unfold qF at hm
   refine aM (aK (bC e7 (aH ?_)))
   rcases aN hm with ⟨c6,hm⟩|⟨c6,hm⟩
   ·refine aS c6 rfl (aY (aC (aQ [0,1] (fun f w=>∃ u a0,aCk u a0=some c4/\f 5=zS b u.length a.length/\f 7=zB a0/\aF G K (aL 4 K b a.length u::L) w) ?_ ?_)))
    ·rintro f i9 ⟨u,a0,hm,e8,e9,f0⟩
     unfold aCk at hm
     exact aC ⟨_,(zI hm).symm,bL,e8,e9,f0⟩
    refine aK (aJ (v:=zB false) (aH (aK (aJ (v:=i64 0) (aH (aQ [0,1] (fun f w=>∃ a2 c7,aFD a2 c7=some c4/\f 5=zS b a2.length a.length/\f 7=zB c7/\aF G K (aL 4 K b a.length a2::L) w) aP ?_))))));obtain ⟨j0,f1,ho⟩:=aB hm
    refine oR [0,1] f1 (fun k a3 l f w=>f 5=zS b k.length a.length/\f 7=zB a3/\f 8=i64 l/\aF G K (aL 4 K b a.length k::L) w) aP ?_
    ·rintro k a3 l c9 f j1 hm hr ⟨a5,j2,o,a6⟩
     unfold nR at hm
     refine aM (aK (bC o (aG (v:=cR a1 j) (aD (kI rfl c) (aD (jY (k':=j+0) gT rfl c rfl) (aD (bD (t:=0) dC a6 c rfl rfl) (aD (cU rfl rfl) (aH ?_))))))))
     rcases aN hm with ⟨d0,hm⟩|⟨d0,hm⟩
     ·refine aS d0 rfl (aY (aC (aM (aQ [0,1,8] (fun f w=>∃ x a8,nP l x a8=some c9/\f 5=zS b x.length a.length/\f 7=zB a8/\aF G K (aL 4 K b a.length x::L) w) ?_ ?_))))
      ·rintro f j3 ⟨x,a8,hm,f2,f3,f4⟩
       unfold nP at hm
       exact aC (aU (bC o (aD (dT rfl rfl) (aJ (v:=i64 (wr (l+1))) (aH ⟨_,(zI hm).symm,bL,f2,f3,rfl,f4⟩)))))
      refine aM (aK (bC a5 (bC o ?_)));obtain ⟨j4,q,hm⟩:=aB hm
      have d1:=dU a6 (i:=0) rfl q
      refine aD (fL lV rfl d1 rfl rfl rfl q) (aD (rH (t:=0) sc_4 a6 (i:=0) rfl q rfl rfl rfl) (aD (aFA rfl) (aH ?_)))
      rcases aN hm with ⟨d2,hm⟩|⟨d2,hm⟩
      ·exact aP
      ·refine bE d2 rfl (aY (aC (aK (aJ (v:=zB false) (aH (aM (aK (aJ (v:=i64 0) (aH (aQ [0,1,5,7,8] (fun f w=>∃ a9,yO k a3 l a9=some c9/\f 9=zB a9/\aF G K (aL 4 K b a.length k::L) w) ?_ ?_))))))))))
       ·rintro f j5 ⟨a9,hm,f5,f6⟩
        unfold yO at hm
        refine aC (aK (bC f5 (aD (aFA rfl) (aH ?_))))
        rcases aN hm with ⟨d3,hm⟩|⟨d3,hm⟩
        ·refine aS d3 rfl (aK (bC a5 (bC o (aD (fL lV rfl d1 rfl rfl rfl q) ?_))));obtain ⟨d4,d5,hm⟩:=aB hm
         exact nO (i:=0) (t:=0) (ns:=[zB false]) (e':=(false:Bool)) sizeOf4 f6 rfl (zR _) rfl rfl rfl q d5 rfl rfl (dQ rfl) rfl (fun cs h=>by cases h;rfl) (fun f7 (f8:aF G K (aL 4 K b a.length d4::L) f7)=>(aH (aU (aJ (v:=zB true) (aT (dB (aC ⟨bL,d4,true,hm,(Eq.trans a5 (congrArg (fun n=>zS b n a.length) (jG d5))),rfl,f8⟩)))))))
        ·exact aP
       obtain ⟨j6,f9,ho⟩:=aB hm
       refine cC [0,1,5,7,8] f9 (fun b0 y f w=>f 9=zB b0/\f 10=i64 y/\aF G K (aL 4 K b a.length k::L) w) aP ?_
       ·rintro b0 y g0 f j7 hm hr ⟨g1,b1,z⟩
        unfold lO at hm
        refine aM (aK (bC b1 (aG (v:=cR a1 j) (aD (kI rfl c) (aD (jY (k':=j+3) fY rfl c rfl) (aD (bD (t:=3) oJ z c rfl rfl) (aD (bH (len:=t.E.length) cS rfl) (aD (cU rfl rfl) (aH ?_)))))))))
        rcases aN hm with ⟨d6,hm⟩|⟨d6,hm⟩
        ·refine aS d6 rfl (aY (aC (aM (cV (aK (aG (v:=cR a1 j) (aD (kI rfl c) (aD (jY (k':=j+3) fY rfl c rfl) (aD (bD (t:=3) oJ z c rfl rfl) (bC b1 ?_))))))))));obtain ⟨d,d7,hm⟩:=aB hm
         refine aD (dP cS rfl h9 rfl rfl rfl d7) ?_;obtain ⟨j8,g2,g3⟩:=bG.el (sz:=3) rfl h9 d7
         cases g3
         refine aD (fP (t:=0) (vs:=[i64 d.F,i64 d.B,i64 d.To]) qA z g2 rfl rfl rfl) (aZ (vs:=[i64 0,i64 0,i64 0]) zeroValue70 z rfl (fun d8 j9 g4=>(bS (i:=0) (ns:=[i64 d.F,i64 d.B,i64 d.To]) (us:=[i64 d.F,i64 d.B,i64 d.To]) sizeOf70 g4 rfl rfl rfl rfl rfl (dQ rfl) rfl rfl (fun g5 (d9:aF G K (box d8 70 [i64 d.F,i64 d.B,i64 d.To]::aL 4 K b a.length k::L) g5)=>(aH (cH [0,1,5,7,8,10] (fun f w=>∃ b2,lN y b2=some g0/\f 9=zB b2/\aF G K (aL 4 K b a.length k::L) w) ?_ ?_))))))
         ·rintro f k0 ⟨b2,hm,g6,g7⟩
          unfold lN at hm
          exact dB (aC (aU (bC b1 (aD (dT rfl rfl) (aJ (v:=i64 (wr (y+1))) (aH ⟨_,(zI hm).symm,bL,g6,rfl,g7⟩))))))
         refine aU (bC g1 (aG (v:=zB b0) ?_))
         rcases aN hm with ⟨m,hm⟩|⟨m,hm⟩
         ·exact aP
         ·refine kX m rfl rfl (aD (aV (t':=0) uY rfl rfl) (kX m rfl rfl (aD (cJ dC d9 (i:=0) rfl rfl rfl) (kX m rfl rfl (bC o (kX m rfl rfl (aD (aCs rfl rfl) (kX m rfl rfl (aG (v:=zB (d.F == l)) ?_)))))))))
          rcases aN hm with ⟨b3,hm⟩|⟨b3,hm⟩
          ·refine eQ b3 rfl rfl (aG (v:=zS a10 p.length c11) (eQ b3 rfl rfl ?_));obtain ⟨k1,g8,g9,h0,k3⟩:=aF.lendBp d9 .head
           obtain ⟨k4,h1,hm⟩:=aB hm
           exact aR (vs:=[cR (some ⟨d8,0,none⟩) 0,zS a10 p.length c11]) call66 rfl (uB h1 h0 g9 (e3.mono g8)) aP
          ·exact aP
        ·exact aP
     ·exact aP
   ·exact aP
 obtain ⟨k5,h2,ho⟩:=aB hm
 refine cC [0,1] h2 (fun b4 b5 f w=>f 5=zS b b4.length a.length/\f 6=i64 b5/\aF G K (aL 4 K b a.length b4::L) w) aP ?_
 ·rintro b4 b5 k6 f k7 hm hr ⟨e0,b6,b7⟩
  unfold kR at hm
  refine aM (aK (bC b6 (aG (v:=cR a1 j) (aD (kI rfl c) (aD (jY (k':=j+0) gT rfl c rfl) (aD (bD (t:=0) dC b7 c rfl rfl) (aD (cU rfl rfl) (aH ?_))))))))
  rcases aN hm with ⟨e1,hm⟩|⟨e1,hm⟩
  ·refine aS e1 rfl (aY (aC (aM (cV (aU (bC e0 (bC b6 ?_)))))));obtain ⟨k8,b8,hm⟩:=aB hm
   have h4:=dU b7 (i:=0) rfl b8
   refine aD (fL lV rfl h4 rfl rfl rfl b8) ?_;obtain ⟨h5,e2,hm⟩:=aB hm
   exact nO (i:=0) (t:=0) (ns:=[zB true]) (e':=(true:Bool)) sizeOf4 b7 rfl (zR _) rfl rfl rfl b8 e2 rfl rfl (dQ rfl) rfl (fun cs h=>by cases h;rfl) (fun h7 (h8:aF G K (aL 4 K b a.length h5::L) h7)=>(aT (dB (aC (aU (bC b6 (aD (dT rfl rfl) (aJ (v:=i64 (wr (b5+1))) (aH ⟨_,(zI hm).symm,bL,(Eq.trans e0 (congrArg (fun n=>zS b n a.length) (jG e2))),rfl,h8⟩)))))))))
  ·exact aP
theorem aLP {a b R:Int} (hm:aKJ a b=some R) (c:aF G K (L) w):
  Calls prog 109 ([i64 a,i64 b]:List Value).toArray w (eZ fun v w'=>v=i64 R/\aF G K (L) w'):=by
 exact aP
theorem aJc {p:(List Int)} {R:Int} (hm:aBQ p=some R) (e:aF G K (L) w) (g:bG K a1 c2 p):
  Calls prog 69 ([zS a1 p.length c2]:List Value).toArray w (eZ fun v w'=>v=i64 R/\aF G K (L) w'):=by
 refine aO func69 rfl (by kernel_rfl) (by show (1:Nat)<=19;decide) ?_;unfold aBQ at hm
 refine aK (aJ (v:=i64 0) (aH (aK (aJ (v:=i64 0) (aH (aM (aK (aJ (v:=i64 0) (aH (aQ [] (fun f w=>∃ a,aGj a=some R/\f 3=i64 a/\aF G K (L) w) aP ?_))))))))));obtain ⟨h,b,ho⟩:=aB hm
 exact cC [0] b (fun c d f w=>f 3=i64 c/\f 4=i64 d/\aF G K (L) w) aP aP
theorem aDE {t:bB} {g:Nat} {p:(List Int)} {q:Bool} {R:bB} (hm:yA t p q=some R) (hs:aF G K (L) w) (j:fV K a1 g (zC t a4 c5 a7 c8)) (h6:bG K a4 c5 t.L) (h9:bG K a7 c8 t.E) (m:bG K a10 c11 p):
  Calls prog 33 ([cR a1 g,zS a10 p.length c11,zB q]:List Value).toArray w (eZ fun v w'=>∃ c0 c1 c2 c3,v=Value.agg (zCa R c0 c1 c2 c3)/\aF G K (aL 9 K c0 c1 R.L::aL 70 K c2 c3 R.E::L) w'):=by
 let c:=zG
 refine aO func33 rfl (by kernel_rfl) (by show (3:Nat)<=92;decide) ?_;unfold yA at hm
 refine aK (aZ (vs:=c) zeroValue35 hs rfl (fun d j6 f0=>(aH (aK (cK (Kt:=K) (xs:=([]:List Edge)) (cs:=[]) (vs:=[]) cS sM rfl rfl f0 rfl (by kernel_rfl) rfl rfl rfl trivial (fun c4 f1 (j7:aF G K (aL 70 K c4 0 ([]:List Edge)::box d 35 c::L) f1)=>(aJ (v:=zS c4 ([]:List Edge).length 0) (aH (aM (aK (aJ (v:=i64 0) (aH (aQ [0,1,2,6] (fun f w=>∃ r b1 b2,wY t p q r=some R/\f 7=zS b1 r.length b2/\aF G K (aL 70 K b1 b2 r::box d 35 c::L) w) ?_ ?_)))))))))))))
 ·rintro f j8 ⟨r,b1,b2,hm,j9,f2⟩
  unfold wY at hm
  refine aC (mB [0,1,6] (fun f w=>∃ u b3 b4,rY t p u=some R/\f 7=zS b3 u.length b4/\aF G K (aL 70 K b3 b4 u::box d 35 c::L) w) ?_ ?_)
  ·rintro f k0 ⟨u,b3,b4,hm,k1,c6⟩
   unfold rY at hm
   refine aM (cW (C:=fun w'=>∃ L',aF G K L' w') [(0,0),(2,0),(3,0),(4,0),(5,0),(6,0),(7,0),(8,0),(9,0),(10,0),(11,0),(12,0),(13,0),(1,1),(14,1),(15,2)] Tryz_mixed (by kernel_rfl) (fun _ hg=>⟨_,aF.mono c6 hg⟩) (fun k3 f3=>?_))
   have k4:=aF.mono c6 f3
   exact aP
  refine aK (aG (v:=zB q) (aH ?_))
  rcases aN hm with ⟨c7,hm⟩|⟨c7,hm⟩
  ·refine aS c7 rfl (aK (aG (v:=cR a1 g) (aG (v:=zS a10 p.length c11) ?_)));obtain ⟨f4,f5,hm⟩:=aB hm
   refine aR (vs:=[cR a1 g,zS a10 p.length c11]) call68 rfl (aAQ f5 f2 j h6 h9 m) ?_
   rintro _ k5 ⟨f6,f7,rfl,f8⟩
   obtain ⟨k6,k7,f9,g0,g1⟩:=aF.lendSp f8 (zR _) .head
   obtain ⟨k,g2,hm⟩:=aB hm
   refine aR (vs:=[zS f6 f4.length f7]) call67 rfl (aGz g2 g0 f9) ?_
   rintro _ k8 ⟨n,o,rfl,g3⟩
   have k9:=g1 _ _ g3
   refine aJ (v:=zS n k.length o) (aH (aK (aJ (v:=i64 0) (aH (aQ [0,1,6] (fun f w=>∃ b5 c9 d0,aBn t p b5=some R/\f 7=zS c9 b5.length d0/\aF G K (aL 70 K c9 d0 b5::box d 35 c::L) w) aP ?_)))));obtain ⟨l0,g4,ho⟩:=aB hm
   refine cC [0,1,6,10] g4 (fun x d1 f w=>∃ y z,f 7=zS y x.length z/\f 11=i64 d1/\aF G K (aL 2 K n o k::aL 70 K y z x::box d 35 c::L) w) aP ?_
   ·rintro x d1 l1 f l2 hm hr ⟨y,z,g5,b6,g6⟩
    unfold jQ at hm
    refine aM (aK (bC b6 (aG (v:=zS n k.length o) (aD (bH (len:=k.length) bJ rfl) (aD (cU rfl rfl) (aH ?_))))))
    rcases aN hm with ⟨d2,hm⟩|⟨d2,hm⟩
    ·refine aS d2 rfl (aY (aC (aM (cV ?_))));obtain ⟨b7,l,d3,d4,g7⟩:=aF.lendSp g6 (zR _) .head
     refine cW (C:=fun w'=>∃ L',aF G b7 L' w') [(0,0),(1,0),(2,0),(3,0),(4,0),(5,0),(6,0),(7,0),(8,0),(9,0),(10,0),(11,0),(12,0),(13,0),(14,0),(15,0),(16,1),(17,1),(18,0)] Tryz_mixed (by kernel_rfl) (fun _ hg=>⟨_,aF.mono d4 hg⟩) (fun l3 g8=>?_)
     have e:=aF.mono d4 g8
     refine bA rfl (fun _ _=>aW g5) (bA rfl (fun _ _=>aW (v:=zS a10 p.length c11) rfl) (bA rfl (fun _ _=>aW (v:=zS n k.length o) rfl) (bA rfl (fun _ _=>aW b6) ?_)));obtain ⟨l4,J,hm⟩:=aB hm
     have d5:=aKc d3 J
     refine bA rfl (fun _ _=>fL bJ rfl d5 rfl rfl rfl J) ?_;obtain ⟨l5,d6,g9⟩:=bG.el (sz:=1) rfl d3 J
     cases g9
     refine bA rfl (fun _ ⟨_,e⟩=>bD (t:=0) dC e d6 rfl rfl) ?_;obtain ⟨a,b8,hm⟩:=aB hm
     refine bA rfl (fun _ _=>dP bJ rfl (m.mono l) rfl rfl rfl b8) ?_;obtain ⟨l6,d7,h0⟩:=bG.el (sz:=1) rfl m b8
     cases h0
     refine bA rfl (fun _ ⟨_,e⟩=>bD (t:=0) dC e (d7.mono l) rfl rfl) (bA rfl (fun _ _=>aW (v:=zS a10 p.length c11) rfl) (bA rfl (fun _ _=>aW (v:=zS n k.length o) rfl) (bA rfl (fun _ _=>aW b6) (bA rfl (fun _ _=>fL bJ rfl d5 rfl rfl rfl J) (bA rfl (fun _ ⟨_,e⟩=>bD (t:=0) dC e d6 rfl rfl) (bA rfl (fun _ _=>dP bJ rfl (m.mono l) rfl rfl rfl b8) (bA rfl (fun _ ⟨_,e⟩=>bD (t:=0) dC e (d7.mono l) rfl rfl) (bA rfl (fun _ _=>iR (vs:=[(0,i64 a),(2,i64 a)]) (cs:=[i64 a,i64 0,i64 a]) aJC rfl (by kernel_rfl)) (jN rfl (cK (Kt:=K) (xs:=([⟨a,0,a⟩]:List Edge)) (cs:=[i64 a,i64 0,i64 a]) (vs:=[(0,Value.agg #[i64 a,i64 0,i64 a])]) cS sM rfl rfl e rfl (by kernel_rfl) rfl rfl rfl ⟨rfl,trivial⟩ (fun h1 h2 (d8:aF G b7 (aL 70 K h1 1 ([⟨a,0,a⟩]:List Edge)::aL 70 K y z x::box d 35 c::L) h2)=>(aT (aC ⟨⟨_,d8⟩,?_⟩)))))))))))))
     refine jN rfl ?_;obtain ⟨d9,h4,hm⟩:=aB hm
     refine nE (i:=0) cS underlying33 sM rfl rfl d8 rfl l l h4 rfl rfl rfl rfl (fun _ h=>h) (fun e0 e1 h5 (e2:aF G b7 (aL 70 K e0 e1 d9::box d 35 c::L) h5)=>(aT (aC ⟨⟨_,e2⟩,?_⟩)))
     refine bA rfl (fun _ _=>fW (v:=zS e0 d9.length e1) rfl) (oS ?_)
     have l7:=g7 _ _ e2
     exact aP
    ·exact aP
  ·exact aP
 obtain ⟨l8,h7,ho⟩:=aB hm
 refine cC [0,1,2,6] h7 (fun V a0 f w=>∃ a2 a3,f 7=zS a2 V.length a3/\f 8=i64 a0/\aF G K (aL 70 K a2 a3 V::box d 35 c::L) w) aP ?_
 ·rintro V a0 h8 f l9 hm hr ⟨a2,a3,m0,b9,a5⟩
  unfold mF at hm
  refine aM (aK (bC b9 (aG (v:=cR a1 g) (aD (kI rfl j) (aD (jY (k':=g+3) fY rfl j rfl) (aD (bD (t:=3) oJ a5 j rfl rfl) (aD (bH (len:=t.E.length) cS rfl) (aD (cU rfl rfl) (aH ?_)))))))))
  rcases aN hm with ⟨e3,hm⟩|⟨e3,hm⟩
  ·refine aS e3 rfl (aY (aC (aM (aQ [0,1,2,6,8] (fun f w=>∃ a6 a8 a9,rZ a0 a6=some h8/\f 7=zS a8 a6.length a9/\aF G K (aL 70 K a8 a9 a6::box d 35 c::L) w) ?_ ?_))))
   ·rintro f m1 ⟨a6,a8,a9,hm,i0,i1⟩
    unfold rZ at hm
    exact aC (aU (bC b9 (aD (dT rfl rfl) (aJ (v:=i64 (wr (a0+1))) (aH ⟨_,(zI hm).symm,bL,a8,a9,i0,rfl,i1⟩)))))
   refine aK (aG (v:=cR a1 g) (aD (kI rfl j) (aD (jY (k':=g+3) fY rfl j rfl) (aD (bD (t:=3) oJ a5 j rfl rfl) (bC b9 ?_)))));obtain ⟨b,e4,hm⟩:=aB hm
   refine aD (dP cS rfl h9 rfl rfl rfl e4) ?_;obtain ⟨m2,i2,i3⟩:=bG.el (sz:=3) rfl h9 e4
   cases i3
   refine aD (fP (t:=0) (vs:=[i64 b.F,i64 b.B,i64 b.To]) qA a5 i2 rfl rfl rfl) (aZ (vs:=[i64 0,i64 0,i64 0]) zeroValue70 a5 rfl (fun e5 m3 i4=>(bS (i:=0) (ns:=[i64 b.F,i64 b.B,i64 b.To]) (us:=[i64 b.F,i64 b.B,i64 b.To]) sizeOf70 i4 rfl rfl rfl rfl rfl (dQ rfl) rfl rfl (fun i5 (i6:aF G K (box e5 70 [i64 b.F,i64 b.B,i64 b.To]::aL 70 K a2 a3 V::box d 35 c::L) i5)=>(aH (aK (aG (v:=zS a10 p.length c11) ?_)))))))
   obtain ⟨m4,i7,i8,i9,j0⟩:=aF.lendBp i6 .head
   obtain ⟨m5,j1,hm⟩:=aB hm
   refine aR (vs:=[cR (some ⟨e5,0,none⟩) 0,zS a10 p.length c11]) call66 rfl (uB j1 i9 i8 (m.mono i7)) ?_
   rintro _ m6 ⟨rfl,j2⟩
   have j3:=j0 _ _ j2
   refine aD (aFA rfl) (aH ?_)
   rcases aN hm with ⟨e6,hm⟩|⟨e6,hm⟩
   ·refine aS e6 rfl ?_;obtain ⟨j4,m7,m8,e7,m9⟩:=aF.lendBp j3 .head
    refine cW (C:=fun w'=>∃ L',aF G j4 L' w') [(0,0),(1,0),(2,0),(3,0),(4,0),(5,0),(6,0),(7,0),(8,0),(9,0),(10,0),(11,0),(12,0),(13,0),(14,1),(15,1),(16,0)] Tryz_mixed (by kernel_rfl) (fun _ hg=>⟨_,aF.mono e7 hg⟩) (fun n0 j5=>?_)
    have n1:=aF.mono e7 j5
    exact aP
   ·exact aP
  ·exact aP
theorem aDF {a b:(List Int)} {R:Bool} (hm:aDa a b=some R) (g:aF G K (L) w) (h:bG K a1 c2 a) (i:bG K a4 c5 b):
  Calls prog 71 ([zS a1 a.length c2,zS a4 b.length c5]:List Value).toArray w (eZ fun v w'=>v=zB R/\aF G K (L) w'):=by
 refine aO func71 rfl (by kernel_rfl) (by show (2:Nat)<=26;decide) ?_;unfold aDa at hm
 refine aK (aJ (v:=zB false) (aH (aM (aK (aG (v:=zS a1 a.length c2) (aD (bH (len:=a.length) bJ rfl) (aG (v:=zS a4 b.length c5) (aD (bH (len:=b.length) bJ rfl) (aD (aFQ rfl rfl) (aH ?_))))))))))
 rcases aN hm with ⟨c,hm⟩|⟨c,hm⟩
 ·exact aP
 ·refine bE c rfl (aY (aC (aM (aK (aJ (v:=i64 0) (aH (aQ [] (fun f w=>aIz=some R/\aF G K (L) w) aP ?_)))))));obtain ⟨j,d,ho⟩:=aB hm
  exact fK [0,1] d (fun e f w=>f 5=i64 e/\aF G K (L) w) aP aP
end Gv
namespace Gv
open Go.Value renaming slice→zS,bool→zB,pointer→zP,agg→zA
open Option.some renaming inj→zI
open Gv.Hp renaming le_trans→zL,le_refl→zR
open Go Go.Proofs Go.Proofs.Tryz
set_option maxRecDepth 20000
set_option maxHeartbeats 40000000
variable {G:zZ} {K:Hp} {L:List jM} {w:World} {a1 a4 a7 a10 a2 a5 a8 a11:Option Addr} {c5 c8 c11 c2 b1 c3 c9 c12:Nat}
theorem aFF {t:bB} {j:Nat} {p:(List Int)} {k:Int} {R:(List Bool)} (hm:aDr t p k=some R) (hs:aF G K (L) w) (d:fV K a1 j (zC t a4 c5 a7 c8)) (h6:bG K a4 c5 t.L) (h9:bG K a7 c8 t.E) (d5:bG K a10 c11 p):
  Calls prog 157 ([cR a1 j,zS a10 p.length c11,i64 k]:List Value).toArray w (eZ fun v w'=>∃ b4 b5,v=zS b4 R.length b5/\aF G K (aL 4 K b4 b5 R::L) w'):=by
 refine aO func157 rfl (by kernel_rfl) (by show (3:Nat)<=58;decide) ?_;unfold aDr at hm
 refine aK (aJ (v:=zS none 0 0) (aH (aK (aG (v:=cR a1 j) (aD (kI rfl d) (aD (jY (k':=j+0) gT rfl d rfl) (aD (bD (t:=0) dC hs d rfl rfl) ?_)))))));obtain ⟨a,d6,hm⟩:=aB hm
 refine aIf (e:=(false:Bool)) lV ez_4 rfl rfl hs rfl rfl rfl d6 rfl (fun b d7 (b6:aF G K (aL 4 K b a.length a::L) d7)=>(aJ (v:=zS b a.length a.length) (aH (aK (aG (v:=zS b a.length a.length) (aG (v:=i64 k) ?_))))));obtain ⟨g5,V,hm⟩:=aB hm
 have r:=dU b6 (i:=0) rfl V
 refine aD (fL lV rfl r rfl rfl rfl V) ?_;obtain ⟨d8,b7,hm⟩:=aB hm
 refine nO (i:=0) (t:=0) (ns:=[zB true]) (e':=(true:Bool)) sizeOf4 b6 rfl (zR _) rfl rfl rfl V b7 rfl rfl (dQ rfl) rfl (fun cs h=>by cases h;rfl) (fun d9 (e0:aF G K (aL 4 K b a.length d8::L) d9)=>(aH (aM (aK (aJ (v:=zB true) (aH (aQ [] (fun f w=>∃ a0,aHo a0=some R/\f 7=zS b a0.length a.length/\aF G K (aL 4 K b a.length a0::L) w) aP ?_)))))));obtain ⟨g6,e1,ho⟩:=aB hm
 refine cC [0,1] e1 (fun a2 b8 f w=>f 7=zS b a2.length a.length/\f 8=zB b8/\aF G K (aL 4 K b a.length a2::L) w) ?_ ?_
 ·exact ⟨(Eq.trans rfl (congrArg (fun n=>zS b n a.length) (jG b7))),rfl,e0⟩
 ·rintro a2 b8 b9 f g7 hm hr ⟨g8,e2,g9⟩
  unfold uI at hm
  refine aM (aK (bC e2 (aH ?_)))
  rcases aN hm with ⟨c0,hm⟩|⟨c0,hm⟩
  ·refine aS c0 rfl (aY (aC (aQ [0,1] (fun f w=>∃ u a3,aEt u a3=some b9/\f 7=zS b u.length a.length/\f 8=zB a3/\aF G K (aL 4 K b a.length u::L) w) ?_ ?_)))
   ·rintro f h0 ⟨u,a3,hm,e3,e4,e5⟩
    unfold aEt at hm
    exact aC ⟨_,(zI hm).symm,bL,e3,e4,e5⟩
   refine aK (aJ (v:=zB false) (aH (aK (aJ (v:=i64 0) (aH (aQ [0,1] (fun f w=>∃ a5 c1,aHp a5 c1=some b9/\f 7=zS b a5.length a.length/\f 8=zB c1/\aF G K (aL 4 K b a.length a5::L) w) aP ?_))))));obtain ⟨h1,e6,ho⟩:=aB hm
   refine oR [0,1] e6 (fun m a6 o f w=>f 7=zS b m.length a.length/\f 8=zB a6/\f 9=i64 o/\aF G K (aL 4 K b a.length m::L) w) aP ?_
   ·rintro m a6 o c2 f h2 hm hr ⟨x,h4,a8,y⟩
    unfold rA at hm
    refine aM (aK (bC a8 (aG (v:=cR a1 j) (aD (kI rfl d) (aD (jY (k':=j+3) fY rfl d rfl) (aD (bD (t:=3) oJ y d rfl rfl) (aD (bH (len:=t.E.length) cS rfl) (aD (cU rfl rfl) (aH ?_)))))))))
    rcases aN hm with ⟨c3,hm⟩|⟨c3,hm⟩
    ·refine aS c3 rfl (aY (aC (aM (aQ [0,1,9] (fun f w=>∃ z a9,uH o z a9=some c2/\f 7=zS b z.length a.length/\f 8=zB a9/\aF G K (aL 4 K b a.length z::L) w) ?_ ?_))))
     ·rintro f h5 ⟨z,a9,hm,e7,e8,e9⟩
      unfold uH at hm
      exact aC (aU (bC a8 (aD (dT rfl rfl) (aJ (v:=i64 (wr (o+1))) (aH ⟨_,(zI hm).symm,bL,e7,e8,rfl,e9⟩)))))
     refine aK (aG (v:=cR a1 j) (aD (kI rfl d) (aD (jY (k':=j+3) fY rfl d rfl) (aD (bD (t:=3) oJ y d rfl rfl) (bC a8 ?_)))));obtain ⟨c,c4,hm⟩:=aB hm
     refine aD (dP cS rfl h9 rfl rfl rfl c4) ?_;obtain ⟨h7,f0,f1⟩:=bG.el (sz:=3) rfl h9 c4
     cases f1
     refine aD (fP (t:=0) (vs:=[i64 c.F,i64 c.B,i64 c.To]) qA y f0 rfl rfl rfl) (aZ (vs:=[i64 0,i64 0,i64 0]) zeroValue70 y rfl (fun J h8 f2=>(bS (i:=0) (ns:=[i64 c.F,i64 c.B,i64 c.To]) (us:=[i64 c.F,i64 c.B,i64 c.To]) sizeOf70 f2 rfl rfl rfl rfl rfl (dQ rfl) rfl rfl (fun f3 (q:aF G K (box J 70 [i64 c.F,i64 c.B,i64 c.To]::aL 4 K b a.length m::L) f3)=>(aH (aM (cH [0,1,7,8,9,10] (fun f w=>∃ b0,oK m a6 o c b0=some c2/\f 52=zB b0/\aF G K (box J 70 [i64 c.F,i64 c.B,i64 c.To]::aL 4 K b a.length m::L) w) ?_ ?_)))))))
     ·rintro f i0 ⟨b0,hm,f4,c6⟩
      unfold oK at hm
      refine aC ?_
      rcases aN hm with ⟨c7,hm⟩|⟨c7,hm⟩
      ·refine aS c7 f4 (aK (bC x (aD (aV (t':=2) pQ rfl rfl) (aD (cJ dC c6 (i:=0) rfl rfl rfl) ?_))));obtain ⟨i1,c9,hm⟩:=aB hm
       refine aD (fL lV rfl r rfl rfl rfl c9) ?_;obtain ⟨d0,d1,hm⟩:=aB hm
       exact nO (i:=1) (t:=0) (ns:=[zB true]) (e':=(true:Bool)) sizeOf4 c6 rfl (zR _) rfl rfl rfl c9 d1 rfl rfl (dQ rfl) rfl (fun cs h=>by cases h;rfl) (fun f5 (f6:aF G K (box J 70 [i64 c.F,i64 c.B,i64 c.To]::aL 4 K b a.length d0::L) f5)=>(aH (aU (aJ (v:=zB true) (aT (dB (aC ⟨bL,d0,true,hm,(Eq.trans x (congrArg (fun n=>zS b n a.length) (jG d1))),rfl,(aF.arr 1 [] f6 rfl)⟩)))))))
      ·exact aP
     refine aU (bC x (aD (aV (t':=0) uY rfl rfl) (aD (cJ dC q (i:=0) rfl rfl rfl) ?_)));obtain ⟨f7,d2,hm⟩:=aB hm
     refine aD (fL lV rfl r rfl rfl rfl d2) (aD (rH (t:=0) sc_4 q (i:=1) rfl d2 rfl rfl rfl) (aG (v:=zB f7) ?_))
     rcases aN hm with ⟨l,hm⟩|⟨l,hm⟩
     ·refine eQ l rfl rfl (bC x (eQ l rfl rfl (aD (aV (t':=2) pQ rfl rfl) (eQ l rfl rfl (aD (cJ dC q (i:=0) rfl rfl rfl) (eQ l rfl rfl ?_))))));obtain ⟨d3,d4,hm⟩:=aB hm
      refine aD (fL lV rfl r rfl rfl rfl d4) (eQ l rfl rfl (aD (rH (t:=0) sc_4 q (i:=1) rfl d4 rfl rfl rfl) (eQ l rfl rfl (aD (aFA rfl) (aD (gR (v:=zB (!d3)) l rfl rfl) (aG (v:=zB (!d3)) ?_))))))
      rcases aN hm with ⟨b1,hm⟩|⟨b1,hm⟩
      ·refine eQ b1 rfl rfl (aG (v:=zS a10 p.length c11) (eQ b1 rfl rfl ?_));obtain ⟨i2,f8,f9,g0,g1⟩:=aF.lendBp q .head
       obtain ⟨i3,g2,hm⟩:=aB hm
       refine aR (vs:=[cR (some ⟨J,0,none⟩) 0,zS a10 p.length c11]) call66 rfl (uB g2 g0 f9 (d5.mono f8)) ?_
       rintro _ i4 ⟨rfl,g3⟩
       have i5:=g1 _ _ g3
       exact aP
      ·exact aP
     ·exact aP
    ·exact aP
  ·exact aP
theorem aLQ {a:(List Int)} {n:Int} {R:(List Int)} (hm:aGk a n=some R) (hs:aF G K (L) w) (y:bG K a1 c2 a):
  Calls prog 158 ([zS a1 a.length c2,i64 n]:List Value).toArray w (eZ fun v w'=>∃ z J,v=zS z R.length J/\aF G K (aL 2 K z J R::L) w'):=by
 refine aO func158 rfl (by kernel_rfl) (by show (2:Nat)<=49;decide) ?_;unfold aGk at hm
 refine aK (aJ (v:=zS none 0 0) (aH (aK (cK (Kt:=K) (xs:=([]:List Int)) (cs:=[]) (vs:=[]) bJ zD rfl rfl hs rfl (by kernel_rfl) rfl rfl rfl trivial (fun V w5 (d0:aF G K (aL 2 K V 0 ([]:List Int)::L) w5)=>(aJ (v:=zS V ([]:List Int).length 0) (aH (aK (aJ (v:=zB false) (aH (aM (aK (aJ (v:=i64 0) (aH (aQ [1] (fun f w=>∃ e j k l,aEf n e j=some R/\f 5=zS k e.length l/\f 6=zB j/\aF G K (aL 2 K k l e::L) w) ?_ ?_)))))))))))))))
 ·rintro f d1 ⟨e,j,k,l,hm,d2,d3,d4⟩
  unfold aEf at hm
  exact aC (mB [] (fun f w=>∃ m a0 a2,aEe m=some R/\f 5=zS a0 m.length a2/\aF G K (aL 2 K a0 a2 m::L) w) aP aP)
 obtain ⟨d5,b7,ho⟩:=aB hm
 refine oR [0,1] b7 (fun b o g f w=>∃ c d,f 5=zS c b.length d/\f 6=zB o/\f 7=i64 g/\aF G K (aL 2 K c d b::L) w) aP ?_
 ·rintro b o g a3 f d6 hm hr ⟨c,d,b8,d7,a5,d8⟩
  unfold vV at hm
  refine aM (aK (bC a5 (aG (v:=zS a1 a.length c2) (aD (bH (len:=a.length) bJ rfl) (aD (cU rfl rfl) (aH ?_))))))
  rcases aN hm with ⟨a6,hm⟩|⟨a6,hm⟩
  ·refine aS a6 rfl (aY (aC (aM (cV (mB [0,1,7] (fun f w=>∃ p a7 a9 b0,aAg a g p a7=some a3/\f 5=zS a9 p.length b0/\f 6=zB a7/\aF G K (aL 2 K a9 b0 p::L) w) aP (aM (cH [0,1,5,6,7] (fun f w=>∃ q,vU a n b o g q=some a3/\f 24=zB q/\aF G K (aL 2 K c d b::L) w) ?_ ?_)))))))
   ·rintro f d9 ⟨q,hm,b9,b1⟩
    unfold vU at hm
    refine aC ?_
    rcases aN hm with ⟨b2,hm⟩|⟨b2,hm⟩
    ·refine aS b2 b9 (aK (aJ (v:=zB true) (aH (aK (aG (v:=zS a1 a.length c2) (bC a5 ?_))))));obtain ⟨e0,b3,hm⟩:=aB hm
     refine aD (dP bJ rfl y rfl rfl rfl b3) ?_;obtain ⟨e1,c0,c1⟩:=bG.el (sz:=1) rfl y b3
     cases c1
     refine aD (bD (t:=0) dC b1 c0 rfl rfl) (aG (v:=i64 n) (aD (aAa rfl rfl) (aH ?_)))
     rcases aN hm with ⟨b4,hm⟩|⟨b4,hm⟩
     ·refine aS b4 rfl (aU (bC b8 (aG (v:=i64 n) (cK (Kt:=K) (xs:=([n]:List Int)) (cs:=[i64 n]) (vs:=[(0,i64 n)]) bJ zD rfl rfl b1 rfl (by kernel_rfl) rfl rfl rfl ⟨rfl,trivial⟩ (fun c3 c4 (c5:aF G K (aL 2 K c3 1 ([n]:List Int)::aL 2 K c d b::L) c4)=>?_)))));obtain ⟨r,c6,hm⟩:=aB hm
      exact nE (i:=0) bJ underlying29 zD rfl rfl c5 rfl (zR _) (zR _) c6 rfl rfl rfl rfl (fun _ h=>h) (fun u x c7 (c8:aF G K (aL 2 K u x r::L) c7)=>(aJ (v:=zS u r.length x) (aH ⟨bL,r,true,u,x,hm,rfl,rfl,c8⟩)))
     ·exact aP
    ·exact aP
   exact aP
  ·exact aP
theorem aEQ {t:bB} {b:Nat} {p:(List Int)} {k:Int} {R:(List Int)} (hm:aBR t p k=some R) (hs:aF G K (L) w) (c:fV K a1 b (zC t a4 c5 a7 c8)) (h6:bG K a4 c5 t.L) (y:bG K a7 c8 t.E) (a5:bG K a10 c11 p):
  Calls prog 110 ([cR a1 b,zS a10 p.length c11,i64 k]:List Value).toArray w (eZ fun v w'=>∃ a6 a8,v=zS a6 R.length a8/\aF G K (aL 2 K a6 a8 R::L) w'):=by
 refine aO func110 rfl (by kernel_rfl) (by show (3:Nat)<=56;decide) ?_;unfold aBR at hm
 refine aK (aJ (v:=zS none 0 0) (aH (aK (aG (v:=cR a1 b) (aG (v:=zS a10 p.length c11) (aG (v:=i64 k) ?_))))));obtain ⟨d,b9,hm⟩:=aB hm
 refine aR (vs:=[cR a1 b,zS a10 p.length c11,i64 k]) call157 rfl (aFF b9 hs c h6 y a5) ?_
 rintro _ e3 ⟨e,h,rfl,c0⟩
 refine aJ (v:=zS e d.length h) (aH (aK (cK (Kt:=K) (xs:=([]:List Int)) (cs:=[]) (vs:=[]) bJ zD rfl rfl c0 rfl (by kernel_rfl) rfl rfl rfl trivial (fun a9 c1 (e4:aF G K (aL 2 K a9 0 ([]:List Int)::aL 4 K e h d::L) c1)=>(aJ (v:=zS a9 ([]:List Int).length 0) (aH (aM (aK (aJ (v:=i64 0) (aH (aQ [] (fun f w=>∃ z b0 b1,aGl z=some R/\f 8=zS b0 z.length b1/\aF G K (aL 2 K b0 b1 z::L) w) aP ?_)))))))))));obtain ⟨e5,c2,ho⟩:=aB hm
 refine cC [0,1,7] c2 (fun j l f w=>∃ m n,f 8=zS m j.length n/\f 9=i64 l/\aF G K (aL 2 K m n j::aL 4 K e h d::L) w) aP ?_
 ·rintro j l b2 f e6 hm hr ⟨m,n,e7,J,o⟩
  unfold mX at hm
  refine aM (aK (bC J (aG (v:=cR a1 b) (aD (kI rfl c) (aD (jY (k':=b+3) fY rfl c rfl) (aD (bD (t:=3) oJ o c rfl rfl) (aD (bH (len:=t.E.length) cS rfl) (aD (cU rfl rfl) (aH ?_)))))))))
  rcases aN hm with ⟨b3,hm⟩|⟨b3,hm⟩
  ·refine aS b3 rfl (aY (aC (aM (aQ [0,1,7,9] (fun f w=>∃ q r u,sA l q=some b2/\f 8=zS r q.length u/\aF G K (aL 2 K r u q::aL 4 K e h d::L) w) ?_ ?_))))
   ·rintro f e8 ⟨q,r,u,hm,c3,c4⟩
    unfold sA at hm
    exact aC (aU (bC J (aD (dT rfl rfl) (aJ (v:=i64 (wr (l+1))) (aH ⟨_,(zI hm).symm,bL,r,u,c3,rfl,c4⟩)))))
   refine aK (aG (v:=cR a1 b) (aD (kI rfl c) (aD (jY (k':=b+3) fY rfl c rfl) (aD (bD (t:=3) oJ o c rfl rfl) (bC J ?_)))));obtain ⟨a,b4,hm⟩:=aB hm
   refine aD (dP cS rfl y rfl rfl rfl b4) ?_;obtain ⟨e9,c6,c7⟩:=bG.el (sz:=3) rfl y b4
   cases c7
   refine aD (fP (t:=0) (vs:=[i64 a.F,i64 a.B,i64 a.To]) qA o c6 rfl rfl rfl) (aZ (vs:=[i64 0,i64 0,i64 0]) zeroValue70 o rfl (fun V f0 c9=>(bS (i:=0) (ns:=[i64 a.F,i64 a.B,i64 a.To]) (us:=[i64 a.F,i64 a.B,i64 a.To]) sizeOf70 c9 rfl rfl rfl rfl rfl (dQ rfl) rfl rfl (fun d0 (x:aF G K (box V 70 [i64 a.F,i64 a.B,i64 a.To]::aL 2 K m n j::aL 4 K e h d::L) d0)=>(aH (aM (cH [0,1,7,8,9,10] (fun f w=>∃ a0,oU p j l a a0=some b2/\f 41=zB a0/\aF G K (box V 70 [i64 a.F,i64 a.B,i64 a.To]::aL 2 K m n j::aL 4 K e h d::L) w) ?_ ?_)))))))
   ·rintro f f1 ⟨a0,hm,d1,d2⟩
    unfold oU at hm
    refine aC ?_
    rcases aN hm with ⟨b5,hm⟩|⟨b5,hm⟩
    ·refine aS b5 d1 ?_;obtain ⟨d3,f2,f3,b6,f4⟩:=aF.lendBp d2 .head
     refine cW (C:=fun w'=>∃ L',aF G d3 L' w') [(0,0),(1,0),(2,0),(3,0),(4,0),(5,0),(6,0),(7,0),(8,0),(9,0),(10,0),(11,0),(12,1),(13,0)] Tryz_mixed (by kernel_rfl) (fun _ hg=>⟨_,aF.mono b6 hg⟩) (fun f5 d4=>?_)
     have f6:=aF.mono b6 d4
     exact aP
    ·exact aP
   refine aU (aG (v:=zS e d.length h) (aD (aV (t':=0) uY rfl rfl) (aD (cJ dC x (i:=0) rfl rfl rfl) ?_)));obtain ⟨d5,a2,hm⟩:=aB hm
   have d6:=dU x (i:=2) rfl a2
   refine aD (fL lV rfl d6 rfl rfl rfl a2) (aD (rH (t:=0) sc_4 x (i:=2) rfl a2 rfl rfl rfl) (aG (v:=zB d5) ?_))
   rcases aN hm with ⟨a3,hm⟩|⟨a3,hm⟩
   ·refine eQ a3 rfl rfl (aG (v:=zS a10 p.length c11) (eQ a3 rfl rfl ?_));obtain ⟨f7,d7,d8,d9,e0⟩:=aF.lendBp x .head
    obtain ⟨f8,e1,hm⟩:=aB hm
    refine aR (vs:=[cR (some ⟨V,0,none⟩) 0,zS a10 p.length c11]) call66 rfl (uB e1 d9 d8 (a5.mono d7)) ?_
    rintro _ f9 ⟨rfl,e2⟩
    have g0:=e0 _ _ e2
    exact aP
   ·exact aP
  ·exact aP
theorem aER {t:bB} {k2:Nat} {p:(List Int)} {e2:Bool} {R:(List Int)} (hm:aBS t p e2=some R) (hs:aF G K (L) w) (h3:fV K a1 k2 (zC t a4 c5 a7 c8)) (h6:bG K a4 c5 t.L) (h9:bG K a7 c8 t.E) (a5:bG K a10 c11 p):
  Calls prog 70 ([cR a1 k2,zS a10 p.length c11,zB e2]:List Value).toArray w (eZ fun v w'=>∃ e5 e6,v=zS e5 R.length e6/\aF G K (aL 2 K e5 e6 R::L) w'):=by
 refine aO func70 rfl (by kernel_rfl) (by show (3:Nat)<=96;decide) ?_;unfold aBS at hm
 refine aK (aJ (v:=zS none 0 0) (aH (aK (aG (v:=cR a1 k2) (aG (v:=zS a10 p.length c11) ?_)))));obtain ⟨n,h1,hm⟩:=aB hm
 refine aR (vs:=[cR a1 k2,zS a10 p.length c11]) call68 rfl (aAQ h1 hs h3 h6 h9 a5) ?_
 rintro _ n2 ⟨o,q,rfl,h2⟩
 refine aJ (v:=zS o n.length q) (aH (aK (cK (Kt:=K) (xs:=([]:List (List Int))) (cs:=[]) (vs:=[]) nW aDk rfl rfl h2 rfl (by kernel_rfl) rfl rfl rfl trivial (fun e7 h4 (n3:aF G K (aL 29 K e7 0 ([]:List (List Int))::aL 4 K o q n::L) h4)=>(aJ (v:=zS e7 ([]:List (List Int)).length 0) (aH (aM (aK (aJ (v:=i64 0) (aH (aQ [1] (fun f w=>∃ b e k l,Hp.le K b/\tS p e=some R/\f 8=zS k e.length l/\aF G b (aL 29 b k l e::L) w) ?_ ?_)))))))))))
 ·rintro f n4 ⟨b,e,k,l,b1,hm,e8,h5⟩
  unfold tS at hm
  refine aC (aK (cK (Kt:=K) (xs:=([]:List Int)) (cs:=[]) (vs:=[]) bJ zD rfl rfl h5 rfl (by kernel_rfl) rfl rfl rfl trivial (fun e9 h7 (n5:aF G b (aL 2 K e9 0 ([]:List Int)::aL 29 b k l e::L) h7)=>(aJ (v:=zS e9 ([]:List Int).length 0) (aH (aK (aJ (v:=i64 0) (aH (aM (aK (aJ (v:=i64 0) (aH (aQ [] (fun f w=>∃ c1 f0 f1,aGm c1=some R/\f 11=zS f0 c1.length f1/\aF G b (aL 2 K f0 f1 c1::L) w) aP ?_)))))))))))))
  obtain ⟨n6,h8,ho⟩:=aB hm
  refine oR [1,8] h8 (fun j c2 a3 f w=>∃ r u,f 11=zS r j.length u/\f 12=i64 c2/\f 13=i64 a3/\aF G b (aL 2 K r u j::aL 29 b k l e::L) w) aP ?_
  ·rintro j c2 a3 c3 f n7 hm hr ⟨r,u,n8,n9,b2,o0⟩
   unfold mY at hm
   refine aM (aK (bC b2 (aG (v:=zS a10 p.length c11) (aD (bH (len:=p.length) bJ rfl) (aD (cU rfl rfl) (aH ?_))))))
   rcases aN hm with ⟨f2,hm⟩|⟨f2,hm⟩
   ·refine aS f2 rfl (aY (aC (aM (aQ [1,8,13] (fun f w=>∃ b3 c4 b4 b5,aAC a3 b3 c4=some c3/\f 11=zS b4 b3.length b5/\f 12=i64 c4/\aF G b (aL 2 K b4 b5 b3::aL 29 b k l e::L) w) ?_ ?_))))
    ·rintro f o1 ⟨b3,c4,b4,b5,hm,i0,i1,i2⟩
     unfold aAC at hm
     exact aC (aU (bC b2 (aD (dT rfl rfl) (aJ (v:=i64 (wr (a3+1))) (aH ⟨_,(zI hm).symm,bL,b4,b5,i0,i1,rfl,i2⟩)))))
    refine aK (aJ (v:=i64 (-1)) (aH (aM (aK (aJ (v:=i64 0) (aH (aQ [1,8,11,12,13] (fun f w=>∃ c6,aAE j c2 a3 c6=some c3/\f 14=i64 c6/\aF G b (aL 2 K r u j::aL 29 b k l e::L) w) ?_ ?_)))))))
    ·rintro f o2 ⟨c6,hm,o3,o4⟩
     unfold aAE at hm
     exact aC (mB [1,8,11,13] (fun f w=>∃ f3 f4,aAD j a3 f3 f4=some c3/\f 12=i64 f3/\f 14=i64 f4/\aF G b (aL 2 K r u j::aL 29 b k l e::L) w) aP aP)
    obtain ⟨o5,i3,ho⟩:=aB hm
    refine cC [1,8,11,12,13] i3 (fun b6 a6 f w=>f 14=i64 b6/\f 15=i64 a6/\aF G b (aL 2 K r u j::aL 29 b k l e::L) w) aP ?_
    ·rintro b6 a6 c7 f o6 hm hr ⟨o7,c9,o8⟩
     unfold oW at hm
     refine aM (aM (cH [1,8,11,12,13,14,15] (fun f w=>∃ d0,oV p e j a3 b6 a6 d0=some c7/\f 59=zB d0/\aF G b (aL 2 K r u j::aL 29 b k l e::L) w) ?_ ?_))
     ·rintro f o9 ⟨d0,hm,i4,i5⟩
      unfold oV at hm
      refine aC ?_
      rcases aN hm with ⟨f5,hm⟩|⟨f5,hm⟩
      ·refine aS f5 i4 (aY (aC (aM (aQ [1,8,11,12,13,15] (fun f w=>∃ d1,sB a6 d1=some c7/\f 14=i64 d1/\aF G b (aL 2 K r u j::aL 29 b k l e::L) w) ?_ ?_))))
       ·rintro f p0 ⟨d1,hm,i6,i7⟩
        unfold sB at hm
        exact aC (aU (bC c9 (aD (dT rfl rfl) (aJ (v:=i64 (wr (a6+1))) (aH ⟨_,(zI hm).symm,bL,i6,rfl,i7⟩)))))
       refine aM (cH [1,8,11,12,13,14,15] (fun f w=>∃ f6,sC j b6 a6 f6=some c7/\f 81=zB f6/\aF G b (aL 2 K r u j::aL 29 b k l e::L) w) aP ?_);obtain ⟨i8,b7,d2,a,f7⟩:=aF.lendSp i5 (zR _) zt1
       refine mC (C:=fun w'=>aF G i8 (aL 2 K r u j::L) w') Tryz_mixed (by kernel_rfl) (aF.mono a (fJ.drew _)) (bX (fun _ a=>aW (v:=zS a10 p.length c11) rfl) (bX (fun _ a=>aW c9) ?_));obtain ⟨i9,f8,hm⟩:=aB hm
       refine bX (fun _ a=>dP bJ rfl (a5.mono (zL b1 b7)) rfl rfl rfl f8) ?_;obtain ⟨p1,j0,j1⟩:=bG.el (sz:=1) rfl a5 f8
       cases j1
       refine bX (fun _ a=>bD (t:=0) dC a (j0.mono (zL b1 b7)) rfl rfl) (bX (fun _ a=>aW (v:=zS a10 p.length c11) rfl) (bX (fun _ a=>aW b2) ?_));obtain ⟨j2,f9,hm⟩:=aB hm
       refine bX (fun _ a=>dP bJ rfl (a5.mono (zL b1 b7)) rfl rfl rfl f9) ?_;obtain ⟨p2,j3,j4⟩:=bG.el (sz:=1) rfl a5 f9
       cases j4
       refine bX (fun _ a=>bD (t:=0) dC a (j3.mono (zL b1 b7)) rfl rfl) (bX (fun _ a=>aCs rfl rfl) (bX (fun _ a=>aW (v:=zB (i9 == j2)) rfl) ?_))
       rcases aN hm with ⟨c,hm⟩|⟨c,hm⟩
       ·refine mW (g:=71) rfl rfl c (bX (fun _ a=>aW e8) (mW (g:=71) rfl rfl c (bX (fun _ a=>aW c9) (mW (g:=71) rfl rfl c ?_))));obtain ⟨j5,d3,hm⟩:=aB hm
        have g0:=aKc d2 d3
        refine bX (fun _ a=>fL nW rfl g0 rfl rfl rfl d3) (mW (g:=71) rfl rfl c ?_);obtain ⟨p3,j6,j7⟩:=bG.el (sz:=1) rfl d2 d3
        obtain ⟨j8,j9,rfl,k0⟩:=j7
        refine bX (fun _ a=>bD (t:=0) aAs a j6 rfl rfl) (mW (g:=71) rfl rfl c (bX (fun _ a=>aW e8) (mW (g:=71) rfl rfl c (bX (fun _ a=>aW b2) (mW (g:=71) rfl rfl c ?_)))));obtain ⟨k1,g1,hm⟩:=aB hm
        refine bX (fun _ a=>fL nW rfl g0 rfl rfl rfl g1) (mW (g:=71) rfl rfl c ?_);obtain ⟨p4,k3,k4⟩:=bG.el (sz:=1) rfl d2 g1
        obtain ⟨k5,k6,rfl,k7⟩:=k4
        refine bX (fun _ a=>bD (t:=0) aAs a k3 rfl rfl) (mW (g:=71) rfl rfl c ?_);obtain ⟨g2,k8,hm⟩:=aB hm
        refine aIg (vs:=[zS j8 j5.length j9,zS k5 k1.length k6]) (v:=zB g2) call71 rfl (fun _ a=>(aDF k8 a k0 k7)) (bX (fun _ a=>gR (v:=zB g2) c rfl rfl) (vN (fun p5 k9=>?_)))
        have p6:=f7 _ _ k9
        exact aP
       ·refine mD (g:=71) rfl rfl (nU c) (mD (g:=71) rfl rfl (nU c) (mD (g:=71) rfl rfl (nU c) (mD (g:=71) rfl rfl (nU c) (mD (g:=71) rfl rfl (nU c) (mD (g:=71) rfl rfl (nU c) (mD (g:=71) rfl rfl (nU c) (mD (g:=71) rfl rfl (nU c) (mD (g:=71) rfl rfl (nU c) (bX (fun _ a=>dO (v:=zB false) c rfl rfl) (vN (fun p7 l0=>?_)))))))))))
        have p8:=f7 _ _ l0
        exact aP
      ·exact aP
     exact aP
   ·exact aP
 obtain ⟨p9,l1,ho⟩:=aB hm
 refine cC [0,1,2,7] l1 (fun m a8 f w=>∃ d x y,Hp.le K d/\f 8=zS x m.length y/\f 9=i64 a8/\aF G d (aL 29 d x y m::aL 4 K o q n::L) w) aP ?_
 ·rintro m a8 g3 f q0 hm hr ⟨d,x,y,z,l2,d4,g4⟩
  unfold lP at hm
  refine aM (aK (bC d4 (aG (v:=cR a1 k2) (aD (kI rfl (h3.mono z)) (aD (jY (k':=k2+0) gT rfl (h3.mono z) rfl) (aD (bD (t:=0) dC g4 (h3.mono z) rfl rfl) (aD (cU rfl rfl) (aH ?_))))))))
  rcases aN hm with ⟨g5,hm⟩|⟨g5,hm⟩
  ·refine aS g5 rfl (aY (aC (aM (cV (aK (aG (v:=cR a1 k2) (aG (v:=zS a10 p.length c11) (bC d4 ?_))))))));obtain ⟨b0,l3,hm⟩:=aB hm
   refine aR (vs:=[cR a1 k2,zS a10 p.length c11,i64 a8]) call110 rfl (aEQ l3 g4 (h3.mono z) (h6.mono z) (h9.mono z) (a5.mono z)) ?_
   rintro _ q1 ⟨b8,b9,rfl,q2⟩
   refine aJ (v:=zS b8 b0.length b9) (aH (mB [0,1,2,7,8,9] (fun f w=>∃ J V a0,qG m a8 J=some g3/\f 10=zS V J.length a0/\aF G d (aL 2 K V a0 J::aL 29 d x y m::aL 4 K o q n::L) w) ?_ ?_))
   ·rintro f l4 ⟨J,V,a0,hm,l5,l6⟩
    unfold qG at hm
    refine aU (bC l2 (bC l5 ?_))
    have l7:aF G d (rows [2] ([(V,a0)]:List (Dp.Hd (List Int))) [J]::aL 29 d x y m::aL 4 K o q n::L) l4:=aF.rowsOne l6
    refine cK (Kt:=K) (xs:=cP ([(V,a0)]:List (Dp.Hd (List Int))) ([J]:List (List Int))) (cs:=[zS V J.length a0]) (vs:=[(0,zS V J.length a0)]) nW aDk rfl rfl l7 rfl (by kernel_rfl) rfl rfl rfl ⟨rfl,trivial⟩ ?_
    intro l8 g6 (l9:aF G d (aL 29 K l8 1 (cP ([(V,a0)]:List (Dp.Hd (List Int))) ([J]:List (List Int)))::rows [2] ([(V,a0)]:List (Dp.Hd (List Int))) ([J]:List (List Int))::aL 29 d x y m::aL 4 K o q n::L) g6)
    obtain ⟨c0,g7,m0,_,d5,_⟩:=aF.lendD' (i:=0) l9 rfl rfl rfl
    replace d5:aF G c0 (aL 29 d x y m::aL 4 K o q n::L) g6:=d5
    obtain ⟨g8,m1,hm⟩:=aB hm
    exact aFd (i:=0) nW underlying39 aDk rfl rfl d5 rfl g7 m0 m1 rfl rfl rfl rfl (fun d6 d7 m2 (m3:aF G c0 (aL 29 c0 d6 d7 g8::aL 4 K o q n::L) m2)=>(aJ (v:=zS d6 g8.length d7) (aT (dB (aC (aU (bC d4 (aD (dT rfl rfl) (aJ (v:=i64 (wr (a8+1))) (aH ⟨_,(zI hm).symm,bL,c0,d6,d7,(zL z g7),rfl,rfl,m3⟩))))))))))
   refine aM (cH [0,1,2,7,8,9,10] (fun f w=>∃ d8,tT m a8 b0 d8=some g3/\f 38=zB d8/\aF G d (aL 2 K b8 b9 b0::aL 29 d x y m::aL 4 K o q n::L) w) ?_ ?_)
   ·rintro f q3 ⟨d8,hm,m4,m5⟩
    unfold tT at hm
    refine aC ?_
    rcases aN hm with ⟨g9,hm⟩|⟨g9,hm⟩
    ·refine aS g9 m4 (aU (aG (v:=zS b8 b0.length b9) (cK (Kt:=K) (xs:=([(-1)]:List Int)) (cs:=[i64 (-1)]) (vs:=[(0,i64 (-1))]) bJ zD rfl rfl m5 rfl (by kernel_rfl) rfl rfl rfl ⟨rfl,trivial⟩ (fun m6 m7 (m8:aF G d (aL 2 K m6 1 ([(-1)]:List Int)::aL 2 K b8 b9 b0::aL 29 d x y m::aL 4 K o q n::L) m7)=>?_))));obtain ⟨d9,m9,hm⟩:=aB hm
     exact nE (i:=0) bJ underlying29 zD rfl rfl m8 rfl z z m9 rfl rfl rfl rfl (fun _ h=>h) (fun e0 e1 n0 (n1:aF G d (aL 2 K e0 e1 d9::aL 29 d x y m::aL 4 K o q n::L) n0)=>(aJ (v:=zS e0 d9.length e1) (aH ⟨bL,d9,e0,e1,hm,rfl,n1⟩)))
    ·exact aP
   exact aP
  ·exact aP
theorem aGA {t:bB} {a:Nat} {g:Bool} {R:(List Int)} (hm:aEN t g=some R) (m:aF G K (L) w) (h:fV K a1 a (zC t a4 c5 a7 c8)) (r:bG K a4 c5 t.L) (u:bG K a7 c8 t.E):
  Calls prog 34 ([cR a1 a,zB g]:List Value).toArray w (eZ fun v w'=>∃ n o,v=zS n R.length o/\aF G K (aL 2 K n o R::L) w'):=by
 refine aO func34 rfl (by kernel_rfl) (by show (2:Nat)<=21;decide) ?_;unfold aEN at hm
 refine aK (aJ (v:=zS none 0 0) (aH (aK (aG (v:=cR a1 a) (aD (kI rfl h) (aD (jY (k':=a+0) gT rfl h rfl) (aD (bD (t:=0) dC m h rfl rfl) ?_)))))));obtain ⟨i,x,hm⟩:=aB hm
 refine aIf (e:=(0:Int)) bJ zD rfl rfl m rfl rfl rfl x rfl (fun p y (b9:aF G K (aL 2 K p i.length i::L) y)=>(aJ (v:=zS p i.length i.length) (aH (cV ?_))));obtain ⟨c0,z,ho⟩:=aB hm
 refine fK [0,1] z (fun b f w=>∃ c d,f 5=zS c b.length d/\aF G K (aL 2 K c d b::L) w) aP ?_
 ·rintro b c1 f c2 hm hr ⟨c,d,q,J⟩
  unfold aAF at hm
  refine cV (aK (aG (v:=cR a1 a) (bC q (aG (v:=zB g) ?_))));obtain ⟨c3,j,V,a0,a2⟩:=aF.lendSp J (zR _) .head
  obtain ⟨k,a3,hm⟩:=aB hm
  refine aR (vs:=[cR a1 a,zS c b.length d,zB g]) call70 rfl (aER a3 a0 (h.mono j) (r.mono j) (u.mono j) V) ?_
  rintro _ c4 ⟨l,c45,rfl,a5⟩
  have a6:=a2 _ _ a5
  refine aJ (v:=zS l k.length c45) (aH (aM (aK (aG (v:=zS l k.length c45) (bC q ?_)))));obtain ⟨c6,a8,a9,b0,b1⟩:=aF.lendSp a6 (zR _) zt1
  obtain ⟨c7,b2,b3,b4,b5⟩:=aF.lendSp b0 a8 .head
  obtain ⟨c9,b6,hm⟩:=aB hm
  refine aR (vs:=[zS l k.length c45,zS c b.length d]) call71 rfl (aDF b6 b4 (a9.mono b2) b3) ?_
  rintro _ d0 ⟨rfl,b7⟩
  have b8:=b5 _ _ b7
  have d1:=b1 _ _ b8
  exact aP
theorem aFG {t:bB} {b:Nat} {c:Bool} {R:bB} (hm:aDs t c=some R) (hs:aF G K (L) w) (o:fV K a1 b (zC t a4 c5 a7 c8)) (p:bG K a4 c5 t.L) (q:bG K a7 c8 t.E):
  Calls prog 17 ([cR a1 b,zB c]:List Value).toArray w (eZ fun v w'=>∃ r u x y,v=zA (zCa R r u x y)/\aF G K (aL 9 K r u R.L::aL 70 K x y R.E::L) w'):=by
 let j:=zG
 refine aO func17 rfl (by kernel_rfl) (by show (2:Nat)<=14;decide) ?_;unfold aDs at hm
 refine aK (aZ (vs:=j) zeroValue35 hs rfl (fun a6 f2 a8=>(aH (aK (aG (v:=cR a1 b) (aG (v:=cR a1 b) ?_))))));obtain ⟨z,a9,hm⟩:=aB hm
 refine aR (vs:=[cR a1 b]) call32 rfl (aFE a9 a8 o p q) ?_
 rintro _ f3 ⟨J,V,rfl,b0⟩
 obtain ⟨f4,k,b1,b2,b3⟩:=aF.lendSp b0 (zR _) .head
 obtain ⟨a,b4,hm⟩:=aB hm
 refine aR (vs:=[cR a1 b,zS J z.length V]) call31 rfl (aGy b4 b2 (o.mono k) (p.mono k) (q.mono k) b1) ?_
 rintro _ f5 ⟨d,e,g,h,rfl,b5⟩
 have b6:=b3 _ _ b5
 refine aZ (vs:=j) zeroValue35 b6 rfl (fun l f6 b7=>(bS (i:=0) (ns:=(zC a d e g h)) (us:=(zC a d e g h)) sizeOf35 b7 rfl rfl rfl rfl rfl (dQ rfl) rfl rfl (fun b8 (b9:aF G K (box l 35 (zC a d e g h)::aL 2 K J V z::aL 9 K d e a.L::aL 70 K g h a.E::box a6 35 j::L) b8)=>(aH (aK (aG (v:=zB c) ?_))))));obtain ⟨f7,c0,c1,c2,c3⟩:=aF.lendSp b9 (zR _) zt2
 obtain ⟨f8,c4,c6,c7,c9⟩:=aF.lendSp c2 c0 zt2
 obtain ⟨f9,a0,d0,d1,d2⟩:=aF.lendBp c7 .head
 obtain ⟨d3,d4,hm⟩:=aB hm
 refine aR (vs:=[cR (some ⟨l,0,none⟩) 0,zB c]) call34 rfl (aGA d4 d1 d0 (c1.mono (zL c4 a0)) (c6.mono a0)) ?_
 rintro _ g0 ⟨d5,d6,rfl,d7⟩
 have d8:=d2 _ _ d7
 have d9:=c9 _ _ d8
 have e0:=c3 _ _ d9
 refine aG (v:=zB c) ?_;obtain ⟨g1,a2,e1,e2,g2⟩:=aF.lendSp e0 (zR _) .head
 obtain ⟨g3,a3,e3,e4,g4⟩:=aF.lendSp e2 a2 .head
 obtain ⟨g5,m,e5,e6,g6⟩:=aF.lendBp e4 .head
 obtain ⟨g7,n,e7,e8,e9⟩:=aF.lendSp e6 (zL (zL a2 a3) m) .head
 obtain ⟨g8,f0,hm⟩:=aB hm
 refine aR (vs:=[cR (some ⟨l,0,none⟩) 0,zS d5 d3.length d6,zB c]) call33 rfl (aDE f0 e8 (e5.mono n) (e1.mono (zL (zL a3 m) n)) (e3.mono (zL m n)) e7) ?_
 rintro _ g9 ⟨h0,h1,h2,h4,rfl,f1⟩
 have h5:=e9 _ _ f1
 exact aP
theorem aHv {t:bB} {a:Nat} {k:Int} {R:(List Edge)} (hm:aGo t k=some R) (x:aF G K (L) w) (g:fV K a1 a (zC t a4 c5 a7 c8)) (h6:bG K a4 c5 t.L) (h9:bG K a7 c8 t.E):
  Calls prog 35 ([cR a1 a,i64 k]:List Value).toArray w (eZ fun v w'=>∃ m n,v=zS m R.length n/\aF G K (aL 70 K m n R::L) w'):=by
 refine aO func35 rfl (by kernel_rfl) (by show (2:Nat)<=38;decide) ?_;unfold aGo at hm
 refine aK (aJ (v:=zS none 0 0) (aH (aK (cK (Kt:=K) (xs:=([]:List Edge)) (cs:=[]) (vs:=[]) cS sM rfl rfl x rfl (by kernel_rfl) rfl rfl rfl trivial (fun o y (a6:aF G K (aL 70 K o 0 ([]:List Edge)::L) y)=>(aJ (v:=zS o ([]:List Edge).length 0) (aH (aM (aK (aJ (v:=i64 0) (aH (aQ [] (fun f w=>∃ h p q,aGn h=some R/\f 5=zS p h.length q/\aF G K (aL 70 K p q h::L) w) aP ?_))))))))))));obtain ⟨a8,z,ho⟩:=aB hm
 refine cC [0,1] z (fun i b f w=>∃ j l,f 5=zS j i.length l/\f 6=i64 b/\aF G K (aL 70 K j l i::L) w) aP ?_
 ·rintro i b J f a9 hm hr ⟨j,l,b0,r,V⟩
  unfold aBU at hm
  refine aM (aK (bC r (aG (v:=cR a1 a) (aD (kI rfl g) (aD (jY (k':=a+3) fY rfl g rfl) (aD (bD (t:=3) oJ V g rfl rfl) (aD (bH (len:=t.E.length) cS rfl) (aD (cU rfl rfl) (aH ?_)))))))))
  rcases aN hm with ⟨u,hm⟩|⟨u,hm⟩
  ·refine aS u rfl (aY (aC (aM (aQ [0,1,6] (fun f w=>∃ c d e,aBT b c=some J/\f 5=zS d c.length e/\aF G K (aL 70 K d e c::L) w) ?_ ?_))))
   ·rintro f b1 ⟨c,d,e,hm,a0,a2⟩
    unfold aBT at hm
    exact aC (aU (bC r (aD (dT rfl rfl) (aJ (v:=i64 (wr (b+1))) (aH ⟨_,(zI hm).symm,bL,d,e,a0,rfl,a2⟩)))))
   exact aP
  ·exact aP
theorem aGB {a:(List UInt8)} {b c n:Int} {R:(Bool × (List UInt8) × Int × Int)} (hm:aJT a b c n=some R) (g:aF G K (aL 5 K a2 c3 a::box b1 64 [zS a2 a.length c3,i64 b,Value.int .u64 c]::L) w):
  Calls prog 16 ([zP (some ⟨b1,0,none⟩),i64 n]:List Value).toArray w (eZ fun v w'=>∃ d e,v=zB R.1/\aF G K (aL 5 K d e R.2.1::box b1 64 [zS d R.2.1.length e,i64 R.2.2.1,Value.int .u64 R.2.2.2]::L) w'):=by
 exact aP
theorem aDG {b:(List UInt8)} {b4 b5:Int} {t:bB} {d:Nat} {R:(bB × Int × Int)} (hm:yB b b4 b5 t=some R) (hs:aF G K (box b1 64 [zS a2 b.length c3,i64 b4,Value.int .u64 b5]::L) w) (h4:bG K a2 c3 b) (c:fV K a5 d (zC t a8 c9 a11 c12)) (f8:bG K a8 c9 t.L) (f9:bG K a11 c12 t.E):
  Calls prog 18 ([zP (some ⟨b1,0,none⟩),cR a5 d]:List Value).toArray w (eZ fun v w'=>∃ c8 d0 d1 d2,v=zA (zCa R.1 c8 d0 d1 d2)/\aF G K (aL 9 K c8 d0 R.1.L::aL 70 K d1 d2 R.1.E::box b1 64 [zS a2 b.length c3,i64 R.2.1,Value.int .u64 R.2.2]::L) w'):=by
 let e:=zG
 refine aO func18 rfl (by kernel_rfl) (by show (2:Nat)<=115;decide) ?_;unfold yB at hm
 refine aK (aZ (vs:=e) zeroValue35 hs rfl (fun h g0 d3=>(aH (aK (aG (v:=zP (some ⟨b1,0,none⟩)) (aG (v:=cR a5 d) (aD (kI rfl c) (aD (jY (k':=d+0) gT rfl c rfl) (aD (bD (t:=0) dC d3 c rfl rfl) ?_)))))))))
 have g1:aF G K (box b1 64 [zS a2 b.length c3,i64 b4,Value.int .u64 b5]::box h 35 e::L) g0:=(aF.arr 2 [1,0] d3 rfl)
 obtain ⟨y,g2,hm⟩:=aB hm
 refine aR (vs:=[zP (some ⟨b1,0,none⟩),i64 t.N]) call14 rfl (fH g2 g1 h4) ?_
 rintro _ h5 ⟨rfl,h6⟩
 refine aJ (v:=i64 y.1) (aH (aK (aJ (v:=i64 0) (aH (mB [0,1,4,5] (fun f w=>∃ z J k,oQ b t y z J k=some R/\f 6=i64 k/\aF G K (box b1 64 [zS a2 b.length c3,i64 z,Value.int .u64 J]::box h 35 e::L) w) ?_ ?_)))))
 ·rintro f h8 ⟨z,J,k,hm,d4,d5⟩
  unfold oQ at hm
  refine aK (aG (v:=cR a5 d) (aD (kI rfl c) (aD (jY (k':=d+0) gT rfl c rfl) (aD (bD (t:=0) dC d5 c rfl rfl) (bC d4 (aD (dT rfl rfl) (aJ (v:=i64 (wr (t.N+k))) (aH (aK (cK (Kt:=K) (xs:=([]:List Edge)) (cs:=[]) (vs:=[]) cS sM rfl rfl d5 rfl (by kernel_rfl) rfl rfl rfl trivial (fun d6 g3 (h9:aF G K (aL 70 K d6 0 ([]:List Edge)::box b1 64 [zS a2 b.length c3,i64 z,Value.int .u64 J]::box h 35 e::L) g3)=>(aJ (v:=zS d6 ([]:List Edge).length 0) (aH (aM (aK (aJ (v:=i64 0) (aH (aQ [1,4,7] (fun f w=>∃ V b6 b7 b8 b9,wZ t k V b6 b7=some R/\f 8=zS b8 V.length b9/\aF G K (aL 70 K b8 b9 V::box b1 64 [zS a2 b.length c3,i64 b6,Value.int .u64 b7]::box h 35 e::L) w) ?_ ?_))))))))))))))))))
  ·rintro f i0 ⟨V,b6,b7,b8,b9,hm,i1,d7⟩
   unfold wZ at hm
   refine aC (aM (cW (C:=fun w'=>∃ L',aF G K L' w') [(0,0),(1,0),(2,0),(3,0),(4,0),(5,0),(6,0),(7,0),(8,0),(9,0),(10,1),(11,2)] Tryz_mixed (by kernel_rfl) (fun _ hg=>⟨_,aF.mono d7 hg⟩) (fun i2 g4=>?_)))
   have i3:=aF.mono d7 g4
   exact aP
  obtain ⟨i4,g5,ho⟩:=aB hm
  refine vM [0,1,4,5,6,7] g5 (fun a0 a1 q j f w=>∃ a3 a4,f 8=zS a3 q.length a4/\f 9=i64 j/\aF G K (aL 70 K a3 a4 q::box b1 64 [zS a2 b.length c3,i64 a0,Value.int .u64 a1]::box h 35 e::L) w) aP ?_
  ·rintro a0 a1 q j c0 f i5 hm hr ⟨a3,a4,i6,c1,i7⟩
   unfold jR at hm
   refine aM (aK (bC c1 (aG (v:=i64 (wr (t.N+k))) (aD (cU rfl rfl) (aH ?_)))))
   rcases aN hm with ⟨d8,hm⟩|⟨d8,hm⟩
   ·refine aS d8 rfl (aY (aC (aM (aQ [0,1,4,5,6,7,9] (fun f w=>∃ c2 c4 a6 a7 a9,xA j c2 c4 a6=some c0/\f 8=zS a7 a6.length a9/\aF G K (aL 70 K a7 a9 a6::box b1 64 [zS a2 b.length c3,i64 c2,Value.int .u64 c4]::box h 35 e::L) w) ?_ ?_))))
    ·rintro f i8 ⟨c2,c4,a6,a7,a9,hm,g6,g7⟩
     unfold xA at hm
     exact aC (aU (bC c1 (aD (dT rfl rfl) (aJ (v:=i64 (wr (j+1))) (aH ⟨_,(zI hm).symm,bL,a7,a9,g6,rfl,g7⟩)))))
    refine aK (bC c1 (aJ (v:=i64 j) (aH (mB [0,1,4,5,6,7,8,9] (fun f w=>∃ b0,mG b t y k a0 a1 q j b0=some c0/\f 10=i64 b0/\aF G K (aL 70 K a3 a4 q::box b1 64 [zS a2 b.length c3,i64 a0,Value.int .u64 a1]::box h 35 e::L) w) ?_ ?_))))
    ·rintro f i9 ⟨b0,hm,g8,g9⟩
     unfold mG at hm
     refine aK (aG (v:=cR a5 d) (bC g8 ?_));obtain ⟨l,h0,hm⟩:=aB hm
     refine aR (vs:=[cR a5 d,i64 b0]) call35 rfl (aHv h0 g9 c f8 f9) ?_
     rintro _ j0 ⟨n,o,rfl,j1⟩
     refine aJ (v:=zS n l.length o) (aH (aK (aJ (v:=i64 0) (aH (aQ [0,1,4,5,6,7,9] (fun f w=>∃ d9 e0 c5 e1 e2,aBo j d9 e0 c5=some c0/\f 8=zS e1 c5.length e2/\aF G K (aL 70 K e1 e2 c5::box b1 64 [zS a2 b.length c3,i64 d9,Value.int .u64 e0]::box h 35 e::L) w) aP ?_)))));obtain ⟨j2,h1,ho⟩:=aB hm
     refine vM [0,1,4,5,6,7,9,11] h1 (fun e3 e4 m r f w=>∃ u x,f 8=zS u m.length x/\f 12=i64 r/\aF G K (aL 70 K n o l::aL 70 K u x m::box b1 64 [zS a2 b.length c3,i64 e3,Value.int .u64 e4]::box h 35 e::L) w) aP ?_
     ·rintro e3 e4 m r e5 f j3 hm hr ⟨u,x,j4,e6,b2⟩
      unfold kT at hm
      refine aM (aK (bC e6 (aG (v:=zS n l.length o) (aD (bH (len:=l.length) cS rfl) (aD (cU rfl rfl) (aH ?_))))))
      rcases aN hm with ⟨e7,hm⟩|⟨e7,hm⟩
      ·refine aS e7 rfl (aY (aC (aM (cV (aK (aG (v:=zS n l.length o) (bC e6 ?_)))))));obtain ⟨p,c6,hm⟩:=aB hm
       have e8:=dU b2 (i:=0) rfl c6
       refine aD (fL cS rfl e8 rfl rfl rfl c6) (aD (R_fldA (k':=r.toNat * 3+2) pQ e8 rfl rfl) (aD (rH (t:=2) dC b2 (i:=0) rfl c6 rfl rfl rfl) (aJ (v:=i64 p.To) (aH (mB [0,1,4,5,6,7,8,9,11,12] (fun f w=>∃ e9 f0 f1,sD j m r p e9 f0 f1=some e5/\f 13=i64 f1/\aF G K (aL 70 K n o l::aL 70 K u x m::box b1 64 [zS a2 b.length c3,i64 e9,Value.int .u64 f0]::box h 35 e::L) w) aP (aM (cH [0,1,4,5,6,7,8,9,11,12,13] (fun f w=>∃ f2 f3 f4,oP t j m r p f2 f3 f4=some e5/\f 88=zB f4/\aF G K (aL 70 K n o l::aL 70 K u x m::box b1 64 [zS a2 b.length c3,i64 f2,Value.int .u64 f3]::box h 35 e::L) w) aP (cW (C:=fun w'=>∃ L',aF G K L' w') [(0,0),(1,0),(2,0),(3,0),(4,0),(5,0),(6,0),(7,0),(8,0),(9,0),(10,0),(11,0),(12,0),(13,0),(14,0),(15,0),(16,0),(17,0),(18,0),(19,1),(20,0)] Tryz_mixed (by kernel_rfl) (fun _ hg=>⟨_,aF.mono b2 hg⟩) (fun j5 h2=>?_)))))))))
       have b3:=aF.mono b2 h2
       refine bA rfl (fun _ _=>aW d4) (bA rfl (fun _ _=>aAa rfl rfl) (bA rfl (fun _ _=>aW (v:=zB (decide (0 < k))) rfl) ?_))
       rcases aN hm with ⟨a,hm⟩|⟨a,hm⟩
       ·refine aBa rfl rfl rfl a (fun _ _=>aW (v:=cR a5 d) rfl) (aBa rfl rfl rfl a (fun _ _=>kI rfl c) (aBa rfl rfl rfl a (fun _ _=>jY (k':=d+0) gT rfl c rfl) (aBa rfl rfl rfl a (fun _ ⟨_,b3⟩=>bD (t:=0) dC b3 c rfl rfl) (aBa rfl rfl rfl a (fun _ _=>aW (v:=i64 y.1) rfl) (aBa rfl rfl rfl a (fun _ _=>dT rfl rfl) (aBa rfl rfl rfl a (fun _ _=>aW (v:=cR a5 d) rfl) (aBa rfl rfl rfl a (fun _ _=>kI rfl c) (aBa rfl rfl rfl a (fun _ _=>jY (k':=d+0) gT rfl c rfl) (aBa rfl rfl rfl a (fun _ ⟨_,b3⟩=>bD (t:=0) dC b3 c rfl rfl) ?_)))))))))
        obtain ⟨f5,h3,hm⟩:=aB hm
        refine aBa rfl rfl rfl a (fun _ _=>R_rem rfl rfl h3) (aBa rfl rfl rfl a (fun _ _=>aW (v:=i64 p.To) rfl) (aBa rfl rfl rfl a (fun _ _=>aCs rfl rfl) (bA rfl (fun _ _=>gR (v:=zB (f5 == p.To)) a rfl rfl) (bA rfl (fun _ _=>aW (v:=zB (f5 == p.To)) rfl) ?_))))
        rcases aN hm with ⟨c7,hm⟩|⟨c7,hm⟩
        ·exact aBa rfl rfl rfl c7 (fun _ _=>aW (v:=zP (some ⟨b1,0,none⟩)) rfl) (jN rfl aP)
        ·exact sX rfl rfl rfl (nU c7) aP
       ·exact sX rfl rfl rfl (nU a) (sX rfl rfl rfl (nU a) (sX rfl rfl rfl (nU a) (sX rfl rfl rfl (nU a) (sX rfl rfl rfl (nU a) (sX rfl rfl rfl (nU a) (sX rfl rfl rfl (nU a) (sX rfl rfl rfl (nU a) (sX rfl rfl rfl (nU a) (sX rfl rfl rfl (nU a) (sX rfl rfl rfl (nU a) (sX rfl rfl rfl (nU a) (sX rfl rfl rfl (nU a) (bA rfl (fun _ _=>dO (v:=zB false) a rfl rfl) (bA rfl (fun _ _=>aW (v:=zB false) rfl) (sX rfl rfl rfl (nU (by decide:¬ false=true)) aP)))))))))))))))
      ·exact aP
    exact aP
   ·exact aP
 exact aP
theorem aHw {a:(List UInt8)} {t R:bB} (hm:aGp a t=some R) (p:aF G K (L) w) (c:bG K a1 c2 a) (g:bG K a4 c5 t.L) (h:bG K a7 c8 t.E):
  Calls prog 7 ([zS a1 a.length c2,zA (zCa t a4 c5 a7 c8)]:List Value).toArray w (eZ fun v w'=>∃ i j k l,v=zA (zCa R i j k l)/\aF G K (aL 9 K i j R.L::aL 70 K k l R.E::L) w'):=by
 refine aO func7 rfl (by kernel_rfl) (by show (2:Nat)<=13;decide) ?_;unfold aGp at hm
 refine aK (dJ (v:=zA (zCa t a4 c5 a7 c8)) (vs:=(zC t a4 c5 a7 c8)) p rfl rfl (fun m a5 q=>(aZ (vs:=zG) zeroValue35 q rfl (fun a6 a8 r=>(aH (aK (aG (v:=zS a1 a.length c2) ?_)))))));obtain ⟨a9,u,hm⟩:=aB hm
 refine aR (vs:=[zS a1 a.length c2]) call11 rfl (aDA u r c) ?_
 rintro _ b0 ⟨b,rfl,x⟩
 refine aJ (v:=zP (some ⟨b,0,none⟩)) (aH (aM (aK (aG (v:=zP (some ⟨b,0,none⟩)) ?_))));obtain ⟨b1,y,hm⟩:=aB hm
 refine aR (vs:=[zP (some ⟨b,0,none⟩),i64 2]) call16 rfl (vE y x c) ?_
 rintro _ b2 ⟨rfl,n⟩
 refine aH ?_
 rcases aN hm with ⟨d,hm⟩|⟨d,hm⟩
 ·refine aS d rfl (aK ?_);obtain ⟨b3,o,z,J,b4⟩:=aF.lendBp n zt2
  obtain ⟨b5,V,hm⟩:=aB hm
  exact aR (vs:=[cR (some ⟨m,0,none⟩) 0,zB true]) call17 rfl (aFG V J z (g.mono o) (h.mono o)) aP
 ·refine bE d rfl (aY (aC (aK (aG (v:=zP (some ⟨b,0,none⟩)) ?_))));obtain ⟨b6,e,a0,a2,b7⟩:=aF.lendBp n zt2
  obtain ⟨b8,a3,hm⟩:=aB hm
  exact aR (vs:=[zP (some ⟨b,0,none⟩),cR (some ⟨m,0,none⟩) 0]) call18 rfl (aDG a3 a2 (c.mono e) a0 (g.mono e) (h.mono e)) aP
theorem aHK {t:bB} {k:Int} {R:Bool} (hm:uJ t k=some R) (a:aF G K (L) w) (b:bG K a1 c2 t.L) (c:bG K a4 c5 t.E):
  Calls prog 73 ([zA (zCa t a1 c2 a4 c5),i64 k]:List Value).toArray w (eZ fun v w'=>v=zB R/\aF G K (L) w'):=by
 exact aP
theorem aNi {i many:Int} {R:Bool} (hm:aKf i many=some R) (a:aF G K (L) w):
  Calls prog 75 ([i64 i,i64 many]:List Value).toArray w (eZ fun v w'=>v=zB R/\aF G K (L) w'):=by
 exact aP
theorem aFH {t:bB} {R:Bool} (hm:vX t=some R) (y:aF G K (L) w) (hG:G.lo=0) (k:bG K a1 c2 t.L) (l:bG K a4 c5 t.E):
  Calls prog 39 ([zA (zCa t a1 c2 a4 c5)]:List Value).toArray w (eZ fun v w'=>v=zB R/\aF G K (L) w'):=by
 let b:=(zC t a1 c2 a4 c5)
 refine aO func39 rfl (by kernel_rfl) (by show (1:Nat)<=109;decide) ?_;unfold vX at hm
 refine aK (dJ (v:=zA (zCa t a1 c2 a4 c5)) (vs:=b) y rfl rfl (fun c w8 b8=>(aJ (v:=zB false) (aH (aM (aM (cH [1] (fun f w=>∃ g,rC t g=some R/\f 30=zB g/\aF G K (box c 35 b::L) w) ?_ ?_)))))))
 ·rintro f b9 ⟨g,hm,z,J⟩
  unfold rC at hm
  refine aC ?_
  rcases aN hm with ⟨m,hm⟩|⟨m,hm⟩
  ·exact aP
  ·refine bE m z (aY (aC (aM (aK (aD (aV (t':=2) oE rfl rfl) (aD (cJ xV J (i:=0) rfl rfl rfl) (aD (bH (len:=t.L.length) eG rfl) (aG (v:=i64 0) (aH (aQ [1] (fun f w=>aBD t=some R/\aF G K (box c 35 b::L) w) ?_ ?_))))))))))
   ·rintro f c0 ⟨hm,V⟩
    unfold aBD at hm
    refine aC (aM (aK (aD (aV (t':=3) fY rfl rfl) (aD (cJ oJ V (i:=0) rfl rfl rfl) (aD (bH (len:=t.E.length) cS rfl) (aG (v:=i64 0) (aH (aQ [] (fun f w=>aHq=some R/\aF G K (L) w) aP ?_))))))));obtain ⟨c1,a0,ho⟩:=aB hm
    refine fK [1,65,66] a0 (fun d f w=>f 67=i64 d/\aF G K (box c 35 b::L) w) aP ?_
    ·rintro d a2 f c3 hm hr ⟨h,n⟩
     unfold yD at hm
     refine aK (aD (cU h rfl) (aH (aM ?_)))
     rcases aN hm with ⟨o,hm⟩|⟨o,hm⟩
     ·refine aS o rfl (aY (aC (aM (cV (aK (bC h ?_))))));obtain ⟨a,p,hm⟩:=aB hm
      refine aD (dP cS rfl l rfl rfl h p) ?_;obtain ⟨c4,a3,a5⟩:=bG.el (sz:=3) rfl l p
      cases a5
      exact aD (fP (t:=0) (vs:=[i64 a.F,i64 a.B,i64 a.To]) qA n a3 rfl rfl rfl) (aZ (vs:=[i64 0,i64 0,i64 0]) zeroValue70 n rfl (fun a6 c6 a7=>(aJ (v:=i64 d) (bS (i:=0) (ns:=[i64 a.F,i64 a.B,i64 a.To]) (us:=[i64 a.F,i64 a.B,i64 a.To]) sizeOf70 a7 rfl rfl rfl rfl rfl (dQ rfl) rfl rfl (fun a8 (c7:aF G K (box a6 70 [i64 a.F,i64 a.B,i64 a.To]::box c 35 b::L) a8)=>(aH (aM (cH [1,65,66,67] (fun f w=>∃ q,rB d q=some a2/\f 107=zB q/\aF G K (box c 35 b::L) w) aP aP))))))))
     ·exact aP
   obtain ⟨c8,a9,ho⟩:=aB hm
   refine fK [1,32,33] a9 (fun e f w=>f 34=i64 e/\aF G K (box c 35 b::L) w) aP ?_
   ·rintro e b0 f c9 hm hr ⟨j,b1⟩
    unfold yE at hm
    refine aK (aD (cU j rfl) (aH (aM ?_)))
    rcases aN hm with ⟨r,hm⟩|⟨r,hm⟩
    ·refine aS r rfl (aY (aC (aM (cV (aK (bC j ?_))))));obtain ⟨b2,u,hm⟩:=aB hm
     refine aD (dP eG rfl k rfl rfl j u) ?_;obtain ⟨d0,b3,b4⟩:=bG.el (sz:=1) rfl k u
     cases b4
     exact aD (bD (t:=0) aAq b1 b3 rfl rfl) (aJ (v:=i64 e) (aJ (v:=str b2) (aH (aM (cH [1,32,33,34] (fun f w=>∃ x,uK e x=some b0/\f 62=zB x/\aF G K (box c 35 b::L) w) aP aP)))))
    ·exact aP
 exact aP
theorem aAR {t:bB} {R:Bool} (hm:aAG t=some R) (a:aF G K (L) w) (b:G.lo=0) (c:bG K a1 c2 t.L) (d:bG K a4 c5 t.E):
  Calls prog 38 ([zA (zCa t a1 c2 a4 c5)]:List Value).toArray w (eZ fun v w'=>v=zB R/\aF G K (L) w'):=by
 exact aP
end Gv
