/- Walks, printed by program. -/
import Derived.Test.YtcoeckcjdpbbkaaGreatDoorJWk3
set_option linter.all false
namespace Gv
open Go.Value renaming slice→zS,bool→zB,pointer→zP
open Option.some renaming inj→zI
open Gv.Hp renaming le_trans→zL,le_refl→zR
open Go Go.Proofs Go.Proofs.Tryz
set_option maxRecDepth 20000
set_option maxHeartbeats 40000000
variable {G:Env} {K Kf:Hp} {L:List gV} {w:World} {b1 c6 c9 c12 c15 c21 c24 c27 c29 c31 c3 c18:Nat} {a2 a5 a8 a11 a14 a17 a20 a23 a26 a28 a30:Option Addr}
theorem xW {a:aO} {k:Nat} {d:aP} {g:Nat} {b:(List (List Int))} {c:(List Edge)} {l:Bool} {Z:Int} {R:(List Int)} (hm:lJ a d b c l Z=some R) (hs:aD G K (aF 28 Kf a26 c27 b::aF 90 K a28 c29 c::box b1 99 [bR a2 k,bR a17 g,zS a26 b.length c27,zS a28 c.length c29,zB l]::L) w) (a0:Hp.le Kf K) (h4:bZ K a2 k (zE a a5 c6 a8 c9 a11 c12 a14 c15)) (h7:aN K a5 c6 a.S.L) (c0:aN K a8 c9 a.S.E) (f5:aN K a11 c12 a.M) (f6:aN K a14 c15 a.C) (c1:bZ K a17 g (zC d a20 c21 a23 c24)) (c2:aN K a20 c21 d.L) (c3:aN K a23 c24 d.E):
  Calls prog 138 ([zP (some ⟨b1,0,none⟩),i64 Z]:List Value).toArray w (dS fun v w'=>∃ a3 a4,v=zS a3 R.length a4/\aD G K (aF 2 K a3 a4 R::aF 28 Kf a26 c27 b::aF 90 K a28 c29 c::box b1 99 [bR a2 k,bR a17 g,zS a26 b.length c27,zS a28 c.length c29,zB l]::L) w'):=by
 let r:=box b1 99 [bR a2 k,bR a17 g,zS a26 b.length c27,zS a28 c.length c29,zB l]
 refine cH func138 ?_;unfold lJ at hm
 refine aC ?_;refine nW ([]:List Int) fun f7 f8 c4=>?_
 refine aC ?_;obtain ⟨f9,u,a6,c5,c7⟩:=aD.lendSp c4 a0 zt1
 obtain ⟨g0,h,g1,g2,c8⟩:=aD.lendBp c5 zt2
 refine wW [(0,0),(1,0),(2,0),(3,0),(4,0),(5,0),(6,0),(7,0),(8,0),(9,0),(10,0),(11,0),(12,0),(13,0),(14,0),(15,1),(16,0)] fun g3 d0=>?_;refine aC ?_
 obtain ⟨g4,j,hm⟩:=aB hm
 have a7:=aCz (a6.mono h) j
 refine bN rfl (fun _ _=>bV jO rfl a7 rfl rfl rfl j) ?_;obtain ⟨g5,g6,d1⟩:=aN.el (sz:=1) rfl (a6.mono h) j
 obtain ⟨g7,g8,rfl,d2⟩:=d1
 refine aC ?_;obtain ⟨g9,d3,hm⟩:=aB hm
 refine aC ?_;obtain ⟨h0,h1,d4⟩:=aN.el (sz:=1) rfl d2 d3
 cases d4
 refine aC ?_;refine fF rfl ?_
 obtain ⟨a9,d5,hm⟩:=aB hm
 refine cG call93 (aFI d5 d0 (bZ.sub (t:=0) (m:=4) (h4.mono (zL u h)) rfl) (h7.mono (zL u h)) (c0.mono (zL u h))) ?_
 rintro _ h2 ⟨b0,b2,rfl,b3⟩
 refine aM (aG ⟨⟨_,b3⟩,?_⟩)
 refine aC ?_;refine jE ?_
 have d6:=c8 _ _ b3
 have h3:=c7 _ _ d6
 refine aC ?_;refine aK [] (fun f w=>∃ x b4 b5,aAf x=some R/\f 5=zS b4 x.length b5/\aD G K (aF 2 K b4 b5 x::aF 28 Kf a26 c27 b::r::aF 90 K a28 c29 c::L) w) aJ ?_
 obtain ⟨h5,d7,ho⟩:=aB hm
 refine bQ [0,1,6] d7 (fun y n f w=>∃ z J,f 5=zS z y.length J/\f 7=i64 n/\aD G K (aF 28 Kf a26 c27 b::r::aF 90 K b0 b2 a9::aF 2 K z J y::aF 90 K a28 c29 c::L) w) aJ ?_
 ·rintro y n d8 f h6 hm hr ⟨z,J,h8,h9,d9⟩
  unfold gC at hm
  refine aC ?_
  rcases aI hm with ⟨e0,hm⟩|⟨e0,hm⟩
  ·refine aC ?_;refine aK [0,1,6,7] (fun f w=>∃ o p q,gB n o=some d8/\f 5=zS p o.length q/\aD G K (aF 2 K p q o::aF 28 Kf a26 c27 b::r::aF 90 K b0 b2 a9::aF 90 K a28 c29 c::L) w) ?_ ?_
   ·rintro f i0 ⟨o,p,q,hm,e1,i1⟩
    unfold gB at hm
    refine aC ?_;exact ⟨_,(zI hm).symm,aR,p,q,e1,rfl,lI⟩
   refine aC ?_;obtain ⟨i2,V,e2,e,e3⟩:=aD.lendSp d9 a0 .head
   refine aEi ?_
   iterate 9 refine cO ?_
   refine jN (fun _ e=>bV jO rfl a7 rfl rfl rfl j) ?_;obtain ⟨i3,i4,e4⟩:=aN.el (sz:=1) rfl e2 j
   obtain ⟨i5,i6,rfl,e5⟩:=e4
   refine aC ?_;obtain ⟨e6,e7,hm⟩:=aB hm
   refine aC ?_;obtain ⟨i7,i8,e8⟩:=aN.el (sz:=1) rfl e5 e7
   cases e8
   refine aC ?_;obtain ⟨i9,b6,hm⟩:=aB hm
   have b7:=bC e (i:=1) rfl b6
   refine jN (fun _ e=>bV eU rfl b7 rfl rfl rfl b6) (jN (fun _ e=>aPz (k':=n.toNat * 3+1) aGE b7 rfl rfl) (aC ?_));obtain ⟨e9,f0,hm⟩:=aB hm
   refine aC ?_;obtain ⟨j0,j1,f1⟩:=aN.el (sz:=1) rfl h7 f0
   cases f1
   refine aC ?_;obtain ⟨b8,f2,hm⟩:=aB hm
   refine aDG (vs:=[bR a17 g,i64 e6,str e9]) (v:=Value.tuple #[i64 b8.1,zB b8.2]) call94 rfl (fun _ e=>(aGP f2 e (c1.mono V) (c2.mono V) (c3.mono V))) (aC ?_);refine oS (fun j2 f3=>?_)
   have j3:=e3 _ _ f3
   exact aJ
  ·exact aJ
theorem aDb {a:aO} {e:Nat} {b:aP} {g:Nat} {c:(List (List Int))} {d:(List Edge)} {h:Bool} {i:Int} {R:Bool} (hm:jG a b c d h i=some R) (j:aD G K (aF 28 Kf a26 c27 c::aF 90 K a28 c29 d::box b1 99 [bR a2 e,bR a17 g,zS a26 c.length c27,zS a28 d.length c29,zB h]::L) w) (k:Hp.le Kf K) (l:bZ K a2 e (zE a a5 c6 a8 c9 a11 c12 a14 c15)) (m:aN K a5 c6 a.S.L) (n:aN K a8 c9 a.S.E) (o:aN K a11 c12 a.M) (p:aN K a14 c15 a.C) (q:bZ K a17 g (zC b a20 c21 a23 c24)) (r:aN K a20 c21 b.L) (t:aN K a23 c24 b.E):
  Calls prog 99 ([zP (some ⟨b1,0,none⟩),i64 i]:List Value).toArray w (dS fun v w'=>v=zB R/\aD G K (aF 28 Kf a26 c27 c::aF 90 K a28 c29 d::box b1 99 [bR a2 e,bR a17 g,zS a26 c.length c27,zS a28 d.length c29,zB h]::L) w'):=by
 exact aJ
theorem aAl {a:aO} {e:Nat} {d:aP} {g:Nat} {b:(List (List Int))} {c:(List Edge)} {h:Bool} {i R:Int} (hm:oI a d b c h i=some R) (k:aD G K (aF 28 Kf a26 c27 b::aF 90 K a28 c29 c::box b1 99 [bR a2 e,bR a17 g,zS a26 b.length c27,zS a28 c.length c29,zB h]::L) w) (l:Hp.le Kf K) (m:bZ K a2 e (zE a a5 c6 a8 c9 a11 c12 a14 c15)) (n:aN K a5 c6 a.S.L) (o:aN K a8 c9 a.S.E) (p:aN K a11 c12 a.M) (q:aN K a14 c15 a.C) (r:bZ K a17 g (zC d a20 c21 a23 c24)) (t:aN K a20 c21 d.L) (u:aN K a23 c24 d.E):
  Calls prog 97 ([zP (some ⟨b1,0,none⟩),i64 i]:List Value).toArray w (dS fun v w'=>v=i64 R/\aD G K (aF 28 Kf a26 c27 b::aF 90 K a28 c29 c::box b1 99 [bR a2 e,bR a17 g,zS a26 b.length c27,zS a28 c.length c29,zB h]::L) w'):=by
 let j:=box b1 99 [bR a2 e,bR a17 g,zS a26 b.length c27,zS a28 c.length c29,zB h]
 refine cH func97 ?_;unfold oI at hm
 refine aC ?_;obtain ⟨x,y,hm⟩:=aB hm
 refine cG call138 (xW (Kf:=Kf) y k l m n o p q r t u) ?_
 rintro _ a0 ⟨z,J,rfl,a1⟩
 refine aC ?_;refine aK [] (fun f w=>aBJ=some R/\aD G K (aF 28 Kf a26 c27 b::aF 90 K a28 c29 c::j::L) w) aJ ?_
 obtain ⟨a3,V,ho⟩:=aB hm
 exact bY [0,5] V (fun Z f w=>f 6=i64 Z/\aD G K (aF 2 K z J x::aF 28 Kf a26 c27 b::aF 90 K a28 c29 c::j::L) w) aJ aJ
theorem aFq {p:aO} {k3:Nat} {r:aP} {b4:Nat} {u:(List (List Int))} {x:(List Edge)} {V:Bool} {R:(List Bool)} (hm:aBK p r u x V=some R) (hs:aD G K (aF 28 Kf a26 c27 u::aF 90 K a28 c29 x::box b1 99 [bR a2 k3,bR a17 b4,zS a26 u.length c27,zS a28 x.length c29,zB V]::L) w) (e8:Hp.le Kf K) (h4:bZ K a2 k3 (zE p a5 c6 a8 c9 a11 c12 a14 c15)) (h7:aN K a5 c6 p.S.L) (j0:aN K a8 c9 p.S.E) (e9:aN K a11 c12 p.M) (j1:aN K a14 c15 p.C) (j2:bZ K a17 b4 (zC r a20 c21 a23 c24)) (j3:aN K a20 c21 r.L) (j4:aN K a23 c24 r.E):
  Calls prog 45 ([zP (some ⟨b1,0,none⟩)]:List Value).toArray w (dS fun v w'=>∃ f0 f1,v=zS f0 R.length f1/\aD G K (aF 4 K f0 f1 R::aF 28 Kf a26 c27 u::aF 90 K a28 c29 x::box b1 99 [bR a2 k3,bR a17 b4,zS a26 u.length c27,zS a28 x.length c29,zB V]::L) w'):=by
 let d:=box b1 99 [bR a2 k3,bR a17 b4,zS a26 u.length c27,zS a28 x.length c29,zB V]
 let j:=aF 28 Kf a26 c27 u
 let k:=aF 90 K a28 c29 x
 refine cH func45 ?_;unfold aBK at hm
 refine aC ?_;obtain ⟨r2,j5,hm⟩:=aB hm
 refine cG call96 (aHm j5 hs) ?_
 rintro _ r3 ⟨a0,a1,rfl,r4⟩
 refine aC ?_;refine aK [0] (fun f w=>∃ b6,tN p r u x V b6=some R/\f 3=zS a0 b6.length a1/\aD G K (aF 4 K a0 a1 b6::j::k::d::L) w) ?_ ?_
 ·rintro f r5 ⟨b6,hm,r6,r7⟩
  unfold tN at hm
  refine aC ?_;refine cR ?_
  obtain ⟨r8,j6,ho⟩:=aB hm
  refine bY [0] j6 (fun l f w=>∃ m o,f 3=zS m l.length o/\aD G K (aF 4 K m o l::j::k::d::L) w) aJ ?_
  ·rintro l b7 f r9 hm hr ⟨m,o,s0,j7⟩
   unfold tM at hm
   refine aK [0] (fun f w=>∃ b8 b9 c0,aDj b8=some b7/\f 3=zS b9 b8.length c0/\aD G K (aF 4 K b9 c0 b8::j::k::d::L) w) ?_ ?_
   ·rintro f s1 ⟨b8,b9,c0,hm,j8,j9⟩
    unfold aDj at hm
    refine aC ?_;exact ⟨_,(zI hm).symm,aR,b9,c0,j8,j9⟩
   refine aC ?_;obtain ⟨a,k0,hm⟩:=aB hm
   refine aKR (e:=(false:Bool)) nG ez_4 rfl rfl j7 rfl rfl rfl k0 rfl (fun c k1 (s2:aD G K (aF 4 K c a.length a::aF 4 K m o l::j::k::d::L) k1)=>(aC ?_));refine aK [0,3] (fun f w=>∃ c1,yM p r u x V l c1=some b7/\f 5=zS c c1.length a.length/\aD G K (aF 4 K c a.length c1::aF 4 K m o l::j::k::d::L) w) ?_ ?_
   ·rintro f s3 ⟨c1,hm,s4,s5⟩
    unfold yM at hm
    refine aC ?_;refine aK [0,3] (fun f w=>∃ y,aAt p r u x V l y=some b7/\f 5=zS c y.length a.length/\aD G K (aF 4 K c a.length y::aF 4 K m o l::j::k::d::L) w) ?_ ?_
    ·rintro f s6 ⟨y,hm,s7,s8⟩
     unfold aAt at hm
     refine aC ?_;refine nW ([]:List Bool) fun k2 k4 s9=>?_
     refine aC ?_;obtain ⟨k5,k6,hm⟩:=aB hm
     have k7:aD G K (aF 4 K c a.length y::aF 4 K k2 0 ([]:List Bool)::aF 4 K m o l::j::k::d::L) k4:=lI
     refine WO_appK (i:=0) nG underlying57 ez_4 rfl rfl k7 rfl (zR _) (zR _) k6 rfl rfl rfl rfl (fun _ h=>h) (fun z J k8 (t0:aD G K (aF 4 K c a.length y::aF 4 K z J k5::aF 4 K m o l::j::k::d::L) k8)=>(aC ?_));refine aK [0,3] (fun f w=>∃ d0,aDk l d0=some b7/\f 10=zS z d0.length J/\aD G K (aF 4 K z J d0::aF 4 K m o l::j::k::d::L) w) aJ ?_
     obtain ⟨t1,k9,ho⟩:=aB hm
     refine bQ [0,3,5] k9 (fun b0 c2 f w=>f 10=zS z b0.length J/\f 11=i64 c2/\aD G K (aF 4 K c a.length y::aF 4 K z J b0::aF 4 K m o l::j::k::d::L) w) aJ ?_
     ·rintro b0 c2 f2 f t2 hm hr ⟨l0,t3,l1⟩
      unfold qK at hm
      refine aC ?_
      rcases aI hm with ⟨l2,hm⟩|⟨l2,hm⟩
      ·refine aC ?_;refine aK [0,3,5,11] (fun f w=>∃ c3,nY c2 c3=some f2/\f 10=zS z c3.length J/\aD G K (aF 4 K c a.length y::aF 4 K z J c3::aF 4 K m o l::j::k::d::L) w) ?_ ?_
       ·rintro f t4 ⟨c3,hm,l3,l4⟩
        unfold nY at hm
        refine aC ?_;exact ⟨_,(zI hm).symm,aR,l3,rfl,l4⟩
       refine aC ?_;obtain ⟨a3,f3,hm⟩:=aB hm
       have l5:=bC l1 (i:=4) rfl f3
       refine aL (bV eU rfl l5 rfl rfl rfl f3) (aC ?_);refine kK fun f4 t5 t6=>?_
       refine kZ fun t7 t8=>?_
       iterate 3 refine cO ?_
       refine aW [0,3,5,10,11,12] (fun f w=>∃ d1,nZ b0 c2 a3 d1=some f2/\f 146=zB d1/\aD G K (box f4 90 [i64 a3.F,i64 a3.B,i64 a3.To]::aF 4 K c a.length y::aF 4 K z J b0::aF 4 K m o l::j::k::d::L) w) ?_ ?_
       ·rintro f t9 ⟨d1,hm,u0,f5⟩
        unfold nZ at hm
        refine aC ?_
        rcases aI hm with ⟨l6,hm⟩|⟨l6,hm⟩
        ·refine aC ?_;obtain ⟨u1,d2,hm⟩:=aB hm
         have l7:=bC f5 (i:=2) rfl d2
         refine aL (bV nG rfl l7 rfl rfl rfl d2) ?_;obtain ⟨f6,f7,hm⟩:=aB hm
         refine nU (i:=2) (t:=0) (ns:=[zB false]) (e':=(false:Bool)) sizeOf4 f5 rfl (zR _) rfl rfl rfl d2 f7 rfl rfl (lS rfl) rfl (fun cs h=>by cases h;rfl) (fun l8 (u2:aD G K (box f4 90 [i64 a3.F,i64 a3.B,i64 a3.To]::aF 4 K c a.length y::aF 4 K z J f6::aF 4 K m o l::j::k::d::L) l8)=>(aC ?_));exact ⟨aR,f6,hm,(Eq.trans l0 (congrArg (fun n=>zS z n J) (lD f7))),lI⟩
        ·exact aJ
       exact aJ
      ·exact aJ
    obtain ⟨u3,l9,ho⟩:=aB hm
    refine bQ [0,3] l9 (fun d3 f8 f w=>f 5=zS c d3.length a.length/\f 7=zB f8/\aD G K (aF 4 K c a.length d3::aF 4 K m o l::j::k::d::L) w) aJ ?_
    ·rintro d3 f8 f9 f u4 hm hr ⟨u5,u6,u7⟩
     unfold yL at hm
     refine aC ?_
     rcases aI hm with ⟨m0,hm⟩|⟨m0,hm⟩
     ·refine aC ?_;refine aK [0,3] (fun f w=>∃ c4 d4,aDl c4 d4=some f9/\f 5=zS c c4.length a.length/\f 7=zB d4/\aD G K (aF 4 K c a.length c4::aF 4 K m o l::j::k::d::L) w) ?_ ?_
      ·rintro f u8 ⟨c4,d4,hm,m1,m2,m3⟩
       unfold aDl at hm
       refine aC ?_;exact ⟨_,(zI hm).symm,aR,m1,m2,m3⟩
      refine aC ?_;refine aK [0,3] (fun f w=>∃ d5 g0,aHi d5 g0=some f9/\f 5=zS c d5.length a.length/\f 7=zB g0/\aD G K (aF 4 K c a.length d5::aF 4 K m o l::j::k::d::L) w) aJ ?_
      obtain ⟨u9,m4,ho⟩:=aB hm
      refine mW [0,3] m4 (fun b2 d6 c5 f w=>f 5=zS c b2.length a.length/\f 7=zB d6/\f 8=i64 c5/\aD G K (aF 4 K c a.length b2::aF 4 K m o l::j::k::d::L) w) aJ ?_
      ·rintro b2 d6 c5 g1 f v0 hm hr ⟨m5,v1,v2,m6⟩
       unfold tK at hm
       refine aC ?_
       rcases aI hm with ⟨m7,hm⟩|⟨m7,hm⟩
       ·refine aC ?_;refine aK [0,3,8] (fun f w=>∃ c7 d7,vC c5 c7 d7=some g1/\f 5=zS c c7.length a.length/\f 7=zB d7/\aD G K (aF 4 K c a.length c7::aF 4 K m o l::j::k::d::L) w) ?_ ?_
        ·rintro f v3 ⟨c7,d7,hm,m8,m9,n0⟩
         unfold vC at hm
         refine aC ?_;exact ⟨_,(zI hm).symm,aR,m8,m9,rfl,n0⟩
        refine aC ?_;obtain ⟨a4,g2,hm⟩:=aB hm
        have n1:=bC m6 (i:=3) rfl g2
        refine aL (bV eU rfl n1 rfl rfl rfl g2) (aC ?_);refine kK fun g3 v4 v5=>?_
        refine kZ fun v6 v7=>?_
        iterate 3 refine cO ?_
        refine aW [0,3,5,7,8,9] (fun f w=>∃ d8,lU b2 d6 c5 a4 d8=some g1/\f 110=zB d8/\aD G K (box g3 90 [i64 a4.F,i64 a4.B,i64 a4.To]::aF 4 K c a.length b2::aF 4 K m o l::j::k::d::L) w) ?_ ?_
        ·rintro f v8 ⟨d8,hm,v9,g4⟩
         unfold lU at hm
         refine aC ?_
         rcases aI hm with ⟨n2,hm⟩|⟨n2,hm⟩
         ·refine aC ?_;obtain ⟨w0,d9,hm⟩:=aB hm
          have n3:=bC g4 (i:=1) rfl d9
          refine aL (bV nG rfl n3 rfl rfl rfl d9) ?_;obtain ⟨g5,g6,hm⟩:=aB hm
          refine nU (i:=1) (t:=0) (ns:=[zB true]) (e':=(true:Bool)) sizeOf4 g4 rfl (zR _) rfl rfl rfl d9 g6 rfl rfl (lS rfl) rfl (fun cs h=>by cases h;rfl) (fun n4 (w1:aD G K (box g3 90 [i64 a4.F,i64 a4.B,i64 a4.To]::aF 4 K c a.length g5::aF 4 K m o l::j::k::d::L) n4)=>(aC ?_));exact ⟨aR,g5,true,hm,(Eq.trans m5 (congrArg (fun n=>zS c n a.length) (lD g6))),rfl,lI⟩
         ·exact aJ
        exact aJ
       ·exact aJ
     ·exact aJ
   obtain ⟨w2,n5,ho⟩:=aB hm
   refine bQ [0,3] n5 (fun e0 e1 f w=>f 5=zS c e0.length a.length/\f 6=i64 e1/\aD G K (aF 4 K c a.length e0::aF 4 K m o l::j::k::d::L) w) aJ ?_
   ·rintro e0 e1 n6 f w3 hm hr ⟨g7,n7,n8⟩
    unfold pE at hm
    refine aC ?_
    rcases aI hm with ⟨n9,hm⟩|⟨n9,hm⟩
    ·refine aC ?_;refine cR (aW [0,3,6] (fun f w=>∃ c8,tL e1 c8=some n6/\f 5=zS c c8.length a.length/\aD G K (aF 4 K c a.length c8::aF 4 K m o l::j::k::d::L) w) ?_ ?_)
     ·rintro f w4 ⟨c8,hm,o0,o1⟩
      unfold tL at hm
      refine aC ?_;exact ⟨_,(zI hm).symm,aR,o0,rfl,o1⟩
     obtain ⟨w5,b3,g8,o2,g9⟩:=aD.lendSp n8 (zR _) zt1
     obtain ⟨w6,a6,h0,o3,h1⟩:=aD.lendSp o2 (zL e8 b3) zt1
     obtain ⟨w7,Z,h2,w8,h3⟩:=aD.lendBp o3 zt2
     refine wW [(0,0),(1,0),(2,0),(3,0),(4,0),(5,0),(6,0),(7,0),(8,0),(9,0),(10,0),(11,0),(12,0),(13,0),(14,0),(15,0),(16,0),(17,0),(18,0),(19,0),(20,0),(21,0),(22,0),(23,1),(24,0),(25,0),(26,2)] fun w9 q=>?_;refine aC ?_
     obtain ⟨x0,e2,hm⟩:=aB hm
     have o4:=aCz (g8.mono (zL a6 Z)) e2
     refine bN rfl (fun _ _=>bV nG rfl o4 rfl rfl rfl e2) ?_;obtain ⟨x1,x2,o5⟩:=aN.el (sz:=1) rfl (g8.mono (zL a6 Z)) e2
     cases o5
     refine aC ?_
     rcases aI hm with ⟨b,hm⟩|⟨b,hm⟩
     ·refine jF rfl rfl rfl b (fun _ _=>cC (v:=zP (some ⟨b1,0,none⟩)) rfl) (jF rfl rfl rfl b (fun _ _=>qD rfl) (jF rfl rfl rfl b (fun _ _=>cE (t':=0) fa_99_0 rfl rfl) (jF rfl rfl rfl b (fun _ ⟨_,q⟩=>dQ (t:=0) sc_53 q h2 rfl rfl) (jF rfl rfl rfl b (fun _ _=>aGy rfl (h4.mono (zL (zL b3 a6) Z))) (jF rfl rfl rfl b (fun _ _=>aDf (k':=k3+4) aLM rfl (h4.mono (zL (zL b3 a6) Z)) rfl) (jF rfl rfl rfl b (fun _ ⟨_,q⟩=>dQ (t:=4) aCe q (h4.mono (zL (zL b3 a6) Z)) rfl rfl) (jF rfl rfl rfl b (fun _ _=>cC (v:=zP (some ⟨b1,0,none⟩)) rfl) (jF rfl rfl rfl b (fun _ _=>qD rfl) (jF rfl rfl rfl b (fun _ _=>cE (t':=2) aCB rfl rfl) (jF rfl rfl rfl b (fun _ ⟨_,q⟩=>dQ (t:=2) aFX q h2 rfl rfl) (jF rfl rfl rfl b (fun _ _=>cC n7) ?_)))))))))))
      obtain ⟨x3,e3,hm⟩:=aB hm
      have o6:=aCz (h0.mono Z) e3
      refine jF rfl rfl rfl b (fun _ _=>bV jO rfl o6 rfl rfl rfl e3) ?_;obtain ⟨x4,o7,o8⟩:=aN.el (sz:=1) rfl (h0.mono Z) e3
      obtain ⟨x5,x6,rfl,h5⟩:=o8
      refine jF rfl rfl rfl b (fun _ ⟨_,q⟩=>dQ (t:=0) aCe q o7 rfl rfl) ?_;obtain ⟨x7,h6,hm⟩:=aB hm
      refine jF rfl rfl rfl b (fun _ _=>aHe eN rfl h5 rfl rfl rfl h6) ?_;obtain ⟨x8,o9,p0⟩:=aN.el (sz:=1) rfl h5 h6
      cases p0
      refine jF rfl rfl rfl b (fun _ ⟨_,q⟩=>dQ (t:=0) oG q o9 rfl rfl) (fF rfl (aC ?_));obtain ⟨h8,p1,hm⟩:=aB hm
      refine cG call98 (aIS p1 q (e9.mono (zL (zL b3 a6) Z))) ?_
      rintro _ x9 ⟨rfl,e4⟩
      refine aM (aG ⟨⟨_,e4⟩,?_⟩)
      refine aC ?_;obtain ⟨y0,e5,hm⟩:=aB hm
      have p2:=bC e4 (i:=0) rfl e5
      refine bN rfl (fun _ _=>bV nG rfl p2 rfl rfl rfl e5) ?_
      have p3:=h3 _ _ e4
      have p4:=h1 _ _ p3
      have p5:=g9 _ _ p4
      refine aFR rfl ?_;obtain ⟨h9,i0,hm⟩:=aB hm
      refine nU (i:=3) (t:=0) (ns:=[zB h8]) (e':=(h8:Bool)) sizeOf4 p5 rfl (zR _) rfl rfl rfl e5 i0 rfl rfl (lS rfl) rfl (fun cs h=>by cases h;rfl) (fun p6 (y1:aD G K (aF 4 K m o l::j::d::aF 4 K c a.length h9::k::L) p6)=>(aC ?_));refine jE (aC ?_)
      exact ⟨aR,h9,hm,(Eq.trans g7 (congrArg (fun n=>zS c n a.length) (lD i0))),lI⟩
     ·refine eO rfl rfl rfl (xB b) (eO rfl rfl rfl (xB b) (eO rfl rfl rfl (xB b) (eO rfl rfl rfl (xB b) (eO rfl rfl rfl (xB b) (eO rfl rfl rfl (xB b) (eO rfl rfl rfl (xB b) (eO rfl rfl rfl (xB b) (eO rfl rfl rfl (xB b) (eO rfl rfl rfl (xB b) (eO rfl rfl rfl (xB b) (eO rfl rfl rfl (xB b) (eO rfl rfl rfl (xB b) (eO rfl rfl rfl (xB b) (eO rfl rfl rfl (xB b) (eO rfl rfl rfl (xB b) (fF rfl ?_))))))))))))))))
      iterate 1 refine cO ?_
      refine aM (aG ⟨⟨_,q⟩,?_⟩)
      refine aC ?_;obtain ⟨y2,e6,hm⟩:=aB hm
      have p7:=bC q (i:=0) rfl e6
      refine bN rfl (fun _ _=>bV nG rfl p7 rfl rfl rfl e6) ?_
      have p8:=h3 _ _ q
      have p9:=h1 _ _ p8
      have q0:=g9 _ _ p9
      refine aFR rfl ?_;obtain ⟨i1,i2,hm⟩:=aB hm
      refine nU (i:=3) (t:=0) (ns:=[zB false]) (e':=(false:Bool)) sizeOf4 q0 rfl (zR _) rfl rfl rfl e6 i2 rfl rfl (lS rfl) rfl (fun cs h=>by cases h;rfl) (fun q1 (y3:aD G K (aF 4 K m o l::j::d::aF 4 K c a.length i1::k::L) q1)=>(aC ?_));refine jE (aC ?_)
      exact ⟨aR,i1,hm,(Eq.trans g7 (congrArg (fun n=>zS c n a.length) (lD i2))),lI⟩
    ·exact aJ
 obtain ⟨y4,q2,ho⟩:=aB hm
 refine bQ [0] q2 (fun a7 i3 f w=>f 3=zS a0 a7.length a1/\f 4=i64 i3/\aD G K (aF 4 K a0 a1 a7::j::k::d::L) w) aJ ?_
 ·rintro a7 i3 y5 f q3 hm hr ⟨i4,y6,q4⟩
  unfold pF at hm
  refine aC ?_
  rcases aI hm with ⟨q5,hm⟩|⟨q5,hm⟩
  ·refine aC ?_;refine cR (aC ?_)
   have q6:aD G K (j::k::d::aF 4 K a0 a1 a7::L) q3:=lI
   obtain ⟨i5,q7,hm⟩:=aB hm
   refine cG call97 (aAl (Kf:=Kf) q7 q6 e8 h4 h7 j0 e9 j1 j2 j3 j4) ?_
   rintro _ y7 ⟨rfl,i6⟩
   refine aC ?_;obtain ⟨y8,e7,hm⟩:=aB hm
   have q8:=bC i6 (i:=3) rfl e7
   refine aL (bV nG rfl q8 rfl rfl rfl e7) ?_;obtain ⟨q9,i7,hm⟩:=aB hm
   refine nU (i:=3) (t:=0) (ns:=[zB (decide (i5 < 0))]) (e':=(decide (i5 < 0):Bool)) sizeOf4 i6 rfl (zR _) rfl rfl rfl e7 i7 rfl rfl (lS rfl) rfl (fun cs h=>by cases h;rfl) (fun r0 (y9:aD G K (j::k::d::aF 4 K a0 a1 q9::L) r0)=>(aC ?_));exact ⟨_,(zI hm).symm,aR,(Eq.trans i4 (congrArg (fun n=>zS a0 n a1) (lD i7))),rfl,lI⟩
  ·refine aC ?_
   have r1:=hr _ (zI hm).symm
   subst r1
   have hm:(tN p r u x V a7)=some R:=ho
   clear hr ho
   refine aC ?_;exact ⟨aR,a7,hm,i4,q4⟩
theorem aAm {a:aO} {Z:Nat} {y:aP} {b6:Nat} {c:(List (List Int))} {k:(List Edge)} {b7:Bool} {a6:(List Bool)} {R:(aP × (List (List Int)))} (hm:oJ a y c k b7 a6=some R) (hs:aD G K (aF 28 Kf a26 c27 c::aF 90 K a28 c29 k::box b1 99 [bR a2 Z,bR a17 b6,zS a26 c.length c27,zS a28 k.length c29,zB b7]::L) w) (b8:Hp.le Kf K) (h4:bZ K a2 Z (zE a a5 c6 a8 c9 a11 c12 a14 c15)) (h7:aN K a5 c6 a.S.L) (r3:aN K a8 c9 a.S.E) (r4:aN K a11 c12 a.M) (r5:aN K a14 c15 a.C) (r6:bZ K a17 b6 (zC y a20 c21 a23 c24)) (r7:aN K a20 c21 y.L) (r8:aN K a23 c24 y.E) (d2:aN K a30 c31 a6):
  Calls prog 46 ([zP (some ⟨b1,0,none⟩),zS a30 a6.length c31]:List Value).toArray w (dS fun v w'=>∃ K' e6 e7 e8 e9 f0 f1,v=Value.tuple #[Value.agg (zCa R.1 e6 e7 e8 e9),zS f0 R.2.length f1]/\Hp.le K K'/\aD G K' (aF 9 K e6 e7 R.1.L::aF 90 K e8 e9 R.1.E::aF 28 K' f0 f1 R.2::aF 28 K' a26 c27 c::aF 90 K a28 c29 k::box b1 99 [bR a2 Z,bR a17 b6,zS a26 c.length c27,zS a28 k.length c29,zB b7]::L) w'):=by
 let l:=zG
 let e:=box b1 99 [bR a2 Z,bR a17 b6,zS a26 c.length c27,zS a28 k.length c29,zB b7]
 let g:=aF 90 K a28 c29 k
 let m:=aF 28 Kf a26 c27 c
 refine cH func46 ?_;unfold oJ at hm
 refine aC ?_;refine kK fun j r9 h3=>?_
 refine aC ?_;refine iG (Kt:=K) (xs:=([]:List (List Int))) (cs:=[]) (vs:=[]) jO aDu rfl rfl h3 rfl (by kernel_rfl) rfl rfl rfl trivial (fun f2 h5 (h6:aD G K (aF 28 K f2 0 ([]:List (List Int))::box j 27 l::m::g::e::L) h5)=>(aC ?_))
 refine aK [0,1,4] (fun f w=>∃ b d q r,Hp.le K b/\kP a c k a6 d=some R/\f 6=zS q d.length r/\aD G b (aF 28 b q r d::box j 27 l::m::g::e::L) w) ?_ ?_
 ·rintro f s0 ⟨b,d,q,r,n,hm,f3,s1⟩
  unfold kP at hm
  refine aC ?_;refine nW ([]:List Edge) fun s2 s3 s4=>?_
  refine aC ?_;refine aK [0,4,6] (fun f w=>∃ a7 c1 c2,kO a c d a7=some R/\f 8=zS c1 a7.length c2/\aD G b (aF 90 K c1 c2 a7::aF 28 b q r d::box j 27 l::m::g::e::L) w) ?_ ?_
  ·rintro f s5 ⟨a7,c1,c2,hm,h8,h9⟩
   unfold kO at hm
   refine aC ?_;obtain ⟨s6,z,f4,i0,i1⟩:=aD.lendSp h9 (zL b8 n) zt3
   obtain ⟨s7,o,i2,s8,i3⟩:=aD.lendBp i0 zt4
   refine wW [(0,0),(1,0),(2,0),(3,0),(4,0),(5,0),(6,0),(7,0),(8,0),(10,0),(11,0),(12,0),(13,0),(14,0),(15,0),(16,0),(17,0),(18,0),(20,0),(9,1),(19,1),(21,1),(22,2)] fun s9 a9=>?_;refine aC ?_
   obtain ⟨t0,d3,hm⟩:=aB hm
   have i4:=aCz (f4.mono o) d3
   refine bN rfl (fun _ _=>bV jO rfl i4 rfl rfl rfl d3) ?_;obtain ⟨t1,t2,i5⟩:=aN.el (sz:=1) rfl (f4.mono o) d3
   obtain ⟨t3,t4,rfl,i6⟩:=i5
   refine aC ?_;refine bN rfl (fun _ ⟨_,a9⟩=>dQ (t:=0) sc_53 a9 i2 rfl rfl) (bN rfl (fun _ _=>aGy rfl (h4.mono (zL (zL n z) o))) (bN rfl (fun _ _=>aDf (k':=Z+0) aCA rfl (h4.mono (zL (zL n z) o)) rfl) (bN rfl (fun _ _=>aDf (k':=Z+2) aGG rfl (h4.mono (zL (zL n z) o)) rfl) (bN rfl (fun _ ⟨_,a9⟩=>dQ (t:=2) aHg a9 (h4.mono (zL (zL n z) o)) rfl rfl) (bN rfl (fun _ _=>cC h8) (bN rfl (fun _ _=>cC f3) (fF rfl ?_)))))))
   obtain ⟨t5,i7,i8,i9,j0⟩:=aD.lendSp a9 (zL z o) zt1
   obtain ⟨t6,j1,hm⟩:=aB hm
   refine cG call95 (aAk j1 i9 i8 (i6.mono i7)) ?_
   rintro _ t7 ⟨rfl,j2⟩
   have f5:=j0 _ _ j2
   refine aM (aG ⟨⟨_,f5⟩,?_⟩)
   refine fF rfl ?_;obtain ⟨t8,j3,j4,j5,j6⟩:=aD.lendSp f5 (zL (zL n z) o) zt1
   obtain ⟨a0,j7,hm⟩:=aB hm
   refine cG call39 (aEJ j7 j5 (h7.mono (zL (zL (zL n z) o) j3)) j4) ?_
   rintro _ t9 ⟨f6,f7,f8,f9,rfl,j8⟩
   have j9:=j6 _ _ j8
   refine aM (aG ⟨⟨_,j9⟩,?_⟩)
   refine fF rfl (kZ fun k0 g0=>?_);refine aM (aG ⟨⟨_,g0⟩,?_⟩)
   have k1:=i3 _ _ g0
   have k2:=i1 _ _ k1
   refine aFR rfl (aC ?_);refine jE (aC ?_)
   have u0:aD G b (aF 28 b a26 c27 c::e::aF 90 K c1 c2 a7::aF 9 K f6 f7 a0.L::aF 90 K f8 f9 a0.E::aF 28 b q r d::box j 27 (zC a0 f6 f7 f8 f9)::g::L) k0:=aD.weak (i:=0) k2 rfl (fun _ h=>aF.mono (zL b8 n) h)
   exact aJ
  obtain ⟨u1,k4,ho⟩:=aB hm
  refine bQ [0,1,4,6] k4 (fun u c3 f w=>∃ a1 a3,f 8=zS a1 u.length a3/\f 9=i64 c3/\aD G b (aF 90 K a1 a3 u::aF 28 b q r d::box j 27 l::m::g::e::L) w) aJ ?_
  ·rintro u c3 g1 f u2 hm hr ⟨a1,a3,g2,u3,g3⟩
   unfold dN at hm
   refine aC ?_
   rcases aI hm with ⟨k5,hm⟩|⟨k5,hm⟩
   ·refine aC ?_;refine aK [0,1,4,6,9] (fun f w=>∃ c4 c5 c7,fI c3 c4=some g1/\f 8=zS c5 c4.length c7/\aD G b (aF 90 K c5 c7 c4::aF 28 b q r d::box j 27 l::m::g::e::L) w) ?_ ?_
    ·rintro f u4 ⟨c4,c5,c7,hm,k6,k7⟩
     unfold fI at hm
     refine aC ?_;exact ⟨_,(zI hm).symm,aR,c5,c7,k6,rfl,k7⟩
    refine aC ?_;obtain ⟨J,g4,hm⟩:=aB hm
    have k8:=bC g3 (i:=4) rfl g4
    refine aL (bV eU rfl k8 rfl rfl rfl g4) (aC ?_);refine kK fun k9 u5 u6=>?_
    refine kZ fun u7 g5=>?_
    iterate 3 refine cO ?_
    refine aW [0,1,4,6,8,9,10] (fun f w=>∃ d4,fJ c d u c3 J d4=some g1/\f 62=zB d4/\aD G b (box k9 90 [i64 J.F,i64 J.B,i64 J.To]::aF 90 K a1 a3 u::aF 28 b q r d::box j 27 l::m::g::e::L) w) ?_ ?_
    ·rintro f u8 ⟨d4,hm,u9,l0⟩
     unfold fJ at hm
     refine aC ?_
     rcases aI hm with ⟨l1,hm⟩|⟨l1,hm⟩
     ·refine aC ?_;obtain ⟨v0,d5,d6,l2,l3⟩:=aD.lendBp l0 .head
      obtain ⟨v1,b0,d7,l4,l5⟩:=aD.lendSp l2 (zL (zL b8 n) d5) zt3
      obtain ⟨v2,x,l6,v3,l7⟩:=aD.lendBp l4 zt4
      refine wW [(0,0),(1,0),(2,0),(3,0),(4,0),(5,0),(6,0),(7,0),(8,0),(9,0),(11,0),(12,0),(13,0),(14,0),(15,0),(16,0),(17,0),(18,0),(19,0),(20,0),(21,0),(10,1),(22,1),(23,0),(24,1),(25,1),(26,0)] fun v4 p=>?_;refine aC ?_
      refine bN rfl (fun _ ⟨_,p⟩=>dQ (t:=0) oG p (d6.mono (zL b0 x)) rfl rfl) ?_;obtain ⟨v5,d8,hm⟩:=aB hm
      have g6:=aCz (d7.mono x) d8
      refine bN rfl (fun _ _=>bV jO rfl g6 rfl rfl rfl d8) ?_;obtain ⟨v6,v7,l8⟩:=aN.el (sz:=1) rfl (d7.mono x) d8
      obtain ⟨v8,v9,rfl,l9⟩:=l8
      refine aC ?_;refine bN rfl (fun _ ⟨_,p⟩=>dQ (t:=1) oG p (d6.mono (zL b0 x)) rfl rfl) (bN rfl (fun _ _=>cC f3) (bN rfl (fun _ _=>cC (v:=zP (some ⟨b1,0,none⟩)) rfl) (bN rfl (fun _ _=>qD rfl) (bN rfl (fun _ _=>cE (t':=2) aCB rfl rfl) (bN rfl (fun _ ⟨_,p⟩=>dQ (t:=2) aFX p l6 rfl rfl) (bN rfl (fun _ _=>cE (t':=2) aGF rfl rfl) (bN rfl (fun _ ⟨_,p⟩=>dQ (t:=2) oG p (d6.mono (zL b0 x)) rfl rfl) ?_)))))))
      obtain ⟨w0,g7,hm⟩:=aB hm
      refine bN rfl (fun _ _=>bV jO rfl g6 rfl rfl rfl g7) ?_;obtain ⟨w1,w2,m0⟩:=aN.el (sz:=1) rfl (d7.mono x) g7
      obtain ⟨w3,w4,rfl,m1⟩:=m0
      refine aC ?_;refine fF rfl ?_
      obtain ⟨w5,m2,m3,m4,m5⟩:=aD.lendSp p (zL (zL d5 b0) x) zt1
      obtain ⟨d9,m6,hm⟩:=aB hm
      refine cG call95 (aAk m6 m4 m3 (l9.mono m2)) ?_
      rintro _ w6 ⟨rfl,m7⟩
      have g8:=m5 _ _ m7
      refine aM (aG ⟨⟨_,g8⟩,?_⟩)
      refine fF rfl ?_;obtain ⟨w7,m8,m9,n0,n1⟩:=aD.lendSp g8 (zL (zL d5 b0) x) .head
      obtain ⟨e0,n2,hm⟩:=aB hm
      refine cG call95 (aAk n2 n0 m9 (m1.mono m8)) ?_
      rintro _ w8 ⟨rfl,n3⟩
      have n4:=n1 _ _ n3
      refine aM (aG ⟨⟨_,n4⟩,?_⟩)
      refine bN rfl (fun _ _=>jZ (vs:=[(0,i64 d9),(1,i64 J.B),(2,i64 e0)]) (cs:=[i64 d9,i64 J.B,i64 e0]) aMu rfl (by kernel_rfl)) (fF rfl (nW ([⟨d9,J.B,e0⟩]:List Edge) fun w9 x0 n5=>?_));refine aM (aG ⟨⟨_,n5⟩,?_⟩)
      refine fF rfl ?_;obtain ⟨n6,x1,hm⟩:=aB hm
      refine aIw fun n7 n8 x2 g9=>?_;refine aM (aG ⟨⟨_,g9⟩,?_⟩)
      refine aC ?_;refine jE ?_
      have n9:=l7 _ _ g9
      have o0:=l5 _ _ n9
      have x3:=l3 _ _ o0
      refine aC ?_;exact ⟨aR,n6,n7,n8,hm,rfl,lI⟩
     ·refine aC ?_;exact ⟨aR,u,a1,a3,hm,g2,lI⟩
    refine aC ?_;obtain ⟨x4,o1,hm⟩:=aB hm
    refine aC ?_;obtain ⟨x5,x6,o2⟩:=aN.el (sz:=1) rfl d2 o1
    cases o2
    refine aC ?_
    rcases aI hm with ⟨o3,hm⟩|⟨o3,hm⟩
    ·refine aC ?_;obtain ⟨o4,o5,hm⟩:=aB hm
     refine aC ?_;obtain ⟨x7,x8,o6⟩:=aN.el (sz:=1) rfl d2 o5
     cases o6
     refine aC ?_;exact ⟨aR,o4,hm,rfl,g5⟩
    ·refine aC ?_;exact ⟨aR,false,hm,rfl,g5⟩
   ·refine aC ?_
    have o7:=hr _ (zI hm).symm
    subst o7
    have hm:(kO a c d u)=some R:=ho
    clear hr ho
    refine aC ?_;exact ⟨aR,u,a1,a3,hm,g2,g3⟩
 obtain ⟨x9,o8,ho⟩:=aB hm
 refine bQ [0,1,4] o8 (fun a4 e1 f w=>∃ V b2 b3,Hp.le K V/\f 6=zS b2 a4.length b3/\f 7=i64 e1/\aD G V (aF 28 V b2 b3 a4::box j 27 l::m::g::e::L) w) ?_ ?_
 ·exact ⟨K,f2,0,(zR _),rfl,rfl,h6⟩
 ·rintro a4 e1 o9 f p0 hm hr ⟨V,b2,b3,e2,h0,y0,b4⟩
  unfold iJ at hm
  refine aC ?_
  rcases aI hm with ⟨p1,hm⟩|⟨p1,hm⟩
  ·refine aC ?_;refine aK [0,1,4,7] (fun f w=>∃ b5 c8 d0 d1,Hp.le V b5/\iI e1 c8=some o9/\f 6=zS d0 c8.length d1/\aD G b5 (aF 28 b5 d0 d1 c8::box j 27 l::m::g::e::L) w) ?_ ?_
   ·rintro f y1 ⟨b5,c8,d0,d1,p2,hm,p3,p4⟩
    unfold iI at hm
    refine aC ?_;exact ⟨_,(zI hm).symm,aR,b5,d0,d1,(zL e2 p2),p3,rfl,p4⟩
   refine aC ?_;obtain ⟨y2,p5,hm⟩:=aB hm
   refine aC ?_;obtain ⟨y3,y4,p6⟩:=aN.el (sz:=1) rfl d2 p5
   cases p6
   refine aC ?_
   rcases aI hm with ⟨p7,hm⟩|⟨p7,hm⟩
   ·refine aC ?_;obtain ⟨p8,e3,hm⟩:=aB hm
    have p9:=bC b4 (i:=2) rfl e3
    refine aL (bV jO rfl p9 rfl rfl rfl e3) ?_;obtain ⟨y5,q0,q1⟩:=aDh (sz:=1) rfl b4 (i:=2) rfl e3
    obtain ⟨q2,q3,rfl,q4⟩:=q1
    refine aL (aHf (t:=0) (v:=zS q2 p8.length q3) aCe q0 rfl rfl) ?_;obtain ⟨e4,h1,q5,e5⟩:=aD.giveSp b4 (zR _) .head
    replace e5:aD G e4 (box j 27 l::m::g::e::L) p0:=e5
    obtain ⟨q6,q7,hm⟩:=aB hm
    refine cG call101 (aGl (Kf:=e4) q7 e5 (zR _) q5 (q4.mono (zL (zL b8 e2) h1))) ?_
    rintro _ y6 ⟨q8,q9,rfl,r0⟩
    refine aC ?_;exact ⟨aR,e4,q6,q8,q9,h1,hm,rfl,r0⟩
   ·refine aC ?_;exact ⟨aR,V,a4,b2,b3,(zR _),hm,h0,b4⟩
  ·refine aC ?_
   have r1:=hr _ (zI hm).symm
   subst r1
   have hm:(kP a c k a6 a4)=some R:=ho
   clear hr ho
   refine aC ?_;exact ⟨aR,V,a4,b2,b3,e2,hm,h0,b4⟩
theorem aEM {d:(List UInt8)} {c7 c8:Int} {p:aO} {z:Nat} {r_:aP} {J:Nat} {R:(aP × Int × Int)} (hm:vW d c7 c8 p r_=some R) (hs:aD G K (box b1 88 [zS a2 d.length c3,i64 c7,Value.int .u64 c8]::L) w) (h4:aN K a2 c3 d) (h7:bZ K a5 z (zE p a8 c9 a11 c12 a14 c15 a17 c18)) (a4:aN K a8 c9 p.S.L) (a6:aN K a11 c12 p.S.E) (a7:aN K a14 c15 p.M) (a9:aN K a17 c18 p.C) (b0:bZ K a20 J (zC r_ a23 c24 a26 c27)) (b2:aN K a23 c24 r_.L) (b3:aN K a26 c27 r_.E):
  Calls prog 18 ([zP (some ⟨b1,0,none⟩),bR a5 z,bR a20 J]:List Value).toArray w (dS fun v w'=>∃ d0 d1 d2 d3,v=Value.agg (zCa R.1 d0 d1 d2 d3)/\aD G K (aF 9 K d0 d1 R.1.L::aF 90 K d2 d3 R.1.E::box b1 88 [zS a2 d.length c3,i64 R.2.1,Value.int .u64 R.2.2]::L) w'):=by
 let g:=zG
 refine cH func18 ?_;unfold vW at hm
 refine aC ?_;refine kK fun j l3 l4=>?_
 iterate 4 refine cO ?_
 refine aW [0,1,2,6] (fun f w=>∃ k l b4,pH d p r_ k l b4=some R/\f 24=zB b4/\aD G K (box j 27 g::box b1 88 [zS a2 d.length c3,i64 k,Value.int .u64 l]::L) w) ?_ ?_
 ·rintro f l5 ⟨k,l,b4,hm,l6,e9⟩
  unfold pH at hm
  refine aC ?_
  rcases aI hm with ⟨f0,hm⟩|⟨f0,hm⟩
  ·exact aJ
  ·refine aC ?_;obtain ⟨c,f1,hm⟩:=aB hm
   refine cG call44 (aHl f1 e9 h7 a4 a6 a7 a9 b0 b2 b3) ?_
   rintro _ l7 ⟨V,o,q,r,t,b5,rfl,a,f2⟩
   refine aC ?_;obtain ⟨d4,f3,hm⟩:=aB hm
   refine cG call45 (aFq (Kf:=V) f3 f2 (zR _) (h7.mono a) (a4.mono a) (a6.mono a) (a7.mono a) (a9.mono a) (b0.mono a) (b2.mono a) (b3.mono a)) ?_
   rintro _ l8 ⟨f4,f5,rfl,l9⟩
   iterate 5 refine cO ?_
   refine aW [0,6,7,8] (fun f w=>∃ b6,lV d p r_ k l c d4 b6=some R/\f 42=zB b6/\aD G V (aF 4 K f4 f5 d4::aF 28 V o q c.1::aF 90 K r t c.2.1::box b5 99 [bR a5 z,bR a20 J,zS o c.1.length q,zS r c.2.1.length t,zB c.2.2]::box j 27 g::box b1 88 [zS a2 d.length c3,i64 k,Value.int .u64 l]::L) w) ?_ ?_
   ·rintro f d5 ⟨b6,hm,m0,f6⟩
    unfold lV at hm
    refine aC ?_
    rcases aI hm with ⟨f7,hm⟩|⟨f7,hm⟩
    ·exact aJ
    ·refine aC ?_;obtain ⟨Z,e,f8,b7⟩:=aD.giveSp f6 a .head
     replace b7:aD G Z (aF 28 V o q c.1::aF 90 K r t c.2.1::box b5 99 [bR a5 z,bR a20 J,zS o c.1.length q,zS r c.2.1.length t,zB c.2.2]::box j 27 g::box b1 88 [zS a2 d.length c3,i64 k,Value.int .u64 l]::L) d5:=b7
     have f9:aD G Z (aF 28 Z o q c.1::aF 90 K r t c.2.1::box b5 99 [bR a5 z,bR a20 J,zS o c.1.length q,zS r c.2.1.length t,zB c.2.2]::box j 27 g::box b1 88 [zS a2 d.length c3,i64 k,Value.int .u64 l]::L) d5:=aD.weak (i:=0) b7 rfl (fun _ h=>aF.mono e h)
     obtain ⟨m1,g0,hm⟩:=aB hm
     refine cG call46 (aAm (Kf:=Z) g0 f9 (zR _) (h7.mono (zL a e)) (a4.mono (zL a e)) (a6.mono (zL a e)) (a7.mono (zL a e)) (a9.mono (zL a e)) (b0.mono (zL a e)) (b2.mono (zL a e)) (b3.mono (zL a e)) f8) ?_
     rintro _ m2 ⟨b8,m3,m4,m5,m6,m7,m8,rfl,u,m9⟩
     refine aC ?_;refine kK fun n0 n1 n2=>?_
     refine kZ fun n3 g1=>?_;refine aC ?_
     obtain ⟨n4,g2,g3,g4,g5⟩:=aD.lendSp g1 (zL (zL a e) u) zt1
     obtain ⟨n5,g6,g7,g8,g9⟩:=aD.lendSp g4 (zL (zL (zL a e) u) g2) zt1
     obtain ⟨n6,d6,h0,h1,h2⟩:=aD.lendBp g8 .head
     obtain ⟨n7,h3,hm⟩:=aB hm
     refine cG call48 (aHn h3 h1 h0 (g3.mono (zL g6 d6)) (g7.mono d6)) ?_
     rintro _ n8 ⟨n9,o0,rfl,h5⟩
     have h6:=h2 _ _ h5
     have h8:=g9 _ _ h6
     have h9:=g5 _ _ h8
     obtain ⟨o1,d7,i0,i1,i2⟩:=aD.lendSp h9 (zL (zL a e) u) .head
     obtain ⟨o2,d8,i3,i4,i5⟩:=aD.lendSp i1 (zL (zL (zL a e) u) d7) .head
     obtain ⟨o3,b9,i6,i7,i8⟩:=aD.lendBp i4 .head
     obtain ⟨o4,c0,i9,j0,j1⟩:=aD.lendSp i7 (zL (zL (zL (zL (zL a e) u) d7) d8) b9) .head
     obtain ⟨b,j2,hm⟩:=aB hm
     refine cG call47 (aHZ j2 j0 (i6.mono c0) (i0.mono (zL (zL d8 b9) c0)) (i3.mono (zL b9 c0)) i9) ?_
     rintro _ o5 ⟨m,n,x,y,rfl,j3⟩
     have j4:=j1 _ _ j3
     have j5:=i8 _ _ j4
     have j6:=i5 _ _ j5
     have o6:=i2 _ _ j6
     refine kK fun c1 o7 o8=>?_;refine kZ fun o9 p0=>?_
     iterate 2 refine cO ?_
     refine sV [6,11] (fun f w=>∃ c2 d9 e0 e1 e2,yN b c2 d9 e0=some R/\aD G b8 (aF 90 K e1 e2 c2::box c1 27 [i64 b.N,i64 b.I,zS m b.L.length n,zS e1 c2.length e2]::aF 9 K m n b.L::box j 27 g::box b1 88 [zS a2 d.length c3,i64 d9,Value.int .u64 e0]::L) w) aJ ?_
     iterate 1 refine cO ?_
     refine aW [0,6,11] (fun f w=>∃ a0 a1 c4,pG d b a0 a1 c4=some R/\f 60=zB c4/\aD G b8 (box c1 27 (zC b m n x y)::aF 9 K m n b.L::aF 90 K x y b.E::box j 27 g::box b1 88 [zS a2 d.length c3,i64 a0,Value.int .u64 a1]::L) w) ?_ ?_
     ·rintro f j7 ⟨a0,a1,c4,hm,p1,p2⟩
      unfold pG at hm
      refine aC ?_
      rcases aI hm with ⟨j8,hm⟩|⟨j8,hm⟩
      ·refine aC ?_
       have j9:aD G b8 (box b1 88 [zS a2 d.length c3,i64 a0,Value.int .u64 a1]::box c1 27 (zC b m n x y)::aF 9 K m n b.L::aF 90 K x y b.E::box j 27 g::L) j7:=lI
       obtain ⟨c5,k0,hm⟩:=aB hm
       refine cG call17 (bJ k0 j9 (h4.mono (zL (zL a e) u))) ?_
       rintro _ p3 ⟨rfl,k1⟩
       refine aC ?_;obtain ⟨k2,p4,p5,p6,k3⟩:=aD.lendBp k1 zt1
       refine wW [(0,0),(1,0),(2,0),(3,0),(4,0),(5,0),(6,0),(7,0),(8,0),(9,1),(10,0),(11,2)] fun p7 c6=>?_;refine aC ?_
       obtain ⟨p8,e3,hm⟩:=aB hm
       have k4:=iW c6 (i:=2) rfl
       obtain ⟨p9,q0,e4⟩:=Cut.ex 3 x y 0
       refine bN rfl (fun _ _=>aFy eU k4 e4 rfl rfl rfl e3) (aC ?_);obtain ⟨q1,e5,hm⟩:=aB hm
       have k5:=iW c6 (i:=2) rfl
       obtain ⟨q2,q3,e6⟩:=Cut.ex 3 x y (wr (c5.1+1))
       refine bN rfl (fun _ _=>aAD eU k5 e6 rfl rfl rfl e5) (fF rfl ?_);obtain ⟨k7,k8,hm⟩:=aB hm
       refine aPB (i:=2) eU underlying25 aFc rfl rfl c6 rfl e3 e4 e5 e6 k8 rfl rfl rfl rfl (fun k9 l0 l1 (e7:aD G k2 (box b1 88 [zS a2 d.length c3,i64 c5.2.1,Value.int .u64 c5.2.2]::aF 9 K m n b.L::aF 90 K k9 l0 k7::box j 27 g::L) l1)=>(aM (aG ⟨⟨_,e7⟩,?_⟩)))
       refine aC ?_
       have q4:=k3 _ _ e7
       exact aJ
      ·exact aJ
     exact aJ
   exact aJ
 exact aJ
end Gv
namespace Gv
open Go.Value renaming slice→zS,bool→zB,agg→zA
open Option.some renaming inj→zI
open Gv.Hp renaming le_trans→zL,le_refl→zR
open Go Go.Proofs Go.Proofs.Tryz
set_option maxRecDepth 20000
set_option maxHeartbeats 40000000
variable {G:Env} {K:Hp} {L:List gV} {w:World} {a1 a4 a7 a10:Option Addr} {c2 c5 c8 c11:Nat}
theorem aIa {o:(List UInt8)} {R:(aO × aP × aP)} (hm:aGi o=some R) (hs:aD G K (L) w) (h3:aN K a1 c2 o):
  Calls prog 5 ([zS a1 o.length c2]:List Value).toArray w (dS fun v w'=>∃ e7 e8 e9 f0 f1 f2 f3 f4 f5 f6 f7 f8 f9 g0 g1 g2,v=Value.tuple #[zA (zEa R.1 e7 e8 e9 f0 f1 f2 f3 f4),zA (zCa R.2.1 f5 f6 f7 f8),zA (zCa R.2.2 f9 g0 g1 g2)]/\aD G K (aF 9 K e7 e8 R.1.S.L::aF 90 K e9 f0 R.1.S.E::aF 2 K f1 f2 R.1.M::aF 9 K f3 f4 R.1.C::aF 9 K f5 f6 R.2.1.L::aF 90 K f7 f8 R.2.1.E::aF 9 K f9 g0 R.2.2.L::aF 90 K g1 g2 R.2.2.E::L) w'):=by
 let l:=zG
 let a4:=zK
 refine cH func5 ?_;unfold aGi at hm
 refine aC ?_;refine kK fun b4 w5 s2=>?_
 refine kK fun b7 w8 s4=>?_;refine kK fun a7 s5 h4=>?_
 refine aC ?_;obtain ⟨s6,h5,hm⟩:=aB hm
 refine cG call12 (aHV h5 h4 h3) ?_
 rintro _ s7 ⟨c4,rfl,h6⟩
 refine aC ?_;obtain ⟨a,h7,hm⟩:=aB hm
 refine cG call13 (aGm h7 h6 h3) ?_
 rintro _ s8 ⟨b,c,d,e,g,h,j,k,rfl,s9⟩
 refine kK fun a8 t0 t1=>?_;refine kZ fun h8 t2=>?_
 refine aC ?_
 have h9:aD G K (box c4 88 [zS a1 o.length c2,i64 a.2.1,Value.int .u64 a.2.2]::box a8 30 (zE a.1 b c d e g h j k)::aF 9 K b c a.1.S.L::aF 90 K d e a.1.S.E::aF 2 K g h a.1.M::aF 9 K j k a.1.C::box a7 27 l::box b7 27 l::box b4 30 a4::L) h8:=lI
 obtain ⟨n,i0,hm⟩:=aB hm
 refine cG call14 (aAM i0 h9 h3) ?_
 rintro _ t3 ⟨c7,c8,c9,d0,rfl,t4⟩
 refine kK fun d1 t5 t6=>?_;refine kZ fun t7 t8=>?_
 iterate 2 refine cO ?_
 refine sV [2,3,4,5,6,7] (fun f w=>∃ d6 d7 r u p q x y z J,yO o a d6 d7 r u p q=some R/\aD G K (aF 90 K z J q::aF 9 K x y p::box d1 27 [i64 r,i64 u,zS x p.length y,zS z q.length J]::box c4 88 [zS a1 o.length c2,i64 d6,Value.int .u64 d7]::box a8 30 (zE a.1 b c d e g h j k)::aF 9 K b c a.1.S.L::aF 90 K d e a.1.S.E::aF 2 K g h a.1.M::aF 9 K j k a.1.C::box a7 27 l::box b7 27 l::box b4 30 a4::L) w) ?_ ?_
 ·rintro f t9 ⟨d6,d7,r,u,p,q,x,y,z,J,hm,i1⟩
  unfold yO at hm
  refine aC ?_;obtain ⟨u0,a9,i2,i3,i4⟩:=aD.lendSp i1 (Hp.le_refl _) zt5
  obtain ⟨u1,b0,i5,i6,i7⟩:=aD.lendSp i3 a9 zt5
  obtain ⟨u2,b1,i8,i9,j0⟩:=aD.lendSp i6 (zL a9 b0) zt5
  obtain ⟨u3,b2,j1,j2,j3⟩:=aD.lendSp i9 (zL (zL a9 b0) b1) zt5
  obtain ⟨u4,Z,j4,j5,j6⟩:=aD.lendBp j2 zt4
  obtain ⟨u5,a0,j7,j8,j9⟩:=aD.lendSp j5 (zL (zL (zL (zL a9 b0) b1) b2) Z) zt1
  obtain ⟨u6,a2,k0,k1,k2⟩:=aD.lendSp j8 (zL (zL (zL (zL (zL a9 b0) b1) b2) Z) a0) .head
  obtain ⟨u7,V,k3,k4,k5⟩:=aD.lendBp k1 .head
  obtain ⟨u8,k6,hm⟩:=aB hm
  refine cG call18 (aEM (r_:=⟨r,u,p,q⟩) k6 k4 (h3.mono (zL (zL (zL (zL (zL (zL (zL a9 b0) b1) b2) Z) a0) a2) V)) (j4.mono (zL (zL a0 a2) V)) (i2.mono (zL (zL (zL (zL (zL (zL b0 b1) b2) Z) a0) a2) V)) (i5.mono (zL (zL (zL (zL (zL b1 b2) Z) a0) a2) V)) (i8.mono (zL (zL (zL (zL b2 Z) a0) a2) V)) (j1.mono (zL (zL (zL Z a0) a2) V)) k3 (j7.mono (zL a2 V)) (k0.mono V)) ?_
  rintro _ u9 ⟨v0,v1,v2,v3,rfl,k7⟩
  have k8:=k5 _ _ k7
  have k9:=k2 _ _ k8
  have l0:=j9 _ _ k9
  have l1:=j6 _ _ l0
  have l2:=j3 _ _ l1
  have l3:=j0 _ _ l2
  have l4:=i7 _ _ l3
  have v4:=i4 _ _ l4
  refine kK fun l5 v5 v6=>?_;refine kZ fun v7 l6=>?_
  iterate 2 refine cO ?_
  refine sV [2,3,4,6,7,9] (fun f w=>∃ c5 c6 b3 b5 b6 b8 b9 c0,aBL a r u p q c5 c6 b3 b5=some R/\aD G K (aF 90 K b9 c0 b5::aF 9 K b6 b8 b3::box l5 27 [i64 c5,i64 c6,zS b6 b3.length b8,zS b9 b5.length c0]::aF 9 K b c a.1.S.L::aF 90 K d e a.1.S.E::aF 2 K g h a.1.M::aF 9 K j k a.1.C::box a8 30 (zE a.1 b c d e g h j k)::aF 9 K x y p::aF 90 K z J q::box d1 27 [i64 r,i64 u,zS x p.length y,zS z q.length J]::box a7 27 l::box b7 27 l::box b4 30 a4::L) w) ?_ ?_
  ·rintro f v8 ⟨c5,c6,b3,b5,b6,b8,b9,c0,hm,l7⟩
   unfold aBL at hm
   refine aC ?_;obtain ⟨v9,w0,l8,l9,m0⟩:=aD.lendBp l7 zt2
   obtain ⟨w1,m1,m2,m3,m4⟩:=aD.lendBp l9 zt6
   obtain ⟨w2,g3,m5,w3,m6⟩:=aD.lendBp m3 zt8
   refine wW [(0,0),(1,0),(2,0),(3,1),(4,1),(5,2)] fun w4 c1=>?_;refine bN rfl (fun _ ⟨_,c1⟩=>sX (t:=0) (vs:=(zE a.1 b c d e g h j k)) aCP c1 (m2.mono g3) rfl rfl rfl) (bN rfl (fun _ ⟨_,c1⟩=>sX (t:=0) (vs:=[i64 r,i64 u,zS x p.length y,zS z q.length J]) sM c1 m5 rfl rfl rfl) (bN rfl (fun _ ⟨_,c1⟩=>sX (t:=0) (vs:=[i64 c5,i64 c6,zS b6 b3.length b8,zS b9 b5.length c0]) sM c1 (l8.mono (zL m1 g3)) rfl rfl rfl) (fF rfl (kZ fun w6 m7=>?_))))
   refine aM (aG ⟨⟨_,m7⟩,?_⟩)
   refine fF rfl (kZ fun w7 g4=>?_);refine aM (aG ⟨⟨_,g4⟩,?_⟩)
   have m8:=m6 _ _ g4
   have m9:=m4 _ _ m8
   have w9:=m0 _ _ m9
   refine aFR rfl (kZ fun x0 d8=>?_);refine aC ?_
   refine jE (aC ?_);obtain rfl:=zI hm
   exact aFP (aJz results5 (aBm (vs:=(zE a.1 b c d e g h j k)) rfl aCP d8 (i:=13) rfl rfl rfl) (aBm (vs:=[i64 r,i64 u,zS x p.length y,zS z q.length J]) rfl sM d8 (i:=12) rfl rfl rfl) (aBm (vs:=[i64 c5,i64 c6,zS b6 b3.length b8,zS b9 b5.length c0]) rfl sM d8 (i:=11) rfl rfl rfl) ⟨b,c,d,e,g,h,j,k,x,y,z,J,b6,b8,b9,c0,rfl,lI⟩)
  refine aC ?_;obtain ⟨x1,n1,n2,n3,n4⟩:=aD.lendSp l6 (Hp.le_refl _) zt9
  obtain ⟨x2,n5,n6,n7,n8⟩:=aD.lendSp n3 n1 zt9
  obtain ⟨x3,g5,n9,o0,o1⟩:=aD.lendBp n7 .head
  obtain ⟨x4,o2,hm⟩:=aB hm
  refine cG call19 (aEK o2 o0 n9 (n2.mono (zL n5 g5)) (n6.mono g5)) ?_
  rintro _ x5 ⟨rfl,o3⟩
  have o4:=o1 _ _ o3
  have o5:=n8 _ _ o4
  have x6:=n4 _ _ o5
  exact aJ
 iterate 1 refine cO ?_
 refine aW [2,3,4,5,6,7] (fun f w=>∃ d2 d3 d9,yP o a n d2 d3 d9=some R/\f 24=zB d9/\aD G K (box d1 27 (zC n.1 c7 c8 c9 d0)::aF 9 K c7 c8 n.1.L::aF 90 K c9 d0 n.1.E::box c4 88 [zS a1 o.length c2,i64 d2,Value.int .u64 d3]::box a8 30 (zE a.1 b c d e g h j k)::aF 9 K b c a.1.S.L::aF 90 K d e a.1.S.E::aF 2 K g h a.1.M::aF 9 K j k a.1.C::box a7 27 l::box b7 27 l::box b4 30 a4::L) w) ?_ ?_
 ·rintro f x7 ⟨d2,d3,d9,hm,x8,o6⟩
  unfold yP at hm
  refine aC ?_
  rcases aI hm with ⟨o7,hm⟩|⟨o7,hm⟩
  ·refine aC ?_;obtain ⟨x9,e0,o8,o9,p0⟩:=aD.lendSp o6 (Hp.le_refl _) zt5
   obtain ⟨y0,e1,p1,p2,p3⟩:=aD.lendSp o9 e0 zt5
   obtain ⟨y1,e2,y2,p4,p5⟩:=aD.lendSp p2 (zL e0 e1) zt5
   obtain ⟨y3,g6,y4,p6,p7⟩:=aD.lendSp p4 (zL (zL e0 e1) e2) zt5
   obtain ⟨y5,g7,p8,p9,q0⟩:=aD.lendBp p6 zt4
   obtain ⟨a3,q1,hm⟩:=aB hm
   refine cG call16 (aFH q1 p9 (bZ.sub (t:=0) (m:=4) p8 rfl) (o8.mono (zL (zL (zL e1 e2) g6) g7)) (p1.mono (zL (zL e2 g6) g7))) ?_
   rintro _ y6 ⟨e3,e4,d4,d5,rfl,q2⟩
   have q3:=q0 _ _ q2
   have q4:=p7 _ _ q3
   have q5:=p5 _ _ q4
   have q6:=p3 _ _ q5
   have y7:=p0 _ _ q6
   refine kZ fun q7 y8=>?_;refine aC ?_
   have q8:aD G K (box c4 88 [zS a1 o.length c2,i64 d2,Value.int .u64 d3]::aF 9 K b c a.1.S.L::aF 90 K d e a.1.S.E::aF 2 K g h a.1.M::aF 9 K j k a.1.C::box a8 30 (zE a.1 b c d e g h j k)::aF 9 K e3 e4 a3.L::aF 90 K d4 d5 a3.E::box d1 27 (zC a3 e3 e4 d4 d5)::aF 9 K c7 c8 n.1.L::aF 90 K c9 d0 n.1.E::box a7 27 l::box b7 27 l::box b4 30 a4::L) q7:=lI
   obtain ⟨e5,q9,hm⟩:=aB hm
   refine cG call17 (bJ q9 q8 h3) ?_
   rintro _ y9 ⟨rfl,r0⟩
   refine aC ?_;obtain ⟨r1,z0,z1,z2,r2⟩:=aD.lendBp r0 zt8
   refine wW [(0,0),(1,0),(2,0),(3,0),(4,0),(5,0),(6,0),(7,0),(8,0),(9,1),(10,0),(11,2)] fun z3 e6=>?_;refine aC ?_
   obtain ⟨z4,g8,hm⟩:=aB hm
   have r3:=iW e6 (i:=7) rfl
   obtain ⟨z5,z6,g9⟩:=Cut.ex 3 d4 d5 0
   refine bN rfl (fun _ _=>aFy eU r3 g9 rfl rfl rfl g8) (aC ?_);obtain ⟨z7,h0,hm⟩:=aB hm
   have r4:=iW e6 (i:=7) rfl
   obtain ⟨z8,z9,h1⟩:=Cut.ex 3 d4 d5 (wr (e5.1+1))
   refine bN rfl (fun _ _=>aAD eU r4 h1 rfl rfl rfl h0) (fF rfl ?_);obtain ⟨r5,r6,hm⟩:=aB hm
   refine aPB (i:=7) eU underlying25 aFc rfl rfl e6 rfl g8 g9 h0 h1 r6 rfl rfl rfl rfl (fun r7 r8 r9 (h2:aD G r1 (box c4 88 [zS a1 o.length c2,i64 e5.2.1,Value.int .u64 e5.2.2]::aF 9 K b c a.1.S.L::aF 90 K d e a.1.S.E::aF 2 K g h a.1.M::aF 9 K j k a.1.C::box a8 30 (zE a.1 b c d e g h j k)::aF 9 K e3 e4 a3.L::aF 90 K r7 r8 r5::aF 9 K c7 c8 n.1.L::aF 90 K c9 d0 n.1.E::box a7 27 l::box b7 27 l::box b4 30 a4::L) r9)=>(aM (aG ⟨⟨_,h2⟩,?_⟩)))
   refine aC ?_
   have a00:=r2 _ _ h2
   exact aJ
  ·exact aJ
 exact aJ
theorem aJh {t:aP} {k:Int} {R:Bool} (hm:sF t k=some R) (a:aD G K (L) w) (b:aN K a1 c2 t.L) (c:aN K a4 c5 t.E):
  Calls prog 81 ([zA (zCa t a1 c2 a4 c5),i64 k]:List Value).toArray w (dS fun v w'=>v=zB R/\aD G K (L) w'):=by
 exact aJ
theorem aPQ {i many:Int} {R:Bool} (hm:aLN i many=some R) (a:aD G K (L) w):
  Calls prog 127 ([i64 i,i64 many]:List Value).toArray w (dS fun v w'=>v=zB R/\aD G K (L) w'):=by
 exact aJ
theorem aHo {t:aP} {R:Bool} (hm:aAJ t=some R) (z:aD G K (L) w) (J:G.lo=0) (i:aN K a1 c2 t.L) (j:aN K a4 c5 t.E):
  Calls prog 80 ([zA (zCa t a1 c2 a4 c5)]:List Value).toArray w (dS fun v w'=>v=zB R/\aD G K (L) w'):=by
 let a:=(zC t a1 c2 a4 c5)
 refine cH func80 ?_;unfold aAJ at hm
 refine aC ?_;refine oZ fun b V Z=>?_
 iterate 5 refine cO ?_
 refine aW [1] (fun f w=>∃ c,sH t c=some R/\f 30=zB c/\aD G K (box b 27 a::L) w) ?_ ?_
 ·rintro f a0 ⟨c,hm,a2,a3⟩
  unfold sH at hm
  refine aC ?_
  rcases aI hm with ⟨k,hm⟩|⟨k,hm⟩
  ·exact aJ
  ·refine aC ?_;refine aK [1] (fun f w=>aCH t=some R/\aD G K (box b 27 a::L) w) ?_ ?_
   ·rintro f a5 ⟨hm,a6⟩
    unfold aCH at hm
    refine aC ?_;refine aK [] (fun f w=>aIQ=some R/\aD G K (L) w) aJ ?_
    obtain ⟨a7,l,ho⟩:=aB hm
    refine bY [1,65,66] l (fun d f w=>f 67=i64 d/\aD G K (box b 27 a::L) w) aJ ?_
    ·rintro d m f a8 hm hr ⟨a9,b0⟩
     unfold aAh at hm
     refine aC ?_
     rcases aI hm with ⟨n,hm⟩|⟨n,hm⟩
     ·refine aC ?_;refine cR (aC ?_)
      obtain ⟨b1,o,hm⟩:=aB hm
      refine aC ?_;obtain ⟨b2,b3,p⟩:=aN.el (sz:=3) rfl j o
      cases p
      refine aC ?_;refine kK fun b4 b5 b6=>?_
      refine aC ?_;refine kZ fun b8 b9=>?_
      refine aC ?_;exact aW [1,65,66,67] (fun f w=>∃ g,sG d g=some m/\f 107=zB g/\aD G K (box b 27 a::L) w) aJ aJ
     ·exact aJ
   obtain ⟨c0,q,ho⟩:=aB hm
   refine bY [1,32,33] q (fun e f w=>f 34=i64 e/\aD G K (box b 27 a::L) w) aJ ?_
   ·rintro e r f c1 hm hr ⟨c3,c4⟩
    unfold aAi at hm
    refine aC ?_
    rcases aI hm with ⟨u,hm⟩|⟨u,hm⟩
    ·refine aC ?_;refine cR (aC ?_)
     obtain ⟨c6,x,hm⟩:=aB hm
     refine aC ?_;obtain ⟨c7,c8,y⟩:=aN.el (sz:=1) rfl i x
     cases y
     iterate 6 refine cO ?_
     exact aW [1,32,33,34] (fun f w=>∃ h,vX e h=some r/\f 62=zB h/\aD G K (box b 27 a::L) w) aJ aJ
    ·exact aJ
 exact aJ
theorem aEY {t:aP} {R:Bool} (hm:jS t=some R) (q:aD G K (L) w) (g:G.lo=0) (h:aN K a1 c2 t.L) (b:aN K a4 c5 t.E):
  Calls prog 31 ([zA (zCa t a1 c2 a4 c5)]:List Value).toArray w (dS fun v w'=>v=zB R/\aD G K (L) w'):=by
 let c:=(zC t a1 c2 a4 c5)
 refine cH func31 ?_;unfold jS at hm
 refine aC ?_;refine oZ fun d r i=>?_
 refine aC ?_;obtain ⟨u,j,hm⟩:=aB hm
 refine cG call80 (aHo j i g h b) ?_
 rintro _ x ⟨rfl,y⟩
 refine aC ?_
 rcases aI hm with ⟨k,hm⟩|⟨k,hm⟩
 ·exact aJ
 ·refine aC ?_;refine aK [] (fun f w=>aAZ=some R/\aD G K (L) w) aJ ?_
  obtain ⟨z,l,ho⟩:=aB hm
  refine bY [1,9,10] l (fun a f w=>f 11=i64 a/\aD G K (box d 27 c::L) w) aJ ?_
  ·rintro a m f J hm hr ⟨V,Z⟩
   unfold jR at hm
   refine aC ?_
   rcases aI hm with ⟨n,hm⟩|⟨n,hm⟩
   ·refine aC ?_;refine cR (aC ?_)
    obtain ⟨a0,o,hm⟩:=aB hm
    refine aC ?_;obtain ⟨a2,a3,p⟩:=aN.el (sz:=3) rfl b o
    cases p
    refine aC ?_;refine kK fun a5 a6 a7=>?_
    refine aC ?_;refine kZ fun a8 a9=>?_
    refine aC ?_;exact aW [1,9,10,11] (fun f w=>∃ e,gO a e=some m/\f 46=zB e/\aD G K (box d 27 c::L) w) aJ aJ
   ·exact aJ
theorem aIy {t:aP} {a:(List Int)} {R:Bool} (hm:xR t a=some R) (m:aD G K (L) w) (n:aN K a1 c2 t.L) (o:aN K a4 c5 t.E) (g:aN K a7 c8 a):
  Calls prog 32 ([zA (zCa t a1 c2 a4 c5),zS a7 a.length c8]:List Value).toArray w (dS fun v w'=>v=zB R/\aD G K (L) w'):=by
 let c:=(zC t a1 c2 a4 c5)
 refine cH func32 ?_;unfold xR at hm
 refine aC ?_;refine oZ fun d p q=>?_
 refine aC ?_;refine aK [] (fun f w=>aFm=some R/\aD G K (L) w) aJ ?_
 obtain ⟨r,h,ho⟩:=aB hm
 refine bY [1,2,7,8] h (fun b f w=>f 9=i64 b/\aD G K (box d 27 c::L) w) aJ ?_
 ·rintro b i f u hm hr ⟨x,y⟩
  unfold nJ at hm
  refine aC ?_
  rcases aI hm with ⟨j,hm⟩|⟨j,hm⟩
  ·refine aC ?_;refine cR (aC ?_)
   obtain ⟨z,k,hm⟩:=aB hm
   refine aC ?_;obtain ⟨J,V,l⟩:=aN.el (sz:=1) rfl g k
   cases l
   iterate 6 refine cO ?_
   exact aW [1,2,7,8,9] (fun f w=>∃ e,rB b e=some i/\f 30=zB e/\aD G K (box d 27 c::L) w) aJ aJ
  ·exact aJ
theorem aMI {a:(List aH)} {R:Bool} (hm:aGj a=some R) (k:aD G K (L) w) (d:aN K a1 c2 a):
  Calls prog 33 ([zS a1 a.length c2]:List Value).toArray w (dS fun v w'=>v=zB R/\aD G K (L) w'):=by
 refine cH func33 ?_;unfold aGj at hm
 refine aC ?_;refine aK [0] (fun f w=>aGM a=some R/\aD G K (L) w) aJ ?_
 obtain ⟨l,e,ho⟩:=aB hm
 refine bY [0,5,6] e (fun b f w=>f 7=i64 b/\aD G K (L) w) aJ ?_
 ·rintro b g f m hm hr ⟨n,o⟩
  unfold aBN at hm
  refine aC ?_
  rcases aI hm with ⟨h,hm⟩|⟨h,hm⟩
  ·refine aC ?_;refine cR (aC ?_)
   obtain ⟨p,i,hm⟩:=aB hm
   refine aC ?_;obtain ⟨q,r,j⟩:=aN.el (sz:=1) rfl d i
   cases j
   iterate 6 refine cO ?_
   exact aW [0,5,6,7] (fun f w=>∃ c,aBM b c=some g/\f 27=zB c/\aD G K (L) w) aJ aJ
  ·exact aJ
theorem wT {p:aO} {R:Bool} (hm:rC p=some R) (b:aD G K (L) w) (c:G.lo=0) (d:aN K a1 c2 p.S.L) (e:aN K a4 c5 p.S.E) (g:aN K a7 c8 p.M) (h:aN K a10 c11 p.C):
  Calls prog 9 ([zA (zEa p a1 c2 a4 c5 a7 c8 a10 c11)]:List Value).toArray w (dS fun v w'=>v=zB R/\aD G K (L) w'):=by
 refine cH func9 ?_;unfold rC at hm
 refine aC ?_;refine oZ fun i j k=>?_
 iterate 4 refine cO ?_
 exact aW [] (fun f w=>∃ a,vD a=some R/\f 2=zB a/\aD G K (L) w) aJ aJ
theorem jH {t:aP} {k:Int} {R:(List Edge)} (hm:pI t k=some R) (y:aD G K (L) w) (z:aN K a1 c2 t.L) (J:aN K a4 c5 t.E):
  Calls prog 75 ([zA (zCa t a1 c2 a4 c5),i64 k]:List Value).toArray w (dS fun v w'=>∃ j l,v=zS j R.length l/\aD G K (aF 90 K j l R::L) w'):=by
 refine cH func75 ?_;unfold pI at hm
 refine aC ?_;refine oZ fun V Z o=>?_
 refine aC ?_;refine aK [] (fun f w=>∃ d m n,aGN d=some R/\f 5=zS m d.length n/\aD G K (aF 90 K m n d::L) w) aJ ?_
 have a0:=aD.nil (α:=Edge) o 90 K
 obtain ⟨a2,p,ho⟩:=aB hm
 refine bQ [1,9,10] p (fun e g f w=>∃ h i,f 5=zS h e.length i/\f 11=i64 g/\aD G K (aF 90 K h i e::L) w) aJ ?_
 ·rintro e g q f a3 hm hr ⟨h,i,a5,a6,a7⟩
  unfold aBP at hm
  refine aC ?_
  rcases aI hm with ⟨r,hm⟩|⟨r,hm⟩
  ·refine aC ?_;refine aK [1,9,10,11] (fun f w=>∃ a b c,aBO g a=some q/\f 5=zS b a.length c/\aD G K (aF 90 K b c a::L) w) ?_ ?_
   ·rintro f a8 ⟨a,b,c,hm,u,x⟩
    unfold aBO at hm
    refine aC ?_;exact ⟨_,(zI hm).symm,aR,b,c,u,rfl,x⟩
   exact aJ
  ·exact aJ
theorem aAN {a:(List Int)} {b R:Int} (hm:eC a b=some R) (e:aD G K (L) w) (g:aN K a1 c2 a):
  Calls prog 67 ([zS a1 a.length c2,i64 b]:List Value).toArray w (dS fun v w'=>v=i64 R/\aD G K (L) w'):=by
 refine cH func67 ?_;unfold eC at hm
 refine aC ?_;refine aK [] (fun f w=>rD=some R/\aD G K (L) w) aJ ?_
 obtain ⟨h,c,ho⟩:=aB hm
 exact bY [0,1,7] c (fun d f w=>f 8=i64 d/\aD G K (L) w) aJ aJ
theorem yT {a:(List Int)} {b:Int} {R:Bool} (hm:dA a b=some R) (c:aD G K (L) w) (d:aN K a1 c2 a):
  Calls prog 77 ([zS a1 a.length c2,i64 b]:List Value).toArray w (dS fun v w'=>v=zB R/\aD G K (L) w'):=by
 exact aJ
theorem oO {a R:(List Int)} (hm:cQ a=some R) (hs:aD G K (aF 2 K a1 c2 a::L) w):
  Calls prog 195 ([zS a1 a.length c2]:List Value).toArray w (dS fun v w'=>∃ u x,v=zS u R.length x/\aD G K (aF 2 K u x R::L) w'):=by
 refine cH func195 ?_;unfold cQ at hm
 refine aC ?_
 rcases aI hm with ⟨c3,hm⟩|⟨c3,hm⟩
 ·exact aJ
 ·refine aC ?_;refine aK [0] (fun f w=>pM a=some R/\aD G K (aF 2 K a1 c2 a::L) w) aJ ?_
  obtain ⟨e3,b5,ho⟩:=aB hm
  refine bY [0] b5 (fun c f w=>f 3=i64 c/\aD G K (aF 2 K a1 c2 a::L) w) aJ ?_
  ·rintro c y f e4 hm hr ⟨e5,m⟩
   unfold dW at hm
   refine aC ?_
   rcases aI hm with ⟨b6,hm⟩|⟨b6,hm⟩
   ·refine aC ?_;refine aK [0] (fun f w=>fK c=some y/\f 3=i64 c/\aD G K (aF 2 K a1 c2 a::L) w) ?_ ?_
    ·rintro f e6 ⟨hm,e7,b7⟩
     unfold fK at hm
     refine aC ?_;exact ⟨_,(zI hm).symm,aR,rfl,b7⟩
    refine aC ?_;refine aEi ?_
    refine aC ?_;obtain ⟨e8,z,hm⟩:=aB hm
    have b:=bC m (i:=0) rfl z
    refine jN (fun _ m=>bV eN rfl b rfl rfl rfl z) (aC ?_);obtain ⟨e9,b8,hm⟩:=aB hm
    refine jN (fun _ m=>bV eN rfl b rfl rfl rfl b8) (aC ?_);refine oS (fun f0 b9=>(aC ?_))
    rcases aI hm with ⟨c0,hm⟩|⟨c0,hm⟩
    ·refine aC ?_;obtain ⟨f1,d,hm⟩:=aB hm
     have e:=iW b9 (i:=0) rfl
     obtain ⟨f2,f3,g⟩:=Cut.ex 1 a1 c2 c
     refine aL (aAD eN e g rfl rfl rfl d) (aC ?_);refine aK [] (fun f w=>∃ j k,fL j k=some y/\f 0=zS a1 j.length c2/\f 3=i64 k/\aD G K (aF 2 K a1 c2 j::L) w) ?_ ?_
     ·rintro f f4 ⟨j,k,hm,c1,f5,J⟩
      unfold fL at hm
      refine aC ?_;obtain ⟨f6,c4,hm⟩:=aB hm
      have c5:=iW J (i:=0) rfl
      obtain ⟨f7,f8,V⟩:=Cut.ex 1 a1 c2 k
      refine aL (aAD eN c5 V rfl rfl rfl c4) ?_;obtain ⟨Z,a0,hm⟩:=aB hm
      refine aFT eN aHr rfl J (i:=0) rfl V rfl rfl a0 (fun a2 (a3:aD G K (aF 2 K a1 c2 Z::L) a2)=>?_)
      iterate 4 refine cO ?_
      refine gN (v:=zS a1 Z.length c2) (Eq.trans c1 (congrArg (fun n=>zS a1 n c2) (aDF a0))) (aC ?_);obtain ⟨a4,a5,hm⟩:=aB hm
      have c6:=iW a3 (i:=0) rfl
      obtain ⟨c7,c8,a6⟩:=Cut.ex 1 a1 c2 0
      refine aL (aFy eN c6 a6 rfl rfl rfl a5) (aC ?_);refine aFP (aHv (sO (sO (sO ?_))))
      have c9:=hr _ (zI hm).symm
      subst c9
      have hm:(some a4)=some R:=ho
      clear hr ho
      have f9:aD G K (aF 2 K c7 c8 a4::L) a2:=aD.cutP a3 (i:=0) rfl a5 a6
      exact aJ
     obtain ⟨g0,d0,ho⟩:=aB hm
     refine mW [4] d0 (fun o p q f w=>f 0=zS a1 o.length c2/\f 3=i64 p/\f 5=i64 q/\aD G K (aF 2 K a1 c2 o::L) w) aJ ?_
     ·rintro o p q d1 f g1 hm hr ⟨d2,g2,g3,a7⟩
      unfold dV at hm
      refine aC ?_
      rcases aI hm with ⟨d3,hm⟩|⟨d3,hm⟩
      ·refine aC ?_;refine aK [4,5] (fun f w=>∃ l r,dU q l r=some d1/\f 0=zS a1 l.length c2/\f 3=i64 r/\aD G K (aF 2 K a1 c2 l::L) w) ?_ ?_
       ·rintro f g4 ⟨l,r,hm,d4,d5,d6⟩
        unfold dU at hm
        refine aC ?_;exact ⟨_,(zI hm).symm,aR,d4,d5,rfl,d6⟩
       refine aC ?_;refine aEi ?_
       refine aC ?_;obtain ⟨g5,a8,hm⟩:=aB hm
       obtain ⟨a9,d7,hm⟩:=aB hm
       refine jN (fun _ a7=>aJD eN b g d e rfl rfl rfl a8 rfl) (aC ?_);obtain ⟨g6,d8,hm⟩:=aB hm
       obtain ⟨g7,g8,hm⟩:=aB hm
       refine jN (fun _ a7=>aJD eN b g d e rfl rfl rfl d8 rfl) (aC ?_);refine oS (fun g9 b0=>(aC ?_))
       rcases aI hm with ⟨d9,hm⟩|⟨d9,hm⟩
       ·refine aC ?_;refine aL (aJD eN b g d e rfl rfl rfl a8 rfl) (aL (aCN (t:=0) oG b0 (i:=0) rfl d7 rfl rfl rfl) ?_)
        obtain ⟨h0,b1,hm⟩:=aB hm
        refine aL (bV eN rfl b rfl rfl rfl b1) ?_;obtain ⟨b2,b3,hm⟩:=aB hm
        refine nU (i:=0) (t:=0) (ns:=[i64 a9]) (e':=(a9:Int)) sizeOf2 b0 rfl (Hp.le_refl _) rfl rfl rfl b1 b3 rfl rfl (lS rfl) rfl (fun cs h=>by cases h;rfl) (fun e0 (e1:aD G K (aF 2 K a1 c2 b2::L) e0)=>(aC ?_));exact ⟨aR,b2,wr (p+1),hm,(Eq.trans d2 (congrArg (fun n=>zS a1 n c2) (lD b3))),rfl,e1⟩
       ·exact aJ
      ·exact aJ
    ·exact aJ
   ·exact aJ
theorem aBZ {t:aP} {m:(List Int)} {q:aH} {R:(List Int)} (hm:jK t m q=some R) (hs:aD G K (L) w) (h3:aN K a1 c2 t.L) (z:aN K a4 c5 t.E) (h9:aN K a7 c8 m):
  Calls prog 164 ([zA (zCa t a1 c2 a4 c5),zS a7 m.length c8,str q]:List Value).toArray w (dS fun v w'=>∃ r u,v=zS r R.length u/\aD G K (aF 2 K r u R::L) w'):=by
 let o:=(zC t a1 c2 a4 c5)
 refine cH func164 ?_;unfold jK at hm
 refine aC ?_;refine oZ fun p b8 J=>?_
 refine aC ?_;refine aK [] (fun f w=>∃ d a b,qL d=some R/\f 7=zS a d.length b/\aD G K (aF 2 K a b d::L) w) ?_ ?_
 ·rintro f b9 ⟨d,a,b,hm,V,Z⟩
  unfold qL at hm
  refine aC ?_;obtain ⟨a0,a2,hm⟩:=aB hm
  refine cG call194 (aHT Z a2) ?_
  rintro _ c0 ⟨rfl,a3,a5⟩
  iterate 4 refine cO ?_
  refine gN (v:=zS a a0.length b) (Eq.trans V (congrArg (fun n=>zS a n b) a3)) ?_;obtain ⟨c1,a6,hm⟩:=aB hm
  exact cG call195 (oO a6 a5) aJ
 have c3:=aD.nil (α:=Int) J 2 K
 obtain ⟨c4,a8,ho⟩:=aB hm
 refine bQ [1,2,3,11,12] a8 (fun c e f w=>∃ g h,f 7=zS g c.length h/\f 13=i64 e/\aD G K (aF 2 K g h c::box p 27 o::L) w) aJ ?_
 ·rintro c e x f c6 hm hr ⟨g,h,c7,c9,d0⟩
  unfold fR at hm
  refine aC ?_
  rcases aI hm with ⟨a9,hm⟩|⟨a9,hm⟩
  ·refine aC ?_;refine aK [1,2,3,11,12,13] (fun f w=>∃ i j k,oA e i=some x/\f 7=zS j i.length k/\aD G K (aF 2 K j k i::box p 27 o::L) w) ?_ ?_
   ·rintro f d1 ⟨i,j,k,hm,b0,b1⟩
    unfold oA at hm
    refine aC ?_;exact ⟨_,(zI hm).symm,aR,j,k,b0,rfl,b1⟩
   refine aC ?_;obtain ⟨l,b2,hm⟩:=aB hm
   refine aC ?_;obtain ⟨d2,d3,b3⟩:=aN.el (sz:=3) rfl z b2
   cases b3
   refine aC ?_;refine kK fun b4 d4 d5=>?_
   refine kZ fun d6 d7=>?_
   iterate 3 refine cO ?_
   exact aW [1,2,3,7,9,11,12,13] (fun f w=>∃ y,qM c e l y=some x/\f 30=zB y/\aD G K (box b4 90 [i64 l.F,i64 l.B,i64 l.To]::aF 2 K g h c::box p 27 o::L) w) aJ aJ
  ·exact aJ
end Gv
