/- Walks, printed by program. -/
import Derived.Test.YthmfdhgeglgpbaaGreatDoorJWk7
set_option linter.all false
namespace Gv
open Gv.Hp renaming le_refl→zR
open Go.Value renaming slice→zS,bool→zB,pointer→zP,agg→zA
open Option.some renaming inj→zI
open Gv.Hp renaming le_trans→zL
open Go Go.Proofs Go.Proofs.Tryz
set_option maxRecDepth 20000
set_option maxHeartbeats 40000000
variable {G:rT} {K:Hp} {L:List fM} {w:World} {a1 a4 a7 a10 a13 a16 a19 a22 a25 a28 a31 a34:Option Addr} {c2 c5 c17 c20 c23 c26 c29 c32 c8 c35 c11 c14:Nat}
theorem kF {b R:(List Edge)} (hm:dN b=some R) (hs:aF G K (own 68 K a1 c2 b::L) w):
  Calls prog 60 ([zS a1 b.length c2]:List Value).toArray w (dL fun v w'=>∃ J Z,v=zS J R.length Z/\aF G K (own 68 K J Z R::L) w'):=by
 refine aBM func60 ?_;unfold dN at hm
 refine aAW ?_
 rcases aM hm with ⟨c3,hm⟩|⟨c3,hm⟩
 ·exact aN
 ·refine aAW ?_;refine aS [0] (fun f w=>kV b=some R/\aF G K (own 68 K a1 c2 b::L) w) aN ?_
  obtain ⟨e9,b8,ho⟩:=aB hm
  refine eK [0] b8 (fun d f w=>f 3=i64 d/\aF G K (own 68 K a1 c2 b::L) w) aN ?_
  ·rintro d a0 f f0 hm hr ⟨f1,e⟩
   unfold dD at hm
   refine aAW ?_
   rcases aM hm with ⟨b9,hm⟩|⟨b9,hm⟩
   ·refine aAW ?_;refine aS [0] (fun f w=>eD d=some a0/\f 3=i64 d/\aF G K (own 68 K a1 c2 b::L) w) ?_ ?_
    ·rintro f f2 ⟨hm,f3,c0⟩
     unfold eD at hm
     refine aAW ?_;exact ⟨_,(zI hm).symm,bG,rfl,c0⟩
    refine aAW ?_;refine aOY ?_
    refine aAW ?_;obtain ⟨c1,a2,hm⟩:=aB hm
    have c:=bM e (i:=0) rfl a2
    refine cW (fun _ e=>cB eW rfl c rfl rfl rfl a2) (aAW ?_);obtain ⟨c4,c5,hm⟩:=aB hm
    refine cW (fun _ e=>cB eW rfl c rfl rfl rfl c5) (aAW ?_);refine cW (fun _ e=>R_eqlG (eq_68 (x:=c1) (y:=c4)) rfl rfl) (aAm (fun f4 c6=>(aAW ?_)))
    rcases aM hm with ⟨c7,hm⟩|⟨c7,hm⟩
    ·refine aAW ?_;obtain ⟨f5,g,hm⟩:=aB hm
     have j:=qA c6 (i:=0) rfl
     obtain ⟨f6,f7,k⟩:=Cut.ex 3 a1 c2 d
     refine aD (aHE eW j k rfl rfl rfl g) (aAW ?_);refine aS [] (fun f w=>∃ l m,eE l m=some a0/\f 0=zS a1 l.length c2/\f 3=i64 m/\aF G K (own 68 K a1 c2 l::L) w) ?_ ?_
     ·rintro f f8 ⟨l,m,hm,c8,f9,a3⟩
      unfold eE at hm
      refine aAW ?_;obtain ⟨g0,c9,hm⟩:=aB hm
      have d0:=qA a3 (i:=0) rfl
      obtain ⟨g1,g2,a4⟩:=Cut.ex 3 a1 c2 m
      refine aD (aHE eW d0 a4 rfl rfl rfl c9) ?_;obtain ⟨a5,a6,hm⟩:=aB hm
      refine aID eW aEE rfl a3 (i:=0) rfl a4 rfl rfl a6 (fun a7 (a8:aF G K (own 68 K a1 c2 a5::L) a7)=>?_)
      iterate 4 refine aBh ?_
      refine bA (v:=zS a1 a5.length c2) (Eq.trans c8 (congrArg (fun n=>zS a1 n c2) (aGi a6))) (aAW ?_);obtain ⟨a9,b0,hm⟩:=aB hm
      have d1:=qA a8 (i:=0) rfl
      obtain ⟨d2,d3,b1⟩:=Cut.ex 3 a1 c2 0
      refine aD (aKV eW d1 b1 rfl rfl rfl b0) (aAW ?_);refine nD (aHv (kJ (kJ (kJ ?_))))
      have d4:=hr _ (zI hm).symm
      subst d4
      have hm:(some a9)=some R:=ho
      clear hr ho
      have g3:aF G K (own 68 K d2 d3 a9::L) a7:=aF.cutP a8 (i:=0) rfl b0 b1
      exact aN
     obtain ⟨g4,d5,ho⟩:=aB hm
     refine lR [4] d5 (fun p q r f w=>f 0=zS a1 p.length c2/\f 3=i64 q/\f 5=i64 r/\aF G K (own 68 K a1 c2 p::L) w) aN ?_
     ·rintro p q r d6 f g5 hm hr ⟨d7,g6,g7,u⟩
      unfold dC at hm
      refine aAW ?_
      rcases aM hm with ⟨d8,hm⟩|⟨d8,hm⟩
      ·refine aAW ?_;refine aS [4,5] (fun f w=>∃ o z,dB r o z=some d6/\f 0=zS a1 o.length c2/\f 3=i64 z/\aF G K (own 68 K a1 c2 o::L) w) ?_ ?_
       ·rintro f g8 ⟨o,z,hm,d9,e0,e1⟩
        unfold dB at hm
        refine aAW ?_;exact ⟨_,(zI hm).symm,bG,d9,e0,rfl,e1⟩
       refine aAW ?_;refine aOY ?_
       refine aAW ?_;obtain ⟨g9,b2,hm⟩:=aB hm
       obtain ⟨a,e2,hm⟩:=aB hm
       refine cW (fun _ u=>aOz eW c k g j rfl rfl rfl b2 rfl) (aAW ?_);obtain ⟨h0,e3,hm⟩:=aB hm
       obtain ⟨e4,h1,hm⟩:=aB hm
       refine cW (fun _ u=>aOz eW c k g j rfl rfl rfl e3 rfl) (aAW ?_);refine cW (fun _ u=>R_neqG (eq_68 (x:=a) (y:=e4)) rfl rfl) (aAm (fun h2 b3=>(aAW ?_)))
       rcases aM hm with ⟨e5,hm⟩|⟨e5,hm⟩
       ·refine aAW ?_;refine aD (aOz eW c k g j rfl rfl rfl b2 rfl) (aD (aGm (t:=0) (vs:=[i64 a.F,i64 a.B,i64 a.To]) zV b3 (i:=0) rfl e2 rfl rfl rfl rfl) ?_)
        obtain ⟨h3,b4,hm⟩:=aB hm
        refine aD (cB eW rfl c rfl rfl rfl b4) ?_;obtain ⟨b5,b6,hm⟩:=aB hm
        refine eC (i:=0) (t:=0) (ns:=[i64 a.F,i64 a.B,i64 a.To]) (e':=(⟨a.F,a.B,a.To⟩:Edge)) sizeOf68 b3 rfl (Hp.le_refl _) rfl rfl rfl b4 b6 rfl rfl (eB rfl) rfl (fun cs h=>by cases h;rfl) (fun e6 (e7:aF G K (own 68 K a1 c2 b5::L) e6)=>(aAW ?_));exact ⟨bG,b5,wr (q+1),hm,(Eq.trans d7 (congrArg (fun n=>zS a1 n c2) (dH b6))),rfl,e7⟩
       ·exact aN
      ·exact aN
    ·exact aN
   ·exact aN
theorem yA {e:Edge} {p:(List Int)} {c:Nat} {b:aT} {d g:Nat} {a:gY} {h:Nat} {R:Bool} (hm:nY e p b a=some R) (j:aF G K (L) w) (k:G.lo=0) (l:dR K a1 c [zS a4 p.length c5]) (m:bI K a4 c5 p) (n:dR K a7 d [i64 b.Kind,i64 b.Variable,str b.B,zB b.Not]) (o:dR K a10 g [cE a13 h]) (q:dR K a13 h [zS a16 a.f.length c17,i64 a.t.N,i64 a.t.I,zS a19 a.t.L.length c20,zS a22 a.t.E.length c23,zS a25 a.equations.length c26,zS a28 a.list.length c29,zS a31 a.game.length c32,i64 a.start]) (r:bI K a16 c17 a.f) (u:bI K a19 c20 a.t.L) (x:bI K a22 c23 a.t.E) (y:bI K a25 c26 a.equations) (z:bI K a28 c29 a.list) (J:bI K a31 c32 a.game):
  Calls prog 56 ([zA #[i64 e.F,i64 e.B,i64 e.To],cE a1 c,cE a7 d,cE a10 g]:List Value).toArray w (dL fun v w'=>v=zB R/\aF G K (L) w'):=by
 refine aBM func56 ?_;unfold nY at hm
 refine aAW ?_;refine aGg fun Z a0 a2=>?_
 refine aAW ?_;exact bD [] (fun f w=>∃ i,kW i=some R/\f 5=zB i/\aF G K (L) w) aN aN
theorem jK {h:(List Edge)} {i:(List Int)} {d:Nat} {c:aT} {e g:Nat} {a:gY} {j:Nat} {R:Int} (hm:dF h i c a=some R) (hs:aF G K (L) w) (l:G.lo=0) (m:bI K a1 c2 h) (n:dR K a4 d [zS a7 i.length c8]) (o:bI K a7 c8 i) (p:dR K a10 e [i64 c.Kind,i64 c.Variable,str c.B,zB c.Not]) (q:dR K a13 g [cE a16 j]) (r:dR K a16 j [zS a19 a.f.length c20,i64 a.t.N,i64 a.t.I,zS a22 a.t.L.length c23,zS a25 a.t.E.length c26,zS a28 a.equations.length c29,zS a31 a.list.length c32,zS a34 a.game.length c35,i64 a.start]) (u:bI K a19 c20 a.f) (x:bI K a22 c23 a.t.L) (y:bI K a25 c26 a.t.E) (z:bI K a28 c29 a.equations) (J:bI K a31 c32 a.list) (Z:bI K a34 c35 a.game):
  Calls prog 55 ([zS a1 h.length c2,Value.func (.func 56) #[] #[cE a4 d,cE a10 e,cE a13 g]]:List Value).toArray w (dL fun v w'=>v=i64 R/\aF G K (L) w'):=by
 refine aBM func55 ?_;unfold dF at hm
 refine aAW ?_;refine aS [] (fun f w=>kB=some R/\aF G K (L) w) aN ?_
 obtain ⟨b0,a0,ho⟩:=aB hm
 refine eK [0,1,7] a0 (fun k f w=>f 8=i64 k/\aF G K (L) w) aN ?_
 ·rintro k b1 f b2 hm hr ⟨b3,a2⟩
  unfold cZ at hm
  refine aAW ?_
  rcases aM hm with ⟨a3,hm⟩|⟨a3,hm⟩
  ·refine aAW ?_;refine bZ (aAW ?_)
   obtain ⟨b,a5,hm⟩:=aB hm
   refine aAW ?_;obtain ⟨b4,b5,a6⟩:=bI.el (sz:=3) rfl m a5
   cases a6
   refine aAW ?_;obtain ⟨b6,a8,hm⟩:=aB hm
   exact nT (vs:=[zA #[i64 b.F,i64 b.B,i64 b.To]]) (caps:=[cE a4 d,cE a10 e,cE a13 g]) (us:=[zA #[i64 b.F,i64 b.B,i64 b.To],cE a4 d,cE a10 e,cE a13 g]) rfl call56 rfl rfl (yA a8 a2 l n o p q r u x y z J Z) aN
  ·exact aN
theorem uS {x_:gY} {d:Nat} {p:aFF} {R:(List Edge)} (hm:kC x_ p=some R) (hs:aF G K (L) w) (hG:G.lo=0) (h3:dR K a1 d [zS a4 x_.f.length c5,i64 x_.t.N,i64 x_.t.I,zS a7 x_.t.L.length c8,zS a10 x_.t.E.length c11,zS a13 x_.equations.length c14,zS a16 x_.list.length c17,zS a19 x_.game.length c20,i64 x_.start]) (y:bI K a4 c5 x_.f) (h9:bI K a7 c8 x_.t.L) (z:bI K a10 c11 x_.t.E) (b3:bI K a13 c14 x_.equations) (b4:bI K a16 c17 x_.list) (b5:bI K a19 c20 x_.game) (b6:bI K a22 c23 p.Rows):
  Calls prog 19 ([cE a1 d,zA #[zB p.Verdict,zS a22 p.Rows.length c23]]:List Value).toArray w (dL fun v w'=>∃ J Z,v=zS J R.length Z/\aF G K (own 68 K J Z R::L) w'):=by
 refine aBM func19 ?_;unfold kC at hm
 refine aAW ?_;refine aGg fun j f8 f9=>?_
 refine aGg fun g0 g1 b7=>?_;refine aAW ?_
 refine aS [] (fun f w=>∃ k e g,rR k=some R/\f 5=zS e k.length g/\aF G K (own 68 K e g k::L) w) ?_ ?_
 ·rintro f g2 ⟨k,e,g,hm,b8,b9⟩
  unfold rR at hm
  refine aAW ?_;obtain ⟨c0,c1,hm⟩:=aB hm
  refine aAZ call58 (lib_SortEdge b9 c1) ?_
  rintro _ g3 ⟨rfl,c2,c3⟩
  iterate 4 refine aBh ?_
  refine bA (v:=zS e c0.length g) (Eq.trans b8 (congrArg (fun n=>zS e n g) c2)) ?_;obtain ⟨g4,c4,hm⟩:=aB hm
  exact aAZ call60 (kF c4 c3) aN
 have g5:=aF.nil (α:=Edge) b7 68 K
 obtain ⟨g6,c6,ho⟩:=aB hm
 refine bN [2,11,12] c6 (fun h l f w=>∃ m o,f 5=zS m h.length o/\f 13=i64 l/\aF G K (own 68 K m o h::box j 47 [cE a1 d]::L) w) aN ?_
 ·rintro h l a0 f g7 hm hr ⟨m,o,g8,g9,h0⟩
  unfold dY at hm
  refine aAW ?_
  rcases aM hm with ⟨c7,hm⟩|⟨c7,hm⟩
  ·refine aAW ?_;refine aS [2,11,12,13] (fun f w=>∃ q r u,lF l q=some a0/\f 5=zS r q.length u/\aF G K (own 68 K r u q::box j 47 [cE a1 d]::L) w) ?_ ?_
   ·rintro f h1 ⟨q,r,u,hm,c9,d0⟩
    unfold lF at hm
    refine aAW ?_;exact ⟨_,(zI hm).symm,bG,r,u,c9,rfl,d0⟩
   refine aAW ?_;obtain ⟨a2,d1,hm⟩:=aB hm
   refine aAW ?_;obtain ⟨h2,h4,d2⟩:=bI.el (sz:=1) rfl b6 d1
   obtain ⟨d3,d4,rfl,a3⟩:=d2
   refine aAW ?_;refine aEx fun a5 h5 h7=>?_
   refine aFy fun h8 d5=>?_;refine aAW ?_
   obtain ⟨i0,i1,d6,d7,d8⟩:=aF.lendBp d5 .head
   obtain ⟨i2,d9,i3,i4,e0⟩:=aF.lendBp d7 zt1
   refine aGG [(0,0),(1,0),(2,0),(3,0),(4,0),(5,0),(6,0),(7,0),(8,0),(9,1),(10,2)] fun i5 a6=>?_;refine aAW ?_
   refine aZ rfl (fun _ ⟨_,a6⟩=>bE (t:=0) oZ a6 (d6.mono d9) rfl rfl) ?_;obtain ⟨i6,e1,hm⟩:=aB hm
   refine aAW ?_;obtain ⟨i7,i8,e2⟩:=bI.el (sz:=1) rfl a3 e1
   cases e2
   refine aAW ?_;obtain ⟨i,e3,hm⟩:=aB hm
   refine aAW ?_;obtain ⟨i9,j0,e4⟩:=bI.el (sz:=4) rfl y e3
   cases e4
   refine aAW ?_;refine fR rfl (aEx fun a8 j1 a9=>?_)
   refine aY (aC ⟨⟨_,a9⟩,?_⟩)
   have e5:=e0 _ _ a9
   have j2:=d8 _ _ e5
   refine aHm rfl (aFy fun j3 j4=>?_);refine aAW ?_
   refine lV ?_
   iterate 3 refine aBh ?_
   refine bD [2,5,7,8,11,12,13] (fun f w=>∃ x,jD x_ h l a2 i x=some a0/\f 33=zB x/\aF G K (box a5 88 [zS d3 a2.length d4]::box j 47 [cE a1 d]::box a8 45 [i64 i.Kind,i64 i.Variable,str i.B,zB i.Not]::own 68 K m o h::L) w) ?_ ?_
   ·rintro f j5 ⟨x,hm,j6,e6⟩
    unfold jD at hm
    refine aAW ?_
    rcases aM hm with ⟨e7,hm⟩|⟨e7,hm⟩
    ·exact aN
    ·iterate 10 refine aBh ?_
     refine aD (oY (vs:=[zP (some ⟨a5,0,none⟩),zP (some ⟨a8,0,none⟩),zP (some ⟨j,0,none⟩)]) rfl) ?_;obtain ⟨j7,c,e8,e9,j8⟩:=aF.lendBp e6 .head
     obtain ⟨j9,b,f0,f1,k0⟩:=aF.lendBp e9 zt1
     obtain ⟨k1,a,f2,f3,f4⟩:=aF.lendBp f1 .head
     obtain ⟨k3,f5,hm⟩:=aB hm
     refine aAZ call55 (jK f5 f3 hG (z.mono (zL (zL c b) a)) (e8.mono (zL b a)) (a3.mono (zL (zL c b) a)) (f0.mono a) f2 (h3.mono (zL (zL c b) a)) (y.mono (zL (zL c b) a)) (h9.mono (zL (zL c b) a)) (z.mono (zL (zL c b) a)) (b3.mono (zL (zL c b) a)) (b4.mono (zL (zL c b) a)) (b5.mono (zL (zL c b) a))) ?_
     rintro _ k4 ⟨rfl,f6⟩
     have k5:=f4 _ _ f6
     exact aN
   exact aN
  ·exact aN
theorem aBe {h:(List aT)} {t:cN} {R:(cN × Bool × Int)} (hm:mB h t=some R) (hs:aF G K (L) w) (hG:G.lo=0) (h3:bI K a1 c2 h) (u:bI K a4 c5 t.L) (x:bI K a7 c8 t.E):
  Calls prog 6 ([zS a1 h.length c2,zA (zCa t a4 c5 a7 c8)]:List Value).toArray w (dL fun v w'=>∃ b2 b3 b4 b5,v=Value.tuple #[zA (zCa R.1 b2 b3 b4 b5),zB R.2.1,i64 R.2.2]/\aF G K (own 9 K b2 b3 R.1.L::own 68 K b4 b5 R.1.E::L) w'):=by
 refine aBM func6 ?_;unfold mB at hm
 refine aAW ?_;refine aGg fun d1 i5 i6=>?_
 refine aEx fun b6 i7 d2=>?_;refine aAW ?_
 obtain ⟨a,d3,hm⟩:=aB hm
 refine aAZ call16 (zH d3 d2 hG h3 u x) ?_
 rintro _ d4 ⟨m,b7,b8,y,z,J,Z,a0,rfl,e,b9,d5⟩
 rcases aM hm with ⟨b0,hm⟩|⟨b0,hm⟩
 ·exact aN
 ·have d6:aF G m (own 88 m y z a.2.1::own 123 m J Z a.2.2.1::box a0 98 [zS a1 h.length c2,i64 t.N,i64 t.I,zS a4 t.L.length c5,zS a7 t.E.length c8,zS b7 a.1.length b8,zS y a.2.1.length z,zS J a.2.2.1.length Z,i64 a.2.2.2.1]::box b6 28 zG::box d1 28 (zC t a4 c5 a7 c8)::L) d4:=aF.bxcE (i:=2) d5 rfl (aHz b0)
  refine bA (v:=Value.tuple #[zP (some ⟨a0,0,none⟩),i64 a.2.2.2.2]) (congrArg (fun b:Bool=>Value.tuple #[zP (if b=false then some ⟨a0,0,none⟩ else none),i64 a.2.2.2.2]) (aHz b0)) (aAW ?_);obtain ⟨i8,n,d7,d8,d9⟩:=aF.lendSp d6 (Hp.le_refl _) .head
  obtain ⟨i9,o,e0,e1,e2⟩:=aF.lendSp d8 n .head
  obtain ⟨j0,k,e3,e4,e5⟩:=aF.lendBp e1 .head
  obtain ⟨a2,e6,hm⟩:=aB hm
  refine aAZ call17 (tN (x_:=⟨h,⟨t.N,t.I,t.L,t.E⟩,a.1,a.2.1,a.2.2.1,a.2.2.2.1⟩) e6 e4 e3 (h3.mono (zL (zL (zL e n) o) k)) (u.mono (zL (zL (zL e n) o) k)) (x.mono (zL (zL (zL e n) o) k)) (b9.mono (zL (zL n o) k)) (d7.mono (zL o k)) (e0.mono k)) ?_
  rintro _ j1 ⟨c0,c1,c3,rfl,e7,e8⟩
  have e9:=e5 _ _ e8
  have f0:=e2 _ _ e9
  have j2:=d9 _ _ f0
  refine aEx fun j3 j4 j5=>?_;refine aFy fun j6 f1=>?_
  refine aAW ?_;obtain ⟨j7,g,c4,f2,j8⟩:=aF.lendBp f1 .head
  obtain ⟨f3,d,j9,k0,f4⟩:=aF.lendBp f2 zt6
  refine aGG [(0,0),(1,0),(2,0),(5,0),(6,0),(3,1),(4,1),(7,1),(8,2),(9,2)] fun k1 p=>?_;refine aAW ?_
  refine aZ rfl (fun _ ⟨_,p⟩=>jQ (t:=0) (vs:=[zB a2.Verdict,zS c0 a2.Rows.length c1]) ag_52 p (c4.mono d) rfl rfl rfl) (aZ rfl (fun _ _=>bU (t':=0) aKm rfl rfl) (aZ rfl (fun _ ⟨_,p⟩=>bE (t:=0) wX p (c4.mono d) rfl rfl) (fR rfl ?_)));obtain ⟨k2,q,f5,f6,f7⟩:=aF.lendSp p (zL g d) .head
  obtain ⟨k3,r,f8,f9,g0⟩:=aF.lendSp f6 (zL (zL g d) q) .head
  obtain ⟨k4,l,g1,g2,g3⟩:=aF.lendBp f9 .head
  obtain ⟨k5,j,g4,k6,g5,g6⟩:=aF.lendD' (i:=0) g2 e7 rfl rfl
  obtain ⟨g7,g8,hm⟩:=aB hm
  refine aAZ call19 (uS (x_:=⟨h,⟨t.N,t.I,t.L,t.E⟩,a.1,a.2.1,a.2.2.1,a.2.2.2.1⟩) g8 g5 hG (g1.mono j) (h3.mono (zL (zL (zL (zL (zL (zL e g) d) q) r) l) j)) (u.mono (zL (zL (zL (zL (zL (zL e g) d) q) r) l) j)) (x.mono (zL (zL (zL (zL (zL (zL e g) d) q) r) l) j)) (b9.mono (zL (zL (zL (zL (zL g d) q) r) l) j)) (f5.mono (zL (zL r l) j)) (f8.mono (zL l j)) g4) ?_
  rintro _ k7 ⟨g9,h0,rfl,h1⟩
  have h2:=g6 _ _ h1
  have h4:=g3 _ _ h2
  have h5:=g0 _ _ h4
  have c6:=f7 _ _ h5
  refine aY (aC ⟨⟨_,c6⟩,?_⟩)
  refine fR rfl ?_;obtain ⟨k8,c7,h7,h8,i0⟩:=aF.lendSp c6 (zL (zL e g) d) zt5
  obtain ⟨c,i1,hm⟩:=aB hm
  refine aAZ call18 (vX i1 h8 (u.mono (zL (zL (zL e g) d) c7)) (x.mono (zL (zL (zL e g) d) c7)) h7) ?_
  rintro _ k9 ⟨a3,a5,a6,a8,rfl,i2⟩
  have c9:=i0 _ _ i2
  refine aY (aC ⟨⟨_,c9⟩,?_⟩)
  refine fR rfl (dP (i:=8) (ns:=(zC c a3 a5 a6 a8)) (us:=(zC c a3 a5 a6 a8)) sizeOf28 c9 rfl rfl rfl rfl rfl (eB rfl) rfl rfl (fun i3 (d0:aF G f3 (own 68 K g9 h0 g7::own 9 K a3 a5 c.L::own 68 K a6 a8 c.E::own 88 m y z a.2.1::own 123 m J Z a.2.2.1::box a0 98 [zS a1 h.length c2,i64 t.N,i64 t.I,zS a4 t.L.length c5,zS a7 t.E.length c8,zS b7 a.1.length b8,zS y a.2.1.length z,zS J a.2.2.1.length Z,i64 a.2.2.2.1]::own 88 K c0 c1 (cA c3 a2.Rows)::rows [2] c3 a2.Rows::box b6 28 (zC c a3 a5 a6 a8)::L) i3)=>(aY (aC ⟨⟨_,d0⟩,?_⟩))))
  have l0:=f4 _ _ d0
  exact aN
theorem aHi {a:(List Int)} {n R:Int} (hm:aEc a n=some R) (d:aF G K (L) w) (e:bI K a1 c2 a):
  Calls prog 63 ([zS a1 a.length c2,i64 n]:List Value).toArray w (dL fun v w'=>v=i64 R/\aF G K (L) w'):=by
 refine aBM func63 ?_;unfold aEc at hm
 refine aAW ?_;refine aS [] (fun f w=>aJj=some R/\aF G K (L) w) aN ?_
 obtain ⟨g,b,ho⟩:=aB hm
 exact eK [0,1] b (fun c f w=>f 5=i64 c/\aF G K (L) w) aN aN
theorem aJc {a R:aJ} (hm:aAE a=some R) (b:aF G K (L) w):
  Calls prog 114 ([str a]:List Value).toArray w (dL fun v w'=>v=str R/\aF G K (L) w'):=by
 exact aN
theorem aKE {a:aJ} {b:Bool} {c:aJ} {R:Bool} (hm:aAF a b c=some R) (d:aF G K (L) w):
  Calls prog 67 ([str a,zB b,str c]:List Value).toArray w (dL fun v w'=>v=zB R/\aF G K (L) w'):=by
 exact aN
theorem aOi {a:(List Int)} {n:Int} {R:(List Int)} (hm:aHU a n=some R) (hs:aF G K (L) w) (J:bI K a1 c2 a):
  Calls prog 173 ([zS a1 a.length c2,i64 n]:List Value).toArray w (dL fun v w'=>∃ p q,v=zS p R.length q/\aF G K (own 2 K p q R::L) w'):=by
 refine aBM func173 ?_;unfold aHU at hm
 refine aAW ?_;refine aCp ([]:List Int) fun a4 w5 b5=>?_
 refine aAW ?_;refine aS [1] (fun f w=>∃ c h i j,aES n c h=some R/\f 5=zS i c.length j/\f 6=zB h/\aF G K (own 2 K i j c::L) w) ?_ ?_
 ·rintro f b6 ⟨c,h,i,j,hm,b7,b8,b9⟩
  unfold aES at hm
  iterate 1 refine aBh ?_
  exact gQ [] (fun f w=>∃ k r t,aER k=some R/\f 5=zS r k.length t/\aF G K (own 2 K r t k::L) w) aN aN
 obtain ⟨c0,Z,ho⟩:=aB hm
 refine lR [0,1] Z (fun b l d f w=>∃ e g,f 5=zS e b.length g/\f 6=zB l/\f 7=i64 d/\aF G K (own 2 K e g b::L) w) aN ?_
 ·rintro b l d u f c1 hm hr ⟨e,g,c3,c4,c5,c6⟩
  unfold sU at hm
  refine aAW ?_
  rcases aM hm with ⟨a0,hm⟩|⟨a0,hm⟩
  ·refine aAW ?_;refine bZ (gQ [0,1,7] (fun f w=>∃ m x y z,aCd a d m x=some u/\f 5=zS y m.length z/\f 6=zB x/\aF G K (own 2 K y z m::L) w) aN ?_)
   iterate 1 refine aBh ?_
   refine bD [0,1,5,6,7] (fun f w=>∃ o,aCe a n b l d o=some u/\f 24=zB o/\aF G K (own 2 K e g b::L) w) ?_ ?_
   ·rintro f c7 ⟨o,hm,c8,d0⟩
    unfold aCe at hm
    refine aAW ?_
    rcases aM hm with ⟨a2,hm⟩|⟨a2,hm⟩
    ·refine aAW ?_;obtain ⟨d1,a3,hm⟩:=aB hm
     refine aAW ?_;obtain ⟨d2,d3,a5⟩:=bI.el (sz:=1) rfl J a3
     cases a5
     refine aAW ?_
     rcases aM hm with ⟨a6,hm⟩|⟨a6,hm⟩
     ·refine aAW ?_;refine aCp ([n]:List Int) fun d4 d5 d6=>?_
      obtain ⟨a7,d7,hm⟩:=aB hm
      refine aNS fun a9 b0 d8 b1=>?_;refine aAW ?_
      exact ⟨bG,a7,true,a9,b0,hm,rfl,rfl,b1⟩
     ·exact aN
    ·exact aN
   exact aN
  ·exact aN
theorem aCu {c:(List aT)} {t:cN} {J:Nat} {b d:Int} {R:(List Int)} (hm:aBu c t b d=some R) (hs:aF G K (L) w) (h3:bI K a1 c2 c) (h6:dR K a4 J (zC t a7 c8 a10 c11)) (h9:bI K a7 c8 t.L) (a9:bI K a10 c11 t.E):
  Calls prog 104 ([zS a1 c.length c2,cE a4 J,i64 b,i64 d]:List Value).toArray w (dL fun v w'=>∃ Z a0,v=zS Z R.length a0/\aF G K (own 2 K Z a0 R::L) w'):=by
 refine aBM func104 ?_;unfold aBu at hm
 refine aAW ?_;refine aCp ([]:List Int) fun r d0 d1=>?_
 refine aAW ?_;obtain ⟨a,b0,hm⟩:=aB hm
 refine aAW ?_;obtain ⟨d2,d3,b1⟩:=bI.el (sz:=4) rfl h3 b0
 cases b1
 refine aAW ?_;refine aEx fun e d4 d5=>?_
 refine aFy fun d6 d7=>?_;refine aAW ?_
 refine aS [] (fun f w=>∃ u a2 a3,mJ u=some R/\f 9=zS a2 u.length a3/\aF G K (own 2 K a2 a3 u::L) w) aN (gQ [0,1,2,3,9,10,19] (fun f w=>∃ x,rG c t b d a x=some R/\f 20=zB x/\aF G K (box e 45 [i64 a.Kind,i64 a.Variable,str a.B,zB a.Not]::own 2 K r 0 ([]:List Int)::L) w) ?_ ?_)
 ·rintro f d8 ⟨x,hm,d9,e0⟩
  unfold rG at hm
  rcases aM hm with ⟨b2,hm⟩|⟨b2,hm⟩
  ·refine aAW ?_;refine aGG [(0,0),(1,0),(2,0),(3,0),(4,0),(5,0),(6,0),(7,0),(8,0),(9,0),(10,0),(11,0),(12,0),(14,0),(15,0),(16,0),(17,0),(19,0),(13,1),(18,0),(20,0),(21,1),(22,1),(23,0)] fun e1 e2=>?_
   exact aN
  ·iterate 1 refine aBh ?_
   refine gQ [0,1,2,3,9,10,19] (fun f w=>∃ y,rF c t b d a y=some R/\f 46=zB y/\aF G K (box e 45 [i64 a.Kind,i64 a.Variable,str a.B,zB a.Not]::own 2 K r 0 ([]:List Int)::L) w) ?_ ?_
   ·rintro f e3 ⟨y,hm,e4,e5⟩
    unfold rF at hm
    rcases aM hm with ⟨b3,hm⟩|⟨b3,hm⟩
    ·refine aAW ?_;refine aS [] (fun f w=>∃ g i j,aFt g=some R/\f 9=zS i g.length j/\aF G K (own 2 K i j g::L) w) ?_ ?_
     ·rintro f e6 ⟨g,i,j,hm,b4,b5⟩
      unfold aFt at hm
      refine aAW ?_;exact ⟨bG,g,i,j,hm,b4,b5⟩
     obtain ⟨e7,b6,ho⟩:=aB hm
     refine bN [1,2,3,10] b6 (fun h k f w=>∃ l m,f 9=zS l h.length m/\f 11=i64 k/\aF G K (box e 45 [i64 a.Kind,i64 a.Variable,str a.B,zB a.Not]::own 2 K l m h::L) w) aN ?_
     ·rintro h k a5 f e8 hm hr ⟨l,m,e9,f0,f1⟩
      unfold oI at hm
      refine aAW ?_
      rcases aM hm with ⟨b7,hm⟩|⟨b7,hm⟩
      ·refine aAW ?_;refine aS [1,2,3,10,11] (fun f w=>∃ n o p,uM k n=some a5/\f 9=zS o n.length p/\aF G K (own 2 K o p n::box e 45 [i64 a.Kind,i64 a.Variable,str a.B,zB a.Not]::L) w) ?_ ?_
       ·rintro f f2 ⟨n,o,p,hm,b8,f3⟩
        unfold uM at hm
        refine aAW ?_;exact ⟨_,(zI hm).symm,bG,o,p,b8,rfl,aCN⟩
       refine aAW ?_;obtain ⟨q,b9,hm⟩:=aB hm
       refine aAW ?_;obtain ⟨f4,f5,c0⟩:=bI.el (sz:=3) rfl a9 b9
       cases c0
       refine aAW ?_;refine aEx fun c1 f6 f7=>?_
       refine aFy fun f8 f9=>?_;refine aAW ?_
       refine bD [1,2,3,9,10,11,12] (fun f w=>∃ z,uN t b h k q z=some a5/\f 83=zB z/\aF G K (box c1 68 [i64 q.F,i64 q.B,i64 q.To]::box e 45 [i64 a.Kind,i64 a.Variable,str a.B,zB a.Not]::own 2 K l m h::L) w) ?_ ?_
       ·rintro f g0 ⟨z,hm,g1,c3⟩
        unfold uN at hm
        refine aAW ?_
        rcases aM hm with ⟨c4,hm⟩|⟨c4,hm⟩
        ·refine aAW ?_;obtain ⟨g2,g3,g4,g5,g6⟩:=aF.lendBp c3 .head
         refine aGG [(0,0),(1,0),(2,0),(3,0),(4,0),(5,0),(6,0),(7,0),(8,0),(9,0),(10,0),(11,1),(12,0)] fun g7 g8=>?_;exact aN
        ·exact aN
       exact aN
      ·exact aN
    ·refine aAW ?_
     rcases aM hm with ⟨c5,hm⟩|⟨c5,hm⟩
     ·refine aAW ?_;refine aGG [(0,0),(1,0),(2,0),(4,0),(5,0),(6,0),(7,0),(9,0),(3,1),(8,0),(10,0),(11,1),(12,1),(13,0)] fun g9 h0=>?_
      exact aN
     ·iterate 1 refine aBh ?_
      exact gQ [1,2,3,9] (fun f w=>∃ a6,uO t b d a6=some R/\f 111=zB a6/\aF G K (own 2 K r 0 ([]:List Int)::L) w) aN aN
   exact aN
 exact aN
theorem aIp {d:(List Bool)} {R:(List Int)} (hm:aDu d=some R) (u:aF G K (L) w) (x:bI K a1 c2 d):
  Calls prog 105 ([zS a1 d.length c2]:List Value).toArray w (dL fun v w'=>∃ k l,v=zS k R.length l/\aF G K (own 2 K k l R::L) w'):=by
 refine aBM func105 ?_;unfold aDu at hm
 refine aAW ?_;refine aCp ([]:List Int) fun y z J=>?_
 refine aAW ?_;refine aS [] (fun f w=>∃ e m n,aKt e=some R/\f 3=zS m e.length n/\aF G K (own 2 K m n e::L) w) aN ?_
 obtain ⟨Z,o,ho⟩:=aB hm
 refine bN [0] o (fun g h f w=>∃ i j,f 3=zS i g.length j/\f 4=i64 h/\aF G K (own 2 K i j g::L) w) aN ?_
 ·rintro g h p f a0 hm hr ⟨i,j,a2,a3,a5⟩
  unfold aAH at hm
  refine aAW ?_
  rcases aM hm with ⟨q,hm⟩|⟨q,hm⟩
  ·refine aAW ?_;refine aS [0,4] (fun f w=>∃ a b c,aAG h a=some p/\f 3=zS b a.length c/\aF G K (own 2 K b c a::L) w) ?_ ?_
   ·rintro f a6 ⟨a,b,c,hm,r,t⟩
    unfold aAG at hm
    refine aAW ?_;exact ⟨_,(zI hm).symm,bG,b,c,r,rfl,t⟩
   exact aN
  ·exact aN
theorem aEs {a:(List aT)} {e:Int} {R:Bool} (hm:xV a e=some R) (n:aF G K (L) w) (o:bI K a1 c2 a):
  Calls prog 106 ([zS a1 a.length c2,i64 e]:List Value).toArray w (dL fun v w'=>v=zB R/\aF G K (L) w'):=by
 refine aBM func106 ?_;unfold xV at hm
 refine aAW ?_;refine aS [] (fun f w=>∃ g,aFS g=some R/\f 5=zB g/\aF G K (L) w) aN ?_
 obtain ⟨p,j,ho⟩:=aB hm
 refine bN [0,1] j (fun c b f w=>f 5=zB c/\f 6=i64 b/\aF G K (L) w) aN ?_
 ·rintro c b h f q hm hr ⟨r,t,u⟩
  unfold kD at hm
  refine aAW ?_
  rcases aM hm with ⟨k,hm⟩|⟨k,hm⟩
  ·refine aAW ?_;refine aS [0,1,6] (fun f w=>∃ d,sH b d=some h/\f 5=zB d/\aF G K (L) w) ?_ ?_
   ·rintro f x ⟨d,hm,l,m⟩
    unfold sH at hm
    refine aAW ?_;exact ⟨_,(zI hm).symm,bG,l,rfl,m⟩
   iterate 1 refine aBh ?_
   exact bD [0,1,5,6] (fun f w=>∃ i,sI a c b i=some h/\f 22=zB i/\aF G K (L) w) aN aN
  ·exact aN
theorem aMi {e:(List bB)} {R:Int} (hm:aEd e=some R) (l:aF G K (L) w) (m:bI K a1 c2 e):
  Calls prog 107 ([zS a1 e.length c2]:List Value).toArray w (dL fun v w'=>v=i64 R/\aF G K (L) w'):=by
 refine aBM func107 ?_;unfold aEd at hm
 refine aAW ?_;refine aS [] (fun f w=>∃ c,aJk c=some R/\f 3=i64 c/\aF G K (L) w) aN ?_
 obtain ⟨n,g,ho⟩:=aB hm
 refine bN [0] g (fun d a f w=>f 3=i64 d/\f 4=i64 a/\aF G K (L) w) aN ?_
 ·rintro d a h f o hm hr ⟨p,q,r⟩
  unfold oJ at hm
  refine aAW ?_
  rcases aM hm with ⟨i,hm⟩|⟨i,hm⟩
  ·refine aAW ?_;refine aS [0,4] (fun f w=>∃ b,xW a b=some h/\f 3=i64 b/\aF G K (L) w) ?_ ?_
   ·rintro f t ⟨b,hm,j,k⟩
    unfold xW at hm
    refine aAW ?_;exact ⟨_,(zI hm).symm,bG,j,rfl,k⟩
   exact aN
  ·exact aN
end Gv
namespace Gv
open Gv.Hp renaming le_refl→zR
open Go.Value renaming slice→zS,bool→zB
open Option.some renaming inj→zI
open Gv.Hp renaming le_trans→zL
open Go Go.Proofs Go.Proofs.Tryz
set_option maxRecDepth 20000
set_option maxHeartbeats 40000000
variable {G:rT} {K:Hp} {L:List fM} {w:World} {a1 a4 a7 a10:Option Addr} {c2 c8 c11 c5:Nat}
theorem aIq {u:(List aT)} {t:cN} {l:Nat} {R:((List bB) × (List Int) × Bool)} (hm:aDv u t=some R) (hs:aF G K (L) w) (h3:bI K a1 c2 u) (d:dR K a4 l (zC t a7 c8 a10 c11)) (h9:bI K a7 c8 t.L) (i9:bI K a10 c11 t.E):
  Calls prog 61 ([zS a1 u.length c2,cE a4 l]:List Value).toArray w (dL fun v w'=>∃ K' j0 j1 j2 j3,v=Value.tuple #[zS j0 R.1.length j1,zS j2 R.2.1.length j3,zB R.2.2]/\Hp.le K K'/\aF G K' (own 102 K' j0 j1 R.1::own 2 K j2 j3 R.2.1::L) w'):=by
 refine aP func61 rfl (by kernel_rfl) (by show (2:Nat)<=173;decide) ?_;unfold aDv at hm
 refine aL (aH (v:=zS none 0 0) (aH (v:=zS none 0 0) (aH (v:=zB false) (aI (aL (aG (v:=zS a1 u.length c2) (aD (bC (len:=u.length) gS rfl) (aG (v:=cE a4 l) (aD (fI rfl d) (aD (cV (k':=l+0) pM rfl d rfl) (aD (bE (t:=0) dJ hs d rfl rfl) (aD (aJf rfl rfl) ?_))))))))))));obtain ⟨a,n0,hm⟩:=aB hm
 refine aBb (e:=(false:Bool)) cQ aEy rfl rfl hs rfl rfl rfl n0 rfl (fun c n1 (f7:aF G K (own 4 K c a.length a::L) n1)=>(aH (v:=zS c a.length a.length) (aI (aL (aG (v:=zS c a.length a.length) (aG (v:=cE a4 l) (aD (fI rfl d) (aD (cV (k':=l+1) aEG rfl d rfl) (aD (bE (t:=1) dJ f7 d rfl rfl) ?_)))))))));obtain ⟨x1,f8,hm⟩:=aB hm
 have f9:=bM f7 (i:=0) rfl f8
 refine aD (cB cQ rfl f9 rfl rfl rfl f8) ?_;obtain ⟨j4,j5,hm⟩:=aB hm
 refine eC (i:=0) (t:=0) (ns:=[zB true]) (e':=(true:Bool)) sizeOf4 f7 rfl (zR _) rfl rfl rfl f8 j5 rfl rfl (eB rfl) rfl (fun cs h=>by cases h;rfl) (fun n2 (j6:aF G K (own 4 K c a.length j4::L) n2)=>(aI (aL (aG (v:=cE a4 l) (aD (fI rfl d) (aD (cV (k':=l+1) aEG rfl d rfl) (aD (bE (t:=1) dJ j6 d rfl rfl) (bO (Kt:=K) (xs:=([t.I]:List Int)) (cs:=[i64 t.I]) (vs:=[(0,i64 t.I)]) bF jV rfl rfl j6 rfl (by kernel_rfl) rfl rfl rfl ⟨rfl,trivial⟩ (fun g0 n3 (n4:aF G K (own 2 K g0 1 ([t.I]:List Int)::own 4 K c a.length j4::L) n3)=>(aH (v:=zS g0 ([t.I]:List Int).length 1) (aI (aK (aL (aH (v:=i64 0) (aI (aS [0,1] (fun f w=>∃ b4,aCZ u t b4=some R/\f 7=zS c b4.length a.length/\aF G K (own 4 K c a.length b4::L) w) ?_ ?_))))))))))))))))
 ·rintro f x2 ⟨b4,hm,n5,n6⟩
  unfold aCZ at hm
  refine aC (aL (bA n5 ?_));obtain ⟨x3,x4,n7,n8,n9⟩:=aF.lendSp n6 (zR _) .head
  obtain ⟨b,o0,hm⟩:=aB hm
  refine aQ (vs:=[zS c b4.length a.length]) call105 rfl (aIp o0 n8 n7) ?_
  rintro _ x5 ⟨g,j,rfl,o1⟩
  have j7:=n9 _ _ o1
  refine aH (v:=zS g b.length j) (aI (aK (aL (aG (v:=zS g b.length j) (aD (bC (len:=b.length) bF rfl) (aD (zU rfl rfl) (aI ?_)))))))
  rcases aM hm with ⟨g1,hm⟩|⟨g1,hm⟩
  ·refine aR g1 rfl (aL (aH (v:=zS none 0 0) (aH (v:=zS none 0 0) (aH (v:=zB false) (aI ?_)))))
   have o2:=aF.nil (α:=bB) j7 102 K
   have o3:=aF.nil (α:=Int) o2 2 K
   obtain rfl:=zI hm
   exact nD (kJ (aPj results61 rfl rfl rfl ⟨K,none,0,none,0,rfl,(zR _),(aF.arr 4 [1,0] o3 rfl)⟩))
  ·refine aX g1 rfl (aW (aC (aL (bO (Kt:=K) (xs:=([]:List bB)) (cs:=[]) (vs:=[]) aCA aKZ rfl rfl j7 rfl (by kernel_rfl) rfl rfl rfl trivial (fun g2 o5 (o6:aF G K (own 102 K g2 0 ([]:List bB)::own 4 K c a.length b4::own 2 K g j b::L) o5)=>(aH (v:=zS g2 ([]:List bB).length 0) (aI (aK (aL (aH (v:=i64 0) (aI (aS [12] (fun f w=>∃ g3 g4 j8 j9,Hp.le K g3/\aGz b g4=some R/\f 13=zS j8 g4.length j9/\aF G g3 (own 102 g3 j8 j9 g4::own 2 K g j b::L) w) aN ?_))))))))))))
   obtain ⟨x6,o7,ho⟩:=aB hm
   refine bN [0,1,12] o7 (fun p b5 f w=>∃ m x y,Hp.le K m/\f 13=zS x p.length y/\f 14=i64 b5/\aF G m (own 102 m x y p::own 2 K g j b::L) w) ?_ ?_
   ·exact ⟨K,g2,0,(zR _),rfl,rfl,(aF.arr 2 [0] o6 rfl)⟩
   ·rintro p b5 g5 f x7 hm hr ⟨m,x,y,k,o8,d1,q⟩
    unfold qW at hm
    refine aK (aL (bA d1 (aG (v:=zS g b.length j) (aD (bC (len:=b.length) bF rfl) (aD (cH rfl rfl) (aI ?_))))))
    rcases aM hm with ⟨k0,hm⟩|⟨k0,hm⟩
    ·refine aR k0 rfl (aW (aC (aK (aS [0,1,12,14] (fun f w=>∃ b9 d2 d3 d4,Hp.le m b9/\aCX b5 d2=some g5/\f 13=zS d3 d2.length d4/\aF G b9 (own 102 b9 d3 d4 d2::own 2 K g j b::L) w) ?_ ?_))))
     ·rintro f x8 ⟨b9,d2,d3,d4,o9,hm,p0,p1⟩
      unfold aCX at hm
      exact aC (aU (bA d1 (aD (cJ rfl rfl) (aH (v:=i64 (wr (b5+1))) (aI ⟨_,(zI hm).symm,bG,b9,d3,d4,(zL k o9),p0,rfl,p1⟩)))))
     refine aK (nE (C:=fun w'=>aF G m (own 102 m x y p::own 2 K g j b::L) w') Tryz_mixed (by kernel_rfl) (aF.mono q (eF.drew _)) (cW (fun _ q=>aV (v:=zS g b.length j) rfl) (cW (fun _ q=>aV d1) ?_)));obtain ⟨x9,c0,hm⟩:=aB hm
     have k1:=bM q (i:=1) rfl c0
     refine cW (fun _ q=>cB bF rfl k1 rfl rfl rfl c0) (cW (fun _ q=>lH (t:=0) dJ q (i:=1) rfl c0 rfl rfl rfl) (cW (fun _ q=>aV (v:=cE a4 l) rfl) (cW (fun _ q=>fI rfl (d.mono k)) (cW (fun _ q=>cV (k':=l+0) pM rfl (d.mono k) rfl) (cW (fun _ q=>bE (t:=0) dJ q (d.mono k) rfl rfl) ?_)))));obtain ⟨b0,p2,hm⟩:=aB hm
     refine cW (fun _ q=>aLz rfl rfl p2) (cW (fun _ q=>cY (v:=i64 b0) rfl) (aAm (fun y0 p3=>(aC (aK ?_)))));obtain ⟨p4,b1,p5,k2,p6⟩:=aF.lendSp p3 k zt1
     refine cI (C:=fun w'=>∃ L',aF G p4 L' w') [(0,0),(1,0),(2,0),(3,0),(4,0),(5,0),(6,0),(7,0),(8,0),(9,0),(10,0),(11,0),(12,1),(13,0)] Tryz_mixed (by kernel_rfl) (fun _ hg=>⟨_,aF.mono k2 hg⟩) (fun y1 p7=>?_)
     have c1:=aF.mono k2 p7
     refine aZ rfl (fun _ _=>aV (v:=zS a1 u.length c2) rfl) (aZ rfl (fun _ _=>aV (v:=cE a4 l) rfl) (aZ rfl (fun _ _=>aV (v:=i64 b0) rfl) (aZ rfl (fun _ _=>aV (v:=zS g b.length j) rfl) (aZ rfl (fun _ _=>aV d1) (aZ rfl (fun _ _=>cB bF rfl k1 rfl rfl rfl c0) ?_)))));obtain ⟨y2,p8,p9⟩:=bI.el (sz:=1) rfl p5 c0
     cases p9
     refine aZ rfl (fun _ ⟨_,c1⟩=>bE (t:=0) dJ c1 p8 rfl rfl) (aZ rfl (fun _ _=>aV (v:=cE a4 l) rfl) (aZ rfl (fun _ _=>fI rfl (d.mono (zL k b1))) (aZ rfl (fun _ _=>cV (k':=l+0) pM rfl (d.mono (zL k b1)) rfl) (aZ rfl (fun _ ⟨_,c1⟩=>bE (t:=0) dJ c1 (d.mono (zL k b1)) rfl rfl) ?_))));obtain ⟨q0,q1,hm⟩:=aB hm
     refine aZ rfl (fun _ _=>aME rfl rfl q1) (fR rfl ?_);obtain ⟨a8,q2,hm⟩:=aB hm
     refine aQ (vs:=[zS a1 u.length c2,cE a4 l,i64 b0,i64 q0]) call104 rfl (aCu q2 c1 (h3.mono (zL k b1)) (d.mono (zL k b1)) (h9.mono (zL k b1)) (i9.mono (zL k b1))) ?_
     rintro _ y3 ⟨b6,b7,rfl,k3⟩
     refine aY (aC ⟨⟨_,k3⟩,?_⟩)
     refine aZ rfl (fun _ _=>cY (v:=zS b6 a8.length b7) rfl) (lV ?_)
     have q3:=p6 _ _ k3
     refine aC (aL (aG (v:=zS a1 u.length c2) (aG (v:=i64 b0) ?_)));obtain ⟨o,q4,hm⟩:=aB hm
     refine aQ (vs:=[zS a1 u.length c2,i64 b0]) call106 rfl (aEs q4 q3 (h3.mono k)) ?_
     rintro _ y4 ⟨rfl,q5⟩
     refine aD (cO (vs:=[(0,zB o)]) (cs:=[zB o,zB false,zS none 0 0]) bs_102 rfl (by kernel_rfl)) (cF (vs:=[zB false,zB false,zS none 0 0]) zeroValue102 q5 rfl (fun b2 y5 q6=>(dP (i:=0) (ns:=[zB o,zB false,zS none 0 0]) (us:=[zB o,zB false,zS none 0 0]) sizeOf102 q6 rfl rfl rfl rfl rfl (eB rfl) rfl rfl (fun q7 (q8:aF G m (box b2 102 [zB o,zB false,zS none 0 0]::own 2 K g j b::own 2 K b6 b7 a8::own 102 m x y p::L) q7)=>(aI (aL (aG (v:=zS a1 u.length c2) (aG (v:=i64 b0) ?_))))))))
     obtain ⟨q9,k4,hm⟩:=aB hm
     refine aD (cU gS rfl (h3.mono k) rfl rfl rfl k4) ?_;obtain ⟨y6,k6,r0⟩:=bI.el (sz:=4) rfl h3 k4
     cases r0
     refine aD (cV (k':=b0.toNat * 4+0) yD rfl (k6.mono k) rfl) (aD (bE (t:=0) dJ q8 (k6.mono k) rfl rfl) (aH (v:=i64 q9.Kind) (aI (aK (bD [0,1,12,13,14,16,17] (fun f w=>∃ r,tL b p b5 a8 o r=some g5/\aF G m (box b2 102 [zB o,zB r,zS none 0 0]::own 2 K g j b::own 2 K b6 b7 a8::own 102 m x y p::L) w) ?_ ?_)))))
     ·rintro f y7 ⟨r,hm,r1⟩
      unfold tL at hm
      refine aC (aK (aL (aH (v:=i64 0) (aI (aS [0,1,12,13,14,17] (fun f w=>∃ z Z a0,aCY p b5 o r z=some g5/\aF G m (own 2 K Z a0 z::box b2 102 [zB o,zB r,zS Z z.length a0]::own 2 K g j b::own 102 m x y p::L) w) ?_ ?_)))))
      ·rintro f r2 ⟨z,Z,a0,hm,k7⟩
       unfold aCY at hm
       refine aC (aU (bA o8 (aD (nK (us:=[zB o,zB r,zS Z z.length a0]) aPy k7 (i:=1) rfl rfl rfl rfl) ?_)));obtain ⟨a9,k8,r3,g6⟩:=aF.giveSp k7 k .head
       replace g6:aF G a9 (box b2 102 [zB o,zB r,zS Z z.length a0]::own 2 K g j b::own 102 m x y p::L) r2:=g6
       refine bO (Kt:=a9) (xs:=([⟨o,r,z⟩]:List bB)) (cs:=[zB o,zB r,zS Z z.length a0]) (vs:=[(0,Value.agg #[zB o,zB r,zS Z z.length a0])]) aCA aKZ rfl rfl g6 rfl (by kernel_rfl) rfl rfl rfl ⟨⟨Z,a0,rfl,r3⟩,trivial⟩ (fun r4 r5 (r6:aF G a9 (own 102 a9 r4 1 ([⟨o,r,z⟩]:List bB)::box b2 102 [zB o,zB r,zS Z z.length a0]::own 2 K g j b::own 102 m x y p::L) r5)=>?_);obtain ⟨g7,r7,hm⟩:=aB hm
       exact aEC (i:=2) a9 aCA underlying91 aKZ rfl rfl r6 rfl k8 (zR _) r7 rfl rfl rfl rfl (fun _ _ _ h=>El.one h) (fun g8 g9 r8 (r9:aF G a9 (box b2 102 [zB o,zB r,zS Z z.length a0]::own 2 K g j b::own 102 a9 g8 g9 g7::L) r8)=>(aH (v:=zS g8 g7.length g9) (aY (bW (aC ⟨bG,a9,g7,g8,g9,k8,hm,rfl,(aF.arr 3 [2,1] r9 rfl)⟩)))))
      have y8:=aF.nil (α:=Int) r1 2 K
      obtain ⟨y9,s0,ho⟩:=aB hm
      refine bN [0,1,12,13,14,16,17] s0 (fun d5 k9 f w=>∃ d6 d7,f 19=i64 k9/\aF G m (own 2 K d6 d7 d5::box b2 102 [zB o,zB r,zS d6 d5.length d7]::own 2 K g j b::own 2 K b6 b7 a8::own 102 m x y p::L) w) aN ?_
      ·rintro d5 k9 z0 f z1 hm hr ⟨d6,d7,l0,s1⟩
       unfold tK at hm
       refine aK (aL (bA l0 (aG (v:=zS b6 a8.length b7) (aD (bC (len:=a8.length) bF rfl) (aD (cH rfl rfl) (aI ?_))))))
       rcases aM hm with ⟨l1,hm⟩|⟨l1,hm⟩
       ·refine aR l1 rfl (aW (aC (aK (bZ ?_))));obtain ⟨z2,d8,s2,s3,s4⟩:=aF.lendBp s1 zt1
        obtain ⟨h0,d9,l2,l3,s5⟩:=aF.lendSp s3 (zL k d8) zt2
        refine cI (C:=fun w'=>∃ L',aF G h0 L' w') [(0,0),(1,0),(2,0),(3,0),(4,0),(5,0),(6,0),(7,1),(8,1),(9,1),(10,0),(11,2)] Tryz_mixed (by kernel_rfl) (fun _ hg=>⟨_,aF.mono l3 hg⟩) (fun z3 s6=>?_)
        have c3:=aF.mono l3 s6
        refine aZ rfl (fun _ _=>bU (t':=2) aFH rfl rfl) (aZ rfl (fun _ ⟨_,c3⟩=>bE (t:=2) oZ c3 (s2.mono d9) rfl rfl) (aZ rfl (fun _ _=>aV (v:=zS g b.length j) rfl) (aZ rfl (fun _ _=>aV (v:=zS b6 a8.length b7) rfl) (aZ rfl (fun _ _=>aV l0) ?_))));obtain ⟨s7,h1,hm⟩:=aB hm
        have s8:=wF l2 h1
        refine aZ rfl (fun _ _=>cB bF rfl s8 rfl rfl rfl h1) ?_;obtain ⟨z4,s9,t0⟩:=bI.el (sz:=1) rfl l2 h1
        cases t0
        refine aZ rfl (fun _ ⟨_,c3⟩=>bE (t:=0) dJ c3 s9 rfl rfl) (fR rfl ?_);obtain ⟨z5,z6,t1,t2,t3⟩:=aF.lendSp c3 (zL (zL k d8) d9) zt1
        obtain ⟨e0,t4,hm⟩:=aB hm
        refine aQ (vs:=[zS g b.length j,i64 s7]) call63 rfl (aHi t4 t2 t1) ?_
        rintro _ z7 ⟨rfl,t5⟩
        have l4:=t3 _ _ t5
        refine aY (aC ⟨⟨_,l4⟩,?_⟩)
        refine fR rfl (bO (Kt:=K) (xs:=([e0]:List Int)) (cs:=[i64 e0]) (vs:=[(0,i64 e0)]) bF jV rfl rfl l4 rfl (by kernel_rfl) rfl rfl rfl ⟨rfl,trivial⟩ (fun t6 t7 (l5:aF G h0 (own 2 K t6 1 ([e0]:List Int)::own 2 K g j b::own 2 K d6 d7 d5::own 102 m x y p::L) t7)=>(aY (aC ⟨⟨_,l5⟩,?_⟩))))
        refine fR rfl ?_;obtain ⟨t8,t9,hm⟩:=aB hm
        refine iR (i:=1) bF underlying88 jV rfl rfl l5 rfl (zL (zL k d8) d9) (zL (zL k d8) d9) t9 rfl rfl rfl rfl (fun _ h=>h) (fun u0 u1 u2 (l6:aF G h0 (own 2 K g j b::own 2 K u0 u1 t8::own 102 m x y p::L) u2)=>(aY (aC ⟨⟨_,l6⟩,?_⟩)))
        refine aZ rfl (fun _ _=>bU (t':=2) aFH rfl rfl) ?_
        have u3:=s5 _ _ l6
        have z8:=s4 _ _ u3
        exact aN
       ·exact aN
     exact aN
    ·exact aN
 obtain ⟨z9,u4,ho⟩:=aB hm
 refine lR [0,1] u4 (fun h2 e1 c4 f w=>∃ h4 h5,f 7=zS c h2.length a.length/\f 8=zS h4 e1.length h5/\f 9=i64 c4/\aF G K (own 2 K h4 h5 e1::own 4 K c a.length h2::L) w) ?_ ?_
 ·exact ⟨g0,1,(Eq.trans rfl (congrArg (fun n=>zS c n a.length) (dH j5))),rfl,rfl,n4⟩
 ·rintro h2 e1 c4 l7 f a00 hm hr ⟨h4,h5,a01,h7,e2,u5⟩
  unfold oK at hm
  refine aK (aL (bA e2 (bA h7 (aD (bC (len:=e1.length) bF rfl) (aD (cH rfl rfl) (aI ?_))))))
  rcases aM hm with ⟨l8,hm⟩|⟨l8,hm⟩
  ·refine aR l8 rfl (aW (aC (aK (aS [0,1,9] (fun f w=>∃ e3 e4 e5 e6,aDa c4 e3 e4=some l7/\f 7=zS c e3.length a.length/\f 8=zS e5 e4.length e6/\aF G K (own 2 K e5 e6 e4::own 4 K c a.length e3::L) w) ?_ ?_))))
   ·rintro f a02 ⟨e3,e4,e5,e6,hm,u6,u7,u8⟩
    unfold aDa at hm
    exact aC (aU (bA e2 (aD (cJ rfl rfl) (aH (v:=i64 (wr (c4+1))) (aI ⟨_,(zI hm).symm,bG,e5,e6,u6,u7,rfl,u8⟩)))))
   refine aK ?_;obtain ⟨u9,a2,l9,m0,v0⟩:=aF.lendSp u5 (zR _) .head
   refine cI (C:=fun w'=>∃ L',aF G u9 L' w') [(0,0),(1,0),(2,0),(3,0),(4,0),(5,0),(6,0),(7,0),(8,0),(9,0),(10,0),(11,0),(12,0),(13,0),(14,0),(15,0),(16,0),(17,0),(18,0),(19,0),(20,1),(21,0)] Tryz_mixed (by kernel_rfl) (fun _ hg=>⟨_,aF.mono m0 hg⟩) (fun a03 v1=>?_)
   have a6:=aF.mono m0 v1
   refine aZ rfl (fun _ _=>aV (v:=zS a1 u.length c2) rfl) (aZ rfl (fun _ _=>aV (v:=cE a4 l) rfl) (aZ rfl (fun _ _=>aV h7) (aZ rfl (fun _ _=>aV e2) ?_)));obtain ⟨a04,e7,hm⟩:=aB hm
   have m1:=wF l9 e7
   refine aZ rfl (fun _ _=>cB bF rfl m1 rfl rfl rfl e7) ?_;obtain ⟨a05,m2,v2⟩:=bI.el (sz:=1) rfl l9 e7
   cases v2
   refine aZ rfl (fun _ ⟨_,a6⟩=>bE (t:=0) dJ a6 m2 rfl rfl) (aZ rfl (fun _ _=>aV (v:=cE a4 l) rfl) (aZ rfl (fun _ _=>fI rfl (d.mono a2)) (aZ rfl (fun _ _=>cV (k':=l+0) pM rfl (d.mono a2) rfl) (aZ rfl (fun _ ⟨_,a6⟩=>bE (t:=0) dJ a6 (d.mono a2) rfl rfl) ?_))));obtain ⟨v3,v4,hm⟩:=aB hm
   refine aZ rfl (fun _ _=>aLz rfl rfl v4) (aZ rfl (fun _ _=>aV h7) (aZ rfl (fun _ _=>aV e2) (aZ rfl (fun _ _=>cB bF rfl m1 rfl rfl rfl e7) (aZ rfl (fun _ ⟨_,a6⟩=>bE (t:=0) dJ a6 m2 rfl rfl) (aZ rfl (fun _ _=>aV (v:=cE a4 l) rfl) (aZ rfl (fun _ _=>fI rfl (d.mono a2)) (aZ rfl (fun _ _=>cV (k':=l+0) pM rfl (d.mono a2) rfl) (aZ rfl (fun _ ⟨_,a6⟩=>bE (t:=0) dJ a6 (d.mono a2) rfl rfl) ?_))))))));obtain ⟨v5,v6,hm⟩:=aB hm
   refine aZ rfl (fun _ _=>aME rfl rfl v6) (fR rfl ?_);obtain ⟨J,v7,hm⟩:=aB hm
   refine aQ (vs:=[zS a1 u.length c2,cE a4 l,i64 v3,i64 v5]) call104 rfl (aCu v7 a6 (h3.mono a2) (d.mono a2) (h9.mono a2) (i9.mono a2)) ?_
   rintro _ a06 ⟨a3,a5,rfl,m3⟩
   refine aY (aC ⟨⟨_,m3⟩,?_⟩)
   refine aZ rfl (fun _ _=>cY (v:=zS a3 J.length a5) rfl) (lV ?_)
   have a07:=v0 _ _ m3
   refine aC (aL (aH (v:=i64 0) (aI (aS [0,1,9] (fun f w=>∃ h8 i0 m4 m5,aGA c4 h8 i0=some l7/\f 7=zS c h8.length a.length/\f 8=zS m4 i0.length m5/\aF G K (own 2 K m4 m5 i0::own 4 K c a.length h8::L) w) aN ?_))));obtain ⟨a08,v8,ho⟩:=aB hm
   refine lR [0,1,9,10] v8 (fun i1 c5 e8 f w=>∃ c6 c7,f 7=zS c i1.length a.length/\f 8=zS c6 c5.length c7/\f 11=i64 e8/\aF G K (own 2 K c6 c7 c5::own 2 K a3 a5 J::own 4 K c a.length i1::L) w) aN ?_
   ·rintro i1 c5 e8 v9 f a09 hm hr ⟨c6,c7,i2,w0,c9,d0⟩
    unfold mK at hm
    refine aK (aL (bA c9 (aG (v:=zS a3 J.length a5) (aD (bC (len:=J.length) bF rfl) (aD (cH rfl rfl) (aI ?_))))))
    rcases aM hm with ⟨m6,hm⟩|⟨m6,hm⟩
    ·refine aR m6 rfl (aW (aC (aK (aS [0,1,9,10,11] (fun f w=>∃ e9 f0 f1 f2,uP e8 e9 f0=some v9/\f 7=zS c e9.length a.length/\f 8=zS f1 f0.length f2/\aF G K (own 2 K f1 f2 f0::own 2 K a3 a5 J::own 4 K c a.length e9::L) w) ?_ ?_))))
     ·rintro f a11 ⟨e9,f0,f1,f2,hm,w1,w2,w3⟩
      unfold uP at hm
      exact aC (aU (bA c9 (aD (cJ rfl rfl) (aH (v:=i64 (wr (e8+1))) (aI ⟨_,(zI hm).symm,bG,f1,f2,w1,w2,rfl,w3⟩)))))
     refine aL (bA i2 (aG (v:=zS a3 J.length a5) (bA c9 ?_)));obtain ⟨f3,b3,hm⟩:=aB hm
     have i3:=bM d0 (i:=1) rfl b3
     refine aD (cB bF rfl i3 rfl rfl rfl b3) (aD (lH (t:=0) dJ d0 (i:=1) rfl b3 rfl rfl rfl) ?_);obtain ⟨a12,f4,hm⟩:=aB hm
     refine aD (cB cQ rfl f9 rfl rfl rfl f4) (aD (lH (t:=0) wX d0 (i:=2) rfl f4 rfl rfl rfl) (aD (vC rfl) (aI ?_)))
     rcases aM hm with ⟨m7,hm⟩|⟨m7,hm⟩
     ·refine aR m7 rfl (aL (bA i2 (aG (v:=zS a3 J.length a5) (bA c9 (aD (cB bF rfl i3 rfl rfl rfl b3) (aD (lH (t:=0) dJ d0 (i:=1) rfl b3 rfl rfl rfl) (aD (cB cQ rfl f9 rfl rfl rfl f4) ?_)))))));obtain ⟨f5,m8,hm⟩:=aB hm
      refine eC (i:=2) (t:=0) (ns:=[zB true]) (e':=(true:Bool)) sizeOf4 d0 rfl (zR _) rfl rfl rfl f4 m8 rfl rfl (eB rfl) rfl (fun cs h=>by cases h;rfl) (fun w4 (m9:aF G K (own 2 K c6 c7 c5::own 2 K a3 a5 J::own 4 K c a.length f5::L) w4)=>(aI (aU (bA w0 (aG (v:=zS a3 J.length a5) (bA c9 (aD (cB bF rfl i3 rfl rfl rfl b3) (aD (lH (t:=0) dJ m9 (i:=1) rfl b3 rfl rfl rfl) (bO (Kt:=K) (xs:=([f3]:List Int)) (cs:=[i64 f3]) (vs:=[(0,i64 f3)]) bF jV rfl rfl m9 rfl (by kernel_rfl) rfl rfl rfl ⟨rfl,trivial⟩ (fun w5 w6 (w7:aF G K (own 2 K w5 1 ([f3]:List Int)::own 2 K c6 c7 c5::own 2 K a3 a5 J::own 4 K c a.length f5::L) w6)=>?_))))))))))
      obtain ⟨i4,w8,hm⟩:=aB hm
      exact iR (i:=0) bF underlying88 jV rfl rfl w7 rfl (zR _) (zR _) w8 rfl rfl rfl rfl (fun _ h=>h) (fun i5 i6 w9 (x0:aF G K (own 2 K i5 i6 i4::own 2 K a3 a5 J::own 4 K c a.length f5::L) w9)=>(aH (v:=zS i5 i4.length i6) (aY (bW (aC ⟨bG,f5,i4,i5,i6,hm,(Eq.trans i2 (congrArg (fun n=>zS c n a.length) (dH m8))),rfl,x0⟩)))))
     ·exact aN
    ·exact aN
  ·exact aN
theorem aGd {e:(List bB)} {R:(List Int)} (hm:aHX e=some R) (u:aF G K (L) w) (x:bI K a1 c2 e):
  Calls prog 108 ([zS a1 e.length c2]:List Value).toArray w (dL fun v w'=>∃ h j,v=zS h R.length j/\aF G K (own 2 K h j R::L) w'):=by
 refine aBM func108 ?_;unfold aHX at hm
 refine aAW ?_;refine aCp ([0]:List Int) fun y z J=>?_
 refine aAW ?_;refine aS [] (fun f w=>∃ d k l,aHV d=some R/\f 3=zS k d.length l/\aF G K (own 2 K k l d::L) w) aN ?_
 obtain ⟨Z,o,ho⟩:=aB hm
 refine bN [0] o (fun a g f w=>∃ b c,f 3=zS b a.length c/\f 4=i64 g/\aF G K (own 2 K b c a::L) w) aN ?_
 ·rintro a g p f a0 hm hr ⟨b,c,a2,a3,q⟩
  unfold aHW at hm
  refine aAW ?_
  rcases aM hm with ⟨r,hm⟩|⟨r,hm⟩
  ·refine aAW ?_;refine bZ (aAW ?_)
   obtain ⟨a5,m,hm⟩:=aB hm
   have t:=bM q (i:=0) rfl m
   refine aD (cB bF rfl t rfl rfl rfl m) ?_
   iterate 4 refine aBh ?_
   exact gQ [0,3,4] (fun f w=>∃ n,aEe a g n=some p/\f 5=i64 n/\aF G K (own 2 K b c a::L) w) aN aN
  ·exact aN
theorem aNm {e:(List bB)} {R:(List aO)} (hm:aOF e=some R) (hs:aF G K (L) w) (h3:bI K a1 c2 e):
  Calls prog 62 ([zS a1 e.length c2]:List Value).toArray w (dL fun v w'=>∃ J a8 a9,v=zS a8 R.length a9/\Hp.le K J/\aF G J (own 123 J a8 a9 R::L) w'):=by
 refine aBM func62 ?_;unfold aOF at hm
 refine aAW ?_;obtain ⟨m,q5,hm⟩:=aB hm
 refine aAZ call108 (aGd q5 hs h3) ?_
 rintro _ w8 ⟨n,o,rfl,d3⟩
 refine aAW ?_;refine bO (Kt:=K) (xs:=([]:List aO)) (cs:=[]) (vs:=[]) eL aBk rfl rfl d3 rfl (by kernel_rfl) rfl rfl rfl trivial (fun d4 d5 (f8:aF G K (own 123 K d4 0 ([]:List aO)::own 2 K n o m::L) d5)=>(aAW ?_))
 refine aS [] (fun f w=>∃ Z a0 b0 b1,Hp.le K Z/\aKu a0=some R/\f 4=zS b0 a0.length b1/\aF G Z (own 123 Z b0 b1 a0::L) w) aN ?_;obtain ⟨f9,d6,ho⟩:=aB hm
 refine bN [0,3] d6 (fun k u f w=>∃ d p q,Hp.le K d/\f 4=zS p k.length q/\f 5=i64 u/\aF G d (own 123 d p q k::own 2 K n o m::L) w) aN ?_
 ·rintro k u a2 f g0 hm hr ⟨d,p,q,x,g1,g2,d7⟩
  unfold aKv at hm
  refine aAW ?_
  rcases aM hm with ⟨d8,hm⟩|⟨d8,hm⟩
  ·refine aAW ?_;refine bZ (aAW ?_)
   refine bD [0,3,4,5] (fun f w=>∃ y a r b c,aGB e k u y a=some a2/\f 6=Value.pointer (some ⟨r,0,none⟩)/\aF G d (own 2 K b c a::box r 123 [i64 0,i64 y,zS b a.length c]::own 123 d p q k::own 2 K n o m::L) w) ?_ ?_
   ·rintro f g3 ⟨y,a,r,b,c,hm,g4,g5⟩
    unfold aGB at hm
    iterate 1 refine aBh ?_
    refine gQ [0,3,4,5,6] (fun f w=>∃ g,aDc e k u y a g=some a2/\aF G d (own 2 K b c a::box r 123 [i64 g,i64 y,zS b a.length c]::own 123 d p q k::own 2 K n o m::L) w) ?_ ?_
    ·rintro f g6 ⟨g,hm,g7⟩
     unfold aDc at hm
     refine gQ [0,3,4,5,6] (fun f w=>∃ l,aDb k u a g l=some a2/\aF G d (own 2 K b c a::box r 123 [i64 g,i64 l,zS b a.length c]::own 123 d p q k::own 2 K n o m::L) w) ?_ ?_
     ·rintro f d9 ⟨l,hm,e0⟩
      unfold aDb at hm
      refine aAW ?_;obtain ⟨t,b2,e1,a3⟩:=aF.giveSp e0 x .head
      replace a3:aF G t (box r 123 [i64 g,i64 l,zS b a.length c]::own 123 d p q k::own 2 K n o m::L) d9:=a3
      refine bO (Kt:=t) (xs:=([⟨g,l,a⟩]:List aO)) (cs:=[i64 g,i64 l,zS b a.length c]) (vs:=[(0,Value.agg #[i64 g,i64 l,zS b a.length c])]) eL aBk rfl rfl a3 rfl (by kernel_rfl) rfl rfl rfl ⟨⟨b,c,rfl,e1⟩,trivial⟩ (fun e2 e3 (e4:aF G t (own 123 t e2 1 ([⟨g,l,a⟩]:List aO)::box r 123 [i64 g,i64 l,zS b a.length c]::own 123 d p q k::own 2 K n o m::L) e3)=>?_);obtain ⟨e5,e6,hm⟩:=aB hm
      refine aEC (i:=1) t eL underlying94 aBk rfl rfl e4 rfl b2 (zR _) e6 rfl rfl rfl rfl (fun _ _ _ h=>El.one h) (fun b3 b4 e7 (g8:aF G t (box r 123 [i64 g,i64 l,zS b a.length c]::own 123 t b3 b4 e5::own 2 K n o m::L) e7)=>(aAW ?_));exact ⟨_,(zI hm).symm,bG,t,b3,b4,(zL x b2),rfl,rfl,aCN⟩
     exact aN
    exact aN
   obtain ⟨e8,b5,b6,e9,b7⟩:=aF.lendSp d7 x zt1
   refine aBj (C:=fun w'=>∃ L',aF G e8 L' w') [12] Tryz_mixed (by kernel_rfl) (fun g9 f0=>?_)
   have b8:=aF.mono e9 f0
   refine aDz 0 ?_;refine aDz 1 ?_
   obtain ⟨z,a4,hm⟩:=aB hm
   have f1:=wF b6 a4
   refine iY (i:=2) rfl (by kernel_rfl) ⟨_,b8⟩ (fun _ _=>cB bF rfl f1 rfl rfl rfl a4) ?_;obtain ⟨h0,h1,f2⟩:=bI.el (sz:=1) rfl b6 a4
   cases f2
   refine aDz 3 ?_;refine aDz 4 ?_
   refine aDz 5 ?_;obtain ⟨h2,f3,hm⟩:=aB hm
   refine aDz 6 ?_;obtain ⟨h4,h5,f4⟩:=bI.el (sz:=3) rfl h3 f3
   obtain ⟨h6,h7,rfl,b9⟩:=f4
   refine aDz 7 ?_;refine aDz 8 ?_
   refine aED (i:=9) (j:=11) (by kernel_rfl) rfl rfl ?_ ?_
   ·obtain ⟨c0,f5,hm⟩:=aB hm
    refine aAZ call109 (mL f5 b8 (b9.mono (zL x b5))) ?_
    rintro _ h8 ⟨c1,c3,rfl,c4⟩
    refine aY (aC ⟨fun _=>⟨_,c4⟩,?_⟩)
    refine iY (i:=10) rfl (by kernel_rfl) ⟨_,c4⟩ (fun _ _=>cO (vs:=[(1,i64 z),(2,zS c1 c0.length c3)]) (cs:=[i64 0,i64 z,zS c1 c0.length c3]) aKX rfl (by kernel_rfl)) (fK (i:=11) (by kernel_rfl) rfl (aEx fun h9 i0 c5=>?_));refine aY (aC ⟨fun _=>⟨_,c5⟩,?_⟩)
    refine fK (i:=12) (by kernel_rfl) rfl ?_
    have i1:=b7 _ _ c5
    refine aFy fun i2 i3=>?_;refine aY (aC ⟨no_c rfl,?_⟩)
    exact sX (by kernel_rfl) aN
   ·refine aEx fun i4 i5 c6=>?_;refine aY (aC ⟨fun _=>⟨_,c6⟩,?_⟩)
    refine fK (i:=9) (by kernel_rfl) rfl ?_;obtain ⟨c8,f6,hm⟩:=aB hm
    refine aAZ call109 (mL f6 c6 (b9.mono (zL x b5))) ?_
    rintro _ i6 ⟨c9,d0,rfl,a5⟩
    refine aY (aC ⟨fun _=>⟨_,a5⟩,?_⟩)
    refine iY (i:=10) rfl (by kernel_rfl) ⟨_,a5⟩ (fun _ _=>cO (vs:=[(1,i64 z),(2,zS c9 c8.length d0)]) (cs:=[i64 0,i64 z,zS c9 c8.length d0]) aKX rfl (by kernel_rfl)) (fK (i:=12) (by kernel_rfl) rfl ?_)
    have i7:=b7 _ _ a5
    refine aFy fun i8 i9=>?_;refine aY (aC ⟨no_c rfl,?_⟩)
    exact sX (by kernel_rfl) aN
  ·exact aN
theorem aIr {c:(List aT)} {t:cN} {d:Nat} {R:((List bB) × (List Int) × (List aO) × Int × Bool)} (hm:aIL c t=some R) (n:aF G K (L) w) (o:bI K a1 c2 c) (p:dR K a4 d (zC t a7 c8 a10 c11)) (q:bI K a7 c8 t.L) (r:bI K a10 c11 t.E):
  Calls prog 20 ([zS a1 c.length c2,cE a4 d]:List Value).toArray w (dL fun v w'=>∃ b e g h i j k l,v=Value.tuple #[Value.pointer (if R.2.2.2.2=true then some ⟨l,0,none⟩ else none),zB R.2.2.2.2]/\Hp.le K b/\aF G b (own 102 b e g R.1::own 2 K h i R.2.1::own 123 b j k R.2.2.1::bxc R.2.2.2.2 true l 118 [zS e R.1.length g,zS h R.2.1.length i,zS j R.2.2.1.length k,i64 R.2.2.2.1]::L) w'):=by
 refine aBM func20 ?_;unfold aIL at hm
 refine aAW ?_;obtain ⟨m,u,hm⟩:=aB hm
 refine aAZ call61 (aIq u n o p q r) ?_
 rintro _ x ⟨a,y,z,J,Z,rfl,a8,a0⟩
 refine aAW ?_
 rcases aM hm with ⟨a2,hm⟩|⟨a2,hm⟩
 ·refine aAW ?_
  have a3:=aF.nil (α:=bB) a0 102 a
  have a5:=aF.nil (α:=Int) a3 2 K
  have a6:=aF.nil (α:=aO) a5 123 a
  have a9:aF G a (bxc false true 0 118 [zS none ([]:List bB).length 0,zS none ([]:List Int).length 0,zS none ([]:List aO).length 0,i64 0]::own 123 a none 0 ([]:List aO)::own 2 K none 0 ([]:List Int)::own 102 a none 0 ([]:List bB)::own 102 a y z m.1::own 2 K J Z m.2.1::L) x:=aF.bxcN (by decide:¬ (false)=true) a6
  exact aN
 ·exact aN
theorem aMj {b:Bool} {R:Int} (hm:aGC b=some R) (a:aF G K (L) w):
  Calls prog 113 ([zB b]:List Value).toArray w (dL fun v w'=>v=i64 R/\aF G K (L) w'):=by
 exact aN
theorem aHj {n:Int} {R:(List Bool)} (hm:aJC n=some R) (p:aF G K (L) w):
  Calls prog 174 ([i64 n]:List Value).toArray w (dL fun v w'=>∃ j k,v=zS j R.length k/\aF G K (own 4 K j k R::L) w'):=by
 refine aBM func174 ?_;unfold aJC at hm
 refine aAW ?_;obtain ⟨a,q,hm⟩:=aB hm
 refine aBb (e:=(false:Bool)) cQ aEy rfl rfl p rfl rfl rfl q rfl (fun b r (a1:aF G K (own 4 K b a.length a::L) r)=>(aAW ?_));refine aS [] (fun f w=>∃ c,aJl c=some R/\f 3=zS b c.length a.length/\aF G K (own 4 K b a.length c::L) w) aN ?_
 obtain ⟨a2,u,ho⟩:=aB hm
 refine bN [0] u (fun d l f w=>f 3=zS b d.length a.length/\f 4=i64 l/\aF G K (own 4 K b a.length d::L) w) aN ?_
 ·rintro d l a4 f a5 hm hr ⟨x,a6,m⟩
  unfold aJm at hm
  refine aAW ?_
  rcases aM hm with ⟨y,hm⟩|⟨y,hm⟩
  ·refine aAW ?_;refine bZ (aAW ?_)
   obtain ⟨a7,g,hm⟩:=aB hm
   have z:=bM m (i:=0) rfl g
   refine aD (cB cQ rfl z rfl rfl rfl g) ?_;obtain ⟨J,o,hm⟩:=aB hm
   refine eC (i:=0) (t:=0) (ns:=[zB true]) (e':=(true:Bool)) sizeOf4 m rfl (zR _) rfl rfl rfl g o rfl rfl (eB rfl) rfl (fun cs h=>by cases h;rfl) (fun Z (a0:aF G K (own 4 K b a.length J::L) Z)=>(aAW ?_));exact ⟨_,(zI hm).symm,bG,(Eq.trans x (congrArg (fun n=>zS b n a.length) (dH o))),rfl,a0⟩
  ·exact aN
theorem qX {g:(List aO)} {k:(List Bool)} {l:Int} {r R:(List Bool)} (hm:wS g k l r=some R) (hs:aF G K (L) w) (h3:bI K a1 c2 g) (h6:bI K a4 c5 k) (h9:bI K a7 c8 r):
  Calls prog 175 ([zS a1 g.length c2,zS a4 k.length c5,i64 l,zS a7 r.length c8]:List Value).toArray w (dL fun v w'=>∃ b3 b4,v=zS b3 R.length b4/\aF G K (own 4 K b3 b4 R::L) w'):=by
 refine aBM func175 ?_;unfold wS at hm
 refine aAW ?_;refine aCp ([]:List Bool) fun g6 g7 d0=>?_
 refine aAW ?_;obtain ⟨d1,d2,hm⟩:=aB hm
 refine aFg (i:=0) cQ underlying64 aEy rfl rfl d0 rfl (zR _) h9 d2 rfl rfl rfl rfl (fun a b d3 (g8:aF G K (own 4 K a b d1::L) d3)=>(aAW ?_));refine aS [] (fun f w=>∃ u,aGW u=some R/\f 9=zS a u.length b/\aF G K (own 4 K a b u::L) w) aN ?_
 obtain ⟨g9,d4,ho⟩:=aB hm
 refine bN [0,1,2] d4 (fun x b5 f w=>f 9=zS a x.length b/\f 10=zB b5/\aF G K (own 4 K a b x::L) w) aN ?_
 ·rintro x b5 b6 f h0 hm hr ⟨h1,h2,h4⟩
  unfold aFV at hm
  refine aAW ?_
  rcases aM hm with ⟨d5,hm⟩|⟨d5,hm⟩
  ·refine aAW ?_;refine aS [0,1,2] (fun f w=>∃ m y,aCr m y=some b6/\f 9=zS a m.length b/\f 10=zB y/\aF G K (own 4 K a b m::L) w) ?_ ?_
   ·rintro f h5 ⟨m,y,hm,d6,d7,d8⟩
    unfold aCr at hm
    refine aAW ?_;exact ⟨_,(zI hm).symm,bG,d6,d7,d8⟩
   refine aAW ?_;refine aS [0,1,2] (fun f w=>∃ z b7,aGX z b7=some b6/\f 9=zS a z.length b/\f 10=zB b7/\aF G K (own 4 K a b z::L) w) aN ?_
   obtain ⟨h7,d9,ho⟩:=aB hm
   refine lR [0,1,2] d9 (fun c e d f w=>f 9=zS a c.length b/\f 10=zB e/\f 11=i64 d/\aF G K (own 4 K a b c::L) w) aN ?_
   ·rintro c e d o f h8 hm hr ⟨e0,i0,i1,i2⟩
    unfold aFU at hm
    refine aAW ?_
    rcases aM hm with ⟨e1,hm⟩|⟨e1,hm⟩
    ·refine aAW ?_;refine aS [0,1,2,11] (fun f w=>∃ p J,tZ d p J=some o/\f 9=zS a p.length b/\f 10=zB J/\aF G K (own 4 K a b p::L) w) ?_ ?_
     ·rintro f i3 ⟨p,J,hm,e2,e3,e4⟩
      unfold tZ at hm
      refine aAW ?_;exact ⟨_,(zI hm).symm,bG,e2,e3,rfl,e4⟩
     iterate 2 refine aBh ?_
     refine bD [0,1,2,9,10,11] (fun f w=>∃ Z,wR g k l c e d Z=some o/\f 37=zB Z/\aF G K (own 4 K a b c::L) w) ?_ ?_
     ·rintro f i4 ⟨Z,hm,i5,i6⟩
      unfold wR at hm
      refine aAW ?_
      rcases aM hm with ⟨e5,hm⟩|⟨e5,hm⟩
      ·exact aN
      ·refine aAW ?_;refine aS [0,1,2,9,10,11] (fun f w=>∃ a0 a2 a3,aCs g l c e d a0 a2 a3=some o/\f 12=zB a0/\f 13=zB a2/\f 14=zB a3/\aF G K (own 4 K a b c::L) w) ?_ ?_
       ·rintro f i7 ⟨a0,a2,a3,hm,i8,i9,j0,j1⟩
        unfold aCs at hm
        iterate 2 refine aBh ?_
        refine bD [0,1,2,9,10,11] (fun f w=>∃ a5,jP c e d a5=some o/\f 98=zB a5/\aF G K (own 4 K a b c::L) w) ?_ ?_
        ·rintro f j2 ⟨a5,hm,j3,b8⟩
         unfold jP at hm
         refine aAW ?_
         rcases aM hm with ⟨e6,hm⟩|⟨e6,hm⟩
         ·refine aAW ?_;obtain ⟨j4,a6,hm⟩:=aB hm
          have e7:=bM b8 (i:=0) rfl a6
          refine aD (cB cQ rfl e7 rfl rfl rfl a6) ?_;obtain ⟨b9,c0,hm⟩:=aB hm
          refine eC (i:=0) (t:=0) (ns:=[zB true]) (e':=(true:Bool)) sizeOf4 b8 rfl (zR _) rfl rfl rfl a6 c0 rfl rfl (eB rfl) rfl (fun cs h=>by cases h;rfl) (fun e8 (e9:aF G K (own 4 K a b b9::L) e8)=>(aAW ?_));exact ⟨bG,b9,true,hm,(Eq.trans e0 (congrArg (fun n=>zS a n b) (dH c0))),rfl,e9⟩
         ·exact aN
        exact aN
       obtain ⟨j5,f0,ho⟩:=aB hm
       refine aFB [0,1,2,9,10,11] f0 (fun c1 a8 c3 j f w=>f 12=zB c1/\f 13=zB a8/\f 14=zB c3/\f 15=i64 j/\aF G K (own 4 K a b c::L) w) aN ?_
       ·rintro c1 a8 c3 j a9 f j6 hm hr ⟨j7,j8,j9,k0,k1⟩
        unfold aFT at hm
        refine aAW ?_;obtain ⟨k2,f1,hm⟩:=aB hm
        refine aAW ?_;obtain ⟨k3,k4,f2⟩:=bI.el (sz:=3) rfl h3 f1
        obtain ⟨k5,k6,rfl,f3⟩:=f2
        refine aAW ?_
        rcases aM hm with ⟨f4,hm⟩|⟨f4,hm⟩
        ·refine aAW ?_;refine aS [0,1,2,9,10,11,15] (fun f w=>∃ b0 b1 b2,yI j b0 b1 b2=some a9/\f 12=zB b0/\f 13=zB b1/\f 14=zB b2/\aF G K (own 4 K a b c::L) w) ?_ ?_
         ·rintro f k7 ⟨b0,b1,b2,hm,f5,f6,f7,f8⟩
          unfold yI at hm
          refine aAW ?_;exact ⟨_,(zI hm).symm,bG,f5,f6,f7,rfl,f8⟩
         refine aAW ?_;obtain ⟨f9,g0,hm⟩:=aB hm
         refine aAW ?_;obtain ⟨k8,k9,g1⟩:=bI.el (sz:=1) rfl f3 g0
         cases g1
         refine aAW ?_;obtain ⟨l0,g2,hm⟩:=aB hm
         refine aAW ?_;obtain ⟨l1,l2,g3⟩:=bI.el (sz:=1) rfl h6 g2
         cases g3
         refine aAW ?_
         rcases aM hm with ⟨g4,hm⟩|⟨g4,hm⟩
         ·iterate 7 refine aBh ?_
          refine bD [0,1,2,9,10,11,13,14,15,16] (fun f w=>∃ q,yJ c a8 j f9 q=some a9/\f 12=zB q/\aF G K (own 4 K a b c::L) w) ?_ ?_
          ·rintro f l3 ⟨q,hm,l4,l5⟩
           unfold yJ at hm
           iterate 1 refine aBh ?_
           exact bD [0,1,2,9,10,11,12,14,15] (fun f w=>∃ c4,aCt j q c4=some a9/\f 13=zB c4/\aF G K (own 4 K a b c::L) w) aN aN
          exact aN
         ·exact aN
        ·exact aN
     exact aN
    ·exact aN
  ·exact aN
theorem aEt {g:(List aO)} {j:(List Bool)} {u:Int} {R:(List Bool)} (hm:aIM g j u=some R) (hs:aF G K (L) w) (h3:bI K a1 c2 g) (h6:bI K a4 c5 j):
  Calls prog 176 ([zS a1 g.length c2,zS a4 j.length c5,i64 u]:List Value).toArray w (dL fun v w'=>∃ x y,v=zS x R.length y/\aF G K (own 4 K x y R::L) w'):=by
 refine aBM func176 ?_;unfold aIM at hm
 refine aAW ?_;obtain ⟨a,q8,hm⟩:=aB hm
 refine aBb (e:=(false:Bool)) cQ aEy rfl rfl hs rfl rfl rfl q8 rfl (fun b b1 (d4:aF G K (own 4 K b a.length a::L) b1)=>(aAW ?_));refine aS [] (fun f w=>∃ k,aKw k=some R/\f 7=zS b k.length a.length/\aF G K (own 4 K b a.length k::L) w) aN ?_
 obtain ⟨d5,b2,ho⟩:=aB hm
 refine bN [0,1,2] b2 (fun l m f w=>f 7=zS b l.length a.length/\f 8=i64 m/\aF G K (own 4 K b a.length l::L) w) aN ?_
 ·rintro l m b3 f d6 hm hr ⟨o,d7,c⟩
  unfold aKx at hm
  refine aAW ?_
  rcases aM hm with ⟨b4,hm⟩|⟨b4,hm⟩
  ·refine aAW ?_;refine bZ (bD [0,1,2,8] (fun f w=>∃ d,aAI m d=some b3/\f 7=zS b d.length a.length/\aF G K (own 4 K b a.length d::L) w) ?_ ?_)
   ·rintro f d8 ⟨d,hm,b5,b6⟩
    unfold aAI at hm
    refine aAW ?_;exact ⟨_,(zI hm).symm,bG,b5,rfl,b6⟩
   refine aAW ?_;obtain ⟨d9,b7,hm⟩:=aB hm
   refine aAW ?_;obtain ⟨e0,e1,b8⟩:=bI.el (sz:=1) rfl h6 b7
   cases b8
   refine aAW ?_
   rcases aM hm with ⟨b9,hm⟩|⟨b9,hm⟩
   ·refine aAW ?_;obtain ⟨z,c0,hm⟩:=aB hm
    refine aAW ?_;obtain ⟨e2,e3,c1⟩:=bI.el (sz:=3) rfl h3 c0
    obtain ⟨e4,e5,rfl,e6⟩:=c1
    refine aAW ?_
    rcases aM hm with ⟨c3,hm⟩|⟨c3,hm⟩
    ·refine aAW ?_;obtain ⟨e7,p,hm⟩:=aB hm
     have c4:=bM c (i:=0) rfl p
     refine aD (cB cQ rfl c4 rfl rfl rfl p) ?_;obtain ⟨J,Z,hm⟩:=aB hm
     refine eC (i:=0) (t:=0) (ns:=[zB ((z.Next.length:Int) == 0)]) (e':=((z.Next.length:Int) == 0:Bool)) sizeOf4 c rfl (zR _) rfl rfl rfl p Z rfl rfl (eB rfl) rfl (fun cs h=>by cases h;rfl) (fun c6 (c7:aF G K (own 4 K b a.length J::L) c6)=>(aAW ?_));exact ⟨bG,J,hm,(Eq.trans o (congrArg (fun n=>zS b n a.length) (dH Z))),c7⟩
    ·refine aAW ?_;obtain ⟨e8,q,hm⟩:=aB hm
     have c8:=bM c (i:=0) rfl q
     refine aD (cB cQ rfl c8 rfl rfl rfl q) ?_;obtain ⟨a0,a2,hm⟩:=aB hm
     refine eC (i:=0) (t:=0) (ns:=[zB false]) (e':=(false:Bool)) sizeOf4 c rfl (zR _) rfl rfl rfl q a2 rfl rfl (eB rfl) rfl (fun cs h=>by cases h;rfl) (fun c9 (d0:aF G K (own 4 K b a.length a0::L) c9)=>(aAW ?_));exact ⟨bG,a0,hm,(Eq.trans o (congrArg (fun n=>zS b n a.length) (dH a2))),d0⟩
   ·refine aAW ?_;obtain ⟨e9,r,hm⟩:=aB hm
    have d1:=bM c (i:=0) rfl r
    refine aD (cB cQ rfl d1 rfl rfl rfl r) ?_;obtain ⟨a3,a5,hm⟩:=aB hm
    refine eC (i:=0) (t:=0) (ns:=[zB false]) (e':=(false:Bool)) sizeOf4 c rfl (zR _) rfl rfl rfl r a5 rfl rfl (eB rfl) rfl (fun cs h=>by cases h;rfl) (fun d2 (d3:aF G K (own 4 K b a.length a3::L) d2)=>(aAW ?_));exact ⟨bG,a3,hm,(Eq.trans o (congrArg (fun n=>zS b n a.length) (dH a5))),d3⟩
  ·exact aN
theorem vY {a b R:(List Bool)} (hm:aBv a b=some R) (x:aF G K (L) w) (y:bI K a1 c2 a) (z:bI K a4 c5 b):
  Calls prog 177 ([zS a1 a.length c2,zS a4 b.length c5]:List Value).toArray w (dL fun v w'=>∃ l m,v=zS l R.length m/\aF G K (own 4 K l m R::L) w'):=by
 refine aBM func177 ?_;unfold aBv at hm
 refine aAW ?_;refine aCp ([]:List Bool) fun J Z a0=>?_
 refine aAW ?_;refine aS [] (fun f w=>∃ g n o,aKy g=some R/\f 5=zS n g.length o/\aF G K (own 4 K n o g::L) w) aN ?_
 obtain ⟨a2,p,ho⟩:=aB hm
 refine bN [0,1] p (fun h i f w=>∃ j k,f 5=zS j h.length k/\f 6=i64 i/\aF G K (own 4 K j k h::L) w) aN ?_
 ·rintro h i q f a3 hm hr ⟨j,k,a5,a6,a8⟩
  unfold aKz at hm
  refine aAW ?_
  rcases aM hm with ⟨r,hm⟩|⟨r,hm⟩
  ·refine aAW ?_;refine bZ (bD [0,1,6] (fun f w=>∃ c d e,aDd i c=some q/\f 5=zS d c.length e/\aF G K (own 4 K d e c::L) w) ?_ ?_)
   ·rintro f a9 ⟨c,d,e,hm,t,u⟩
    unfold aDd at hm
    refine aAW ?_;exact ⟨_,(zI hm).symm,bG,d,e,t,rfl,u⟩
   exact aN
  ·exact aN
theorem aIs {d:(List Bool)} {R:(List Int)} (hm:aLd d=some R) (u:aF G K (L) w) (x:bI K a1 c2 d):
  Calls prog 215 ([zS a1 d.length c2]:List Value).toArray w (dL fun v w'=>∃ k l,v=zS k R.length l/\aF G K (own 2 K k l R::L) w'):=by
 refine aBM func215 ?_;unfold aLd at hm
 refine aAW ?_;refine aCp ([]:List Int) fun y z J=>?_
 refine aAW ?_;refine aS [] (fun f w=>∃ e m n,aKA e=some R/\f 3=zS m e.length n/\aF G K (own 2 K m n e::L) w) aN ?_
 obtain ⟨Z,o,ho⟩:=aB hm
 refine bN [0] o (fun g h f w=>∃ i j,f 3=zS i g.length j/\f 4=i64 h/\aF G K (own 2 K i j g::L) w) aN ?_
 ·rintro g h p f a0 hm hr ⟨i,j,a2,a3,a5⟩
  unfold aKB at hm
  refine aAW ?_
  rcases aM hm with ⟨q,hm⟩|⟨q,hm⟩
  ·refine aAW ?_;refine aS [0,4] (fun f w=>∃ a b c,aDe h a=some p/\f 3=zS b a.length c/\aF G K (own 2 K b c a::L) w) ?_ ?_
   ·rintro f a6 ⟨a,b,c,hm,r,t⟩
    unfold aDe at hm
    refine aAW ?_;exact ⟨_,(zI hm).symm,bG,b,c,r,rfl,t⟩
   exact aN
  ·exact aN
end Gv
