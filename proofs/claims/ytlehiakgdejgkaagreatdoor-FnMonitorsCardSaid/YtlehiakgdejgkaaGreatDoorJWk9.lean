/- Walks, printed by program. -/
import Derived.Test.YtlehiakgdejgkaaGreatDoorJWk1
import Derived.Test.YtlehiakgdejgkaaGreatDoorJWk3
import Derived.Test.YtlehiakgdejgkaaGreatDoorJWk5
import Derived.Test.YtlehiakgdejgkaaGreatDoorJWk7
import Derived.Test.YtlehiakgdejgkaaGreatDoorJT
set_option linter.all false
namespace Gv
open Go.Value renaming slice→zS,bool→zB,agg→zA
open Option.some renaming inj→zI
open Gv.Hp renaming le_trans→zL,le_refl→zR
open Go Go.Proofs Go.Proofs.Tryz
set_option maxRecDepth 20000
set_option maxHeartbeats 40000000
variable {G:Env} {K:Hp} {L:List iI} {w:World} {a1 a4 a7 a10 a13 a16:Option Addr} {c5 c8 c14 c17 c11 c2:Nat}
theorem aIf {t:aS} {g:Nat} {p:aS} {j:Nat} {R:(List Bool)} (hm:aGn t p=some R) (hs:aD G K (L) w) (r:cT K a1 g (zC t a4 c5 a7 c8)) (h6:aW K a4 c5 t.L) (h9:aW K a7 c8 t.E) (k:cT K a10 j (zC p a13 c14 a16 c17)) (f6:aW K a13 c14 p.L) (f7:aW K a16 c17 p.E):
  Calls Tryz.prog 59 ([cD a1 g,cD a10 j]:List Value).toArray w (dS fun v w'=>∃ d1 d2,v=zS d1 R.length d2/\aD G K (aH 4 K d1 d2 R::L) w'):=by
 refine iT func59 rfl (by kernel_rfl) (by show (2:Nat)<=113;decide) ?_;unfold aGn at hm
 refine bC (aT (v:=zS none 0 0) (aU (bB (aIB (C:=fun w'=>∃ L',aD G K L' w') [(0,0),(1,0),(2,0),(3,0),(4,0),(5,0),(6,0),(7,0),(8,0),(9,1),(10,0)] Tryz_mixed (by kernel_rfl) (fun _ hg=>⟨_,aD.mono hs hg⟩) (fun k3 f8=>?_)))))
 have x:=aD.mono hs f8
 refine cI rfl (fun _ _=>cX (v:=cD a1 g) rfl) (cI rfl (fun _ _=>aEc rfl r) (cI rfl (fun _ _=>gE (k':=g+0) aAk rfl r rfl) (cI rfl (fun _ ⟨_,x⟩=>bU (t:=0) lD x r rfl rfl) (cI rfl (fun _ _=>cX (v:=cD a10 j) rfl) (cI rfl (fun _ _=>aEc rfl k) (cI rfl (fun _ _=>gE (k':=j+0) aAk rfl k rfl) (cI rfl (fun _ ⟨_,x⟩=>bU (t:=0) lD x k rfl rfl) (cI rfl (fun _ _=>R_mul rfl rfl) (eQ rfl ?_)))))))));obtain ⟨a,f9,hm⟩:=aB hm
 refine aLu (e:=(false:Bool)) mF ez_4 rfl rfl x rfl rfl rfl f9 rfl (fun b g0 (g1:aD G K (aH 4 K b a.length a::L) g0)=>(aL (aC ⟨⟨_,g1⟩,?_⟩)))
 refine cI rfl (fun _ _=>fP (v:=zS b a.length a.length) rfl) (yO (aC (bB (bC (aT (v:=i64 0) (aU (aK [0,1] (fun f w=>∃ z,aCp t p z=some R/\f 5=zS b z.length a.length/\aD G K (aH 4 K b a.length z::L) w) ?_ ?_)))))))
 ·rintro f k4 ⟨z,hm,k5,k6⟩
  unfold aCp at hm
  refine aC (bB (bC (aT (v:=zB true) (aU (aK [] (fun f w=>∃ a6,aGN a6=some R/\f 5=zS b a6.length a.length/\aD G K (aH 4 K b a.length a6::L) w) aI ?_)))));obtain ⟨k7,g2,ho⟩:=aB hm
  refine bV [0,1] g2 (fun a8 d3 f w=>f 5=zS b a8.length a.length/\f 7=zB d3/\aD G K (aH 4 K b a.length a8::L) w) aI ?_
  ·rintro a8 d3 d4 f k8 hm hr ⟨k9,g3,l0⟩
   unfold aCo at hm
   refine bB (bC (cW g3 (aU ?_)))
   rcases aG hm with ⟨d5,hm⟩|⟨d5,hm⟩
   ·refine bP d5 rfl (cN (aC (aK [0,1] (fun f w=>∃ J a9,aGO J a9=some d4/\f 5=zS b J.length a.length/\f 7=zB a9/\aD G K (aH 4 K b a.length J::L) w) ?_ ?_)))
    ·rintro f l1 ⟨J,a9,hm,g4,g5,g6⟩
     unfold aGO at hm
     exact aC ⟨_,(zI hm).symm,bD,g4,g5,g6⟩
    refine bC (aT (v:=zB false) (aU (bC (aT (v:=i64 0) (aU (aK [0,1] (fun f w=>∃ b0 d6,aKi b0 d6=some d4/\f 5=zS b b0.length a.length/\f 7=zB d6/\aD G K (aH 4 K b a.length b0::L) w) aI ?_))))));obtain ⟨l2,g7,ho⟩:=aB hm
    refine lK [0,1] g7 (fun b1 d7 l f w=>f 5=zS b b1.length a.length/\f 7=zB d7/\f 8=i64 l/\aD G K (aH 4 K b a.length b1::L) w) aI ?_
    ·rintro b1 d7 l d8 f l3 hm hr ⟨l4,l5,V,d9⟩
     unfold aAd at hm
     refine bB (bC (cW V (aR (v:=cD a1 g) (aM (aEc rfl r) (aM (gE (k':=g+0) aAk rfl r rfl) (aM (bU (t:=0) lD d9 r rfl rfl) (aM (pD rfl rfl) (aU ?_))))))))
     rcases aG hm with ⟨e0,hm⟩|⟨e0,hm⟩
     ·refine bP e0 rfl (cN (aC (bB (aK [0,1,8] (fun f w=>∃ Z b2,aDG l Z b2=some d8/\f 5=zS b Z.length a.length/\f 7=zB b2/\aD G K (aH 4 K b a.length Z::L) w) ?_ ?_))))
      ·rintro f l6 ⟨Z,b2,hm,g8,g9,h0⟩
       unfold aDG at hm
       exact aC (bR (cW V (aM (rO rfl rfl) (aT (v:=i64 (wr (l+1))) (aU ⟨_,(zI hm).symm,bD,g8,g9,rfl,h0⟩)))))
      refine bC (aR (v:=cD a1 g) (cW V ?_));obtain ⟨c,h1,hm⟩:=aB hm
      refine bO (vs:=[cD a1 g,i64 l]) call110 rfl (aJk h1 d9 r h6 h9) ?_
      rintro _ l7 ⟨d,m,rfl,l8⟩
      refine aT (v:=zS d c.length m) (aU (bC (aT (v:=i64 0) (aU (aK [0,1,8] (fun f w=>∃ b3 e1,aGP l b3 e1=some d8/\f 5=zS b b3.length a.length/\f 7=zB e1/\aD G K (aH 4 K b a.length b3::L) w) aI ?_)))));obtain ⟨l9,h2,ho⟩:=aB hm
      refine lK [0,1,8,9] h2 (fun o a0 q f w=>f 5=zS b o.length a.length/\f 7=zB a0/\f 10=i64 q/\aD G K (aH 52 K d m c::aH 4 K b a.length o::L) w) aI ?_
      ·rintro o a0 q b4 f m0 hm hr ⟨e2,m1,a2,e3⟩
       unfold aAc at hm
       refine bB (bC (cW a2 (aR (v:=cD a10 j) (aM (aEc rfl k) (aM (gE (k':=j+0) aAk rfl k rfl) (aM (bU (t:=0) lD e3 k rfl rfl) (aM (pD rfl rfl) (aU ?_))))))))
       rcases aG hm with ⟨e4,hm⟩|⟨e4,hm⟩
       ·refine bP e4 rfl (cN (aC (bB (aK [0,1,8,9,10] (fun f w=>∃ a3 b5,nU q a3 b5=some b4/\f 5=zS b a3.length a.length/\f 7=zB b5/\aD G K (aH 52 K d m c::aH 4 K b a.length a3::L) w) ?_ ?_))))
        ·rintro f m2 ⟨a3,b5,hm,h4,h5,h7⟩
         unfold nU at hm
         exact aC (bR (cW a2 (aM (rO rfl rfl) (aT (v:=i64 (wr (q+1))) (aU ⟨_,(zI hm).symm,bD,h4,h5,rfl,h7⟩)))))
        refine bC (cW V (aR (v:=cD a10 j) (aM (aEc rfl k) (aM (gE (k':=j+0) aAk rfl k rfl) (aM (bU (t:=0) lD e3 k rfl rfl) (aM (R_mul rfl rfl) (cW a2 (aM (rO rfl rfl) (aT (v:=i64 (wr ((wr (l * p.N))+q))) (aU (bB (bB (aY [0,1,5,7,8,9,10,11] (fun f w=>∃ b6,vF t p l c o a0 q b6=some b4/\f 71=zB b6/\aD G K (aH 52 K d m c::aH 4 K b a.length o::L) w) ?_ ?_)))))))))))))
        ·rintro f m3 ⟨b6,hm,h8,m4⟩
         unfold vF at hm
         refine aC ?_
         rcases aG hm with ⟨e5,hm⟩|⟨e5,hm⟩
         ·exact aI
         ·refine bT e5 h8 (cN (aC (bC (aT (v:=zB false) (aU (bB (bC (aT (v:=i64 0) (aU (aK [0,1,5,7,8,9,10,11] (fun f w=>∃ b7,aBy p l o a0 q b7=some b4/\f 12=zB b7/\aD G K (aH 52 K d m c::aH 4 K b a.length o::L) w) ?_ ?_))))))))))
          ·rintro f m5 ⟨b7,hm,i0,e6⟩
           unfold aBy at hm
           refine aC (bC (cW i0 (aM (aMs rfl) (aU ?_))))
           rcases aG hm with ⟨e7,hm⟩|⟨e7,hm⟩
           ·refine bP e7 rfl (bC (cW e2 (aR (v:=i64 (wr ((wr (l * p.N))+q))) ?_)));obtain ⟨m6,b8,hm⟩:=aB hm
            have i1:=bS e6 (i:=1) rfl b8
            refine aM (cS mF rfl i1 rfl rfl rfl b8) ?_;obtain ⟨e8,e9,hm⟩:=aB hm
            exact oO (i:=1) (t:=0) (ns:=[zB false]) (e':=(false:Bool)) sizeOf4 e6 rfl (zR _) rfl rfl rfl b8 e9 rfl rfl (nI rfl) rfl (fun cs h=>by cases h;rfl) (fun i2 (i3:aD G K (aH 52 K d m c::aH 4 K b a.length e8::L) i2)=>(aU (bR (aT (v:=zB true) (aL (iC (aC ⟨bD,e8,true,hm,(Eq.trans e2 (congrArg (fun n=>zS b n a.length) (jM e9))),rfl,i3⟩)))))))
           ·exact aI
          obtain ⟨m7,i4,ho⟩:=aB hm
          refine bV [0,1,5,7,8,9,10,11] i4 (fun f0 y f w=>f 12=zB f0/\f 13=i64 y/\aD G K (aH 52 K d m c::aH 4 K b a.length o::L) w) aI ?_
          ·rintro f0 y i5 f m8 hm hr ⟨m9,b9,f1⟩
           unfold xW at hm
           refine bB (bC (cW b9 (aR (v:=zS d c.length m) (aM (gU (len:=c.length) iY rfl) (aM (pD rfl rfl) (aU ?_))))))
           rcases aG hm with ⟨f2,hm⟩|⟨f2,hm⟩
           ·refine bP f2 rfl (cN (aC (bB (cA (bC (aR (v:=cD a1 g) (aR (v:=cD a10 j) (aR (v:=zS d c.length m) (cW b9 ?_)))))))));obtain ⟨n0,c0,hm⟩:=aB hm
            have i6:=bS f1 (i:=0) rfl c0
            refine aM (cS iY rfl i6 rfl rfl rfl c0) (cW a2 ?_);obtain ⟨n1,u,i7,i8,i9⟩:=aD.lendSp f1 (zR _) .head
            obtain ⟨n2,j0,j1⟩:=aW.el (sz:=3) rfl i7 c0
            cases j1
            obtain ⟨j2,j3,hm⟩:=aB hm
            refine bO (vs:=[cD a1 g,cD a10 j,cD d (y.toNat * 3+0),i64 q]) call109 rfl (aGS j3 i8 (r.mono u) (h6.mono u) (h9.mono u) (k.mono u) (f6.mono u) (f7.mono u) j0) ?_
            rintro _ n3 ⟨rfl,j4⟩
            have n4:=i9 _ _ j4
            refine aT (v:=i64 j2) (aU (aY [0,1,5,7,8,9,10,11,13] (fun f w=>∃ c1,xV y c1=some i5/\f 12=zB c1/\aD G K (aH 52 K d m c::aH 4 K b a.length o::L) w) ?_ ?_))
            ·rintro f n5 ⟨c1,hm,j5,j6⟩
             unfold xV at hm
             exact iC (aC (bR (cW b9 (aM (rO rfl rfl) (aT (v:=i64 (wr (y+1))) (aU ⟨_,(zI hm).symm,bD,j5,rfl,j6⟩))))))
            exact aI
           ·exact aI
        exact aI
       ·exact aI
     ·exact aI
   ·exact aI
 obtain ⟨n6,j7,ho⟩:=aB hm
 refine bV [0,1] j7 (fun a5 c2 f w=>f 5=zS b a5.length a.length/\f 6=i64 c2/\aD G K (aH 4 K b a.length a5::L) w) aI ?_
 ·rintro a5 c2 n7 f n8 hm hr ⟨c3,c4,f3⟩
  unfold aAe at hm
  refine bB (bC (cW c4 (cW c3 (aM (gU (len:=a5.length) mF rfl) (aM (pD rfl rfl) (aU ?_))))))
  rcases aG hm with ⟨f4,hm⟩|⟨f4,hm⟩
  ·refine bP f4 rfl (cN (aC (bB (cA (bR (cW c3 (cW c4 ?_)))))));obtain ⟨n9,c6,hm⟩:=aB hm
   have j8:=bS f3 (i:=0) rfl c6
   refine aM (cS mF rfl j8 rfl rfl rfl c6) ?_;obtain ⟨j9,f5,hm⟩:=aB hm
   exact oO (i:=0) (t:=0) (ns:=[zB true]) (e':=(true:Bool)) sizeOf4 f3 rfl (zR _) rfl rfl rfl c6 f5 rfl rfl (nI rfl) rfl (fun cs h=>by cases h;rfl) (fun k0 (k1:aD G K (aH 4 K b a.length j9::L) k0)=>(aL (iC (aC (bR (cW c4 (aM (rO rfl rfl) (aT (v:=i64 (wr (c2+1))) (aU ⟨_,(zI hm).symm,bD,(Eq.trans c3 (congrArg (fun n=>zS b n a.length) (jM f5))),rfl,k1⟩)))))))))
  ·exact aI
theorem aFu {p:aS} {i:Nat} {e a:(List Bool)} {b:(List Int)} {q R:Int} (hm:aBz p e a b q=some R) (y:aD G K (L) w) (z:cT K a1 i (zC p a4 c5 a7 c8)) (J:aW K a4 c5 p.L) (V:aW K a7 c8 p.E) (Z:aW K a10 c11 e) (a0:aW K a13 c14 a) (a2:aW K a16 c17 b):
  Calls Tryz.prog 61 ([cD a1 i,zS a10 e.length c11,zS a13 a.length c14,zS a16 b.length c17,i64 q]:List Value).toArray w (dS fun v w'=>v=i64 R/\aD G K (L) w'):=by
 refine cM func61 ?_;unfold aBz at hm
 refine aF ?_
 rcases aG hm with ⟨n,hm⟩|⟨n,hm⟩
 ·exact aI
 ·refine aF ?_;refine aK [] (fun f w=>∃ j k,aCV j k=some R/\f 11=zB j/\f 12=zB k/\aD G K (L) w) aI ?_
  obtain ⟨a3,o,ho⟩:=aB hm
  refine lK [0,1,2,3,4] o (fun l g c f w=>f 11=zB l/\f 12=zB g/\f 13=i64 c/\aD G K (L) w) aI ?_
  ·rintro l g c m f a5 hm hr ⟨a6,a8,a9,b0⟩
   unfold pO at hm
   refine aF ?_
   rcases aG hm with ⟨r,hm⟩|⟨r,hm⟩
   ·refine aF ?_;refine cA (aF ?_)
    refine aY [0,1,2,3,4,12,13] (fun f w=>∃ d,uI p a b q g c d=some m/\f 11=zB d/\aD G K (L) w) ?_ ?_
    ·rintro f b1 ⟨d,hm,t,b2⟩
     unfold uI at hm
     refine aF ?_;refine aY [0,1,2,3,4,11,13] (fun f w=>∃ h,uH c d h=some m/\f 12=zB h/\aD G K (L) w) ?_ ?_
     ·rintro f b3 ⟨h,hm,u,x⟩
      unfold uH at hm
      refine aF ?_;exact ⟨_,(zI hm).symm,bD,t,u,rfl,x⟩
     exact aI
    exact aI
   ·exact aI
theorem aIg {t:aS} {k2:Nat} {p:aS} {c9:Nat} {R:(aZ × Bool)} (hm:aGo t p=some R) (hs:aD G K (L) w) (h3:cT K a1 k2 (zC t a4 c5 a7 c8)) (h6:aW K a4 c5 t.L) (h9:aW K a7 c8 t.E) (e8:cT K a10 c9 (zC p a13 c14 a16 c17)) (i4:aW K a13 c14 p.L) (i5:aW K a16 c17 p.E):
  Calls Tryz.prog 19 ([cD a1 k2,cD a10 c9]:List Value).toArray w (dS fun v w'=>∃ n3 n4 n5 n6 n7 n8,v=Value.tuple #[zA #[i64 R.1.S.N,i64 R.1.S.I,zS n3 R.1.S.L.length n4,zS n5 R.1.S.E.length n6,zS n7 R.1.Verdicts.length n8],zB R.2]/\aD G K (aH 9 K n3 n4 R.1.S.L::aH 52 K n5 n6 R.1.S.E::aH 2 K n7 n8 R.1.Verdicts::L) w'):=by
 let d:=[i64 0,i64 0,zS none 0 0,zS none 0 0,zS none 0 0]
 refine iT func19 rfl (by kernel_rfl) (by show (2:Nat)<=156;decide) ?_;unfold aGo at hm
 refine bC (fQ (vs:=d) zeroValue32 hs rfl (fun e w20 q9=>(aT (v:=zB false) (aU (bC (aR (v:=cD a1 k2) (aR (v:=cD a10 c9) ?_)))))));obtain ⟨j,r0,hm⟩:=aB hm
 refine bO (vs:=[cD a1 k2,cD a10 c9]) call58 rfl (aHp r0 q9 h3 h6 h9 e8 i4 i5) ?_
 rintro _ w26 ⟨k,l,rfl,r1⟩
 refine aT (v:=zS k j.length l) (aU (bC (aR (v:=cD a1 k2) (aR (v:=cD a10 c9) ?_))));obtain ⟨m,r2,hm⟩:=aB hm
 refine bO (vs:=[cD a1 k2,cD a10 c9]) call59 rfl (aIf r2 r1 h3 h6 h9 e8 i4 i5) ?_
 rintro _ w32 ⟨n,o,rfl,r3⟩
 refine aT (v:=zS n m.length o) (aU (bC (aR (v:=cD a1 k2) ?_)));obtain ⟨c3,r4,hm⟩:=aB hm
 refine bO (vs:=[cD a1 k2]) call60 rfl (aDc r4 r3 h3 h6 h9) ?_
 rintro _ r5 ⟨c4,c6,rfl,r6⟩
 have r7:aD G K (rows [2] ([(c4,c6)]:List (Dp.Hd (List Int))) [c3]::aH 4 K n o m::aH 4 K k l j::box e 32 d::L) r5:=aD.rowsOne r6
 refine eR (Kt:=K) (xs:=aP ([(c4,c6)]:List (Dp.Hd (List Int))) ([c3]:List (List Int))) (cs:=[zS c4 c3.length c6]) (vs:=[(0,zS c4 c3.length c6)]) tH aHI rfl rfl r7 rfl (by kernel_rfl) rfl rfl rfl ⟨rfl,trivial⟩ ?_
 intro f9 r8 (n9:aD G K (aH 30 K f9 1 (aP ([(c4,c6)]:List (Dp.Hd (List Int))) ([c3]:List (List Int)))::rows [2] ([(c4,c6)]:List (Dp.Hd (List Int))) ([c3]:List (List Int))::aH 4 K n o m::aH 4 K k l j::box e 32 d::L) r8)
 refine aT (v:=zS f9 ([c3]:List (List Int)).length 1) (aU (bC (aR (v:=cD a10 c9) (aM (aEc rfl e8) (aM (gE (k':=c9+1) aGG rfl e8 rfl) (aM (bU (t:=1) lD n9 e8 rfl rfl) (eR (Kt:=K) (xs:=([p.I]:List Int)) (cs:=[i64 p.I]) (vs:=[(0,i64 p.I)]) iX aEW rfl rfl n9 rfl (by kernel_rfl) rfl rfl rfl ⟨rfl,trivial⟩ ?_)))))))
 intro g8 r9 (s0:aD G K (aH 2 K g8 1 ([p.I]:List Int)::aH 30 K f9 1 (aP ([(c4,c6)]:List (Dp.Hd (List Int))) ([c3]:List (List Int)))::rows [2] ([(c4,c6)]:List (Dp.Hd (List Int))) ([c3]:List (List Int))::aH 4 K n o m::aH 4 K k l j::box e 32 d::L) r9)
 refine aT (v:=zS g8 ([p.I]:List Int).length 1) (aU (bC (aM (cK (vs:=[]) (cs:=d) aJY rfl (by kernel_rfl)) (fQ (vs:=d) zeroValue32 s0 rfl (fun q w48 s1=>(kL (i:=0) (ns:=d) (us:=d) sizeOf32 s1 rfl rfl rfl rfl rfl (nI rfl) rfl rfl ?_))))))
 intro s2 (s3:aD G K (box q 32 d::aH 2 K g8 1 ([p.I]:List Int)::aH 30 K f9 1 (aP ([(c4,c6)]:List (Dp.Hd (List Int))) ([c3]:List (List Int)))::rows [2] ([(c4,c6)]:List (Dp.Hd (List Int))) ([c3]:List (List Int))::aH 4 K n o m::aH 4 K k l j::box e 32 d::L) s2)
 refine aU (bC (eR (Kt:=K) (xs:=([]:List Edge)) (cs:=[]) (vs:=[]) iY aHH rfl rfl s3 rfl (by kernel_rfl) rfl rfl rfl trivial ?_))
 intro k9 s4 (s5:aD G K (aH 52 K k9 0 ([]:List Edge)::box q 32 d::aH 2 K g8 1 ([p.I]:List Int)::aH 30 K f9 1 (aP ([(c4,c6)]:List (Dp.Hd (List Int))) ([c3]:List (List Int)))::rows [2] ([(c4,c6)]:List (Dp.Hd (List Int))) ([c3]:List (List Int))::aH 4 K n o m::aH 4 K k l j::box e 32 d::L) s4)
 refine aT (v:=zS k9 ([]:List Edge).length 0) (aU (bB (bC (aT (v:=i64 0) (aU (aK [0,4,10] (fun f w=>∃ x a5 Z e9 f0 d0 a6 a8 a0 a2,xX t x a5 Z=some R/\f 8=zS e9 x.length f0/\f 11=zS a0 Z.length a2/\List.length d0=List.length x/\aD G K (aH 52 K a0 a2 Z::aH 2 K a6 a8 a5::aH 30 K e9 f0 (aP d0 x)::rows [2] d0 x::box q 32 [i64 0,i64 0,zS none 0 0,zS none 0 0,zS a6 a5.length a8]::box e 32 d::L) w) ?_ ?_))))))
 ·rintro f w68 ⟨x,a5,Z,e9,f0,d0,a6,a8,a0,a2,hm,s6,s7,a49,s8⟩
  unfold xX at hm
  refine aC (bC (cW s6 (aM (gU (len:=x.length) tH rfl) (eR (Kt:=K) (xs:=([]:List aJ)) (cs:=[]) (vs:=[]) eM aGf rfl rfl s8 rfl (by kernel_rfl) rfl rfl rfl trivial (fun s9 t0 (o0:aD G K (aH 9 K s9 0 ([]:List aJ)::aH 52 K a0 a2 Z::aH 2 K a6 a8 a5::aH 30 K e9 f0 (aP d0 x)::rows [2] d0 x::box q 32 [i64 0,i64 0,zS none 0 0,zS none 0 0,zS a6 a5.length a8]::box e 32 d::L) t0)=>(aR (v:=cD a1 k2) (aM (aEc rfl h3) (aM (gE (k':=k2+2) vU rfl h3 rfl) (aM (bU (t:=2) uC o0 h3 rfl rfl) ?_)))))))))
  obtain ⟨b7,t1,hm⟩:=aB hm
  refine aKI (i:=0) eM underlying24 aGf rfl rfl o0 rfl (zR _) h6 t1 rfl rfl rfl rfl (fun b5 b6 t2 (t3:aD G K (aH 9 K b5 b6 b7::aH 52 K a0 a2 Z::aH 2 K a6 a8 a5::aH 30 K e9 f0 (aP d0 x)::rows [2] d0 x::box q 32 [i64 0,i64 0,zS none 0 0,zS none 0 0,zS a6 a5.length a8]::box e 32 d::L) t2)=>(cW s7 (aM (cK (vs:=[(0,i64 (x.length:Int)),(2,zS b5 b7.length b6),(3,zS a0 Z.length a2)]) (cs:=[i64 (x.length:Int),i64 0,zS b5 b7.length b6,zS a0 Z.length a2]) aMF rfl (by kernel_rfl)) (aM (dF (t':=0) aMc rfl rfl) (kL (i:=5) (ns:=[i64 (x.length:Int),i64 0,zS b5 b7.length b6,zS a0 Z.length a2]) (us:=[i64 (x.length:Int),i64 0,zS b5 b7.length b6,zS a0 Z.length a2,zS a6 a5.length a8]) sizeOf27 t3 rfl rfl rfl rfl rfl (nI rfl) rfl rfl (fun t4 (o1:aD G K (aH 9 K b5 b6 b7::aH 52 K a0 a2 Z::aH 2 K a6 a8 a5::aH 30 K e9 f0 (aP d0 x)::rows [2] d0 x::box q 32 [i64 (x.length:Int),i64 0,zS b5 b7.length b6,zS a0 Z.length a2,zS a6 a5.length a8]::box e 32 d::L) t4)=>(aU (bC (aM (vK (us:=[i64 (x.length:Int),i64 0,zS b5 b7.length b6,zS a0 Z.length a2,zS a6 a5.length a8]) aFf o1 (i:=5) rfl rfl rfl rfl) (kL (i:=6) (ns:=[i64 (x.length:Int),i64 0,zS b5 b7.length b6,zS a0 Z.length a2,zS a6 a5.length a8]) (us:=[i64 (x.length:Int),i64 0,zS b5 b7.length b6,zS a0 Z.length a2,zS a6 a5.length a8]) sizeOf32 o1 rfl rfl rfl rfl rfl (nI rfl) rfl rfl (fun t5 (o2:aD G K (aH 9 K b5 b6 b7::aH 52 K a0 a2 Z::aH 2 K a6 a8 a5::aH 30 K e9 f0 (aP d0 x)::rows [2] d0 x::box q 32 [i64 (x.length:Int),i64 0,zS b5 b7.length b6,zS a0 Z.length a2,zS a6 a5.length a8]::box e 32 [i64 (x.length:Int),i64 0,zS b5 b7.length b6,zS a0 Z.length a2,zS a6 a5.length a8]::L) t5)=>(aT (v:=zB true) (aU ?_)))))))))))))
  obtain rfl:=zI hm
  exact jJ (aDt results19 (pR (vs:=[i64 (x.length:Int),i64 0,zS b5 b7.length b6,zS a0 Z.length a2,zS a6 a5.length a8]) rfl aFf o2 (i:=6) rfl rfl rfl) (aBX rfl rfl) ⟨b5,b6,a0,a2,a6,a8,rfl,(aD.arr 7 [0,1,2] o2 rfl)⟩)
 have t7:=aD.nil (α:=Int) s5 2 K
 obtain ⟨a50,t8,ho⟩:=aB hm
 refine W_loop5K [0,1,4,6,7,10] t8 (fun b8 f1 d4 d8 b9 f w=>∃ f2 f3 d3 f4 f5 d9 e0 e3 e4,f 8=zS f2 b8.length f3/\f 9=zS f4 f1.length f5/\f 11=zS e3 d8.length e4/\f 12=i64 b9/\List.length d3=List.length b8/\aD G K (aH 2 K d9 e0 d4::aH 52 K e3 e4 d8::box q 32 [i64 0,i64 0,zS none 0 0,zS none 0 0,zS d9 d4.length e0]::aH 2 K f4 f5 f1::aH 30 K f2 f3 (aP d3 b8)::rows [2] d3 b8::aH 4 K n o m::aH 4 K k l j::box e 32 d::L) w) ?_ ?_
 ·exact ⟨f9,1,([(c4,c6)]:List (Dp.Hd (List Int))),g8,1,none,0,k9,0,rfl,rfl,rfl,rfl,rfl,t7⟩
 ·rintro b8 f1 d4 d8 b9 o3 f a51 hm hr ⟨f2,f3,d3,f4,f5,d9,e0,e3,e4,l0,t9,u0,f6,o4,o5⟩
  unfold kJ at hm
  refine bB (bC (cW f6 (cW l0 (aM (gU (len:=b8.length) tH rfl) (aM (pD rfl rfl) (aU ?_))))))
  rcases aG hm with ⟨l1,hm⟩|⟨l1,hm⟩
  ·refine bP l1 rfl (cN (aC (bB (aK [0,1,4,6,7,10,12] (fun f w=>∃ g0 i6 i7 i8 i9 j0 g9 j1 j2 j3 j4 j5 j6,aDH b9 g0 i6 i7 i8=some o3/\f 8=zS i9 g0.length j0/\f 9=zS j1 i6.length j2/\f 11=zS j5 i8.length j6/\List.length g9=List.length g0/\aD G K (aH 52 K j5 j6 i8::aH 2 K j3 j4 i7::aH 2 K j1 j2 i6::aH 30 K i9 j0 (aP g9 g0)::rows [2] g9 g0::box q 32 [i64 0,i64 0,zS none 0 0,zS none 0 0,zS j3 i7.length j4]::aH 4 K n o m::aH 4 K k l j::box e 32 d::L) w) ?_ ?_))))
   ·rintro f a53 ⟨g0,i6,i7,i8,i9,j0,g9,j1,j2,j3,j4,j5,j6,hm,u1,u2,u3,u4,u5⟩
    unfold aDH at hm
    exact aC (bR (cW f6 (aM (rO rfl rfl) (aT (v:=i64 (wr (b9+1))) (aU ⟨_,(zI hm).symm,bD,i9,j0,g9,j1,j2,j3,j4,j5,j6,u1,u2,u3,rfl,u4,(aD.arr 6 [1,0,5,2,3,4] u5 rfl)⟩)))))
   refine bB ?_;obtain ⟨a54,h0,o6,a55,u6,u7⟩:=aD.lendD' (i:=4) o5 o4 rfl rfl
   obtain ⟨a57,g1,u8,u9,v0⟩:=aD.lendSp u6 h0 (.tail (.tail (.tail (.tail .head))))
   obtain ⟨v1,g2,v2,a9,v3⟩:=aD.lendSp u9 (zL h0 g1) (.tail (.tail (.tail (.tail .head))))
   refine aDQ (C:=fun w'=>aD G v1 (aH 2 K d9 e0 d4::aH 52 K e3 e4 d8::box q 32 [i64 0,i64 0,zS none 0 0,zS none 0 0,zS d9 d4.length e0]::aH 2 K f4 f5 f1::box e 32 d::L) w') Tryz_mixed (by kernel_rfl) (aD.mono a9 (fO.drew _)) (fS (fun _ a9=>cX (v:=cD a10 c9) rfl) (fS (fun _ a9=>cX (v:=zS k j.length l) rfl) (fS (fun _ a9=>cX (v:=zS n m.length o) rfl) (fS (fun _ a9=>cX l0) (fS (fun _ a9=>cX f6) ?_)))))
   obtain ⟨v4,l2,hm⟩:=aB hm
   have v5:=aJU (o6.mono (zL g1 g2)) l2
   refine fS (fun _ a9=>cS tH rfl v5 rfl rfl rfl l2) ?_;obtain ⟨a58,v6,v7⟩:=aW.el (sz:=1) rfl (o6.mono (zL g1 g2)) l2
   obtain ⟨v8,v9,rfl,w0⟩:=v7
   refine fS (fun _ a9=>bU (t:=0) aDi a9 v6 rfl rfl) (fS (fun _ a9=>cX t9) (fS (fun _ a9=>cX f6) ?_));obtain ⟨w1,l3,hm⟩:=aB hm
   have w2:=bS a9 (i:=3) rfl l3
   refine fS (fun _ a9=>cS iX rfl w2 rfl rfl rfl l3) (fS (fun _ a9=>yC (t:=0) lD a9 (i:=3) rfl l3 rfl rfl rfl) ?_);obtain ⟨d5,w3,hm⟩:=aB hm
   refine aIz (vs:=[cD a10 c9,zS k j.length l,zS n m.length o,zS v8 v4.length v9,i64 w1]) (v:=i64 d5) call61 rfl (fun _ a9=>(aFu w3 a9 (e8.mono (zL (zL h0 g1) g2)) (i4.mono (zL (zL h0 g1) g2)) (i5.mono (zL (zL h0 g1) g2)) v2 (u8.mono g2) w0)) (fS (fun _ a9=>fP (v:=i64 d5) rfl) (wH (fun a59 w4=>?_)))
   have w5:=v3 _ _ w4
   have w6:=v0 _ _ w5
   have o7:=u7 _ _ w6
   refine aC (bC (aM (dF (t':=4) aIG rfl rfl) (aM (aIV aDi o7 (i:=6) rfl rfl rfl) (aR (v:=i64 d5) (eR (Kt:=K) (xs:=([d5]:List Int)) (cs:=[i64 d5]) (vs:=[(0,i64 d5)]) iX aEW rfl rfl o7 rfl (by kernel_rfl) rfl rfl rfl ⟨rfl,trivial⟩ (fun w7 w8 (w9:aD G K (aH 2 K w7 1 ([d5]:List Int)::aH 30 K f2 f3 (aP d3 b8)::rows [2] d3 b8::aH 4 K n o m::aH 4 K k l j::aH 2 K d9 e0 d4::aH 52 K e3 e4 d8::box q 32 [i64 0,i64 0,zS none 0 0,zS none 0 0,zS d9 d4.length e0]::aH 2 K f4 f5 f1::box e 32 d::L) w8)=>?_))))))
   obtain ⟨a,x0,hm⟩:=aB hm
   refine rR (i:=4) iX underlying30 aEW rfl rfl w9 rfl (zR _) (zR _) x0 rfl rfl rfl rfl (fun _ h=>h) (fun b c x1 (x2:aD G K (aH 30 K f2 f3 (aP d3 b8)::rows [2] d3 b8::aH 4 K n o m::aH 4 K k l j::aH 2 K b c a::aH 52 K e3 e4 d8::box q 32 [i64 0,i64 0,zS none 0 0,zS none 0 0,zS d9 d4.length e0]::aH 2 K f4 f5 f1::box e 32 d::L) x1)=>(aM (dF (t':=4) aIG rfl rfl) (kL (i:=6) (ns:=[zS b a.length c]) (us:=[i64 0,i64 0,zS none 0 0,zS none 0 0,zS b a.length c]) sizeOf30 x2 rfl rfl rfl rfl rfl (nI rfl) rfl rfl (fun x3 (a60:aD G K (aH 30 K f2 f3 (aP d3 b8)::rows [2] d3 b8::aH 4 K n o m::aH 4 K k l j::aH 2 K b c a::aH 52 K e3 e4 d8::box q 32 [i64 0,i64 0,zS none 0 0,zS none 0 0,zS b a.length c]::aH 2 K f4 f5 f1::box e 32 d::L) x3)=>(aU (bC (aT (v:=i64 1) (aU (aK [0,1,4,6,7,10,12] (fun f w=>∃ h1 l4 l5 o8 o9 l6 p0 p1 p2 p3,aGQ b9 a h1 l4 l5=some o3/\f 8=zS o8 h1.length o9/\f 9=zS p0 l4.length p1/\f 11=zS p2 l5.length p3/\List.length l6=List.length h1/\aD G K (aH 52 K p2 p3 l5::aH 2 K p0 p1 l4::aH 30 K o8 o9 (aP l6 h1)::rows [2] l6 h1::aH 4 K n o m::aH 4 K k l j::aH 2 K b c a::box q 32 [i64 0,i64 0,zS none 0 0,zS none 0 0,zS b a.length c]::box e 32 d::L) w) aI ?_)))))))))
   obtain ⟨a62,x4,ho⟩:=aB hm
   refine rV [0,1,4,6,7,10,12,13] x4 (fun u b3 J b4 f w=>∃ d1 d2 r c0 c1 b0 b1,f 8=zS d1 u.length d2/\f 9=zS c0 b3.length c1/\f 11=zS b0 J.length b1/\f 14=i64 b4/\List.length r=List.length u/\aD G K (aH 30 K d1 d2 (aP r u)::rows [2] r u::aH 4 K n o m::aH 4 K k l j::aH 2 K b c a::aH 52 K b0 b1 J::box q 32 [i64 0,i64 0,zS none 0 0,zS none 0 0,zS b a.length c]::aH 2 K c0 c1 b3::box e 32 d::L) w) aI ?_
   ·rintro u b3 J b4 h2 f a63 hm hr ⟨d1,d2,r,c0,c1,b0,b1,h4,l7,x5,h5,e1,l8⟩
    unfold rK at hm
    refine bB (bB (aY [0,1,4,6,7,8,9,10,11,12,13,14] (fun f w=>∃ l9,rJ t p b9 u b3 J b4 l9=some h2/\f 69=zB l9/\aD G K (aH 30 K d1 d2 (aP r u)::rows [2] r u::aH 4 K n o m::aH 4 K k l j::aH 2 K b c a::aH 52 K b0 b1 J::box q 32 [i64 0,i64 0,zS none 0 0,zS none 0 0,zS b a.length c]::aH 2 K c0 c1 b3::box e 32 d::L) w) ?_ ?_))
    ·rintro f a65 ⟨l9,hm,x6,m0⟩
     unfold rJ at hm
     refine aC ?_
     rcases aG hm with ⟨p4,hm⟩|⟨p4,hm⟩
     ·refine bP p4 x6 (cN (aC (bB (aK [0,1,4,6,7,10,12,13,14] (fun f w=>∃ g3 j7 j8 j9 k0 h7 k1 k3 k4 k5,xY b4 g3 j7 j8=some h2/\f 8=zS j9 g3.length k0/\f 9=zS k1 j7.length k3/\f 11=zS k4 j8.length k5/\List.length h7=List.length g3/\aD G K (aH 30 K j9 k0 (aP h7 g3)::rows [2] h7 g3::aH 4 K n o m::aH 4 K k l j::aH 2 K b c a::aH 52 K k4 k5 j8::box q 32 [i64 0,i64 0,zS none 0 0,zS none 0 0,zS b a.length c]::aH 2 K k1 k3 j7::box e 32 d::L) w) ?_ ?_))))
      ·rintro f a66 ⟨g3,j7,j8,j9,k0,h7,k1,k3,k4,k5,hm,x7,x8,x9,y0,y1⟩
       unfold xY at hm
       exact aC (bR (cW h5 (aM (rO rfl rfl) (aT (v:=i64 (wr (b4+1))) (aU ⟨_,(zI hm).symm,bD,j9,k0,h7,k1,k3,k4,k5,x7,x8,x9,rfl,y0,y1⟩)))))
      refine bC (aR (v:=cD a1 k2) (cW h4 (cW f6 ?_)));obtain ⟨y2,h8,hm⟩:=aB hm
      obtain ⟨⟨y3,y4⟩,m1⟩:=aCT e1 h8
      have p5:=bS m0 (i:=0) rfl (mE e1 h8 m1)
      refine aM (cS tH rfl p5 rfl rfl rfl h8) (aM (yC (t:=0) aDi m0 (i:=0) rfl (mE e1 h8 m1) rfl rfl rfl) (cW h5 ?_));obtain ⟨a67,m2,a68,y5,y6,y7⟩:=aD.lendD' (i:=0) m0 e1 rfl rfl
      obtain ⟨a3,y8,hm⟩:=aB hm
      refine bO (vs:=[cD a1 k2,zS y3 y2.length y4,i64 b4]) call62 rfl (aEB y8 y6 (h3.mono m2) (h6.mono m2) (h9.mono m2) (aPa (y5 _ _ _ m1 (aHB h8)))) ?_
      rintro _ a69 ⟨y,z,rfl,y9⟩
      have V:=y7 _ _ y9
      refine aT (v:=zS y a3.length z) (aU (bB (bC (aR (v:=zS y a3.length z) (aM (gU (len:=a3.length) iX rfl) (aM (aHw rfl rfl) (aU ?_)))))))
      rcases aG hm with ⟨p6,hm⟩|⟨p6,hm⟩
      ·exact aI
      ·refine bT p6 rfl (cN (aC (bB (aDQ (C:=fun w'=>aD G K (aH 30 K d1 d2 (aP r u)::rows [2] r u::aH 2 K y z a3::aH 4 K n o m::aH 4 K k l j::aH 2 K b c a::aH 52 K b0 b1 J::box q 32 [i64 0,i64 0,zS none 0 0,zS none 0 0,zS b a.length c]::aH 2 K c0 c1 b3::box e 32 d::L) w') Tryz_mixed (by kernel_rfl) (aD.mono V (fO.drew _)) (fS (fun _ V=>cX (v:=cD a10 c9) rfl) (fS (fun _ V=>cX l7) (fS (fun _ V=>cX f6) ?_)))))))
       obtain ⟨z0,m3,hm⟩:=aB hm
       have p7:=bS V (i:=8) rfl m3
       refine fS (fun _ V=>cS iX rfl p7 rfl rfl rfl m3) (fS (fun _ V=>yC (t:=0) lD V (i:=8) rfl m3 rfl rfl rfl) (fS (fun _ V=>cX (v:=cD a1 k2) rfl) (fS (fun _ V=>aEc rfl h3) (fS (fun _ V=>gE (k':=k2+2) vU rfl h3 rfl) (fS (fun _ V=>bU (t:=2) uC V h3 rfl rfl) (fS (fun _ V=>cX h5) ?_))))));obtain ⟨z1,p8,hm⟩:=aB hm
       refine fS (fun _ V=>aLt eM rfl h6 rfl rfl rfl p8) ?_;obtain ⟨a71,z2,z3⟩:=aW.el (sz:=1) rfl h6 p8
       cases z3
       refine fS (fun _ V=>bU (t:=0) sc_9 V z2 rfl rfl) ?_;obtain ⟨d6,z4,hm⟩:=aB hm
       refine aIz (vs:=[cD a10 c9,i64 z0,str z1]) (v:=i64 d6) call63 rfl (fun _ V=>(aKl z4 V e8 i4 i5)) (fS (fun _ V=>fP (v:=i64 d6) rfl) (wH (fun a72 a73=>(aC (bC (aT (v:=i64 (-1)) (aU (bB (bC (aT (v:=i64 0) (aU (aK [0,1,4,6,7,8,9,10,11,12,13,14,15,16] (fun f w=>∃ m4,xZ b9 u b3 J b4 a3 d6 m4=some h2/\f 17=i64 m4/\aD G K (aH 30 K d1 d2 (aP r u)::rows [2] r u::aH 2 K y z a3::aH 4 K n o m::aH 4 K k l j::aH 2 K b c a::aH 52 K b0 b1 J::box q 32 [i64 0,i64 0,zS none 0 0,zS none 0 0,zS b a.length c]::aH 2 K c0 c1 b3::box e 32 d::L) w) ?_ ?_))))))))))))
       ·rintro f p9 ⟨m4,hm,z5,z6⟩
        unfold xZ at hm
        refine aC (mZ [0,1,4,6,7,10,11,12,13,14] (fun f w=>∃ c7 e5 e2 g4 g5 d7 g6 g7,aBA b9 J b4 c7 e5 e2=some h2/\f 8=zS g4 c7.length g5/\f 9=zS g6 e5.length g7/\f 17=i64 e2/\List.length d7=List.length c7/\aD G K (aH 2 K g6 g7 e5::aH 30 K g4 g5 (aP d7 c7)::rows [2] d7 c7::aH 4 K n o m::aH 4 K k l j::aH 2 K b c a::aH 52 K b0 b1 J::box q 32 [i64 0,i64 0,zS none 0 0,zS none 0 0,zS b a.length c]::box e 32 d::L) w) ?_ ?_)
        ·rintro f a74 ⟨c7,e5,e2,g4,g5,d7,g6,g7,hm,a76,a77,z7,a78,z8⟩
         unfold aBA at hm
         refine bC (cW x5 (cW f6 (cW h5 (cW z7 (aM (cK (vs:=[(0,i64 b9),(1,i64 b4),(2,i64 e2)]) (cs:=[i64 b9,i64 b4,i64 e2]) aJa rfl (by kernel_rfl)) (eR (Kt:=K) (xs:=([⟨b9,b4,e2⟩]:List Edge)) (cs:=[i64 b9,i64 b4,i64 e2]) (vs:=[(0,zA #[i64 b9,i64 b4,i64 e2])]) iY aHH rfl rfl z8 rfl (by kernel_rfl) rfl rfl rfl ⟨rfl,trivial⟩ (fun z9 a00 (a01:aD G K (aH 52 K z9 1 ([⟨b9,b4,e2⟩]:List Edge)::aH 2 K g6 g7 e5::aH 30 K g4 g5 (aP d7 c7)::rows [2] d7 c7::aH 4 K n o m::aH 4 K k l j::aH 2 K b c a::aH 52 K b0 b1 J::box q 32 [i64 0,i64 0,zS none 0 0,zS none 0 0,zS b a.length c]::box e 32 d::L) a00)=>?_)))))))
         obtain ⟨k6,a02,hm⟩:=aB hm
         exact rR (i:=6) iY underlying25 aHH rfl rfl a01 rfl (zR _) (zR _) a02 rfl rfl rfl rfl (fun _ h=>h) (fun m5 m6 a03 (a79:aD G K (aH 2 K g6 g7 e5::aH 30 K g4 g5 (aP d7 c7)::rows [2] d7 c7::aH 4 K n o m::aH 4 K k l j::aH 2 K b c a::aH 52 K m5 m6 k6::box q 32 [i64 0,i64 0,zS none 0 0,zS none 0 0,zS b a.length c]::box e 32 d::L) a03)=>(aT (v:=zS m5 k6.length m6) (aU (bB (aY [0,1,4,6,7,8,9,10,11,12,13,14] (fun f w=>∃ q0,aDI b4 c7 e5 k6 q0=some h2/\f 142=zB q0/\aD G K (aH 2 K g6 g7 e5::aH 30 K g4 g5 (aP d7 c7)::rows [2] d7 c7::aH 4 K n o m::aH 4 K k l j::aH 2 K b c a::aH 52 K m5 m6 k6::box q 32 [i64 0,i64 0,zS none 0 0,zS none 0 0,zS b a.length c]::box e 32 d::L) w) aI aI)))))
        refine bC (cW z5 (aM (pD rfl rfl) (aU ?_)))
        rcases aG hm with ⟨q1,hm⟩|⟨q1,hm⟩
        ·refine bP q1 rfl (bC (cW h4 (aM (gU (len:=u.length) tH rfl) (aT (v:=i64 (u.length:Int)) (aU (bC (cW h4 (aR (v:=zS y a3.length z) ?_))))))))
         have a04:aD G K (aH 2 K y z a3::aH 30 K d1 d2 (aP r u)::rows [2] r u::aH 4 K n o m::aH 4 K k l j::aH 2 K b c a::aH 52 K b0 b1 J::box q 32 [i64 0,i64 0,zS none 0 0,zS none 0 0,zS b a.length c]::aH 2 K c0 c1 b3::box e 32 d::L) p9:=(aD.arr 3 [2,0,1] z6 rfl)
         have a05:aD G K (rows [2] ([(y,z)]:List (Dp.Hd (List Int))) [a3]::aH 30 K d1 d2 (aP r u)::rows [2] r u::aH 4 K n o m::aH 4 K k l j::aH 2 K b c a::aH 52 K b0 b1 J::box q 32 [i64 0,i64 0,zS none 0 0,zS none 0 0,zS b a.length c]::aH 2 K c0 c1 b3::box e 32 d::L) p9:=aD.rowsOne a04
         refine eR (Kt:=K) (xs:=aP ([(y,z)]:List (Dp.Hd (List Int))) ([a3]:List (List Int))) (cs:=[zS y a3.length z]) (vs:=[(0,zS y a3.length z)]) tH aHI rfl rfl a05 rfl (by kernel_rfl) rfl rfl rfl ⟨rfl,trivial⟩ ?_
         intro a06 a07 (a08:aD G K (aH 30 K a06 1 (aP ([(y,z)]:List (Dp.Hd (List Int))) ([a3]:List (List Int)))::rows [2] ([(y,z)]:List (Dp.Hd (List Int))) ([a3]:List (List Int))::aH 30 K d1 d2 (aP r u)::rows [2] r u::aH 4 K n o m::aH 4 K k l j::aH 2 K b c a::aH 52 K b0 b1 J::box q 32 [i64 0,i64 0,zS none 0 0,zS none 0 0,zS b a.length c]::aH 2 K c0 c1 b3::box e 32 d::L) a07)
         obtain ⟨e6,q2,hm⟩:=aB hm
         refine aPc (i:=0) (tys:=[2]) (hds:=r) (hds2:=([(y,z)]:List (Dp.Hd (List Int)))) tH underlying94 aHI rfl rfl a08 e1 rfl rfl rfl q2 rfl rfl rfl rfl ?_
         intro i0 i1 a09 (a11:aD G K (aH 30 K i0 i1 (aP (r++([(y,z)]:List (Dp.Hd (List Int)))) e6)::rows [2] (r++([(y,z)]:List (Dp.Hd (List Int)))) e6::aH 4 K n o m::aH 4 K k l j::aH 2 K b c a::aH 52 K b0 b1 J::box q 32 [i64 0,i64 0,zS none 0 0,zS none 0 0,zS b a.length c]::aH 2 K c0 c1 b3::box e 32 d::L) a09)
         refine aT (v:=zS i0 e6.length i1) (aU (bR (cW l7 (aR (v:=i64 d6) (eR (Kt:=K) (xs:=([d6]:List Int)) (cs:=[i64 d6]) (vs:=[(0,i64 d6)]) iX aEW rfl rfl a11 rfl (by kernel_rfl) rfl rfl rfl ⟨rfl,trivial⟩ ?_)))))
         intro a12 a14 (a15:aD G K (aH 2 K a12 1 ([d6]:List Int)::aH 30 K i0 i1 (aP (r++([(y,z)]:List (Dp.Hd (List Int)))) e6)::rows [2] (r++([(y,z)]:List (Dp.Hd (List Int)))) e6::aH 4 K n o m::aH 4 K k l j::aH 2 K b c a::aH 52 K b0 b1 J::box q 32 [i64 0,i64 0,zS none 0 0,zS none 0 0,zS b a.length c]::aH 2 K c0 c1 b3::box e 32 d::L) a14)
         obtain ⟨m7,a17,hm⟩:=aB hm
         refine rR (i:=7) iX underlying30 aEW rfl rfl a15 rfl (zR _) (zR _) a17 rfl rfl rfl rfl (fun _ h=>h) ?_
         intro m8 m9 a18 (a19:aD G K (aH 30 K i0 i1 (aP (r++([(y,z)]:List (Dp.Hd (List Int)))) e6)::rows [2] (r++([(y,z)]:List (Dp.Hd (List Int)))) e6::aH 4 K n o m::aH 4 K k l j::aH 2 K b c a::aH 52 K b0 b1 J::box q 32 [i64 0,i64 0,zS none 0 0,zS none 0 0,zS b a.length c]::aH 2 K m8 m9 m7::box e 32 d::L) a18)
         exact aT (v:=zS m8 m7.length m9) (aU ⟨bD,e6,m7,(u.length:Int),i0,i1,(r++([(y,z)]:List (Dp.Hd (List Int)))),m8,m9,hm,rfl,rfl,rfl,(aMb e1 rfl q2),(aD.arr 8 [7,0,1,2,3,4,5,6] a19 rfl)⟩)
        ·exact aI
       obtain ⟨a80,a20,ho⟩:=aB hm
       refine bV [0,1,4,6,7,8,9,10,11,12,13,14,15,16] a20 (fun n0 i2 f w=>f 17=i64 n0/\f 18=i64 i2/\aD G K (aH 30 K d1 d2 (aP r u)::rows [2] r u::aH 2 K y z a3::aH 4 K n o m::aH 4 K k l j::aH 2 K b c a::aH 52 K b0 b1 J::box q 32 [i64 0,i64 0,zS none 0 0,zS none 0 0,zS b a.length c]::aH 2 K c0 c1 b3::box e 32 d::L) w) aI ?_
       ·rintro n0 i2 q3 f a81 hm hr ⟨a82,k7,n1⟩
        unfold nZ at hm
        refine bB (bC (cW k7 (cW h4 (aM (gU (len:=u.length) tH rfl) (aM (pD rfl rfl) (aU ?_))))))
        rcases aG hm with ⟨q4,hm⟩|⟨q4,hm⟩
        ·refine bP q4 rfl (cN (aC (bB (aK [0,1,4,6,7,8,9,10,11,12,13,14,15,16,18] (fun f w=>∃ n2,aBB i2 n2=some q3/\f 17=i64 n2/\aD G K (aH 30 K d1 d2 (aP r u)::rows [2] r u::aH 2 K y z a3::aH 4 K n o m::aH 4 K k l j::aH 2 K b c a::aH 52 K b0 b1 J::box q 32 [i64 0,i64 0,zS none 0 0,zS none 0 0,zS b a.length c]::aH 2 K c0 c1 b3::box e 32 d::L) w) ?_ ?_))))
         ·rintro f a83 ⟨n2,hm,a21,a22⟩
          unfold aBB at hm
          exact aC (bR (cW k7 (aM (rO rfl rfl) (aT (v:=i64 (wr (i2+1))) (aU ⟨_,(zI hm).symm,bD,a21,rfl,a22⟩)))))
         refine bB (aY [0,1,4,6,7,8,9,10,11,12,13,14,15,16,17,18] (fun f w=>∃ q5,aDJ n0 i2 q5=some q3/\f 114=zB q5/\aD G K (aH 30 K d1 d2 (aP r u)::rows [2] r u::aH 2 K y z a3::aH 4 K n o m::aH 4 K k l j::aH 2 K b c a::aH 52 K b0 b1 J::box q 32 [i64 0,i64 0,zS none 0 0,zS none 0 0,zS b a.length c]::aH 2 K c0 c1 b3::box e 32 d::L) w) aI (bR (cW l7 (cW k7 ?_))));obtain ⟨a23,q6,hm⟩:=aB hm
         refine aM (cS iX rfl p7 rfl rfl rfl q6) (aM (yC (t:=0) lD n1 (i:=8) rfl q6 rfl rfl rfl) (aR (v:=i64 d6) (aM (aHw rfl rfl) (aR (v:=zB (a23 == d6)) ?_))))
         rcases aG hm with ⟨f7,hm⟩|⟨f7,hm⟩
         ·refine nS f7 rfl rfl (cW h4 (nS f7 rfl rfl (cW k7 (nS f7 rfl rfl ?_))));obtain ⟨a25,k8,hm⟩:=aB hm
          refine aM (cS tH rfl p5 rfl rfl rfl k8) (nS f7 rfl rfl ?_);obtain ⟨⟨a26,a27⟩,q7⟩:=aCT e1 k8
          refine aM (yC (t:=0) aDi n1 (i:=0) rfl (mE e1 k8 q7) rfl rfl rfl) (nS f7 rfl rfl (aR (v:=zS y a3.length z) (nS f7 rfl rfl ?_)));obtain ⟨a84,a28,a85,a29,a31,a32⟩:=aD.lendD' (i:=0) n1 e1 rfl rfl
          obtain ⟨a86,a33,a34,a35,a37⟩:=aD.lendSp a31 a28 .head
          obtain ⟨a87,a38,hm⟩:=aB hm
          refine bO (vs:=[zS a26 a25.length a27,zS y a3.length z]) call64 rfl (aEC a38 a35 ((aPa (a29 _ _ _ q7 (aHB k8))).mono a33) a34) ?_
          rintro _ a88 ⟨rfl,a39⟩
          have a40:=a37 _ _ a39
          have a89:=a32 _ _ a40
          exact aI
         ·exact aI
        ·exact aI
     ·exact aI
    refine bR (cW h5 (aR (v:=cD a1 k2) (aM (aEc rfl h3) (aM (gE (k':=k2+2) vU rfl h3 rfl) (aM (bU (t:=2) uC l8 h3 rfl rfl) (aM (gU (len:=t.L.length) eM rfl) (aM (pD rfl rfl) (aR (v:=zB (decide (b4 < (t.L.length:Int)))) ?_))))))))
    rcases aG hm with ⟨f8,hm⟩|⟨f8,hm⟩
    ·exact nS f8 rfl rfl (aR (v:=i64 d5) (nS f8 rfl rfl (aM (aHw rfl rfl) (aM (wG (v:=zB (d5 == 0)) f8 rfl rfl) (aU ⟨bD,d5 == 0,hm,rfl,l8⟩)))))
    ·exact aGd f8 rfl rfl (aGd f8 rfl rfl (aM (yY (v:=zB false) f8 rfl rfl) (aU ⟨bD,false,hm,rfl,l8⟩)))
  ·refine bT l1 rfl (aAZ (iW (iW ?_)))
   have a42:=hr _ (zI hm).symm
   subst a42
   have hm:(xX t b8 d4 d8)=some R:=ho
   clear hr ho
   exact uB (aC ⟨bD,b8,d4,d8,f2,f3,d3,d9,e0,e3,e4,hm,l0,u0,o4,(aD.arr 8 [1,0,4,5,2] o5 rfl)⟩)
theorem aJC {t p:aS} {R:(aZ × Int)} (hm:vG t p=some R) (hs:aD G K (L) w) (e:aW K a1 c2 t.L) (g:aW K a4 c5 t.E) (h:aW K a7 c8 p.L) (i:aW K a10 c11 p.E):
  Calls Tryz.prog 7 ([zA (zCa t a1 c2 a4 c5),zA (zCa p a7 c8 a10 c11)]:List Value).toArray w (dS fun v w'=>∃ j k l m n o,v=Value.tuple #[zA #[i64 R.1.S.N,i64 R.1.S.I,zS j R.1.S.L.length k,zS l R.1.S.E.length m,zS n R.1.Verdicts.length o],i64 R.2]/\aD G K (aH 9 K j k R.1.S.L::aH 52 K l m R.1.S.E::aH 2 K n o R.1.Verdicts::L) w'):=by
 refine cM func7 ?_;unfold vG at hm
 refine aF ?_;refine oE fun b2 b3 b4=>?_
 refine oE fun b5 b6 b7=>?_;refine iN fun b8 b9 q=>?_
 refine aF ?_;obtain ⟨c0,c,r,u,x⟩:=aD.lendBp q (.tail (.tail .head))
 obtain ⟨c1,a,y,z,J⟩:=aD.lendBp u (.tail .head)
 obtain ⟨c3,V,hm⟩:=aB hm
 refine cC call16 (aFW V z (r.mono a) (e.mono (zL c a)) (g.mono (zL c a)) y (h.mono (zL c a)) (i.mono (zL c a))) ?_
 rintro _ c4 ⟨rfl,Z⟩
 have a0:=J _ _ Z
 have a2:=x _ _ a0
 refine aF ?_
 rcases aG hm with ⟨a3,hm⟩|⟨a3,hm⟩
 ·exact aI
 ·refine aF ?_;obtain ⟨c6,d,a5,a6,c7⟩:=aD.lendBp a2 .head
  obtain ⟨c9,b,a8,a9,d0⟩:=aD.lendBp a6 .head
  obtain ⟨d1,b0,hm⟩:=aB hm
  exact cC call19 (aIg b0 a9 (a5.mono b) (e.mono (zL d b)) (g.mono (zL d b)) a8 (h.mono (zL d b)) (i.mono (zL d b))) aI
theorem aBJ {a:Int} {R:Bool} (hm:aBC a=some R) (b:aD G K (L) w):
  Calls Tryz.prog 25 ([i64 a]:List Value).toArray w (dS fun v w'=>v=zB R/\aD G K (L) w'):=by
 exact aI
theorem uP {a:(List Int)} {R:Int} (hm:fC a=some R) (l:aD G K (L) w) (d:aW K a1 c2 a):
  Calls Tryz.prog 72 ([zS a1 a.length c2,Value.func (.func 25) #[] #[]]:List Value).toArray w (dS fun v w'=>v=i64 R/\aD G K (L) w'):=by
 refine cM func72 ?_;unfold fC at hm
 refine aF ?_;refine aK [] (fun f w=>lX=some R/\aD G K (L) w) aI ?_
 obtain ⟨m,e,ho⟩:=aB hm
 refine dX [0,1,7] e (fun b f w=>f 8=i64 b/\aD G K (L) w) aI ?_
 ·rintro b n f o hm hr ⟨p,g⟩
  unfold dB at hm
  refine aF ?_
  rcases aG hm with ⟨h,hm⟩|⟨h,hm⟩
  ·refine aF ?_;refine cA (aF ?_)
   obtain ⟨c,i,hm⟩:=aB hm
   refine aF ?_;obtain ⟨q,r,j⟩:=aW.el (sz:=1) rfl d i
   cases j
   refine aF ?_;obtain ⟨t,k,hm⟩:=aB hm
   exact fR (vs:=[i64 c]) (caps:=[]) (us:=[i64 c]) rfl call25 rfl rfl (aBJ k g) aI
  ·exact aI
theorem kD {a:(List Int)} {R:Bool} (hm:eI a=some R) (b:aD G K (L) w) (c:aW K a1 c2 a):
  Calls Tryz.prog 24 ([zS a1 a.length c2,Value.func (.func 25) #[] #[]]:List Value).toArray w (dS fun v w'=>v=zB R/\aD G K (L) w'):=by
 exact aI
theorem aBK {e:Edge} {p:aZ} {a:Nat} {R:Bool} (hm:aBD e p=some R) (b:aD G K (L) w) (c:cT K a1 a [i64 p.S.N,i64 p.S.I,zS a4 p.S.L.length c5,zS a7 p.S.E.length c8,zS a10 p.Verdicts.length c11]) (d:aW K a4 c5 p.S.L) (g:aW K a7 c8 p.S.E) (h:aW K a10 c11 p.Verdicts):
  Calls Tryz.prog 28 ([zA #[i64 e.F,i64 e.B,i64 e.To],cD a1 a]:List Value).toArray w (dS fun v w'=>v=zB R/\aD G K (L) w'):=by
 exact aI
theorem rM {d:(List Edge)} {a:aZ} {c:Nat} {R:Int} (hm:dW d a=some R) (r:aD G K (L) w) (g:aW K a1 c2 d) (h:cT K a4 c [i64 a.S.N,i64 a.S.I,zS a7 a.S.L.length c8,zS a10 a.S.E.length c11,zS a13 a.Verdicts.length c14]) (i:aW K a7 c8 a.S.L) (j:aW K a10 c11 a.S.E) (k:aW K a13 c14 a.Verdicts):
  Calls Tryz.prog 73 ([zS a1 d.length c2,Value.func (.func 28) #[] #[cD a4 c]]:List Value).toArray w (dS fun v w'=>v=i64 R/\aD G K (L) w'):=by
 refine cM func73 ?_;unfold dW at hm
 refine aF ?_;refine aK [] (fun f w=>jY=some R/\aD G K (L) w) aI ?_
 obtain ⟨t,l,ho⟩:=aB hm
 refine dX [0,1,7] l (fun e f w=>f 8=i64 e/\aD G K (L) w) aI ?_
 ·rintro e u f x hm hr ⟨y,m⟩
  unfold cH at hm
  refine aF ?_
  rcases aG hm with ⟨n,hm⟩|⟨n,hm⟩
  ·refine aF ?_;refine cA (aF ?_)
   obtain ⟨b,o,hm⟩:=aB hm
   refine aF ?_;obtain ⟨z,J,p⟩:=aW.el (sz:=3) rfl g o
   cases p
   refine aF ?_;obtain ⟨V,q,hm⟩:=aB hm
   exact fR (vs:=[zA #[i64 b.F,i64 b.B,i64 b.To]]) (caps:=[cD a4 c]) (us:=[zA #[i64 b.F,i64 b.B,i64 b.To],cD a4 c]) rfl call28 rfl rfl (aBK q m h i j k) aI
  ·exact aI
theorem iM {b:(List Edge)} {a:aZ} {c:Nat} {R:Bool} (hm:dD b a=some R) (d:aD G K (L) w) (e:aW K a1 c2 b) (g:cT K a4 c [i64 a.S.N,i64 a.S.I,zS a7 a.S.L.length c8,zS a10 a.S.E.length c11,zS a13 a.Verdicts.length c14]) (h:aW K a7 c8 a.S.L) (i:aW K a10 c11 a.S.E) (j:aW K a13 c14 a.Verdicts):
  Calls Tryz.prog 27 ([zS a1 b.length c2,Value.func (.func 28) #[] #[cD a4 c]]:List Value).toArray w (dS fun v w'=>v=zB R/\aD G K (L) w'):=by
 exact aI
theorem yU {m:aZ} {R:Bool} (hm:jE m=some R) (q:aD G K (L) w) (r:G.lo=0) (g:aW K a1 c2 m.S.L) (c:aW K a4 c5 m.S.E) (d:aW K a7 c8 m.Verdicts):
  Calls Tryz.prog 10 ([zA #[i64 m.S.N,i64 m.S.I,zS a1 m.S.L.length c2,zS a4 m.S.E.length c5,zS a7 m.Verdicts.length c8]]:List Value).toArray w (dS fun v w'=>v=zB R/\aD G K (L) w'):=by
 refine cM func10 ?_;unfold jE at hm
 refine aF ?_;refine oE fun e t u=>?_
 iterate 5 refine cE ?_
 refine aY [1] (fun f w=>∃ b,qH m b=some R/\f 15=zB b/\aD G K (box e 32 [i64 m.S.N,i64 m.S.I,zS a1 m.S.L.length c2,zS a4 m.S.E.length c5,zS a7 m.Verdicts.length c8]::L) w) ?_ ?_
 ·rintro f x ⟨b,hm,y,h⟩
  unfold qH at hm
  refine aF ?_
  rcases aG hm with ⟨i,hm⟩|⟨i,hm⟩
  ·exact aI
  ·refine aF ?_;obtain ⟨z,j,hm⟩:=aB hm
   refine cC call24 (kD j h d) ?_
   rintro _ J ⟨rfl,k⟩
   refine aF ?_
   rcases aG hm with ⟨l,hm⟩|⟨l,hm⟩
   ·exact aI
   ·iterate 8 refine cE ?_
    refine aM (fF (vs:=[Value.pointer (some ⟨e,0,none⟩)]) rfl) ?_;obtain ⟨V,a,n,o,Z⟩:=aD.lendBp k .head
    obtain ⟨a0,p,hm⟩:=aB hm
    exact cC call27 (iM p o (c.mono a) n (g.mono a) (c.mono a) (d.mono a)) aI
 exact aI
theorem aJl {m R:(List Int)} (hm:aGp m=some R) (hs:aD G K (L) w) (h3:aW K a1 c2 m):
  Calls Tryz.prog 65 ([zS a1 m.length c2]:List Value).toArray w (dS fun v w'=>∃ u x,v=zS u R.length x/\aD G K (aH 2 K u x R::L) w'):=by
 refine cM func65 ?_;unfold aGp at hm
 refine aF ?_;refine aHD Int Int hs ?_
 intro c w5 (a4:aD G K (jP c ([]:(List (Int × Int)))::L) w5)
 refine aF ?_;obtain ⟨a,q8,hm⟩:=aB hm
 refine aLu (e:=(0:Int)) iX aEW rfl rfl a4 rfl rfl rfl q8 rfl ?_
 intro b a6 (c3:aD G K (aH 2 K b a.length a::jP c ([]:(List (Int × Int)))::L) a6)
 refine aF ?_;refine aK [] (fun f w=>∃ o,aLB o=some R/\f 4=zS b o.length a.length/\aD G K (aH 2 K b a.length o::L) w) aI ?_
 obtain ⟨c4,a7,ho⟩:=aB hm
 refine lK [3,13,14] a7 (fun g d p f w=>f 4=zS b d.length a.length/\f 15=i64 p/\aD G K (aH 2 K b a.length d::jP c g::L) w) aI ?_
 ·rintro g d p a8 f c5 hm hr ⟨b0,c6,q⟩
  unfold tJ at hm
  refine aF ?_
  rcases aG hm with ⟨b1,hm⟩|⟨b1,hm⟩
  ·refine aF ?_;refine cA (aF ?_)
   obtain ⟨y,b2,hm⟩:=aB hm
   refine aF ?_;obtain ⟨c7,c8,b3⟩:=aW.el (sz:=1) rfl h3 b2
   cases b3
   refine aF ?_;refine aM (aPd (kv:=g) (k:=y) (z:=(0:Int)) runUnderlying166 ko_2 zeroValue2 q (i:=1) rfl rfl rfl) ?_
   iterate 7 refine cE ?_
   refine mZ [3,4,5,13,14,15] (fun f w=>∃ l j,aCJ d p l j=some a8/\f 7=i64 j/\aD G K (aH 2 K b a.length d::jP c l::L) w) ?_ ?_
   ·rintro f c9 ⟨l,j,hm,d0,J⟩
    unfold aCJ at hm
    refine aF ?_;obtain ⟨d1,r,hm⟩:=aB hm
    have b4:=bS J (i:=0) rfl r
    refine aM (cS iX rfl b4 rfl rfl rfl r) ?_;obtain ⟨b5,V,hm⟩:=aB hm
    refine oO (i:=0) (t:=0) (ns:=[i64 j]) (e':=(j:Int)) sizeOf2 J rfl (zR _) rfl rfl rfl r V rfl rfl (nI rfl) rfl (fun cs h=>by cases h;rfl) (fun b6 (b7:aD G K (aH 2 K b a.length b5::jP c l::L) b6)=>(aF ?_));exact ⟨_,(zI hm).symm,bD,(Eq.trans b0 (congrArg (fun n=>zS b n a.length) (jM V))),rfl,b7⟩
   refine aF ?_
   rcases aG hm with ⟨b8,hm⟩|⟨b8,hm⟩
   ·refine aF ?_;refine aM (R_lenM runUnderlying166 q (i:=1) rfl rfl) (aF ?_)
    obtain ⟨Z,b9,hm⟩:=aB hm
    refine aHE (i:=1) (k:=y) (v:=(g.length:Int)) runUnderlying166 ko_2 q rfl rfl rfl rfl b9 (fun c0 (c1:aD G K (aH 2 K b a.length d::jP c Z::L) c0)=>(aF ?_));exact ⟨bD,Z,(g.length:Int),hm,rfl,c1⟩
   ·exact aI
  ·exact aI
theorem oW {a b:(List Int)} {R:Bool} (hm:eE a b=some R) (g:aD G K (L) w) (h:aW K a1 c2 a) (i:aW K a4 c5 b):
  Calls Tryz.prog 67 ([zS a1 a.length c2,zS a4 b.length c5]:List Value).toArray w (dS fun v w'=>v=zB R/\aD G K (L) w'):=by
 refine cM func67 ?_;unfold eE at hm
 refine aF ?_
 rcases aG hm with ⟨c,hm⟩|⟨c,hm⟩
 ·exact aI
 ·refine aF ?_;refine aK [] (fun f w=>qI=some R/\aD G K (L) w) aI ?_
  obtain ⟨j,d,ho⟩:=aB hm
  exact dX [0,1,12] d (fun e f w=>f 13=i64 e/\aD G K (L) w) aI aI
theorem aCN {k p:(List Int)} {a:Nat} {R:Bool} (hm:aCW k p=some R) (b:aD G K (L) w) (c:aW K a1 c2 k) (d:cT K a4 a [zS a7 p.length c8]) (e:aW K a7 c8 p):
  Calls Tryz.prog 116 ([zS a1 k.length c2,cD a4 a]:List Value).toArray w (dS fun v w'=>v=zB R/\aD G K (L) w'):=by
 exact aI
end Gv
namespace Gv
open Go.Value renaming slice→zS,bool→zB,pointer→zP,agg→zA,map→zM
open Option.some renaming inj→zI
open Gv.Hp renaming le_trans→zL,le_refl→zR
open Go Go.Proofs Go.Proofs.Tryz
set_option maxRecDepth 20000
set_option maxHeartbeats 40000000
variable {G:Env} {K:Hp} {L:List iI} {w:World} {a1 a4 a7 a2 a5 a10 a3 a6 a8 a11 a14 a17 a20 a23 a13 a16 a19 a22:Option Addr} {c2 c8 c5 b1 c3 c6 c11 b2 c4 c7 c12 c21 c24 c14 c17 c20 c23:Nat}
theorem kY {b:(List (List Int))} {c:(List Int)} {a:Nat} {R:Int} (hm:dE b c=some R) (t:aD G K (L) w) (i:aW K a1 c2 b) (j:cT K a4 a [zS a7 c.length c8]) (k:aW K a7 c8 c):
  Calls Tryz.prog 115 ([zS a1 b.length c2,Value.func (.func 116) #[] #[cD a4 a]]:List Value).toArray w (dS fun v w'=>v=i64 R/\aD G K (L) w'):=by
 refine cM func115 ?_;unfold dE at hm
 refine aF ?_;refine aK [] (fun f w=>lN=some R/\aD G K (L) w) aI ?_
 obtain ⟨u,l,ho⟩:=aB hm
 refine dX [0,1,7] l (fun d f w=>f 8=i64 d/\aD G K (L) w) aI ?_
 ·rintro d x f y hm hr ⟨z,m⟩
  unfold bW at hm
  refine aF ?_
  rcases aG hm with ⟨n,hm⟩|⟨n,hm⟩
  ·refine aF ?_;refine cA (aF ?_)
   obtain ⟨e,o,hm⟩:=aB hm
   refine aF ?_;obtain ⟨J,V,p⟩:=aW.el (sz:=1) rfl i o
   obtain ⟨g,h,rfl,q⟩:=p
   refine aF ?_;obtain ⟨Z,r,hm⟩:=aB hm
   exact fR (vs:=[zS g e.length h]) (caps:=[cD a4 a]) (us:=[zS g e.length h,cD a4 a]) rfl call116 rfl rfl (aCN r m q j k) aI
  ·exact aI
theorem aFv {d:(List (List Int))} {R:(List Int)} (hm:aBE d=some R) (q:aD G K (L) w) (e:aW K a1 c2 d):
  Calls Tryz.prog 66 ([zS a1 d.length c2]:List Value).toArray w (dS fun v w'=>∃ i j,v=zS i R.length j/\aD G K (aH 2 K i j R::L) w'):=by
 refine cM func66 ?_;unfold aBE at hm
 refine aF ?_;refine aK [] (fun f w=>∃ g k l,aCX g=some R/\f 3=zS k g.length l/\aD G K (aH 2 K k l g::L) w) aI ?_
 have a7:=aD.nil (α:=Int) q 2 K
 obtain ⟨a8,r,ho⟩:=aB hm
 refine bV [0,7,8] r (fun a h f w=>∃ b c,f 3=zS b a.length c/\f 9=i64 h/\aD G K (aH 2 K b c a::L) w) aI ?_
 ·rintro a h t f a9 hm hr ⟨b,c,b0,b1,b2⟩
  unfold lE at hm
  refine aF ?_
  rcases aG hm with ⟨u,hm⟩|⟨u,hm⟩
  ·refine aF ?_;refine cA (aF ?_)
   obtain ⟨b3,x,hm⟩:=aB hm
   refine aF ?_;obtain ⟨b4,b5,y⟩:=aW.el (sz:=1) rfl e x
   obtain ⟨b6,b7,rfl,z⟩:=y
   refine aF ?_;refine iN fun J b8 b9=>?_
   refine aF ?_;refine gM fun c0 V=>?_
   refine aF ?_;obtain ⟨c1,m,hm⟩:=aB hm
   obtain ⟨c3,c4,n⟩:=Cut.ex 1 a1 c2 0
   have Z:=aW.cut' e m n
   refine aM (aHF tH e.room n rfl rfl rfl m) (aM (fF (vs:=[zP (some ⟨J,0,none⟩)]) rfl) ?_);obtain ⟨c5,o,a0,a2,a3⟩:=aD.lendBp V .head
   obtain ⟨c7,a4,hm⟩:=aB hm
   refine cC call115 (kY a4 a2 (Z.mono o) a0 (z.mono o)) ?_
   rintro _ c8 ⟨rfl,a6⟩
   have c9:=a3 _ _ a6
   iterate 3 refine cE ?_
   exact mZ [0,3,7,8,9] (fun f w=>∃ p,aAm a h p=some t/\f 6=i64 p/\aD G K (aH 2 K b c a::L) w) aI aI
  ·exact aI
theorem yG {k:Int} {p:(List Int)} {a:Nat} {R:aJ} (hm:qJ k p=some R) (b:aD G K (L) w) (c:cT K a1 a [zS a4 p.length c5]) (d:aW K a4 c5 p):
  Calls Tryz.prog 68 ([i64 k,cD a1 a]:List Value).toArray w (dS fun v w'=>v=str R/\aD G K (L) w'):=by
 exact aI
theorem iQ {c:(List Int)} {g:(List (aJ × Int))} {b:Nat} {a:(List fD)} {h:(List Int)} {d:Nat} {e:Int} {R:(Int × (List Int) × (List (aJ × Int)))} (hm:eJ c g a h e=some R) (x:aD G K (aH 2 K a2 c3 c::jP b g::aH 154 K a5 c6 a::box b1 172 [zS a2 c.length c3,zM (some b),zS a5 a.length c6,Value.func (.func 68) #[] #[cD a7 d]]::L) w) (y:cT K a7 d [zS a10 h.length c11]) (J:aW K a10 c11 h):
  Calls Tryz.prog 117 ([zP (some ⟨b1,0,none⟩),i64 e]:List Value).toArray w (dS fun v w'=>∃ l m,v=i64 R.1/\aD G K (aH 2 K l m R.2.1::jP b R.2.2::aH 154 K a5 c6 a::box b1 172 [zS l R.2.1.length m,zM (some b),zS a5 a.length c6,Value.func (.func 68) #[] #[cD a7 d]]::L) w'):=by
 refine cM func117 ?_;unfold eJ at hm
 refine aF ?_;obtain ⟨n,V,hm⟩:=aB hm
 refine fR (vs:=[i64 e]) (caps:=[cD a7 d]) (us:=[i64 e,cD a7 d]) rfl call68 rfl rfl (yG V x y J) ?_
 rintro _ a9 ⟨rfl,o⟩
 refine aF ?_;refine aM (aPd (kv:=g) (k:=n) (z:=(0:Int)) runUnderlying149 ko_9 zeroValue2 o (i:=1) rfl rfl rfl) ?_
 iterate 7 refine cE ?_
 refine mZ [] (fun f w=>∃ p j q r t,nE p j q=some R/\f 6=i64 p/\aD G K (aH 2 K r t j::jP b q::aH 154 K a5 c6 a::box b1 172 [zS r j.length t,zM (some b),zS a5 a.length c6,Value.func (.func 68) #[] #[cD a7 d]]::L) w) aI (aF ?_)
 rcases aG hm with ⟨Z,hm⟩|⟨Z,hm⟩
 ·refine aF ?_;obtain ⟨u,a0,hm⟩:=aB hm
  refine aHE (i:=1) (k:=n) (v:=(c.length:Int)) runUnderlying149 ko_9 o rfl rfl rfl rfl a0 (fun a1 (b0:aD G K (aH 2 K a2 c3 c::jP b u::aH 154 K a5 c6 a::box b1 172 [zS a2 c.length c3,zM (some b),zS a5 a.length c6,Value.func (.func 68) #[] #[cD a7 d]]::L) a1)=>(aF ?_));refine lI ([e]:List Int) fun b2 b3 b4=>?_
  obtain ⟨a3,b5,hm⟩:=aB hm
  refine aGF fun a4 a6 b6 b7=>?_;refine aF ?_
  refine gM fun b8 a8=>?_;refine aF ?_
  exact ⟨bD,(c.length:Int),a3,u,a4,a6,hm,rfl,a8⟩
 ·exact aI
theorem yH {a:aJ} {next:Int} {g:(List Int)} {t:(List (aJ × Int))} {b:Nat} {h:(List fD)} {k:(List Int)} {c:Nat} {p:Int} {u:Nat} {R:((List Int) × (List (aJ × Int)) × (List fD))} (hm:mJ a next g t h k p=some R) (hs:aD G K (aH 2 K a3 c4 g::jP b t::aH 154 K a6 c7 h::box b2 172 [zS a3 g.length c4,zM (some b),zS a6 h.length c7,Value.func (.func 68) #[] #[cD a8 c]]::box b1 170 [zP (some ⟨b2,0,none⟩)]::L) w) (x:cT K a8 c [zS a11 k.length c12]) (y:aW K a11 c12 k) (c8:cT K a14 u [i64 p]):
  Calls Tryz.prog 118 ([str a,i64 next,zP (some ⟨b1,0,none⟩),cD a14 u]:List Value).toArray w (dS fun v w'=>∃ z J V Z,v=Value.tuple #[]/\aD G K (aH 2 K z J R.1::jP b R.2.1::aH 154 K V Z R.2.2::box b2 172 [zS z R.1.length J,zM (some b),zS V R.2.2.length Z,Value.func (.func 68) #[] #[cD a8 c]]::box b1 170 [zP (some ⟨b2,0,none⟩)]::L) w'):=by
 refine cM func118 ?_;unfold mJ at hm
 refine aY [] (fun f w=>∃ l a0 m a1 a2 a4 a5,sQ l a0 m=some R/\aD G K (aH 154 K a4 a5 m::aH 2 K a1 a2 l::jP b a0::box b2 172 [zS a1 l.length a2,zM (some b),zS a4 m.length a5,Value.func (.func 68) #[] #[cD a8 c]]::box b1 170 [zP (some ⟨b2,0,none⟩)]::L) w) aI ?_;obtain ⟨b6,d,c9,b7,n⟩:=aD.lendBp hs (.tail (.tail (.tail (.tail .head))))
 refine oD (C:=fun w'=>∃ L',aD G b6 L' w') [] Tryz_mixed (by kernel_rfl) (fun d0 b8=>?_)
 have o:=aD.mono b7 b8
 refine eV 0 ?_;refine eV 1 ?_
 refine eV 2 ?_;refine eV 3 ?_
 refine eV 5 ?_;refine eV 6 ?_
 refine eV 7 ?_;refine eV 8 ?_
 refine mR (i:=4) (j:=9) (by kernel_rfl) rfl rfl ?_ ?_
 ·iterate 1 refine cE ?_
  refine aL (aC ⟨fun _=>⟨_,o⟩,?_⟩)
  refine aQ (i:=9) (by kernel_rfl) rfl ?_;obtain ⟨q,b9,hm⟩:=aB hm
  refine cC call117 (iQ b9 o (x.mono d) (y.mono d)) ?_
  rintro _ d1 ⟨d2,d3,rfl,a7⟩
  refine aL (aC ⟨fun _=>⟨_,a7⟩,?_⟩)
  refine gD (i:=10) rfl (by kernel_rfl) ⟨_,a7⟩ (fun _ _=>cK (vs:=[(0,i64 p),(1,str a),(2,i64 q.1)]) (cs:=[i64 p,str a,i64 q.1]) aHK rfl (by kernel_rfl)) (aQ (i:=11) (by kernel_rfl) rfl (lI ([⟨p,a,q.1⟩]:List fD) fun d4 d5 c0=>?_));refine aL (aC ⟨fun _=>⟨_,c0⟩,?_⟩)
  refine aQ (i:=12) (by kernel_rfl) rfl ?_;obtain ⟨d6,d7,hm⟩:=aB hm
  refine aGF fun d8 c48 d9 c1=>?_;refine aL (aC ⟨fun _=>⟨_,c1⟩,?_⟩)
  refine eV 13 ?_;refine eV 14 ?_
  refine aQ (i:=15) (by kernel_rfl) rfl (gM fun e0 a9=>?_);refine aL (aC ⟨fun _=>⟨_,a9⟩,?_⟩)
  refine eX (by kernel_rfl) ?_
  have e1:=n _ _ a9
  exact aI
 ·obtain ⟨e,c2,hm⟩:=aB hm
  refine cC call117 (iQ c2 o (x.mono d) (y.mono d)) ?_
  rintro _ e2 ⟨e3,e4,rfl,r⟩
  refine aL (aC ⟨fun _=>⟨_,r⟩,?_⟩)
  refine gD (i:=10) rfl (by kernel_rfl) ⟨_,r⟩ (fun _ _=>cK (vs:=[(0,i64 p),(1,str a),(2,i64 e.1)]) (cs:=[i64 p,str a,i64 e.1]) aHK rfl (by kernel_rfl)) (mR (i:=4) (j:=11) (by kernel_rfl) rfl rfl ?_ ?_)
  ·iterate 1 refine cE ?_
   refine aL (aC ⟨fun _=>⟨_,r⟩,?_⟩)
   refine aQ (i:=11) (by kernel_rfl) rfl (lI ([⟨p,a,e.1⟩]:List fD) fun e5 e6 c3=>?_);refine aL (aC ⟨fun _=>⟨_,c3⟩,?_⟩)
   refine aQ (i:=12) (by kernel_rfl) rfl ?_;obtain ⟨e7,e8,hm⟩:=aB hm
   refine aGF fun e9 f0 f1 c5=>?_;refine aL (aC ⟨fun _=>⟨_,c5⟩,?_⟩)
   refine eV 13 ?_;refine eV 14 ?_
   refine aQ (i:=15) (by kernel_rfl) rfl (gM fun f2 b0=>?_);refine aL (aC ⟨fun _=>⟨_,b0⟩,?_⟩)
   refine eX (by kernel_rfl) ?_
   have f3:=n _ _ b0
   exact aI
  ·refine lI ([⟨p,a,e.1⟩]:List fD) fun f4 f5 b3=>?_;refine aL (aC ⟨fun _=>⟨_,b3⟩,?_⟩)
   refine aQ (i:=4) (by kernel_rfl) rfl ?_
   iterate 1 refine cE ?_
   refine aL (aC ⟨fun _=>⟨_,b3⟩,?_⟩)
   refine aQ (i:=12) (by kernel_rfl) rfl ?_;obtain ⟨f6,f7,hm⟩:=aB hm
   refine aGF fun f8 f9 g0 c6=>?_;refine aL (aC ⟨fun _=>⟨_,c6⟩,?_⟩)
   refine eV 13 ?_;refine eV 14 ?_
   refine aQ (i:=15) (by kernel_rfl) rfl (gM fun g1 b4=>?_);refine aL (aC ⟨fun _=>⟨_,b4⟩,?_⟩)
   refine eX (by kernel_rfl) ?_
   have g2:=n _ _ b4
   exact aI
theorem yI {k:Int} {m:(List Int)} {y:(List (aJ × Int))} {a:Nat} {n:(List fD)} {o:(List Int)} {b:Nat} {z:Int} {l:Nat} {p:aS} {J:Nat} {R:(Bool × (List Int) × (List (aJ × Int)) × (List fD))} (hm:mK k m y n o z p=some R) (hs:aD G K (aH 2 K a3 c4 m::jP a y::aH 154 K a6 c7 n::box b2 172 [zS a3 m.length c4,zM (some a),zS a6 n.length c7,Value.func (.func 68) #[] #[cD a8 b]]::box b1 170 [zP (some ⟨b2,0,none⟩)]::L) w) (c1:cT K a8 b [zS a11 o.length c12]) (c2:aW K a11 c12 o) (c3:cT K a14 l [i64 z]) (e0:cT K a17 J (zC p a20 c21 a23 c24)) (V:aW K a20 c21 p.L) (c5:aW K a23 c24 p.E):
  Calls Tryz.prog 70 ([i64 k,Value.func (.func 118) #[] #[zP (some ⟨b1,0,none⟩),cD a14 l],cD a17 J]:List Value).toArray w (dS fun v w'=>∃ Z a0 a1 a2,v=zB R.1/\aD G K (aH 2 K Z a0 R.2.1::jP a R.2.2.1::aH 154 K a1 a2 R.2.2.2::box b2 172 [zS Z R.2.1.length a0,zM (some a),zS a1 R.2.2.2.length a2,Value.func (.func 68) #[] #[cD a8 b]]::box b1 170 [zP (some ⟨b2,0,none⟩)]::L) w'):=by
 let q:=[zP (some ⟨b2,0,none⟩)]
 refine cM func70 ?_;unfold mK at hm
 refine aF ?_;obtain ⟨a4,c6,hm⟩:=aB hm
 refine cC call30 (xC c6 hs V c5) ?_
 rintro _ e1 ⟨a5,a7,rfl,e2⟩
 refine aF ?_;refine aK [] (fun f w=>∃ r a9 t b0 b3 b4 b5,sS r a9 t=some R/\aD G K (aH 154 K b4 b5 t::aH 2 K b0 b3 r::jP a a9::box b2 172 [zS b0 r.length b3,zM (some a),zS b4 t.length b5,Value.func (.func 68) #[] #[cD a8 b]]::box b1 170 q::L) w) aI ?_
 obtain ⟨e3,c8,ho⟩:=aB hm
 refine rV [1,2,10,11] c8 (fun c u d b6 f w=>∃ e g h j,f 12=i64 b6/\aD G K (aH 52 K a5 a7 a4::aH 2 K e g c::jP a u::aH 154 K h j d::box b2 172 [zS e c.length g,zM (some a),zS h d.length j,Value.func (.func 68) #[] #[cD a8 b]]::box b1 170 q::L) w) aI ?_
 ·rintro c u d b6 e4 f e5 hm hr ⟨e,g,h,j,c9,d0⟩
  unfold gW at hm
  refine aF ?_
  rcases aG hm with ⟨d1,hm⟩|⟨d1,hm⟩
  ·refine aF ?_;refine cA (aF ?_)
   obtain ⟨b7,b8,hm⟩:=aB hm
   have d2:=bS d0 (i:=0) rfl b8
   refine aM (cS iY rfl d2 rfl rfl c9 b8) (aF ?_);refine iN fun e6 e7 e8=>?_
   refine gM fun e9 d3=>?_;refine aF ?_
   obtain ⟨d4,x,f0,f1,f2⟩:=aD.lendBp d3 .head
   refine wI [(0,0),(1,0),(2,0),(3,0),(4,0),(5,0),(6,0),(7,0),(8,0),(9,1)] fun d5 f3=>?_;refine aF ?_
   obtain ⟨b9,d6,hm⟩:=aB hm
   refine aF ?_;obtain ⟨f4,f5,d7⟩:=aW.el (sz:=1) rfl V d6
   cases d7
   refine aF ?_;refine eQ rfl ?_
   have d8:aD G d4 (aH 2 K e g c::jP a u::aH 154 K h j d::box b2 172 [zS e c.length g,zM (some a),zS h d.length j,Value.func (.func 68) #[] #[cD a8 b]]::box b1 170 q::aH 52 K a5 a7 a4::L) d5:=lY
   obtain ⟨f6,d9,hm⟩:=aB hm
   exact fR (vs:=[str b9,i64 b7.To]) (caps:=[zP (some ⟨b1,0,none⟩),cD a14 l]) (us:=[str b9,i64 b7.To,zP (some ⟨b1,0,none⟩),cD a14 l]) rfl call118 rfl rfl (yH d9 d8 (c1.mono x) (c2.mono x) (c3.mono x)) aI
  ·exact aI
theorem aBL {first:Int} {c1:(List Int)} {d:Nat} {l:aS} {k8:Nat} {R:(aS × (List Int) × Bool)} (hm:qM first c1 l=some R) (hs:aD G K (L) w) (hG:G.lo=0) (h3:cT K a1 d [zS a4 c1.length c5]) (h6:aW K a4 c5 c1) (h9:cT K a7 k8 (zC l a10 c11 a13 c14)) (f7:aW K a10 c11 l.L) (f8:aW K a13 c14 l.E):
  Calls Tryz.prog 69 ([i64 first,Value.func (.func 68) #[] #[cD a1 d],Value.func (.func 70) #[] #[cD a7 k8]]:List Value).toArray w (dS fun v w'=>∃ d0 d1 d2 d3 d4 d5,v=Value.tuple #[zA (zCa R.1 d0 d1 d2 d3),zS d4 R.2.1.length d5,zB R.2.2]/\aD G K (aH 9 K d0 d1 R.1.L::aH 52 K d2 d3 R.1.E::aH 2 K d4 d5 R.2.1::L) w'):=by
 let m:=zG
 refine cM func69 ?_;unfold qM at hm
 refine aF ?_;refine iN fun n p4 f9=>?_
 refine aF ?_;refine aHD aJ Int f9 ?_
 intro a g0 (p5:aD G K (jP a ([]:(List (aJ × Int)))::box n 27 m::L) g0)
 iterate 1 refine cE ?_
 refine aM (cK (vs:=[(1,zM (some a)),(3,Value.func (.func 68) #[] #[cD a1 d])]) (cs:=[zS none 0 0,zM (some a),zS none 0 0,Value.func (.func 68) #[] #[cD a1 d]]) bs_172 rfl (by kernel_rfl)) (oE fun b p6 p7=>?_);refine iN fun g p8 p9=>?_
 refine gM fun g1 g2=>?_;refine aF ?_
 have g3:=aD.nil (α:=Int) g2 2 K
 have q0:=aD.nil (α:=fD) g3 154 K
 have g4:aD G K (aH 2 K none 0 ([]:List Int)::jP a ([]:(List (aJ × Int)))::aH 154 K none 0 ([]:List fD)::box b 172 [zS none 0 0,zM (some a),zS none 0 0,Value.func (.func 68) #[] #[cD a1 d]]::box g 170 [zP (some ⟨b,0,none⟩)]::box n 27 m::L) g1:=lY
 obtain ⟨q1,g5,hm⟩:=aB hm
 refine cC call117 (iQ g5 g4 h3 h6) ?_
 rintro _ q2 ⟨q3,q4,rfl,q5⟩
 refine aF ?_;refine iN fun q6 q7 q8=>?_
 refine gM fun q9 g6=>?_;refine aF ?_
 refine aK [6,9] (fun f w=>∃ o b8 u V Z a0 a2,mL o b8 u=some R/\aD G K (aH 154 K a0 a2 u::aH 2 K V Z o::jP a b8::box b 172 [zS V o.length Z,zM (some a),zS a0 u.length a2,Value.func (.func 68) #[] #[cD a1 d]]::box g 170 [zP (some ⟨b,0,none⟩)]::box n 27 m::L) w) ?_ ?_
 ·rintro f r0 ⟨o,b8,u,V,Z,a0,a2,hm,g7⟩
  unfold mL at hm
  refine aF ?_;refine aY [6,9] (fun f w=>∃ x y p q c2 a3 a5 a6 a8,qK o x y p q=some R/\f 12=zP (some ⟨c2,0,none⟩)/\aD G K (aH 52 K a6 a8 q::aH 9 K a3 a5 p::box c2 27 [i64 x,i64 y,zS a3 p.length a5,zS a6 q.length a8]::aH 154 K a0 a2 u::aH 2 K V Z o::jP a b8::box b 172 [zS V o.length Z,zM (some a),zS a0 u.length a2,Value.func (.func 68) #[] #[cD a1 d]]::box g 170 [zP (some ⟨b,0,none⟩)]::box n 27 m::L) w) ?_ ?_
  ·rintro f r1 ⟨x,y,p,q,c2,a3,a5,a6,a8,hm,d6,g8⟩
   unfold qK at hm
   refine aF ?_;obtain ⟨r2,d7,d8,g9,r3⟩:=aD.lendBp g8 (.tail (.tail .head))
   obtain ⟨r4,b9,h0,h1,r5⟩:=aD.lendBp g9 (.tail (.tail (.tail (.tail (.tail .head)))))
   obtain ⟨r6,a9,h2,r7,r8⟩:=aD.lendBp h1 (.tail (.tail (.tail (.tail (.tail .head)))))
   refine wI [(0,0),(1,0),(2,0),(3,0),(4,0),(5,1),(6,1),(7,1),(8,2),(9,2)] fun r9 h=>?_;refine cI rfl (fun _ ⟨_,h⟩=>nA (t:=0) (vs:=[i64 x,i64 y,zS a3 p.length a5,zS a6 q.length a8]) mS h (d8.mono (zL b9 a9)) d6 rfl rfl) (cI rfl (fun _ ⟨_,h⟩=>bU (t:=0) sc_170 h h2 rfl rfl) (cI rfl (fun _ _=>aOW rfl) (cI rfl (fun _ _=>dF (t':=0) aQz rfl rfl) (cI rfl (fun _ ⟨_,h⟩=>bU (t:=0) aDi h (h0.mono a9) rfl rfl) (eQ rfl (aM (nA (t:=0) (vs:=[i64 x,i64 y,zS a3 p.length a5,zS a6 q.length a8]) mS h (d8.mono (zL b9 a9)) d6 rfl rfl) (aL (aC ⟨⟨_,h⟩,?_⟩))))))))
   refine eQ rfl ?_;obtain ⟨s0,h4,h5,h7,h8⟩:=aD.lendSp h (zL (zL d7 b9) a9) (.tail .head)
   obtain ⟨s1,i0,i1,i2,i3⟩:=aD.lendSp h7 (zL (zL (zL d7 b9) a9) h4) .head
   obtain ⟨s2,i4,hm⟩:=aB hm
   refine cC call48 (uM (t:=⟨x,y,p,q⟩) i4 i2 hG (h5.mono i0) i1) ?_
   rintro _ s3 ⟨rfl,i5⟩
   have i6:=i3 _ _ i5
   have s4:=h8 _ _ i6
   exact aI
  obtain ⟨s5,k,c3,i7,c4⟩:=aD.lendBp g7 (.tail (.tail (.tail .head)))
  obtain ⟨i8,c,s6,i9,c6⟩:=aD.lendBp i7 (.tail (.tail (.tail .head)))
  refine oD (C:=fun w'=>∃ L',aD G i8 L' w') [16] Tryz_mixed (by kernel_rfl) (fun s7 j0=>?_)
  have e:=aD.mono i9 j0
  refine eV 0 ?_;refine eV 1 ?_
  refine eV 2 ?_;refine gD (i:=3) rfl (by kernel_rfl) ⟨_,e⟩ (fun _ ⟨_,e⟩=>bU (t:=0) aDi e (c3.mono c) rfl rfl) (eV 4 ?_)
  refine eV 5 ?_;refine eV 6 ?_
  refine eV 7 ?_;refine gD (i:=8) rfl (by kernel_rfl) ⟨_,e⟩ (fun _ ⟨_,e⟩=>bU (t:=2) aJy e (c3.mono c) rfl rfl) (eV 10 ?_)
  refine eV 11 ?_;refine eV 12 ?_
  refine gD (i:=13) rfl (by kernel_rfl) ⟨_,e⟩ (fun _ ⟨_,e⟩=>bU (t:=2) aJy e (c3.mono c) rfl rfl) (mR (i:=9) (j:=15) (by kernel_rfl) rfl rfl ?_ ?_)
  ·obtain ⟨s8,s9,j1,j2,j3⟩:=aD.lendSp e (zL k c) .head
   obtain ⟨t0,j4,hm⟩:=aB hm
   refine cC call102 (nG j4 j2 j1) ?_
   rintro _ t1 ⟨t2,t3,rfl,j5⟩
   have d9:=j3 _ _ j5
   refine aL (aC ⟨fun _=>⟨_,d9⟩,?_⟩)
   refine mR (i:=14) (j:=15) (by kernel_rfl) rfl rfl ?_ ?_
   ·obtain ⟨t4,j6,j7,j8,j9⟩:=aD.lendSp d9 (zL k c) (.tail .head)
    obtain ⟨t5,k0,k1,k3,k4⟩:=aD.lendSp j8 (zL (zL k c) j6) .head
    obtain ⟨t6,k5,hm⟩:=aB hm
    refine cC call56 (jO k5 k3 (j7.mono k0) k1) ?_
    rintro _ t7 ⟨t8,t9,u0,u1,rfl,k6⟩
    have k7:=k4 _ _ k6
    have k9:=j9 _ _ k7
    refine aL (aC ⟨fun _=>⟨_,k9⟩,?_⟩)
    refine aQ (i:=15) (by kernel_rfl) rfl (iN fun u2 u3 e0=>?_);refine aL (aC ⟨fun _=>⟨_,e0⟩,?_⟩)
    refine aQ (i:=16) (by kernel_rfl) rfl ?_
    have l0:=c6 _ _ e0
    have u4:=c4 _ _ l0
    refine gM fun u5 u6=>?_;refine aL (aC ⟨aJs rfl,?_⟩)
    exact eX (by kernel_rfl) aI
   ·refine iN fun u7 u8 e1=>?_;refine aL (aC ⟨fun _=>⟨_,e1⟩,?_⟩)
    refine aQ (i:=14) (by kernel_rfl) rfl ?_;obtain ⟨u9,l1,l2,l3,l4⟩:=aD.lendSp e1 (zL k c) (.tail (.tail .head))
    obtain ⟨v0,l5,l6,l7,l8⟩:=aD.lendSp l3 (zL (zL k c) l1) (.tail .head)
    obtain ⟨v1,l9,hm⟩:=aB hm
    refine cC call56 (jO l9 l7 (l2.mono l5) l6) ?_
    rintro _ v2 ⟨v3,v4,v5,v6,rfl,m0⟩
    have m1:=l8 _ _ m0
    have e2:=l4 _ _ m1
    refine aL (aC ⟨fun _=>⟨_,e2⟩,?_⟩)
    refine aQ (i:=16) (by kernel_rfl) rfl ?_
    have m2:=c6 _ _ e2
    have v7:=c4 _ _ m2
    refine gM fun v8 v9=>?_;refine aL (aC ⟨aJs rfl,?_⟩)
    exact eX (by kernel_rfl) aI
  ·refine iN fun w0 w1 e3=>?_;refine aL (aC ⟨fun _=>⟨_,e3⟩,?_⟩)
   refine aQ (i:=9) (by kernel_rfl) rfl ?_;obtain ⟨w2,w3,m3,m4,m5⟩:=aD.lendSp e3 (zL k c) (.tail .head)
   obtain ⟨w4,m6,hm⟩:=aB hm
   refine cC call102 (nG m6 m4 m3) ?_
   rintro _ w5 ⟨w6,w7,rfl,m7⟩
   have e4:=m5 _ _ m7
   refine aL (aC ⟨fun _=>⟨_,e4⟩,?_⟩)
   refine aQ (i:=14) (by kernel_rfl) rfl ?_;obtain ⟨w8,m8,m9,n0,n1⟩:=aD.lendSp e4 (zL k c) (.tail .head)
   obtain ⟨w9,n2,n3,n4,n5⟩:=aD.lendSp n0 (zL (zL k c) m8) .head
   obtain ⟨x0,n6,hm⟩:=aB hm
   refine cC call56 (jO n6 n4 (m9.mono n2) n3) ?_
   rintro _ x1 ⟨x2,x3,x4,x5,rfl,n7⟩
   have n8:=n5 _ _ n7
   have e5:=n1 _ _ n8
   refine aL (aC ⟨fun _=>⟨_,e5⟩,?_⟩)
   refine aQ (i:=16) (by kernel_rfl) rfl ?_
   have n9:=c6 _ _ e5
   have x6:=c4 _ _ n9
   refine gM fun x7 x8=>?_;refine aL (aC ⟨aJs rfl,?_⟩)
   exact eX (by kernel_rfl) aI
 have x9:=aD.nil (α:=fD) g6 154 K
 obtain ⟨y0,o0,ho⟩:=aB hm
 refine rV [2,6,9] o0 (fun b0 c7 b1 c0 f w=>∃ b2 b3 b4 b5 r,f 10=zP (some ⟨r,0,none⟩)/\aD G K (aH 154 K b4 b5 b1::box r 3 [i64 c0]::aH 2 K b2 b3 b0::jP a c7::box b 172 [zS b2 b0.length b3,zM (some a),zS b4 b1.length b5,Value.func (.func 68) #[] #[cD a1 d]]::box g 170 [zP (some ⟨b,0,none⟩)]::box n 27 m::L) w) aI ?_
 ·rintro b0 c7 b1 c0 o1 f y1 hm hr ⟨b2,b3,b4,b5,r,o2,y2⟩
  unfold dU at hm
  refine aF ?_;refine aLO ?_
  refine aF ?_;refine wH (fun y3 o3=>(aF ?_))
  rcases aG hm with ⟨o4,hm⟩|⟨o4,hm⟩
  ·refine aF ?_;refine cA (aF ?_)
   obtain ⟨e6,b6,o5,o6,o7⟩:=aD.lendBp o3 (.tail .head)
   refine oD (C:=fun w'=>∃ L',aD G e6 L' w') [] Tryz_mixed (by kernel_rfl) (fun o8 o9=>?_)
   have z:=aD.mono o6 o9
   refine eV 0 ?_;refine eV 5 ?_
   refine gD (i:=8) rfl (by kernel_rfl) ⟨_,z⟩ (fun _ _=>fF (vs:=[zP (some ⟨g,0,none⟩),zP (some ⟨r,0,none⟩)]) (lst2 rfl o2)) (aQ (i:=1) (by kernel_rfl) rfl ?_)
   iterate 1 refine cE ?_
   refine aL (aC ⟨fun _=>⟨_,z⟩,?_⟩)
   refine eV 2 ?_;refine eV 3 ?_
   refine aQ (i:=4) (by kernel_rfl) rfl ?_
   iterate 1 refine cE ?_
   refine aL (aC ⟨fun _=>⟨_,z⟩,?_⟩)
   obtain ⟨e7,e8,hm⟩:=aB hm
   have p0:=bS z (i:=1) rfl e8
   refine gD (i:=6) rfl (by kernel_rfl) ⟨_,z⟩ (fun _ _=>cS iX rfl p0 rfl rfl rfl e8) (aQ (i:=7) (by kernel_rfl) rfl ?_)
   iterate 1 refine cE ?_
   refine aL (aC ⟨fun _=>⟨_,z⟩,?_⟩)
   refine aQ (i:=9) (by kernel_rfl) rfl ?_
   have p1:aD G e6 (aH 2 K b2 b3 b0::jP a c7::aH 154 K b4 b5 b1::box b 172 [zS b2 b0.length b3,zM (some a),zS b4 b1.length b5,Value.func (.func 68) #[] #[cD a1 d]]::box g 170 [zP (some ⟨b,0,none⟩)]::box n 27 m::L) o8:=lY
   obtain ⟨J,p2,hm⟩:=aB hm
   refine fR (vs:=[i64 e7,Value.func (.func 118) #[] #[zP (some ⟨g,0,none⟩),cD (some ⟨r,0,none⟩) 0]]) (caps:=[cD a7 k8]) (us:=[i64 e7,Value.func (.func 118) #[] #[zP (some ⟨g,0,none⟩),cD (some ⟨r,0,none⟩) 0],cD a7 k8]) rfl call70 rfl rfl (yI p2 p1 (h3.mono b6) (h6.mono b6) o5 (h9.mono b6) (f7.mono b6) (f8.mono b6)) ?_
   rintro _ y4 ⟨e9,f0,f1,f2,rfl,f3⟩
   refine aL (aC ⟨fun _=>⟨_,f3⟩,?_⟩)
   refine eV 10 ?_;refine eX (by kernel_rfl) ?_
   have y5:=o7 _ _ f3
   iterate 2 refine cE ?_
   exact aY [2,6,9,10] (fun f w=>∃ f4,qL c0 J f4=some o1/\f 48=zB f4/\aD G K (box r 3 [i64 c0]::aH 2 K e9 f0 J.2.1::jP a J.2.2.1::aH 154 K f1 f2 J.2.2.2::box b 172 [zS e9 J.2.1.length f0,zM (some a),zS f1 J.2.2.2.length f2,Value.func (.func 68) #[] #[cD a1 d]]::box g 170 [zP (some ⟨b,0,none⟩)]::box n 27 m::L) w) aI aI
  ·exact aI
theorem aBM {t:aS} {y:(List Int)} {R:(aS × (List Int))} (hm:qT t y=some R) (hs:aD G K (L) w) (hG:G.lo=0) (h3:aW K a1 c2 t.L) (h6:aW K a4 c5 t.E) (h9:aW K a7 c8 y):
  Calls Tryz.prog 20 ([zA (zCa t a1 c2 a4 c5),zS a7 y.length c8]:List Value).toArray w (dS fun v w'=>∃ d4 d5 d6 d7 d8 d9,v=Value.tuple #[zA (zCa R.1 d4 d5 d6 d7),zS d8 R.2.length d9]/\aD G K (aH 9 K d4 d5 R.1.L::aH 52 K d6 d7 R.1.E::aH 2 K d8 d9 R.2::L) w'):=by
 let j:=(zC t a1 c2 a4 c5)
 let k:=zG
 refine iT func20 rfl (by kernel_rfl) (by show (2:Nat)<=77;decide) ?_;unfold qT at hm
 refine bC (aHx (v:=zA (zCa t a1 c2 a4 c5)) (vs:=j) hs rfl rfl (fun h m5 g2=>(fQ (vs:=k) zeroValue27 g2 rfl (fun l m6 g3=>(aT (v:=zS none 0 0) (aU (bC (aR (v:=zS a7 y.length c8) ?_))))))));obtain ⟨Z,g4,hm⟩:=aB hm
 refine bO (vs:=[zS a7 y.length c8]) call65 rfl (aJl g4 g3 h9) ?_
 rintro _ m7 ⟨a0,a2,rfl,g5⟩
 refine fQ (vs:=[zS none 0 0]) zeroValue30 g5 rfl (fun e m8 g6=>(kL (i:=0) (ns:=[zS a0 Z.length a2]) (us:=[zS a0 Z.length a2]) sizeOf30 g6 rfl rfl rfl rfl rfl (nI rfl) rfl rfl (fun g7 (m9:aD G K (box e 30 [zS a0 Z.length a2]::aH 2 K a0 a2 Z::box l 27 k::box h 27 j::L) g7)=>(aU (bB (aK [2,4,6] (fun f w=>∃ a3 c0 c1,qN t a3=some R/\aD G K (aH 2 K c0 c1 a3::box e 30 [zS c0 a3.length c1]::box l 27 k::box h 27 j::L) w) ?_ ?_))))))
 ·rintro f n0 ⟨a3,c0,c1,hm,e0⟩
  unfold qN at hm
  refine aC (bC (aM (fF (vs:=[zP (some ⟨e,0,none⟩)]) rfl) (aT (v:=Value.func (.func 68) #[] #[zP (some ⟨e,0,none⟩)]) (aU (bC (aM (dF (t':=1) aGG rfl rfl) (aM (aIV lD e0 (i:=3) rfl rfl rfl) (aR (v:=Value.func (.func 68) #[] #[zP (some ⟨e,0,none⟩)]) (aM (fF (vs:=[zP (some ⟨h,0,none⟩)]) rfl) ?_)))))))));obtain ⟨n1,e1,g8,g9,n2⟩:=aD.lendSp e0 (Hp.le_refl _) .head
  obtain ⟨n3,c3,h0,h1,n4⟩:=aD.lendBp g9 .head
  obtain ⟨n5,a5,h2,h4,n6⟩:=aD.lendBp h1 (.tail .head)
  obtain ⟨n7,h5,hm⟩:=aB hm
  exact bO (vs:=[i64 t.I,Value.func (.func 68) #[] #[cD (some ⟨e,0,none⟩) 0],Value.func (.func 70) #[] #[cD (some ⟨h,0,none⟩) 0]]) call69 rfl (aBL h5 h4 hG (h0.mono a5) (g8.mono (zL c3 a5)) h2 (h3.mono (zL (zL e1 c3) a5)) (h6.mono (zL (zL e1 c3) a5))) aI
 obtain ⟨n8,h7,ho⟩:=aB hm
 refine dX [2,4,6] h7 (fun a f w=>∃ b c,aD G K (box e 30 [zS b a.length c]::aH 2 K b c a::box l 27 k::box h 27 j::L) w) aI ?_
 ·rintro a e2 f h8 hm hr ⟨b,c,e3⟩
  unfold jZ at hm
  refine aK [2,4,6] (fun f w=>∃ a6 a8 a9,qO a6=some e2/\aD G K (aH 2 K a8 a9 a6::box e 30 [zS a8 a6.length a9]::box l 27 k::box h 27 j::L) w) ?_ ?_
  ·rintro f n9 ⟨a6,a8,a9,hm,i0⟩
   unfold qO at hm
   exact aC ⟨_,(zI hm).symm,bD,a8,a9,(aD.arr 2 [1,0] i0 rfl)⟩
  refine bC (aT (v:=zS none 0 0) (aU (bB (bC (aM (dF (t':=0) aAk rfl rfl) (aM (aIV lD e3 (i:=3) rfl rfl rfl) (aR (v:=i64 0) (aU (aK [2,4,6] (fun f w=>∃ r b0 b1 b2,qP a r=some e2/\f 7=zS b0 r.length b1/\List.length b2=List.length r/\aD G K (aH 30 K b0 b1 (aP b2 r)::rows [2] b2 r::box e 30 [zS b a.length c]::aH 2 K b c a::box l 27 k::box h 27 j::L) w) ?_ ?_)))))))))
  ·rintro f o0 ⟨r,b0,b1,b2,hm,i1,i2,i3⟩
   unfold qP at hm
   refine aC (bC (cW i1 ?_));obtain ⟨o1,o2,i4,o3,i5,i6⟩:=aD.lendD' (i:=0) i3 i2 rfl rfl
   obtain ⟨c4,i7,hm⟩:=aB hm
   refine bO (vs:=[zS b0 r.length b1]) call66 rfl (aFv i7 i5 i4) ?_
   rintro _ o4 ⟨c6,c7,rfl,i8⟩
   have e4:=i6 _ _ i8
   refine aT (v:=zS c6 c4.length c7) (aU (bB (bC (aR (v:=zS c6 c4.length c7) (aM (aIV aDi e4 (i:=3) rfl rfl rfl) ?_)))));obtain ⟨o5,i9,j0,j1,j2⟩:=aD.lendSp e4 (Hp.le_refl _) (.tail (.tail .head))
   obtain ⟨o6,j3,j4,j5,j6⟩:=aD.lendSp j1 i9 (.tail (.tail (.tail .head)))
   obtain ⟨o7,j7,hm⟩:=aB hm
   refine bO (vs:=[zS c6 c4.length c7,zS b a.length c]) call67 rfl (oW j7 j5 (j0.mono j3) j4) ?_
   rintro _ o8 ⟨rfl,j8⟩
   have j9:=j6 _ _ j8
   have o9:=j2 _ _ j9
   refine aU ?_
   rcases aG hm with ⟨e5,hm⟩|⟨e5,hm⟩
   ·refine bP e5 rfl (aAZ (iW (aIx rfl (iW (iW ?_)))))
    have p0:=hr _ (zI hm).symm
    exact aI
   ·exact aI
  have k0:aD G K (aH 30 K none 0 (aP ([]:List (Dp.Hd (List Int))) ([]:List (List Int)))::rows [2] ([]:List (Dp.Hd (List Int))) ([]:List (List Int))::box e 30 [zS b a.length c]::aH 2 K b c a::box l 27 k::box h 27 j::L) h8:=aD.nil (α:=aOk _) (aD.rowsNil (α:=(List Int)) (tys:=[2]) e3) 30 K
  obtain ⟨p1,k1,ho⟩:=aB hm
  refine bV [2,4,6,22] k1 (fun g u f w=>∃ p q d,f 7=zS p g.length q/\f 23=i64 u/\List.length d=List.length g/\aD G K (aH 30 K p q (aP d g)::rows [2] d g::box e 30 [zS b a.length c]::aH 2 K b c a::box l 27 k::box h 27 j::L) w) ?_ ?_
  ·exact ⟨none,0,[],rfl,rfl,rfl,k0⟩
  ·rintro g u e6 f p2 hm hr ⟨p,q,d,k2,c9,e7,b3⟩
   unfold eO at hm
   refine bC (aM (pD c9 rfl) (aU (bB ?_)))
   rcases aG hm with ⟨e8,hm⟩|⟨e8,hm⟩
   ·refine bP e8 rfl (cN (aC (bB (aK [2,4,6,22,23] (fun f w=>∃ x b4 b5 z,qQ u x=some e6/\f 7=zS b4 x.length b5/\List.length z=List.length x/\aD G K (aH 30 K b4 b5 (aP z x)::rows [2] z x::box e 30 [zS b a.length c]::aH 2 K b c a::box l 27 k::box h 27 j::L) w) ?_ ?_))))
    ·rintro f p3 ⟨x,b4,b5,z,hm,k3,k4,k5⟩
     unfold qQ at hm
     exact aC (bR (aM (rO c9 rfl) (aR (v:=i64 (wr (u+1))) (aU ⟨_,(zI hm).symm,bD,b4,b5,z,k3,rfl,k4,k5⟩))))
    refine bC (cW c9 (aT (v:=i64 u) (aU (bC (aM (aIV aDi b3 (i:=2) rfl rfl rfl) (aR (v:=i64 u) ?_))))));obtain ⟨J,d0,hm⟩:=aB hm
    have k6:=bS b3 (i:=3) rfl d0
    refine aM (cS iX rfl k6 rfl rfl rfl d0) (aM (yC (t:=0) lD b3 (i:=3) rfl d0 rfl rfl rfl) (eR (Kt:=K) (xs:=([J]:List Int)) (cs:=[i64 J]) (vs:=[(0,i64 J)]) iX aEW rfl rfl b3 rfl (by kernel_rfl) rfl rfl rfl ⟨rfl,trivial⟩ (fun e9 k7 (k8:aD G K (aH 2 K e9 1 ([J]:List Int)::aH 30 K p q (aP d g)::rows [2] d g::box e 30 [zS b a.length c]::aH 2 K b c a::box l 27 k::box h 27 j::L) k7)=>(aT (v:=zS e9 ([J]:List Int).length 1) (aU (bB (bC (aM (dF (t':=2) vU rfl rfl) (aM (aIV uC k8 (i:=6) rfl rfl rfl) ?_)))))))))
    obtain ⟨k9,f0,hm⟩:=aB hm
    obtain ⟨p4,p5,f1⟩:=Cut.ex 1 a1 c2 1
    have f2:=aW.cut' h3 f0 f1
    refine aM (aBb eM h3.room f1 rfl rfl rfl f0) (aM (gU (len:=k9.length) eM rfl) (aR (v:=i64 0) (aU (aK [2,4,6,7,22,23] (fun f w=>∃ o m n,qR g u o=some e6/\f 9=zS m o.length n/\aD G K (aH 2 K m n o::aH 30 K p q (aP d g)::rows [2] d g::box e 30 [zS b a.length c]::aH 2 K b c a::box l 27 k::box h 27 j::L) w) ?_ ?_))))
    ·rintro f l0 ⟨o,m,n,hm,l1,l2⟩
     unfold qR at hm
     refine aC (bR (cW k2 (cW l1 ?_)))
     have l3:aD G K (rows [2] ([(m,n)]:List (Dp.Hd (List Int))) [o]::aH 30 K p q (aP d g)::rows [2] d g::box e 30 [zS b a.length c]::aH 2 K b c a::box l 27 k::box h 27 j::L) l0:=aD.rowsOne l2
     refine eR (Kt:=K) (xs:=aP ([(m,n)]:List (Dp.Hd (List Int))) ([o]:List (List Int))) (cs:=[zS m o.length n]) (vs:=[(0,zS m o.length n)]) tH aHI rfl rfl l3 rfl (by kernel_rfl) rfl rfl rfl ⟨rfl,trivial⟩ ?_
     intro l4 l5 (l6:aD G K (aH 30 K l4 1 (aP ([(m,n)]:List (Dp.Hd (List Int))) ([o]:List (List Int)))::rows [2] ([(m,n)]:List (Dp.Hd (List Int))) ([o]:List (List Int))::aH 30 K p q (aP d g)::rows [2] d g::box e 30 [zS b a.length c]::aH 2 K b c a::box l 27 k::box h 27 j::L) l5)
     obtain ⟨b6,f3,hm⟩:=aB hm
     refine aPc (i:=0) (tys:=[2]) (hds:=d) (hds2:=([(m,n)]:List (Dp.Hd (List Int)))) tH underlying94 aHI rfl rfl l6 e7 rfl rfl rfl f3 rfl rfl rfl rfl ?_
     intro d1 d2 l7 (l8:aD G K (aH 30 K d1 d2 (aP (d++([(m,n)]:List (Dp.Hd (List Int)))) b6)::rows [2] (d++([(m,n)]:List (Dp.Hd (List Int)))) b6::box e 30 [zS b a.length c]::aH 2 K b c a::box l 27 k::box h 27 j::L) l7)
     exact aT (v:=zS d1 b6.length d2) (aL (iC (aC ⟨bD,b6,d1,d2,(d++([(m,n)]:List (Dp.Hd (List Int)))),hm,rfl,(aMb e7 rfl f3),l8⟩)))
    obtain ⟨p6,l9,ho⟩:=aB hm
    refine bV [2,4,6,7,8,22,23,33,34] l9 (fun V d3 f w=>∃ b7 b8,f 9=zS b7 V.length b8/\f 35=i64 d3/\aD G K (aH 2 K b7 b8 V::aH 30 K p q (aP d g)::rows [2] d g::box e 30 [zS b a.length c]::aH 2 K b c a::box l 27 k::box h 27 j::L) w) aI ?_
    ·rintro V d3 m0 f p7 hm hr ⟨b7,b8,p8,f4,m1⟩
     unfold fV at hm
     refine bC (aM (pD f4 rfl) (aU (bB ?_)))
     rcases aG hm with ⟨f5,hm⟩|⟨f5,hm⟩
     ·refine bP f5 rfl (cN (aC (bB (cA (bC ?_)))));obtain ⟨m2,f6,hm⟩:=aB hm
      refine aM (aLt eM rfl f2 rfl rfl f4 f6) ?_;obtain ⟨p9,m3,m4⟩:=aW.el (sz:=1) rfl f2 f6
      cases m4
      exact aM (bU (t:=0) sc_9 m1 m3 rfl rfl) (aT (v:=str m2) (aU (bC (aT (v:=i64 (-1)) (aU (mZ [2,4,6,7,8,9,22,23,33,34,35] (fun f w=>∃ f7,qS V d3 f7=some m0/\f 12=i64 f7/\aD G K (aH 2 K b7 b8 V::aH 30 K p q (aP d g)::rows [2] d g::box e 30 [zS b a.length c]::aH 2 K b c a::box l 27 k::box h 27 j::L) w) aI aI))))))
     ·exact aI
   ·exact aI
theorem aBW {m:aZ} {R:(aZ × Int)} (hm:oL m=some R) (hs:aD G K (L) w) (o:G.lo=0) (p:aW K a1 c2 m.S.L) (q:aW K a4 c5 m.S.E) (h:aW K a7 c8 m.Verdicts):
  Calls Tryz.prog 8 ([zA #[i64 m.S.N,i64 m.S.I,zS a1 m.S.L.length c2,zS a4 m.S.E.length c5,zS a7 m.Verdicts.length c8]]:List Value).toArray w (dS fun v w'=>∃ r u x y z J,v=Value.tuple #[zA #[i64 R.1.S.N,i64 R.1.S.I,zS r R.1.S.L.length u,zS x R.1.S.E.length y,zS z R.1.Verdicts.length J],i64 R.2]/\aD G K (aH 9 K r u R.1.S.L::aH 52 K x y R.1.S.E::aH 2 K z J R.1.Verdicts::L) w'):=by
 let V:=[i64 0,i64 0,zS none 0 0,zS none 0 0,zS none 0 0]
 refine cM func8 ?_;unfold oL at hm
 refine aF ?_;refine oE fun b0 d9 e0=>?_
 refine iN fun Z e1 b1=>?_;refine aF ?_
 obtain ⟨e2,b2,hm⟩:=aB hm
 refine cC call10 (yU b2 b1 o p q h) ?_
 rintro _ e3 ⟨rfl,b3⟩
 refine aF ?_
 rcases aG hm with ⟨b4,hm⟩|⟨b4,hm⟩
 ·exact aI
 ·refine aF ?_;obtain ⟨a,b5,hm⟩:=aB hm
  refine cC call20 (aBM b5 b3 o p q h) ?_
  rintro _ e4 ⟨b,c,d,e,b6,b7,rfl,e5⟩
  refine aF ?_;refine iN fun e6 e7 e8=>?_
  refine gM fun e9 f0=>?_
  iterate 6 refine cE ?_
  refine aM (cK (vs:=[(0,zA (zCa a.1 b c d e))]) (cs:=[i64 a.1.N,i64 a.1.I,zS b a.1.L.length c,zS d a.1.E.length e,zS none 0 0]) aJY rfl (by kernel_rfl)) (iN fun a0 f1 f2=>?_);refine gM fun f3 b8=>?_
  refine aF ?_;refine aK [2,6] (fun f w=>∃ j a2 a3,aDj a j=some R/\aD G K (aH 2 K a2 a3 j::box a0 32 [i64 a.1.N,i64 a.1.I,zS b a.1.L.length c,zS d a.1.E.length e,zS a2 j.length a3]::aH 9 K b c a.1.L::aH 52 K d e a.1.E::box Z 32 V::L) w) aI ?_
  have f4:=aD.nil (α:=Int) b8 2 K
  obtain ⟨f5,b9,ho⟩:=aB hm
  refine bV [1,2,6,23,24] b9 (fun k a5 f w=>∃ l n,f 25=i64 a5/\aD G K (aH 2 K l n k::box a0 32 [i64 a.1.N,i64 a.1.I,zS b a.1.L.length c,zS d a.1.E.length e,zS l k.length n]::aH 9 K b c a.1.L::aH 52 K d e a.1.E::aH 2 K b6 b7 a.2::box Z 32 V::box b0 32 [i64 m.S.N,i64 m.S.I,zS a1 m.S.L.length c2,zS a4 m.S.E.length c5,zS a7 m.Verdicts.length c8]::L) w) aI ?_
  ·rintro k a5 f6 f f7 hm hr ⟨l,n,c0,a6⟩
   unfold iV at hm
   refine aF ?_
   rcases aG hm with ⟨c1,hm⟩|⟨c1,hm⟩
   ·refine aF ?_;refine cA (aF ?_)
    obtain ⟨c3,a8,hm⟩:=aB hm
    have c4:=bS a6 (i:=4) rfl a8
    refine aM (cS iX rfl c4 rfl rfl c0 a8) (aF ?_);obtain ⟨f8,f9,c6,c7,c9⟩:=aD.lendBp a6 (.tail .head)
    obtain ⟨g0,d0,d1,g1,d2⟩:=aD.lendBp c7 (.tail (.tail (.tail (.tail (.tail .head)))))
    refine wI [(0,0),(1,0),(2,0),(3,0),(4,0),(5,0),(6,0),(7,1),(8,1),(9,0),(10,2)] fun g2 g=>?_;refine aF ?_
    refine cI rfl (fun _ ⟨_,g⟩=>bU (t:=4) aDi g (c6.mono d0) rfl rfl) (cI rfl (fun _ _=>dF (t':=4) aIG rfl rfl) (cI rfl (fun _ ⟨_,g⟩=>bU (t:=4) aDi g d1 rfl rfl) (cI rfl (fun _ _=>cX (v:=i64 c3) rfl) ?_)));obtain ⟨d3,d4,hm⟩:=aB hm
    refine aF ?_;obtain ⟨g3,g4,d5⟩:=aW.el (sz:=1) rfl h d4
    cases d5
    refine aF ?_;refine eQ rfl (lI ([d3]:List Int) fun g5 g6 d6=>?_)
    refine aL (aC ⟨⟨_,d6⟩,?_⟩)
    refine eQ rfl ?_;obtain ⟨g7,g8,hm⟩:=aB hm
    refine aGF fun g9 h0 h1 a9=>?_;refine aL (aC ⟨⟨_,a9⟩,?_⟩)
    refine aF ?_
    have d7:=d2 _ _ a9
    have h2:=c9 _ _ d7
    exact aI
   ·exact aI
theorem mX {a:(List (List aJ))} {R:(List aJ)} (hm:cQ a=some R) (J:aD G K (L) w) (V:aW K a1 c2 a):
  Calls Tryz.prog 71 ([zS a1 a.length c2]:List Value).toArray w (dS fun v w'=>∃ g h,v=zS g R.length h/\aD G K (aH 9 K g h R::L) w'):=by
 refine cM func71 ?_;unfold cQ at hm
 refine aF ?_;refine aK [0] (fun f w=>∃ b,fM a b=some R/\f 3=i64 b/\aD G K (L) w) ?_ ?_
 ·rintro f Z ⟨b,hm,e5,o⟩
  unfold fM at hm
  refine aF ?_;obtain ⟨r8,p,hm⟩:=aB hm
  refine cC call119 (lib_GrowStr o (aGC (α:=aJ) _) p) ?_
  rintro _ a3 ⟨a4,a5,rfl,a6⟩
  refine aF ?_;refine aK [] (fun f w=>∃ c i j,oA c=some R/\f 6=zS i c.length j/\aD G K (aH 9 K i j c::L) w) aI ?_
  obtain ⟨a7,q,ho⟩:=aB hm
  exact bV [25,26] q (fun k r f w=>∃ l m,f 6=zS l k.length m/\f 27=i64 r/\aD G K (aH 9 K l m k::L) w) aI aI
 obtain ⟨a8,t,ho⟩:=aB hm
 refine bV [0,9,10] t (fun n d f w=>f 3=i64 n/\f 11=i64 d/\aD G K (L) w) aI ?_
 ·rintro n d u f a9 hm hr ⟨b0,b1,b2⟩
  unfold aX at hm
  refine aF ?_
  rcases aG hm with ⟨x,hm⟩|⟨x,hm⟩
  ·refine aF ?_;refine aK [0,9,10,11] (fun f w=>∃ e,dV d e=some u/\f 3=i64 e/\aD G K (L) w) ?_ ?_
   ·rintro f b3 ⟨e,hm,y,z⟩
    unfold dV at hm
    refine aF ?_;exact ⟨_,(zI hm).symm,bD,y,rfl,z⟩
   exact aI
  ·exact aI
theorem aBN {p q:Int} {a:aZ} {c:Nat} {b:aZ} {d:Nat} {R:Bool} (hm:qU p q a b=some R) (g:aD G K (L) w) (h:cT K a1 c [i64 a.S.N,i64 a.S.I,zS a4 a.S.L.length c5,zS a7 a.S.E.length c8,zS a10 a.Verdicts.length c11]) (i:aW K a4 c5 a.S.L) (j:aW K a7 c8 a.S.E) (k:aW K a10 c11 a.Verdicts) (l:cT K a13 d [i64 b.S.N,i64 b.S.I,zS a16 b.S.L.length c17,zS a19 b.S.E.length c20,zS a22 b.Verdicts.length c23]) (m:aW K a16 c17 b.S.L) (n:aW K a19 c20 b.S.E) (o:aW K a22 c23 b.Verdicts):
  Calls Tryz.prog 22 ([i64 p,i64 q,cD a1 c,cD a13 d]:List Value).toArray w (dS fun v w'=>v=zB R/\aD G K (L) w'):=by
 refine cM func22 ?_;unfold qU at hm
 refine aF ?_;exact aY [] (fun f w=>∃ e,mM e=some R/\f 6=zB e/\aD G K (L) w) aI aI
theorem cB {a R:(List aJ)} (hm:dM a=some R) (t:aD G K (L) w) (b:aW K a1 c2 a):
  Calls Tryz.prog 31 ([zS a1 a.length c2]:List Value).toArray w (dS fun v w'=>∃ c d,v=zS c R.length d/\aD G K (aH 9 K c d R::L) w'):=by
 refine cM func31 ?_;unfold dM at hm
 iterate 9 refine cE ?_
 refine aM (aPe eM rfl rfl) (aF ?_)
 rcases aOp b with ⟨h,j,k⟩|l
 ·subst h;subst j;subst k
  refine aQa rfl ?_
  replace hm:(some [])=some R:=hm
  exact aI
 ·refine aQb (Eq.trans rfl (congrArg zB l)) (aF ?_);refine lI ([]:List aJ) fun u x m=>?_
  refine aF ?_;obtain ⟨n,o,hm⟩:=aB hm
  refine aKI (i:=0) eM underlying24 aGf rfl rfl m rfl (Hp.le_refl _) b o rfl rfl rfl rfl (fun e g p (q:aD G K (aH 9 K e g n::L) p)=>(aF ?_));obtain rfl:=zI hm
  exact st_E results31 ⟨e,g,rfl,q⟩
end Gv
