/- Walks, printed by program. -/
import Derived.Test.YtohbafhnoifmoaaGreatDoorMJWk1
import Derived.Test.YtohbafhnoifmoaaGreatDoorMJT
set_option linter.all false
namespace Gv
open Go.Value renaming slice→zS,bool→zB,pointer→zP
open Option.some renaming inj→zI
open Gv.Hp renaming le_refl→zR
open Go Go.Proofs Go.Proofs.Tryz
set_option maxRecDepth 20000
set_option maxHeartbeats 40000000
variable {G:uA} {K:Hp} {L:List iU} {w:World} {a1 a4:Option Addr} {c2 c5:Nat}
theorem nB {c:(List (List bD))} {R:(List bD)} (hs:aH G K (L) w) (r:cR K a1 c2 c) (a:gI c=some R):
  Calls Tryz.prog 94 ([zS a1 c.length c2]:List Value).toArray w (eN fun v w'=>∃ t u,v=zS t R.length u/\aH G K (aJ 9 K t u R::L) w'):=by
 refine zH func94 ?_;unfold gI at a
 refine yW ?_;refine aZ (fun f w=>∃ q,eF c q=some R/\f 0=zS a1 c.length c2/\f 3=i64 q/\aH G K (L) w) ?_ ?_
 ·rintro f w7 ⟨q,a,e5,e6,a3⟩
  unfold eF at a
  refine yW ?_;obtain ⟨r9,a4,a⟩:=aB a
  refine zF call128 (lib_GrowStr a3 (yO (α:=bD) _) a4) ?_
  rintro _ e8 ⟨a5,a6,rfl,a7⟩
  refine yW ?_;refine aZ (fun f w=>∃ j k l,eE j=some R/\f 6=zS k j.length l/\aH G K (aJ 9 K k l j::L) w) ?_ ?_
  ·rintro f e9 ⟨j,k,l,a,f0,a8⟩
   unfold eE at a
   refine yW ?_;obtain rfl:=zI a
   exact aIK results94 ⟨k,l,rfl,a8⟩
  obtain ⟨f1,b0,a⟩:=aB a
  refine cE b0 (fun s f w=>match s with|(e,m)=>∃ n o,f 6=zS n e.length o/\f 25=zS a1 c.length c2/\f 26=i64 (c.length:Int)/\f 27=i64 m/\aH G K (aJ 9 K n o e::L) w) ?_ ?_
  ·exact ⟨a5,a6,rfl,rfl,rfl,rfl,a7⟩
  ·rintro ⟨e,m⟩ b1 f f2 d b2 ⟨n,o,b3,b4,b5,f3,x⟩
   replace d:fT c e m=some b1:=d
   unfold fT at d
   refine yW ?_
   rcases aG d with ⟨b6,d⟩|⟨b6,d⟩
   ·refine yW ?_;refine cT (yW ?_)
    obtain ⟨f4,b7,d⟩:=aB d
    refine yW ?_;obtain ⟨f5,f6,b8⟩:=cR.el (sz:=1) rfl r b7
    obtain ⟨f7,f8,rfl,b9⟩:=b8
    refine yW ?_;obtain ⟨y,c0,d⟩:=aB d
    refine iK (i:=0) cF underlying24 fL rfl rfl x rfl (zR _) b9 c0 rfl rfl rfl rfl (fun z J c1 (c3:aH G K (aJ 9 K z J y::L) c1)=>(yW ?_));exact ⟨(y,wr (m+1)),(zI d).symm,z,J,rfl,b4,b5,rfl,c3⟩
   ·refine yW ?_
    have c4:=b2 _ (zI d).symm
    subst c4
    have a:(eE e)=some R:=a
    refine yW ?_;exact ⟨e,n,o,a,b3,x⟩
 obtain ⟨f9,c5,a⟩:=aB a
 refine cE c5 (fun s f w=>match s with|(g,h)=>f 0=zS a1 c.length c2/\f 3=i64 g/\f 9=zS a1 c.length c2/\f 10=i64 (c.length:Int)/\f 11=i64 h/\aH G K (L) w) ?_ ?_
 ·exact ⟨rfl,rfl,rfl,rfl,rfl,hs⟩
 ·rintro ⟨g,h⟩ V f g0 b c6 ⟨Z,c7,c8,c9,d0,a0⟩
  replace b:fV c g h=some V:=b
  unfold fV at b
  refine yW ?_
  rcases aG b with ⟨d1,b⟩|⟨d1,b⟩
  ·refine yW ?_;refine aZ (fun f w=>∃ p,fU h p=some V/\f 0=zS a1 c.length c2/\f 3=i64 p/\f 9=zS a1 c.length c2/\f 10=i64 (c.length:Int)/\f 11=i64 h/\aH G K (L) w) ?_ ?_
   ·rintro f g1 ⟨p,b,d2,d3,d4,d5,g2,d6⟩
    unfold fU at b
    refine yW ?_;exact ⟨(p,wr (h+1)),(zI b).symm,d2,d3,d4,d5,rfl,d6⟩
   refine yW ?_;obtain ⟨d7,d8,b⟩:=aB b
   refine yW ?_;obtain ⟨g3,g4,d9⟩:=cR.el (sz:=1) rfl r d8
   obtain ⟨g5,g6,rfl,g7⟩:=d9
   refine yW ?_
   rcases aG b with ⟨e0,b⟩|⟨e0,b⟩
   ·refine yW ?_
    cases b
   ·refine yW ?_;exact ⟨wr (g+(d7.length:Int)),b,Z,rfl,c8,c9,d0,a0⟩
  ·refine yW ?_
   have e1:=c6 _ (zI b).symm
   subst e1
   have a:(eF c g)=some R:=a
   refine yW ?_;exact ⟨g,a,Z,c7,a0⟩
theorem dH {b R:(List bD)} (c:aH G K (L) w) (d:cR K a1 c2 b) (a:fB b=some R):
  Calls Tryz.prog 33 ([zS a1 b.length c2]:List Value).toArray w (eN fun v w'=>∃ e g,v=zS e R.length g/\aH G K (aJ 9 K e g R::L) w'):=by
 refine zH func33 ?_;unfold fB at a
 refine yW ?_;refine aC (R_isNil cF rfl rfl) (yW ?_)
 rcases aGK d with ⟨k,l,m⟩|n
 ·subst k;subst l;subst m
  refine aHr rfl ?_
  replace a:(some [])=some R:=a
  refine yW ?_
  have o:=aH.nil (α:=bD) c 9 K
  obtain rfl:=zI a
  exact bK (aW (bM results33 rfl ⟨none,0,rfl,o⟩))
 ·refine aHs (Eq.trans rfl (congrArg zB n)) (yW ?_);refine bZ (Kt:=K) (xs:=([]:List bD)) (cs:=[]) (vs:=[]) cF fL rfl rfl c rfl (by kernel_rfl) rfl rfl rfl trivial (fun q r (t:aH G K (aJ 9 K q 0 ([]:List bD)::L) r)=>(yW ?_))
  obtain ⟨u,x,a⟩:=aB a
  refine iK (i:=0) cF underlying24 fL rfl rfl t rfl (zR _) d x rfl rfl rfl rfl (fun h j y (z:aH G K (aJ 9 K h j u::L) y)=>(yW ?_));obtain rfl:=zI a
  exact aIK results33 ⟨h,j,rfl,z⟩
theorem aCH {a:(List UInt8)} {R:Bool} (c:aH G K (L) w) (e:cR K a1 c2 a) (b:aCY a=some R):
  Calls Tryz.prog 5 ([zS a1 a.length c2]:List Value).toArray w (eN fun v w'=>v=zB R/\aH G K (L) w'):=by
 refine zH func5 ?_;unfold aCY at b
 refine yW ?_;obtain rfl:=zI b
 exact aIK results5 ⟨rfl,c⟩
theorem aGf {a:(List UInt8)} {R:(Int × Int)} (e:aH G K (L) w) (j:cR K a1 c2 a) (b:aEF a=some R):
  Calls Tryz.prog 17 ([zS a1 a.length c2]:List Value).toArray w (eN fun v w'=>∃ c,v=zP (some ⟨c,0,none⟩)/\aH G K (box c 78 [zS a1 a.length c2,i64 R.1,Value.int .u64 R.2]::L) w'):=by
 let d:=[zS a1 a.length c2,i64 0,Value.int .u64 0]
 refine zH func17 ?_;unfold aEF at b
 refine yW ?_;refine aC (dD (vs:=[(0,zS a1 a.length c2)]) (cs:=d) bs_78 rfl (by kernel_rfl)) (fS (v:=Value.agg #[zS a1 a.length c2,i64 0,Value.int .u64 0]) (vs:=d) e rfl rfl (fun g k h=>(yW ?_)))
 obtain rfl:=zI b
 exact aIK results17 ⟨g,rfl,h⟩
theorem aCI {c:(List bD)} {e:bD} {R:Int} (i:aH G K (L) w) (j:cR K a1 c2 c) (b:aCZ c e=some R):
  Calls Tryz.prog 80 ([zS a1 c.length c2,str e]:List Value).toArray w (eN fun v w'=>v=i64 R/\aH G K (L) w'):=by
 refine zH func80 ?_;unfold aCZ at b
 refine yW ?_;refine aZ (fun f w=>uY=some R/\aH G K (L) w) ?_ ?_
 ·rintro f J ⟨b,k⟩
  unfold uY at b
  refine yW ?_;obtain rfl:=zI b
  exact aIK results80 ⟨rfl,k⟩
 obtain ⟨V,m,b⟩:=aB b
 refine cE m (fun (d:Int) f w=>f 0=zS a1 c.length c2/\f 1=str e/\f 5=i64 d/\aH G K (L) w) ?_ ?_
 ·exact ⟨rfl,rfl,rfl,i⟩
 ·rintro d n f Z a h ⟨o,p,a0,g⟩
  replace a:aBn c e d=some n:=a
  unfold aBn at a
  refine yW ?_
  rcases aG a with ⟨q,a⟩|⟨q,a⟩
  ·refine yW ?_;refine cT (yW ?_)
   obtain ⟨a2,r,a⟩:=aB a
   refine yW ?_;obtain ⟨a3,a4,t⟩:=cR.el (sz:=1) rfl j r
   cases t
   refine yW ?_
   rcases aG a with ⟨u,a⟩|⟨u,a⟩
   ·refine yW ?_;refine bK (cA (aW (aW ?_)))
    have x:=h _ (zI a).symm
    subst x
    have b:(some d)=some R:=b
    obtain rfl:=zI b
    exact cA (aW (aW (bM results80 rfl ⟨rfl,g⟩)))
   ·refine yW ?_;exact ⟨wr (d+1),(zI a).symm,o,p,rfl,g⟩
  ·refine yW ?_
   have z:=h _ (zI a).symm
   subst z
   have b:(uY)=some R:=b
   refine yW ?_;exact ⟨b,g⟩
theorem aCJ {k R:(List bD)} (hs:aH G K (L) w) (h3:cR K a1 c2 k) (o:aDa k=some R):
  Calls Tryz.prog 59 ([zS a1 k.length c2]:List Value).toArray w (eN fun v w'=>∃ b1 b2,v=zS b1 R.length b2/\aH G K (aJ 9 K b1 b2 R::L) w'):=by
 refine zH func59 ?_;unfold aDa at o
 refine yW ?_;refine bZ (Kt:=K) (xs:=([([116,97,117]:bD)]:List bD)) (cs:=[str ([116,97,117]:bD)]) (vs:=[(0,str ([116,97,117]:bD))]) cF fL rfl rfl hs rfl (by kernel_rfl) rfl rfl rfl ⟨rfl,trivial⟩ (fun a4 w5 (e6:aH G K (aJ 9 K a4 1 ([([116,97,117]:bD)]:List bD)::L) w5)=>(yW ?_))
 refine aZ (fun f w=>∃ z J V,uZ z=some R/\f 3=zS J z.length V/\aH G K (aJ 9 K J V z::L) w) ?_ ?_
 ·rintro f j9 ⟨z,J,V,o,k0,e7⟩
  unfold uZ at o
  refine yW ?_;obtain rfl:=zI o
  exact aIK results59 ⟨J,V,rfl,e7⟩
 obtain ⟨k1,e9,o⟩:=aB o
 refine cE e9 (fun s f w=>match s with|(b,d)=>∃ g j,f 0=zS a1 k.length c2/\f 3=zS g b.length j/\f 4=i64 d/\aH G K (aJ 9 K g j b::L) w) ?_ ?_
 ·exact ⟨a4,1,rfl,rfl,rfl,e6⟩
 ·rintro ⟨b,d⟩ u f k2 a f0 ⟨g,j,b4,a5,b5,b6⟩
  replace a:aBq k b d=some u:=a
  unfold aBq at a
  refine yW ?_
  rcases aG a with ⟨f1,a⟩|⟨f1,a⟩
  ·refine yW ?_;refine aZ (fun f w=>∃ y Z a0,vA d y=some u/\f 0=zS a1 k.length c2/\f 3=zS Z y.length a0/\f 4=i64 d/\aH G K (aJ 9 K Z a0 y::L) w) ?_ ?_
   ·rintro f k3 ⟨y,Z,a0,a,f2,f3,k4,f4⟩
    unfold vA at a
    refine yW ?_;exact ⟨(y,wr (d+1)),(zI a).symm,Z,a0,f2,f3,rfl,f4⟩
   refine yW ?_;obtain ⟨p,f5,a⟩:=aB a
   refine yW ?_;obtain ⟨k5,k6,f6⟩:=cR.el (sz:=1) rfl h3 f5
   cases f6
   refine yW ?_;obtain ⟨k7,k8,f7,f8,f9⟩:=aH.lendS (i:=0) b6 (zR _) rfl
   obtain ⟨k9,g0,a⟩:=aB a
   refine zF call80 (aCI f8 f7 g0) ?_
   rintro _ l0 ⟨rfl,g1⟩
   have b7:=f9 _ _ g1
   refine yW ?_
   rcases aG a with ⟨g2,a⟩|⟨g2,a⟩
   ·refine yW ?_;exact ⟨b,g,j,a,b4,a5,b5,b7⟩
   ·refine yW ?_;refine aZ (fun f w=>∃ q,vC b d p q=some u/\f 0=zS a1 k.length c2/\f 3=zS g b.length j/\f 4=i64 d/\f 5=i64 q/\aH G K (aJ 9 K g j b::L) w) ?_ ?_
    ·rintro f l1 ⟨q,a,g3,l2,g4,g5,g6⟩
     unfold vC at a
     refine yW ?_;refine bZ (Kt:=K) (xs:=([([]:bD)]:List bD)) (cs:=[str ([]:bD)]) (vs:=[(0,str ([]:bD))]) cF fL rfl rfl g6 rfl (by kernel_rfl) rfl rfl rfl ⟨rfl,trivial⟩ (fun g7 g8 (g9:aH G K (aJ 9 K g7 1 ([([]:bD)]:List bD)::aJ 9 K g j b::L) g8)=>?_)
     obtain ⟨h0,h1,a⟩:=aB a
     refine dA (i:=0) cF underlying24 fL rfl rfl g9 rfl (zR _) (zR _) h1 rfl rfl rfl rfl (fun _ h=>h) (fun l m h2 (h4:aH G K (aJ 9 K l m h0::L) h2)=>(yW ?_));refine aZ (fun f w=>∃ a2,vB d p q a2=some u/\f 0=zS a1 k.length c2/\f 3=zS l a2.length m/\f 4=i64 d/\f 5=i64 q/\aH G K (aJ 9 K l m a2::L) w) ?_ ?_
     ·rintro f l3 ⟨a2,a,h5,h6,h7,l4,b8⟩
      unfold vB at a
      refine yW ?_;obtain ⟨l5,a6,a⟩:=aB a
      have h8:=cU b8 (i:=0) rfl a6
      refine aC (dB cF rfl h8 rfl rfl rfl a6) ?_;obtain ⟨b9,c0,a⟩:=aB a
      refine iH (i:=0) (t:=0) (ns:=[str p]) (e':=(p:bD)) sizeOf9 b8 rfl (zR _) rfl rfl rfl a6 c0 rfl rfl (cS rfl) rfl (fun cs h=>by cases h;rfl) (fun h9 (i0:aH G K (aJ 9 K l m b9::L) h9)=>(yW ?_));exact ⟨b9,l,m,a,h5,(Eq.trans h6 (congrArg (fun n=>zS l n m) (gN c0))),h7,i0⟩
     obtain ⟨l6,i1,a⟩:=aB a
     refine cE i1 (fun s f w=>match s with|(x,a3)=>f 0=zS a1 k.length c2/\f 3=zS l x.length m/\f 4=i64 d/\f 5=i64 q/\f 6=i64 a3/\aH G K (aJ 9 K l m x::L) w) ?_ ?_
     ·exact ⟨g3,rfl,g4,g5,rfl,h4⟩
     ·rintro ⟨x,a3⟩ i2 f l7 e i3 ⟨c1,c3,c4,c5,l8,a7⟩
      replace e:aBo q x a3=some i2:=e
      unfold aBo at e
      refine yW ?_
      rcases aG e with ⟨i4,e⟩|⟨i4,e⟩
      ·refine yW ?_;refine cT (yW ?_)
       obtain ⟨c6,c7,e⟩:=aB e
       have c8:=cU a7 (i:=0) rfl c7
       refine aC (dB cF rfl c8 rfl rfl rfl c7) (yW ?_);obtain ⟨l9,d0,e⟩:=aB e
       refine aC (dB cF rfl c8 rfl rfl rfl d0) ?_;obtain ⟨d1,d2,e⟩:=aB e
       refine iH (i:=0) (t:=0) (ns:=[str c6]) (e':=(c6:bD)) sizeOf9 a7 rfl (zR _) rfl rfl rfl d0 d2 rfl rfl (cS rfl) rfl (fun cs h=>by cases h;rfl) (fun i5 (i6:aH G K (aJ 9 K l m d1::L) i5)=>(yW ?_));exact ⟨(d1,wr (a3 - 1)),(zI e).symm,c1,(Eq.trans c3 (congrArg (fun n=>zS l n m) (gN d2))),c4,c5,rfl,i6⟩
      ·refine yW ?_
       have i7:=i3 _ (zI e).symm
       subst i7
       have a:(vB d p q x)=some u:=a
       refine yW ?_;exact ⟨x,a,c1,c3,c4,c5,a7⟩
    obtain ⟨m0,i8,a⟩:=aB a
    refine cE i8 (fun (r:Int) f w=>f 0=zS a1 k.length c2/\f 3=zS g b.length j/\f 4=i64 d/\f 5=i64 r/\aH G K (aJ 9 K g j b::L) w) ?_ ?_
    ·exact ⟨b4,a5,b5,rfl,b7⟩
    ·rintro r d3 f m1 c i9 ⟨d4,d5,d6,d7,a9⟩
     replace c:aBp b p r=some d3:=c
     unfold aBp at c
     refine yW ?_;refine cQ (fun f w=>∃ b0,vD r b0=some d3/\f 0=zS a1 k.length c2/\f 3=zS g b.length j/\f 4=i64 d/\f 5=i64 r/\f 35=zB b0/\aH G K (aJ 9 K g j b::L) w) ?_ ?_
     ·rintro f m2 ⟨b0,c,d8,d9,e0,j0,m3,e1⟩
      unfold vD at c
      refine yW ?_
      rcases aG c with ⟨j1,c⟩|⟨j1,c⟩
      ·refine yW ?_;refine cT (yW ?_)
       exact ⟨wr (r+1),(zI c).symm,d8,d9,e0,rfl,e1⟩
      ·refine yW ?_
       have j2:=i9 _ (zI c).symm
       subst j2
       have a:(vC b d p r)=some u:=a
       refine yW ?_;exact ⟨r,a,d8,d9,e0,j0,e1⟩
     refine dF (C:=fun w'=>aH G K (aJ 9 K g j b::L) w') bV (by kernel_rfl) (aH.mono a9 (dG.drew _)) (yW ?_)
     rcases aG c with ⟨j3,c⟩|⟨j3,c⟩
     ·refine yW ?_;obtain ⟨j4,e2,c⟩:=aB c
      have j5:=cU a9 (i:=0) rfl e2
      refine aU (fun _ a9=>dB cF rfl j5 rfl rfl rfl e2) (yW ?_);refine dI (fun m4 j6=>(yW ?_))
      exact ⟨ltB j4 p,c,d4,d5,d6,d7,rfl,j6⟩
     ·refine yW ?_;refine dI (fun m5 j7=>(yW ?_))
      exact ⟨false,c,d4,d5,d6,d7,rfl,j7⟩
  ·refine yW ?_
   have j8:=f0 _ (zI a).symm
   subst j8
   have o:(uZ b)=some R:=o
   refine yW ?_;exact ⟨b,g,j,o,a5,b6⟩
theorem aCK {a:Edge} {d:Nat} {b:Edge} {e:Nat} {R:Bool} (i:aH G K (L) w) (r:fJ K a1 d [i64 a.F,i64 a.B,i64 a.To]) (t:fJ K a4 e [i64 b.F,i64 b.B,i64 b.To]) (c:aDb a b=some R):
  Calls Tryz.prog 58 ([cL a1 d,cL a4 e]:List Value).toArray w (eN fun v w'=>v=zB R/\aH G K (L) w'):=by
 refine zH func58 ?_;unfold aDb at c
 refine yW ?_;refine dF (C:=fun w'=>aH G K (L) w') bV (by kernel_rfl) (aH.mono i (dG.drew _)) (yW ?_)
 refine dI (fun u g=>(yW ?_))
 rcases aG c with ⟨j,c⟩|⟨j,c⟩
 ·refine yW ?_;refine dF (C:=fun w'=>aH G K (L) w') bV (by kernel_rfl) (aH.mono g (dG.drew _)) (yW ?_)
  refine dI (fun x k=>(yW ?_));obtain rfl:=zI c
  exact bK (aW (bM results58 rfl ⟨rfl,k⟩))
 ·refine yW ?_;refine dF (C:=fun w'=>aH G K (L) w') bV (by kernel_rfl) (aH.mono g (dG.drew _)) (yW ?_)
  refine dI (fun y h=>(yW ?_))
  rcases aG c with ⟨m,c⟩|⟨m,c⟩
  ·refine yW ?_;refine dF (C:=fun w'=>aH G K (L) w') bV (by kernel_rfl) (aH.mono h (dG.drew _)) (yW ?_)
   refine dI (fun z n=>(yW ?_));obtain rfl:=zI c
   exact bK (aW (bM results58 rfl ⟨rfl,n⟩))
  ·refine yW ?_;refine dF (C:=fun w'=>aH G K (L) w') bV (by kernel_rfl) (aH.mono h (dG.drew _)) (yW ?_)
   refine dI (fun J p=>(yW ?_));obtain rfl:=zI c
   exact aIK results58 ⟨rfl,p⟩
theorem aGy {j:(List Edge)} {e:Edge} {R:(List Edge)} (hs:aH G K (aJ 69 K a1 c2 j::L) w) (a:aFV j e=some R):
  Calls Tryz.prog 81 ([zS a1 j.length c2,Value.agg #[i64 e.F,i64 e.B,i64 e.To]]:List Value).toArray w (eN fun v w'=>∃ a6 a7,v=zS a6 R.length a7/\aH G K (aJ 69 K a6 a7 R::L) w'):=by
 let g:=[i64 e.F,i64 e.B,i64 e.To]
 let p:=aJ 69 K a1 c2 j
 refine zH func81 ?_;unfold aFV at a
 refine yW ?_;refine fS (v:=Value.agg #[i64 e.F,i64 e.B,i64 e.To]) (vs:=g) hs rfl rfl (fun c w4 d4=>(yW ?_))
 refine aZ (fun f w=>∃ m,aJv j e m=some R/\f 0=zS a1 j.length c2/\f 3=zP (some ⟨c,0,none⟩)/\f 5=i64 m/\aH G K (box c 69 g::p::L) w) ?_ ?_
 ·rintro f i8 ⟨m,a,e7,e8,e9,u⟩
  unfold aJv at a
  refine yW ?_;refine cQ (fun f w=>∃ V,zD j e m V=some R/\f 0=zS a1 j.length c2/\f 3=zP (some ⟨c,0,none⟩)/\f 5=i64 m/\f 30=zB V/\aH G K (box c 69 g::p::L) w) ?_ ?_
  ·rintro f i9 ⟨V,a,j0,d5,d6,j1,b1⟩
   unfold zD at a
   refine yW ?_
   rcases aG a with ⟨d7,a⟩|⟨d7,a⟩
   ·refine yW ?_;obtain rfl:=zI a
    exact bK (aW (bM results81 rfl ⟨a1,c2,rfl,(aH.arr 1 [] b1 rfl)⟩))
   ·refine yW ?_;refine aC (dD (vs:=[]) (cs:=[i64 0,i64 0,i64 0]) aDq rfl (by kernel_rfl)) (bZ (Kt:=K) (xs:=([⟨0,0,0⟩]:List Edge)) (cs:=[i64 0,i64 0,i64 0]) (vs:=[(0,Value.agg #[i64 0,i64 0,i64 0])]) cI fG rfl rfl b1 rfl (by kernel_rfl) rfl rfl rfl ⟨rfl,trivial⟩ (fun d9 e0 (e1:aH G K (aJ 69 K d9 1 ([⟨0,0,0⟩]:List Edge)::box c 69 g::p::L) e0)=>?_))
    obtain ⟨e2,e3,a⟩:=aB a
    refine dA (i:=1) cI underlying25 fG rfl rfl e1 rfl (zR _) (zR _) e3 rfl rfl rfl rfl (fun _ h=>h) (fun k l e4 (e5:aH G K (box c 69 g::aJ 69 K k l e2::L) e4)=>(yW ?_));refine aZ (fun f w=>∃ z,yZ e m z=some R/\f 0=zS k z.length l/\f 3=zP (some ⟨c,0,none⟩)/\f 5=i64 m/\aH G K (box c 69 g::aJ 69 K k l z::L) w) ?_ ?_
    ·rintro f j2 ⟨z,a,e6,j3,j4,b2⟩
     unfold yZ at a
     refine yW ?_;obtain ⟨j5,Z,a⟩:=aB a
     have f0:=cU b2 (i:=1) rfl Z
     refine aC (dB cI rfl f0 rfl rfl rfl Z) ?_;obtain ⟨b4,b5,a⟩:=aB a
     refine iH (i:=1) (t:=0) (ns:=g) (e':=(⟨e.F,e.B,e.To⟩:Edge)) sizeOf69 b2 rfl (zR _) rfl rfl rfl Z b5 rfl rfl (cS rfl) rfl (fun cs h=>by cases h;rfl) (fun f1 (f2:aH G K (box c 69 g::aJ 69 K k l b4::L) f1)=>?_)
     iterate 4 refine aIQ ?_
     refine aO (v:=zS k b4.length l) (Eq.trans e6 (congrArg (fun n=>zS k n l) (gN b5))) (yW ?_);obtain rfl:=zI a
     exact aIK results81 ⟨k,l,rfl,(aH.arr 1 [] f2 rfl)⟩
    obtain ⟨j6,f4,a⟩:=aB a
    refine cE f4 (fun s f w=>match s with|(q,J)=>f 0=zS k q.length l/\f 3=zP (some ⟨c,0,none⟩)/\f 5=i64 m/\f 6=i64 J/\aH G K (box c 69 g::aJ 69 K k l q::L) w) ?_ ?_
    ·exact ⟨rfl,d5,d6,rfl,e5⟩
    ·rintro ⟨q,J⟩ f5 f j7 d f6 ⟨b6,b7,b8,j8,a0⟩
     replace d:aCr m q J=some f5:=d
     unfold aCr at d
     refine yW ?_
     rcases aG d with ⟨f7,d⟩|⟨f7,d⟩
     ·refine yW ?_;refine cT (yW ?_)
      obtain ⟨r,b9,d⟩:=aB d
      have c0:=cU a0 (i:=1) rfl b9
      refine aC (dB cI rfl c0 rfl rfl rfl b9) (yW ?_);obtain ⟨j9,c1,d⟩:=aB d
      refine aC (dB cI rfl c0 rfl rfl rfl c1) ?_;obtain ⟨c3,c4,d⟩:=aB d
      refine iH (i:=1) (t:=0) (ns:=[i64 r.F,i64 r.B,i64 r.To]) (e':=(⟨r.F,r.B,r.To⟩:Edge)) sizeOf69 a0 rfl (zR _) rfl rfl rfl c1 c4 rfl rfl (cS rfl) rfl (fun cs h=>by cases h;rfl) (fun f8 (f9:aH G K (box c 69 g::aJ 69 K k l c3::L) f8)=>(yW ?_));exact ⟨(c3,wr (J - 1)),(zI d).symm,(Eq.trans b6 (congrArg (fun n=>zS k n l) (gN c4))),b7,b8,rfl,f9⟩
     ·refine yW ?_
      have g0:=f6 _ (zI d).symm
      subst g0
      have a:(yZ e m q)=some R:=a
      refine yW ?_;exact ⟨q,a,b6,b7,b8,a0⟩
  refine dF (C:=fun w'=>aH G K (box c 69 g::p::L) w') bV (by kernel_rfl) (aH.mono u (dG.drew _)) (yW ?_)
  rcases aG a with ⟨g1,a⟩|⟨g1,a⟩
  ·refine yW ?_;obtain ⟨c5,c6,a⟩:=aB a
   have g2:=cU u (i:=1) rfl c6
   refine aU (fun _ u=>dB cI rfl g2 rfl rfl rfl c6) (yW ?_);refine aU (fun _ u=>R_eqlG (eq_69 (x:=c5) (y:=e)) rfl rfl) (yW ?_)
   refine dI (fun k0 g3=>(yW ?_));exact ⟨decide ((c5:Edge)=e),a,e7,e8,e9,rfl,g3⟩
  ·refine yW ?_;refine dI (fun k1 g4=>(yW ?_))
   exact ⟨false,a,e7,e8,e9,rfl,g4⟩
 obtain ⟨k2,g5,a⟩:=aB a
 refine cE g5 (fun (o:Int) f w=>f 0=zS a1 j.length c2/\f 3=zP (some ⟨c,0,none⟩)/\f 5=i64 o/\aH G K (box c 69 g::p::L) w) ?_ ?_
 ·exact ⟨rfl,rfl,rfl,d4⟩
 ·rintro o c7 f k3 b g6 ⟨c8,a2,c9,a3⟩
  replace b:aCs j e o=some c7:=b
  unfold aCs at b
  iterate 2 refine aIQ ?_
  refine cQ (fun f w=>∃ a4,aJi o a4=some c7/\f 0=zS a1 j.length c2/\f 3=zP (some ⟨c,0,none⟩)/\f 5=i64 o/\f 17=zB a4/\aH G K (box c 69 g::p::L) w) ?_ ?_
  ·rintro f k4 ⟨a4,b,d0,d1,g7,k5,d2⟩
   unfold aJi at b
   refine yW ?_
   rcases aG b with ⟨g8,b⟩|⟨g8,b⟩
   ·refine yW ?_;refine cT (yW ?_)
    exact ⟨wr (o - 1),(zI b).symm,d0,d1,rfl,d2⟩
   ·refine yW ?_
    have g9:=g6 _ (zI b).symm
    subst g9
    have a:(aJv j e o)=some R:=a
    refine yW ?_;exact ⟨o,a,d0,d1,g7,d2⟩
  refine yW ?_
  rcases aG b with ⟨h0,b⟩|⟨h0,b⟩
  ·refine yW ?_;obtain ⟨k6,a5,b⟩:=aB b
   have h1:=cU a3 (i:=1) rfl a5
   refine aC (dB cI rfl h1 rfl rfl rfl a5) (yW ?_);obtain ⟨k7,h2,h3,h4,h5⟩:=aH.lendB (i:=0) a3 rfl
   obtain ⟨k8,h6,h7,h8,h9⟩:=aH.lendS (i:=0) h4 h2 rfl
   obtain ⟨k9,i0,i1⟩:=cR.el (sz:=3) rfl h7 a5
   cases i1
   obtain ⟨i2,i3,b⟩:=aB b
   refine aS (vs:=[cL (some ⟨c,0,none⟩) 0,cL a1 ((wr (o - 1)).toNat * 3+0)]) call58 (lst2 a2 rfl) (aCK h8 (h3.mono h6) i0 i3) ?_
   rintro _ l0 ⟨rfl,i4⟩
   have i5:=h9 _ _ i4
   have i6:=h5 _ _ i5
   refine yW ?_;exact ⟨i2,b,c8,a2,c9,rfl,i6⟩
  ·refine yW ?_;exact ⟨false,b,c8,a2,c9,rfl,a3⟩
theorem qZ {d g:Int} {J:(List bD)} {edges:(List Edge)} {R:cO} (hs:aH G K (L) w) (h3:cR K a1 c2 J) (h6:cR K a4 c5 edges) (l:wM d g J edges=some R):
  Calls Tryz.prog 43 ([i64 d,i64 g,zS a1 J.length c2,zS a4 edges.length c5]:List Value).toArray w (eN fun v w'=>∃ a7 a8 a9 b0,v=Value.agg (zCa R a7 a8 a9 b0)/\aH G K (aJ 9 K a7 a8 R.L::aJ 69 K a9 b0 R.E::L) w'):=by
 let n:=zG
 refine zH func43 ?_;unfold wM at l
 refine yW ?_;refine bR (vs:=n) zeroValue27 hs rfl (fun m w8 c4=>(yW ?_))
 obtain ⟨a,c6,l⟩:=aB l
 refine zF call59 (aCJ c4 h3 c6) ?_
 rintro _ h1 ⟨b,c,rfl,c7⟩
 refine bZ (Kt:=K) (xs:=([]:List Edge)) (cs:=[]) (vs:=[]) cI fG rfl rfl c7 rfl (by kernel_rfl) rfl rfl rfl trivial (fun y c8 (c9:aH G K (aJ 69 K y 0 ([]:List Edge)::aJ 9 K b c a::box m 27 n::L) c8)=>(aC (dD (vs:=[(0,i64 d),(1,i64 g),(2,zS b a.length c),(3,zS y ([]:List Edge).length 0)]) (cs:=[i64 d,i64 g,zS b a.length c,zS y ([]:List Edge).length 0]) jT rfl (by kernel_rfl)) (bR (vs:=n) zeroValue27 c9 rfl (fun o h2 d0=>(bS (i:=0) (ns:=[i64 d,i64 g,zS b a.length c,zS y ([]:List Edge).length 0]) (us:=[i64 d,i64 g,zS b a.length c,zS y ([]:List Edge).length 0]) sizeOf27 d0 rfl rfl rfl rfl rfl (cS rfl) rfl rfl (fun d1 (d2:aH G K (box o 27 [i64 d,i64 g,zS b a.length c,zS y ([]:List Edge).length 0]::aJ 69 K y 0 ([]:List Edge)::aJ 9 K b c a::box m 27 n::L) d1)=>(yW ?_)))))))
 refine aZ (fun f w=>∃ p q r,vE d g a p=some R/\f 8=zP (some ⟨m,0,none⟩)/\f 9=zP (some ⟨o,0,none⟩)/\aH G K (aJ 69 K q r p::box o 27 [i64 d,i64 g,zS b a.length c,zS q p.length r]::aJ 9 K b c a::box m 27 n::L) w) ?_ ?_
 ·rintro f h4 ⟨p,q,r,l,b1,h5,d3⟩
  unfold vE at l
  refine yW ?_;refine bS (i:=3) (ns:=[i64 d,i64 g,zS b a.length c,zS q p.length r]) (us:=[i64 d,i64 g,zS b a.length c,zS q p.length r]) sizeOf27 d3 rfl b1 rfl rfl rfl (cS rfl) rfl rfl (fun d4 (b2:aH G K (aJ 69 K q r p::box o 27 [i64 d,i64 g,zS b a.length c,zS q p.length r]::aJ 9 K b c a::box m 27 [i64 d,i64 g,zS b a.length c,zS q p.length r]::L) d4)=>(yW ?_))
  obtain rfl:=zI l
  exact bK (mG results43 (dM (vs:=[i64 d,i64 g,zS b a.length c,zS q p.length r]) rfl cZ b2 (i:=3) rfl b1 rfl) ⟨b,c,q,r,rfl,(aH.arr 4 [2,0] b2 rfl)⟩)
 obtain ⟨h7,d6,l⟩:=aB l
 refine cE d6 (fun s f w=>match s with|(k,a2)=>∃ u x,f 2=zS a1 J.length c2/\f 3=zS a4 edges.length c5/\f 8=zP (some ⟨m,0,none⟩)/\f 9=zP (some ⟨o,0,none⟩)/\f 10=i64 a2/\aH G K (box o 27 [i64 d,i64 g,zS b a.length c,zS u k.length x]::aJ 69 K u x k::aJ 9 K b c a::box m 27 n::L) w) ?_ ?_
 ·exact ⟨y,0,rfl,rfl,rfl,rfl,rfl,d2⟩
 ·rintro ⟨k,a2⟩ d7 f h8 j d8 ⟨u,x,d9,e0,b3,b4,h9,b5⟩
  replace j:aBr J edges a k a2=some d7:=j
  unfold aBr at j
  refine yW ?_
  rcases aG j with ⟨e1,j⟩|⟨e1,j⟩
  ·refine yW ?_;refine cT (yW ?_)
   obtain ⟨h,e2,j⟩:=aB j
   refine yW ?_;obtain ⟨i0,i1,e3⟩:=cR.el (sz:=3) rfl h6 e2
   cases e3
   refine yW ?_;refine bR (vs:=[i64 0,i64 0,i64 0]) zeroValue69 b5 rfl (fun a3 i2 e4=>(bS (i:=0) (ns:=[i64 h.F,i64 h.B,i64 h.To]) (us:=[i64 h.F,i64 h.B,i64 h.To]) sizeOf69 e4 rfl rfl rfl rfl rfl (cS rfl) rfl rfl (fun e5 (e6:aH G K (box a3 69 [i64 h.F,i64 h.B,i64 h.To]::box o 27 [i64 d,i64 g,zS b a.length c,zS u k.length x]::aJ 69 K u x k::aJ 9 K b c a::box m 27 n::L) e5)=>(yW ?_))))
   obtain ⟨i3,e7,e8,e9,f0⟩:=aH.lendB (i:=0) e6 rfl
   obtain ⟨f1,b6,i4,b8,f2⟩:=aH.lendB (i:=0) e9 rfl
   refine dV (C:=fun w'=>∃ L',aH G f1 L' w') [(0,0),(1,0),(2,0),(3,0),(4,0),(5,0),(6,0),(7,1),(8,0),(9,2)] bV (by kernel_rfl) (fun _ hg=>⟨_,aH.mono b8 hg⟩) (fun i5 f3=>?_)
   have a5:=aH.mono b8 f3
   refine yW ?_;refine bX rfl (fun _ ⟨_,a5⟩=>bE (t:=1) cN a5 (e8.mono b6) rfl rfl) ?_
   obtain ⟨i6,f4,j⟩:=aB j
   refine yW ?_;obtain ⟨i7,i8,f5⟩:=cR.el (sz:=1) rfl h3 f4
   cases f5
   refine yW ?_;refine gX rfl ?_
   obtain ⟨i9,j0,f6,f7,f8⟩:=aH.lendS (i:=1) a5 (Hp.le_trans e7 b6) rfl
   obtain ⟨z,f9,j⟩:=aB j
   refine zF call80 (aCI f7 f6 f9) ?_
   rintro _ j1 ⟨rfl,g0⟩
   have b9:=f8 _ _ g0
   refine aX (aA ⟨⟨_,b9⟩,?_⟩)
   refine yW ?_
   have g1:=f2 _ _ b9
   have g2:=f0 _ _ g1
   refine aCl rfl (bS (i:=0) (ns:=[i64 z]) (us:=[i64 h.F,i64 z,i64 h.To]) sizeOf2 g2 rfl rfl rfl rfl rfl (cS rfl) rfl rfl (fun c0 (g3:aH G K (box a3 69 [i64 h.F,i64 z,i64 h.To]::box o 27 [i64 d,i64 g,zS b a.length c,zS u k.length x]::aJ 9 K b c a::aJ 69 K u x k::box m 27 n::L) c0)=>(yW ?_)));refine gZ (yW ?_)
   have g4:aH G K (aJ 69 K u x k::box a3 69 [i64 h.F,i64 z,i64 h.To]::box o 27 [i64 d,i64 g,zS b a.length c,zS u k.length x]::aJ 9 K b c a::box m 27 n::L) c0:=(aH.arr 4 [3,0,1,2] g3 rfl)
   obtain ⟨V,g5,j⟩:=aB j
   refine zF call81 (aGy (e:=⟨h.F,z,h.To⟩) g4 g5) ?_
   rintro _ j2 ⟨Z,a0,rfl,g6⟩
   refine yW ?_;refine bS (i:=2) (ns:=[zS Z V.length a0]) (us:=[i64 d,i64 g,zS b a.length c,zS Z V.length a0]) sizeOf25 g6 rfl rfl rfl rfl rfl (cS rfl) rfl rfl (fun g7 (g8:aH G K (aJ 69 K Z a0 V::box a3 69 [i64 h.F,i64 z,i64 h.To]::box o 27 [i64 d,i64 g,zS b a.length c,zS Z V.length a0]::aJ 9 K b c a::box m 27 n::L) g7)=>(yW ?_))
   exact ⟨(V,wr (a2+1)),(zI j).symm,Z,a0,d9,e0,b3,b4,rfl,(aH.arr 3 [2,0] g8 rfl)⟩
  ·refine yW ?_
   have g9:=d8 _ (zI j).symm
   subst g9
   have l:(vE d g a k)=some R:=l
   refine yW ?_;exact ⟨k,u,x,l,b3,b4,(aH.arr 2 [1,0] b5 rfl)⟩
theorem uQ {c:(List Int)} {n R:Int} (h:aH G K (L) w) (i:cR K a1 c2 c) (b:wZ c n=some R):
  Calls Tryz.prog 82 ([zS a1 c.length c2,i64 n]:List Value).toArray w (eN fun v w'=>v=i64 R/\aH G K (L) w'):=by
 refine zH func82 ?_;unfold wZ at b
 refine yW ?_;refine aZ (fun f w=>sF=some R/\aH G K (L) w) ?_ ?_
 ·rintro f J ⟨b,j⟩
  unfold sF at b
  refine yW ?_;obtain rfl:=zI b
  exact aIK results82 ⟨rfl,j⟩
 obtain ⟨V,l,b⟩:=aB b
 refine cE l (fun (d:Int) f w=>f 0=zS a1 c.length c2/\f 1=i64 n/\f 5=i64 d/\aH G K (L) w) ?_ ?_
 ·exact ⟨rfl,rfl,rfl,h⟩
 ·rintro d m f Z a g ⟨o,p,a0,e⟩
  replace a:aAo c n d=some m:=a
  unfold aAo at a
  refine yW ?_
  rcases aG a with ⟨q,a⟩|⟨q,a⟩
  ·refine yW ?_;refine cT (yW ?_)
   obtain ⟨a2,r,a⟩:=aB a
   refine yW ?_;obtain ⟨a3,a4,t⟩:=cR.el (sz:=1) rfl i r
   cases t
   refine yW ?_
   rcases aG a with ⟨u,a⟩|⟨u,a⟩
   ·refine yW ?_;refine bK (cA (aW (aW ?_)))
    have x:=g _ (zI a).symm
    subst x
    have b:(some d)=some R:=b
    obtain rfl:=zI b
    exact cA (aW (aW (bM results82 rfl ⟨rfl,e⟩)))
   ·refine yW ?_;exact ⟨wr (d+1),(zI a).symm,o,p,rfl,e⟩
  ·refine yW ?_
   have z:=g _ (zI a).symm
   subst z
   have b:(sF)=some R:=b
   refine yW ?_;exact ⟨b,e⟩
end Gv
namespace Gv
open Go.Value renaming slice→zS,bool→zB,pointer→zP
open Option.some renaming inj→zI
open Gv.Hp renaming le_trans→zL,le_refl→zR
open Go Go.Proofs Go.Proofs.Tryz
set_option maxRecDepth 20000
set_option maxHeartbeats 40000000
variable {G:uA} {K:Hp} {L:List iU} {w:World} {a1 a4 a7 a10:Option Addr} {c5 c8 c11 c2:Nat}
theorem yA {t:cO} {k2:Nat} {a:(List Int)} {R:cO} (hs:aH G K (L) w) (h3:fJ K a1 k2 (zC t a4 c5 a7 c8)) (h6:cR K a4 c5 t.L) (h9:cR K a7 c8 t.E) (b0:cR K a10 c11 a) (u:aAZ t a=some R):
  Calls Tryz.prog 45 ([cL a1 k2,zS a10 a.length c11]:List Value).toArray w (eN fun v w'=>∃ b5 b6 b7 b8,v=Value.agg (zCa R b5 b6 b7 b8)/\aH G K (aJ 9 K b5 b6 R.L::aJ 69 K b7 b8 R.E::L) w'):=by
 let n:=zG
 refine zH func45 ?_;unfold aAZ at u
 refine yW ?_;refine bR (vs:=n) zeroValue27 hs rfl (fun k j1 d7=>(yW ?_))
 obtain ⟨g,d8,u⟩:=aB u
 refine zF call82 (uQ d7 b0 d8) ?_
 rintro _ j2 ⟨rfl,d9⟩
 refine bZ (Kt:=K) (xs:=([]:List Edge)) (cs:=[]) (vs:=[]) cI fG rfl rfl d9 rfl (by kernel_rfl) rfl rfl rfl trivial (fun q e0 (e1:aH G K (aJ 69 K q 0 ([]:List Edge)::box k 27 n::L) e0)=>(aC (dD (vs:=[(0,i64 (a.length:Int)),(1,i64 g),(3,zS q ([]:List Edge).length 0)]) (cs:=[i64 (a.length:Int),i64 g,zS none 0 0,zS q ([]:List Edge).length 0]) jT rfl (by kernel_rfl)) (bR (vs:=n) zeroValue27 e1 rfl (fun l j3 e2=>(bS (i:=0) (ns:=[i64 (a.length:Int),i64 g,zS none 0 0,zS q ([]:List Edge).length 0]) (us:=[i64 (a.length:Int),i64 g,zS none 0 0,zS q ([]:List Edge).length 0]) sizeOf27 e2 rfl rfl rfl rfl rfl (cS rfl) rfl rfl (fun e3 (e4:aH G K (box l 27 [i64 (a.length:Int),i64 g,zS none 0 0,zS q ([]:List Edge).length 0]::aJ 69 K q 0 ([]:List Edge)::box k 27 n::L) e3)=>(yW ?_)))))))
 refine bZ (Kt:=K) (xs:=([]:List bD)) (cs:=[]) (vs:=[]) cF fL rfl rfl e4 rfl (by kernel_rfl) rfl rfl rfl trivial (fun e5 e6 (e7:aH G K (aJ 9 K e5 0 ([]:List bD)::box l 27 [i64 (a.length:Int),i64 g,zS none 0 0,zS q ([]:List Edge).length 0]::aJ 69 K q 0 ([]:List Edge)::box k 27 n::L) e6)=>(yW ?_));obtain ⟨b,e8,u⟩:=aB u
 refine iK (i:=0) cF underlying24 fL rfl rfl e7 rfl (zR _) h6 e8 rfl rfl rfl rfl (fun c d e9 (f0:aH G K (aJ 9 K c d b::box l 27 [i64 (a.length:Int),i64 g,zS none 0 0,zS q ([]:List Edge).length 0]::aJ 69 K q 0 ([]:List Edge)::box k 27 n::L) e9)=>(yW ?_));refine bS (i:=1) (ns:=[zS c b.length d]) (us:=[i64 (a.length:Int),i64 g,zS c b.length d,zS q ([]:List Edge).length 0]) sizeOf24 f0 rfl rfl rfl rfl rfl (cS rfl) rfl rfl (fun f1 (f2:aH G K (aJ 9 K c d b::box l 27 [i64 (a.length:Int),i64 g,zS c b.length d,zS q ([]:List Edge).length 0]::aJ 69 K q 0 ([]:List Edge)::box k 27 n::L) f1)=>(yW ?_))
 refine aZ (fun f w=>∃ y z J,vF a g b y=some R/\f 4=zP (some ⟨k,0,none⟩)/\f 5=zP (some ⟨l,0,none⟩)/\aH G K (aJ 69 K z J y::aJ 9 K c d b::box l 27 [i64 (a.length:Int),i64 g,zS c b.length d,zS z y.length J]::box k 27 n::L) w) ?_ ?_
 ·rintro f j4 ⟨y,z,J,u,b9,j5,f3⟩
  unfold vF at u
  refine yW ?_;refine bS (i:=3) (ns:=[i64 (a.length:Int),i64 g,zS c b.length d,zS z y.length J]) (us:=[i64 (a.length:Int),i64 g,zS c b.length d,zS z y.length J]) sizeOf27 f3 rfl b9 rfl rfl rfl (cS rfl) rfl rfl (fun f4 (c0:aH G K (aJ 69 K z J y::aJ 9 K c d b::box l 27 [i64 (a.length:Int),i64 g,zS c b.length d,zS z y.length J]::box k 27 [i64 (a.length:Int),i64 g,zS c b.length d,zS z y.length J]::L) f4)=>(yW ?_))
  obtain rfl:=zI u
  exact bK (mG results45 (dM (vs:=[i64 (a.length:Int),i64 g,zS c b.length d,zS z y.length J]) rfl cZ c0 (i:=3) rfl b9 rfl) ⟨c,d,z,J,rfl,(aH.arr 4 [1,0] c0 rfl)⟩)
 obtain ⟨j6,f6,u⟩:=aB u
 refine cE f6 (fun s f w=>match s with|(m,V)=>∃ o p,f 0=cL a1 k2/\f 1=zS a10 a.length c11/\f 4=zP (some ⟨k,0,none⟩)/\f 5=zP (some ⟨l,0,none⟩)/\f 6=i64 V/\aH G K (aJ 9 K c d b::box l 27 [i64 (a.length:Int),i64 g,zS c b.length d,zS o m.length p]::aJ 69 K o p m::box k 27 n::L) w) ?_ ?_
 ·exact ⟨q,0,rfl,rfl,rfl,rfl,rfl,f2⟩
 ·rintro ⟨m,V⟩ b1 f j7 e f7 ⟨o,p,c1,c2,b2,b3,c3,c4⟩
  replace e:aBs t a m V=some b1:=e
  unfold aBs at e
  refine yW ?_
  rcases aG e with ⟨f8,e⟩|⟨f8,e⟩
  ·refine yW ?_;refine aZ (fun f w=>∃ a6 a8 a9,vG V a6=some b1/\f 0=cL a1 k2/\f 1=zS a10 a.length c11/\f 4=zP (some ⟨k,0,none⟩)/\f 5=zP (some ⟨l,0,none⟩)/\f 6=i64 V/\aH G K (aJ 69 K a8 a9 a6::aJ 9 K c d b::box l 27 [i64 (a.length:Int),i64 g,zS c b.length d,zS a8 a6.length a9]::box k 27 n::L) w) ?_ ?_
   ·rintro f j8 ⟨a6,a8,a9,e,f9,g0,g1,g2,j9,g3⟩
    unfold vG at e
    refine yW ?_;exact ⟨(a6,wr (V+1)),(zI e).symm,a8,a9,f9,g0,g1,g2,rfl,(aH.arr 3 [1,2,0] g3 rfl)⟩
   refine yW ?_;obtain ⟨j,g4,e⟩:=aB e
   refine yW ?_;obtain ⟨k0,k1,g5⟩:=cR.el (sz:=3) rfl h9 g4
   cases g5
   refine yW ?_;refine bR (vs:=[i64 0,i64 0,i64 0]) zeroValue69 c4 rfl (fun Z k3 g6=>(bS (i:=0) (ns:=[i64 j.F,i64 j.B,i64 j.To]) (us:=[i64 j.F,i64 j.B,i64 j.To]) sizeOf69 g6 rfl rfl rfl rfl rfl (cS rfl) rfl rfl (fun g7 (g8:aH G K (box Z 69 [i64 j.F,i64 j.B,i64 j.To]::aJ 9 K c d b::box l 27 [i64 (a.length:Int),i64 g,zS c b.length d,zS o m.length p]::aJ 69 K o p m::box k 27 n::L) g7)=>(yW ?_))))
   obtain ⟨r,g9,e⟩:=aB e
   refine zF call82 (uQ g8 b0 g9) ?_
   rintro _ k4 ⟨rfl,h0⟩
   refine yW ?_;refine bS (i:=0) (ns:=[i64 r]) (us:=[i64 r,i64 j.B,i64 j.To]) sizeOf2 h0 rfl rfl rfl rfl rfl (cS rfl) rfl rfl (fun h1 (h2:aH G K (box Z 69 [i64 r,i64 j.B,i64 j.To]::aJ 9 K c d b::box l 27 [i64 (a.length:Int),i64 g,zS c b.length d,zS o m.length p]::aJ 69 K o p m::box k 27 n::L) h1)=>(yW ?_))
   obtain ⟨x,h4,e⟩:=aB e
   refine zF call82 (uQ h2 b0 h4) ?_
   rintro _ k5 ⟨rfl,h5⟩
   refine yW ?_;refine bS (i:=0) (ns:=[i64 x]) (us:=[i64 r,i64 j.B,i64 x]) sizeOf2 h5 rfl rfl rfl rfl rfl (cS rfl) rfl rfl (fun h7 (c6:aH G K (box Z 69 [i64 r,i64 j.B,i64 x]::aJ 9 K c d b::box l 27 [i64 (a.length:Int),i64 g,zS c b.length d,zS o m.length p]::aJ 69 K o p m::box k 27 n::L) h7)=>?_)
   iterate 3 refine aIQ ?_
   refine cQ (fun f w=>∃ b4,vH m V j r x b4=some b1/\f 0=cL a1 k2/\f 1=zS a10 a.length c11/\f 4=zP (some ⟨k,0,none⟩)/\f 5=zP (some ⟨l,0,none⟩)/\f 6=i64 V/\f 7=zP (some ⟨Z,0,none⟩)/\f 58=zB b4/\aH G K (box Z 69 [i64 r,i64 j.B,i64 x]::aJ 9 K c d b::box l 27 [i64 (a.length:Int),i64 g,zS c b.length d,zS o m.length p]::aJ 69 K o p m::box k 27 n::L) w) ?_ ?_
   ·rintro f k6 ⟨b4,e,c7,c9,d0,d1,d2,k7,k8,d3⟩
    unfold vH at e
    refine yW ?_
    rcases aG e with ⟨h8,e⟩|⟨h8,e⟩
    ·refine yW ?_;refine bZ (Kt:=K) (xs:=([⟨r,j.B,x⟩]:List Edge)) (cs:=[i64 r,i64 j.B,i64 x]) (vs:=[(0,Value.agg #[i64 r,i64 j.B,i64 x])]) cI fG rfl rfl d3 rfl (by kernel_rfl) rfl rfl rfl ⟨rfl,trivial⟩ (fun i0 i1 (i2:aH G K (aJ 69 K i0 1 ([⟨r,j.B,x⟩]:List Edge)::box Z 69 [i64 r,i64 j.B,i64 x]::aJ 9 K c d b::box l 27 [i64 (a.length:Int),i64 g,zS c b.length d,zS o m.length p]::aJ 69 K o p m::box k 27 n::L) i1)=>?_)
     obtain ⟨a0,i3,e⟩:=aB e
     refine dA (i:=3) cI underlying25 fG rfl rfl i2 rfl (zR _) (zR _) i3 rfl rfl rfl rfl (fun _ h=>h) (fun a2 a3 i4 (i5:aH G K (box Z 69 [i64 r,i64 j.B,i64 x]::aJ 9 K c d b::box l 27 [i64 (a.length:Int),i64 g,zS c b.length d,zS o m.length p]::aJ 69 K a2 a3 a0::box k 27 n::L) i4)=>(yW ?_));refine bS (i:=2) (ns:=[zS a2 a0.length a3]) (us:=[i64 (a.length:Int),i64 g,zS c b.length d,zS a2 a0.length a3]) sizeOf25 i5 rfl rfl rfl rfl rfl (cS rfl) rfl rfl (fun i6 (i7:aH G K (box Z 69 [i64 r,i64 j.B,i64 x]::aJ 9 K c d b::box l 27 [i64 (a.length:Int),i64 g,zS c b.length d,zS a2 a0.length a3]::aJ 69 K a2 a3 a0::box k 27 n::L) i6)=>(yW ?_))
     exact ⟨a0,a2,a3,e,c7,c9,d0,d1,d2,(aH.arr 4 [3,1,2] i7 rfl)⟩
    ·refine yW ?_;exact ⟨m,o,p,e,c7,c9,d0,d1,d2,(aH.arr 4 [3,1,2] d3 rfl)⟩
   refine yW ?_
   rcases aG e with ⟨i8,e⟩|⟨i8,e⟩
   ·refine yW ?_;exact ⟨decide (0<=x),e,c1,c2,b2,b3,c3,rfl,rfl,c6⟩
   ·refine yW ?_;exact ⟨false,e,c1,c2,b2,b3,c3,rfl,rfl,c6⟩
  ·refine yW ?_
   have i9:=f7 _ (zI e).symm
   subst i9
   have u:(vF a g b m)=some R:=u
   refine yW ?_;exact ⟨m,o,p,u,b2,b3,(aH.arr 3 [2,0,1] c4 rfl)⟩
theorem uR {t:cO} {l:Nat} {R:(List Int)} (hs:aH G K (L) w) (h3:fJ K a1 l (zC t a4 c5 a7 c8)) (h6:cR K a4 c5 t.L) (h9:cR K a7 c8 t.E) (d:xB t=some R):
  Calls Tryz.prog 46 ([cL a1 l]:List Value).toArray w (eN fun v w'=>∃ c3 c4,v=zS c3 R.length c4/\aH G K (aJ 2 K c3 c4 R::L) w'):=by
 refine zH func46 ?_;unfold xB at d
 refine yW ?_;obtain ⟨b,f0,d⟩:=aB d
 refine wS (e:=(false:Bool)) dY ez_4 rfl rfl hs rfl rfl rfl f0 rfl (fun c f1 (c6:aH G K (aJ 4 K c b.length b::L) f1)=>(yW ?_));obtain ⟨l6,b3,d⟩:=aB d
 have z:=cU c6 (i:=0) rfl b3
 refine aC (dB dY rfl z rfl rfl rfl b3) ?_;obtain ⟨f2,c7,d⟩:=aB d
 refine iH (i:=0) (t:=0) (ns:=[zB true]) (e':=(true:Bool)) sizeOf4 c6 rfl (zR _) rfl rfl rfl b3 c7 rfl rfl (cS rfl) rfl (fun cs h=>by cases h;rfl) (fun f3 (f4:aH G K (aJ 4 K c b.length f2::L) f3)=>(yW ?_));refine aZ (fun f w=>∃ k,sI t k=some R/\f 0=cL a1 l/\f 3=zS c k.length b.length/\aH G K (aJ 4 K c b.length k::L) w) ?_ ?_
 ·rintro f l7 ⟨k,d,f5,f6,f7⟩
  unfold sI at d
  refine yW ?_;refine bZ (Kt:=K) (xs:=([]:List Int)) (cs:=[]) (vs:=[]) bY fC rfl rfl f7 rfl (by kernel_rfl) rfl rfl rfl trivial (fun c9 f8 (f9:aH G K (aJ 2 K c9 0 ([]:List Int)::aJ 4 K c b.length k::L) f8)=>(yW ?_))
  refine aZ (fun f w=>∃ a2 a3 a5,sG a2=some R/\f 6=zS a3 a2.length a5/\aH G K (aJ 2 K a3 a5 a2::L) w) ?_ ?_
  ·rintro f l8 ⟨a2,a3,a5,d,l9,g0⟩
   unfold sG at d
   refine yW ?_;obtain rfl:=zI d
   exact aIK results46 ⟨a3,a5,rfl,g0⟩
  obtain ⟨m0,g2,d⟩:=aB d
  refine cE g2 (fun s f w=>match s with|(p,m)=>∃ u x,f 0=cL a1 l/\f 3=zS c k.length b.length/\f 6=zS u p.length x/\f 7=i64 m/\aH G K (aJ 2 K u x p::aJ 4 K c b.length k::L) w) ?_ ?_
  ·exact ⟨c9,0,f5,f6,rfl,rfl,f9⟩
  ·rintro ⟨p,m⟩ d0 f m1 g g3 ⟨u,x,d1,d2,d3,d4,b4⟩
   replace g:aAp t k p m=some d0:=g
   unfold aAp at g
   refine yW ?_
   rcases aG g with ⟨g4,g⟩|⟨g4,g⟩
   ·refine yW ?_;refine aZ (fun f w=>∃ J a6 a8,sH m J=some d0/\f 0=cL a1 l/\f 3=zS c k.length b.length/\f 6=zS a6 J.length a8/\f 7=i64 m/\aH G K (aJ 2 K a6 a8 J::aJ 4 K c b.length k::L) w) ?_ ?_
    ·rintro f m2 ⟨J,a6,a8,g,g5,g6,g7,m3,g8⟩
     unfold sH at g
     refine yW ?_;exact ⟨(J,wr (m+1)),(zI g).symm,a6,a8,g5,g6,g7,rfl,g8⟩
    refine yW ?_;obtain ⟨m4,g9,g⟩:=aB g
    refine aC (dB dY rfl z rfl rfl rfl g9) (yW ?_)
    rcases aG g with ⟨h0,g⟩|⟨h0,g⟩
    ·refine yW ?_;refine bZ (Kt:=K) (xs:=([m]:List Int)) (cs:=[i64 m]) (vs:=[(0,i64 m)]) bY fC rfl rfl b4 rfl (by kernel_rfl) rfl rfl rfl ⟨rfl,trivial⟩ (fun h1 h2 (h4:aH G K (aJ 2 K h1 1 ([m]:List Int)::aJ 2 K u x p::aJ 4 K c b.length k::L) h2)=>?_)
     obtain ⟨d5,h5,g⟩:=aB g
     refine dA (i:=0) bY underlying35 fC rfl rfl h4 rfl (zR _) (zR _) h5 rfl rfl rfl rfl (fun _ h=>h) (fun d6 d7 h7 (h8:aH G K (aJ 2 K d6 d7 d5::aJ 4 K c b.length k::L) h7)=>(yW ?_));exact ⟨d5,d6,d7,g,d1,d2,rfl,d4,h8⟩
    ·refine yW ?_;exact ⟨p,u,x,g,d1,d2,d3,d4,b4⟩
   ·refine yW ?_
    have i0:=g3 _ (zI g).symm
    subst i0
    have d:(sG p)=some R:=d
    refine yW ?_;exact ⟨p,u,x,d,d3,(aH.arr 2 [0] b4 rfl)⟩
 obtain ⟨m5,i1,d⟩:=aB d
 refine cE i1 (fun s f w=>match s with|(y,b5)=>f 0=cL a1 l/\f 3=zS c y.length b.length/\f 4=zB b5/\aH G K (aJ 4 K c b.length y::L) w) ?_ ?_
 ·exact ⟨rfl,(Eq.trans rfl (congrArg (fun n=>zS c n b.length) (gN c7))),rfl,f4⟩
 ·rintro ⟨y,b5⟩ a9 f m6 j i2 ⟨d8,d9,m7,e0⟩
  replace j:xA t y b5=some a9:=j
  unfold xA at j
  refine yW ?_
  rcases aG j with ⟨i3,j⟩|⟨i3,j⟩
  ·refine yW ?_;refine aZ (fun f w=>∃ V b0,aAq V b0=some a9/\f 0=cL a1 l/\f 3=zS c V.length b.length/\f 4=zB b0/\aH G K (aJ 4 K c b.length V::L) w) ?_ ?_
   ·rintro f m8 ⟨V,b0,j,i4,i5,i6,i7⟩
    unfold aAq at j
    refine yW ?_;exact ⟨(V,b0),(zI j).symm,i4,i5,i6,i7⟩
   refine yW ?_;refine aZ (fun f w=>∃ Z b1,sJ Z b1=some a9/\f 0=cL a1 l/\f 3=zS c Z.length b.length/\f 4=zB b1/\aH G K (aJ 4 K c b.length Z::L) w) ?_ ?_
   ·rintro f m9 ⟨Z,b1,j,i8,i9,j0,j1⟩
    unfold sJ at j
    refine yW ?_;exact ⟨Z,b1,j,i8,i9,j0,j1⟩
   obtain ⟨n0,j2,j⟩:=aB j
   refine cE j2 (fun s f w=>match s with|(o,q,r)=>f 0=cL a1 l/\f 3=zS c o.length b.length/\f 4=zB q/\f 5=i64 r/\aH G K (aJ 4 K c b.length o::L) w) ?_ ?_
   ·exact ⟨d8,d9,rfl,rfl,e0⟩
   ·rintro ⟨o,q,r⟩ b6 f n1 a j3 ⟨b7,b8,b9,e1,c0⟩
    replace a:aAr t o q r=some b6:=a
    unfold aAr at a
    refine yW ?_
    rcases aG a with ⟨j4,a⟩|⟨j4,a⟩
    ·refine yW ?_;refine aZ (fun f w=>∃ a0 b2,sK r a0 b2=some b6/\f 0=cL a1 l/\f 3=zS c a0.length b.length/\f 4=zB b2/\f 5=i64 r/\aH G K (aJ 4 K c b.length a0::L) w) ?_ ?_
     ·rintro f n2 ⟨a0,b2,a,j5,j6,j7,n3,j8⟩
      unfold sK at a
      refine yW ?_;exact ⟨(a0,b2,wr (r+1)),(zI a).symm,j5,j6,j7,rfl,j8⟩
     iterate 1 refine aIQ ?_
     refine cQ (fun f w=>∃ c1,sL t o q r c1=some b6/\f 0=cL a1 l/\f 3=zS c o.length b.length/\f 4=zB q/\f 5=i64 r/\f 53=zB c1/\aH G K (aJ 4 K c b.length o::L) w) ?_ ?_
     ·rintro f n4 ⟨c1,a,e2,e3,j9,e4,n5,e5⟩
      unfold sL at a
      refine yW ?_
      rcases aG a with ⟨k0,a⟩|⟨k0,a⟩
      ·refine yW ?_;obtain ⟨n6,k1,a⟩:=aB a
       refine yW ?_;obtain ⟨n7,n8,k3⟩:=cR.el (sz:=3) rfl h9 k1
       cases k3
       refine yW ?_;obtain ⟨n9,e6,a⟩:=aB a
       refine aC (dB dY rfl z rfl rfl rfl e6) ?_;obtain ⟨e7,e8,a⟩:=aB a
       refine iH (i:=0) (t:=0) (ns:=[zB true]) (e':=(true:Bool)) sizeOf4 e5 rfl (zR _) rfl rfl rfl e6 e8 rfl rfl (cS rfl) rfl (fun cs h=>by cases h;rfl) (fun k4 (k5:aH G K (aJ 4 K c b.length e7::L) k4)=>(yW ?_));exact ⟨e7,true,a,e2,(Eq.trans e3 (congrArg (fun n=>zS c n b.length) (gN e8))),rfl,e4,k5⟩
      ·refine yW ?_;exact ⟨o,q,a,e2,e3,j9,e4,e5⟩
     refine yW ?_;obtain ⟨o0,k6,a⟩:=aB a
     refine yW ?_;obtain ⟨o1,o2,k7⟩:=cR.el (sz:=3) rfl h9 k6
     cases k7
     refine yW ?_;obtain ⟨o3,k8,a⟩:=aB a
     refine aC (dB dY rfl z rfl rfl rfl k8) (yW ?_)
     rcases aG a with ⟨k9,a⟩|⟨k9,a⟩
     ·refine yW ?_;obtain ⟨l0,l1,a⟩:=aB a
      refine aC (dB dY rfl z rfl rfl rfl l1) (yW ?_);exact ⟨!l0,a,b7,b8,b9,e1,rfl,c0⟩
     ·refine yW ?_;exact ⟨false,a,b7,b8,b9,e1,rfl,c0⟩
    ·refine yW ?_
     have l2:=j3 _ (zI a).symm
     subst l2
     have j:(sJ o q)=some a9:=j
     refine yW ?_;exact ⟨o,q,j,b7,b8,b9,c0⟩
  ·refine yW ?_
   have l3:=i2 _ (zI j).symm
   subst l3
   have d:(sI t y)=some R:=d
   refine yW ?_;exact ⟨y,d,d8,d9,e0⟩
theorem aGz {a b R:Int} (d:aH G K (L) w) (c:aFW a b=some R):
  Calls Tryz.prog 123 ([i64 a,i64 b]:List Value).toArray w (eN fun v w'=>v=i64 R/\aH G K (L) w'):=by
 refine zH func123 ?_;unfold aFW at c
 refine yW ?_
 rcases aG c with ⟨e,c⟩|⟨e,c⟩
 ·refine yW ?_;obtain rfl:=zI c
  exact bK (aW (bM results123 rfl ⟨rfl,d⟩))
 ·refine yW ?_;obtain rfl:=zI c
  exact aIK results123 ⟨rfl,d⟩
theorem aBb {p:(List Int)} {R:Int} (h:aH G K (L) w) (i:cR K a1 c2 p) (b:zJ p=some R):
  Calls Tryz.prog 83 ([zS a1 p.length c2]:List Value).toArray w (eN fun v w'=>v=i64 R/\aH G K (L) w'):=by
 refine zH func83 ?_;unfold zJ at b
 refine yW ?_;refine aZ (fun f w=>∃ e,pF e=some R/\f 3=i64 e/\aH G K (L) w) ?_ ?_
 ·rintro f V ⟨e,b,Z,j⟩
  unfold pF at b
  refine yW ?_;obtain rfl:=zI b
  exact aIK results83 ⟨rfl,j⟩
 obtain ⟨a0,l,b⟩:=aB b
 refine cE l (fun s f w=>match s with|(c,d)=>f 0=zS a1 p.length c2/\f 3=i64 c/\f 4=i64 d/\aH G K (L) w) ?_ ?_
 ·exact ⟨rfl,rfl,rfl,h⟩
 ·rintro ⟨c,d⟩ m f a2 a n ⟨o,q,a3,g⟩
  replace a:xC p c d=some m:=a
  unfold xC at a
  refine yW ?_
  rcases aG a with ⟨r,a⟩|⟨r,a⟩
  ·refine yW ?_;refine cT (yW ?_)
   obtain ⟨a4,t,a⟩:=aB a
   refine yW ?_;obtain ⟨a5,a6,u⟩:=cR.el (sz:=1) rfl i t
   cases u
   refine yW ?_;obtain ⟨x,y,a⟩:=aB a
   refine zF call123 (aGz g y) ?_
   rintro _ a7 ⟨rfl,z⟩
   refine yW ?_;exact ⟨(x,wr (d+1)),(zI a).symm,o,rfl,rfl,z⟩
  ·refine yW ?_
   have J:=n _ (zI a).symm
   subst J
   have b:(pF c)=some R:=b
   refine yW ?_;exact ⟨c,b,q,g⟩
theorem aDU {t:cO} {y:Nat} {p:(List Int)} {R:cO} (hs:aH G K (L) w) (h3:fJ K a1 y (zC t a4 c5 a7 c8)) (h6:cR K a4 c5 t.L) (h9:cR K a7 c8 t.E) (z:cR K a10 c11 p) (c:aAs t p=some R):
  Calls Tryz.prog 47 ([cL a1 y,zS a10 p.length c11]:List Value).toArray w (eN fun v w'=>∃ a2 a3 a5 a6,v=Value.agg (zCa R a2 a3 a5 a6)/\aH G K (aJ 9 K a2 a3 R.L::aJ 69 K a5 a6 R.E::L) w'):=by
 let j:=zG
 refine zH func47 ?_;unfold aAs at c
 refine yW ?_;refine bR (vs:=j) zeroValue27 hs rfl (fun e h1 d0=>(yW ?_))
 refine bZ (Kt:=K) (xs:=([]:List Edge)) (cs:=[]) (vs:=[]) cI fG rfl rfl d0 rfl (by kernel_rfl) rfl rfl rfl trivial (fun a8 d1 (d2:aH G K (aJ 69 K a8 0 ([]:List Edge)::box e 27 j::L) d1)=>(yW ?_));refine aZ (fun f w=>∃ x J V,mJ t p x=some R/\f 0=cL a1 y/\f 1=zS a10 p.length c11/\f 4=zP (some ⟨e,0,none⟩)/\f 5=zS J x.length V/\aH G K (aJ 69 K J V x::box e 27 j::L) w) ?_ ?_
 ·rintro f h2 ⟨x,J,V,c,h4,h5,a9,h7,b0⟩
  unfold mJ at c
  refine yW ?_;refine dV (C:=fun w'=>∃ L',aH G K L' w') [(0,0),(2,0),(3,0),(4,0),(5,0),(6,0),(7,0),(8,0),(9,0),(10,0),(11,0),(12,0),(13,0),(1,1),(14,1),(15,2)] bV (by kernel_rfl) (fun _ hg=>⟨_,aH.mono b0 hg⟩) (fun h8 d3=>?_)
  have d4:=aH.mono b0 d3
  refine yW ?_;obtain ⟨i0,d5,c⟩:=aB c
  refine yW ?_;obtain ⟨i1,i2,d6⟩:=cR.el (sz:=1) rfl z d5
  cases d6
  refine yW ?_;refine gX rfl ?_
  obtain ⟨i3,d7,c⟩:=aB c
  refine zF call83 (aBb d4 z d7) ?_
  rintro _ i4 ⟨rfl,b1⟩
  refine aX (aA ⟨⟨_,b1⟩,?_⟩)
  refine gX rfl ?_;obtain ⟨i5,d8,d9,e0,e1⟩:=aH.lendS (i:=0) b1 (zR _) rfl
  obtain ⟨a,e2,c⟩:=aB c
  refine zF call43 (qZ e0 (h6.mono d8) d9 e2) ?_
  rintro _ i6 ⟨k,l,m,n,rfl,e3⟩
  have b2:=e1 _ _ e3
  refine aX (aA ⟨⟨_,b2⟩,?_⟩)
  refine aCl rfl (bS (i:=3) (ns:=(zC a k l m n)) (us:=(zC a k l m n)) sizeOf27 b2 rfl a9 rfl rfl rfl (cS rfl) rfl rfl (fun e4 (b3:aH G K (aJ 69 K J V x::aJ 9 K k l a.L::aJ 69 K m n a.E::box e 27 (zC a k l m n)::L) e4)=>(yW ?_)));refine gZ (yW ?_)
  obtain rfl:=zI c
  exact bK (mG results47 (dM (vs:=(zC a k l m n)) rfl cZ b3 (i:=3) rfl a9 rfl) ⟨k,l,m,n,rfl,(aH.arr 4 [1,2] b3 rfl)⟩)
 obtain ⟨i7,e6,c⟩:=aB c
 refine cE e6 (fun s f w=>match s with|(g,Z)=>∃ o q,f 0=cL a1 y/\f 1=zS a10 p.length c11/\f 4=zP (some ⟨e,0,none⟩)/\f 5=zS o g.length q/\f 6=i64 Z/\aH G K (aJ 69 K o q g::box e 27 j::L) w) ?_ ?_
 ·exact ⟨a8,0,rfl,rfl,rfl,rfl,rfl,d2⟩
 ·rintro ⟨g,Z⟩ e7 f i8 b e8 ⟨o,q,b4,b5,b6,e9,i9,b7⟩
  replace b:rF t p g Z=some e7:=b
  unfold rF at b
  refine yW ?_
  rcases aG b with ⟨f0,b⟩|⟨f0,b⟩
  ·refine yW ?_;refine cT (yW ?_)
   obtain ⟨d,f1,b⟩:=aB b
   refine yW ?_;obtain ⟨j0,j1,f2⟩:=cR.el (sz:=3) rfl h9 f1
   cases f2
   refine yW ?_;refine bR (vs:=[i64 0,i64 0,i64 0]) zeroValue69 b7 rfl (fun f3 j2 f4=>(bS (i:=0) (ns:=[i64 d.F,i64 d.B,i64 d.To]) (us:=[i64 d.F,i64 d.B,i64 d.To]) sizeOf69 f4 rfl rfl rfl rfl rfl (cS rfl) rfl rfl (fun f5 (f6:aH G K (box f3 69 [i64 d.F,i64 d.B,i64 d.To]::aJ 69 K o q g::box e 27 j::L) f5)=>(yW ?_))))
   obtain ⟨a0,b8,j3,b9,f7⟩:=aH.lendB (i:=0) f6 rfl
   refine dV (C:=fun w'=>∃ L',aH G a0 L' w') [(0,0),(1,0),(2,0),(3,0),(4,0),(5,0),(6,0),(7,0),(8,0),(9,0),(10,0),(11,0),(12,0),(13,0),(14,1),(15,1),(16,0)] bV (by kernel_rfl) (fun _ hg=>⟨_,aH.mono b9 hg⟩) (fun j4 f8=>?_)
   have f9:=aH.mono b9 f8
   refine yW ?_;obtain ⟨r,g0,b⟩:=aB b
   refine yW ?_;obtain ⟨j5,j6,g1⟩:=cR.el (sz:=1) rfl z g0
   cases g1
   refine yW ?_;obtain ⟨u,g2,b⟩:=aB b
   refine yW ?_;obtain ⟨j7,j8,g3⟩:=cR.el (sz:=1) rfl z g2
   cases g3
   refine yW ?_;refine bX rfl (fun _ _=>dD (vs:=[(0,i64 r),(1,i64 d.B),(2,i64 u)]) (cs:=[i64 r,i64 d.B,i64 u]) aDq rfl (by kernel_rfl)) (gX rfl (bZ (Kt:=K) (xs:=([⟨r,d.B,u⟩]:List Edge)) (cs:=[i64 r,i64 d.B,i64 u]) (vs:=[(0,Value.agg #[i64 r,i64 d.B,i64 u])]) cI fG rfl rfl f9 rfl (by kernel_rfl) rfl rfl rfl ⟨rfl,trivial⟩ (fun g4 g5 (c0:aH G a0 (aJ 69 K g4 1 ([⟨r,d.B,u⟩]:List Edge)::aJ 69 K o q g::box e 27 j::L) g5)=>(aX (aA ⟨⟨_,c0⟩,?_⟩)))))
   refine gX rfl ?_;obtain ⟨c1,g6,b⟩:=aB b
   refine dA (i:=0) cI underlying25 fG rfl rfl c0 rfl b8 b8 g6 rfl rfl rfl rfl (fun _ h=>h) (fun c2 c3 g7 (c4:aH G a0 (aJ 69 K c2 c3 c1::box e 27 j::L) g7)=>(aX (aA ⟨⟨_,c4⟩,?_⟩)))
   refine yW ?_;refine gZ ?_
   have g8:=f7 _ _ c4
   refine yW ?_;exact ⟨(c1,wr (Z+1)),(zI b).symm,c2,c3,b4,b5,b6,rfl,rfl,(aH.arr 1 [] g8 rfl)⟩
  ·refine yW ?_
   have g9:=e8 _ (zI b).symm
   subst g9
   have c:(mJ t p g)=some R:=c
   refine yW ?_;exact ⟨g,o,q,c,b4,b5,b6,e9,b7⟩
theorem mE {a b:(List Int)} {R:Bool} (g:aH G K (L) w) (k:cR K a1 c2 a) (l:cR K a4 c5 b) (c:rG a b=some R):
  Calls Tryz.prog 54 ([zS a1 a.length c2,zS a4 b.length c5]:List Value).toArray w (eN fun v w'=>v=zB R/\aH G K (L) w'):=by
 refine zH func54 ?_;unfold rG at c
 refine yW ?_
 rcases aG c with ⟨m,c⟩|⟨m,c⟩
 ·refine yW ?_;obtain rfl:=zI c
  exact bK (aW (bM results54 rfl ⟨rfl,g⟩))
 ·refine yW ?_;refine aZ (fun f w=>vI=some R/\aH G K (L) w) ?_ ?_
  ·rintro f w9 ⟨c,o⟩
   unfold vI at c
   refine yW ?_;obtain rfl:=zI c
   exact aIK results54 ⟨rfl,o⟩
  obtain ⟨a6,q,c⟩:=aB c
  refine cE q (fun (e:Int) f w=>f 0=zS a1 a.length c2/\f 1=zS a4 b.length c5/\f 5=i64 e/\aH G K (L) w) ?_ ?_
  ·exact ⟨rfl,rfl,rfl,g⟩
  ·rintro e r f a7 d h ⟨t,u,a8,i⟩
   replace d:aBt a b e=some r:=d
   unfold aBt at d
   refine yW ?_
   rcases aG d with ⟨x,d⟩|⟨x,d⟩
   ·refine yW ?_;refine cT (yW ?_)
    refine dF (C:=fun w'=>aH G K (L) w') bV (by kernel_rfl) (aH.mono i (dG.drew _)) (yW ?_);obtain ⟨a9,y,d⟩:=aB d
    refine yW ?_;obtain ⟨b0,b1,z⟩:=cR.el (sz:=1) rfl k y
    cases z
    refine yW ?_;obtain ⟨b2,J,d⟩:=aB d
    refine yW ?_;obtain ⟨b3,b4,V⟩:=cR.el (sz:=1) rfl l J
    cases V
    refine yW ?_;refine dI (fun b5 j=>(yW ?_))
    rcases aG d with ⟨Z,d⟩|⟨Z,d⟩
    ·refine yW ?_;refine bK (cA (aW (aW ?_)))
     have a0:=h _ (zI d).symm
     subst a0
     have c:(some false)=some R:=c
     obtain rfl:=zI c
     exact cA (aW (aW (bM results54 rfl ⟨rfl,j⟩)))
    ·refine yW ?_;exact ⟨wr (e+1),(zI d).symm,t,u,rfl,j⟩
   ·refine yW ?_
    have a3:=h _ (zI d).symm
    subst a3
    have c:(vI)=some R:=c
    refine yW ?_;exact ⟨c,i⟩
theorem aDs {d:(List Int)} {n:Int} {R:(List Int)} (hs:aH G K (L) w) (J:cR K a1 c2 d) (b:aEo d n=some R):
  Calls Tryz.prog 154 ([zS a1 d.length c2,i64 n]:List Value).toArray w (eN fun v w'=>∃ b2 b3,v=zS b2 R.length b3/\aH G K (aJ 2 K b2 b3 R::L) w'):=by
 refine zH func154 ?_;unfold aEo at b
 refine yW ?_;refine bZ (Kt:=K) (xs:=([]:List Int)) (cs:=[]) (vs:=[]) bY fC rfl rfl hs rfl (by kernel_rfl) rfl rfl rfl trivial (fun a4 w5 (d2:aH G K (aJ 2 K a4 0 ([]:List Int)::L) w5)=>(yW ?_))
 refine aZ (fun f w=>∃ l V m o,aJN n l V=some R/\f 1=i64 n/\f 5=zS m l.length o/\f 6=zB V/\aH G K (aJ 2 K m o l::L) w) ?_ ?_
 ·rintro f h5 ⟨l,V,m,o,b,h6,d3,h7,b5⟩
  unfold aJN at b
  iterate 1 refine aIQ ?_
  refine jR (fun f w=>∃ q r t,zN q=some R/\f 5=zS r q.length t/\aH G K (aJ 2 K r t q::L) w) ?_ ?_
  ·rintro f h8 ⟨q,r,t,b,h9,d4⟩
   unfold zN at b
   refine yW ?_;obtain rfl:=zI b
   exact aIK results154 ⟨r,t,rfl,d4⟩
  refine yW ?_
  rcases aG b with ⟨d6,b⟩|⟨d6,b⟩
  ·refine yW ?_;refine bZ (Kt:=K) (xs:=([n]:List Int)) (cs:=[i64 n]) (vs:=[(0,i64 n)]) bY fC rfl rfl b5 rfl (by kernel_rfl) rfl rfl rfl ⟨rfl,trivial⟩ (fun d7 d8 (d9:aH G K (aJ 2 K d7 1 ([n]:List Int)::aJ 2 K m o l::L) d8)=>?_)
   obtain ⟨b6,e0,b⟩:=aB b
   refine dA (i:=0) bY underlying35 fC rfl rfl d9 rfl (zR _) (zR _) e0 rfl rfl rfl rfl (fun _ h=>h) (fun b7 b8 e1 (e2:aH G K (aJ 2 K b7 b8 b6::L) e1)=>(yW ?_));exact ⟨b6,b7,b8,b,rfl,e2⟩
  ·refine yW ?_;exact ⟨l,m,o,b,d3,b5⟩
 obtain ⟨i0,e3,b⟩:=aB b
 refine cE e3 (fun s f w=>match s with|(c,j,k)=>∃ e g,f 0=zS a1 d.length c2/\f 1=i64 n/\f 5=zS e c.length g/\f 6=zB j/\f 7=i64 k/\aH G K (aJ 2 K e g c::L) w) ?_ ?_
 ·exact ⟨a4,0,rfl,rfl,rfl,rfl,rfl,d2⟩
 ·rintro ⟨c,j,k⟩ Z f i1 a e4 ⟨e,g,b9,a0,a2,a3,c0,a5⟩
  replace a:aCt d n c j k=some Z:=a
  unfold aCt at a
  refine yW ?_
  rcases aG a with ⟨e5,a⟩|⟨e5,a⟩
  ·refine yW ?_;refine cT (jR (fun f w=>∃ p u x y,tY d k p u=some Z/\f 0=zS a1 d.length c2/\f 1=i64 n/\f 5=zS x p.length y/\f 6=zB u/\f 7=i64 k/\aH G K (aJ 2 K x y p::L) w) ?_ ?_)
   ·rintro f i2 ⟨p,u,x,y,a,e6,e7,i3,e8,i4,e9⟩
    unfold tY at a
    refine yW ?_;obtain ⟨z,f0,a⟩:=aB a
    refine yW ?_;obtain ⟨i5,i6,f1⟩:=cR.el (sz:=1) rfl J f0
    cases f1
    refine yW ?_;refine bZ (Kt:=K) (xs:=([z]:List Int)) (cs:=[i64 z]) (vs:=[(0,i64 z)]) bY fC rfl rfl e9 rfl (by kernel_rfl) rfl rfl rfl ⟨rfl,trivial⟩ (fun f2 f3 (f4:aH G K (aJ 2 K f2 1 ([z]:List Int)::aJ 2 K x y p::L) f3)=>?_)
    obtain ⟨c1,f5,a⟩:=aB a
    refine dA (i:=0) bY underlying35 fC rfl rfl f4 rfl (zR _) (zR _) f5 rfl rfl rfl rfl (fun _ h=>h) (fun c3 c4 f6 (f7:aH G K (aJ 2 K c3 c4 c1::L) f6)=>(yW ?_));exact ⟨(c1,u,wr (k+1)),(zI a).symm,c3,c4,e6,e7,rfl,e8,rfl,f7⟩
   iterate 1 refine aIQ ?_
   refine cQ (fun f w=>∃ a6,zQ d n c j k a6=some Z/\f 0=zS a1 d.length c2/\f 1=i64 n/\f 5=zS e c.length g/\f 6=zB j/\f 7=i64 k/\f 24=zB a6/\aH G K (aJ 2 K e g c::L) w) ?_ ?_
   ·rintro f i7 ⟨a6,a,a7,a9,c5,f8,b0,i8,b1⟩
    unfold zQ at a
    refine yW ?_
    rcases aG a with ⟨f9,a⟩|⟨f9,a⟩
    ·refine yW ?_;obtain ⟨i9,g0,a⟩:=aB a
     refine yW ?_;obtain ⟨j0,j1,g1⟩:=cR.el (sz:=1) rfl J g0
     cases g1
     refine yW ?_
     rcases aG a with ⟨g2,a⟩|⟨g2,a⟩
     ·refine yW ?_;refine bZ (Kt:=K) (xs:=([n]:List Int)) (cs:=[i64 n]) (vs:=[(0,i64 n)]) bY fC rfl rfl b1 rfl (by kernel_rfl) rfl rfl rfl ⟨rfl,trivial⟩ (fun g3 g4 (g5:aH G K (aJ 2 K g3 1 ([n]:List Int)::aJ 2 K e g c::L) g4)=>?_)
      obtain ⟨c6,g6,a⟩:=aB a
      refine dA (i:=0) bY underlying35 fC rfl rfl g5 rfl (zR _) (zR _) g6 rfl rfl rfl rfl (fun _ h=>h) (fun c7 c8 g7 (g8:aH G K (aJ 2 K c7 c8 c6::L) g7)=>(yW ?_));exact ⟨c6,true,c7,c8,a,a7,a9,rfl,rfl,b0,g8⟩
     ·refine yW ?_;exact ⟨c,true,e,g,a,a7,a9,c5,rfl,b0,b1⟩
    ·refine yW ?_;exact ⟨c,j,e,g,a,a7,a9,c5,f8,b0,b1⟩
   refine yW ?_
   rcases aG a with ⟨g9,a⟩|⟨g9,a⟩
   ·refine yW ?_;obtain ⟨h0,h1,a⟩:=aB a
    refine yW ?_;obtain ⟨j2,j3,h2⟩:=cR.el (sz:=1) rfl J h1
    cases h2
    refine yW ?_;exact ⟨decide (n<=h0),a,b9,a0,a2,a3,c0,rfl,a5⟩
   ·refine yW ?_;exact ⟨false,a,b9,a0,a2,a3,c0,rfl,a5⟩
  ·refine yW ?_
   have h4:=e4 _ (zI a).symm
   subst h4
   have b:(aJN n c j)=some R:=b
   refine yW ?_;exact ⟨c,j,e,g,b,a0,a2,a3,a5⟩
theorem aGg {t:cO} {j:Nat} {p:(List Int)} {k:Int} {R:(List Int)} (hs:aH G K (L) w) (h3:fJ K a1 j (zC t a4 c5 a7 c8)) (h6:cR K a4 c5 t.L) (h9:cR K a7 c8 t.E) (a8:cR K a10 c11 p) (b:aEG t p k=some R):
  Calls Tryz.prog 152 ([cL a1 j,zS a10 p.length c11,i64 k]:List Value).toArray w (eN fun v w'=>∃ u x,v=zS u R.length x/\aH G K (aJ 2 K u x R::L) w'):=by
 refine zH func152 ?_;unfold aEG at b
 refine yW ?_;refine bZ (Kt:=K) (xs:=([]:List Int)) (cs:=[]) (vs:=[]) bY fC rfl rfl hs rfl (by kernel_rfl) rfl rfl rfl trivial (fun y a9 (b0:aH G K (aJ 2 K y 0 ([]:List Int)::L) a9)=>(yW ?_))
 refine aZ (fun f w=>∃ l m n,vJ l=some R/\f 7=zS m l.length n/\aH G K (aJ 2 K m n l::L) w) ?_ ?_
 ·rintro f e1 ⟨l,m,n,b,e2,b1⟩
  unfold vJ at b
  refine yW ?_;obtain rfl:=zI b
  exact aIK results152 ⟨m,n,rfl,b1⟩
 obtain ⟨e3,b3,b⟩:=aB b
 refine cE b3 (fun s f w=>match s with|(c,d)=>∃ e g,f 0=cL a1 j/\f 1=zS a10 p.length c11/\f 2=i64 k/\f 7=zS e c.length g/\f 8=i64 d/\aH G K (aJ 2 K e g c::L) w) ?_ ?_
 ·exact ⟨y,0,rfl,rfl,rfl,rfl,rfl,b0⟩
 ·rintro ⟨c,d⟩ z f e4 a b4 ⟨e,g,J,V,Z,a0,a2,o⟩
  replace a:aBu t p k c d=some z:=a
  unfold aBu at a
  refine yW ?_
  rcases aG a with ⟨b5,a⟩|⟨b5,a⟩
  ·refine yW ?_;refine aZ (fun f w=>∃ h q r,vK d h=some z/\f 0=cL a1 j/\f 1=zS a10 p.length c11/\f 2=i64 k/\f 7=zS q h.length r/\f 8=i64 d/\aH G K (aJ 2 K q r h::L) w) ?_ ?_
   ·rintro f e5 ⟨h,q,r,a,b6,b7,b8,b9,e6,c0⟩
    unfold vK at a
    refine yW ?_;exact ⟨(h,wr (d+1)),(zI a).symm,q,r,b6,b7,b8,b9,rfl,c0⟩
   refine yW ?_;obtain ⟨e7,c1,a⟩:=aB a
   refine yW ?_;obtain ⟨e8,e9,c2⟩:=cR.el (sz:=3) rfl h9 c1
   cases c2
   refine yW ?_
   rcases aG a with ⟨c3,a⟩|⟨c3,a⟩
   ·refine yW ?_;refine dV (C:=fun w'=>∃ L',aH G K L' w') [(0,0),(1,0),(2,0),(3,0),(4,0),(5,0),(6,0),(7,0),(8,0),(9,0),(10,0),(11,0),(12,0),(13,0),(14,0),(15,0),(16,0),(17,0),(18,0),(19,0),(20,0),(21,0),(22,0),(23,0),(24,1),(25,0)] bV (by kernel_rfl) (fun _ hg=>⟨_,aH.mono o hg⟩) (fun f0 c4=>?_)
    have c6:=aH.mono o c4
    refine yW ?_;obtain ⟨f1,c7,a⟩:=aB a
    refine yW ?_;obtain ⟨f2,f3,c9⟩:=cR.el (sz:=1) rfl a8 c7
    cases c9
    refine yW ?_;refine gX rfl ?_
    obtain ⟨f4,f5,d0,d1,d2⟩:=aH.lendS (i:=0) c6 (zR _) rfl
    obtain ⟨d3,d4,a⟩:=aB a
    refine zF call154 (aDs d1 d0 d4) ?_
    rintro _ f6 ⟨d5,d6,rfl,d7⟩
    have a3:=d2 _ _ d7
    refine aX (aA ⟨⟨_,a3⟩,?_⟩)
    refine yW ?_;refine gZ (yW ?_)
    exact ⟨d3,d5,d6,a,J,V,Z,rfl,a2,(aH.arr 1 [] a3 rfl)⟩
   ·refine yW ?_;exact ⟨c,e,g,a,J,V,Z,a0,a2,o⟩
  ·refine yW ?_
   have d8:=b4 _ (zI a).symm
   subst d8
   have b:(vJ c)=some R:=b
   refine yW ?_;exact ⟨c,e,g,b,a0,o⟩
theorem aES {t:cO} {k2:Nat} {p R:(List Int)} (hs:aH G K (L) w) (h3:fJ K a1 k2 (zC t a4 c5 a7 c8)) (h6:cR K a4 c5 t.L) (h9:cR K a7 c8 t.E) (c2:cR K a10 c11 p) (n:aCu t p=some R):
  Calls Tryz.prog 124 ([cL a1 k2,zS a10 p.length c11]:List Value).toArray w (eN fun v w'=>∃ d8 d9,v=zS d8 R.length d9/\aH G K (aJ 2 K d8 d9 R::L) w'):=by
 refine zH func124 ?_;unfold aCu at n
 refine yW ?_;refine bZ (Kt:=K) (xs:=([]:List (List Int))) (cs:=[]) (vs:=[]) iA aAW rfl rfl hs rfl (by kernel_rfl) rfl rfl rfl trivial (fun e0 i7 (i8:aH G K (aJ 35 K e0 0 ([]:List (List Int))::L) i7)=>(yW ?_))
 refine aZ (fun f w=>∃ b d g j,Hp.le K b/\nT p d=some R/\f 1=zS a10 p.length c11/\f 5=zS g d.length j/\aH G b (aJ 35 b g j d::L) w) ?_ ?_
 ·rintro f r8 ⟨b,d,g,j,c3,n,i9,j0,j1⟩
  unfold nT at n
  refine yW ?_;refine bZ (Kt:=K) (xs:=([]:List Int)) (cs:=[]) (vs:=[]) bY fC rfl rfl j1 rfl (by kernel_rfl) rfl rfl rfl trivial (fun e1 j2 (j3:aH G b (aJ 2 K e1 0 ([]:List Int)::aJ 35 b g j d::L) j2)=>(yW ?_))
  refine aZ (fun f w=>∃ a9 b0 b1,pG a9=some R/\f 7=zS b0 a9.length b1/\aH G b (aJ 2 K b0 b1 a9::L) w) ?_ ?_
  ·rintro f r9 ⟨a9,b0,b1,n,s0,j4⟩
   unfold pG at n
   refine yW ?_;obtain rfl:=zI n
   exact aIK results124 ⟨b0,b1,rfl,(aH.weakK j4 c3)⟩
  obtain ⟨s1,j6,n⟩:=aB n
  refine cE j6 (fun s f w=>match s with|(e,o,m)=>∃ k l,f 1=zS a10 p.length c11/\f 5=zS g d.length j/\f 7=zS k e.length l/\f 8=i64 o/\f 9=i64 m/\aH G b (aJ 2 K k l e::aJ 35 b g j d::L) w) ?_ ?_
  ·exact ⟨e1,0,i9,j0,rfl,rfl,rfl,j3⟩
  ·rintro ⟨e,o,m⟩ a5 f s2 c j7 ⟨k,l,j8,j9,e2,k0,k1,e3⟩
   replace c:xF p d e o m=some a5:=c
   unfold xF at c
   refine yW ?_
   rcases aG c with ⟨k3,c⟩|⟨k3,c⟩
   ·refine yW ?_;refine aZ (fun f w=>∃ a6 b2 b3 b4,xD m a6 b2=some a5/\f 1=zS a10 p.length c11/\f 5=zS g d.length j/\f 7=zS b3 a6.length b4/\f 8=i64 b2/\f 9=i64 m/\aH G b (aJ 2 K b3 b4 a6::aJ 35 b g j d::L) w) ?_ ?_
    ·rintro f s3 ⟨a6,b2,b3,b4,c,k4,k5,k6,k7,s4,k8⟩
     unfold xD at c
     refine yW ?_;exact ⟨(a6,b2,wr (m+1)),(zI c).symm,b3,b4,k4,k5,k6,k7,rfl,k8⟩
    refine yW ?_;refine aZ (fun f w=>∃ b5,pI e o m b5=some a5/\f 1=zS a10 p.length c11/\f 5=zS g d.length j/\f 7=zS k e.length l/\f 8=i64 o/\f 9=i64 m/\f 10=i64 b5/\aH G b (aJ 2 K k l e::aJ 35 b g j d::L) w) ?_ ?_
    ·rintro f s5 ⟨b5,c,e4,e5,e6,k9,e7,l0,e8⟩
     unfold pI at c
     iterate 1 refine aIQ ?_
     refine jR (fun f w=>∃ b6 z,pH e m b6 z=some a5/\f 1=zS a10 p.length c11/\f 5=zS g d.length j/\f 7=zS k e.length l/\f 8=i64 b6/\f 9=i64 m/\f 10=i64 z/\aH G b (aJ 2 K k l e::aJ 35 b g j d::L) w) ?_ ?_
     ·rintro f s6 ⟨b6,z,c,l1,l2,s7,l3,l4,s8,l5⟩
      unfold pH at c
      refine yW ?_;refine bZ (Kt:=K) (xs:=([z]:List Int)) (cs:=[i64 z]) (vs:=[(0,i64 z)]) bY fC rfl rfl l5 rfl (by kernel_rfl) rfl rfl rfl ⟨rfl,trivial⟩ (fun l6 l7 (l8:aH G b (aJ 2 K l6 1 ([z]:List Int)::aJ 2 K k l e::aJ 35 b g j d::L) l7)=>?_)
      obtain ⟨e9,l9,c⟩:=aB c
      refine dA (i:=0) bY underlying35 fC rfl rfl l8 rfl c3 c3 l9 rfl rfl rfl rfl (fun _ h=>h) (fun f0 f1 m0 (m1:aH G b (aJ 2 K f0 f1 e9::aJ 35 b g j d::L) m0)=>(yW ?_));exact ⟨e9,b6,f0,f1,c,l1,l2,rfl,l3,l4,m1⟩
     refine yW ?_
     rcases aG c with ⟨m2,c⟩|⟨m2,c⟩
     ·refine yW ?_;exact ⟨wr (o+1),o,c,e4,e5,e6,rfl,e7,rfl,e8⟩
     ·refine yW ?_;exact ⟨o,b5,c,e4,e5,e6,k9,e7,l0,e8⟩
    obtain ⟨s9,m3,c⟩:=aB c
    refine cE m3 (fun s f w=>match s with|(r,u)=>f 1=zS a10 p.length c11/\f 5=zS g d.length j/\f 7=zS k e.length l/\f 8=i64 o/\f 9=i64 m/\f 10=i64 r/\f 11=i64 u/\aH G b (aJ 2 K k l e::aJ 35 b g j d::L) w) ?_ ?_
    ·exact ⟨j8,j9,e2,k0,k1,rfl,rfl,e3⟩
    ·rintro ⟨r,u⟩ b7 f t0 a m4 ⟨f2,f3,f4,f5,f6,f7,f8,f9⟩
     replace a:xE p d e m r u=some b7:=a
     unfold xE at a
     iterate 2 refine aIQ ?_
     refine cQ (fun f w=>∃ c4,pL p d e m r u c4=some b7/\f 1=zS a10 p.length c11/\f 5=zS g d.length j/\f 7=zS k e.length l/\f 8=i64 o/\f 9=i64 m/\f 10=i64 r/\f 11=i64 u/\f 41=zB c4/\aH G b (aJ 2 K k l e::aJ 35 b g j d::L) w) ?_ ?_
     ·rintro f t1 ⟨c4,a,c6,c7,c9,d0,d1,d2,g0,t2,g1⟩
      unfold pL at a
      refine yW ?_
      rcases aG a with ⟨m5,a⟩|⟨m5,a⟩
      ·refine yW ?_;refine aZ (fun f w=>∃ b8,pJ u b8=some b7/\f 1=zS a10 p.length c11/\f 5=zS g d.length j/\f 7=zS k e.length l/\f 8=i64 o/\f 9=i64 m/\f 10=i64 b8/\f 11=i64 u/\aH G b (aJ 2 K k l e::aJ 35 b g j d::L) w) ?_ ?_
       ·rintro f t3 ⟨b8,a,m6,m7,m8,m9,n0,n1,t4,n2⟩
        unfold pJ at a
        refine yW ?_;exact ⟨(b8,wr (u+1)),(zI a).symm,m6,m7,m8,m9,n0,n1,rfl,n2⟩
       refine yW ?_;refine cQ (fun f w=>∃ d3,pK e r u d3=some b7/\f 1=zS a10 p.length c11/\f 5=zS g d.length j/\f 7=zS k e.length l/\f 8=i64 o/\f 9=i64 m/\f 10=i64 r/\f 11=i64 u/\f 63=zB d3/\aH G b (aJ 2 K k l e::aJ 35 b g j d::L) w) ?_ ?_
       ·rintro f t5 ⟨d3,a,g2,g3,g4,g5,g6,n3,g7,t6,d4⟩
        unfold pK at a
        refine yW ?_
        rcases aG a with ⟨n4,a⟩|⟨n4,a⟩
        ·refine yW ?_;obtain ⟨n5,g8,a⟩:=aB a
         have n6:=cU d4 (i:=0) rfl g8
         refine aC (dB bY rfl n6 rfl rfl rfl g8) (yW ?_);exact ⟨n5,a,g2,g3,g4,g5,g6,rfl,g7,d4⟩
        ·refine yW ?_;exact ⟨r,a,g2,g3,g4,g5,g6,n3,g7,d4⟩
       obtain ⟨n7,t7,d5,a8,g9⟩:=aH.lendS (i:=1) g1 (zR _) rfl
       refine dF (C:=fun w'=>aH G n7 (aJ 2 K k l e::L) w') bV (by kernel_rfl) (aH.mono a8 (dG.drew _)) (yW ?_);obtain ⟨t8,n8,a⟩:=aB a
       refine yW ?_;obtain ⟨t9,u0,n9⟩:=cR.el (sz:=1) rfl c2 n8
       cases n9
       refine yW ?_;obtain ⟨u1,o0,a⟩:=aB a
       refine yW ?_;obtain ⟨u2,u3,o1⟩:=cR.el (sz:=1) rfl c2 o0
       cases o1
       refine yW ?_
       rcases aG a with ⟨o2,a⟩|⟨o2,a⟩
       ·refine yW ?_;obtain ⟨o3,d6,a⟩:=aB a
        have h0:=aCU d5 d6
        refine aU (fun _ a8=>dB iA rfl h0 rfl rfl rfl d6) (yW ?_);obtain ⟨u4,u5,o4⟩:=cR.el (sz:=1) rfl d5 d6
        obtain ⟨o5,o6,rfl,o7⟩:=o4
        refine yW ?_;obtain ⟨o8,h1,a⟩:=aB a
        refine aU (fun _ a8=>dB iA rfl h0 rfl rfl rfl h1) (yW ?_);obtain ⟨u6,u7,o9⟩:=cR.el (sz:=1) rfl d5 h1
        obtain ⟨p0,p1,rfl,p2⟩:=o9
        refine yW ?_;obtain ⟨h2,p3,a⟩:=aB a
        refine jO (vs:=[zS o5 o3.length o6,zS p0 o8.length p1]) (v:=zB h2) call54 rfl (fun _ a8=>(mE a8 o7 p2 p3)) (yW ?_);refine dI (fun u8 p4=>?_)
        have p5:=g9 _ _ p4
        refine yW ?_;exact ⟨h2,a,c6,c7,c9,d0,d1,d2,g0,rfl,(aH.arr 2 [1,0] p5 rfl)⟩
       ·refine yW ?_;refine dI (fun u9 p6=>?_)
        have p7:=g9 _ _ p6
        refine yW ?_;exact ⟨false,a,c6,c7,c9,d0,d1,d2,g0,rfl,(aH.arr 2 [1,0] p7 rfl)⟩
      ·refine yW ?_
       have p8:=m4 _ (zI a).symm
       subst p8
       have c:(pI e o m r)=some a5:=c
       refine yW ?_;exact ⟨r,c,c6,c7,c9,d0,d1,d2,g1⟩
     refine yW ?_
     rcases aG a with ⟨p9,a⟩|⟨p9,a⟩
     ·refine yW ?_;exact ⟨decide (r < 0),a,f2,f3,f4,f5,f6,f7,f8,rfl,f9⟩
     ·refine yW ?_;exact ⟨false,a,f2,f3,f4,f5,f6,f7,f8,rfl,f9⟩
   ·refine yW ?_
    have q0:=j7 _ (zI c).symm
    subst q0
    have n:(pG e)=some R:=n
    refine yW ?_;exact ⟨e,k,l,n,e2,(aH.arr 2 [0] e3 rfl)⟩
 obtain ⟨v0,q1,n⟩:=aB n
 refine cE q1 (fun s f w=>match s with|(y,b9)=>∃ x J V,Hp.le K x/\f 0=cL a1 k2/\f 1=zS a10 p.length c11/\f 5=zS J y.length V/\f 6=i64 b9/\aH G x (aJ 35 x J V y::L) w) ?_ ?_
 ·exact ⟨K,e0,0,(zR _),rfl,rfl,rfl,rfl,i8⟩
 ·rintro ⟨y,b9⟩ q2 f v1 q q3 ⟨x,J,V,Z,q4,h4,q5,v2,h5⟩
  replace q:uD t p y b9=some q2:=q
  unfold uD at q
  refine yW ?_
  rcases aG q with ⟨q6,q⟩|⟨q6,q⟩
  ·refine yW ?_;refine cT (yW ?_)
   obtain ⟨a0,q7,q⟩:=aB q
   refine zF call152 (aGg h5 (h3.mono Z) (h6.mono Z) (h9.mono Z) (c2.mono Z) q7) ?_
   rintro _ q8 ⟨a2,a3,rfl,q9⟩
   have r0:aH G x (rows [2] ([(a2,a3)]:List (Dp.Hd (List Int))) [a0]::aJ 35 x J V y::L) q8:=aH.rowsOne q9
   refine bZ (Kt:=K) (xs:=dC ([(a2,a3)]:List (Dp.Hd (List Int))) ([a0]:List (List Int))) (cs:=[zS a2 a0.length a3]) (vs:=[(0,zS a2 a0.length a3)]) iA aAW rfl rfl r0 rfl (by kernel_rfl) rfl rfl rfl ⟨rfl,trivial⟩ ?_
   intro r1 h7 (r2:aH G x (aJ 35 K r1 1 (dC ([(a2,a3)]:List (Dp.Hd (List Int))) ([a0]:List (List Int)))::rows [2] ([(a2,a3)]:List (Dp.Hd (List Int))) ([a0]:List (List Int))::aJ 35 x J V y::L) h7)
   obtain ⟨c0,h8,r3,_,d7,_⟩:=aH.lendD' (i:=0) r2 rfl rfl rfl
   replace d7:aH G c0 (aJ 35 x J V y::L) h7:=d7
   obtain ⟨i0,r4,q⟩:=aB q
   refine iK (i:=0) iA underlying53 aAW rfl rfl d7 rfl h8 r3 r4 rfl rfl rfl rfl (fun i1 i2 r5 (r6:aH G c0 (aJ 35 c0 i1 i2 i0::L) r5)=>(yW ?_));exact ⟨(i0,wr (b9+1)),(zI q).symm,c0,i1,i2,(zL Z h8),q4,h4,rfl,rfl,r6⟩
  ·refine yW ?_
   have r7:=q3 _ (zI q).symm
   subst r7
   have n:(nT p y)=some R:=n
   refine yW ?_;exact ⟨x,y,J,V,Z,n,h4,q5,h5⟩
theorem aET {t:cO} {j:Nat} {R:((List Int) × Int)} (q:aH G K (L) w) (r:fJ K a1 j (zC t a4 c5 a7 c8)) (u:cR K a4 c5 t.L) (x:cR K a7 c8 t.E) (b:aCv t=some R):
  Calls Tryz.prog 84 ([cL a1 j]:List Value).toArray w (eN fun v w'=>∃ m n,v=Value.tuple #[zS m R.1.length n,i64 R.2]/\aH G K (aJ 2 K m n R.1::L) w'):=by
 refine zH func84 ?_;unfold aCv at b
 refine yW ?_;obtain ⟨k,y,b⟩:=aB b
 refine wS (e:=(0:Int)) bY fC rfl rfl q rfl rfl rfl y rfl (fun o z (J:aH G K (aJ 2 K o k.length k::L) z)=>(yW ?_));refine cT ?_
 obtain ⟨d1,V,b⟩:=aB b
 refine cE V (fun s f w=>match s with|(c,d)=>∃ g h,f 0=cL a1 j/\f 4=zS g c.length h/\f 5=i64 d/\aH G K (aJ 2 K g h c::L) w) ?_ ?_
 ·exact ⟨o,k.length,rfl,rfl,rfl,J⟩
 ·rintro ⟨c,d⟩ Z f d2 a a0 ⟨g,h,a2,d3,d4,a3⟩
  replace a:xG t c d=some Z:=a
  unfold xG at a
  refine yW ?_;refine cT (yW ?_)
  obtain ⟨d5,l,a5,a6,a8⟩:=aH.lendS (i:=0) a3 (zR _) rfl
  obtain ⟨a9,b0,a⟩:=aB a
  refine zF call124 (aES a6 (r.mono l) (u.mono l) (x.mono l) a5 b0) ?_
  rintro _ d6 ⟨b1,b2,rfl,b3⟩
  have b4:=a8 _ _ b3
  refine yW ?_;obtain ⟨d7,b5,b6,b7,b8⟩:=aH.lendS (i:=1) b4 (zR _) rfl
  obtain ⟨d8,b9,c0,c1,c2⟩:=aH.lendS (i:=0) b7 b5 rfl
  obtain ⟨d9,c3,a⟩:=aB a
  refine zF call54 (mE c1 (b6.mono b9) c0 c3) ?_
  rintro _ e0 ⟨rfl,c4⟩
  have c6:=c2 _ _ c4
  have p:=b8 _ _ c6
  refine yW ?_
  rcases aG a with ⟨c7,a⟩|⟨c7,a⟩
  ·refine yW ?_;refine bK (aW (cA (aW (aW ?_))))
   have c9:=a0 _ (zI a).symm
   subst c9
   have b:(some (c,d))=some R:=b
   obtain rfl:=zI b
   exact cA (iO results84 rfl rfl ⟨g,h,rfl,(aH.arr 1 [] p rfl)⟩)
  ·refine yW ?_;exact ⟨(a9,wr (d+1)),(zI a).symm,b1,b2,a2,rfl,rfl,(aH.arr 2 [0] p rfl)⟩
theorem aCL {t:cO} {b:Nat} {R:(List Int)} (e:aH G K (L) w) (g:fJ K a1 b (zC t a4 c5 a7 c8)) (h:cR K a4 c5 t.L) (i:cR K a7 c8 t.E) (a:aDc t=some R):
  Calls Tryz.prog 48 ([cL a1 b]:List Value).toArray w (eN fun v w'=>∃ c d,v=zS c R.length d/\aH G K (aJ 2 K c d R::L) w'):=by
 refine zH func48 ?_;unfold aDc at a
 refine yW ?_;obtain ⟨o,j,a⟩:=aB a
 refine zF call84 (aET e g h i j) ?_
 rintro _ p ⟨k,l,rfl,m⟩
 refine yW ?_;obtain rfl:=zI a
 exact aIK results48 ⟨k,l,rfl,m⟩
theorem aFn {t:cO} {r:Nat} {R:cO} (hs:aH G K (L) w) (u:fJ K a1 r (zC t a4 c5 a7 c8)) (x:cR K a4 c5 t.L) (y:cR K a7 c8 t.E) (c:aDD t=some R):
  Calls Tryz.prog 20 ([cL a1 r]:List Value).toArray w (eN fun v w'=>∃ z J V Z,v=Value.agg (zCa R z J V Z)/\aH G K (aJ 9 K z J R.L::aJ 69 K V Z R.E::L) w'):=by
 let n:=zG
 refine zH func20 ?_;unfold aDD at c
 refine yW ?_;refine bR (vs:=n) zeroValue27 hs rfl (fun a0 g6 b3=>(yW ?_))
 obtain ⟨a2,b4,c⟩:=aB c
 refine zF call46 (uR b3 u x y b4) ?_
 rintro _ g7 ⟨a3,a5,rfl,b5⟩
 obtain ⟨g8,o,b6,b7,b8⟩:=aH.lendS (i:=0) b5 (zR _) rfl
 obtain ⟨a,b9,c⟩:=aB c
 refine zF call45 (yA b7 (u.mono o) (x.mono o) (y.mono o) b6 b9) ?_
 rintro _ g9 ⟨d,e,g,h,rfl,c0⟩
 have c1:=b8 _ _ c0
 refine bR (vs:=n) zeroValue27 c1 rfl (fun a6 h0 c2=>(bS (i:=0) (ns:=(zC a d e g h)) (us:=(zC a d e g h)) sizeOf27 c2 rfl rfl rfl rfl rfl (cS rfl) rfl rfl (fun c3 (c4:aH G K (box a6 27 (zC a d e g h)::aJ 2 K a3 a5 a2::aJ 9 K d e a.L::aJ 69 K g h a.E::box a0 27 n::L) c3)=>(yW ?_))));obtain ⟨h1,c6,c7,c9,d0⟩:=aH.lendS (i:=2) c4 (zR _) rfl
 obtain ⟨h2,d1,d2,d3,d4⟩:=aH.lendS (i:=2) c9 c6 rfl
 obtain ⟨h4,a8,d5,d6,d7⟩:=aH.lendB (i:=0) d3 rfl
 obtain ⟨d8,d9,c⟩:=aB c
 refine zF call48 (aCL d6 d5 (c7.mono (zL d1 a8)) (d2.mono a8) d9) ?_
 rintro _ h5 ⟨e0,e1,rfl,e2⟩
 have e3:=d7 _ _ e2
 have e4:=d4 _ _ e3
 have e5:=d0 _ _ e4
 obtain ⟨h7,a9,e6,e7,e8⟩:=aH.lendS (i:=0) e5 (zR _) rfl
 obtain ⟨h8,b0,e9,f0,f1⟩:=aH.lendS (i:=0) e7 a9 rfl
 obtain ⟨i0,p,f2,f3,f4⟩:=aH.lendB (i:=0) f0 rfl
 obtain ⟨i1,q,f5,f6,f7⟩:=aH.lendS (i:=0) f3 (zL (zL a9 b0) p) rfl
 obtain ⟨b,f8,c⟩:=aB c
 refine zF call47 (aDU f6 (f2.mono q) (e6.mono (zL (zL b0 p) q)) (e9.mono (zL p q)) f5 f8) ?_
 rintro _ i2 ⟨j,k,l,m,rfl,f9⟩
 have g0:=f7 _ _ f9
 have g1:=f4 _ _ g0
 have g2:=f1 _ _ g1
 have g3:=e8 _ _ g2
 refine bS (i:=7) (ns:=(zC b j k l m)) (us:=(zC b j k l m)) sizeOf27 g3 rfl rfl rfl rfl rfl (cS rfl) rfl rfl (fun g4 (b1:aH G K (aJ 9 K d e a.L::aJ 69 K g h a.E::box a6 27 (zC a d e g h)::aJ 2 K e0 e1 d8::aJ 9 K j k b.L::aJ 69 K l m b.E::aJ 2 K a3 a5 a2::box a0 27 (zC b j k l m)::L) g4)=>(yW ?_));obtain rfl:=zI c
 exact bK (mG results20 (dM (vs:=(zC b j k l m)) rfl cZ b1 (i:=7) rfl rfl rfl) ⟨j,k,l,m,rfl,(aH.arr 8 [4,5] b1 rfl)⟩)
theorem oH {e:Edge} {c:Nat} {p:(List Int)} {R:Bool} (g:aH G K (L) w) (x:fJ K a1 c [i64 e.F,i64 e.B,i64 e.To]) (d:cR K a4 c5 p) (a:rH e p=some R):
  Calls Tryz.prog 85 ([cL a1 c,zS a4 p.length c5]:List Value).toArray w (eN fun v w'=>v=zB R/\aH G K (L) w'):=by
 refine zH func85 ?_;unfold rH at a
 refine yW ?_;refine cQ (fun f w=>∃ b,sM b=some R/\f 4=zB b/\aH G K (L) w) ?_ ?_
 ·rintro f y ⟨b,a,h,i⟩
  unfold sM at a
  refine yW ?_;obtain rfl:=zI a
  exact aIK results85 ⟨h,i⟩
 refine dF (C:=fun w'=>aH G K (L) w') bV (by kernel_rfl) (aH.mono g (dG.drew _)) (yW ?_)
 rcases aG a with ⟨k,a⟩|⟨k,a⟩
 ·refine yW ?_;obtain ⟨l,m,a⟩:=aB a
  refine yW ?_;obtain ⟨z,J,n⟩:=cR.el (sz:=1) rfl d m
  cases n
  refine yW ?_;obtain ⟨o,q,a⟩:=aB a
  refine yW ?_;obtain ⟨V,Z,r⟩:=cR.el (sz:=1) rfl d q
  cases r
  refine yW ?_;refine dI (fun a0 t=>(yW ?_))
  exact ⟨l == o,a,rfl,t⟩
 ·refine yW ?_;refine dI (fun a2 u=>(yW ?_))
  exact ⟨false,a,rfl,u⟩
theorem aGh {e:(List Bool)} {R:(List Int)} (hs:aH G K (L) w) (h3:cR K a1 c2 e) (c:aEH e=some R):
  Calls Tryz.prog 86 ([zS a1 e.length c2]:List Value).toArray w (eN fun v w'=>∃ r t,v=zS r R.length t/\aH G K (aJ 2 K r t R::L) w'):=by
 refine zH func86 ?_;unfold aEH at c
 refine yW ?_;refine bZ (Kt:=K) (xs:=([]:List Int)) (cs:=[]) (vs:=[]) bY fC rfl rfl hs rfl (by kernel_rfl) rfl rfl rfl trivial (fun u w5 (a6:aH G K (aJ 2 K u 0 ([]:List Int)::L) w5)=>(yW ?_))
 refine aZ (fun f w=>∃ l m n,vL l=some R/\f 3=zS m l.length n/\aH G K (aJ 2 K m n l::L) w) ?_ ?_
 ·rintro f c7 ⟨l,m,n,c,c8,a7⟩
  unfold vL at c
  refine yW ?_;obtain rfl:=zI c
  exact aIK results86 ⟨m,n,rfl,a7⟩
 obtain ⟨d0,b0,c⟩:=aB c
 refine cE b0 (fun s f w=>match s with|(d,b)=>∃ g j,f 0=zS a1 e.length c2/\f 3=zS g d.length j/\f 4=i64 b/\aH G K (aJ 2 K g j d::L) w) ?_ ?_
 ·exact ⟨u,0,rfl,rfl,rfl,a6⟩
 ·rintro ⟨d,b⟩ x f d1 a b1 ⟨g,j,y,z,J,q⟩
  replace a:aBv e d b=some x:=a
  unfold aBv at a
  refine yW ?_
  rcases aG a with ⟨b2,a⟩|⟨b2,a⟩
  ·refine yW ?_;refine aZ (fun f w=>∃ k o p,vM b k=some x/\f 0=zS a1 e.length c2/\f 3=zS o k.length p/\f 4=i64 b/\aH G K (aJ 2 K o p k::L) w) ?_ ?_
   ·rintro f d2 ⟨k,o,p,a,b3,b4,d3,b5⟩
    unfold vM at a
    refine yW ?_;exact ⟨(k,wr (b+1)),(zI a).symm,o,p,b3,b4,rfl,b5⟩
   refine yW ?_;obtain ⟨d4,b6,a⟩:=aB a
   refine yW ?_;obtain ⟨d5,d6,b7⟩:=cR.el (sz:=1) rfl h3 b6
   cases b7
   refine yW ?_
   rcases aG a with ⟨b8,a⟩|⟨b8,a⟩
   ·refine yW ?_;refine bZ (Kt:=K) (xs:=([b]:List Int)) (cs:=[i64 b]) (vs:=[(0,i64 b)]) bY fC rfl rfl q rfl (by kernel_rfl) rfl rfl rfl ⟨rfl,trivial⟩ (fun b9 c0 (c1:aH G K (aJ 2 K b9 1 ([b]:List Int)::aJ 2 K g j d::L) c0)=>?_)
    obtain ⟨V,c3,a⟩:=aB a
    refine dA (i:=0) bY underlying35 fC rfl rfl c1 rfl (zR _) (zR _) c3 rfl rfl rfl rfl (fun _ h=>h) (fun Z a0 c4 (c5:aH G K (aJ 2 K Z a0 V::L) c4)=>(yW ?_));exact ⟨V,Z,a0,a,y,rfl,J,c5⟩
   ·refine yW ?_;exact ⟨d,g,j,a,y,z,J,q⟩
  ·refine yW ?_
   have c6:=b1 _ (zI a).symm
   subst c6
   have c:(vL d)=some R:=c
   refine yW ?_;exact ⟨d,g,j,c,z,q⟩
theorem aAc {t:cO} {l:Nat} {p:(List Int)} {R:(List Bool)} (hs:aH G K (L) w) (h3:fJ K a1 l (zC t a4 c5 a7 c8)) (h6:cR K a4 c5 t.L) (h9:cR K a7 c8 t.E) (f4:cR K a10 c11 p) (g:vN t p=some R):
  Calls Tryz.prog 87 ([cL a1 l,zS a10 p.length c11]:List Value).toArray w (eN fun v w'=>∃ d2 d3,v=zS d2 R.length d3/\aH G K (aJ 4 K d2 d3 R::L) w'):=by
 refine zH func87 ?_;unfold vN at g
 refine yW ?_;obtain ⟨a,f5,g⟩:=aB g
 refine wS (e:=(false:Bool)) dY ez_4 rfl rfl hs rfl rfl rfl f5 rfl (fun c f6 (f7:aH G K (aJ 4 K c a.length a::L) f6)=>(yW ?_));refine aZ (fun f w=>∃ a8,mK t p a8=some R/\f 0=cL a1 l/\f 1=zS a10 p.length c11/\f 5=zS c a8.length a.length/\aH G K (aJ 4 K c a.length a8::L) w) ?_ ?_
 ·rintro f n6 ⟨a8,g,f8,f9,g0,g1⟩
  unfold mK at g
  refine yW ?_;refine aZ (fun f w=>∃ a9,nU a9=some R/\f 5=zS c a9.length a.length/\aH G K (aJ 4 K c a.length a9::L) w) ?_ ?_
  ·rintro f n7 ⟨a9,g,n8,g2⟩
   unfold nU at g
   refine yW ?_;obtain rfl:=zI g
   exact aIK results87 ⟨c,a.length,rfl,g2⟩
  obtain ⟨n9,g4,g⟩:=aB g
  refine cE g4 (fun s f w=>match s with|(u,c0)=>f 0=cL a1 l/\f 1=zS a10 p.length c11/\f 5=zS c u.length a.length/\f 7=zB c0/\aH G K (aJ 4 K c a.length u::L) w) ?_ ?_
  ·exact ⟨f8,f9,g0,rfl,g1⟩
  ·rintro ⟨u,c0⟩ b0 f o0 j g5 ⟨g6,g7,d4,o1,d5⟩
   replace j:uH t p u c0=some b0:=j
   unfold uH at j
   refine yW ?_
   rcases aG j with ⟨g8,j⟩|⟨g8,j⟩
   ·refine yW ?_;refine aZ (fun f w=>∃ z b1,uE z b1=some b0/\f 0=cL a1 l/\f 1=zS a10 p.length c11/\f 5=zS c z.length a.length/\f 7=zB b1/\aH G K (aJ 4 K c a.length z::L) w) ?_ ?_
    ·rintro f o2 ⟨z,b1,j,g9,h0,h1,h2,h4⟩
     unfold uE at j
     refine yW ?_;exact ⟨(z,b1),(zI j).symm,g9,h0,h1,h2,h4⟩
    refine yW ?_;refine aZ (fun f w=>∃ J b2,nV J b2=some b0/\f 0=cL a1 l/\f 1=zS a10 p.length c11/\f 5=zS c J.length a.length/\f 7=zB b2/\aH G K (aJ 4 K c a.length J::L) w) ?_ ?_
    ·rintro f o3 ⟨J,b2,j,h5,h7,h8,i0,i1⟩
     unfold nV at j
     refine yW ?_;exact ⟨J,b2,j,h5,h7,h8,i0,i1⟩
    obtain ⟨o4,i2,j⟩:=aB j
    refine cE i2 (fun s f w=>match s with|(k,m,o)=>f 0=cL a1 l/\f 1=zS a10 p.length c11/\f 5=zS c k.length a.length/\f 7=zB m/\f 8=i64 o/\aH G K (aJ 4 K c a.length k::L) w) ?_ ?_
    ·exact ⟨g6,g7,d4,rfl,rfl,d5⟩
    ·rintro ⟨k,m,o⟩ b3 f o5 b i3 ⟨c1,c2,c3,c4,d6,b4⟩
     replace b:uG t p k m o=some b3:=b
     unfold uG at b
     refine yW ?_
     rcases aG b with ⟨i4,b⟩|⟨i4,b⟩
     ·refine yW ?_;refine aZ (fun f w=>∃ V b5,kN o V b5=some b3/\f 0=cL a1 l/\f 1=zS a10 p.length c11/\f 5=zS c V.length a.length/\f 7=zB b5/\f 8=i64 o/\aH G K (aJ 4 K c a.length V::L) w) ?_ ?_
      ·rintro f o6 ⟨V,b5,b,i5,i6,i7,i8,o7,i9⟩
       unfold kN at b
       refine yW ?_;exact ⟨(V,b5,wr (o+1)),(zI b).symm,i5,i6,i7,i8,rfl,i9⟩
      refine yW ?_;obtain ⟨o8,b6,b⟩:=aB b
      have c6:=cU b4 (i:=0) rfl b6
      refine aC (dB dY rfl c6 rfl rfl rfl b6) (yW ?_)
      rcases aG b with ⟨j0,b⟩|⟨j0,b⟩
      ·refine yW ?_;exact ⟨k,m,b,c1,c2,c3,c4,d6,b4⟩
      ·refine yW ?_;refine aZ (fun f w=>∃ c7,nW k m o c7=some b3/\f 0=cL a1 l/\f 1=zS a10 p.length c11/\f 5=zS c k.length a.length/\f 7=zB m/\f 8=i64 o/\f 9=zB c7/\aH G K (aJ 4 K c a.length k::L) w) ?_ ?_
       ·rintro f o9 ⟨c7,b,d7,d8,d9,j1,e0,p0,e1⟩
        unfold nW at b
        refine yW ?_
        rcases aG b with ⟨j2,b⟩|⟨j2,b⟩
        ·iterate 5 refine aIQ ?_
         refine aC (dB dY rfl c6 rfl rfl rfl b6) ?_;obtain ⟨e2,e3,b⟩:=aB b
         refine iH (i:=0) (t:=0) (ns:=[zB false]) (e':=(false:Bool)) sizeOf4 e1 rfl (zR _) rfl rfl rfl b6 e3 rfl rfl (cS rfl) rfl (fun cs h=>by cases h;rfl) (fun j3 (j4:aH G K (aJ 4 K c a.length e2::L) j3)=>(yW ?_));exact ⟨e2,true,b,d7,d8,(Eq.trans d9 (congrArg (fun n=>zS c n a.length) (gN e3))),rfl,e0,j4⟩
        ·refine yW ?_;exact ⟨k,m,b,d7,d8,d9,j1,e0,e1⟩
       obtain ⟨p1,j5,b⟩:=aB b
       refine cE j5 (fun s f w=>match s with|(Z,x)=>f 0=cL a1 l/\f 1=zS a10 p.length c11/\f 5=zS c k.length a.length/\f 7=zB m/\f 8=i64 o/\f 9=zB Z/\f 10=i64 x/\aH G K (aJ 4 K c a.length k::L) w) ?_ ?_
       ·exact ⟨c1,c2,c3,c4,d6,rfl,rfl,b4⟩
       ·rintro ⟨Z,x⟩ e4 f p2 d j6 ⟨a0,a2,a3,a5,a6,j7,b7,e5⟩
        replace d:uF t p k o Z x=some e4:=d
        unfold uF at d
        refine yW ?_
        rcases aG d with ⟨j8,d⟩|⟨j8,d⟩
        ·refine yW ?_;refine cT (yW ?_)
         obtain ⟨r,j9,d⟩:=aB d
         refine yW ?_;obtain ⟨p3,p4,k0⟩:=cR.el (sz:=3) rfl h9 j9
         cases k0
         refine yW ?_;refine bR (vs:=[i64 0,i64 0,i64 0]) zeroValue69 e5 rfl (fun k1 p5 k3=>(bS (i:=0) (ns:=[i64 r.F,i64 r.B,i64 r.To]) (us:=[i64 r.F,i64 r.B,i64 r.To]) sizeOf69 k3 rfl rfl rfl rfl rfl (cS rfl) rfl rfl (fun k4 (c9:aH G K (box k1 69 [i64 r.F,i64 r.B,i64 r.To]::aJ 4 K c a.length k::L) k4)=>?_)))
         iterate 2 refine aIQ ?_
         refine cQ (fun f w=>∃ b8,iY x b8=some e4/\f 0=cL a1 l/\f 1=zS a10 p.length c11/\f 5=zS c k.length a.length/\f 7=zB m/\f 8=i64 o/\f 9=zB b8/\f 10=i64 x/\aH G K (aJ 4 K c a.length k::L) w) ?_ ?_
         ·rintro f p6 ⟨b8,d,k5,k6,k7,k8,k9,l0,p7,l1⟩
          unfold iY at d
          refine yW ?_;exact ⟨(b8,wr (x+1)),(zI d).symm,k5,k6,k7,k8,k9,l0,rfl,l1⟩
         refine yW ?_
         rcases aG d with ⟨l2,d⟩|⟨l2,d⟩
         ·refine yW ?_;exact ⟨true,d,a0,a2,a3,a5,a6,rfl,b7,(aH.arr 1 [] c9 rfl)⟩
         ·refine yW ?_
          rcases aG d with ⟨l3,d⟩|⟨l3,d⟩
          ·refine yW ?_;obtain ⟨p8,l4,l5,l6,l7⟩:=aH.lendB (i:=0) c9 rfl
           obtain ⟨p9,l8,d⟩:=aB d
           refine zF call85 (oH l6 l5 (f4.mono l4) l8) ?_
           rintro _ q0 ⟨rfl,l9⟩
           have e6:=l7 _ _ l9
           refine yW ?_
           rcases aG d with ⟨m0,d⟩|⟨m0,d⟩
           ·refine yW ?_;obtain ⟨m1,m2,d⟩:=aB d
            refine aC (dB dY rfl c6 rfl rfl rfl m2) (yW ?_);exact ⟨m1,d,a0,a2,a3,a5,a6,rfl,b7,(aH.arr 1 [] e6 rfl)⟩
           ·refine yW ?_;exact ⟨false,d,a0,a2,a3,a5,a6,rfl,b7,(aH.arr 1 [] e6 rfl)⟩
          ·refine yW ?_;exact ⟨false,d,a0,a2,a3,a5,a6,rfl,b7,(aH.arr 1 [] c9 rfl)⟩
        ·refine yW ?_
         have m3:=j6 _ (zI d).symm
         subst m3
         have b:(nW k m o Z)=some b3:=b
         refine yW ?_;exact ⟨Z,b,a0,a2,a3,a5,a6,j7,e5⟩
     ·refine yW ?_
      have m4:=i3 _ (zI b).symm
      subst m4
      have j:(nV k m)=some b0:=j
      refine yW ?_;exact ⟨k,m,j,c1,c2,c3,c4,b4⟩
   ·refine yW ?_
    have m5:=g5 _ (zI j).symm
    subst m5
    have g:(nU u)=some R:=g
    refine yW ?_;exact ⟨u,g,d4,d5⟩
 obtain ⟨q1,m6,g⟩:=aB g
 refine cE m6 (fun s f w=>match s with|(y,b9)=>f 0=cL a1 l/\f 1=zS a10 p.length c11/\f 5=zS c y.length a.length/\f 6=i64 b9/\aH G K (aJ 4 K c a.length y::L) w) ?_ ?_
 ·exact ⟨rfl,rfl,rfl,rfl,f7⟩
 ·rintro ⟨y,b9⟩ m7 f q2 q m8 ⟨e7,e8,e9,q3,d0⟩
  replace q:rI t y b9=some m7:=q
  unfold rI at q
  refine yW ?_
  rcases aG q with ⟨m9,q⟩|⟨m9,q⟩
  ·refine yW ?_;refine cT (yW ?_)
   obtain ⟨q4,d1,q⟩:=aB q
   have n0:=cU d0 (i:=0) rfl d1
   refine aC (dB dY rfl n0 rfl rfl rfl d1) ?_;obtain ⟨f0,f1,q⟩:=aB q
   refine iH (i:=0) (t:=0) (ns:=[zB true]) (e':=(true:Bool)) sizeOf4 d0 rfl (zR _) rfl rfl rfl d1 f1 rfl rfl (cS rfl) rfl (fun cs h=>by cases h;rfl) (fun n1 (n2:aH G K (aJ 4 K c a.length f0::L) n1)=>(yW ?_));exact ⟨(f0,wr (b9+1)),(zI q).symm,e7,e8,(Eq.trans e9 (congrArg (fun n=>zS c n a.length) (gN f1))),rfl,n2⟩
  ·refine yW ?_
   have n3:=m8 _ (zI q).symm
   subst n3
   have g:(mK t p y)=some R:=g
   refine yW ?_;exact ⟨y,g,e7,e8,e9,d0⟩
end Gv
