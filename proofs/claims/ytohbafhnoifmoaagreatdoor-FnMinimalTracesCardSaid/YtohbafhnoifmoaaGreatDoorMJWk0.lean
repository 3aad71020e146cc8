/- Walks, printed by program. -/
import Derived.Test.YtohbafhnoifmoaaGreatDoorMJLWa
import Derived.Test.YtohbafhnoifmoaaGreatDoorMJMd
import Derived.Test.YtohbafhnoifmoaaGreatDoorMJT
set_option linter.all false
namespace Gv
open Option.some renaming inj→zI
open Go Go.Proofs Go.Proofs.Tryz
set_option maxRecDepth 20000
set_option maxHeartbeats 40000000
variable {G:uA} {K:Hp} {L:List iU} {w:World} {a1:Option Addr} {c2:Nat}
theorem aCG {a b:bD} {R:Int} (d:aH G K (L) w) (c:nS a b=some R):
  Calls Tryz.prog 113 ([str a,str b]:List Value).toArray w (eN fun v w'=>v=i64 R/\aH G K (L) w'):=by
 refine zH func113 ?_;unfold nS at c
 refine yW ?_;refine cT (yW ?_)
 rcases aG c with ⟨e,c⟩|⟨e,c⟩
 ·refine yW ?_;obtain rfl:=zI c
  exact bK (cA (aW (bM results113 rfl ⟨rfl,d⟩)))
 ·refine yW ?_
  rcases aG c with ⟨h,c⟩|⟨h,c⟩
  ·refine yW ?_;obtain rfl:=zI c
   exact bK (cA (aW (bM results113 rfl ⟨rfl,d⟩)))
  ·refine yW ?_
   rcases aG c with ⟨j,c⟩|⟨j,c⟩
   ·refine yW ?_;obtain rfl:=zI c
    exact bK (cA (aW (bM results113 rfl ⟨rfl,d⟩)))
   ·refine yW ?_;obtain ⟨o,l,c⟩:=aB c
    refine zF call146 (aHL d l) ?_
    rintro _ p ⟨rfl,m⟩
    refine yW ?_;obtain rfl:=zI c
    exact aIK results113 ⟨rfl,m⟩
theorem oS {a:Int} {R:Bool} (c:aH G K (L) w) (b:iP a=some R):
  Calls Tryz.prog 135 ([i64 a]:List Value).toArray w (eN fun v w'=>v=Value.bool R/\aH G K (L) w'):=by
 refine zH func135 ?_;unfold iP at b
 refine yW ?_;obtain rfl:=zI b
 exact aIK results135 ⟨rfl,c⟩
theorem iX {c y R:Int} (d:aH G K (L) w) (a:fD c y=some R):
  Calls Tryz.prog 99 ([i64 c,i64 y]:List Value).toArray w (eN fun v w'=>v=i64 R/\aH G K (L) w'):=by
 refine zH func99 ?_;unfold fD at a
 refine yW ?_;obtain ⟨u,e,a⟩:=aB a
 refine zF call135 (oS d e) ?_
 rintro _ x ⟨rfl,g⟩
 refine yW ?_;obtain ⟨z,h,a⟩:=aB a
 refine zF call135 (oS g h) ?_
 rintro _ J ⟨rfl,b⟩
 refine yW ?_
 rcases aG a with ⟨i,a⟩|⟨i,a⟩
 ·refine yW ?_
  rcases aG a with ⟨j,a⟩|⟨j,a⟩
  ·refine yW ?_;obtain rfl:=zI a
   exact bK (aW (aW (bM results99 rfl ⟨rfl,b⟩)))
  ·refine yW ?_;obtain rfl:=zI a
   exact bK (aW (bM results99 rfl ⟨rfl,b⟩))
 ·refine yW ?_
  rcases aG a with ⟨m,a⟩|⟨m,a⟩
  ·refine yW ?_;obtain rfl:=zI a
   exact bK (aW (bM results99 rfl ⟨rfl,b⟩))
  ·refine yW ?_
   rcases aG a with ⟨o,a⟩|⟨o,a⟩
   ·refine yW ?_;obtain rfl:=zI a
    exact bK (aW (bM results99 rfl ⟨rfl,b⟩))
   ·refine yW ?_
    rcases aG a with ⟨q,a⟩|⟨q,a⟩
    ·refine yW ?_;obtain rfl:=zI a
     exact bK (aW (bM results99 rfl ⟨rfl,b⟩))
    ·refine yW ?_;obtain rfl:=zI a
     exact aIK results99 ⟨rfl,b⟩
theorem aDR {c:(List Int)} {R:Int} (i:aH G K (L) w) (j:cR K a1 c2 c) (b:nK c=some R):
  Calls Tryz.prog 98 ([Value.slice a1 c.length c2]:List Value).toArray w (eN fun v w'=>v=i64 R/\aH G K (L) w'):=by
 refine zH func98 ?_;unfold nK at b
 refine yW ?_;refine aZ (fun f w=>jU=some R/\f 3=i64 0/\aH G K (L) w) ?_ ?_
 ·rintro f V ⟨b,Z,k⟩
  unfold jU at b
  refine yW ?_;obtain rfl:=zI b
  exact aIK results98 ⟨rfl,k⟩
 obtain ⟨a0,m,b⟩:=aB b
 refine cE m (fun (d:Int) f w=>f 3=i64 0/\f 6=Value.slice a1 c.length c2/\f 7=i64 (c.length:Int)/\f 8=i64 d/\aH G K (L) w) ?_ ?_
 ·exact ⟨rfl,rfl,rfl,rfl,i⟩
 ·rintro d n f a2 a g ⟨h,o,p,a3,e⟩
  replace a:eS c d=some n:=a
  unfold eS at a
  refine yW ?_
  rcases aG a with ⟨q,a⟩|⟨q,a⟩
  ·refine yW ?_;refine cT (yW ?_)
   obtain ⟨r,t,a⟩:=aB a
   refine yW ?_;obtain ⟨a4,a5,u⟩:=cR.el (sz:=1) rfl j t
   cases u
   refine yW ?_
   rcases aG a with ⟨x,a⟩|⟨x,a⟩
   ·refine yW ?_;refine bK (cA (aW (aW ?_)))
    have y:=g _ (zI a).symm
    subst y
    have b:(some r)=some R:=b
    obtain rfl:=zI b
    exact cA (aW (aW (bM results98 rfl ⟨rfl,e⟩)))
   ·refine yW ?_;exact ⟨wr (d+1),(zI a).symm,h,o,p,rfl,e⟩
  ·refine yW ?_
   have J:=g _ (zI a).symm
   subst J
   have b:(jU)=some R:=b
   refine yW ?_;exact ⟨b,h,e⟩
theorem uT {a b:Edge} {R:Int} (x:aH G K (L) w) (d:lI a b=some R):
  Calls Tryz.prog 65 ([Value.agg #[i64 a.F,i64 a.B,i64 a.To],Value.agg #[i64 b.F,i64 b.B,i64 b.To]]:List Value).toArray w (eN fun v w'=>v=i64 R/\aH G K (L) w'):=by
 refine zH func65 ?_;unfold lI at d
 refine yW ?_;refine fS (v:=Value.agg #[i64 a.F,i64 a.B,i64 a.To]) (vs:=[i64 a.F,i64 a.B,i64 a.To]) x rfl rfl (fun b1 w2 y=>(fS (v:=Value.agg #[i64 b.F,i64 b.B,i64 b.To]) (vs:=[i64 b.F,i64 b.B,i64 b.To]) y rfl rfl (fun b4 w5 z=>(yW ?_))))
 obtain ⟨K7,J,k,V,Z⟩:=aH.lendB (i:=0) z rfl
 obtain ⟨l,e,m,n,a0⟩:=aH.lendB (i:=0) V rfl
 refine dV (C:=fun w'=>∃ L',aH G l L' w') [(0,0),(1,0),(2,0),(3,0),(5,0),(6,0),(7,0),(8,0),(10,0),(11,0),(12,0),(13,0),(4,1),(9,1),(14,1),(15,1),(16,1),(17,0)] bV (by kernel_rfl) (fun _ hg=>⟨_,aH.mono n hg⟩) (fun c2 a1=>?_)
 have c:=aH.mono n a1
 refine yW ?_;refine bX rfl (fun _ ⟨_,c⟩=>bE (t:=0) cN c (k.mono e) rfl rfl) (bX rfl (fun _ _=>bQ (t':=1) fA rfl rfl) (bX rfl (fun _ ⟨_,c⟩=>bE (t:=1) cN c m rfl rfl) (bX rfl (fun _ _=>bQ (t':=1) fA rfl rfl) (bX rfl (fun _ ⟨_,c⟩=>bE (t:=1) cN c (k.mono e) rfl rfl) (bX rfl (fun _ _=>bQ (t':=2) eR rfl rfl) (bX rfl (fun _ ⟨_,c⟩=>bE (t:=2) cN c m rfl rfl) (bX rfl (fun _ _=>bQ (t':=2) eR rfl rfl) (bX rfl (fun _ ⟨_,c⟩=>bE (t:=2) cN c (k.mono e) rfl rfl) (gX rfl ?_)))))))))
 obtain ⟨g,a2,d⟩:=aB d
 refine zF call99 (iX c a2) ?_
 rintro _ c3 ⟨rfl,o⟩
 refine aX (aA ⟨⟨_,o⟩,?_⟩)
 refine gX rfl ?_;obtain ⟨h,a3,d⟩:=aB d
 refine zF call99 (iX o a3) ?_
 rintro _ c4 ⟨rfl,p⟩
 refine aX (aA ⟨⟨_,p⟩,?_⟩)
 refine gX rfl ?_;obtain ⟨j,a4,d⟩:=aB d
 refine zF call99 (iX p a4) ?_
 rintro _ c5 ⟨rfl,q⟩
 refine aX (aA ⟨⟨_,q⟩,?_⟩)
 refine gX rfl (bZ (Kt:=K) (xs:=([g,h,j]:List Int)) (cs:=[i64 g,i64 h,i64 j]) (vs:=[(0,i64 g),(1,i64 h),(2,i64 j)]) aFQ ez_3 rfl rfl q rfl (by kernel_rfl) rfl rfl rfl ⟨rfl,rfl,rfl,trivial⟩ (fun a5 a6 (r:aH G l (aJ 3 K a5 3 ([g,h,j]:List Int)::L) a6)=>(aX (aA ⟨⟨_,r⟩,?_⟩))))
 refine gX rfl ?_;obtain ⟨c6,c7,a7,a8,a9⟩:=aH.lendS (i:=0) r (Hp.le_trans J e) rfl
 obtain ⟨c8,b0,d⟩:=aB d
 refine zF call98 (aDR a8 a7 b0) ?_
 rintro _ c9 ⟨rfl,b2⟩
 have u:=a9 _ _ b2
 refine aX (aA ⟨⟨_,u⟩,?_⟩)
 refine yW ?_;refine gZ ?_
 have b3:=a0 _ _ u
 have b5:=Z _ _ b3
 refine yW ?_;obtain rfl:=zI d
 exact aIK results65 ⟨rfl,(aH.arr 3 [] b5 rfl)⟩
end Gv
