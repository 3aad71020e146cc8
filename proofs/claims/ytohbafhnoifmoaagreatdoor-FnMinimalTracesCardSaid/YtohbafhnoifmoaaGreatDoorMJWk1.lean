/- Walks, printed by program. -/
import Derived.Test.YtohbafhnoifmoaaGreatDoorMJLW
import Derived.Test.YtohbafhnoifmoaaGreatDoorMJMd
import Derived.Test.YtohbafhnoifmoaaGreatDoorMJT
set_option linter.all false
namespace Gv
open Go.Value renaming slice→zS,bool→zB,pointer→zP,agg→zA
open Option.some renaming inj→zI
open Gv.Hp renaming le_trans→zL,le_refl→zR
open Go Go.Proofs Go.Proofs.Tryz
set_option maxRecDepth 20000
set_option maxHeartbeats 40000000
variable {G:uA} {K:Hp} {L:List iU} {w:World} {a1 a4 a7:Option Addr} {c2 c5 c8:Nat}
theorem aDS {d:(List bD)} {R:((List Int) × Bool)} (z:aH G K (L) w) (J:G.lo=0) (V:cR K a1 c2 d) (b:aAi d=some R):
  Calls Tryz.prog 131 ([zS a1 d.length c2]:List Value).toArray w (eN fun v w'=>∃ o p,v=Value.tuple #[zS o R.1.length p,zB R.2]/\aH G K (aJ 2 K o p R.1::L) w'):=by
 refine zH func131 ?_;unfold aAi at b
 refine yW ?_;refine aZ (fun f w=>∃ j k l,mI j=some R/\f 4=zS k j.length l/\aH G K (aJ 2 K k l j::L) w) ?_ ?_
 ·rintro f w8 ⟨j,k,l,b,e7,Z⟩
  unfold mI at b
  refine yW ?_;obtain rfl:=zI b
  exact bK (iO results131 rfl rfl ⟨k,l,rfl,Z⟩)
 have a2:=aH.nil (α:=Int) z 2 K
 obtain ⟨c8,a3,b⟩:=aB b
 refine cE a3 (fun s f w=>match s with|(c,m)=>∃ e g,f 4=zS e c.length g/\f 9=zS a1 d.length c2/\f 10=i64 (d.length:Int)/\f 11=i64 m/\aH G K (aJ 2 K e g c::L) w) ?_ ?_
 ·exact ⟨none,0,rfl,rfl,rfl,rfl,a2⟩
 ·rintro ⟨c,m⟩ a4 f c9 a q ⟨e,g,a6,a7,a8,d0,r⟩
  replace a:rE d c m=some a4:=a
  unfold rE at a
  refine yW ?_
  rcases aG a with ⟨a9,a⟩|⟨a9,a⟩
  ·refine yW ?_;refine cT (yW ?_)
   obtain ⟨d1,b0,a⟩:=aB a
   refine yW ?_;obtain ⟨d2,d3,b1⟩:=cR.el (sz:=1) rfl V b0
   cases b1
   refine yW ?_;obtain ⟨n,b2,a⟩:=aB a
   refine zF call162 (aFk r J b2) ?_
   rintro _ d4 ⟨rfl,t⟩
   refine yW ?_
   rcases aG a with ⟨b3,a⟩|⟨b3,a⟩
   ·refine yW ?_;refine bK (aW (cA (aW (aW ?_))))
    have b4:=q _ (zI a).symm
    subst b4
    have b:(some ([],false))=some R:=b
    have b5:=aH.nil (α:=Int) t 2 K
    obtain rfl:=zI b
    exact cA (aW (aW (iO results131 rfl rfl ⟨none,0,rfl,(aH.arr 2 [0] b5 rfl)⟩)))
   ·refine yW ?_;refine bZ (Kt:=K) (xs:=([n.1]:List Int)) (cs:=[i64 n.1]) (vs:=[(0,i64 n.1)]) bY fC rfl rfl t rfl (by kernel_rfl) rfl rfl rfl ⟨rfl,trivial⟩ (fun b7 b8 (b9:aH G K (aJ 2 K b7 1 ([n.1]:List Int)::aJ 2 K e g c::L) b8)=>?_)
    obtain ⟨u,c0,a⟩:=aB a
    refine dA (i:=0) bY underlying35 fC rfl rfl b9 rfl (zR _) (zR _) c0 rfl rfl rfl rfl (fun _ h=>h) (fun x y c1 (c3:aH G K (aJ 2 K x y u::L) c1)=>(yW ?_));exact ⟨(u,wr (m+1)),(zI a).symm,x,y,rfl,a7,a8,rfl,c3⟩
  ·refine yW ?_
   have c4:=q _ (zI a).symm
   subst c4
   have b:(mI c)=some R:=b
   refine yW ?_;exact ⟨c,e,g,b,a6,r⟩
theorem aDr {g:(List Int)} {j R:bD} (J:aH G K (L) w) (V:G.lo=0) (Z:cR K a1 c2 g) (b:aEm g j=some R):
  Calls Tryz.prog 72 ([zS a1 g.length c2,str j]:List Value).toArray w (eN fun v w'=>v=str R/\aH G K (L) w'):=by
 refine zH func72 ?_;unfold aEm at b
 refine yW ?_;obtain ⟨c,q5,b⟩:=aB b
 refine wS (e:=([]:bD)) cF fL rfl rfl J rfl rfl rfl q5 rfl (fun d w7 (a3:aH G K (aJ 9 K d c.length c::L) w7)=>(yW ?_));refine aZ (fun f w=>∃ l,yU j l=some R/\f 1=str j/\f 5=zS d l.length c.length/\aH G K (aJ 9 K d c.length l::L) w) ?_ ?_
 ·rintro f c7 ⟨l,b,c8,c9,a4⟩
  unfold yU at b
  refine yW ?_;obtain ⟨d0,d1,a5,a7,a8⟩:=aH.lendS (i:=0) a4 (zR _) rfl
  obtain ⟨d2,a9,b⟩:=aB b
  refine zF call111 (lib_Join a7 V a5 a9) ?_
  rintro _ d3 ⟨rfl,b0⟩
  have b1:=a8 _ _ b0
  refine yW ?_;obtain rfl:=zI b
  exact aIK results72 ⟨rfl,(aH.arr 1 [] b1 rfl)⟩
 obtain ⟨d4,b3,b⟩:=aB b
 refine cE b3 (fun s f w=>match s with|(k,m)=>f 1=str j/\f 5=zS d k.length c.length/\f 11=zS a1 g.length c2/\f 12=i64 (g.length:Int)/\f 13=i64 m/\aH G K (aJ 9 K d c.length k::L) w) ?_ ?_
 ·exact ⟨rfl,rfl,rfl,rfl,rfl,a3⟩
 ·rintro ⟨k,m⟩ b4 f d5 a b5 ⟨p,q,b6,b7,d6,r⟩
  replace a:aCn g k m=some b4:=a
  unfold aCn at a
  refine yW ?_
  rcases aG a with ⟨b8,a⟩|⟨b8,a⟩
  ·refine yW ?_;refine cT (yW ?_)
   obtain ⟨d7,b9,a⟩:=aB a
   refine yW ?_;obtain ⟨d8,d9,c0⟩:=cR.el (sz:=1) rfl Z b9
   cases c0
   refine yW ?_;obtain ⟨u,c1,a⟩:=aB a
   refine zF call110 (aFh r c1) ?_
   rintro _ e0 ⟨rfl,x⟩
   obtain ⟨e1,o,a⟩:=aB a
   have c3:=cU x (i:=0) rfl o
   refine aC (dB cF rfl c3 rfl rfl rfl o) ?_;obtain ⟨y,z,a⟩:=aB a
   refine iH (i:=0) (t:=0) (ns:=[str u]) (e':=(u:bD)) sizeOf9 x rfl (zR _) rfl rfl rfl o z rfl rfl (cS rfl) rfl (fun cs h=>by cases h;rfl) (fun c4 (c5:aH G K (aJ 9 K d c.length y::L) c4)=>(yW ?_));exact ⟨(y,wr (m+1)),(zI a).symm,p,(Eq.trans q (congrArg (fun n=>zS d n c.length) (gN z))),b6,b7,rfl,c5⟩
  ·refine yW ?_
   have c6:=b5 _ (zI a).symm
   subst c6
   have b:(yU j k)=some R:=b
   refine yW ?_;exact ⟨k,b,p,q,r⟩
theorem aGb {c:UInt8} {R:Bool} (d:aH G K (L) w) (a:aEB c=some R):
  Calls Tryz.prog 239 ([Value.int .u8 (c.toNat:Int)]:List Value).toArray w (eN fun v w'=>v=zB R/\aH G K (L) w'):=by
 refine zH func239 ?_;unfold aEB at a
 iterate 6 refine aIQ ?_
 refine cQ (fun f w=>∃ b,uX b=some R/\f 2=zB b/\aH G K (L) w) ?_ ?_
 ·rintro f j ⟨b,a,e,g⟩
  unfold uX at a
  refine yW ?_;obtain rfl:=zI a
  exact aIK results239 ⟨e,g⟩
 refine yW ?_
 rcases aG a with ⟨i,a⟩|⟨i,a⟩
 ·refine yW ?_;exact ⟨decide ((c.toNat:Int)<=57),a,rfl,d⟩
 ·refine yW ?_;exact ⟨false,a,rfl,d⟩
theorem aGx {c:bD} {R:Bool} (y:aH G K (L) w) (b:aFT c=some R):
  Calls Tryz.prog 207 ([str c]:List Value).toArray w (eN fun v w'=>v=zB R/\aH G K (L) w'):=by
 refine zH func207 ?_;unfold aFT at b
 refine yW ?_;refine aC (fK runUnderlying9 rfl) (yW ?_)
 refine aZ (fun f w=>aJL c=some R/\f 0=str c/\aH G K (L) w) ?_ ?_
 ·rintro f w2 ⟨b,e1,p⟩
  unfold aJL at b
  iterate 2 refine aIQ ?_
  refine cQ (fun f w=>∃ e,yV e=some R/\f 2=zB e/\aH G K (L) w) ?_ ?_
  ·rintro f w6 ⟨e,b,z,J⟩
   unfold yV at b
   refine yW ?_;obtain rfl:=zI b
   exact aIK results207 ⟨z,J⟩
  refine yW ?_;refine aC (fK runUnderlying9 rfl) (yW ?_)
  rcases aG b with ⟨Z,b⟩|⟨Z,b⟩
  ·refine yW ?_;refine aC (fK runUnderlying9 rfl) (yW ?_)
   exact ⟨decide ((c.length:Int)<=10),b,rfl,p⟩
  ·refine yW ?_;exact ⟨false,b,rfl,p⟩
 obtain ⟨b9,a0,b⟩:=aB b
 refine cE a0 (fun (d:Int) f w=>f 0=str c/\f 6=i64 (c.length:Int)/\f 7=i64 d/\aH G K (L) w) ?_ ?_
 ·exact ⟨rfl,rfl,rfl,y⟩
 ·rintro d g f c0 a q ⟨h,r,t,i⟩
  replace a:aCo c d=some g:=a
  unfold aCo at a
  refine yW ?_
  rcases aG a with ⟨a1,a⟩|⟨a1,a⟩
  ·refine yW ?_;refine cT ?_
   iterate 7 refine aIQ ?_
   refine cQ (fun f w=>∃ j,yX c d j=some g/\f 0=str c/\f 3=i64 d/\f 4=zB j/\f 6=i64 (c.length:Int)/\f 7=i64 d/\aH G K (L) w) ?_ ?_
   ·rintro f c1 ⟨j,a,k,c2,c3,l,m,n⟩
    unfold yX at a
    iterate 2 refine aIQ ?_
    refine cQ (fun f w=>∃ o,tW d o=some g/\f 0=str c/\f 6=i64 (c.length:Int)/\f 7=i64 d/\f 32=zB o/\aH G K (L) w) ?_ ?_
    ·rintro f c4 ⟨o,a,a2,a3,c5,c6,u⟩
     unfold tW at a
     refine yW ?_
     rcases aG a with ⟨a4,a⟩|⟨a4,a⟩
     ·refine yW ?_;refine bK (cA (aW (aW ?_)))
      have a5:=q _ (zI a).symm
      subst a5
      have b:(some false)=some R:=b
      obtain rfl:=zI b
      exact cA (aW (aW (bM results207 rfl ⟨rfl,u⟩)))
     ·refine yW ?_;exact ⟨wr (d+1),(zI a).symm,a2,a3,rfl,u⟩
    refine yW ?_
    rcases aG a with ⟨a7,a⟩|⟨a7,a⟩
    ·refine yW ?_
     rcases aG a with ⟨a8,a⟩|⟨a8,a⟩
     ·refine yW ?_;exact ⟨true,a,k,l,m,rfl,n⟩
     ·refine yW ?_;obtain ⟨c7,a9,a⟩:=aB a
      refine aC (aAV runUnderlying9 rfl rfl a9) (yW ?_);obtain ⟨b0,b1,a⟩:=aB a
      refine zF call239 (aGb n b1) ?_
      rintro _ c8 ⟨rfl,b2⟩
      refine yW ?_;exact ⟨!b0,a,k,l,m,rfl,b2⟩
    ·refine yW ?_;exact ⟨false,a,k,l,m,rfl,n⟩
   refine yW ?_;obtain ⟨b3,x,a⟩:=aB a
   refine aC (aAV runUnderlying9 rfl rfl x) (yW ?_)
   rcases aG a with ⟨b4,a⟩|⟨b4,a⟩
   ·refine yW ?_;refine aC (aAV runUnderlying9 rfl rfl x) (yW ?_)
    exact ⟨decide ((b3.toNat:Int)<=122),a,h,rfl,rfl,r,t,i⟩
   ·refine yW ?_;exact ⟨false,a,h,rfl,rfl,r,t,i⟩
  ·refine yW ?_
   have b5:=q _ (zI a).symm
   subst b5
   have b:(aJL c)=some R:=b
   refine yW ?_;exact ⟨b,h,i⟩
theorem aFl {b:bD} {R:Bool} (e:aH G K (L) w) (a:aDB b=some R):
  Calls Tryz.prog 165 ([str b]:List Value).toArray w (eN fun v w'=>v=zB R/\aH G K (L) w'):=by
 refine zH func165 ?_;unfold aDB at a
 iterate 6 refine aIQ ?_
 refine cQ (fun f w=>∃ c,sA c=some R/\f 2=zB c/\aH G K (L) w) ?_ ?_
 ·rintro f l ⟨c,a,g,h⟩
  unfold sA at a
  refine yW ?_;obtain rfl:=zI a
  exact aIK results165 ⟨g,h⟩
 refine yW ?_;obtain ⟨m,j,a⟩:=aB a
 refine zF call207 (aGx e j) ?_
 rintro _ n ⟨rfl,d⟩
 refine yW ?_
 rcases aG a with ⟨k,a⟩|⟨k,a⟩
 ·refine yW ?_;exact ⟨!(b == ([116,97,117]:bD)),a,rfl,d⟩
 ·refine yW ?_;exact ⟨false,a,rfl,d⟩
theorem aID {n low b:Int} {R:Bool} (d:aH G K (L) w) (a:tX n low b=some R):
  Calls Tryz.prog 61 ([i64 n,i64 low,i64 b]:List Value).toArray w (eN fun v w'=>v=zB R/\aH G K (L) w'):=by
 refine zH func61 ?_;unfold tX at a
 iterate 6 refine aIQ ?_
 refine cQ (fun f w=>∃ c,yY c=some R/\f 6=zB c/\aH G K (L) w) ?_ ?_
 ·rintro f j ⟨c,a,e,g⟩
  unfold yY at a
  refine yW ?_;obtain rfl:=zI a
  exact aIK results61 ⟨e,g⟩
 refine yW ?_
 rcases aG a with ⟨i,a⟩|⟨i,a⟩
 ·refine yW ?_;exact ⟨decide (n<=b),a,rfl,d⟩
 ·refine yW ?_;exact ⟨false,a,rfl,d⟩
theorem aGc {n:Int} {R:Bool} (b:aH G K (L) w) (a:aEC n=some R):
  Calls Tryz.prog 210 ([i64 n]:List Value).toArray w (eN fun v w'=>v=zB R/\aH G K (L) w'):=by
 refine zH func210 ?_;unfold aEC at a
 refine yW ?_;obtain ⟨g,c,a⟩:=aB a
 refine zF call61 (aID b c) ?_
 rintro _ h ⟨rfl,d⟩
 refine yW ?_;obtain rfl:=zI a
 exact aIK results210 ⟨rfl,d⟩
theorem aDj {n:Int} {R:Bool} (b:aH G K (L) w) (a:wX n=some R):
  Calls Tryz.prog 209 ([i64 n]:List Value).toArray w (eN fun v w'=>v=zB R/\aH G K (L) w'):=by
 refine zH func209 ?_;unfold wX at a
 refine yW ?_;obtain ⟨g,c,a⟩:=aB a
 refine zF call210 (aGc b c) ?_
 rintro _ h ⟨rfl,d⟩
 refine yW ?_;obtain rfl:=zI a
 exact aIK results209 ⟨rfl,d⟩
theorem mA {c:(List Int)} {R:Int} (j:aH G K (L) w) (k:cR K a1 c2 c) (b:gD c=some R):
  Calls Tryz.prog 240 ([zS a1 c.length c2,Value.func (.func 209) #[] #[]]:List Value).toArray w (eN fun v w'=>v=i64 R/\aH G K (L) w'):=by
 refine zH func240 ?_;unfold gD at b
 refine yW ?_;refine aZ (fun f w=>dZ=some R/\aH G K (L) w) ?_ ?_
 ·rintro f w4 ⟨b,l⟩
  unfold dZ at b
  refine yW ?_;obtain rfl:=zI b
  exact aIK results240 ⟨rfl,l⟩
 obtain ⟨a2,n,b⟩:=aB b
 refine cE n (fun (d:Int) f w=>f 0=zS a1 c.length c2/\f 1=Value.func (.func 209) #[] #[]/\f 7=i64 (c.length:Int)/\f 8=i64 d/\aH G K (L) w) ?_ ?_
 ·exact ⟨rfl,rfl,rfl,rfl,j⟩
 ·rintro d o f a3 a e ⟨p,q,r,a4,g⟩
  replace a:fM c d=some o:=a
  unfold fM at a
  refine yW ?_
  rcases aG a with ⟨t,a⟩|⟨t,a⟩
  ·refine yW ?_;refine cT (yW ?_)
   obtain ⟨h,u,a⟩:=aB a
   refine yW ?_;obtain ⟨a5,a6,x⟩:=cR.el (sz:=1) rfl k u
   cases x
   refine yW ?_;obtain ⟨a7,y,a⟩:=aB a
   refine oV (vs:=[i64 h]) (caps:=[]) (us:=[i64 h]) rfl call209 rfl rfl (aDj g y) ?_
   rintro _ a8 ⟨rfl,i⟩
   refine yW ?_
   rcases aG a with ⟨z,a⟩|⟨z,a⟩
   ·refine yW ?_;refine bK (cA (aW (aW ?_)))
    have J:=e _ (zI a).symm
    subst J
    have b:(some d)=some R:=b
    obtain rfl:=zI b
    exact cA (aW (aW (bM results240 rfl ⟨rfl,i⟩)))
   ·refine yW ?_;exact ⟨wr (d+1),(zI a).symm,p,q,r,rfl,i⟩
  ·refine yW ?_
   have Z:=e _ (zI a).symm
   subst Z
   have b:(dZ)=some R:=b
   refine yW ?_;exact ⟨b,g⟩
theorem kO {b:(List Int)} {R:Bool} (c:aH G K (L) w) (d:cR K a1 c2 b) (a:fN b=some R):
  Calls Tryz.prog 208 ([zS a1 b.length c2,Value.func (.func 209) #[] #[]]:List Value).toArray w (eN fun v w'=>v=zB R/\aH G K (L) w'):=by
 refine zH func208 ?_;unfold fN at a
 refine yW ?_;obtain ⟨i,e,a⟩:=aB a
 refine zF call240 (mA c d e) ?_
 rintro _ j ⟨rfl,g⟩
 refine yW ?_;obtain rfl:=zI a
 exact aIK results208 ⟨rfl,g⟩
theorem aEQ {b:(List Int)} {R:Bool} (c:aH G K (L) w) (d:cR K a1 c2 b) (a:aCp b=some R):
  Calls Tryz.prog 166 ([zS a1 b.length c2]:List Value).toArray w (eN fun v w'=>v=zB R/\aH G K (L) w'):=by
 refine zH func166 ?_;unfold aCp at a
 refine yW ?_;obtain ⟨i,e,a⟩:=aB a
 refine zF call208 (kO c d e) ?_
 rintro _ j ⟨rfl,g⟩
 refine yW ?_;obtain rfl:=zI a
 exact aIK results166 ⟨rfl,g⟩
theorem aGd {c:bD} {b:(List Int)} {R:(bD × Bool)} (h:aH G K (L) w) (j:G.lo=0) (i:cR K a1 c2 b) (a:aED c b=some R):
  Calls Tryz.prog 134 ([str c,zS a1 b.length c2]:List Value).toArray w (eN fun v w'=>v=Value.tuple #[str R.1,zB R.2]/\aH G K (L) w'):=by
 refine zH func134 ?_;unfold aED at a
 refine yW ?_;refine cT (yW ?_)
 rcases aG a with ⟨k,a⟩|⟨k,a⟩
 ·refine yW ?_;obtain rfl:=zI a
  exact bK (cA (aW (iO results134 rfl rfl ⟨rfl,h⟩)))
 ·iterate 2 refine aIQ ?_
  refine cQ (fun f w=>∃ d,oX c b d=some R/\f 0=str c/\f 1=zS a1 b.length c2/\f 12=zB d/\aH G K (L) w) ?_ ?_
  ·rintro f a3 ⟨d,a,e7,e8,e9,e⟩
   unfold oX at a
   refine yW ?_
   rcases aG a with ⟨m,a⟩|⟨m,a⟩
   ·refine yW ?_;obtain rfl:=zI a
    exact bK (cA (aW (iO results134 rfl rfl ⟨rfl,e⟩)))
   ·refine yW ?_
    rcases aG a with ⟨o,a⟩|⟨o,a⟩
    ·refine yW ?_;obtain rfl:=zI a
     exact bK (cA (aW (iO results134 rfl rfl ⟨rfl,e⟩)))
    ·refine yW ?_;obtain ⟨a7,q,a⟩:=aB a
     refine aC (R_cat rfl rfl q) (yW ?_);obtain ⟨a8,r,a⟩:=aB a
     refine zF call72 (aDr e j i r) ?_
     rintro _ a9 ⟨rfl,t⟩
     obtain ⟨b0,u,a⟩:=aB a
     refine aC (R_cat rfl rfl u) ?_;obtain ⟨b1,x,a⟩:=aB a
     refine aC (R_cat rfl rfl x) (yW ?_);obtain rfl:=zI a
     exact bK (iO results134 rfl rfl ⟨rfl,t⟩)
  refine yW ?_;obtain ⟨b2,z,a⟩:=aB a
  refine zF call165 (aFl h z) ?_
  rintro _ b3 ⟨rfl,g⟩
  refine yW ?_
  rcases aG a with ⟨J,a⟩|⟨J,a⟩
  ·refine yW ?_;exact ⟨true,a,rfl,rfl,rfl,g⟩
  ·refine yW ?_
   rcases aG a with ⟨V,a⟩|⟨V,a⟩
   ·refine yW ?_;exact ⟨true,a,rfl,rfl,rfl,g⟩
   ·refine yW ?_;obtain ⟨Z,a0,a⟩:=aB a
    refine zF call166 (aEQ g i a0) ?_
    rintro _ b4 ⟨rfl,a2⟩
    refine yW ?_;exact ⟨!Z,a,rfl,rfl,rfl,a2⟩
theorem nA {d b:bD} {R:Bool} (e:aH G K (L) w) (a:gG d b=some R):
  Calls Tryz.prog 206 ([str d,str b]:List Value).toArray w (eN fun v w'=>v=zB R/\aH G K (L) w'):=by
 refine zH func206 ?_;unfold gG at a
 iterate 6 refine aIQ ?_
 refine cQ (fun f w=>∃ c,eD c=some R/\f 4=zB c/\aH G K (L) w) ?_ ?_
 ·rintro f m ⟨c,a,g,h⟩
  unfold eD at a
  refine yW ?_;obtain rfl:=zI a
  exact aIK results206 ⟨g,h⟩
 refine yW ?_;refine aC (fK runUnderlying9 rfl) (yW ?_)
 refine aC (fK runUnderlying9 rfl) (yW ?_)
 rcases aG a with ⟨j,a⟩|⟨j,a⟩
 ·refine yW ?_;refine aC (fK runUnderlying9 rfl) (yW ?_)
  refine aC (fK runUnderlying9 rfl) (yW ?_);obtain ⟨k,l,a⟩:=aB a
  refine aC (R_slSL runUnderlying9 rfl rfl l) (yW ?_);exact ⟨k == b,a,rfl,e⟩
 ·refine yW ?_;exact ⟨false,a,rfl,e⟩
theorem mB {b c R:bD} (e:aH G K (L) w) (a:gE b c=some R):
  Calls Tryz.prog 164 ([str b,str c]:List Value).toArray w (eN fun v w'=>v=str R/\aH G K (L) w'):=by
 refine zH func164 ?_;unfold gE at a
 refine yW ?_;obtain ⟨l,g,a⟩:=aB a
 refine zF call206 (nA e g) ?_
 rintro _ m ⟨rfl,d⟩
 refine yW ?_
 rcases aG a with ⟨h,a⟩|⟨h,a⟩
 ·refine yW ?_;refine aC (fK runUnderlying9 rfl) (yW ?_)
  refine aC (fK runUnderlying9 rfl) (yW ?_);obtain ⟨n,i,a⟩:=aB a
  refine aC (R_slSH runUnderlying9 rfl rfl i) (yW ?_);obtain rfl:=zI a
  exact bK (aW (bM results164 rfl ⟨rfl,d⟩))
 ·refine yW ?_;obtain rfl:=zI a
  exact aIK results164 ⟨rfl,d⟩
theorem yH {b c R:bD} (d:aH G K (L) w) (a:lH b c=some R):
  Calls Tryz.prog 133 ([str b,str c]:List Value).toArray w (eN fun v w'=>v=str R/\aH G K (L) w'):=by
 refine zH func133 ?_;unfold lH at a
 refine yW ?_;obtain ⟨i,e,a⟩:=aB a
 refine zF call164 (mB d e) ?_
 rintro _ j ⟨rfl,g⟩
 refine yW ?_;obtain rfl:=zI a
 exact aIK results133 ⟨rfl,g⟩
theorem aER {e:bD} {R:(bD × (List Int) × Bool)} (t:aH G K (L) w) (j:G.lo=0) (a:aCq e=some R):
  Calls Tryz.prog 97 ([str e]:List Value).toArray w (eN fun v w'=>∃ k l,v=Value.tuple #[str R.1,zS k R.2.1.length l,zB R.2.2]/\aH G K (aJ 2 K k l R.2.1::L) w'):=by
 refine zH func97 ?_;unfold aCq at a
 refine yW ?_;obtain ⟨g,u,a⟩:=aB a
 refine zF call130 (lib_Cut t u) ?_
 rintro _ w3 ⟨rfl,m⟩
 iterate 14 refine aIQ ?_
 refine jR (fun f w=>∃ b c d,oZ e g b=some R/\f 0=str e/\f 5=str g.1/\f 8=zS c b.length d/\aH G K (aJ 2 K c d b::L) w) ?_ ?_
 ·rintro f c5 ⟨b,c,d,a,e8,n,o,x⟩
  unfold oZ at a
  refine yW ?_;obtain ⟨c8,c9,y,z,J⟩:=aH.lendS (i:=0) x (zR _) rfl
  obtain ⟨V,Z,a⟩:=aB a
  refine zF call134 (aGd z j y Z) ?_
  rintro _ d0 ⟨rfl,a0⟩
  have p:=J _ _ a0
  iterate 8 refine aIQ ?_
  refine cQ (fun f w=>∃ h,oY g b h=some R/\f 5=str g.1/\f 8=zS c b.length d/\f 40=zB h/\aH G K (aJ 2 K c d b::L) w) ?_ ?_
  ·rintro f d1 ⟨h,a,d2,d3,d4,q⟩
   unfold oY at a
   refine yW ?_
   rcases aG a with ⟨a1,a⟩|⟨a1,a⟩
   ·refine yW ?_
    have a2:=aH.nil (α:=Int) q 2 K
    obtain rfl:=zI a
    exact bK (aW (aAf results97 rfl rfl rfl ⟨none,0,rfl,(aH.arr 2 [0] a2 rfl)⟩))
   ·refine yW ?_;obtain rfl:=zI a
    exact bK (aAf results97 rfl rfl rfl ⟨c,d,rfl,q⟩)
  refine yW ?_
  rcases aG a with ⟨a5,a⟩|⟨a5,a⟩
  ·refine yW ?_;exact ⟨true,a,n,o,rfl,p⟩
  ·refine yW ?_;exact ⟨!(V.1 == e),a,n,o,rfl,p⟩
 refine yW ?_
 rcases aG a with ⟨a7,a⟩|⟨a7,a⟩
 ·refine yW ?_;obtain ⟨d5,a8,a⟩:=aB a
  refine zF call133 (yH m a8) ?_
  rintro _ d6 ⟨rfl,a9⟩
  obtain ⟨d7,b0,a⟩:=aB a
  refine zF call132 (lib_Split a9 b0) ?_
  rintro _ d8 ⟨d9,e0,rfl,b1⟩
  obtain ⟨e1,e2,b2,b3,b4⟩:=aH.lendS (i:=0) b1 (zR _) rfl
  obtain ⟨b5,b6,a⟩:=aB a
  refine zF call131 (aDS b3 j b2 b6) ?_
  rintro _ e3 ⟨b7,b8,rfl,b9⟩
  have r:=b4 _ _ b9
  refine yW ?_
  rcases aG a with ⟨c0,a⟩|⟨c0,a⟩
  ·refine yW ?_
   have c1:=aH.nil (α:=Int) r 2 K
   obtain rfl:=zI a
   exact bK (aW (aAf results97 rfl rfl rfl ⟨none,0,rfl,(aH.arr 3 [0] c1 rfl)⟩))
  ·refine yW ?_;exact ⟨b5.1,b7,b8,a,rfl,rfl,rfl,(aH.arr 1 [] r rfl)⟩
 ·refine yW ?_
  have c3:=aH.nil (α:=Int) m 2 K
  refine yW ?_;exact ⟨[],none,0,a,rfl,rfl,rfl,c3⟩
theorem aGe {b:bD} {R:Bool} (c:aH G K (L) w) (d:G.lo=0) (a:aEE b=some R):
  Calls Tryz.prog 63 ([str b]:List Value).toArray w (eN fun v w'=>v=zB R/\aH G K (L) w'):=by
 refine zH func63 ?_;unfold aEE at a
 refine yW ?_;obtain ⟨i,e,a⟩:=aB a
 refine zF call97 (aER c d e) ?_
 rintro _ j ⟨k,l,rfl,g⟩
 refine yW ?_;obtain rfl:=zI a
 exact aIK results63 ⟨rfl,(aH.arr 1 [] g rfl)⟩
theorem oN {t:cO} {k:Int} {R:Bool} (b:aH G K (L) w) (h:cR K a1 c2 t.L) (i:cR K a4 c5 t.E) (a:nJ t k=some R):
  Calls Tryz.prog 62 ([zA (zCa t a1 c2 a4 c5),i64 k]:List Value).toArray w (eN fun v w'=>v=zB R/\aH G K (L) w'):=by
 refine zH func62 ?_;unfold nJ at a
 refine yW ?_;refine fS (v:=zA (zCa t a1 c2 a4 c5)) (vs:=(zC t a1 c2 a4 c5)) b rfl rfl (fun j l c=>(yW ?_))
 obtain ⟨m,d,a⟩:=aB a
 refine zF call61 (aID c d) ?_
 rintro _ n ⟨rfl,e⟩
 refine yW ?_;obtain rfl:=zI a
 exact aIK results62 ⟨rfl,(aH.arr 1 [] e rfl)⟩
theorem aHh {i many:Int} {R:Bool} (b:aH G K (L) w) (a:aHf i many=some R):
  Calls Tryz.prog 64 ([i64 i,i64 many]:List Value).toArray w (eN fun v w'=>v=zB R/\aH G K (L) w'):=by
 refine zH func64 ?_;unfold aHf at a
 refine yW ?_;obtain ⟨g,c,a⟩:=aB a
 refine zF call61 (aID b c) ?_
 rintro _ h ⟨rfl,d⟩
 refine yW ?_;obtain rfl:=zI a
 exact aIK results64 ⟨rfl,d⟩
theorem jA {t:cO} {R:Bool} (hs:aH G K (L) w) (hG:G.lo=0) (l:cR K a1 c2 t.L) (m:cR K a4 c5 t.E) (a:lJ t=some R):
  Calls Tryz.prog 34 ([zA (zCa t a1 c2 a4 c5)]:List Value).toArray w (eN fun v w'=>v=zB R/\aH G K (L) w'):=by
 let g:=(zC t a1 c2 a4 c5)
 refine zH func34 ?_;unfold lJ at a
 refine yW ?_;refine fS (v:=zA (zCa t a1 c2 a4 c5)) (vs:=g) hs rfl rfl (fun e w8 c3=>?_)
 iterate 5 refine aIQ ?_
 refine cQ (fun f w=>∃ J,kR t J=some R/\f 1=zP (some ⟨e,0,none⟩)/\f 30=zB J/\aH G K (box e 27 g::L) w) ?_ ?_
 ·rintro f i9 ⟨J,a,c4,j0,a2⟩
  unfold kR at a
  refine yW ?_
  rcases aG a with ⟨c6,a⟩|⟨c6,a⟩
  ·refine yW ?_;obtain rfl:=zI a
   exact bK (aW (bM results34 rfl ⟨rfl,(aH.arr 1 [] a2 rfl)⟩))
  ·refine yW ?_;refine aZ (fun f w=>sC t=some R/\f 1=zP (some ⟨e,0,none⟩)/\aH G K (box e 27 g::L) w) ?_ ?_
   ·rintro f j1 ⟨a,c8,c9⟩
    unfold sC at a
    refine yW ?_;refine aZ (fun f w=>sB=some R/\aH G K (L) w) ?_ ?_
    ·rintro f j2 ⟨a,d0⟩
     unfold sB at a
     refine yW ?_;obtain rfl:=zI a
     exact aIK results34 ⟨rfl,d0⟩
    obtain ⟨j3,d2,a⟩:=aB a
    refine cE d2 (fun (j:Int) f w=>f 1=zP (some ⟨e,0,none⟩)/\f 65=zS a4 t.E.length c5/\f 66=i64 (t.E.length:Int)/\f 67=i64 j/\aH G K (box e 27 g::L) w) ?_ ?_
    ·exact ⟨c8,rfl,rfl,rfl,c9⟩
    ·rintro j a3 f j4 b a5 ⟨n,o,p,q,a6⟩
     replace b:aAj t j=some a3:=b
     unfold aAj at b
     refine yW ?_
     rcases aG b with ⟨d3,b⟩|⟨d3,b⟩
     ·refine yW ?_;refine cT (yW ?_)
      obtain ⟨d,d4,b⟩:=aB b
      refine yW ?_;obtain ⟨j5,j6,d5⟩:=cR.el (sz:=3) rfl m d4
      cases d5
      refine yW ?_;refine bR (vs:=[i64 0,i64 0,i64 0]) zeroValue69 a6 rfl (fun a7 j7 d6=>(yW ?_))
      refine bS (i:=0) (ns:=[i64 d.F,i64 d.B,i64 d.To]) (us:=[i64 d.F,i64 d.B,i64 d.To]) sizeOf69 d6 rfl rfl rfl rfl rfl (cS rfl) rfl rfl (fun d7 (h:aH G K (box a7 69 [i64 d.F,i64 d.B,i64 d.To]::box e 27 g::L) d7)=>(yW ?_));refine cQ (fun f w=>∃ V,jN j V=some a3/\f 1=zP (some ⟨e,0,none⟩)/\f 65=zS a4 t.E.length c5/\f 66=i64 (t.E.length:Int)/\f 67=i64 j/\f 107=zB V/\aH G K (box e 27 g::L) w) ?_ ?_
      ·rintro f j8 ⟨V,b,d8,d9,e0,j9,k0,a8⟩
       unfold jN at b
       refine yW ?_
       rcases aG b with ⟨e1,b⟩|⟨e1,b⟩
       ·refine yW ?_;refine bK (cA (aW (aW ?_)))
        have e2:=a5 _ (zI b).symm
        subst e2
        have a:(some false)=some R:=a
        obtain rfl:=zI a
        exact cA (aW (aW (bM results34 rfl ⟨rfl,(aH.arr 1 [] a8 rfl)⟩)))
       ·refine yW ?_;exact ⟨wr (j+1),(zI b).symm,d8,d9,e0,rfl,a8⟩
      refine dF (C:=fun w'=>aH G K (box a7 69 [i64 d.F,i64 d.B,i64 d.To]::box e 27 g::L) w') bV (by kernel_rfl) (aH.mono h (dG.drew _)) (yW ?_);obtain ⟨e4,e5,b⟩:=aB b
      refine jO (vs:=[zA (zCa t a1 c2 a4 c5),i64 d.F]) (v:=zB e4) call62 rfl (fun _ h=>(oN h l m e5)) (yW ?_)
      rcases aG b with ⟨e6,b⟩|⟨e6,b⟩
      ·refine yW ?_;refine dI (fun k1 e7=>(yW ?_))
       exact ⟨true,b,n,o,p,q,rfl,(aH.arr 1 [] e7 rfl)⟩
      ·refine yW ?_;obtain ⟨e8,e9,b⟩:=aB b
       refine jO (vs:=[zA (zCa t a1 c2 a4 c5),i64 d.To]) (v:=zB e8) call62 rfl (fun _ h=>(oN h l m e9)) (yW ?_)
       rcases aG b with ⟨f0,b⟩|⟨f0,b⟩
       ·refine yW ?_;refine dI (fun k2 f1=>(yW ?_))
        exact ⟨true,b,n,o,p,q,rfl,(aH.arr 1 [] f1 rfl)⟩
       ·refine yW ?_;obtain ⟨f2,f3,b⟩:=aB b
        refine jO (vs:=[i64 d.B,i64 (t.L.length:Int)]) (v:=zB f2) call64 rfl (fun _ h=>(aHh h f3)) (yW ?_)
        rcases aG b with ⟨f4,b⟩|⟨f4,b⟩
        ·refine yW ?_;refine dI (fun k3 f5=>(yW ?_))
         exact ⟨true,b,n,o,p,q,rfl,(aH.arr 1 [] f5 rfl)⟩
        ·refine yW ?_
         rcases aG b with ⟨f6,b⟩|⟨f6,b⟩
         ·refine yW ?_;obtain ⟨Z,f7,b⟩:=aB b
          refine yW ?_;obtain ⟨k4,k5,f8⟩:=cR.el (sz:=3) rfl m f7
          cases f8
          refine yW ?_;obtain ⟨a9,f9,b⟩:=aB b
          refine jO (vs:=[zA #[i64 Z.F,i64 Z.B,i64 Z.To],zA #[i64 d.F,i64 d.B,i64 d.To]]) (v:=i64 a9) call65 rfl (fun _ h=>(uT h f9)) (yW ?_);refine dI (fun k6 g0=>(yW ?_))
          exact ⟨decide (0<=a9),b,n,o,p,q,rfl,(aH.arr 1 [] g0 rfl)⟩
         ·refine yW ?_;refine dI (fun k7 g1=>(yW ?_))
          exact ⟨false,b,n,o,p,q,rfl,(aH.arr 1 [] g1 rfl)⟩
     ·refine yW ?_
      have g2:=a5 _ (zI b).symm
      subst g2
      have a:(sB)=some R:=a
      refine yW ?_;exact ⟨a,(aH.arr 1 [] a6 rfl)⟩
   obtain ⟨k8,g3,a⟩:=aB a
   refine cE g3 (fun (k:Int) f w=>f 1=zP (some ⟨e,0,none⟩)/\f 32=zS a1 t.L.length c2/\f 33=i64 (t.L.length:Int)/\f 34=i64 k/\aH G K (box e 27 g::L) w) ?_ ?_
   ·exact ⟨c4,rfl,rfl,rfl,a2⟩
   ·rintro k b0 f k9 c b1 ⟨r,u,x,y,b2⟩
    replace c:aAk t k=some b0:=c
    unfold aAk at c
    refine yW ?_
    rcases aG c with ⟨g4,c⟩|⟨g4,c⟩
    ·refine yW ?_;refine cT (yW ?_)
     obtain ⟨b3,g5,c⟩:=aB c
     refine yW ?_;obtain ⟨l0,l1,g6⟩:=cR.el (sz:=1) rfl l g5
     cases g6
     iterate 6 refine aIQ ?_
     refine cQ (fun f w=>∃ a0,aIv k a0=some b0/\f 1=zP (some ⟨e,0,none⟩)/\f 32=zS a1 t.L.length c2/\f 33=i64 (t.L.length:Int)/\f 34=i64 k/\f 62=zB a0/\aH G K (box e 27 g::L) w) ?_ ?_
     ·rintro f l2 ⟨a0,c,g7,g8,g9,l3,l4,b4⟩
      unfold aIv at c
      refine yW ?_
      rcases aG c with ⟨h0,c⟩|⟨h0,c⟩
      ·refine yW ?_;refine bK (cA (aW (aW ?_)))
       have h1:=b1 _ (zI c).symm
       subst h1
       have a:(some false)=some R:=a
       obtain rfl:=zI a
       exact cA (aW (aW (bM results34 rfl ⟨rfl,(aH.arr 1 [] b4 rfl)⟩)))
      ·refine yW ?_;exact ⟨wr (k+1),(zI c).symm,g7,g8,g9,rfl,b4⟩
     refine yW ?_;obtain ⟨l5,h4,c⟩:=aB c
     refine zF call63 (aGe b2 hG h4) ?_
     rintro _ l6 ⟨rfl,z⟩
     refine yW ?_
     rcases aG c with ⟨h5,c⟩|⟨h5,c⟩
     ·refine yW ?_;exact ⟨true,c,r,u,x,y,rfl,z⟩
     ·refine yW ?_;refine aC (R_neqB runUnderlying4 rfl rfl) (yW ?_)
      rcases aG c with ⟨h7,c⟩|⟨h7,c⟩
      ·refine yW ?_;exact ⟨true,c,r,u,x,y,rfl,z⟩
      ·refine yW ?_
       rcases aG c with ⟨h8,c⟩|⟨h8,c⟩
       ·refine yW ?_;obtain ⟨b5,h9,c⟩:=aB c
        refine yW ?_;obtain ⟨l7,l8,i0⟩:=cR.el (sz:=1) rfl l h9
        cases i0
        refine yW ?_;exact ⟨(ltB b3 b5||b3 == b5),c,r,u,x,y,rfl,z⟩
       ·refine yW ?_;exact ⟨false,c,r,u,x,y,rfl,z⟩
    ·refine yW ?_
     have i1:=b1 _ (zI c).symm
     subst i1
     have a:(sC t)=some R:=a
     refine yW ?_;exact ⟨a,r,b2⟩
 refine yW ?_;obtain ⟨l9,i2,a⟩:=aB a
 refine zF call61 (aID c3 i2) ?_
 rintro _ m0 ⟨rfl,b6⟩
 refine yW ?_
 rcases aG a with ⟨i3,a⟩|⟨i3,a⟩
 ·refine yW ?_;exact ⟨true,a,rfl,rfl,b6⟩
 ·refine yW ?_;obtain ⟨m1,i4,a⟩:=aB a
  refine zF call62 (oN b6 l m i4) ?_
  rintro _ m2 ⟨rfl,b8⟩
  refine yW ?_
  rcases aG a with ⟨i5,a⟩|⟨i5,a⟩
  ·refine yW ?_;exact ⟨true,a,rfl,rfl,b8⟩
  ·refine yW ?_;obtain ⟨m3,i6,a⟩:=aB a
   refine zF call61 (aID b8 i6) ?_
   rintro _ m4 ⟨rfl,b9⟩
   refine yW ?_
   rcases aG a with ⟨i7,a⟩|⟨i7,a⟩
   ·refine yW ?_;exact ⟨true,a,rfl,rfl,b9⟩
   ·refine yW ?_;exact ⟨decide (300 < (t.E.length:Int)),a,rfl,rfl,b9⟩
theorem oO {c:(List Int)} {e R:Int} (i:aH G K (L) w) (j:cR K a1 c2 c) (b:hQ c e=some R):
  Calls Tryz.prog 138 ([zS a1 c.length c2,i64 e]:List Value).toArray w (eN fun v w'=>v=i64 R/\aH G K (L) w'):=by
 refine zH func138 ?_;unfold hQ at b
 refine yW ?_;refine aZ (fun f w=>eW=some R/\aH G K (L) w) ?_ ?_
 ·rintro f V ⟨b,k⟩
  unfold eW at b
  refine yW ?_;obtain rfl:=zI b
  exact aIK results138 ⟨rfl,k⟩
 obtain ⟨Z,m,b⟩:=aB b
 refine cE m (fun (d:Int) f w=>f 0=zS a1 c.length c2/\f 1=i64 e/\f 7=i64 (c.length:Int)/\f 8=i64 d/\aH G K (L) w) ?_ ?_
 ·exact ⟨rfl,rfl,rfl,rfl,i⟩
 ·rintro d n f a0 a h ⟨o,p,q,a2,g⟩
  replace a:gH c e d=some n:=a
  unfold gH at a
  refine yW ?_
  rcases aG a with ⟨r,a⟩|⟨r,a⟩
  ·refine yW ?_;refine cT (yW ?_)
   obtain ⟨a3,t,a⟩:=aB a
   refine yW ?_;obtain ⟨a4,a5,u⟩:=cR.el (sz:=1) rfl j t
   cases u
   refine yW ?_
   rcases aG a with ⟨x,a⟩|⟨x,a⟩
   ·refine yW ?_;refine bK (cA (aW (aW ?_)))
    have y:=h _ (zI a).symm
    subst y
    have b:(some d)=some R:=b
    obtain rfl:=zI b
    exact cA (aW (aW (bM results138 rfl ⟨rfl,g⟩)))
   ·refine yW ?_;exact ⟨wr (d+1),(zI a).symm,o,p,q,rfl,g⟩
  ·refine yW ?_
   have J:=h _ (zI a).symm
   subst J
   have b:(eW)=some R:=b
   refine yW ?_;exact ⟨b,g⟩
theorem iG {b:(List Int)} {c:Int} {R:Bool} (d:aH G K (L) w) (e:cR K a1 c2 b) (a:eX b c=some R):
  Calls Tryz.prog 105 ([zS a1 b.length c2,i64 c]:List Value).toArray w (eN fun v w'=>v=zB R/\aH G K (L) w'):=by
 refine zH func105 ?_;unfold eX at a
 refine yW ?_;obtain ⟨j,g,a⟩:=aB a
 refine zF call138 (oO d e g) ?_
 rintro _ k ⟨rfl,h⟩
 refine yW ?_;obtain rfl:=zI a
 exact aIK results105 ⟨rfl,h⟩
theorem nF {d R:(List Int)} (hs:aH G K (aJ 2 K a1 c2 d::L) w) (c:gO d=some R):
  Calls Tryz.prog 137 ([zS a1 d.length c2]:List Value).toArray w (eN fun v w'=>∃ a5 a6,v=zS a5 R.length a6/\aH G K (aJ 2 K a5 a6 R::L) w'):=by
 refine zH func137 ?_;unfold gO at c
 refine yW ?_
 rcases aG c with ⟨c3,c⟩|⟨c3,c⟩
 ·refine yW ?_;obtain rfl:=zI c
  exact bK (aW (bM results137 rfl ⟨a1,c2,rfl,hs⟩))
 ·refine yW ?_;refine aZ (fun f w=>eG d=some R/\f 0=zS a1 d.length c2/\aH G K (aJ 2 K a1 c2 d::L) w) ?_ ?_
  ·rintro f w6 ⟨c,e5,d6⟩
   unfold eG at c
   refine yW ?_;obtain rfl:=zI c
   exact aIK results137 ⟨a1,c2,rfl,d6⟩
  obtain ⟨g7,d8,c⟩:=aB c
  refine cE d8 (fun (e:Int) f w=>f 0=zS a1 d.length c2/\f 3=i64 e/\aH G K (aJ 2 K a1 c2 d::L) w) ?_ ?_
  ·exact ⟨rfl,rfl,hs⟩
  ·rintro e p f g8 a a7 ⟨V,a8,m⟩
   replace a:gA d e=some p:=a
   unfold gA at a
   refine yW ?_
   rcases aG a with ⟨d9,a⟩|⟨d9,a⟩
   ·refine yW ?_;refine aZ (fun f w=>fY e=some p/\f 0=zS a1 d.length c2/\f 3=i64 e/\aH G K (aJ 2 K a1 c2 d::L) w) ?_ ?_
    ·rintro f g9 ⟨a,e0,h0,e1⟩
     unfold fY at a
     refine yW ?_;exact ⟨wr (e+1),(zI a).symm,e0,rfl,e1⟩
    refine yW ?_;refine dF (C:=fun w'=>aH G K (aJ 2 K a1 c2 d::L) w') bV (by kernel_rfl) (aH.mono m (dG.drew _)) (yW ?_)
    obtain ⟨h1,a9,a⟩:=aB a
    have k:=cU m (i:=0) rfl a9
    refine aU (fun _ m=>dB bY rfl k rfl rfl rfl a9) (yW ?_);obtain ⟨h2,e2,a⟩:=aB a
    refine aU (fun _ m=>dB bY rfl k rfl rfl rfl e2) (yW ?_);refine dI (fun h3 Z=>(yW ?_))
    rcases aG a with ⟨c45,a⟩|⟨c45,a⟩
    ·refine yW ?_;obtain ⟨a0,q,a⟩:=aB a
     have r:=mH Z (i:=0) rfl
     obtain ⟨b0,b1,u⟩:=Cut.ex 1 a1 c2 e
     refine aC (wU bY r u rfl rfl rfl q) (yW ?_);refine aZ (fun f w=>∃ x y,eH x y=some p/\f 0=zS a1 x.length c2/\f 3=i64 y/\aH G K (aJ 2 K a1 c2 x::L) w) ?_ ?_
     ·rintro f h4 ⟨x,y,a,e3,h5,b2⟩
      unfold eH at a
      refine yW ?_;obtain ⟨h6,e4,a⟩:=aB a
      have e6:=mH b2 (i:=0) rfl
      obtain ⟨h7,h8,b3⟩:=Cut.ex 1 a1 c2 y
      refine aC (wU bY e6 b3 rfl rfl rfl e4) ?_;obtain ⟨b4,b5,a⟩:=aB a
      refine aEx bY fC rfl b2 (i:=0) rfl b3 rfl rfl b5 (fun b6 (b7:aH G K (aJ 2 K a1 c2 b4::L) b6)=>?_)
      iterate 4 refine aIQ ?_
      refine aO (v:=zS a1 b4.length c2) (Eq.trans e3 (congrArg (fun n=>zS a1 n c2) (aGR b5))) (yW ?_);obtain ⟨b8,b9,a⟩:=aB a
      have e7:=mH b7 (i:=0) rfl
      obtain ⟨c0,c1,c4⟩:=Cut.ex 1 a1 c2 0
      refine aC (aFO bY e7 c4 rfl rfl rfl b9) (yW ?_);refine bK (cA (aW (aW (aW ?_))))
      have e8:=a7 _ (zI a).symm
      subst e8
      have c:(some b8)=some R:=c
      have e9:aH G K (aJ 2 K c0 c1 b8::L) b6:=aH.cutP b7 (i:=0) rfl b9 c4
      obtain rfl:=zI c
      exact cA (aW (aW (bM results137 rfl ⟨c0,c1,rfl,e9⟩)))
     obtain ⟨h9,f1,a⟩:=aB a
     refine cE f1 (fun s f w=>match s with|(g,j,l)=>f 0=zS a1 g.length c2/\f 3=i64 j/\f 4=zS b0 a0.length b1/\f 5=i64 l/\aH G K (aJ 2 K a1 c2 g::L) w) ?_ ?_
     ·exact ⟨V,a8,rfl,rfl,Z⟩
     ·rintro ⟨g,j,l⟩ c5 f i0 b f2 ⟨a2,c6,c7,c8,z⟩
      replace b:fZ e a0 g j l=some c5:=b
      unfold fZ at b
      refine yW ?_
      rcases aG b with ⟨f3,b⟩|⟨f3,b⟩
      ·refine yW ?_;refine aZ (fun f w=>∃ o J,eI l o J=some c5/\f 0=zS a1 o.length c2/\f 3=i64 J/\f 4=zS b0 a0.length b1/\f 5=i64 l/\aH G K (aJ 2 K a1 c2 o::L) w) ?_ ?_
       ·rintro f i1 ⟨o,J,b,f4,f5,f6,i2,f7⟩
        unfold eI at b
        refine yW ?_;exact ⟨(o,J,wr (l+1)),(zI b).symm,f4,f5,f6,rfl,f7⟩
       refine yW ?_;refine dF (C:=fun w'=>aH G K (aJ 2 K a1 c2 g::L) w') bV (by kernel_rfl) (aH.mono z (dG.drew _)) (yW ?_)
       obtain ⟨i3,c9,b⟩:=aB b
       obtain ⟨d0,f8,b⟩:=aB b
       refine aU (fun _ z=>aEi bY k u q r rfl rfl rfl c9 rfl) (yW ?_);obtain ⟨i4,f9,b⟩:=aB b
       obtain ⟨i5,i6,b⟩:=aB b
       refine aU (fun _ z=>aEi bY k u q r rfl rfl rfl f9 rfl) (yW ?_);refine dI (fun i7 a3=>(yW ?_))
       rcases aG b with ⟨g0,b⟩|⟨g0,b⟩
       ·refine yW ?_;refine aC (aEi bY k u q r rfl rfl rfl c9 rfl) (aC (eO (t:=0) cN a3 (i:=0) rfl f8 rfl rfl rfl) ?_)
        obtain ⟨i8,d1,b⟩:=aB b
        refine aC (dB bY rfl k rfl rfl rfl d1) ?_;obtain ⟨d2,d3,b⟩:=aB b
        refine iH (i:=0) (t:=0) (ns:=[i64 d0]) (e':=(d0:Int)) sizeOf2 a3 rfl (zR _) rfl rfl rfl d1 d3 rfl rfl (cS rfl) rfl (fun cs h=>by cases h;rfl) (fun g1 (g2:aH G K (aJ 2 K a1 c2 d2::L) g1)=>(yW ?_));exact ⟨d2,wr (j+1),b,(Eq.trans a2 (congrArg (fun n=>zS a1 n c2) (gN d3))),rfl,c7,c8,g2⟩
       ·refine yW ?_;exact ⟨g,j,b,a2,c6,c7,c8,a3⟩
      ·refine yW ?_
       have g3:=f2 _ (zI b).symm
       subst g3
       have a:(eH g j)=some p:=a
       refine yW ?_;exact ⟨g,j,a,a2,c6,z⟩
    ·refine yW ?_;exact ⟨a,V,a8,Z⟩
   ·refine yW ?_
    have g4:=a7 _ (zI a).symm
    subst g4
    have c:(eG d)=some R:=c
    refine yW ?_;exact ⟨c,V,m⟩
theorem qY {t:cO} {l:(List Int)} {o:bD} {R:(List Int)} (hs:aH G K (L) w) (h3:cR K a1 c2 t.L) (h6:cR K a4 c5 t.E) (h9:cR K a7 c8 l) (c:pA t l o=some R):
  Calls Tryz.prog 104 ([zA (zCa t a1 c2 a4 c5),zS a7 l.length c8,str o]:List Value).toArray w (eN fun v w'=>∃ a0 a2,v=zS a0 R.length a2/\aH G K (aJ 2 K a0 a2 R::L) w'):=by
 let m:=(zC t a1 c2 a4 c5)
 refine zH func104 ?_;unfold pA at c
 refine yW ?_;refine fS (v:=zA (zCa t a1 c2 a4 c5)) (vs:=m) hs rfl rfl (fun e h2 d0=>(yW ?_))
 refine aZ (fun f w=>∃ x p q,nO x=some R/\f 7=zS p x.length q/\aH G K (aJ 2 K p q x::L) w) ?_ ?_
 ·rintro f h4 ⟨x,p,q,c,d1,d2⟩
  unfold nO at c
  refine yW ?_;obtain ⟨d3,d4,c⟩:=aB c
  refine zF call106 (aFg d2 d4) ?_
  rintro _ h5 ⟨rfl,d5,d6⟩
  iterate 4 refine aIQ ?_
  refine aO (v:=zS p d3.length q) (Eq.trans d1 (congrArg (fun n=>zS p n q) d5)) ?_;obtain ⟨h7,d7,c⟩:=aB c
  refine zF call137 (nF d6 d7) ?_
  rintro _ h8 ⟨d8,d9,rfl,e0⟩
  refine yW ?_;obtain rfl:=zI c
  exact aIK results104 ⟨d8,d9,rfl,e0⟩
 have e2:=aH.nil (α:=Int) d0 2 K
 obtain ⟨i0,e3,c⟩:=aB c
 refine cE e3 (fun s f w=>match s with|(d,k)=>∃ g j,f 1=zS a7 l.length c8/\f 2=str o/\f 3=zP (some ⟨e,0,none⟩)/\f 7=zS g d.length j/\f 11=zS a4 t.E.length c5/\f 12=i64 (t.E.length:Int)/\f 13=i64 k/\aH G K (aJ 2 K g j d::box e 27 m::L) w) ?_ ?_
 ·exact ⟨none,0,rfl,rfl,rfl,rfl,rfl,rfl,rfl,e2⟩
 ·rintro ⟨d,k⟩ J f i1 a e4 ⟨g,j,a3,a5,a6,V,a8,a9,b0,b1⟩
  replace a:uC t l o d k=some J:=a
  unfold uC at a
  refine yW ?_
  rcases aG a with ⟨e5,a⟩|⟨e5,a⟩
  ·refine yW ?_;refine aZ (fun f w=>∃ r y z,nP k r=some J/\f 1=zS a7 l.length c8/\f 2=str o/\f 3=zP (some ⟨e,0,none⟩)/\f 7=zS y r.length z/\f 11=zS a4 t.E.length c5/\f 12=i64 (t.E.length:Int)/\f 13=i64 k/\aH G K (aJ 2 K y z r::box e 27 m::L) w) ?_ ?_
   ·rintro f i2 ⟨r,y,z,a,e6,e7,e8,e9,f0,f1,i3,f2⟩
    unfold nP at a
    refine yW ?_;exact ⟨(r,wr (k+1)),(zI a).symm,y,z,e6,e7,e8,e9,f0,f1,rfl,f2⟩
   refine yW ?_;obtain ⟨b,f3,a⟩:=aB a
   refine yW ?_;obtain ⟨i4,i5,f4⟩:=cR.el (sz:=3) rfl h6 f3
   cases f4
   refine yW ?_;refine bR (vs:=[i64 0,i64 0,i64 0]) zeroValue69 b1 rfl (fun u i6 f5=>(bS (i:=0) (ns:=[i64 b.F,i64 b.B,i64 b.To]) (us:=[i64 b.F,i64 b.B,i64 b.To]) sizeOf69 f5 rfl rfl rfl rfl rfl (cS rfl) rfl rfl (fun f6 (b2:aH G K (box u 69 [i64 b.F,i64 b.B,i64 b.To]::aJ 2 K g j d::box e 27 m::L) f6)=>?_)))
   iterate 3 refine aIQ ?_
   refine cQ (fun f w=>∃ Z,nR d k b Z=some J/\f 1=zS a7 l.length c8/\f 2=str o/\f 3=zP (some ⟨e,0,none⟩)/\f 7=zS g d.length j/\f 9=zP (some ⟨u,0,none⟩)/\f 11=zS a4 t.E.length c5/\f 12=i64 (t.E.length:Int)/\f 13=i64 k/\f 30=zB Z/\aH G K (box u 69 [i64 b.F,i64 b.B,i64 b.To]::aJ 2 K g j d::box e 27 m::L) w) ?_ ?_
   ·rintro f i7 ⟨Z,a,b3,b4,b5,f7,i8,b6,b7,b8,i9,b9⟩
    unfold nR at a
    refine yW ?_
    rcases aG a with ⟨f8,a⟩|⟨f8,a⟩
    ·refine yW ?_;refine bZ (Kt:=K) (xs:=([b.To]:List Int)) (cs:=[i64 b.To]) (vs:=[(0,i64 b.To)]) bY fC rfl rfl b9 rfl (by kernel_rfl) rfl rfl rfl ⟨rfl,trivial⟩ (fun f9 g0 (g1:aH G K (aJ 2 K f9 1 ([b.To]:List Int)::box u 69 [i64 b.F,i64 b.B,i64 b.To]::aJ 2 K g j d::box e 27 m::L) g0)=>?_)
     obtain ⟨c0,g2,a⟩:=aB a
     refine dA (i:=1) bY underlying35 fC rfl rfl g1 rfl (zR _) (zR _) g2 rfl rfl rfl rfl (fun _ h=>h) (fun c1 c3 g3 (g4:aH G K (box u 69 [i64 b.F,i64 b.B,i64 b.To]::aJ 2 K c1 c3 c0::box e 27 m::L) g3)=>(yW ?_));exact ⟨c0,c1,c3,a,b3,b4,b5,rfl,b6,b7,b8,(aH.arr 1 [] g4 rfl)⟩
    ·refine yW ?_;exact ⟨d,g,j,a,b3,b4,b5,f7,b6,b7,b8,(aH.arr 1 [] b9 rfl)⟩
   refine yW ?_;obtain ⟨j0,g5,a⟩:=aB a
   refine yW ?_;obtain ⟨j1,j2,g6⟩:=cR.el (sz:=1) rfl h3 g5
   cases g6
   refine yW ?_
   rcases aG a with ⟨g7,a⟩|⟨g7,a⟩
   ·refine yW ?_;obtain ⟨g8,g9,a⟩:=aB a
    refine zF call105 (iG b2 h9 g9) ?_
    rintro _ j3 ⟨rfl,h0⟩
    refine yW ?_;exact ⟨g8,a,a3,a5,a6,V,rfl,a8,a9,b0,rfl,h0⟩
   ·refine yW ?_;exact ⟨false,a,a3,a5,a6,V,rfl,a8,a9,b0,rfl,b2⟩
  ·refine yW ?_
   have h1:=e4 _ (zI a).symm
   subst h1
   have c:(nO d)=some R:=c
   refine yW ?_;exact ⟨d,g,j,c,V,(aH.arr 2 [0] b1 rfl)⟩
theorem oP {b R:(List Int)} (c:aH G K (L) w) (d:cR K a1 c2 b) (a:aHA b=some R):
  Calls Tryz.prog 103 ([zS a1 b.length c2]:List Value).toArray w (eN fun v w'=>∃ e g,v=zS e R.length g/\aH G K (aJ 2 K e g R::L) w'):=by
 refine zH func103 ?_;unfold aHA at a
 refine yW ?_;refine aC (R_isNil bY rfl rfl) (yW ?_)
 rcases aGK d with ⟨k,l,m⟩|n
 ·subst k;subst l;subst m
  refine aHr rfl ?_
  replace a:(some [])=some R:=a
  refine yW ?_
  have o:=aH.nil (α:=Int) c 2 K
  obtain rfl:=zI a
  exact bK (aW (bM results103 rfl ⟨none,0,rfl,o⟩))
 ·refine aHs (Eq.trans rfl (congrArg zB n)) (yW ?_);refine bZ (Kt:=K) (xs:=([]:List Int)) (cs:=[]) (vs:=[]) bY fC rfl rfl c rfl (by kernel_rfl) rfl rfl rfl trivial (fun q r (t:aH G K (aJ 2 K q 0 ([]:List Int)::L) r)=>(yW ?_))
  obtain ⟨u,x,a⟩:=aB a
  refine iK (i:=0) bY underlying35 fC rfl rfl t rfl (zR _) d x rfl rfl rfl rfl (fun h j y (z:aH G K (aJ 2 K h j u::L) y)=>(yW ?_));obtain rfl:=zI a
  exact aIK results103 ⟨h,j,rfl,z⟩
theorem uU {t:cO} {b3 R:(List Int)} (hs:aH G K (L) w) (h3:cR K a1 c2 t.L) (h6:cR K a4 c5 t.E) (h9:cR K a7 c8 b3) (c:pE t b3=some R):
  Calls Tryz.prog 68 ([zA (zCa t a1 c2 a4 c5),zS a7 b3.length c8]:List Value).toArray w (eN fun v w'=>∃ c1 c3,v=zS c1 R.length c3/\aH G K (aJ 2 K c1 c3 R::L) w'):=by
 let j:=(zC t a1 c2 a4 c5)
 refine zH func68 ?_;unfold pE at c
 refine yW ?_;refine fS (v:=zA (zCa t a1 c2 a4 c5)) (vs:=j) hs rfl rfl (fun d l3 e6=>(yW ?_))
 obtain ⟨l4,e7,c⟩:=aB c
 refine zF call103 (oP e6 h9 e7) ?_
 rintro _ l5 ⟨e8,e9,rfl,f0⟩
 refine yW ?_;refine aZ (fun f w=>∃ a0 l m,kW a0=some R/\f 5=zS l a0.length m/\aH G K (aJ 2 K l m a0::L) w) ?_ ?_
 ·rintro f l6 ⟨a0,l,m,c,f1,f2⟩
  unfold kW at c
  refine yW ?_;obtain ⟨f3,f4,c⟩:=aB c
  refine zF call106 (aFg f2 f4) ?_
  rintro _ l7 ⟨rfl,f5,f6⟩
  iterate 4 refine aIQ ?_
  refine aO (v:=zS l f3.length m) (Eq.trans f1 (congrArg (fun n=>zS l n m) f5)) (yW ?_);obtain rfl:=zI c
  exact aIK results68 ⟨l,m,rfl,f6⟩
 obtain ⟨l8,f8,c⟩:=aB c
 refine cE f8 (fun s f w=>match s with|(o,e)=>∃ y c48,f 2=zP (some ⟨d,0,none⟩)/\f 5=zS y o.length c48/\f 6=i64 e/\aH G K (aJ 2 K y c48 o::box d 27 j::L) w) ?_ ?_
 ·exact ⟨e8,e9,rfl,rfl,rfl,f0⟩
 ·rintro ⟨o,e⟩ a2 f l9 a f9 ⟨y,c48,g0,c4,g1,c6⟩
  replace a:pD t o e=some a2:=a
  unfold pD at a
  refine yW ?_
  rcases aG a with ⟨g2,a⟩|⟨g2,a⟩
  ·refine yW ?_;refine aZ (fun f w=>∃ z a3 a5,pB e z=some a2/\f 2=zP (some ⟨d,0,none⟩)/\f 5=zS a3 z.length a5/\f 6=i64 e/\aH G K (aJ 2 K a3 a5 z::box d 27 j::L) w) ?_ ?_
   ·rintro f m0 ⟨z,a3,a5,a,g3,g4,m1,g5⟩
    unfold pB at a
    refine yW ?_;exact ⟨(z,wr (e+1)),(zI a).symm,a3,a5,g3,g4,rfl,g5⟩
   refine yW ?_;obtain ⟨m2,b4,c7,g6,g7⟩:=aH.lendS (i:=0) c6 (zR _) rfl
   obtain ⟨c9,J,m3,d0,g8⟩:=aH.lendB (i:=0) g6 rfl
   refine dV (C:=fun w'=>∃ L',aH G c9 L' w') [(0,0),(1,0),(2,0),(3,0),(4,0),(8,0),(5,1),(6,1),(7,0)] bV (by kernel_rfl) (fun _ hg=>⟨_,aH.mono d0 hg⟩) (fun m4 g9=>?_)
   have h0:=aH.mono d0 g9
   refine yW ?_;obtain ⟨a6,b5,a⟩:=aB a
   have h1:=aCU (c7.mono J) b5
   refine bX rfl (fun _ _=>dB bY rfl h1 rfl rfl rfl b5) ?_;obtain ⟨m5,m6,h2⟩:=cR.el (sz:=1) rfl (c7.mono J) b5
   cases h2
   refine yW ?_;refine gX rfl (bZ (Kt:=K) (xs:=([a6]:List Int)) (cs:=[i64 a6]) (vs:=[(0,i64 a6)]) bY fC rfl rfl h0 rfl (by kernel_rfl) rfl rfl rfl ⟨rfl,trivial⟩ (fun h4 h5 (d1:aH G c9 (aJ 2 K h4 1 ([a6]:List Int)::L) h5)=>(aX (aA ⟨⟨_,d1⟩,?_⟩))))
   refine gX rfl ?_;obtain ⟨m7,d2,h7,h8,i0⟩:=aH.lendS (i:=0) d1 (zL b4 J) rfl
   obtain ⟨g,i1,a⟩:=aB a
   refine zF call104 (qY h8 (h3.mono (zL (zL b4 J) d2)) (h6.mono (zL (zL b4 J) d2)) h7 i1) ?_
   rintro _ m8 ⟨p,q,rfl,i2⟩
   have d3:=i0 _ _ i2
   refine aX (aA ⟨⟨_,d3⟩,?_⟩)
   refine yW ?_;refine gZ ?_
   have i3:=g8 _ _ d3
   have i4:=g7 _ _ i3
   refine yW ?_;refine aZ (fun f w=>∃ V a8 a9,kX e V=some a2/\f 2=zP (some ⟨d,0,none⟩)/\f 5=zS a8 V.length a9/\f 6=i64 e/\aH G K (aJ 2 K a8 a9 V::box d 27 j::L) w) ?_ ?_
   ·rintro f m9 ⟨V,a8,a9,a,i5,i6,i7,i8⟩
    unfold kX at a
    refine yW ?_;exact ⟨V,a8,a9,a,i5,i6,i7,i8⟩
   obtain ⟨n0,i9,a⟩:=aB a
   refine cE i9 (fun s f w=>match s with|(k,r)=>∃ u x,f 2=zP (some ⟨d,0,none⟩)/\f 5=zS u k.length x/\f 6=i64 e/\f 23=zS p g.length q/\f 24=i64 (g.length:Int)/\f 25=i64 r/\aH G K (aJ 2 K u x k::box d 27 j::aJ 2 K p q g::L) w) ?_ ?_
   ·exact ⟨y,c48,g0,c4,g1,rfl,rfl,rfl,(aH.arr 3 [0,1] i4 rfl)⟩
   ·rintro ⟨k,r⟩ d4 f n1 b j0 ⟨u,x,b6,d5,b7,b8,d6,b9,c0⟩
    replace b:pC g k r=some d4:=b
    unfold pC at b
    refine yW ?_
    rcases aG b with ⟨j1,b⟩|⟨j1,b⟩
    ·refine yW ?_;refine aZ (fun f w=>∃ Z b0 b1,kY r Z=some d4/\f 2=zP (some ⟨d,0,none⟩)/\f 5=zS b0 Z.length b1/\f 6=i64 e/\f 23=zS p g.length q/\f 24=i64 (g.length:Int)/\f 25=i64 r/\aH G K (aJ 2 K b0 b1 Z::box d 27 j::aJ 2 K p q g::L) w) ?_ ?_
     ·rintro f n2 ⟨Z,b0,b1,b,j2,j3,j4,j5,j6,n3,j7⟩
      unfold kY at b
      refine yW ?_;exact ⟨(Z,wr (r+1)),(zI b).symm,b0,b1,j2,j3,j4,j5,j6,rfl,j7⟩
     refine yW ?_;obtain ⟨b2,d7,b⟩:=aB b
     have j8:=cU c0 (i:=2) rfl d7
     refine aC (dB bY rfl j8 b8 rfl b9 d7) (yW ?_);obtain ⟨n4,n5,j9,k0,k1⟩:=aH.lendS (i:=0) c0 (zR _) rfl
     obtain ⟨n6,k2,b⟩:=aB b
     refine zF call105 (iG k0 j9 k2) ?_
     rintro _ n7 ⟨rfl,k3⟩
     have d8:=k1 _ _ k3
     refine yW ?_
     rcases aG b with ⟨k4,b⟩|⟨k4,b⟩
     ·refine yW ?_;refine bZ (Kt:=K) (xs:=([b2]:List Int)) (cs:=[i64 b2]) (vs:=[(0,i64 b2)]) bY fC rfl rfl d8 rfl (by kernel_rfl) rfl rfl rfl ⟨rfl,trivial⟩ (fun k5 k6 (k7:aH G K (aJ 2 K k5 1 ([b2]:List Int)::aJ 2 K u x k::box d 27 j::aJ 2 K p q g::L) k6)=>?_)
      obtain ⟨d9,k8,b⟩:=aB b
      refine dA (i:=0) bY underlying35 fC rfl rfl k7 rfl (zR _) (zR _) k8 rfl rfl rfl rfl (fun _ h=>h) (fun e0 e1 k9 (l0:aH G K (aJ 2 K e0 e1 d9::box d 27 j::aJ 2 K p q g::L) k9)=>(yW ?_));exact ⟨d9,e0,e1,b,b6,rfl,b7,b8,d6,b9,l0⟩
     ·refine yW ?_;exact ⟨k,u,x,b,b6,d5,b7,b8,d6,b9,d8⟩
    ·refine yW ?_
     have l1:=j0 _ (zI b).symm
     subst l1
     have a:(kX e k)=some a2:=a
     refine yW ?_;exact ⟨k,u,x,a,b6,d5,b7,(aH.arr 3 [0,1] c0 rfl)⟩
  ·refine yW ?_
   have l2:=f9 _ (zI a).symm
   subst l2
   have c:(kW o)=some R:=c
   refine yW ?_;exact ⟨o,y,c48,c,c4,(aH.arr 2 [0] c6 rfl)⟩
end Gv
namespace Gv
open Go.Value renaming slice→zS,pointer→zP,agg→zA,map→zM
open Option.some renaming inj→zI
open Gv.Hp renaming le_trans→zL,le_refl→zR
open Go Go.Proofs Go.Proofs.Tryz
set_option maxRecDepth 20000
set_option maxHeartbeats 40000000
variable {G:uA} {K Kf:Hp} {L:List iU} {w:World} {a1 a4 a7 a2 a5 a6 a9 a11 a14 a17 a20 a10:Option Addr} {c2 c5 c8 b1 c3 c6 b4 b5 c7 c10 c18 c21 c11:Nat}
theorem kA {d R:(List Edge)} (hs:aH G K (aJ 69 K a1 c2 d::L) w) (c:eZ d=some R):
  Calls Tryz.prog 116 ([zS a1 d.length c2]:List Value).toArray w (eN fun v w'=>∃ a8 a9,v=zS a8 R.length a9/\aH G K (aJ 69 K a8 a9 R::L) w'):=by
 refine zH func116 ?_;unfold eZ at c
 refine yW ?_
 rcases aG c with ⟨c3,c⟩|⟨c3,c⟩
 ·refine yW ?_;obtain rfl:=zI c
  exact bK (aW (bM results116 rfl ⟨a1,c2,rfl,hs⟩))
 ·refine yW ?_;refine aZ (fun f w=>dP d=some R/\f 0=zS a1 d.length c2/\aH G K (aJ 69 K a1 c2 d::L) w) ?_ ?_
  ·rintro f w6 ⟨c,e5,d8⟩
   unfold dP at c
   refine yW ?_;obtain rfl:=zI c
   exact aIK results116 ⟨a1,c2,rfl,d8⟩
  obtain ⟨h2,e0,c⟩:=aB c
  refine cE e0 (fun (g:Int) f w=>f 0=zS a1 d.length c2/\f 3=i64 g/\aH G K (aJ 69 K a1 c2 d::L) w) ?_ ?_
  ·exact ⟨rfl,rfl,hs⟩
  ·rintro g r f h3 a b0 ⟨a2,b1,l⟩
   replace a:eL d g=some r:=a
   unfold eL at a
   refine yW ?_
   rcases aG a with ⟨e1,a⟩|⟨e1,a⟩
   ·refine yW ?_;refine aZ (fun f w=>eJ g=some r/\f 0=zS a1 d.length c2/\f 3=i64 g/\aH G K (aJ 69 K a1 c2 d::L) w) ?_ ?_
    ·rintro f h4 ⟨a,e2,h5,e3⟩
     unfold eJ at a
     refine yW ?_;exact ⟨wr (g+1),(zI a).symm,e2,rfl,e3⟩
    refine yW ?_;refine dF (C:=fun w'=>aH G K (aJ 69 K a1 c2 d::L) w') bV (by kernel_rfl) (aH.mono l (dG.drew _)) (yW ?_)
    obtain ⟨e4,b2,a⟩:=aB a
    have m:=cU l (i:=0) rfl b2
    refine aU (fun _ l=>dB cI rfl m rfl rfl rfl b2) (yW ?_);obtain ⟨e6,e7,a⟩:=aB a
    refine aU (fun _ l=>dB cI rfl m rfl rfl rfl e7) (yW ?_);refine aU (fun _ l=>R_eqlG (eq_69 (x:=e4) (y:=e6)) rfl rfl) (dI (fun h6 a3=>(yW ?_)))
    rcases aG a with ⟨c45,a⟩|⟨c45,a⟩
    ·refine yW ?_;obtain ⟨a4,u,a⟩:=aB a
     have z:=mH a3 (i:=0) rfl
     obtain ⟨b3,b4,J⟩:=Cut.ex 3 a1 c2 g
     refine aC (wU cI z J rfl rfl rfl u) (yW ?_);refine aZ (fun f w=>∃ V Z,dQ V Z=some r/\f 0=zS a1 V.length c2/\f 3=i64 Z/\aH G K (aJ 69 K a1 c2 V::L) w) ?_ ?_
     ·rintro f h7 ⟨V,Z,a,e8,h8,b5⟩
      unfold dQ at a
      refine yW ?_;obtain ⟨h9,e9,a⟩:=aB a
      have f0:=mH b5 (i:=0) rfl
      obtain ⟨i0,i1,b6⟩:=Cut.ex 3 a1 c2 Z
      refine aC (wU cI f0 b6 rfl rfl rfl e9) ?_;obtain ⟨b7,b8,a⟩:=aB a
      refine aEx cI fG rfl b5 (i:=0) rfl b6 rfl rfl b8 (fun b9 (c0:aH G K (aJ 69 K a1 c2 b7::L) b9)=>?_)
      iterate 4 refine aIQ ?_
      refine aO (v:=zS a1 b7.length c2) (Eq.trans e8 (congrArg (fun n=>zS a1 n c2) (aGR b8))) (yW ?_);obtain ⟨c1,c4,a⟩:=aB a
      have f1:=mH c0 (i:=0) rfl
      obtain ⟨c5,c6,c7⟩:=Cut.ex 3 a1 c2 0
      refine aC (aFO cI f1 c7 rfl rfl rfl c4) (yW ?_);refine bK (cA (aW (aW (aW ?_))))
      have f2:=b0 _ (zI a).symm
      subst f2
      have c:(some c1)=some R:=c
      have f3:aH G K (aJ 69 K c5 c6 c1::L) b9:=aH.cutP c0 (i:=0) rfl c4 c7
      obtain rfl:=zI c
      exact cA (aW (aW (bM results116 rfl ⟨c5,c6,rfl,f3⟩)))
     obtain ⟨i2,f5,a⟩:=aB a
     refine cE f5 (fun s f w=>match s with|(j,k,o)=>f 0=zS a1 j.length c2/\f 3=i64 k/\f 4=zS b3 a4.length b4/\f 5=i64 o/\aH G K (aJ 69 K a1 c2 j::L) w) ?_ ?_
     ·exact ⟨a2,b1,rfl,rfl,a3⟩
     ·rintro ⟨j,k,o⟩ c8 f i3 b f6 ⟨a5,c9,d0,d1,p⟩
      replace b:eK g a4 j k o=some c8:=b
      unfold eK at b
      refine yW ?_
      rcases aG b with ⟨f7,b⟩|⟨f7,b⟩
      ·refine yW ?_;refine aZ (fun f w=>∃ q a0,dR o q a0=some c8/\f 0=zS a1 q.length c2/\f 3=i64 a0/\f 4=zS b3 a4.length b4/\f 5=i64 o/\aH G K (aJ 69 K a1 c2 q::L) w) ?_ ?_
       ·rintro f i4 ⟨q,a0,b,f8,f9,g0,i5,g1⟩
        unfold dR at b
        refine yW ?_;exact ⟨(q,a0,wr (o+1)),(zI b).symm,f8,f9,g0,rfl,g1⟩
       refine yW ?_;refine dF (C:=fun w'=>aH G K (aJ 69 K a1 c2 j::L) w') bV (by kernel_rfl) (aH.mono p (dG.drew _)) (yW ?_)
       obtain ⟨i6,d2,b⟩:=aB b
       obtain ⟨e,g2,b⟩:=aB b
       refine aU (fun _ p=>aEi cI m J u z rfl rfl rfl d2 rfl) (yW ?_);obtain ⟨i7,g3,b⟩:=aB b
       obtain ⟨g4,i8,b⟩:=aB b
       refine aU (fun _ p=>aEi cI m J u z rfl rfl rfl g3 rfl) (yW ?_);refine aU (fun _ p=>R_neqG (eq_69 (x:=e) (y:=g4)) rfl rfl) (dI (fun i9 a6=>(yW ?_)))
       rcases aG b with ⟨g5,b⟩|⟨g5,b⟩
       ·refine yW ?_;refine aC (aEi cI m J u z rfl rfl rfl d2 rfl) (aC (wR (t:=0) (vs:=[i64 e.F,i64 e.B,i64 e.To]) aIp a6 (i:=0) rfl g2 rfl rfl rfl rfl) ?_)
        obtain ⟨j0,d3,b⟩:=aB b
        refine aC (dB cI rfl m rfl rfl rfl d3) ?_;obtain ⟨d4,d5,b⟩:=aB b
        refine iH (i:=0) (t:=0) (ns:=[i64 e.F,i64 e.B,i64 e.To]) (e':=(⟨e.F,e.B,e.To⟩:Edge)) sizeOf69 a6 rfl (zR _) rfl rfl rfl d3 d5 rfl rfl (cS rfl) rfl (fun cs h=>by cases h;rfl) (fun g6 (g7:aH G K (aJ 69 K a1 c2 d4::L) g6)=>(yW ?_));exact ⟨d4,wr (k+1),b,(Eq.trans a5 (congrArg (fun n=>zS a1 n c2) (gN d5))),rfl,d0,d1,g7⟩
       ·refine yW ?_;exact ⟨j,k,b,a5,c9,d0,d1,a6⟩
      ·refine yW ?_
       have g8:=f6 _ (zI b).symm
       subst g8
       have a:(dQ j k)=some r:=a
       refine yW ?_;exact ⟨j,k,a,a5,c9,p⟩
    ·refine yW ?_;exact ⟨a,a2,b1,a3⟩
   ·refine yW ?_
    have g9:=b0 _ (zI a).symm
    subst g9
    have c:(dP d)=some R:=c
    refine yW ?_;exact ⟨c,a2,l⟩
theorem mC {d R:(List bD)} (hs:aH G K (aJ 9 K a1 c2 d::L) w) (c:gF d=some R):
  Calls Tryz.prog 114 ([zS a1 d.length c2]:List Value).toArray w (eN fun v w'=>∃ a5 a6,v=zS a5 R.length a6/\aH G K (aJ 9 K a5 a6 R::L) w'):=by
 refine zH func114 ?_;unfold gF at c
 refine yW ?_
 rcases aG c with ⟨c3,c⟩|⟨c3,c⟩
 ·refine yW ?_;obtain rfl:=zI c
  exact bK (aW (bM results114 rfl ⟨a1,c2,rfl,hs⟩))
 ·refine yW ?_;refine aZ (fun f w=>eA d=some R/\f 0=zS a1 d.length c2/\aH G K (aJ 9 K a1 c2 d::L) w) ?_ ?_
  ·rintro f w6 ⟨c,e5,d6⟩
   unfold eA at c
   refine yW ?_;obtain rfl:=zI c
   exact aIK results114 ⟨a1,c2,rfl,d6⟩
  obtain ⟨g7,d8,c⟩:=aB c
  refine cE d8 (fun (e:Int) f w=>f 0=zS a1 d.length c2/\f 3=i64 e/\aH G K (aJ 9 K a1 c2 d::L) w) ?_ ?_
  ·exact ⟨rfl,rfl,hs⟩
  ·rintro e p f g8 a a7 ⟨V,a8,m⟩
   replace a:fQ d e=some p:=a
   unfold fQ at a
   refine yW ?_
   rcases aG a with ⟨d9,a⟩|⟨d9,a⟩
   ·refine yW ?_;refine aZ (fun f w=>fO e=some p/\f 0=zS a1 d.length c2/\f 3=i64 e/\aH G K (aJ 9 K a1 c2 d::L) w) ?_ ?_
    ·rintro f g9 ⟨a,e0,h0,e1⟩
     unfold fO at a
     refine yW ?_;exact ⟨wr (e+1),(zI a).symm,e0,rfl,e1⟩
    refine yW ?_;refine dF (C:=fun w'=>aH G K (aJ 9 K a1 c2 d::L) w') bV (by kernel_rfl) (aH.mono m (dG.drew _)) (yW ?_)
    obtain ⟨h1,a9,a⟩:=aB a
    have k:=cU m (i:=0) rfl a9
    refine aU (fun _ m=>dB cF rfl k rfl rfl rfl a9) (yW ?_);obtain ⟨h2,e2,a⟩:=aB a
    refine aU (fun _ m=>dB cF rfl k rfl rfl rfl e2) (yW ?_);refine dI (fun h3 Z=>(yW ?_))
    rcases aG a with ⟨c45,a⟩|⟨c45,a⟩
    ·refine yW ?_;obtain ⟨a0,q,a⟩:=aB a
     have r:=mH Z (i:=0) rfl
     obtain ⟨b0,b1,u⟩:=Cut.ex 1 a1 c2 e
     refine aC (wU cF r u rfl rfl rfl q) (yW ?_);refine aZ (fun f w=>∃ x y,eB x y=some p/\f 0=zS a1 x.length c2/\f 3=i64 y/\aH G K (aJ 9 K a1 c2 x::L) w) ?_ ?_
     ·rintro f h4 ⟨x,y,a,e3,h5,b2⟩
      unfold eB at a
      refine yW ?_;obtain ⟨h6,e4,a⟩:=aB a
      have e6:=mH b2 (i:=0) rfl
      obtain ⟨h7,h8,b3⟩:=Cut.ex 1 a1 c2 y
      refine aC (wU cF e6 b3 rfl rfl rfl e4) ?_;obtain ⟨b4,b5,a⟩:=aB a
      refine aEx cF fL rfl b2 (i:=0) rfl b3 rfl rfl b5 (fun b6 (b7:aH G K (aJ 9 K a1 c2 b4::L) b6)=>?_)
      iterate 4 refine aIQ ?_
      refine aO (v:=zS a1 b4.length c2) (Eq.trans e3 (congrArg (fun n=>zS a1 n c2) (aGR b5))) (yW ?_);obtain ⟨b8,b9,a⟩:=aB a
      have e7:=mH b7 (i:=0) rfl
      obtain ⟨c0,c1,c4⟩:=Cut.ex 1 a1 c2 0
      refine aC (aFO cF e7 c4 rfl rfl rfl b9) (yW ?_);refine bK (cA (aW (aW (aW ?_))))
      have e8:=a7 _ (zI a).symm
      subst e8
      have c:(some b8)=some R:=c
      have e9:aH G K (aJ 9 K c0 c1 b8::L) b6:=aH.cutP b7 (i:=0) rfl b9 c4
      obtain rfl:=zI c
      exact cA (aW (aW (bM results114 rfl ⟨c0,c1,rfl,e9⟩)))
     obtain ⟨h9,f1,a⟩:=aB a
     refine cE f1 (fun s f w=>match s with|(g,j,l)=>f 0=zS a1 g.length c2/\f 3=i64 j/\f 4=zS b0 a0.length b1/\f 5=i64 l/\aH G K (aJ 9 K a1 c2 g::L) w) ?_ ?_
     ·exact ⟨V,a8,rfl,rfl,Z⟩
     ·rintro ⟨g,j,l⟩ c5 f i0 b f2 ⟨a2,c6,c7,c8,z⟩
      replace b:fP e a0 g j l=some c5:=b
      unfold fP at b
      refine yW ?_
      rcases aG b with ⟨f3,b⟩|⟨f3,b⟩
      ·refine yW ?_;refine aZ (fun f w=>∃ o J,eC l o J=some c5/\f 0=zS a1 o.length c2/\f 3=i64 J/\f 4=zS b0 a0.length b1/\f 5=i64 l/\aH G K (aJ 9 K a1 c2 o::L) w) ?_ ?_
       ·rintro f i1 ⟨o,J,b,f4,f5,f6,i2,f7⟩
        unfold eC at b
        refine yW ?_;exact ⟨(o,J,wr (l+1)),(zI b).symm,f4,f5,f6,rfl,f7⟩
       refine yW ?_;refine dF (C:=fun w'=>aH G K (aJ 9 K a1 c2 g::L) w') bV (by kernel_rfl) (aH.mono z (dG.drew _)) (yW ?_)
       obtain ⟨i3,c9,b⟩:=aB b
       obtain ⟨d0,f8,b⟩:=aB b
       refine aU (fun _ z=>aEi cF k u q r rfl rfl rfl c9 rfl) (yW ?_);obtain ⟨i4,f9,b⟩:=aB b
       obtain ⟨i5,i6,b⟩:=aB b
       refine aU (fun _ z=>aEi cF k u q r rfl rfl rfl f9 rfl) (yW ?_);refine dI (fun i7 a3=>(yW ?_))
       rcases aG b with ⟨g0,b⟩|⟨g0,b⟩
       ·refine yW ?_;refine aC (aEi cF k u q r rfl rfl rfl c9 rfl) (aC (eO (t:=0) aIB a3 (i:=0) rfl f8 rfl rfl rfl) ?_)
        obtain ⟨i8,d1,b⟩:=aB b
        refine aC (dB cF rfl k rfl rfl rfl d1) ?_;obtain ⟨d2,d3,b⟩:=aB b
        refine iH (i:=0) (t:=0) (ns:=[str d0]) (e':=(d0:bD)) sizeOf9 a3 rfl (zR _) rfl rfl rfl d1 d3 rfl rfl (cS rfl) rfl (fun cs h=>by cases h;rfl) (fun g1 (g2:aH G K (aJ 9 K a1 c2 d2::L) g1)=>(yW ?_));exact ⟨d2,wr (j+1),b,(Eq.trans a2 (congrArg (fun n=>zS a1 n c2) (gN d3))),rfl,c7,c8,g2⟩
       ·refine yW ?_;exact ⟨g,j,b,a2,c6,c7,c8,a3⟩
      ·refine yW ?_
       have g3:=f2 _ (zI b).symm
       subst g3
       have a:(eB g j)=some p:=a
       refine yW ?_;exact ⟨g,j,a,a2,c6,z⟩
    ·refine yW ?_;exact ⟨a,V,a8,Z⟩
   ·refine yW ?_
    have g4:=a7 _ (zI a).symm
    subst g4
    have c:(eA d)=some R:=c
    refine yW ?_;exact ⟨c,V,m⟩
theorem nG {c:(List bD)} {e:bD} {R:Int} (i:aH G K (L) w) (j:cR K a1 c2 c) (b:gP c e=some R):
  Calls Tryz.prog 102 ([zS a1 c.length c2,str e]:List Value).toArray w (eN fun v w'=>v=i64 R/\aH G K (L) w'):=by
 refine zH func102 ?_;unfold gP at b
 refine yW ?_;refine aZ (fun f w=>eM=some R/\aH G K (L) w) ?_ ?_
 ·rintro f V ⟨b,k⟩
  unfold eM at b
  refine yW ?_;obtain rfl:=zI b
  exact aIK results102 ⟨rfl,k⟩
 obtain ⟨Z,m,b⟩:=aB b
 refine cE m (fun (d:Int) f w=>f 0=zS a1 c.length c2/\f 1=str e/\f 7=i64 (c.length:Int)/\f 8=i64 d/\aH G K (L) w) ?_ ?_
 ·exact ⟨rfl,rfl,rfl,rfl,i⟩
 ·rintro d n f a0 a h ⟨o,p,q,a2,g⟩
  replace a:gB c e d=some n:=a
  unfold gB at a
  refine yW ?_
  rcases aG a with ⟨r,a⟩|⟨r,a⟩
  ·refine yW ?_;refine cT (yW ?_)
   obtain ⟨a3,t,a⟩:=aB a
   refine yW ?_;obtain ⟨a4,a5,u⟩:=cR.el (sz:=1) rfl j t
   cases u
   refine yW ?_
   rcases aG a with ⟨x,a⟩|⟨x,a⟩
   ·refine yW ?_;refine bK (cA (aW (aW ?_)))
    have y:=h _ (zI a).symm
    subst y
    have b:(some d)=some R:=b
    obtain rfl:=zI b
    exact cA (aW (aW (bM results102 rfl ⟨rfl,g⟩)))
   ·refine yW ?_;exact ⟨wr (d+1),(zI a).symm,o,p,q,rfl,g⟩
  ·refine yW ?_
   have J:=h _ (zI a).symm
   subst J
   have b:(eM)=some R:=b
   refine yW ?_;exact ⟨b,g⟩
theorem mD {d e:Int} {labels:(List bD)} {arcs:(List gV)} {R:cO} (hs:aH G K (L) w) (h3:cR K a1 c2 labels) (h6:cR K a4 c5 arcs) (j:aGN d e labels arcs=some R):
  Calls Tryz.prog 74 ([i64 d,i64 e,zS a1 labels.length c2,zS a4 arcs.length c5]:List Value).toArray w (eN fun v w'=>∃ b4 b5 b6 b8,v=zA (zCa R b4 b5 b6 b8)/\aH G K (aJ 9 K b4 b5 R.L::aJ 69 K b6 b8 R.E::L) w'):=by
 let l:=zG
 refine zH func74 ?_;unfold aGN at j
 refine yW ?_;refine bR (vs:=l) zeroValue27 hs rfl (fun k w8 d6=>(yW ?_))
 refine bZ (Kt:=K) (xs:=([([116,97,117]:bD)]:List bD)) (cs:=[str ([116,97,117]:bD)]) (vs:=[(0,str ([116,97,117]:bD))]) cF fL rfl rfl d6 rfl (by kernel_rfl) rfl rfl rfl ⟨rfl,trivial⟩ (fun d7 d8 (d9:aH G K (aJ 9 K d7 1 ([([116,97,117]:bD)]:List bD)::box k 27 l::L) d8)=>(yW ?_));obtain ⟨x,e0,j⟩:=aB j
 refine iK (i:=0) cF underlying24 fL rfl rfl d9 rfl (zR _) h3 e0 rfl rfl rfl rfl (fun o p e1 (e2:aH G K (aJ 9 K o p x::box k 27 l::L) e1)=>(aC (dD (vs:=[(0,i64 d),(1,i64 e),(2,zS o x.length p)]) (cs:=[i64 d,i64 e,zS o x.length p,zS none 0 0]) jT rfl (by kernel_rfl)) (bR (vs:=l) zeroValue27 e2 rfl (fun n k1 e3=>(bS (i:=0) (ns:=[i64 d,i64 e,zS o x.length p,zS none 0 0]) (us:=[i64 d,i64 e,zS o x.length p,zS none 0 0]) sizeOf27 e3 rfl rfl rfl rfl rfl (cS rfl) rfl rfl (fun b9 (e4:aH G K (box n 27 [i64 d,i64 e,zS o x.length p,zS none 0 0]::aJ 9 K o p x::box k 27 l::L) b9)=>(yW ?_)))))))
 have e5:aH G K (aJ 9 K o p x::box n 27 [i64 d,i64 e,zS o x.length p,zS none 0 0]::box k 27 l::L) b9:=(aH.arr 2 [1,0] e4 rfl)
 obtain ⟨c0,e6,j⟩:=aB j
 refine zF call112 (lib_SortStr e5 e6) ?_
 rintro _ e7 ⟨rfl,e8,e9⟩
 have f0:aH G K (aJ 9 K o p c0::box n 27 [i64 d,i64 e,zS o c0.length p,zS none 0 0]::box k 27 l::L) e7:=by rw [←e8];exact e9
 refine yW ?_;obtain ⟨a,f1,j⟩:=aB j
 refine zF call114 (mC f0 f1) ?_
 rintro _ k2 ⟨b,c,rfl,f2⟩
 refine yW ?_;refine bS (i:=1) (ns:=[zS b a.length c]) (us:=[i64 d,i64 e,zS b a.length c,zS none 0 0]) sizeOf24 f2 rfl rfl rfl rfl rfl (cS rfl) rfl rfl (fun f3 (f4:aH G K (aJ 9 K b c a::box n 27 [i64 d,i64 e,zS b a.length c,zS none 0 0]::box k 27 l::L) f3)=>(yW ?_))
 refine aZ (fun f w=>∃ a8 a6 a7,aEn d e a a8=some R/\f 8=zP (some ⟨k,0,none⟩)/\f 9=zP (some ⟨n,0,none⟩)/\aH G K (aJ 69 K a6 a7 a8::aJ 9 K b c a::box n 27 [i64 d,i64 e,zS b a.length c,zS a6 a8.length a7]::box k 27 l::L) w) ?_ ?_
 ·rintro f k3 ⟨a8,a6,a7,j,c1,k4,f5⟩
  unfold aEn at j
  refine yW ?_;obtain ⟨c3,f6,j⟩:=aB j
  refine zF call115 (lib_SortEdge f5 f6) ?_
  rintro _ f7 ⟨rfl,f8,f9⟩
  have g0:aH G K (aJ 69 K a6 a7 c3::aJ 9 K b c a::box n 27 [i64 d,i64 e,zS b a.length c,zS a6 c3.length a7]::box k 27 l::L) f7:=by rw [←f8];exact f9
  refine yW ?_;obtain ⟨u,g1,j⟩:=aB j
  refine zF call116 (kA g0 g1) ?_
  rintro _ k5 ⟨q,r,rfl,g2⟩
  refine yW ?_;refine bS (i:=2) (ns:=[zS q u.length r]) (us:=[i64 d,i64 e,zS b a.length c,zS q u.length r]) sizeOf25 g2 rfl rfl rfl rfl rfl (cS rfl) rfl rfl (fun g3 (g4:aH G K (aJ 69 K q r u::aJ 9 K b c a::box n 27 [i64 d,i64 e,zS b a.length c,zS q u.length r]::box k 27 l::L) g3)=>(yW ?_))
  refine bS (i:=3) (ns:=[i64 d,i64 e,zS b a.length c,zS q u.length r]) (us:=[i64 d,i64 e,zS b a.length c,zS q u.length r]) sizeOf27 g4 rfl c1 rfl rfl rfl (cS rfl) rfl rfl (fun g5 (c4:aH G K (aJ 69 K q r u::aJ 9 K b c a::box n 27 [i64 d,i64 e,zS b a.length c,zS q u.length r]::box k 27 [i64 d,i64 e,zS b a.length c,zS q u.length r]::L) g5)=>(yW ?_));obtain rfl:=zI j
  exact bK (mG results74 (dM (vs:=[i64 d,i64 e,zS b a.length c,zS q u.length r]) rfl cZ c4 (i:=3) rfl c1 rfl) ⟨b,c,q,r,rfl,(aH.arr 4 [1,0] c4 rfl)⟩)
 have g7:=aH.nil (α:=Edge) f4 69 K
 obtain ⟨k6,g8,j⟩:=aB j
 refine cE g8 (fun s f w=>match s with|(y,a9)=>∃ J V,f 8=zP (some ⟨k,0,none⟩)/\f 9=zP (some ⟨n,0,none⟩)/\f 25=zS a4 arcs.length c5/\f 26=i64 (arcs.length:Int)/\f 27=i64 a9/\aH G K (aJ 69 K J V y::aJ 9 K b c a::box n 27 [i64 d,i64 e,zS b a.length c,zS J y.length V]::box k 27 l::L) w) ?_ ?_
 ·exact ⟨none,0,rfl,rfl,rfl,rfl,rfl,g7⟩
 ·rintro ⟨y,a9⟩ g9 f k7 m h0 ⟨J,V,c6,b0,h1,h2,k8,c7⟩
  replace m:aFU arcs a y a9=some g9:=m
  unfold aFU at m
  refine yW ?_
  rcases aG m with ⟨h4,m⟩|⟨h4,m⟩
  ·refine yW ?_;refine cT (yW ?_)
   obtain ⟨g,h5,m⟩:=aB m
   refine yW ?_;obtain ⟨k9,l0,h7⟩:=cR.el (sz:=3) rfl h6 h5
   cases h7
   refine yW ?_;refine bR (vs:=[i64 0,str ([]:bD),i64 0]) zeroValue141 c7 rfl (fun c8 l1 h8=>(bS (i:=0) (ns:=[i64 g.from_,str g.label,i64 g.to_]) (us:=[i64 g.from_,str g.label,i64 g.to_]) sizeOf141 h8 rfl rfl rfl rfl rfl (cS rfl) rfl rfl (fun h9 (i0:aH G K (box c8 141 [i64 g.from_,str g.label,i64 g.to_]::aJ 69 K J V y::aJ 9 K b c a::box n 27 [i64 d,i64 e,zS b a.length c,zS J y.length V]::box k 27 l::L) h9)=>(yW ?_))))
   obtain ⟨l2,b1,b2,i1,i2⟩:=aH.lendB (i:=0) i0 rfl
   obtain ⟨b3,Z,i3,c9,i4⟩:=aH.lendB (i:=2) i1 rfl
   refine dV (C:=fun w'=>∃ L',aH G b3 L' w') [(0,0),(1,0),(2,0),(3,0),(4,0),(5,0),(6,0),(7,0),(9,0),(10,0),(8,1),(11,0),(12,1),(13,1),(14,0),(15,2)] bV (by kernel_rfl) (fun _ hg=>⟨_,aH.mono c9 hg⟩) (fun l3 i5=>?_)
   have z:=aH.mono c9 i5
   refine yW ?_;refine bX rfl (fun _ ⟨_,z⟩=>bE (t:=0) cN z (b2.mono Z) rfl rfl) (bX rfl (fun _ _=>bQ (t':=2) dT b0 rfl) (bX rfl (fun _ ⟨_,z⟩=>bE (t:=2) fX z i3 rfl rfl) (bX rfl (fun _ _=>bQ (t':=1) aHI rfl rfl) (bX rfl (fun _ ⟨_,z⟩=>bE (t:=1) aIB z (b2.mono Z) rfl rfl) (bX rfl (fun _ _=>bQ (t':=2) aPS rfl rfl) (bX rfl (fun _ ⟨_,z⟩=>bE (t:=2) cN z (b2.mono Z) rfl rfl) (gX rfl ?_)))))))
   obtain ⟨l4,l5,i6,i7,i8⟩:=aH.lendS (i:=1) z (zL b1 Z) rfl
   obtain ⟨a0,i9,m⟩:=aB m
   refine zF call102 (nG i7 i6 i9) ?_
   rintro _ l6 ⟨rfl,j0⟩
   have d0:=i8 _ _ j0
   refine aX (aA ⟨⟨_,d0⟩,?_⟩)
   refine bX rfl (fun _ _=>dD (vs:=[(0,i64 g.from_),(1,i64 a0),(2,i64 g.to_)]) (cs:=[i64 g.from_,i64 a0,i64 g.to_]) aDq rfl (by kernel_rfl)) (gX rfl (bZ (Kt:=K) (xs:=([⟨g.from_,a0,g.to_⟩]:List Edge)) (cs:=[i64 g.from_,i64 a0,i64 g.to_]) (vs:=[(0,zA #[i64 g.from_,i64 a0,i64 g.to_])]) cI fG rfl rfl d0 rfl (by kernel_rfl) rfl rfl rfl ⟨rfl,trivial⟩ (fun j1 j2 (d1:aH G b3 (aJ 69 K j1 1 ([⟨g.from_,a0,g.to_⟩]:List Edge)::aJ 9 K b c a::aJ 69 K J V y::box k 27 l::L) j2)=>(aX (aA ⟨⟨_,d1⟩,?_⟩)))))
   refine gX rfl ?_;obtain ⟨a2,j3,m⟩:=aB m
   refine dA (i:=1) cI underlying25 fG rfl rfl d1 rfl (zL b1 Z) (zL b1 Z) j3 rfl rfl rfl rfl (fun _ h=>h) (fun a3 a5 j4 (d2:aH G b3 (aJ 9 K b c a::aJ 69 K a3 a5 a2::box k 27 l::L) j4)=>(aX (aA ⟨⟨_,d2⟩,?_⟩)))
   refine yW ?_
   have j5:=i4 _ _ d2
   have j6:=i2 _ _ j5
   refine aCl rfl (bS (i:=1) (ns:=[zS a3 a2.length a5]) (us:=[i64 d,i64 e,zS b a.length c,zS a3 a2.length a5]) sizeOf25 j6 rfl rfl rfl rfl rfl (cS rfl) rfl rfl (fun j7 (j8:aH G K (box c8 141 [i64 g.from_,str g.label,i64 g.to_]::box n 27 [i64 d,i64 e,zS b a.length c,zS a3 a2.length a5]::aJ 9 K b c a::aJ 69 K a3 a5 a2::box k 27 l::L) j7)=>(yW ?_)));refine gZ (yW ?_)
   exact ⟨(a2,wr (a9+1)),(zI m).symm,a3,a5,c6,b0,h1,h2,rfl,(aH.arr 4 [3,2,1] j8 rfl)⟩
  ·refine yW ?_
   have j9:=h0 _ (zI m).symm
   subst j9
   have j:(aEn d e a y)=some R:=j
   refine yW ?_;exact ⟨y,J,V,j,c6,b0,c7⟩
theorem oG {arcs:(List gV)} {R:(List bD)} (x:aH G K (L) w) (y:cR K a1 c2 arcs) (c:aBm arcs=some R):
  Calls Tryz.prog 109 ([zS a1 arcs.length c2]:List Value).toArray w (eN fun v w'=>∃ o p,v=zS o R.length p/\aH G K (aJ 9 K o p R::L) w'):=by
 refine zH func109 ?_;unfold aBm at c
 refine yW ?_;refine aZ (fun f w=>∃ j k l,sD j=some R/\f 3=zS k j.length l/\aH G K (aJ 9 K k l j::L) w) ?_ ?_
 ·rintro f w8 ⟨j,k,l,c,e7,z⟩
  unfold sD at c
  refine yW ?_;obtain rfl:=zI c
  exact aIK results109 ⟨k,l,rfl,z⟩
 have V:=aH.nil (α:=bD) x 9 K
 obtain ⟨c3,Z,c⟩:=aB c
 refine cE Z (fun s f w=>match s with|(d,m)=>∃ e g,f 3=zS e d.length g/\f 6=zS a1 arcs.length c2/\f 7=i64 (arcs.length:Int)/\f 8=i64 m/\aH G K (aJ 9 K e g d::L) w) ?_ ?_
 ·exact ⟨none,0,rfl,rfl,rfl,rfl,V⟩
 ·rintro ⟨d,m⟩ a0 f c4 b a2 ⟨e,g,a3,a4,a6,c5,q⟩
  replace b:aAl arcs d m=some a0:=b
  unfold aAl at b
  refine yW ?_
  rcases aG b with ⟨a7,b⟩|⟨a7,b⟩
  ·refine yW ?_;refine cT (yW ?_)
   obtain ⟨a,a8,b⟩:=aB b
   refine yW ?_;obtain ⟨c7,c8,a9⟩:=cR.el (sz:=3) rfl y a8
   cases a9
   refine yW ?_;refine bR (vs:=[i64 0,str ([]:bD),i64 0]) zeroValue141 q rfl (fun n c9 b0=>(bS (i:=0) (ns:=[i64 a.from_,str a.label,i64 a.to_]) (us:=[i64 a.from_,str a.label,i64 a.to_]) sizeOf141 b0 rfl rfl rfl rfl rfl (cS rfl) rfl rfl (fun b1 (b2:aH G K (box n 141 [i64 a.from_,str a.label,i64 a.to_]::aJ 9 K e g d::L) b1)=>(yW ?_))))
   refine bZ (Kt:=K) (xs:=([a.label]:List bD)) (cs:=[str a.label]) (vs:=[(0,str a.label)]) cF fL rfl rfl b2 rfl (by kernel_rfl) rfl rfl rfl ⟨rfl,trivial⟩ (fun b3 b4 (b5:aH G K (aJ 9 K b3 1 ([a.label]:List bD)::box n 141 [i64 a.from_,str a.label,i64 a.to_]::aJ 9 K e g d::L) b4)=>?_);obtain ⟨r,b6,b⟩:=aB b
   refine dA (i:=1) cF underlying24 fL rfl rfl b5 rfl (zR _) (zR _) b6 rfl rfl rfl rfl (fun _ h=>h) (fun t u b7 (b8:aH G K (box n 141 [i64 a.from_,str a.label,i64 a.to_]::aJ 9 K t u r::L) b7)=>(yW ?_));exact ⟨(r,wr (m+1)),(zI b).symm,t,u,rfl,a4,a6,rfl,(aH.arr 1 [] b8 rfl)⟩
  ·refine yW ?_
   have b9:=a2 _ (zI b).symm
   subst b9
   have c:(sD d)=some R:=c
   refine yW ?_;exact ⟨d,e,g,c,a3,q⟩
theorem yI {b:(List Int)} {R:bD} (c:aH G K (L) w) (d:G.lo=0) (e:cR K a1 c2 b) (a:lK b=some R):
  Calls Tryz.prog 71 ([zS a1 b.length c2]:List Value).toArray w (eN fun v w'=>v=str R/\aH G K (L) w'):=by
 refine zH func71 ?_;unfold lK at a
 refine yW ?_;obtain ⟨j,g,a⟩:=aB a
 refine zF call72 (aDr c d e g) ?_
 rintro _ k ⟨rfl,h⟩
 refine yW ?_;obtain rfl:=zI a
 exact aIK results71 ⟨rfl,h⟩
theorem aDT {t:cO} {c:(List Int)} {d:bD} {R:(List Int)} (o:aH G K (L) w) (e:cR K a1 c2 t.L) (g:cR K a4 c5 t.E) (p:cR K a7 c8 c) (a:aAm t c d=some R):
  Calls Tryz.prog 69 ([zA (zCa t a1 c2 a4 c5),zS a7 c.length c8,str d]:List Value).toArray w (eN fun v w'=>∃ h j,v=zS h R.length j/\aH G K (aJ 2 K h j R::L) w'):=by
 refine zH func69 ?_;unfold aAm at a
 refine yW ?_;refine fS (v:=zA (zCa t a1 c2 a4 c5)) (vs:=(zC t a1 c2 a4 c5)) o rfl rfl (fun a9 b0 q=>(yW ?_))
 obtain ⟨r,b,b1,k,u⟩:=aH.lendB (i:=0) q rfl
 refine dV (C:=fun w'=>∃ L',aH G r L' w') [(0,0),(1,0),(2,0),(3,0),(4,1),(5,1),(6,0)] bV (by kernel_rfl) (fun _ hg=>⟨_,aH.mono k hg⟩) (fun b2 x=>?_)
 have y:=aH.mono k x
 refine yW ?_;refine gX rfl ?_
 obtain ⟨b3,z,a⟩:=aB a
 refine zF call104 (qY y (e.mono b) (g.mono b) (p.mono b) z) ?_
 rintro _ b4 ⟨b5,b6,rfl,l⟩
 refine aX (aA ⟨⟨_,l⟩,?_⟩)
 refine gX rfl ?_;obtain ⟨b7,m,J,V,Z⟩:=aH.lendS (i:=0) l b rfl
 obtain ⟨b8,a0,a⟩:=aB a
 refine zF call68 (uU V (e.mono (zL b m)) (g.mono (zL b m)) J a0) ?_
 rintro _ b9 ⟨a2,a3,rfl,a5⟩
 have n:=Z _ _ a5
 refine aX (aA ⟨⟨_,n⟩,?_⟩)
 refine yW ?_;refine gZ ?_
 have a6:=u _ _ n
 refine yW ?_;obtain rfl:=zI a
 exact aIK results69 ⟨a2,a3,rfl,(aH.arr 2 [] a6 rfl)⟩
theorem aFm {t:cO} {R:(List gV)} (hs:aH G K (L) w) (h3:cR K a1 c2 t.L) (h6:cR K a4 c5 t.E) (c:aDC t=some R):
  Calls Tryz.prog 75 ([zA (zCa t a1 c2 a4 c5)]:List Value).toArray w (eN fun v w'=>∃ y z,v=zS y R.length z/\aH G K (aJ 141 K y z R::L) w'):=by
 let q:=(zC t a1 c2 a4 c5)
 refine zH func75 ?_;unfold aDC at c
 refine yW ?_;refine fS (v:=zA (zCa t a1 c2 a4 c5)) (vs:=q) hs rfl rfl (fun r w8 b1=>(yW ?_))
 refine aZ (fun f w=>∃ m n o,sE m=some R/\f 3=zS n m.length o/\aH G K (aJ 141 K n o m::L) w) ?_ ?_
 ·rintro f e6 ⟨m,n,o,c,e7,b2⟩
  unfold sE at c
  refine yW ?_;obtain rfl:=zI c
  exact aIK results75 ⟨n,o,rfl,b2⟩
 have b4:=aH.nil (α:=gV) b1 141 K
 obtain ⟨e8,b5,c⟩:=aB c
 refine cE b5 (fun s f w=>match s with|(e,p)=>∃ g j,f 1=zP (some ⟨r,0,none⟩)/\f 3=zS g e.length j/\f 7=zS a4 t.E.length c5/\f 8=i64 (t.E.length:Int)/\f 9=i64 p/\aH G K (aJ 141 K g j e::box r 27 q::L) w) ?_ ?_
 ·exact ⟨none,0,rfl,rfl,rfl,rfl,rfl,b4⟩
 ·rintro ⟨e,p⟩ b6 f e9 b b8 ⟨g,j,J,b9,c0,c1,f0,V⟩
  replace b:aAn t e p=some b6:=b
  unfold aAn at b
  refine yW ?_
  rcases aG b with ⟨c3,b⟩|⟨c3,b⟩
  ·refine yW ?_;refine cT (yW ?_)
   obtain ⟨a,c4,b⟩:=aB b
   refine yW ?_;obtain ⟨f1,f2,c6⟩:=cR.el (sz:=3) rfl h6 c4
   cases c6
   refine yW ?_;refine bR (vs:=[i64 0,i64 0,i64 0]) zeroValue69 V rfl (fun c7 f3 c8=>(bS (i:=0) (ns:=[i64 a.F,i64 a.B,i64 a.To]) (us:=[i64 a.F,i64 a.B,i64 a.To]) sizeOf69 c8 rfl rfl rfl rfl rfl (cS rfl) rfl rfl (fun c9 (d0:aH G K (box c7 69 [i64 a.F,i64 a.B,i64 a.To]::aJ 141 K g j e::box r 27 q::L) c9)=>(yW ?_))))
   obtain ⟨f4,Z,u,d1,d2⟩:=aH.lendB (i:=0) d0 rfl
   obtain ⟨x,l,d3,a0,d4⟩:=aH.lendB (i:=1) d1 rfl
   refine dV (C:=fun w'=>∃ L',aH G x L' w') [(0,0),(1,0),(2,0),(3,0),(4,0),(5,0),(6,0),(7,0),(8,0),(9,0),(10,0),(11,0),(12,1),(13,1),(14,0)] bV (by kernel_rfl) (fun _ hg=>⟨_,aH.mono a0 hg⟩) (fun f5 d5=>?_)
   have d:=aH.mono a0 d5
   refine yW ?_;refine bX rfl (fun _ ⟨_,d⟩=>bE (t:=0) cN d (u.mono l) rfl rfl) (bX rfl (fun _ _=>bQ (t':=2) dT J rfl) (bX rfl (fun _ ⟨_,d⟩=>bE (t:=2) fX d d3 rfl rfl) (bX rfl (fun _ _=>bQ (t':=1) fA rfl rfl) (bX rfl (fun _ ⟨_,d⟩=>bE (t:=1) cN d (u.mono l) rfl rfl) ?_))))
   obtain ⟨k,d6,b⟩:=aB b
   refine yW ?_;obtain ⟨f6,f7,d7⟩:=cR.el (sz:=1) rfl h3 d6
   cases d7
   refine yW ?_;refine bX rfl (fun _ ⟨_,d⟩=>bE (t:=2) cN d (u.mono l) rfl rfl) (bX rfl (fun _ _=>dD (vs:=[(0,i64 a.F),(1,str k),(2,i64 a.To)]) (cs:=[i64 a.F,str k,i64 a.To]) aFR rfl (by kernel_rfl)) (gX rfl (bZ (Kt:=K) (xs:=([⟨a.F,k,a.To⟩]:List gV)) (cs:=[i64 a.F,str k,i64 a.To]) (vs:=[(0,zA #[i64 a.F,str k,i64 a.To])]) kU oW rfl rfl d rfl (by kernel_rfl) rfl rfl rfl ⟨rfl,trivial⟩ (fun d8 d9 (a2:aH G x (aJ 141 K d8 1 ([⟨a.F,k,a.To⟩]:List gV)::aJ 141 K g j e::L) d9)=>(aX (aA ⟨⟨_,a2⟩,?_⟩))))))
   refine gX rfl ?_;obtain ⟨a3,e0,b⟩:=aB b
   refine dA (i:=0) kU underlying106 oW rfl rfl a2 rfl (zL Z l) (zL Z l) e0 rfl rfl rfl rfl (fun _ h=>h) (fun a5 a6 e1 (a7:aH G x (aJ 141 K a5 a6 a3::L) e1)=>(aX (aA ⟨⟨_,a7⟩,?_⟩)))
   refine yW ?_;refine gZ ?_
   have e2:=d4 _ _ a7
   have e3:=d2 _ _ e2
   refine yW ?_;exact ⟨(a3,wr (p+1)),(zI b).symm,a5,a6,J,rfl,c0,c1,rfl,(aH.arr 3 [2,1] e3 rfl)⟩
  ·refine yW ?_
   have e4:=b8 _ (zI b).symm
   subst e4
   have c:(sE e)=some R:=c
   refine yW ?_;exact ⟨e,g,j,c,b9,(aH.arr 2 [0] V rfl)⟩
theorem gL {d:(List (List Int))} {m:(List (bD × Int))} {b:Nat} {c:(List gV)} {e:(List Int)} {R:(Int × (List (List Int)) × (List (bD × Int)))} (hs:aH G K (aJ 35 Kf a2 c3 d::fF b m::aJ 141 K a5 c6 c::box b1 139 [zS a2 d.length c3,zM (some b),zS a5 c.length c6,Value.func (.func 71) #[] #[]]::L) w) (hG:G.lo=0) (a4:Hp.le Kf K) (V:cR Kf a7 c8 e) (a:gC d m c e=some R):
  Calls Tryz.prog 107 ([zP (some ⟨b1,0,none⟩),zS a7 e.length c8]:List Value).toArray w (eN fun v w'=>∃ Z a0,v=i64 R.1/\aH G K (aJ 35 Kf Z a0 R.2.1::fF b R.2.2::aJ 141 K a5 c6 c::box b1 139 [zS Z R.2.1.length a0,zM (some b),zS a5 c.length c6,Value.func (.func 71) #[] #[]]::L) w'):=by
 let t:=[zS a2 d.length c3,zM (some b),zS a5 c.length c6,Value.func (.func 71) #[] #[]]
 let n:=aJ 141 K a5 c6 c
 refine zH func107 ?_;unfold gC at a
 refine yW ?_;obtain ⟨u,a6,a⟩:=aB a
 refine oV (vs:=[zS a7 e.length c8]) (caps:=[]) (us:=[zS a7 e.length c8]) rfl call71 rfl rfl (yI hs hG (V.mono a4) a6) ?_
 rintro _ c4 ⟨rfl,x⟩
 refine yW ?_;refine aC (R_look (kv:=m) (k:=u) (z:=(0:Int)) runUnderlying137 ko_9 zeroValue2 x (i:=1) rfl rfl rfl) ?_
 iterate 7 refine aIQ ?_
 refine jR (fun f w=>∃ y p J q r,fH y p J=some R/\f 6=i64 y/\aH G K (aJ 35 Kf q r p::fF b J::n::box b1 139 [zS q p.length r,zM (some b),zS a5 c.length c6,Value.func (.func 71) #[] #[]]::L) w) ?_ ?_
 ·rintro f c5 ⟨y,p,J,q,r,a,c7,a8⟩
  unfold fH at a
  refine yW ?_;obtain rfl:=zI a
  exact aIK results107 ⟨q,r,rfl,a8⟩
 refine yW ?_
 rcases aG a with ⟨b0,a⟩|⟨b0,a⟩
 ·refine yW ?_;obtain ⟨o,b2,a⟩:=aB a
  refine aEh (i:=1) (k:=u) (v:=(d.length:Int)) runUnderlying137 ko_9 x rfl rfl rfl rfl b2 (fun b3 (b4:aH G K (aJ 35 Kf a2 c3 d::fF b o::n::box b1 139 t::L) b3)=>(yW ?_));refine bZ (Kt:=Kf) (xs:=([e]:List (List Int))) (cs:=[zS a7 e.length c8]) (vs:=[(0,zS a7 e.length c8)]) iA aAW rfl rfl b4 rfl (by kernel_rfl) rfl rfl rfl ⟨⟨a7,c8,rfl,V⟩,trivial⟩ (fun b5 b6 (b7:aH G K (aJ 35 Kf b5 1 ([e]:List (List Int))::aJ 35 Kf a2 c3 d::fF b o::n::box b1 139 t::L) b6)=>?_)
  obtain ⟨g,b8,a⟩:=aB a
  refine yR (i:=0) Kf iA underlying53 aAW rfl rfl b7 rfl (zR _) (zR _) b8 rfl rfl rfl rfl (fun _ _ _ h=>El.one h) (fun j l b9 (c0:aH G K (aJ 35 Kf j l g::fF b o::n::box b1 139 t::L) b9)=>(yW ?_));refine bS (i:=3) (ns:=[zS j g.length l]) (us:=[zS j g.length l,zM (some b),zS a5 c.length c6,Value.func (.func 71) #[] #[]]) sizeOf53 c0 rfl rfl rfl rfl rfl (cS rfl) rfl rfl (fun c1 (c2:aH G K (aJ 35 Kf j l g::fF b o::n::box b1 139 [zS j g.length l,zM (some b),zS a5 c.length c6,Value.func (.func 71) #[] #[]]::L) c1)=>(yW ?_))
  exact ⟨(d.length:Int),g,o,j,l,a,rfl,c2⟩
 ·refine yW ?_;exact ⟨((iV m u).getD 0),d,m,a2,c3,a,rfl,x⟩
theorem wL {c:bD} {b0:(List Int)} {b1:(List (List Int))} {b8:(List (bD × Int))} {b:Nat} {l:(List gV)} {p:Int} {b9:Nat} {R:((List (List Int)) × (List (bD × Int)) × (List gV))} (hs:aH G K (aJ 35 Kf a6 c7 b1::fF b b8::aJ 141 K a9 c10 l::box b5 139 [zS a6 b1.length c7,zM (some b),zS a9 l.length c10,Value.func (.func 71) #[] #[]]::box b4 136 [zP (some ⟨b5,0,none⟩)]::L) w) (hG:G.lo=0) (c1:Hp.le Kf K) (h3:cR Kf a1 c2 b0) (g2:fJ K a11 b9 [i64 p]) (e:kF c b0 b1 b8 l p=some R):
  Calls Tryz.prog 108 ([str c,zS a1 b0.length c2,zP (some ⟨b4,0,none⟩),cL a11 b9]:List Value).toArray w (eN fun v w'=>∃ c4 c5 c6 c8,v=Value.tuple #[]/\aH G K (aJ 35 Kf c4 c5 R.1::fF b R.2.1::aJ 141 K c6 c8 R.2.2::box b5 139 [zS c4 R.1.length c5,zM (some b),zS c6 R.2.2.length c8,Value.func (.func 71) #[] #[]]::box b4 136 [zP (some ⟨b5,0,none⟩)]::L) w'):=by
 refine zH func108 ?_;unfold kF at e
 refine cQ (fun f w=>∃ a0 b2 a2 a3 a4 a5 a7,iW a0 b2 a2=some R/\aH G K (aJ 141 K a5 a7 a2::aJ 35 Kf a3 a4 a0::fF b b2::box b5 139 [zS a3 a0.length a4,zM (some b),zS a5 a2.length a7,Value.func (.func 71) #[] #[]]::box b4 136 [zP (some ⟨b5,0,none⟩)]::L) w) ?_ ?_
 ·rintro f g3 ⟨a0,b2,a2,a3,a4,a5,a7,e,d8⟩
  unfold iW at e
  obtain rfl:=zI e
  exact aFB results108 ⟨a3,a4,a5,a7,rfl,(aH.arr 3 [1,2,0] d8 rfl)⟩
 obtain ⟨m,n,g4,e0,b3⟩:=aH.lendB (i:=4) hs rfl
 refine kP (C:=fun w'=>∃ L',aH G m L' w') [] bV (by kernel_rfl) (fun g5 e1=>?_)
 have a8:=aH.mono e0 e1
 refine aHQ 0 ?_;refine aHQ 1 ?_
 refine aHQ 2 ?_;refine aHQ 3 ?_
 refine aHQ 5 ?_;refine aHQ 6 ?_
 refine aHQ 7 ?_;refine aHQ 8 ?_
 refine gY (i:=4) (j:=9) (by kernel_rfl) rfl rfl ?_ ?_
 ·refine aC (cV aAh a8 (i:=3) rfl rfl rfl) (aX (aA ⟨fun _=>⟨_,a8⟩,?_⟩))
  refine cC (i:=9) (by kernel_rfl) rfl ?_;obtain ⟨d,e2,e⟩:=aB e
  refine zF call107 (gL (Kf:=Kf) a8 hG (zL c1 n) h3 e2) ?_
  rintro _ g6 ⟨o,q,rfl,b6⟩
  refine aX (aA ⟨fun _=>⟨_,b6⟩,?_⟩)
  refine cY (i:=10) rfl (by kernel_rfl) ⟨_,b6⟩ (fun _ _=>dD (vs:=[(0,i64 p),(1,str c),(2,i64 d.1)]) (cs:=[i64 p,str c,i64 d.1]) aFR rfl (by kernel_rfl)) (cC (i:=11) (by kernel_rfl) rfl (bZ (Kt:=K) (xs:=([⟨p,c,d.1⟩]:List gV)) (cs:=[i64 p,str c,i64 d.1]) (vs:=[(0,zA #[i64 p,str c,i64 d.1])]) kU oW rfl rfl b6 rfl (by kernel_rfl) rfl rfl rfl ⟨rfl,trivial⟩ (fun e3 e4 (c9:aH G m (aJ 141 K e3 1 ([⟨p,c,d.1⟩]:List gV)::aJ 35 Kf o q d.2.1::fF b d.2.2::aJ 141 K a9 c10 l::box b5 139 [zS o d.2.1.length q,zM (some b),zS a9 l.length c10,Value.func (.func 71) #[] #[]]::L) e4)=>(aX (aA ⟨fun _=>⟨_,c9⟩,?_⟩)))))
  refine cC (i:=12) (by kernel_rfl) rfl ?_;obtain ⟨r,e5,e⟩:=aB e
  refine dA (i:=2) kU underlying106 oW rfl rfl c9 rfl n n e5 rfl rfl rfl rfl (fun _ h=>h) (fun t c45 e6 (d0:aH G m (aJ 35 Kf o q d.2.1::fF b d.2.2::aJ 141 K t c45 r::box b5 139 [zS o d.2.1.length q,zM (some b),zS a9 l.length c10,Value.func (.func 71) #[] #[]]::L) e6)=>(aX (aA ⟨fun _=>⟨_,d0⟩,?_⟩)))
  refine aHQ 13 ?_;refine aHQ 14 ?_
  refine cC (i:=15) (by kernel_rfl) rfl (bS (i:=3) (ns:=[zS t r.length c45]) (us:=[zS o d.2.1.length q,zM (some b),zS t r.length c45,Value.func (.func 71) #[] #[]]) sizeOf106 d0 rfl rfl rfl rfl rfl (cS rfl) rfl rfl (fun e7 (d1:aH G m (aJ 35 Kf o q d.2.1::fF b d.2.2::aJ 141 K t c45 r::box b5 139 [zS o d.2.1.length q,zM (some b),zS t r.length c45,Value.func (.func 71) #[] #[]]::L) e7)=>(aX (aA ⟨fun _=>⟨_,d1⟩,?_⟩))))
  refine dW (by kernel_rfl) ?_
  have e8:=b3 _ _ d1
  refine yW ?_;exact ⟨d.2.1,d.2.2,r,o,q,t,c45,e,(aH.arr 5 [3,1,2,4,0] e8 rfl)⟩
 ·obtain ⟨a,e9,e⟩:=aB e
  refine zF call107 (gL (Kf:=Kf) a8 hG (zL c1 n) h3 e9) ?_
  rintro _ g7 ⟨g,k,rfl,Z⟩
  refine aX (aA ⟨fun _=>⟨_,Z⟩,?_⟩)
  refine cY (i:=10) rfl (by kernel_rfl) ⟨_,Z⟩ (fun _ _=>dD (vs:=[(0,i64 p),(1,str c),(2,i64 a.1)]) (cs:=[i64 p,str c,i64 a.1]) aFR rfl (by kernel_rfl)) (gY (i:=4) (j:=11) (by kernel_rfl) rfl rfl ?_ ?_)
  ·iterate 1 refine aIQ ?_
   refine aX (aA ⟨fun _=>⟨_,Z⟩,?_⟩)
   refine cC (i:=11) (by kernel_rfl) rfl (bZ (Kt:=K) (xs:=([⟨p,c,a.1⟩]:List gV)) (cs:=[i64 p,str c,i64 a.1]) (vs:=[(0,zA #[i64 p,str c,i64 a.1])]) kU oW rfl rfl Z rfl (by kernel_rfl) rfl rfl rfl ⟨rfl,trivial⟩ (fun f0 f1 (d2:aH G m (aJ 141 K f0 1 ([⟨p,c,a.1⟩]:List gV)::aJ 35 Kf g k a.2.1::fF b a.2.2::aJ 141 K a9 c10 l::box b5 139 [zS g a.2.1.length k,zM (some b),zS a9 l.length c10,Value.func (.func 71) #[] #[]]::L) f1)=>(aX (aA ⟨fun _=>⟨_,d2⟩,?_⟩))))
   refine cC (i:=12) (by kernel_rfl) rfl ?_;obtain ⟨u,f2,e⟩:=aB e
   refine dA (i:=2) kU underlying106 oW rfl rfl d2 rfl n n f2 rfl rfl rfl rfl (fun _ h=>h) (fun x y f3 (d3:aH G m (aJ 35 Kf g k a.2.1::fF b a.2.2::aJ 141 K x y u::box b5 139 [zS g a.2.1.length k,zM (some b),zS a9 l.length c10,Value.func (.func 71) #[] #[]]::L) f3)=>(aX (aA ⟨fun _=>⟨_,d3⟩,?_⟩)))
   refine aHQ 13 ?_;refine aHQ 14 ?_
   refine cC (i:=15) (by kernel_rfl) rfl (bS (i:=3) (ns:=[zS x u.length y]) (us:=[zS g a.2.1.length k,zM (some b),zS x u.length y,Value.func (.func 71) #[] #[]]) sizeOf106 d3 rfl rfl rfl rfl rfl (cS rfl) rfl rfl (fun f4 (d4:aH G m (aJ 35 Kf g k a.2.1::fF b a.2.2::aJ 141 K x y u::box b5 139 [zS g a.2.1.length k,zM (some b),zS x u.length y,Value.func (.func 71) #[] #[]]::L) f4)=>(aX (aA ⟨fun _=>⟨_,d4⟩,?_⟩))))
   refine dW (by kernel_rfl) ?_
   have f5:=b3 _ _ d4
   refine yW ?_;exact ⟨a.2.1,a.2.2,u,g,k,x,y,e,(aH.arr 5 [3,1,2,4,0] f5 rfl)⟩
  ·refine bZ (Kt:=K) (xs:=([⟨p,c,a.1⟩]:List gV)) (cs:=[i64 p,str c,i64 a.1]) (vs:=[(0,zA #[i64 p,str c,i64 a.1])]) kU oW rfl rfl Z rfl (by kernel_rfl) rfl rfl rfl ⟨rfl,trivial⟩ (fun f6 f7 (b7:aH G m (aJ 141 K f6 1 ([⟨p,c,a.1⟩]:List gV)::aJ 35 Kf g k a.2.1::fF b a.2.2::aJ 141 K a9 c10 l::box b5 139 [zS g a.2.1.length k,zM (some b),zS a9 l.length c10,Value.func (.func 71) #[] #[]]::L) f7)=>(aX (aA ⟨fun _=>⟨_,b7⟩,?_⟩)))
   refine cC (i:=4) (by kernel_rfl) rfl ?_
   iterate 1 refine aIQ ?_
   refine aX (aA ⟨fun _=>⟨_,b7⟩,?_⟩)
   refine cC (i:=12) (by kernel_rfl) rfl ?_;obtain ⟨z,f8,e⟩:=aB e
   refine dA (i:=2) kU underlying106 oW rfl rfl b7 rfl n n f8 rfl rfl rfl rfl (fun _ h=>h) (fun J V f9 (d5:aH G m (aJ 35 Kf g k a.2.1::fF b a.2.2::aJ 141 K J V z::box b5 139 [zS g a.2.1.length k,zM (some b),zS a9 l.length c10,Value.func (.func 71) #[] #[]]::L) f9)=>(aX (aA ⟨fun _=>⟨_,d5⟩,?_⟩)))
   refine aHQ 13 ?_;refine aHQ 14 ?_
   refine cC (i:=15) (by kernel_rfl) rfl (bS (i:=3) (ns:=[zS J z.length V]) (us:=[zS g a.2.1.length k,zM (some b),zS J z.length V,Value.func (.func 71) #[] #[]]) sizeOf106 d5 rfl rfl rfl rfl rfl (cS rfl) rfl rfl (fun g0 (d6:aH G m (aJ 35 Kf g k a.2.1::fF b a.2.2::aJ 141 K J V z::box b5 139 [zS g a.2.1.length k,zM (some b),zS J z.length V,Value.func (.func 71) #[] #[]]::L) g0)=>(aX (aA ⟨fun _=>⟨_,d6⟩,?_⟩))))
   refine dW (by kernel_rfl) ?_
   have g1:=b3 _ _ d6
   refine yW ?_;exact ⟨a.2.1,a.2.2,z,g,k,J,V,e,(aH.arr 5 [3,1,2,4,0] g1 rfl)⟩
theorem yJ {q:(List Int)} {x:(List (List Int))} {b9:(List (bD × Int))} {b:Nat} {y:(List gV)} {c0:Int} {r:Nat} {p:cO} {a3:Nat} {R:(Bool × (List (List Int)) × (List (bD × Int)) × (List gV))} (hs:aH G K (aJ 35 Kf a6 c7 x::fF b b9::aJ 141 K a9 c10 y::box b5 139 [zS a6 x.length c7,zM (some b),zS a9 y.length c10,Value.func (.func 71) #[] #[]]::box b4 136 [zP (some ⟨b5,0,none⟩)]::L) w) (hG:G.lo=0) (f3:Hp.le Kf K) (h3:cR K a1 c2 q) (f5:fJ K a11 r [i64 c0]) (i6:fJ K a14 a3 (zC p a17 c18 a20 c21)) (c1:cR K a17 c18 p.L) (f6:cR K a20 c21 p.E) (c:lL q x b9 y c0 p=some R):
  Calls Tryz.prog 73 ([zS a1 q.length c2,Value.func (.func 108) #[] #[zP (some ⟨b4,0,none⟩),cL a11 r],cL a14 a3]:List Value).toArray w (eN fun v w'=>∃ K' c9 d0 d1 d2,v=Value.bool R.1/\Hp.le K K'/\aH G K' (aJ 35 K' c9 d0 R.2.1::fF b R.2.2.1::aJ 141 K d1 d2 R.2.2.2::box b5 139 [zS c9 R.2.1.length d0,zM (some b),zS d1 R.2.2.2.length d2,Value.func (.func 71) #[] #[]]::box b4 136 [zP (some ⟨b5,0,none⟩)]::L) w'):=by
 let t:=[zP (some ⟨b5,0,none⟩)]
 refine zH func73 ?_;unfold lL at c
 refine yW ?_;obtain ⟨z,d3,c⟩:=aB c
 obtain ⟨d4,d5,d6⟩:=Cut.ex 1 a17 c18 1
 have f7:=cR.cut' c1 d3 d6
 refine aC (wU cF c1.room d6 rfl rfl rfl d3) (yW ?_);refine aZ (fun f w=>∃ J a4 c4 a5 a7 a8 b0 b1,Hp.le K J/\iB a4 c4 a5=some R/\aH G J (aJ 141 K b0 b1 a5::aJ 35 J a7 a8 a4::fF b c4::box b5 139 [zS a7 a4.length a8,zM (some b),zS b0 a5.length b1,Value.func (.func 71) #[] #[]]::box b4 136 t::L) w) ?_ ?_
 ·rintro f i7 ⟨J,a4,c4,a5,a7,a8,b0,b1,f8,c,f9⟩
  unfold iB at c
  refine yW ?_;obtain rfl:=zI c
  exact aIK results73 ⟨J,a7,a8,b0,b1,rfl,f8,(aH.arr 3 [1,2,0] f9 rfl)⟩
 have g1:aH G K (aJ 35 K a6 c7 x::fF b b9::aJ 141 K a9 c10 y::box b5 139 [zS a6 x.length c7,zM (some b),zS a9 y.length c10,Value.func (.func 71) #[] #[]]::box b4 136 t::L) w:=aH.weak (i:=0) hs rfl (fun _ h=>aJ.mono f3 h)
 obtain ⟨i8,g2,c⟩:=aB c
 refine cE g2 (fun s f w=>match s with|(d,m,e,u)=>∃ n g j k l,Hp.le K n/\f 0=zS a1 q.length c2/\f 1=Value.func (.func 108) #[] #[zP (some ⟨b4,0,none⟩),cL a11 r]/\f 2=cL a14 a3/\f 11=zS d4 z.length d5/\f 12=i64 (z.length:Int)/\f 13=i64 u/\aH G n (aJ 35 n g j d::fF b m::aJ 141 K k l e::box b5 139 [zS g d.length j,zM (some b),zS k e.length l,Value.func (.func 71) #[] #[]]::box b4 136 t::L) w) ?_ ?_
 ·exact ⟨K,a6,c7,a9,c10,(zR _),rfl,rfl,rfl,rfl,rfl,rfl,g1⟩
 ·rintro ⟨d,m,e,u⟩ d7 f i9 a g3 ⟨n,g,j,k,l,o,d8,d9,e0,e1,e2,e3,e4⟩
  replace a:jV q c0 p z d m e u=some d7:=a
  unfold jV at a
  refine yW ?_
  rcases aG a with ⟨g4,a⟩|⟨g4,a⟩
  ·refine yW ?_;refine aZ (fun f w=>∃ V Z b2 a0 b3 b6 b7 b8,Hp.le n V/\iC u Z b2 a0=some d7/\f 0=zS a1 q.length c2/\f 1=Value.func (.func 108) #[] #[zP (some ⟨b4,0,none⟩),cL a11 r]/\f 2=cL a14 a3/\f 11=zS d4 z.length d5/\f 12=i64 (z.length:Int)/\f 13=i64 u/\aH G V (aJ 141 K b7 b8 a0::aJ 35 V b3 b6 Z::fF b b2::box b5 139 [zS b3 Z.length b6,zM (some b),zS b7 a0.length b8,Value.func (.func 71) #[] #[]]::box b4 136 t::L) w) ?_ ?_
   ·rintro f j0 ⟨V,Z,b2,a0,b3,b6,b7,b8,g5,a,g6,g7,g8,g9,h0,j1,h1⟩
    unfold iC at a
    refine yW ?_;exact ⟨(Z,b2,a0,wr (u+1)),(zI a).symm,V,b3,b6,b7,b8,(zL o g5),g6,g7,g8,g9,h0,rfl,(aH.arr 3 [1,2,0] h1 rfl)⟩
   refine yW ?_;obtain ⟨e5,h2,a⟩:=aB a
   refine yW ?_;obtain ⟨j2,j3,h4⟩:=cR.el (sz:=1) rfl f7 h2
   cases h4
   refine yW ?_;obtain ⟨e6,h5,a⟩:=aB a
   refine zF call69 (aDT e4 (c1.mono o) (f6.mono o) (h3.mono o) h5) ?_
   rintro _ e7 ⟨e8,e9,rfl,f0⟩
   refine yW ?_
   rcases aG a with ⟨h6,a⟩|⟨h6,a⟩
   ·refine yW ?_;obtain ⟨a2,c5,h7,c6⟩:=aH.giveS (i:=0) f0 o rfl
    replace c6:aH G a2 (aJ 35 n g j d::fF b m::aJ 141 K k l e::box b5 139 [zS g d.length j,zM (some b),zS k e.length l,Value.func (.func 71) #[] #[]]::box b4 136 t::L) e7:=c6
    have h8:aH G a2 (aJ 35 a2 g j d::fF b m::aJ 141 K k l e::box b5 139 [zS g d.length j,zM (some b),zS k e.length l,Value.func (.func 71) #[] #[]]::box b4 136 t::L) e7:=aH.weak (i:=0) c6 rfl (fun _ h=>aJ.mono c5 h)
    obtain ⟨c8,h9,a⟩:=aB a
    refine oV (vs:=[str e5,zS e8 e6.length e9]) (caps:=[zP (some ⟨b4,0,none⟩),cL a11 r]) (us:=[str e5,zS e8 e6.length e9,zP (some ⟨b4,0,none⟩),cL a11 r]) rfl call108 rfl rfl (wL (Kf:=a2) h8 hG (zR _) h7 (f5.mono (zL o c5)) h9) ?_
    rintro _ j4 ⟨i0,i1,i2,i3,rfl,i4⟩
    refine yW ?_;exact ⟨a2,c8.1,c8.2.1,c8.2.2,i0,i1,i2,i3,c5,a,d8,d9,e0,e1,e2,e3,(aH.arr 3 [2,0,1] i4 rfl)⟩
   ·refine yW ?_;exact ⟨n,d,m,e,g,j,k,l,(zR _),a,d8,d9,e0,e1,e2,e3,(aH.arr 4 [3,1,2] f0 rfl)⟩
  ·refine yW ?_
   have i5:=g3 _ (zI a).symm
   subst i5
   have c:(iB d m e)=some R:=c
   refine yW ?_;exact ⟨n,d,m,e,g,j,k,l,o,c,(aH.arr 3 [2,0,1] e4 rfl)⟩
theorem aAQ {f1:(List Int)} {c5:cO} {k5:Nat} {R:(cO × (List (List Int)) × Bool)} (hs:aH G K (L) w) (hG:G.lo=0) (h3:cR K a1 c2 f1) (h6:fJ K a4 k5 (zC c5 a7 c8 a10 c11)) (h9:cR K a7 c8 c5.L) (m1:cR K a10 c11 c5.E) (c:nE f1 c5=some R):
  Calls Tryz.prog 70 ([zS a1 f1.length c2,Value.func (.func 71) #[] #[],Value.func (.func 73) #[] #[cL a4 k5]]:List Value).toArray w (eN fun v w'=>∃ K' h8 i0 i1 i2 i3 i4,v=Value.tuple #[zA (zCa R.1 h8 i0 i1 i2),zS i3 R.2.1.length i4,Value.bool R.2.2]/\Hp.le K K'/\aH G K' (aJ 9 K h8 i0 R.1.L::aJ 69 K i1 i2 R.1.E::aJ 35 K' i3 i4 R.2.1::L) w'):=by
 let d:=zG
 refine zH func70 ?_;unfold nE at c
 refine yW ?_;refine bR (vs:=d) zeroValue27 hs rfl (fun k z4 m2=>(yW ?_))
 refine aEf bD Int m2 ?_
 intro a m3 (m4:aH G K (fF a ([]:(List (bD × Int)))::box k 27 d::L) m3)
 refine yW ?_;refine aC (dD (vs:=[(1,zM (some a)),(3,Value.func (.func 71) #[] #[])]) (cs:=[zS none 0 0,zM (some a),zS none 0 0,Value.func (.func 71) #[] #[]]) bs_139 rfl (by kernel_rfl)) (fS (v:=zA #[zS none 0 0,zM (some a),zS none 0 0,Value.func (.func 71) #[] #[]]) (vs:=[zS none 0 0,zM (some a),zS none 0 0,Value.func (.func 71) #[] #[]]) m4 rfl rfl (fun b z5 m5=>(bR (vs:=[zP none]) zeroValue136 m5 rfl (fun g z6 m6=>(bS (i:=0) (ns:=[zP (some ⟨b,0,none⟩)]) (us:=[zP (some ⟨b,0,none⟩)]) sizeOf136 m6 rfl rfl rfl rfl rfl (cS rfl) rfl rfl ?_)))))
 intro i5 (m7:aH G K (box g 136 [zP (some ⟨b,0,none⟩)]::box b 139 [zS none 0 0,zM (some a),zS none 0 0,Value.func (.func 71) #[] #[]]::fF a ([]:(List (bD × Int)))::box k 27 d::L) i5)
 refine yW ?_
 have m8:=aH.nil (α:=(List Int)) m7 35 K
 have m9:=aH.nil (α:=gV) m8 141 K
 have n0:aH G K (aJ 35 K none 0 ([]:List (List Int))::fF a ([]:(List (bD × Int)))::aJ 141 K none 0 ([]:List gV)::box b 139 [zS none 0 0,zM (some a),zS none 0 0,Value.func (.func 71) #[] #[]]::box g 136 [zP (some ⟨b,0,none⟩)]::box k 27 d::L) i5:=(aH.arr 5 [1,4,0,3,2] m9 rfl)
 obtain ⟨f4,n1,c⟩:=aB c
 refine zF call107 (gL (Kf:=K) n0 hG (zR _) h3 n1) ?_
 rintro _ z7 ⟨f5,f6,rfl,n2⟩
 refine yW ?_;refine bR (vs:=[i64 0]) zeroValue3 n2 rfl (fun i6 z8 n3=>(bS (i:=0) (ns:=[i64 0]) (us:=[i64 0]) sizeOf3 n3 rfl rfl rfl rfl rfl (cS rfl) rfl rfl (fun n4 (n5:aH G K (box i6 3 [i64 0]::aJ 35 K f5 f6 f4.2.1::fF a f4.2.2::aJ 141 K none 0 ([]:List gV)::box b 139 [zS f5 f4.2.1.length f6,zM (some a),zS none 0 0,Value.func (.func 71) #[] #[]]::box g 136 [zP (some ⟨b,0,none⟩)]::box k 27 d::L) n4)=>(yW ?_))))
 refine aZ (fun f w=>∃ p q c6 x y c45 z J,Hp.le K p/\iL q c6 x=some R/\f 6=zP (some ⟨k,0,none⟩)/\f 9=zP (some ⟨g,0,none⟩)/\aH G p (aJ 141 K z J x::aJ 35 p y c45 q::fF a c6::box b 139 [zS y q.length c45,zM (some a),zS z x.length J,Value.func (.func 71) #[] #[]]::box g 136 [zP (some ⟨b,0,none⟩)]::box k 27 d::L) w) ?_ ?_
 ·rintro f z9 ⟨p,q,c6,x,y,c45,z,J,a8,c,f7,f8,n6⟩
  unfold iL at c
  refine yW ?_;refine cQ (fun f w=>∃ b6 b7 V Z f9 a9 b0 b1 b2,kG q b6 b7 V Z=some R/\f 6=zP (some ⟨k,0,none⟩)/\f 9=zP (some ⟨g,0,none⟩)/\f 12=zP (some ⟨f9,0,none⟩)/\aH G p (aJ 69 K b1 b2 Z::aJ 9 K a9 b0 V::box f9 27 [i64 b6,i64 b7,zS a9 V.length b0,zS b1 Z.length b2]::aJ 141 K z J x::aJ 35 p y c45 q::fF a c6::box b 139 [zS y q.length c45,zM (some a),zS z x.length J,Value.func (.func 71) #[] #[]]::box g 136 [zP (some ⟨b,0,none⟩)]::box k 27 d::L) w) ?_ ?_
  ·rintro f w66 ⟨b6,b7,V,Z,f9,a9,b0,b1,b2,c,i7,n7,i8,n8⟩
   unfold kG at c
   refine yW ?_;obtain ⟨K68,i9,j0,n9,o0⟩:=aH.lendB (i:=2) n8 rfl
   obtain ⟨K73,e9,o1,o2,o3⟩:=aH.lendB (i:=5) n9 rfl
   obtain ⟨j1,d6,o4,j2,o5⟩:=aH.lendB (i:=5) o2 rfl
   refine dV (C:=fun w'=>∃ L',aH G j1 L' w') [(0,0),(1,0),(2,0),(3,0),(4,0),(5,1),(6,1),(7,1),(8,2),(9,2)] bV (by kernel_rfl) (fun _ hg=>⟨_,aH.mono j2 hg⟩) (fun w83 o6=>?_)
   have b8:=aH.mono j2 o6
   refine bX rfl (fun _ ⟨_,b8⟩=>eU (t:=0) (vs:=[i64 b6,i64 b7,zS a9 V.length b0,zS b1 Z.length b2]) cZ b8 (j0.mono (zL e9 d6)) i8 rfl rfl) (bX rfl (fun _ ⟨_,b8⟩=>bE (t:=0) wV b8 o4 n7 rfl) (bX rfl (fun _ _=>dU rfl) (bX rfl (fun _ _=>bQ (t':=0) tU rfl rfl) (bX rfl (fun _ ⟨_,b8⟩=>bE (t:=0) aFS b8 (o1.mono d6) rfl rfl) (gX rfl (aC (eU (t:=0) (vs:=[i64 b6,i64 b7,zS a9 V.length b0,zS b1 Z.length b2]) cZ b8 (j0.mono (zL e9 d6)) i8 rfl rfl) (aX (aA ⟨⟨_,b8⟩,?_⟩))))))))
   refine gX rfl ?_;obtain ⟨K87,o7,o8,o9,p0⟩:=aH.lendS (i:=1) b8 (zL (zL (zL a8 i9) e9) d6) rfl
   obtain ⟨K92,p1,p2,p3,p4⟩:=aH.lendS (i:=0) o9 (zL (zL (zL (zL a8 i9) e9) d6) o7) rfl
   obtain ⟨r97,p5,c⟩:=aB c
   refine zF call34 (jA (t:=⟨b6,b7,V,Z⟩) p3 hG (o8.mono p1) p2 p5) ?_
   rintro _ w99 ⟨rfl,p6⟩
   have p7:=p4 _ _ p6
   have j3:=p0 _ _ p7
   refine aX (aA ⟨⟨_,j3⟩,?_⟩)
   refine gX rfl (bS (i:=5) (ns:=[i64 b6,i64 b7,zS a9 V.length b0,zS b1 Z.length b2]) (us:=[i64 b6,i64 b7,zS a9 V.length b0,zS b1 Z.length b2]) sizeOf27 j3 rfl i7 rfl rfl rfl (cS rfl) rfl rfl (fun p8 (j4:aH G j1 (aJ 9 K a9 b0 V::aJ 69 K b1 b2 Z::aJ 141 K z J x::aJ 35 p y c45 q::fF a c6::box k 27 [i64 b6,i64 b7,zS a9 V.length b0,zS b1 Z.length b2]::L) p8)=>(aX (aA ⟨⟨_,j4⟩,?_⟩))))
   have p9:=o5 _ _ j4
   have q0:=o3 _ _ p9
   have j5:=o0 _ _ q0
   refine aCl rfl (yW ?_);refine aCl rfl (yW ?_)
   refine gZ (yW ?_);obtain rfl:=zI c
   exact bK (rZ results70 (dM (vs:=[i64 b6,i64 b7,zS a9 V.length b0,zS b1 Z.length b2]) rfl cZ j5 (i:=8) rfl i7 rfl) (gT rfl rfl) (gT rfl rfl) ⟨p,a9,b0,b1,b2,y,c45,rfl,a8,(aH.arr 9 [3,4,6] j5 rfl)⟩)
  obtain ⟨a08,c7,g0,q2,g1⟩:=aH.lendB (i:=3) n6 rfl
  obtain ⟨q3,b3,a09,q4,g2⟩:=aH.lendB (i:=3) q2 rfl
  refine kP (C:=fun w'=>∃ L',aH G q3 L' w') [16] bV (by kernel_rfl) (fun a11 q5=>?_)
  have b4:=aH.mono q4 q5
  refine aHQ 0 ?_;refine aHQ 1 ?_
  refine aHQ 2 ?_;refine cY (i:=3) rfl (by kernel_rfl) ⟨_,b4⟩ (fun _ ⟨_,b4⟩=>bE (t:=0) aFS b4 (g0.mono b3) rfl rfl) (aHQ 4 ?_)
  refine aHQ 5 ?_;refine aHQ 6 ?_
  refine aHQ 7 ?_;refine cY (i:=8) rfl (by kernel_rfl) ⟨_,b4⟩ (fun _ ⟨_,b4⟩=>bE (t:=2) aAh b4 (g0.mono b3) rfl rfl) (aHQ 10 ?_)
  refine aHQ 11 ?_;refine aHQ 12 ?_
  refine cY (i:=13) rfl (by kernel_rfl) ⟨_,b4⟩ (fun _ ⟨_,b4⟩=>bE (t:=2) aAh b4 (g0.mono b3) rfl rfl) (gY (i:=9) (j:=15) (by kernel_rfl) rfl rfl ?_ ?_)
  ·obtain ⟨a12,a13,q6,q7,q8⟩:=aH.lendS (i:=0) b4 (zL (zL a8 c7) b3) rfl
   obtain ⟨j6,q9,c⟩:=aB c
   refine zF call109 (oG q7 q6 q9) ?_
   rintro _ a14 ⟨j7,j8,rfl,r0⟩
   have g3:=q8 _ _ r0
   refine aX (aA ⟨fun _=>⟨_,g3⟩,?_⟩)
   refine gY (i:=14) (j:=15) (by kernel_rfl) rfl rfl ?_ ?_
   ·obtain ⟨a15,r1,r2,r3,r4⟩:=aH.lendS (i:=1) g3 (zL (zL a8 c7) b3) rfl
    obtain ⟨a16,r5,r6,r7,r8⟩:=aH.lendS (i:=0) r3 (zL (zL (zL a8 c7) b3) r1) rfl
    obtain ⟨m,r9,c⟩:=aB c
    refine zF call74 (mD r7 (r2.mono r5) r6 r9) ?_
    rintro _ a17 ⟨d7,d8,d9,e0,rfl,s0⟩
    have s1:=r8 _ _ s0
    have j9:=r4 _ _ s1
    refine aX (aA ⟨fun _=>⟨_,j9⟩,?_⟩)
    refine cC (i:=15) (by kernel_rfl) rfl (bR (vs:=d) zeroValue27 j9 rfl (fun k0 a18 k1=>(aX (aA ⟨fun _=>⟨_,k1⟩,?_⟩))))
    refine cC (i:=16) (by kernel_rfl) rfl ?_
    have s2:=g2 _ _ k1
    have s3:=g1 _ _ s2
    refine bS (i:=2) (ns:=(zC m d7 d8 d9 e0)) (us:=(zC m d7 d8 d9 e0)) sizeOf27 s3 rfl rfl rfl rfl rfl (cS rfl) rfl rfl (fun s4 (s5:aH G p (box b 139 [zS y q.length c45,zM (some a),zS z x.length J,Value.func (.func 71) #[] #[]]::box g 136 [zP (some ⟨b,0,none⟩)]::box k0 27 (zC m d7 d8 d9 e0)::aJ 9 K j7 j8 j6::aJ 141 K z J x::aJ 9 K d7 d8 m.L::aJ 69 K d9 e0 m.E::aJ 35 p y c45 q::fF a c6::box k 27 d::L) s4)=>(aX (aA ⟨aCh rfl,?_⟩)))
    refine dW (by kernel_rfl) (yW ?_);exact ⟨m.N,m.I,m.L,m.E,k0,d7,d8,d9,e0,c,f7,f8,rfl,(aH.arr 9 [6,5,2,4,7,8,0,1] s5 rfl)⟩
   ·refine bR (vs:=d) zeroValue27 g3 rfl (fun k2 a19 k3=>(aX (aA ⟨fun _=>⟨_,k3⟩,?_⟩)))
    refine cC (i:=14) (by kernel_rfl) rfl ?_;obtain ⟨a20,s6,s7,s8,s9⟩:=aH.lendS (i:=2) k3 (zL (zL a8 c7) b3) rfl
    obtain ⟨a21,t0,t1,t2,t3⟩:=aH.lendS (i:=1) s8 (zL (zL (zL a8 c7) b3) s6) rfl
    obtain ⟨n,t4,c⟩:=aB c
    refine zF call74 (mD t2 (s7.mono t0) t1 t4) ?_
    rintro _ a22 ⟨e1,e2,e3,e4,rfl,t5⟩
    have t6:=t3 _ _ t5
    have k4:=s9 _ _ t6
    refine aX (aA ⟨fun _=>⟨_,k4⟩,?_⟩)
    refine cC (i:=16) (by kernel_rfl) rfl ?_
    have t7:=g2 _ _ k4
    have t8:=g1 _ _ t7
    refine bS (i:=6) (ns:=(zC n e1 e2 e3 e4)) (us:=(zC n e1 e2 e3 e4)) sizeOf27 t8 rfl rfl rfl rfl rfl (cS rfl) rfl rfl (fun t9 (u0:aH G p (box b 139 [zS y q.length c45,zM (some a),zS z x.length J,Value.func (.func 71) #[] #[]]::box g 136 [zP (some ⟨b,0,none⟩)]::aJ 9 K j7 j8 j6::aJ 141 K z J x::aJ 9 K e1 e2 n.L::aJ 69 K e3 e4 n.E::box k2 27 (zC n e1 e2 e3 e4)::aJ 35 p y c45 q::fF a c6::box k 27 d::L) t9)=>(aX (aA ⟨aCh rfl,?_⟩)))
    refine dW (by kernel_rfl) (yW ?_);exact ⟨n.N,n.I,n.L,n.E,k2,e1,e2,e3,e4,c,f7,f8,rfl,(aH.arr 9 [5,4,6,3,7,8,0,1] u0 rfl)⟩
  ·refine bR (vs:=d) zeroValue27 b4 rfl (fun k6 a23 k7=>(aX (aA ⟨fun _=>⟨_,k7⟩,?_⟩)))
   refine cC (i:=9) (by kernel_rfl) rfl ?_;obtain ⟨a24,a25,u1,u2,u3⟩:=aH.lendS (i:=1) k7 (zL (zL a8 c7) b3) rfl
   obtain ⟨u4,u5,c⟩:=aB c
   refine zF call109 (oG u2 u1 u5) ?_
   rintro _ a26 ⟨u6,u7,rfl,u8⟩
   have k8:=u3 _ _ u8
   refine aX (aA ⟨fun _=>⟨_,k8⟩,?_⟩)
   refine cC (i:=14) (by kernel_rfl) rfl ?_;obtain ⟨a27,u9,v0,v1,v2⟩:=aH.lendS (i:=1) k8 (zL (zL a8 c7) b3) rfl
   obtain ⟨a28,v3,v4,v5,v6⟩:=aH.lendS (i:=0) v1 (zL (zL (zL a8 c7) b3) u9) rfl
   obtain ⟨o,v7,c⟩:=aB c
   refine zF call74 (mD v5 (v0.mono v3) v4 v7) ?_
   rintro _ a29 ⟨e5,e6,e7,e8,rfl,v8⟩
   have v9:=v6 _ _ v8
   have k9:=v2 _ _ v9
   refine aX (aA ⟨fun _=>⟨_,k9⟩,?_⟩)
   refine cC (i:=16) (by kernel_rfl) rfl ?_
   have w0:=g2 _ _ k9
   have w1:=g1 _ _ w0
   refine bS (i:=6) (ns:=(zC o e5 e6 e7 e8)) (us:=(zC o e5 e6 e7 e8)) sizeOf27 w1 rfl rfl rfl rfl rfl (cS rfl) rfl rfl (fun w2 (w3:aH G p (box b 139 [zS y q.length c45,zM (some a),zS z x.length J,Value.func (.func 71) #[] #[]]::box g 136 [zP (some ⟨b,0,none⟩)]::aJ 9 K u6 u7 u4::aJ 141 K z J x::aJ 9 K e5 e6 o.L::aJ 69 K e7 e8 o.E::box k6 27 (zC o e5 e6 e7 e8)::aJ 35 p y c45 q::fF a c6::box k 27 d::L) w2)=>(aX (aA ⟨aCh rfl,?_⟩)))
   refine dW (by kernel_rfl) (yW ?_);exact ⟨o.N,o.I,o.L,o.E,k6,e5,e6,e7,e8,c,f7,f8,rfl,(aH.arr 9 [5,4,6,3,7,8,0,1] w3 rfl)⟩
 have w4:=aH.nil (α:=gV) n5 141 K
 obtain ⟨a30,w5,c⟩:=aB c
 refine cE w5 (fun s f w=>match s with|(r,b9,u,a0)=>∃ c9 a2 a3 a5 a6 d0,Hp.le K c9/\f 2=Value.func (.func 73) #[] #[cL a4 k5]/\f 6=zP (some ⟨k,0,none⟩)/\f 9=zP (some ⟨g,0,none⟩)/\f 10=zP (some ⟨d0,0,none⟩)/\aH G c9 (aJ 141 K a5 a6 u::box d0 3 [i64 a0]::aJ 35 c9 a2 a3 r::fF a b9::box b 139 [zS a2 r.length a3,zM (some a),zS a5 u.length a6,Value.func (.func 71) #[] #[]]::box g 136 [zP (some ⟨b,0,none⟩)]::box k 27 d::L) w) ?_ ?_
 ·exact ⟨K,f5,f6,none,0,i6,(zR _),rfl,rfl,rfl,rfl,(aH.arr 5 [0,1,2,3] w4 rfl)⟩
 ·rintro ⟨r,b9,u,a0⟩ l0 f a31 l l1 ⟨c9,a2,a3,a5,a6,d0,d5,l2,g4,f0,g5,w6⟩
  replace l:kH c5 r b9 u a0=some l0:=l
  unfold kH at l
  refine yW ?_;refine dF (C:=fun w'=>aH G c9 (aJ 141 K a5 a6 u::box d0 3 [i64 a0]::aJ 35 c9 a2 a3 r::fF a b9::box b 139 [zS a2 r.length a3,zM (some a),zS a5 u.length a6,Value.func (.func 71) #[] #[]]::box g 136 [zP (some ⟨b,0,none⟩)]::box k 27 d::L) w') bV (by kernel_rfl) (aH.mono w6 (dG.drew _)) (yW ?_)
  refine dI (fun w7 l3=>(yW ?_))
  rcases aG l with ⟨w8,l⟩|⟨w8,l⟩
  ·refine yW ?_;refine cT (yW ?_)
   obtain ⟨d2,d3,w9,g6,_⟩:=aH.lendB (i:=1) l3 rfl
   replace g6:aH G d2 (aJ 141 K a5 a6 u::aJ 35 c9 a2 a3 r::fF a b9::box b 139 [zS a2 r.length a3,zM (some a),zS a5 u.length a6,Value.func (.func 71) #[] #[]]::box g 136 [zP (some ⟨b,0,none⟩)]::box k 27 d::L) w7:=g6
   refine kP (C:=fun w'=>∃ L',aH G d2 L' w') [] bV (by kernel_rfl) (fun l4 x0=>?_)
   have d1:=aH.mono g6 x0
   refine aHQ 0 ?_;refine aHQ 5 ?_
   refine cY (i:=8) rfl (by kernel_rfl) ⟨_,d1⟩ (fun _ _=>rC (vs:=[zP (some ⟨g,0,none⟩),cL (some ⟨d0,0,none⟩) 0]) (lst2 f0 (jS g5))) (cC (i:=1) (by kernel_rfl) rfl ?_)
   iterate 1 refine aIQ ?_
   refine aX (aA ⟨fun _=>⟨_,d1⟩,?_⟩)
   refine aHQ 2 ?_;refine aHQ 3 ?_
   refine cC (i:=4) (by kernel_rfl) rfl ?_
   iterate 1 refine aIQ ?_
   refine aX (aA ⟨fun _=>⟨_,d1⟩,?_⟩)
   obtain ⟨g7,g8,l⟩:=aB l
   have x1:=cU d1 (i:=1) rfl g8
   refine cY (i:=6) rfl (by kernel_rfl) ⟨_,d1⟩ (fun _ _=>dB iA rfl x1 rfl rfl rfl g8) (cC (i:=7) (by kernel_rfl) rfl ?_);obtain ⟨a33,x2,x3⟩:=aFK (sz:=1) rfl d1 (i:=1) rfl g8
   obtain ⟨g9,h0,rfl,x4⟩:=x3
   refine aC (R_ldC (t:=0) (v:=zS g9 g7.length h0) nI x2 rfl rfl) (aX (aA ⟨fun _=>⟨_,d1⟩,?_⟩))
   refine cC (i:=9) (by kernel_rfl) rfl ?_
   have x5:aH G d2 (aJ 141 K a5 a6 u::aJ 35 d2 a2 a3 r::fF a b9::box b 139 [zS a2 r.length a3,zM (some a),zS a5 u.length a6,Value.func (.func 71) #[] #[]]::box g 136 [zP (some ⟨b,0,none⟩)]::box k 27 d::L) l4:=aH.weak (i:=1) d1 rfl (fun _ h=>aJ.mono d3 h)
   have x6:aH G d2 (aJ 35 d2 a2 a3 r::fF a b9::aJ 141 K a5 a6 u::box b 139 [zS a2 r.length a3,zM (some a),zS a5 u.length a6,Value.func (.func 71) #[] #[]]::box g 136 [zP (some ⟨b,0,none⟩)]::box k 27 d::L) l4:=(aH.arr 3 [1,2,0] x5 rfl)
   obtain ⟨e,x7,l⟩:=aB l
   refine oV (vs:=[zS g9 g7.length h0,Value.func (.func 108) #[] #[zP (some ⟨g,0,none⟩),cL (some ⟨d0,0,none⟩) 0]]) (caps:=[cL a4 k5]) (us:=[zS g9 g7.length h0,Value.func (.func 108) #[] #[zP (some ⟨g,0,none⟩),cL (some ⟨d0,0,none⟩) 0],cL a4 k5]) rfl call73 rfl rfl (yJ (Kf:=d2) x6 hG (zR _) (x4.mono d3) w9 (h6.mono (zL d5 d3)) (h9.mono (zL d5 d3)) (m1.mono (zL d5 d3)) x7) ?_
   rintro _ a34 ⟨b5,c0,c1,c3,c4,rfl,h1,h2⟩
   refine aX (aA ⟨fun _=>⟨_,(aH.weakK h2 h1)⟩,?_⟩)
   refine aHQ 10 ?_;refine dW (by kernel_rfl) ?_
   iterate 2 refine aIQ ?_
   refine cQ (fun f w=>∃ h4,iM a0 e h4=some l0/\f 2=Value.func (.func 73) #[] #[cL a4 k5]/\f 6=zP (some ⟨k,0,none⟩)/\f 9=zP (some ⟨g,0,none⟩)/\f 10=cL (some ⟨d0,0,none⟩) 0/\f 48=Value.bool h4/\aH G b5 (aJ 35 b5 c0 c1 e.2.1::fF a e.2.2.1::aJ 141 K c3 c4 e.2.2.2::box b 139 [zS c0 e.2.1.length c1,zM (some a),zS c3 e.2.2.2.length c4,Value.func (.func 71) #[] #[]]::box g 136 [zP (some ⟨b,0,none⟩)]::box k 27 d::L) w) ?_ ?_
   ·rintro f a35 ⟨h4,l,x8,h5,x9,a36,a37,l5⟩
    unfold iM at l
    refine yW ?_
    rcases aG l with ⟨y0,l⟩|⟨y0,l⟩
    ·refine yW ?_;refine aC (dD (vs:=[]) (cs:=d) jT rfl (by kernel_rfl)) (bS (i:=5) (ns:=d) (us:=d) sizeOf27 l5 rfl h5 rfl rfl rfl (cS rfl) rfl rfl (fun y1 (y2:aH G b5 (aJ 35 b5 c0 c1 e.2.1::fF a e.2.2.1::aJ 141 K c3 c4 e.2.2.2::box b 139 [zS c0 e.2.1.length c1,zM (some a),zS c3 e.2.2.2.length c4,Value.func (.func 71) #[] #[]]::box g 136 [zP (some ⟨b,0,none⟩)]::box k 27 d::L) y1)=>(yW ?_)))
     refine bK (cA (aW (aW ?_)))
     have y3:=l1 _ (zI l).symm
     subst y3
     have c:(some (⟨0,0,[],[]⟩,[],false))=some R:=c
     have y4:=aH.nil (α:=bD) y2 9 K
     have y5:=aH.nil (α:=Edge) y4 69 K
     have l6:=aH.nil (α:=(List Int)) y5 35 b5
     obtain rfl:=zI c
     exact cA (aW (aW (rZ results70 (dM (vs:=d) rfl cZ l6 (i:=8) rfl h5 rfl) (gT rfl rfl) (gT rfl rfl) ⟨b5,none,0,none,0,none,0,rfl,(zL (zL d5 d3) h1),(aH.arr 9 [2,1,0] l6 rfl)⟩)))
    ·refine yW ?_;refine bR (vs:=[i64 0]) zeroValue3 l5 rfl (fun h7 a38 y7=>(bS (i:=0) (ns:=[i64 a0]) (us:=[i64 a0]) sizeOf3 y7 rfl rfl rfl rfl rfl (cS rfl) rfl rfl (fun y8 (y9:aH G b5 (box h7 3 [i64 a0]::aJ 35 b5 c0 c1 e.2.1::fF a e.2.2.1::aJ 141 K c3 c4 e.2.2.2::box b 139 [zS c0 e.2.1.length c1,zM (some a),zS c3 e.2.2.2.length c4,Value.func (.func 71) #[] #[]]::box g 136 [zP (some ⟨b,0,none⟩)]::box k 27 d::L) y8)=>(yW ?_))))
     refine bS (i:=0) (ns:=[i64 (wr (a0+1))]) (us:=[i64 (wr (a0+1))]) sizeOf3 y9 rfl rfl rfl rfl rfl (cS rfl) rfl rfl (fun z0 (z1:aH G b5 (box h7 3 [i64 (wr (a0+1))]::aJ 35 b5 c0 c1 e.2.1::fF a e.2.2.1::aJ 141 K c3 c4 e.2.2.2::box b 139 [zS c0 e.2.1.length c1,zM (some a),zS c3 e.2.2.2.length c4,Value.func (.func 71) #[] #[]]::box g 136 [zP (some ⟨b,0,none⟩)]::box k 27 d::L) z0)=>(yW ?_));exact ⟨(e.2.1,e.2.2.1,e.2.2.2,wr (a0+1)),(zI l).symm,b5,c0,c1,c3,c4,h7,(zL (zL d5 d3) h1),x8,h5,x9,rfl,(aH.arr 4 [3,0,1,2] z1 rfl)⟩
   refine yW ?_
   rcases aG l with ⟨z2,l⟩|⟨z2,l⟩
   ·refine yW ?_;exact ⟨true,l,l2,g4,f0,(jS g5),rfl,h2⟩
   ·refine yW ?_;exact ⟨decide (40 < (e.2.1.length:Int)),l,l2,g4,f0,(jS g5),rfl,h2⟩
  ·refine yW ?_
   have z3:=l1 _ (zI l).symm
   subst z3
   have c:(iL r b9 u)=some R:=c
   refine yW ?_;exact ⟨c9,r,b9,u,a2,a3,a5,a6,d5,c,g4,f0,(aH.arr 2 [0] l3 rfl)⟩
theorem iN {t:cO} {R:(cO × (List (List Int)) × Bool)} (hs:aH G K (L) w) (hG:G.lo=0) (V:cR K a1 c2 t.L) (h6:cR K a4 c5 t.E) (c:iD t=some R):
  Calls Tryz.prog 37 ([zA (zCa t a1 c2 a4 c5)]:List Value).toArray w (eN fun v w'=>∃ Z a7 a8 a9 b0 b1 b2,v=Value.tuple #[zA (zCa R.1 a7 a8 a9 b0),zS b1 R.2.1.length b2,Value.bool R.2.2]/\Hp.le K Z/\aH G Z (aJ 9 K a7 a8 R.1.L::aJ 69 K a9 b0 R.1.E::aJ 35 Z b1 b2 R.2.1::L) w'):=by
 let d:=zG
 let a0:=(zC t a1 c2 a4 c5)
 refine zH func37 ?_;unfold iD at c
 refine yW ?_;refine fS (v:=zA (zCa t a1 c2 a4 c5)) (vs:=a0) hs rfl rfl (fun b7 w8 d0=>(bR (vs:=d) zeroValue27 d0 rfl (fun o i1 d1=>(yW ?_))))
 refine bZ (Kt:=K) (xs:=([t.I]:List Int)) (cs:=[i64 t.I]) (vs:=[(0,i64 t.I)]) bY fC rfl rfl d1 rfl (by kernel_rfl) rfl rfl rfl ⟨rfl,trivial⟩ (fun p d2 (d3:aH G K (aJ 2 K p 1 ([t.I]:List Int)::box o 27 d::box b7 27 a0::L) d2)=>?_);obtain ⟨i2,b3,d4,d5,d6⟩:=aH.lendS (i:=0) d3 (zR _) rfl
 obtain ⟨i3,d7,c⟩:=aB c
 refine zF call68 (uU d5 (V.mono b3) (h6.mono b3) d4 d7) ?_
 rintro _ b4 ⟨i4,i5,rfl,d8⟩
 have d9:=d6 _ _ d8
 refine aC (rC (vs:=[zP (some ⟨b7,0,none⟩)]) rfl) ?_;obtain ⟨e0,g,e1,a3⟩:=aH.giveS (i:=1) d9 (zR _) rfl
 replace a3:aH G e0 (aJ 2 K p 1 ([t.I]:List Int)::box o 27 d::box b7 27 a0::L) b4:=a3
 obtain ⟨e2,e,b5,a5,_⟩:=aH.lendB (i:=2) a3 rfl
 replace a5:aH G e2 (aJ 2 K p 1 ([t.I]:List Int)::box o 27 d::L) b4:=a5
 obtain ⟨a,e3,c⟩:=aB c
 refine zF call70 (aAQ a5 hG (e1.mono e) b5 (V.mono (zL g e)) (h6.mono (zL g e)) e3) ?_
 rintro _ i6 ⟨h,j,k,l,m,y,c45,rfl,n,e4⟩
 refine yW ?_;refine bR (vs:=d) zeroValue27 e4 rfl (fun b6 i7 e5=>(bS (i:=0) (ns:=(zC a.1 j k l m)) (us:=(zC a.1 j k l m)) sizeOf27 e5 rfl rfl rfl rfl rfl (cS rfl) rfl rfl (fun e6 (b8:aH G h (box b6 27 (zC a.1 j k l m)::aJ 9 K j k a.1.L::aJ 69 K l m a.1.E::aJ 35 h y c45 a.2.1::aJ 2 K p 1 ([t.I]:List Int)::box o 27 d::L) e6)=>(yW ?_))))
 rcases aG c with ⟨e7,c⟩|⟨e7,c⟩
 ·refine yW ?_;refine aC (dD (vs:=[]) (cs:=d) jT rfl (by kernel_rfl)) (bS (i:=5) (ns:=d) (us:=d) sizeOf27 b8 rfl rfl rfl rfl rfl (cS rfl) rfl rfl (fun e8 (e9:aH G h (box b6 27 (zC a.1 j k l m)::aJ 9 K j k a.1.L::aJ 69 K l m a.1.E::aJ 35 h y c45 a.2.1::aJ 2 K p 1 ([t.I]:List Int)::box o 27 d::L) e8)=>(yW ?_)))
  have f0:=aH.nil (α:=bD) e9 9 K
  have f1:=aH.nil (α:=Edge) f0 69 K
  have b9:=aH.nil (α:=(List Int)) f1 35 h
  obtain rfl:=zI c
  exact bK (aW (rZ results37 (dM (vs:=d) rfl cZ b9 (i:=8) rfl rfl rfl) (gT rfl rfl) (gT rfl rfl) ⟨h,none,0,none,0,none,0,rfl,(zL (zL g e) n),(aH.arr 9 [2,1,0] b9 rfl)⟩))
 ·refine yW ?_;obtain ⟨c0,z,f3,c1,f4⟩:=aH.lendB (i:=0) b8 rfl
  refine dV (C:=fun w'=>∃ L',aH G c0 L' w') [(0,0),(1,0),(2,0),(3,0),(4,0),(7,0),(5,1),(6,1),(8,1),(9,2),(10,2)] bV (by kernel_rfl) (fun _ hg=>⟨_,aH.mono c1 hg⟩) (fun i8 f5=>?_)
  have J:=aH.mono c1 f5
  refine yW ?_;refine bX rfl (fun _ ⟨_,J⟩=>bE (t:=2) fX J (b5.mono (zL n z)) rfl rfl) (bX rfl (fun _ ⟨_,J⟩=>eU (t:=0) (vs:=(zC a.1 j k l m)) cZ J f3 rfl rfl rfl) (bX rfl (fun _ _=>bB (v:=zS y a.2.1.length c45) rfl) (gX rfl ?_)))
  obtain ⟨i9,f6,f7,f8,f9⟩:=aH.lendS (i:=0) J (zL (zL (zL g e) n) z) rfl
  obtain ⟨j0,g0,g1,g2,g3⟩:=aH.lendS (i:=0) f8 (zL (zL (zL (zL g e) n) z) f6) rfl
  obtain ⟨g4,g5,c⟩:=aB c
  refine zF call75 (aFm g2 (f7.mono g0) g1 g5) ?_
  rintro _ j1 ⟨g6,g7,rfl,g8⟩
  have g9:=g3 _ _ g8
  have c3:=f9 _ _ g9
  refine aX (aA ⟨⟨_,c3⟩,?_⟩)
  refine gX rfl ?_;obtain ⟨j2,h0,h1,h2,h4⟩:=aH.lendS (i:=2) c3 (zL (zL (zL g e) n) z) rfl
  obtain ⟨b,h5,c⟩:=aB c
  refine zF call74 (mD h2 (V.mono (zL (zL (zL (zL g e) n) z) h0)) h1 h5) ?_
  rintro _ j3 ⟨q,r,u,x,rfl,h7⟩
  have c4:=h4 _ _ h7
  refine aX (aA ⟨⟨_,c4⟩,?_⟩)
  refine gX rfl (bS (i:=7) (ns:=(zC b q r u x)) (us:=(zC b q r u x)) sizeOf27 c4 rfl rfl rfl rfl rfl (cS rfl) rfl rfl (fun h8 (c6:aH G c0 (aJ 141 K g6 g7 g4::aJ 9 K q r b.L::aJ 69 K u x b.E::aJ 9 K j k a.1.L::aJ 69 K l m a.1.E::aJ 35 h y c45 a.2.1::aJ 2 K p 1 ([t.I]:List Int)::box o 27 (zC b q r u x)::L) h8)=>(aX (aA ⟨⟨_,c6⟩,?_⟩))))
  have c7:=f4 _ _ c6
  refine aCl rfl (yW ?_);refine aCl rfl (yW ?_)
  refine gZ (yW ?_);obtain rfl:=zI c
  exact bK (rZ results37 (dM (vs:=(zC b q r u x)) rfl cZ c7 (i:=8) rfl rfl rfl) (gT rfl rfl) (gT rfl rfl) ⟨h,q,r,u,x,y,c45,rfl,(zL (zL g e) n),(aH.arr 9 [2,3,6] c7 rfl)⟩)
theorem jB {t:cO} {k:Int} {c:bD} {R:Int} (j:aH G K (L) w) (l:cR K a1 c2 t.L) (m:cR K a4 c5 t.E) (a:wY t k c=some R):
  Calls Tryz.prog 95 ([zA (zCa t a1 c2 a4 c5),i64 k,str c]:List Value).toArray w (eN fun v w'=>v=i64 R/\aH G K (L) w'):=by
 let d:=(zC t a1 c2 a4 c5)
 refine zH func95 ?_;unfold wY at a
 refine yW ?_;refine fS (v:=zA (zCa t a1 c2 a4 c5)) (vs:=d) j rfl rfl (fun n w8 e=>(yW ?_))
 rcases aG a with ⟨o,a⟩|⟨o,a⟩
 ·refine yW ?_;obtain rfl:=zI a
  exact bK (aW (bM results95 rfl ⟨rfl,(aH.arr 1 [] e rfl)⟩))
 ·refine yW ?_;refine bZ (Kt:=K) (xs:=([k]:List Int)) (cs:=[i64 k]) (vs:=[(0,i64 k)]) bY fC rfl rfl e rfl (by kernel_rfl) rfl rfl rfl ⟨rfl,trivial⟩ (fun q r (u:aH G K (aJ 2 K q 1 ([k]:List Int)::box n 27 d::L) r)=>(yW ?_))
  obtain ⟨a6,g,x,y,z⟩:=aH.lendS (i:=0) u (zR _) rfl
  obtain ⟨a7,J,a⟩:=aB a
  refine zF call104 (qY y (l.mono g) (m.mono g) x J) ?_
  rintro _ a8 ⟨a9,b0,rfl,V⟩
  have b:=z _ _ V
  refine yW ?_
  rcases aG a with ⟨Z,a⟩|⟨Z,a⟩
  ·refine yW ?_;obtain ⟨b1,h,a⟩:=aB a
   have a0:=cU b (i:=1) rfl h
   refine aC (dB bY rfl a0 rfl rfl rfl h) (yW ?_);obtain rfl:=zI a
   exact bK (aW (bM results95 rfl ⟨rfl,(aH.arr 3 [] b rfl)⟩))
  ·refine yW ?_;obtain rfl:=zI a
   exact aIK results95 ⟨rfl,(aH.arr 3 [] b rfl)⟩
end Gv
