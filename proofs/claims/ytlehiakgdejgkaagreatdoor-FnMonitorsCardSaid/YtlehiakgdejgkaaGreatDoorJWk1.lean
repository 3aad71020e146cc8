/- Walks, printed by program. -/
import Derived.Test.YtlehiakgdejgkaaGreatDoorJLW
import Derived.Test.YtlehiakgdejgkaaGreatDoorJMd
import Derived.Test.YtlehiakgdejgkaaGreatDoorJT
set_option linter.all false
namespace Gv
open Go.Value renaming slice→zS,bool→zB
open Option.some renaming inj→zI
open Gv.Hp renaming le_refl→zR
open Go Go.Proofs Go.Proofs.Tryz
set_option maxRecDepth 20000
set_option maxHeartbeats 40000000
variable {G:Env} {K:Hp} {L:List iI} {w:World} {a1 a4 a7:Option Addr} {c2 c5 c8:Nat}
theorem aJA {a:(List aJ)} {R:((List Int) × Bool)} (hm:zN a=some R) (k:aD G K (L) w) (n:G.lo=0) (o:aW K a1 c2 a):
  Calls Tryz.prog 158 ([zS a1 a.length c2]:List Value).toArray w (dS fun v w'=>∃ c d,v=Value.tuple #[zS c R.1.length d,zB R.2]/\aD G K (aH 2 K c d R.1::L) w'):=by
 refine cM func158 ?_;unfold zN at hm
 refine aF ?_;refine aK [] (fun f w=>∃ b e g,aGg b=some R/\f 4=zS e b.length g/\aD G K (aH 2 K e g b::L) w) aI ?_
 have p:=aD.nil (α:=Int) k 2 K
 obtain ⟨q,l,ho⟩:=aB hm
 exact bV [9,10] l (fun h m f w=>∃ i j,f 4=zS i h.length j/\f 11=i64 m/\aD G K (aH 2 K i j h::L) w) aI aI
theorem aNU {c:(List Int)} {d R:aJ} (hm:aEi c d=some R) (q:aD G K (L) w) (hG:G.lo=0) (r:aW K a1 c2 c):
  Calls Tryz.prog 51 ([zS a1 c.length c2,str d]:List Value).toArray w (dS fun v w'=>v=str R/\aD G K (L) w'):=by
 refine cM func51 ?_;unfold aEi at hm
 refine aF ?_;obtain ⟨a,u,hm⟩:=aB hm
 refine aLu (e:=([]:aJ)) eM aGf rfl rfl q rfl rfl rfl u rfl (fun b x (a9:aD G K (aH 9 K b a.length a::L) x)=>(aF ?_));refine aK [1] (fun f w=>∃ g,aHL d g=some R/\f 5=zS b g.length a.length/\aD G K (aH 9 K b a.length g::L) w) aI ?_
 obtain ⟨b0,y,ho⟩:=aB hm
 refine bV [1,11,12] y (fun j l f w=>f 5=zS b j.length a.length/\f 13=i64 l/\aD G K (aH 9 K b a.length j::L) w) aI ?_
 ·rintro j l b1 f b2 hm hr ⟨z,b3,J⟩
  unfold aCw at hm
  refine aF ?_
  rcases aG hm with ⟨V,hm⟩|⟨V,hm⟩
  ·refine aF ?_;refine cA (aF ?_)
   obtain ⟨b4,Z,hm⟩:=aB hm
   refine aF ?_;obtain ⟨b5,b6,a0⟩:=aW.el (sz:=1) rfl r Z
   cases a0
   refine aF ?_;obtain ⟨m,a2,hm⟩:=aB hm
   refine cC call52 (aLE J a2) ?_
   rintro _ b7 ⟨rfl,o⟩
   obtain ⟨b8,k,hm⟩:=aB hm
   have a3:=bS o (i:=0) rfl k
   refine aM (cS eM rfl a3 rfl rfl rfl k) ?_;obtain ⟨a4,p,hm⟩:=aB hm
   refine oO (i:=0) (t:=0) (ns:=[str m]) (e':=(m:aJ)) sizeOf9 o rfl (zR _) rfl rfl rfl k p rfl rfl (nI rfl) rfl (fun cs h=>by cases h;rfl) (fun a5 (a7:aD G K (aH 9 K b a.length a4::L) a5)=>(aF ?_));exact ⟨_,(zI hm).symm,bD,(Eq.trans z (congrArg (fun n=>zS b n a.length) (jM p))),rfl,a7⟩
  ·exact aI
theorem aMM {c:UInt8} {R:Bool} (hm:aII c=some R) (b:aD G K (L) w):
  Calls Tryz.prog 257 ([Value.int .u8 (c.toNat:Int)]:List Value).toArray w (dS fun v w'=>v=zB R/\aD G K (L) w'):=by
 refine cM func257 ?_;unfold aII at hm
 iterate 6 refine cE ?_
 exact aY [] (fun f w=>∃ a,aGI a=some R/\f 2=zB a/\aD G K (L) w) aI aI
theorem aNV {a:aJ} {R:Bool} (hm:aHN a=some R) (j:aD G K (L) w):
  Calls Tryz.prog 239 ([str a]:List Value).toArray w (dS fun v w'=>v=zB R/\aD G K (L) w'):=by
 refine cM func239 ?_;unfold aHN at hm
 iterate 9 refine cE ?_
 refine aM (aEd runUnderlying9 rfl) (aF ?_);refine aK [0] (fun f w=>aFh a=some R/\aD G K (L) w) ?_ ?_
 ·rintro f k ⟨hm,l⟩
  unfold aFh at hm
  iterate 2 refine cE ?_
  exact aY [] (fun f w=>∃ d,aHM d=some R/\f 2=zB d/\aD G K (L) w) aI aI
 obtain ⟨m,h,ho⟩:=aB hm
 refine dX [0,6] h (fun b f w=>f 7=i64 b/\aD G K (L) w) aI ?_
 ·rintro b e f n hm hr ⟨o,p⟩
  unfold aAG at hm
  refine aF ?_
  rcases aG hm with ⟨i,hm⟩|⟨i,hm⟩
  ·refine aF ?_;refine cA ?_
   iterate 7 refine cE ?_
   refine aY [0,3,6,7] (fun f w=>∃ c,tI a b c=some e/\f 4=zB c/\aD G K (L) w) ?_ ?_
   ·rintro f q ⟨c,hm,r,t⟩
    unfold tI at hm
    iterate 2 refine cE ?_
    exact aY [0,6,7] (fun f w=>∃ g,aCx b g=some e/\f 32=zB g/\aD G K (L) w) aI aI
   exact aI
  ·exact aI
theorem aLQ {a:aJ} {R:Bool} (hm:aEj a=some R) (c:aD G K (L) w):
  Calls Tryz.prog 208 ([str a]:List Value).toArray w (dS fun v w'=>v=zB R/\aD G K (L) w'):=by
 refine cM func208 ?_;unfold aEj at hm
 iterate 6 refine cE ?_
 exact aY [] (fun f w=>∃ b,aCh b=some R/\f 2=zB b/\aD G K (L) w) aI aI
theorem aNW {n low a:Int} {R:Bool} (hm:uD n low a=some R) (c:aD G K (L) w):
  Calls Tryz.prog 26 ([i64 n,i64 low,i64 a]:List Value).toArray w (dS fun v w'=>v=zB R/\aD G K (L) w'):=by
 refine cM func26 ?_;unfold uD at hm
 iterate 6 refine cE ?_
 exact aY [] (fun f w=>∃ b,aFi b=some R/\f 6=zB b/\aD G K (L) w) aI aI
theorem aMN {n:Int} {R:Bool} (hm:aKT n=some R) (a:aD G K (L) w):
  Calls Tryz.prog 241 ([i64 n]:List Value).toArray w (dS fun v w'=>v=zB R/\aD G K (L) w'):=by
 exact aI
theorem aDl {n:Int} {R:Bool} (hm:aEk n=some R) (a:aD G K (L) w):
  Calls Tryz.prog 240 ([i64 n]:List Value).toArray w (dS fun v w'=>v=zB R/\aD G K (L) w'):=by
 exact aI
theorem xA {a:(List Int)} {R:Int} (hm:gI a=some R) (l:aD G K (L) w) (d:aW K a1 c2 a):
  Calls Tryz.prog 72 ([zS a1 a.length c2,Value.func (.func 240) #[] #[]]:List Value).toArray w (dS fun v w'=>v=i64 R/\aD G K (L) w'):=by
 refine cM func72 ?_;unfold gI at hm
 refine aF ?_;refine aK [] (fun f w=>nJ=some R/\aD G K (L) w) aI ?_
 obtain ⟨m,e,ho⟩:=aB hm
 refine dX [0,1,7] e (fun b f w=>f 8=i64 b/\aD G K (L) w) aI ?_
 ·rintro b n f o hm hr ⟨p,g⟩
  unfold dH at hm
  refine aF ?_
  rcases aG hm with ⟨h,hm⟩|⟨h,hm⟩
  ·refine aF ?_;refine cA (aF ?_)
   obtain ⟨c,i,hm⟩:=aB hm
   refine aF ?_;obtain ⟨q,r,j⟩:=aW.el (sz:=1) rfl d i
   cases j
   refine aF ?_;obtain ⟨t,k,hm⟩:=aB hm
   exact fR (vs:=[i64 c]) (caps:=[]) (us:=[i64 c]) rfl call240 rfl rfl (aDl k g) aI
  ·exact aI
theorem uL {a:(List Int)} {R:Bool} (hm:iU a=some R) (b:aD G K (L) w) (c:aW K a1 c2 a):
  Calls Tryz.prog 24 ([zS a1 a.length c2,Value.func (.func 240) #[] #[]]:List Value).toArray w (dS fun v w'=>v=zB R/\aD G K (L) w'):=by
 exact aI
theorem aKW {a:(List Int)} {R:Bool} (hm:aFj a=some R) (b:aD G K (L) w) (c:aW K a1 c2 a):
  Calls Tryz.prog 209 ([zS a1 a.length c2]:List Value).toArray w (dS fun v w'=>v=zB R/\aD G K (L) w'):=by
 exact aI
theorem aHW {b:aJ} {a:(List Int)} {R:(aJ × Bool)} (hm:aGh b a=some R) (e:aD G K (L) w) (g:G.lo=0) (h:aW K a1 c2 a):
  Calls Tryz.prog 161 ([str b,zS a1 a.length c2]:List Value).toArray w (dS fun v w'=>v=Value.tuple #[str R.1,zB R.2]/\aD G K (L) w'):=by
 refine cM func161 ?_;unfold aGh at hm
 refine aF ?_;refine cA (aF ?_)
 rcases aG hm with ⟨d,hm⟩|⟨d,hm⟩
 ·exact aI
 ·iterate 2 refine cE ?_
  exact aY [0,1] (fun f w=>∃ c,aBc b a c=some R/\f 12=zB c/\aD G K (L) w) aI aI
theorem yA {a b:aJ} {R:Bool} (hm:gN a b=some R) (d:aD G K (L) w):
  Calls Tryz.prog 238 ([str a,str b]:List Value).toArray w (dS fun v w'=>v=zB R/\aD G K (L) w'):=by
 refine cM func238 ?_;unfold gN at hm
 iterate 6 refine cE ?_
 exact aY [] (fun f w=>∃ c,fK c=some R/\f 4=zB c/\aD G K (L) w) aI aI
theorem xB {a b R:aJ} (hm:kF a b=some R) (c:aD G K (L) w):
  Calls Tryz.prog 207 ([str a,str b]:List Value).toArray w (dS fun v w'=>v=str R/\aD G K (L) w'):=by
 exact aI
theorem aEX {a b R:aJ} (hm:pW a b=some R) (c:aD G K (L) w):
  Calls Tryz.prog 160 ([str a,str b]:List Value).toArray w (dS fun v w'=>v=str R/\aD G K (L) w'):=by
 exact aI
theorem aKX {d:aJ} {R:(aJ × (List Int) × Bool)} (hm:aFk d=some R) (j:aD G K (L) w) (k:G.lo=0):
  Calls Tryz.prog 135 ([str d]:List Value).toArray w (dS fun v w'=>∃ e g,v=Value.tuple #[str R.1,zS e R.2.1.length g,zB R.2.2]/\aD G K (aH 2 K e g R.2.1::L) w'):=by
 refine cM func135 ?_;unfold aFk at hm
 refine aF ?_;obtain ⟨h,l,hm⟩:=aB hm
 refine cC call157 (lib_Cut j l) ?_
 rintro _ t ⟨rfl,u⟩
 iterate 14 refine cE ?_
 refine mZ [0,5] (fun f w=>∃ a b c,rW d h a=some R/\f 8=zS b a.length c/\aD G K (aH 2 K b c a::L) w) ?_ ?_
 ·rintro f x ⟨a,b,c,hm,y,m⟩
  unfold rW at hm
  refine aF ?_;obtain ⟨z,J,n,o,p⟩:=aD.lendSp m (zR _) .head
  obtain ⟨V,q,hm⟩:=aB hm
  refine cC call161 (aHW q o k n) ?_
  rintro _ Z ⟨rfl,r⟩
  have a0:=p _ _ r
  iterate 8 refine cE ?_
  exact aY [5,8] (fun f w=>∃ i,wJ h a i=some R/\f 40=zB i/\aD G K (aH 2 K b c a::L) w) aI aI
 exact aI
theorem aMO {a:aJ} {R:Bool} (hm:aGi a=some R) (b:aD G K (L) w) (c:G.lo=0):
  Calls Tryz.prog 92 ([str a]:List Value).toArray w (dS fun v w'=>v=zB R/\aD G K (L) w'):=by
 exact aI
theorem aHX {a:(List UInt8)} {R:Bool} (hm:aKU a=some R) (b:aD G K (L) w) (c:aW K a1 c2 a):
  Calls Tryz.prog 4 ([zS a1 a.length c2]:List Value).toArray w (dS fun v w'=>v=zB R/\aD G K (L) w'):=by
 exact aI
theorem aHY {a:(List UInt8)} {R:(Int × Int)} (hm:aKV a=some R) (c:aD G K (L) w) (d:aW K a1 c2 a):
  Calls Tryz.prog 14 ([zS a1 a.length c2]:List Value).toArray w (dS fun v w'=>∃ b,v=Value.pointer (some ⟨b,0,none⟩)/\aD G K (box b 89 [zS a1 a.length c2,i64 R.1,Value.int .u64 R.2]::L) w'):=by
 exact aI
theorem aCs {t:aS} {a:Nat} {R:aS} (hm:aCy t=some R) (g:aD G K (L) w) (h:cT K a1 a (zC t a4 c5 a7 c8)) (i:aW K a4 c5 t.L) (j:aW K a7 c8 t.E):
  Calls Tryz.prog 44 ([cD a1 a]:List Value).toArray w (dS fun v w'=>∃ b c d e,v=Value.agg (zCa R b c d e)/\aD G K (aH 9 K b c R.L::aH 52 K d e R.E::L) w'):=by
 refine cM func44 ?_;unfold aCy at hm
 refine aF ?_;refine iN fun k l m=>?_
 refine aF ?_;refine wI [(0,0),(1,0),(2,0),(3,0),(4,0),(5,0),(6,0),(7,0),(8,0),(9,1),(10,2)] fun n o=>?_
 exact aI
theorem aEz {a:(List aJ)} {b:aJ} {R:Int} (hm:aDR a b=some R) (e:aD G K (L) w) (g:aW K a1 c2 a):
  Calls Tryz.prog 132 ([zS a1 a.length c2,str b]:List Value).toArray w (dS fun v w'=>v=i64 R/\aD G K (L) w'):=by
 refine cM func132 ?_;unfold aDR at hm
 refine aF ?_;refine aK [] (fun f w=>aKa=some R/\aD G K (L) w) aI ?_
 obtain ⟨h,c,ho⟩:=aB hm
 exact dX [0,1] c (fun d f w=>f 5=i64 d/\aD G K (L) w) aI aI
theorem aHZ {q R:(List aJ)} (hm:aDS q=some R) (hs:aD G K (L) w) (h3:aW K a1 c2 q):
  Calls Tryz.prog 131 ([zS a1 q.length c2]:List Value).toArray w (dS fun v w'=>∃ J V,v=zS J R.length V/\aD G K (aH 9 K J V R::L) w'):=by
 refine cM func131 ?_;unfold aDS at hm
 refine aF ?_;refine lI ([([116,97,117]:aJ)]:List aJ) fun a4 w5 e6=>?_
 refine aF ?_;refine aK [] (fun f w=>∃ r Z c9,aKb r=some R/\f 3=zS Z r.length c9/\aD G K (aH 9 K Z c9 r::L) w) aI ?_
 obtain ⟨e7,b6,ho⟩:=aB hm
 refine bV [0] b6 (fun c g f w=>∃ d e,f 3=zS d c.length e/\f 4=i64 g/\aD G K (aH 9 K d e c::L) w) aI ?_
 ·rintro c g u f e8 hm hr ⟨d,e,e9,f0,b7⟩
  unfold tM at hm
  refine aF ?_
  rcases aG hm with ⟨b8,hm⟩|⟨b8,hm⟩
  ·refine aF ?_;refine aK [0,4] (fun f w=>∃ j k l,xN g j=some u/\f 3=zS k j.length l/\aD G K (aH 9 K k l j::L) w) ?_ ?_
   ·rintro f f1 ⟨j,k,l,hm,b9,c0⟩
    unfold xN at hm
    refine aF ?_;exact ⟨_,(zI hm).symm,bD,k,l,b9,rfl,c0⟩
   refine aF ?_;obtain ⟨m,c1,hm⟩:=aB hm
   refine aF ?_;obtain ⟨f2,f3,c3⟩:=aW.el (sz:=1) rfl h3 c1
   cases c3
   refine aF ?_;obtain ⟨f4,f5,c4,c5,c6⟩:=aD.lendSp b7 (zR _) .head
   obtain ⟨f6,c7,hm⟩:=aB hm
   refine cC call132 (aEz c7 c5 c4) ?_
   rintro _ f7 ⟨rfl,c8⟩
   have f8:=c6 _ _ c8
   refine aF ?_
   rcases aG hm with ⟨d0,hm⟩|⟨d0,hm⟩
   ·exact aI
   ·refine aF ?_;refine aK [0,3,4] (fun f w=>∃ o,aDy c g m o=some u/\f 5=i64 o/\aD G K (aH 9 K d e c::L) w) ?_ ?_
    ·rintro f f9 ⟨o,hm,g0,g1⟩
     unfold aDy at hm
     refine aF ?_;refine lI ([([]:aJ)]:List aJ) fun g2 g3 g4=>?_
     obtain ⟨g5,g6,hm⟩:=aB hm
     refine aGF fun a b g7 g8=>?_;refine aF ?_
     refine aK [0,4,5] (fun f w=>∃ p,aDx g m o p=some u/\f 3=zS a p.length b/\aD G K (aH 9 K a b p::L) w) ?_ ?_
     ·rintro f g9 ⟨p,hm,d1,a2⟩
      unfold aDx at hm
      refine aF ?_;obtain ⟨h0,x,hm⟩:=aB hm
      have d2:=bS a2 (i:=0) rfl x
      refine aM (cS eM rfl d2 rfl rfl rfl x) ?_;obtain ⟨a3,a5,hm⟩:=aB hm
      refine oO (i:=0) (t:=0) (ns:=[str m]) (e':=(m:aJ)) sizeOf9 a2 rfl (zR _) rfl rfl rfl x a5 rfl rfl (nI rfl) rfl (fun cs h=>by cases h;rfl) (fun d3 (d4:aD G K (aH 9 K a b a3::L) d3)=>(aF ?_));exact ⟨bD,a3,a,b,hm,(Eq.trans d1 (congrArg (fun n=>zS a n b) (jM a5))),d4⟩
     obtain ⟨h1,d5,ho⟩:=aB hm
     refine bV [0,4,5] d5 (fun y a6 f w=>f 3=zS a y.length b/\f 6=i64 a6/\aD G K (aH 9 K a b y::L) w) aI ?_
     ·rintro y a6 h2 f h4 hm hr ⟨d6,h5,a7⟩
      unfold aBd at hm
      refine aF ?_
      rcases aG hm with ⟨d7,hm⟩|⟨d7,hm⟩
      ·refine aF ?_;refine cA (aF ?_)
       obtain ⟨a9,b0,hm⟩:=aB hm
       have b1:=bS a7 (i:=0) rfl b0
       refine aM (cS eM rfl b1 rfl rfl rfl b0) (aF ?_);obtain ⟨h6,b2,hm⟩:=aB hm
       refine aM (cS eM rfl b1 rfl rfl rfl b2) ?_;obtain ⟨d8,b3,hm⟩:=aB hm
       refine oO (i:=0) (t:=0) (ns:=[str a9]) (e':=(a9:aJ)) sizeOf9 a7 rfl (zR _) rfl rfl rfl b2 b3 rfl rfl (nI rfl) rfl (fun cs h=>by cases h;rfl) (fun d9 (e0:aD G K (aH 9 K a b d8::L) d9)=>(aF ?_));exact ⟨_,(zI hm).symm,bD,(Eq.trans d6 (congrArg (fun n=>zS a n b) (jM b3))),rfl,e0⟩
      ·exact aI
    obtain ⟨h7,e1,ho⟩:=aB hm
    refine dX [0,3,4] e1 (fun z f w=>f 5=i64 z/\aD G K (aH 9 K d e c::L) w) aI ?_
    ·rintro z e2 f h8 hm hr ⟨h9,i0⟩
     unfold xO at hm
     refine aF ?_;exact aY [0,3,4,5] (fun f w=>∃ b4,aBe z b4=some e2/\f 35=zB b4/\aD G K (aH 9 K d e c::L) w) aI aI
  ·exact aI
theorem aEA {a:Edge} {c:Nat} {b:Edge} {d:Nat} {R:Bool} (hm:aGj a b=some R) (e:aD G K (L) w) (g:cT K a1 c [i64 a.F,i64 a.B,i64 a.To]) (h:cT K a4 d [i64 b.F,i64 b.B,i64 b.To]):
  Calls Tryz.prog 88 ([cD a1 c,cD a4 d]:List Value).toArray w (dS fun v w'=>v=zB R/\aD G K (L) w'):=by
 exact aI
theorem aNX {c:(List Edge)} {e:Edge} {R:(List Edge)} (hm:aHO c e=some R) (hs:aD G K (aH 52 K a1 c2 c::L) w):
  Calls Tryz.prog 133 ([zS a1 c.length c2,Value.agg #[i64 e.F,i64 e.B,i64 e.To]]:List Value).toArray w (dS fun v w'=>∃ z J,v=zS z R.length J/\aD G K (aH 52 K z J R::L) w'):=by
 let d:=[i64 e.F,i64 e.B,i64 e.To]
 refine cM func133 ?_;unfold aHO at hm
 refine aF ?_;refine oE fun g w4 e8=>?_
 refine aF ?_;refine aK [0,3] (fun f w=>∃ k,aFm c e k=some R/\f 5=i64 k/\aD G K (box g 52 d::aH 52 K a1 c2 c::L) w) ?_ ?_
 ·rintro f w8 ⟨k,hm,e7,m⟩
  unfold aFm at hm
  refine aF ?_;refine aY [0,3,5] (fun f w=>∃ o,aAH c e k o=some R/\f 30=zB o/\aD G K (box g 52 d::aH 52 K a1 c2 c::L) w) ?_ ?_
  ·rintro f f1 ⟨o,hm,f2,f3⟩
   unfold aAH at hm
   refine aF ?_
   rcases aG hm with ⟨b2,hm⟩|⟨b2,hm⟩
   ·exact aI
   ·iterate 6 refine cE ?_
    refine aM (cK (vs:=[]) (cs:=[i64 0,i64 0,i64 0]) aJa rfl (by kernel_rfl)) (lI ([⟨0,0,0⟩]:List Edge) fun f4 f5 f6=>?_);obtain ⟨f7,f8,hm⟩:=aB hm
    refine aGF fun a b f9 g0=>?_;refine aF ?_
    refine aK [3,5] (fun f w=>∃ l,aFl e k l=some R/\f 0=zS a l.length b/\aD G K (box g 52 d::aH 52 K a b l::L) w) ?_ ?_
    ·rintro f g1 ⟨l,hm,b4,V⟩
     unfold aFl at hm
     refine aF ?_;obtain ⟨g2,p,hm⟩:=aB hm
     have b5:=bS V (i:=1) rfl p
     refine aM (cS iY rfl b5 rfl rfl rfl p) ?_;obtain ⟨Z,a0,hm⟩:=aB hm
     refine oO (i:=1) (t:=0) (ns:=d) (e':=(⟨e.F,e.B,e.To⟩:Edge)) sizeOf52 V rfl (zR _) rfl rfl rfl p a0 rfl rfl (nI rfl) rfl (fun cs h=>by cases h;rfl) (fun b6 (g3:aD G K (box g 52 d::aH 52 K a b Z::L) b6)=>?_)
     iterate 4 refine cE ?_
     refine cW (v:=zS a Z.length b) (Eq.trans b4 (congrArg (fun n=>zS a n b) (jM a0))) (aF ?_);obtain rfl:=zI hm
     exact st_E results133 ⟨a,b,rfl,lY⟩
    obtain ⟨g4,b8,ho⟩:=aB hm
    refine bV [3,5] b8 (fun q a2 f w=>f 0=zS a q.length b/\f 6=i64 a2/\aD G K (box g 52 d::aH 52 K a b q::L) w) aI ?_
    ·rintro q a2 g5 f g6 hm hr ⟨b9,g7,a3⟩
     unfold aCz at hm
     refine aF ?_
     rcases aG hm with ⟨c0,hm⟩|⟨c0,hm⟩
     ·refine aF ?_;refine cA (aF ?_)
      obtain ⟨j,a4,hm⟩:=aB hm
      have a5:=bS a3 (i:=1) rfl a4
      refine aM (cS iY rfl a5 rfl rfl rfl a4) (aF ?_);obtain ⟨g8,a6,hm⟩:=aB hm
      refine aM (cS iY rfl a5 rfl rfl rfl a6) ?_;obtain ⟨c1,a7,hm⟩:=aB hm
      refine oO (i:=1) (t:=0) (ns:=[i64 j.F,i64 j.B,i64 j.To]) (e':=(⟨j.F,j.B,j.To⟩:Edge)) sizeOf52 a3 rfl (zR _) rfl rfl rfl a6 a7 rfl rfl (nI rfl) rfl (fun cs h=>by cases h;rfl) (fun c3 (c4:aD G K (box g 52 d::aH 52 K a b c1::L) c3)=>(aF ?_));exact ⟨_,(zI hm).symm,bD,(Eq.trans b9 (congrArg (fun n=>zS a n b) (jM a7))),rfl,c4⟩
     ·exact aI
  refine aLO ?_;refine aF ?_
  rcases aG hm with ⟨c5,hm⟩|⟨c5,hm⟩
  ·refine aF ?_;obtain ⟨a8,a9,hm⟩:=aB hm
   have c6:=bS m (i:=1) rfl a9
   refine fS (fun _ m=>cS iY rfl c6 rfl rfl rfl a9) (aF ?_);refine fS (fun _ m=>R_eqlG (eq_52 (x:=a8) (y:=e)) rfl rfl) (aF ?_)
   refine wH (fun g9 c7=>(aF ?_));exact ⟨bD,decide ((a8:Edge)=e),hm,rfl,c7⟩
  ·exact aI
 obtain ⟨h0,c8,ho⟩:=aB hm
 refine dX [0,3] c8 (fun r f w=>f 5=i64 r/\aD G K (box g 52 d::aH 52 K a1 c2 c::L) w) aI ?_
 ·rintro r c9 f h1 hm hr ⟨h2,b0⟩
  unfold aAI at hm
  iterate 2 refine cE ?_
  refine aY [0,3,5] (fun f w=>∃ b1,aCA r b1=some c9/\f 17=zB b1/\aD G K (box g 52 d::aH 52 K a1 c2 c::L) w) aI (aF ?_)
  rcases aG hm with ⟨d0,hm⟩|⟨d0,hm⟩
  ·refine aF ?_;obtain ⟨h3,u,hm⟩:=aB hm
   have d1:=bS b0 (i:=1) rfl u
   refine aM (cS iY rfl d1 rfl rfl rfl u) (aF ?_);obtain ⟨h4,d2,d3,d4,d5⟩:=aD.lendBp b0 .head
   obtain ⟨h5,d6,d7,d8,d9⟩:=aD.lendSp d4 d2 .head
   obtain ⟨h6,e0,e1⟩:=aW.el (sz:=3) rfl d7 u
   cases e1
   obtain ⟨h7,e2,hm⟩:=aB hm
   refine cC call88 (aEA e2 d8 (d3.mono d6) e0) ?_
   rintro _ h8 ⟨rfl,e3⟩
   have e4:=d9 _ _ e3
   have h9:=d5 _ _ e4
   exact aI
  ·exact aI
theorem aMP {a b:Int} {g:(List aJ)} {edges:(List Edge)} {R:aS} (hm:aAJ a b g edges=some R) (hs:aD G K (L) w) (m:aW K a1 c2 g) (h6:aW K a4 c5 edges):
  Calls Tryz.prog 83 ([i64 a,i64 b,zS a1 g.length c2,zS a4 edges.length c5]:List Value).toArray w (dS fun v w'=>∃ n o p q,v=Value.agg (zCa R n o p q)/\aD G K (aH 9 K n o R.L::aH 52 K p q R.E::L) w'):=by
 refine cM func83 ?_;unfold aAJ at hm
 refine aF ?_;refine iN fun r w8 a2=>?_
 refine aF ?_;obtain ⟨c,a3,hm⟩:=aB hm
 refine cC call131 (aHZ a3 a2 m) ?_
 rintro _ c8 ⟨d,e,rfl,c9⟩
 refine lI ([]:List Edge) fun u d0 d1=>?_;refine aM (cK (vs:=[(0,i64 a),(1,i64 b),(2,zS d c.length e),(3,zS u ([]:List Edge).length 0)]) (cs:=[i64 a,i64 b,zS d c.length e,zS u ([]:List Edge).length 0]) aMF rfl (by kernel_rfl)) (iN fun x d2 d3=>?_)
 refine gM fun d4 d5=>?_;refine aF ?_
 refine aK [8,9] (fun f w=>∃ h y z,aKc a b c h=some R/\aD G K (aH 52 K y z h::box x 27 [i64 a,i64 b,zS d c.length e,zS y h.length z]::aH 9 K d e c::box r 27 zG::L) w) aI ?_;obtain ⟨d6,a5,ho⟩:=aB hm
 refine bV [2,3,8,9] a5 (fun i J f w=>∃ j k,f 10=i64 J/\aD G K (box x 27 [i64 a,i64 b,zS d c.length e,zS j i.length k]::aH 52 K j k i::aH 9 K d e c::box r 27 zG::L) w) aI ?_
 ·rintro i J d7 f d8 hm hr ⟨j,k,d9,e0⟩
  unfold xP at hm
  refine aF ?_
  rcases aG hm with ⟨a6,hm⟩|⟨a6,hm⟩
  ·refine aF ?_;refine cA (aF ?_)
   obtain ⟨e1,a7,hm⟩:=aB hm
   refine aF ?_;obtain ⟨e2,e3,a8⟩:=aW.el (sz:=3) rfl h6 a7
   cases a8
   refine aF ?_;refine iN fun e4 e5 e6=>?_
   refine gM fun e7 a9=>?_;refine aF ?_
   obtain ⟨e8,b0,b1,b2,b3⟩:=aD.lendBp a9 .head
   obtain ⟨e9,V,f0,f1,b4⟩:=aD.lendBp b2 .head
   refine wI [(0,0),(1,0),(2,0),(3,0),(4,0),(5,0),(6,0),(7,1),(8,0),(9,2)] fun f2 l=>?_;refine aF ?_
   refine cI rfl (fun _ ⟨_,l⟩=>bU (t:=1) lD l (b1.mono V) rfl rfl) ?_;obtain ⟨f3,b5,hm⟩:=aB hm
   refine aF ?_;obtain ⟨f4,f5,b6⟩:=aW.el (sz:=1) rfl m b5
   cases b6
   refine aF ?_;refine eQ rfl ?_
   obtain ⟨f6,f7,b8,b9,c0⟩:=aD.lendSp l (Hp.le_trans b0 V) (.tail .head)
   obtain ⟨f8,c1,hm⟩:=aB hm
   refine cC call132 (aEz c1 b9 b8) ?_
   rintro _ f9 ⟨rfl,c3⟩
   have Z:=c0 _ _ c3
   refine aL (aC ⟨⟨_,Z⟩,?_⟩)
   refine aF ?_
   have c4:=b4 _ _ Z
   have g0:=b3 _ _ c4
   exact aI
  ·exact aI
theorem aPo {n low a:Int} {R:Bool} (hm:aCi n low a=some R) (c:aD G K (L) w):
  Calls Tryz.prog 86 ([i64 n,i64 low,i64 a]:List Value).toArray w (dS fun v w'=>v=zB R/\aD G K (L) w'):=by
 refine cM func86 ?_;unfold aCi at hm
 iterate 6 refine cE ?_
 exact aY [] (fun f w=>∃ b,aJz b=some R/\f 6=zB b/\aD G K (L) w) aI aI
theorem aIa {a:aJ} {R:Int} (hm:aGk a=some R) (d:aD G K (L) w):
  Calls Tryz.prog 199 ([str a]:List Value).toArray w (dS fun v w'=>v=i64 R/\aD G K (L) w'):=by
 refine cM func199 ?_;unfold aGk at hm
 refine aF ?_;refine aK [0] (fun f w=>aKd a=some R/\aD G K (L) w) aI ?_
 obtain ⟨e,b,ho⟩:=aB hm
 exact dX [0] b (fun c f w=>f 3=i64 c/\aD G K (L) w) aI aI
theorem aLR {c:UInt8} {R:Bool} (hm:aEl c=some R) (b:aD G K (L) w):
  Calls Tryz.prog 230 ([Value.int .u8 (c.toNat:Int)]:List Value).toArray w (dS fun v w'=>v=zB R/\aD G K (L) w'):=by
 refine cM func230 ?_;unfold aEl at hm
 iterate 6 refine cE ?_
 exact aY [] (fun f w=>∃ a,aFM a=some R/\f 2=zB a/\aD G K (L) w) aI aI
theorem aHm {c:UInt8} {R:Bool} (hm:aEm c=some R) (b:aD G K (L) w):
  Calls Tryz.prog 231 ([Value.int .u8 (c.toNat:Int)]:List Value).toArray w (dS fun v w'=>v=zB R/\aD G K (L) w'):=by
 refine cM func231 ?_;unfold aEm at hm
 iterate 6 refine cE ?_
 exact aY [] (fun f w=>∃ a,aFN a=some R/\f 2=zB a/\aD G K (L) w) aI aI
theorem aMQ {a:aJ} {R:Bool} (hm:aDT a=some R) (j:aD G K (L) w):
  Calls Tryz.prog 200 ([str a]:List Value).toArray w (dS fun v w'=>v=zB R/\aD G K (L) w'):=by
 refine cM func200 ?_;unfold aDT at hm
 iterate 7 refine cE ?_
 refine aY [0] (fun f w=>∃ b,tN a b=some R/\f 16=zB b/\aD G K (L) w) ?_ ?_
 ·rintro f k ⟨b,hm,l,m⟩
  unfold tN at hm
  refine aF ?_
  rcases aG hm with ⟨e,hm⟩|⟨e,hm⟩
  ·exact aI
  ·refine aF ?_;refine aK [] (fun f w=>aGJ=some R/\aD G K (L) w) aI ?_
   obtain ⟨n,g,ho⟩:=aB hm
   refine dX [0] g (fun c f w=>f 3=i64 c/\aD G K (L) w) aI ?_
   ·rintro c h f o hm hr ⟨p,q⟩
    unfold aBf at hm
    iterate 5 refine cE ?_
    refine aM (aEd runUnderlying9 rfl) (aF ?_)
    rcases aG hm with ⟨i,hm⟩|⟨i,hm⟩
    ·refine aF ?_;refine cA ?_
     iterate 1 refine cE ?_
     exact aY [0,3] (fun f w=>∃ d,aDA c d=some h/\f 34=zB d/\aD G K (L) w) aI aI
    ·exact aI
 exact aI
theorem aKY {a:aJ} {R:Bool} (hm:aCB a=some R) (c:aD G K (L) w):
  Calls Tryz.prog 201 ([str a]:List Value).toArray w (dS fun v w'=>v=zB R/\aD G K (L) w'):=by
 refine cM func201 ?_;unfold aCB at hm
 iterate 6 refine cE ?_
 exact aY [] (fun f w=>∃ b,aBg b=some R/\f 2=zB b/\aD G K (L) w) aI aI
theorem aHn {d:aJ} {by_:UInt8} {R:(List aJ)} (hm:aEn d by_=some R) (J:aD G K (L) w):
  Calls Tryz.prog 202 ([str d,Value.int .u8 (by_.toNat:Int)]:List Value).toArray w (dS fun v w'=>∃ l m,v=zS l R.length m/\aD G K (aH 9 K l m R::L) w'):=by
 refine cM func202 ?_;unfold aEn at hm
 refine aF ?_;refine lI ([]:List aJ) fun V Z a0=>?_
 refine aF ?_;refine aK [0] (fun f w=>∃ e n o p,aFO d e n=some R/\f 5=zS o e.length p/\f 6=i64 n/\aD G K (aH 9 K o p e::L) w) aI ?_
 obtain ⟨a2,r,ho⟩:=aB hm
 refine lK [0,1] r (fun g q h f w=>∃ i j,f 5=zS i g.length j/\f 6=i64 q/\f 7=i64 h/\aD G K (aH 9 K i j g::L) w) aI ?_
 ·rintro g q h t f a3 hm hr ⟨i,j,a4,a6,a7,a8⟩
  unfold aCj at hm
  iterate 5 refine cE ?_
  refine aM (aEd runUnderlying9 rfl) (aF ?_)
  rcases aG hm with ⟨u,hm⟩|⟨u,hm⟩
  ·refine aF ?_;refine aK [0,1,7] (fun f w=>∃ a k b c,uU h a k=some t/\f 5=zS b a.length c/\f 6=i64 k/\aD G K (aH 9 K b c a::L) w) ?_ ?_
   ·rintro f a9 ⟨a,k,b,c,hm,x,y,z⟩
    unfold uU at hm
    refine aF ?_;exact ⟨_,(zI hm).symm,bD,b,c,x,y,rfl,z⟩
   exact aI
  ·exact aI
end Gv
namespace Gv
open Go.Value renaming slice→zS,bool→zB
open Option.some renaming inj→zI
open Gv.Hp renaming le_refl→zR
open Go Go.Proofs Go.Proofs.Tryz
set_option maxRecDepth 20000
set_option maxHeartbeats 40000000
variable {G:Env} {K:Hp} {L:List iI} {w:World} {a1 a4 a7 a10:Option Addr} {c2 c5 c8 c11:Nat}
theorem aGq {c:aJ} {R:(Int × Bool)} (hm:aAK c=some R) (u:aD G K (L) w):
  Calls Tryz.prog 203 ([str c]:List Value).toArray w (dS fun v w'=>v=Value.tuple #[i64 R.1,zB R.2]/\aD G K (L) w'):=by
 refine cM func203 ?_;unfold aAK at hm
 iterate 11 refine cE ?_
 refine mZ [0] (fun f w=>∃ d,rY c d=some R/\f 4=i64 d/\aD G K (L) w) ?_ ?_
 ·rintro f x ⟨d,hm,y,z⟩
  unfold rY at hm
  iterate 2 refine cE ?_
  refine aY [0,4] (fun f w=>∃ e,mG c d e=some R/\f 36=zB e/\aD G K (L) w) ?_ ?_
  ·rintro f J ⟨e,hm,V,Z⟩
   unfold mG at hm
   refine aF ?_
   rcases aG hm with ⟨l,hm⟩|⟨l,hm⟩
   ·exact aI
   ·refine aF ?_;refine aK [4] (fun f w=>∃ g,aBh d g=some R/\f 5=i64 g/\aD G K (L) w) ?_ ?_
    ·rintro f a0 ⟨g,hm,a1,a2⟩
     unfold aBh at hm
     iterate 1 refine cE ?_
     exact mZ [] (fun f w=>∃ i,aEo i=some R/\f 5=i64 i/\aD G K (L) w) aI aI
    obtain ⟨a3,m,ho⟩:=aB hm
    refine bV [0,4] m (fun h i32 f w=>f 5=i64 h/\f 6=i64 i32/\aD G K (L) w) aI ?_
    ·rintro h i32 a4 f a5 hm hr ⟨a6,n,o⟩
     unfold rX at hm
     iterate 5 refine cE ?_
     refine aM (aEd runUnderlying9 rfl) (aF ?_)
     rcases aG hm with ⟨p,hm⟩|⟨p,hm⟩
     ·refine aF ?_;refine cA (aF ?_)
      obtain ⟨c45,j,hm⟩:=aB hm
      refine aM (R_ixS runUnderlying9 rfl rfl j) ?_;obtain ⟨a7,q,hm⟩:=aB hm
      refine cC call231 (aHm q o) ?_
      rintro _ a8 ⟨rfl,r⟩
      refine aF ?_
      rcases aG hm with ⟨t,hm⟩|⟨t,hm⟩
      ·exact aI
      ·iterate 8 refine cE ?_
       exact aM (R_ixS runUnderlying9 rfl rfl j) (aM (aQe (a:=c45) (b:=(48:UInt8)) rfl rfl) (aM (aMy runUnderlying2 rfl ⟨_,runUnderlying5⟩) (aM (rO rfl rfl) (aT (v:=i64 (wr ((wr (10 * h))+(wr ((c45 - (48:UInt8)).toNat:Int))))) (aL (iC (aC (bR (cW n (aM (rO rfl rfl) (aT (v:=i64 (wr (i32+1))) (aU ⟨_,(zI hm).symm,bD,rfl,rfl,r⟩))))))))))))
     ·exact aI
  exact aI
 iterate 1 refine cE ?_
 exact aY [0,4] (fun f w=>∃ k,wK c k=some R/\f 14=zB k/\aD G K (L) w) aI aI
theorem aKZ {d:aJ} {R:((List Int) × Bool)} (hm:aFn d=some R) (u:aD G K (L) w):
  Calls Tryz.prog 156 ([str d]:List Value).toArray w (dS fun v w'=>∃ j k,v=Value.tuple #[zS j R.1.length k,zB R.2]/\aD G K (aH 2 K j k R.1::L) w'):=by
 refine cM func156 ?_;unfold aFn at hm
 refine aF ?_;obtain ⟨x,y,hm⟩:=aB hm
 refine cC call199 (aIa y u) ?_
 rintro _ w3 ⟨rfl,a8⟩
 iterate 8 refine cE ?_
 refine aM (aEd runUnderlying9 rfl) (aF ?_)
 rcases aG hm with ⟨z,hm⟩|⟨z,hm⟩
 ·exact aI
 ·iterate 5 refine cE ?_
  refine aY [0,4] (fun f w=>∃ e,rZ d x e=some R/\f 31=zB e/\aD G K (L) w) ?_ ?_
  ·rintro f a9 ⟨e,hm,b0,J⟩
   unfold rZ at hm
   refine aF ?_
   rcases aG hm with ⟨V,hm⟩|⟨V,hm⟩
   ·exact aI
   ·iterate 9 refine cE ?_
    refine aM (aEd runUnderlying9 rfl) (aF ?_);obtain ⟨b1,Z,hm⟩:=aB hm
    refine aM (R_slSLH runUnderlying9 rfl rfl rfl Z) ?_;obtain ⟨l,a0,hm⟩:=aB hm
    refine cC call202 (aHn (by_:=(44:UInt8)) a0 J) ?_
    rintro _ b2 ⟨m,n,rfl,b3⟩
    refine aF ?_;refine lI ([]:List Int) fun b4 b5 b6=>?_
    refine aF ?_;refine aK [] (fun f w=>∃ g o p,aEp g=some R/\f 6=zS o g.length p/\aD G K (aH 2 K o p g::L) w) aI ?_
    obtain ⟨b7,a1,ho⟩:=aB hm
    refine bV [5] a1 (fun a h f w=>∃ b c,f 6=zS b a.length c/\f 7=i64 h/\aD G K (aH 2 K b c a::aH 9 K m n l::L) w) aI ?_
    ·rintro a h a2 f b8 hm hr ⟨b,c,b9,c0,q⟩
     unfold wL at hm
     refine aF ?_
     rcases aG hm with ⟨a3,hm⟩|⟨a3,hm⟩
     ·refine aF ?_;refine cA (aF ?_)
      obtain ⟨c1,r,hm⟩:=aB hm
      have a4:=bS q (i:=1) rfl r
      refine aM (cS eM rfl a4 rfl rfl rfl r) (aF ?_);obtain ⟨a5,a6,hm⟩:=aB hm
      refine cC call203 (aGq a6 q) ?_
      rintro _ c2 ⟨rfl,c3⟩
      iterate 9 refine cE ?_
      exact aY [5,6,7,8] (fun f w=>∃ t,aBi a h a5 t=some a2/\f 61=zB t/\aD G K (aH 2 K b c a::aH 9 K m n l::L) w) aI aI
     ·exact aI
  exact aI
theorem aLS {a:aJ} {R:Bool} (hm:aGK a=some R) (b:aD G K (L) w):
  Calls Tryz.prog 134 ([str a]:List Value).toArray w (dS fun v w'=>v=zB R/\aD G K (L) w'):=by
 exact aI
theorem aLT {a:(List aJ)} {R:Bool} (hm:aEq a=some R) (j:aD G K (L) w) (k:aW K a1 c2 a):
  Calls Tryz.prog 87 ([zS a1 a.length c2]:List Value).toArray w (dS fun v w'=>v=zB R/\aD G K (L) w'):=by
 refine cM func87 ?_;unfold aEq at hm
 iterate 7 refine cE ?_
 refine aY [0] (fun f w=>∃ b,uW a b=some R/\f 17=zB b/\aD G K (L) w) ?_ ?_
 ·rintro f l ⟨b,hm,m,n⟩
  unfold uW at hm
  refine aF ?_
  rcases aG hm with ⟨e,hm⟩|⟨e,hm⟩
  ·exact aI
  ·refine aF ?_;refine aK [] (fun f w=>aJc=some R/\aD G K (L) w) aI ?_
   obtain ⟨o,g,ho⟩:=aB hm
   refine dX [0] g (fun c f w=>f 3=i64 c/\aD G K (L) w) aI ?_
   ·rintro c h f p hm hr ⟨q,r⟩
    unfold zO at hm
    refine aF ?_
    rcases aG hm with ⟨i,hm⟩|⟨i,hm⟩
    ·refine aF ?_;refine cA (aF ?_)
     exact aY [0,3] (fun f w=>∃ d,uV c d=some h/\f 52=zB d/\aD G K (L) w) aI aI
    ·exact aI
 exact aI
theorem aKj {t:aS} {e:Nat} {R:Bool} (hm:aFo t=some R) (hs:aD G K (L) w) (h3:cT K a1 e (zC t a4 c5 a7 c8)) (h6:aW K a4 c5 t.L) (g:aW K a7 c8 t.E):
  Calls Tryz.prog 42 ([cD a1 e]:List Value).toArray w (dS fun v w'=>v=zB R/\aD G K (L) w'):=by
 refine cM func42 ?_;unfold aFo at hm
 refine aF ?_;refine aY [0] (fun f w=>∃ c,aAw t c=some R/\f 39=zB c/\aD G K (L) w) ?_ ?_
 ·rintro f a5 ⟨c,hm,a6,a8⟩
  unfold aAw at hm
  refine aF ?_
  rcases aG hm with ⟨j,hm⟩|⟨j,hm⟩
  ·exact aI
  ·refine aF ?_;refine aK [] (fun f w=>aMJ=some R/\aD G K (L) w) aI ?_
   obtain ⟨a9,k,ho⟩:=aB hm
   refine dX [0] k (fun a f w=>f 3=i64 a/\aD G K (L) w) aI ?_
   ·rintro a h f b0 hm hr ⟨b1,b2⟩
    unfold aEr at hm
    refine aF ?_
    rcases aG hm with ⟨l,hm⟩|⟨l,hm⟩
    ·refine aF ?_;refine cA (aF ?_)
     obtain ⟨b,m,hm⟩:=aB hm
     refine aF ?_;obtain ⟨b3,b4,n⟩:=aW.el (sz:=3) rfl g m
     cases n
     refine aF ?_;refine iN fun o b5 b6=>?_
     refine gM fun b7 b8=>?_;refine aF ?_
     refine aY [0,3,4] (fun f w=>∃ d,aBZ t a b d=some h/\f 87=zB d/\aD G K (box o 52 [i64 b.F,i64 b.B,i64 b.To]::L) w) ?_ ?_
     ·rintro f b9 ⟨d,hm,c0,p⟩
      unfold aBZ at hm
      refine aF ?_
      rcases aG hm with ⟨q,hm⟩|⟨q,hm⟩
      ·exact aI
      ·iterate 4 refine cE ?_
       refine aY [0,3] (fun f w=>∃ i,aGL a i=some h/\f 100=zB i/\aD G K (L) w) aI (aF ?_)
       rcases aG hm with ⟨r,hm⟩|⟨r,hm⟩
       ·refine aF ?_;obtain ⟨c1,u,hm⟩:=aB hm
        refine aF ?_;obtain ⟨c2,x,y⟩:=aW.el (sz:=3) rfl g u
        cases y
        refine aF ?_;obtain ⟨c3,z,J,V,c4⟩:=aD.lendBp p .head
        obtain ⟨c6,Z,hm⟩:=aB hm
        exact cC call88 (aEA Z V (x.mono z) J) aI
       ·exact aI
     exact aI
    ·exact aI
 exact aI
theorem aHo {t:aS} {k:Nat} {c:(List Int)} {R:(List Bool)} (hm:aEs t c=some R) (r:aD G K (L) w) (h3:cT K a1 k (zC t a4 c5 a7 c8)) (h6:aW K a4 c5 t.L) (h9:aW K a7 c8 t.E) (u:aW K a10 c11 c):
  Calls Tryz.prog 111 ([cD a1 k,zS a10 c.length c11]:List Value).toArray w (dS fun v w'=>∃ l m,v=zS l R.length m/\aD G K (aH 4 K l m R::L) w'):=by
 refine cM func111 ?_;unfold aEs at hm
 refine aF ?_;obtain ⟨a,x,hm⟩:=aB hm
 refine aLu (e:=(false:Bool)) mF ez_4 rfl rfl r rfl rfl rfl x rfl (fun b y (b0:aD G K (aH 4 K b a.length a::L) y)=>(aF ?_));refine aK [] (fun f w=>∃ d,aJd d=some R/\f 5=zS b d.length a.length/\aD G K (aH 4 K b a.length d::L) w) aI ?_
 obtain ⟨b1,z,ho⟩:=aB hm
 refine bV [1] z (fun g o f w=>f 5=zS b g.length a.length/\f 6=i64 o/\aD G K (aH 4 K b a.length g::L) w) aI ?_
 ·rintro g o b2 f b3 hm hr ⟨J,b4,p⟩
  unfold aCk at hm
  refine aF ?_
  rcases aG hm with ⟨c45,hm⟩|⟨c45,hm⟩
  ·refine aF ?_;refine cA (aF ?_)
   obtain ⟨b5,V,hm⟩:=aB hm
   refine aF ?_;obtain ⟨b6,b7,Z⟩:=aW.el (sz:=1) rfl u V
   cases Z
   refine aF ?_;obtain ⟨b8,j,hm⟩:=aB hm
   have a0:=bS p (i:=0) rfl j
   refine aM (cS mF rfl a0 rfl rfl rfl j) ?_;obtain ⟨a2,q,hm⟩:=aB hm
   refine oO (i:=0) (t:=0) (ns:=[zB true]) (e':=(true:Bool)) sizeOf4 p rfl (zR _) rfl rfl rfl j q rfl rfl (nI rfl) rfl (fun cs h=>by cases h;rfl) (fun a3 (a5:aD G K (aH 4 K b a.length a2::L) a3)=>(aF ?_));exact ⟨_,(zI hm).symm,bD,(Eq.trans J (congrArg (fun n=>zS b n a.length) (jM q))),rfl,a5⟩
  ·exact aI
theorem aDb {t:aS} {x:Nat} {a R:(List Bool)} (hm:aAx t a=some R) (hs:aD G K (aH 4 K a10 c11 a::L) w) (h3:cT K a1 x (zC t a4 c5 a7 c8)) (h6:aW K a4 c5 t.L) (h9:aW K a7 c8 t.E):
  Calls Tryz.prog 112 ([cD a1 x,zS a10 a.length c11]:List Value).toArray w (dS fun v w'=>v=Value.tuple #[]/\a.length=R.length/\aD G K (aH 4 K a10 c11 R::L) w'):=by
 refine cM func112 ?_;unfold aAx at hm
 refine aF ?_;refine aK [] (fun f w=>∃ l,aJe l=some R/\a.length=l.length/\aD G K (aH 4 K a10 c11 l::L) w) aI ?_
 obtain ⟨d0,a5,ho⟩:=aB hm
 refine bV [0] a5 (fun g y f w=>f 1=zS a10 g.length c11/\f 4=zB y/\a.length=g.length/\aD G K (aH 4 K a10 c11 g::L) w) aI ?_
 ·rintro g y z f d1 hm hr ⟨d2,d3,d4,d5⟩
  unfold uY at hm
  refine aF ?_
  rcases aG hm with ⟨a6,hm⟩|⟨a6,hm⟩
  ·refine aF ?_;refine aK [0] (fun f w=>∃ d m,aCl d m=some z/\f 1=zS a10 d.length c11/\f 4=zB m/\a.length=d.length/\aD G K (aH 4 K a10 c11 d::L) w) ?_ ?_
   ·rintro f d6 ⟨d,m,hm,a8,a9,b0,b1⟩
    unfold aCl at hm
    refine aF ?_;exact ⟨_,(zI hm).symm,bD,a8,a9,b0,b1⟩
   refine aF ?_;refine aK [0] (fun f w=>∃ j J,aFP j J=some z/\f 1=zS a10 j.length c11/\f 4=zB J/\a.length=j.length/\aD G K (aH 4 K a10 c11 j::L) w) aI ?_
   obtain ⟨d7,b2,ho⟩:=aB hm
   refine lK [0] b2 (fun b o k f w=>f 1=zS a10 b.length c11/\f 4=zB o/\f 5=i64 k/\a.length=b.length/\aD G K (aH 4 K a10 c11 b::L) w) aI ?_
   ·rintro b o k V f d8 hm hr ⟨b3,d9,e0,e1,e2⟩
    unfold zU at hm
    refine aF ?_
    rcases aG hm with ⟨b4,hm⟩|⟨b4,hm⟩
    ·refine aF ?_;refine aK [0,5] (fun f w=>∃ e p,zQ k e p=some V/\f 1=zS a10 e.length c11/\f 4=zB p/\a.length=e.length/\aD G K (aH 4 K a10 c11 e::L) w) ?_ ?_
     ·rintro f e3 ⟨e,p,hm,b5,b6,b7,b8⟩
      unfold zQ at hm
      refine aF ?_;exact ⟨_,(zI hm).symm,bD,b5,b6,rfl,b7,b8⟩
     refine aF ?_;obtain ⟨c,b9,hm⟩:=aB hm
     refine aF ?_;obtain ⟨e4,e5,c0⟩:=aW.el (sz:=3) rfl h9 b9
     cases c0
     refine aF ?_;refine iN fun Z e6 e7=>?_
     refine gM fun e8 e9=>?_
     iterate 3 refine cE ?_
     refine aY [0,1,4,5,6] (fun f w=>∃ q,uX b o k c q=some V/\f 41=zB q/\a.length=b.length/\aD G K (box Z 52 [i64 c.F,i64 c.B,i64 c.To]::aH 4 K a10 c11 b::L) w) ?_ ?_
     ·rintro f f0 ⟨q,hm,f1,c1,a0⟩
      unfold uX at hm
      refine aF ?_
      rcases aG hm with ⟨c2,hm⟩|⟨c2,hm⟩
      ·refine aF ?_;obtain ⟨f2,r,hm⟩:=aB hm
       have c3:=bS a0 (i:=1) rfl r
       refine aM (cS mF rfl c3 rfl rfl rfl r) ?_;obtain ⟨a2,u,hm⟩:=aB hm
       refine oO (i:=1) (t:=0) (ns:=[zB true]) (e':=(true:Bool)) sizeOf4 a0 rfl (zR _) rfl rfl rfl r u rfl rfl (nI rfl) rfl (fun cs h=>by cases h;rfl) (fun c4 (f3:aD G K (box Z 52 [i64 c.F,i64 c.B,i64 c.To]::aH 4 K a10 c11 a2::L) c4)=>(aF ?_));exact ⟨bD,a2,true,hm,(Eq.trans b3 (congrArg (fun n=>zS a10 n c11) (jM u))),rfl,(c1.trans (jM u)),lY⟩
      ·exact aI
     exact aI
    ·exact aI
  ·exact aI
theorem aMR {row:(List Bool)} {R:(List Int)} (hm:aCa row=some R) (t:aD G K (L) w) (u:aW K a1 c2 row):
  Calls Tryz.prog 113 ([zS a1 row.length c2]:List Value).toArray w (dS fun v w'=>∃ j k,v=zS j R.length k/\aD G K (aH 2 K j k R::L) w'):=by
 refine cM func113 ?_;unfold aCa at hm
 refine aF ?_;refine lI ([]:List Int) fun x y z=>?_
 refine aF ?_;refine aK [] (fun f w=>∃ d l m,aKe d=some R/\f 3=zS l d.length m/\aD G K (aH 2 K l m d::L) w) aI ?_
 obtain ⟨J,n,ho⟩:=aB hm
 refine bV [0] n (fun e g f w=>∃ h i,f 3=zS h e.length i/\f 4=i64 g/\aD G K (aH 2 K h i e::L) w) aI ?_
 ·rintro e g o f V hm hr ⟨h,i,Z,a0,a2⟩
  unfold aBk at hm
  refine aF ?_
  rcases aG hm with ⟨p,hm⟩|⟨p,hm⟩
  ·refine aF ?_;refine aK [0,4] (fun f w=>∃ a b c,aBj g a=some o/\f 3=zS b a.length c/\aD G K (aH 2 K b c a::L) w) ?_ ?_
   ·rintro f a3 ⟨a,b,c,hm,q,r⟩
    unfold aBj at hm
    refine aF ?_;exact ⟨_,(zI hm).symm,bD,b,c,q,rfl,r⟩
   exact aI
  ·exact aI
theorem aDc {t:aS} {d:Nat} {R:(List Int)} (hm:tO t=some R) (hs:aD G K (L) w) (e:cT K a1 d (zC t a4 c5 a7 c8)) (g:aW K a4 c5 t.L) (h:aW K a7 c8 t.E):
  Calls Tryz.prog 60 ([cD a1 d]:List Value).toArray w (dS fun v w'=>∃ i j,v=zS i R.length j/\aD G K (aH 2 K i j R::L) w'):=by
 refine cM func60 ?_;unfold tO at hm
 refine aF ?_;refine lI ([t.I]:List Int) fun k a2 l=>?_
 obtain ⟨a3,a,m,o,p⟩:=aD.lendSp l (zR _) .head
 obtain ⟨q,r,hm⟩:=aB hm
 refine cC call111 (aHo r o (e.mono a) (g.mono a) (h.mono a) m) ?_
 rintro _ u ⟨b,c,rfl,x⟩
 have a5:=p _ _ x
 refine aF ?_
 have y:aD G K (aH 4 K b c q::aH 2 K k 1 ([t.I]:List Int)::L) u:=lY
 obtain ⟨z,J,hm⟩:=aB hm
 refine cC call112 (aDb J y e g h) ?_
 rintro _ a6 ⟨rfl,V,Z⟩
 iterate 4 refine cE ?_
 refine cW (v:=zS b z.length c) (Eq.trans rfl (congrArg (fun n=>zS b n c) V)) ?_;obtain ⟨a8,a9,b0,b1,b2⟩:=aD.lendSp Z (zR _) .head
 exact aI
theorem aNY {a:(List Int)} {n:Int} {R:Bool} (hm:aHP a n=some R) (d:aD G K (L) w) (e:aW K a1 c2 a):
  Calls Tryz.prog 114 ([zS a1 a.length c2,i64 n]:List Value).toArray w (dS fun v w'=>v=zB R/\aD G K (L) w'):=by
 refine cM func114 ?_;unfold aHP at hm
 refine aF ?_;refine aK [] (fun f w=>aLA=some R/\aD G K (L) w) aI ?_
 obtain ⟨g,b,ho⟩:=aB hm
 exact dX [0,1] b (fun c f w=>f 5=i64 c/\aD G K (L) w) aI aI
theorem aEB {t:aS} {o:Nat} {k:(List Int)} {p:Int} {R:(List Int)} (hm:xR t k p=some R) (V:aD G K (L) w) (Z:cT K a1 o (zC t a4 c5 a7 c8)) (h6:aW K a4 c5 t.L) (q:aW K a7 c8 t.E) (c3:aW K a10 c11 k):
  Calls Tryz.prog 62 ([cD a1 o,zS a10 k.length c11,i64 p]:List Value).toArray w (dS fun v w'=>∃ r u,v=zS r R.length u/\aD G K (aH 2 K r u R::L) w'):=by
 refine cM func62 ?_;unfold xR at hm
 refine aF ?_;obtain ⟨a,a2,hm⟩:=aB hm
 refine aLu (e:=(false:Bool)) mF ez_4 rfl rfl V rfl rfl rfl a2 rfl (fun b a3 (c4:aD G K (aH 4 K b a.length a::L) a3)=>(aF ?_));refine aK [0] (fun f w=>∃ d,aDB t d=some R/\f 7=zS b d.length a.length/\aD G K (aH 4 K b a.length d::L) w) ?_ ?_
 ·rintro f c6 ⟨d,hm,a5,a6⟩
  unfold aDB at hm
  refine aF ?_;obtain ⟨a8,a9,hm⟩:=aB hm
  refine cC call112 (aDb a9 a6 Z h6 q) ?_
  rintro _ c7 ⟨rfl,b0,b1⟩
  iterate 4 refine cE ?_
  refine cW (v:=zS b a8.length a.length) (Eq.trans a5 (congrArg (fun n=>zS b n a.length) b0)) ?_;obtain ⟨c9,d0,d1,d2,d3⟩:=aD.lendSp b1 (zR _) .head
  exact aI
 obtain ⟨d4,b2,ho⟩:=aB hm
 refine bV [0,1,2] b2 (fun c g f w=>f 7=zS b c.length a.length/\f 8=i64 g/\aD G K (aH 4 K b a.length c::L) w) aI ?_
 ·rintro c g x f d5 hm hr ⟨b3,d6,d7⟩
  unfold xQ at hm
  refine aF ?_
  rcases aG hm with ⟨b4,hm⟩|⟨b4,hm⟩
  ·refine aF ?_;refine aK [0,1,2,8] (fun f w=>∃ j,aBl g j=some x/\f 7=zS b j.length a.length/\aD G K (aH 4 K b a.length j::L) w) ?_ ?_
   ·rintro f d8 ⟨j,hm,b5,b6⟩
    unfold aBl at hm
    refine aF ?_;exact ⟨_,(zI hm).symm,bD,b5,rfl,b6⟩
   iterate 1 refine cE ?_
   refine aY [0,1,2,7,8] (fun f w=>∃ l,aBm t c g l=some x/\f 44=zB l/\aD G K (aH 4 K b a.length c::L) w) ?_ ?_
   ·rintro f d9 ⟨l,hm,e0,y⟩
    unfold aBm at hm
    refine aF ?_
    rcases aG hm with ⟨b7,hm⟩|⟨b7,hm⟩
    ·refine aF ?_;obtain ⟨e1,b8,hm⟩:=aB hm
     refine aF ?_;obtain ⟨e2,e3,b9⟩:=aW.el (sz:=3) rfl q b8
     cases b9
     refine aF ?_;obtain ⟨e4,m,hm⟩:=aB hm
     have c0:=bS y (i:=0) rfl m
     refine aM (cS mF rfl c0 rfl rfl rfl m) ?_;obtain ⟨z,J,hm⟩:=aB hm
     refine oO (i:=0) (t:=0) (ns:=[zB true]) (e':=(true:Bool)) sizeOf4 y rfl (zR _) rfl rfl rfl m J rfl rfl (nI rfl) rfl (fun cs h=>by cases h;rfl) (fun c1 (c2:aD G K (aH 4 K b a.length z::L) c1)=>(aF ?_));exact ⟨bD,z,hm,(Eq.trans b3 (congrArg (fun n=>zS b n a.length) (jM J))),c2⟩
    ·exact aI
   exact aI
  ·exact aI
theorem aEC {a b:(List Int)} {R:Bool} (hm:aDU a b=some R) (g:aD G K (L) w) (h:aW K a1 c2 a) (i:aW K a4 c5 b):
  Calls Tryz.prog 64 ([zS a1 a.length c2,zS a4 b.length c5]:List Value).toArray w (dS fun v w'=>v=zB R/\aD G K (L) w'):=by
 refine cM func64 ?_;unfold aDU at hm
 refine aF ?_
 rcases aG hm with ⟨c,hm⟩|⟨c,hm⟩
 ·exact aI
 ·refine aF ?_;refine aK [] (fun f w=>aKf=some R/\aD G K (L) w) aI ?_
  obtain ⟨j,d,ho⟩:=aB hm
  exact dX [0,1] d (fun e f w=>f 5=i64 e/\aD G K (L) w) aI aI
theorem aIb {t:aS} {y:Nat} {R:(aS × (List (List Int)) × Bool)} (hm:aDV t=some R) (hs:aD G K (L) w) (h3:cT K a1 y (zC t a4 c5 a7 c8)) (h6:aW K a4 c5 t.L) (h9:aW K a7 c8 t.E):
  Calls Tryz.prog 45 ([cD a1 y]:List Value).toArray w (dS fun v w'=>∃ g3 g4 g5 g6 g7 g8 e0,v=Value.tuple #[Value.agg (zCa R.1 g3 g4 g5 g6),zS g7 R.2.1.length g8,zB R.2.2]/\List.length e0=List.length R.2.1/\aD G K (aH 9 K g3 g4 R.1.L::aH 52 K g5 g6 R.1.E::aH 30 K g7 g8 (aP e0 R.2.1)::rows [2] e0 R.2.1::L) w'):=by
 let a:=zG
 let g9:=aH 30 K none 0 (aP ([]:List (Dp.Hd (List Int))) ([]:List (List Int)))
 refine iT func45 rfl (by kernel_rfl) (by show (1:Nat)<=88;decide) ?_;unfold aDV at hm
 refine bC (fQ (vs:=a) zeroValue27 hs rfl (fun d r1 j8=>(aT (v:=zS none 0 0) (aT (v:=zB false) (aU (bC (aR (v:=cD a1 y) ?_)))))));obtain ⟨q,j9,hm⟩:=aB hm
 refine bO (vs:=[cD a1 y]) call60 rfl (aDc j9 j8 h3 h6 h9) ?_
 rintro _ k0 ⟨r,u,rfl,k1⟩
 have k3:aD G K (rows [2] ([(r,u)]:List (Dp.Hd (List Int))) [q]::box d 27 a::L) k0:=aD.rowsOne k1
 refine eR (Kt:=K) (xs:=aP ([(r,u)]:List (Dp.Hd (List Int))) ([q]:List (List Int))) (cs:=[zS r q.length u]) (vs:=[(0,zS r q.length u)]) tH aHI rfl rfl k3 rfl (by kernel_rfl) rfl rfl rfl ⟨rfl,trivial⟩ ?_
 intro b9 k4 (k5:aD G K (aH 30 K b9 1 (aP ([(r,u)]:List (Dp.Hd (List Int))) ([q]:List (List Int)))::rows [2] ([(r,u)]:List (Dp.Hd (List Int))) ([q]:List (List Int))::box d 27 a::L) k4)
 refine aT (v:=zS b9 ([q]:List (List Int)).length 1) (aU (bC (eR (Kt:=K) (xs:=([]:List Edge)) (cs:=[]) (vs:=[]) iY aHH rfl rfl k5 rfl (by kernel_rfl) rfl rfl rfl trivial ?_)))
 intro e1 k6 (k7:aD G K (aH 52 K e1 0 ([]:List Edge)::aH 30 K b9 1 (aP ([(r,u)]:List (Dp.Hd (List Int))) ([q]:List (List Int)))::rows [2] ([(r,u)]:List (Dp.Hd (List Int))) ([q]:List (List Int))::box d 27 a::L) k6)
 refine aT (v:=zS e1 ([]:List Edge).length 0) (aU (bB (bC (aT (v:=i64 0) (aU (aK [0,2] (fun f w=>∃ a6 e2 h0 h1 e3 h2 h4,aBn t a6 e2=some R/\f 5=zS h0 a6.length h1/\f 6=zS h2 e2.length h4/\List.length e3=List.length a6/\aD G K (aH 52 K h2 h4 e2::aH 30 K h0 h1 (aP e3 a6)::rows [2] e3 a6::box d 27 a::L) w) aI ?_))))));obtain ⟨r2,k8,ho⟩:=aB hm
 refine lK [0,2] k8 (fun z a8 x f w=>∃ c0 c1 a9 c2 c3,f 5=zS c0 z.length c1/\f 6=zS c2 a8.length c3/\f 7=i64 x/\List.length a9=List.length z/\aD G K (aH 52 K c2 c3 a8::aH 30 K c0 c1 (aP a9 z)::rows [2] a9 z::box d 27 a::L) w) ?_ ?_
 ·exact ⟨b9,1,([(r,u)]:List (Dp.Hd (List Int))),e1,0,rfl,rfl,rfl,rfl,k7⟩
 ·rintro z a8 x b0 f r3 hm hr ⟨c0,c1,a9,c2,c3,h5,k9,e4,l0,l1⟩
  unfold jC at hm
  refine bB (bC (cW e4 (cW h5 (aM (gU (len:=z.length) tH rfl) (aM (pD rfl rfl) (aU ?_))))))
  rcases aG hm with ⟨e5,hm⟩|⟨e5,hm⟩
  ·refine bP e5 rfl (cN (aC (bB (aK [0,2,7] (fun f w=>∃ a0 c4 c6 c7 b1 c9 d0,aDD x a0 c4=some b0/\f 5=zS c6 a0.length c7/\f 6=zS c9 c4.length d0/\List.length b1=List.length a0/\aD G K (aH 52 K c9 d0 c4::aH 30 K c6 c7 (aP b1 a0)::rows [2] b1 a0::box d 27 a::L) w) ?_ ?_))))
   ·rintro f r4 ⟨a0,c4,c6,c7,b1,c9,d0,hm,l2,l3,l4,l5⟩
    unfold aDD at hm
    exact aC (bR (cW e4 (aM (rO rfl rfl) (aT (v:=i64 (wr (x+1))) (aU ⟨_,(zI hm).symm,bD,c6,c7,b1,c9,d0,l2,l3,rfl,l4,l5⟩)))))
   refine bC (aT (v:=i64 1) (aU (aK [0,2,7] (fun f w=>∃ b2 e6 h7 h8 e7 i0 i1,aDE x b2 e6=some b0/\f 5=zS h7 b2.length h8/\f 6=zS i0 e6.length i1/\List.length e7=List.length b2/\aD G K (aH 52 K i0 i1 e6::aH 30 K h7 h8 (aP e7 b2)::rows [2] e7 b2::box d 27 a::L) w) aI ?_)));obtain ⟨r5,l6,ho⟩:=aB hm
   refine lK [0,2,7] l6 (fun b e J f w=>∃ m n c k l,f 5=zS m b.length n/\f 6=zS k e.length l/\f 8=i64 J/\List.length c=List.length b/\aD G K (aH 52 K k l e::aH 30 K m n (aP c b)::rows [2] c b::box d 27 a::L) w) aI ?_
   ·rintro b e J d1 f r6 hm hr ⟨m,n,c,k,l,Z,i2,e8,o,b3⟩
    unfold tR at hm
    refine bB (bC (cW e8 (aR (v:=cD a1 y) (aM (aEc rfl h3) (aM (gE (k':=y+2) vU rfl h3 rfl) (aM (bU (t:=2) uC b3 h3 rfl rfl) (aM (gU (len:=t.L.length) eM rfl) (aM (pD rfl rfl) (aU ?_)))))))))
    rcases aG hm with ⟨e9,hm⟩|⟨e9,hm⟩
    ·refine bP e9 rfl (cN (aC (bB (aK [0,2,7,8] (fun f w=>∃ a2 d2 d3 d4 b4 d5 d6,xS J a2 d2=some d1/\f 5=zS d3 a2.length d4/\f 6=zS d5 d2.length d6/\List.length b4=List.length a2/\aD G K (aH 52 K d5 d6 d2::aH 30 K d3 d4 (aP b4 a2)::rows [2] b4 a2::box d 27 a::L) w) ?_ ?_))))
     ·rintro f r7 ⟨a2,d2,d3,d4,b4,d5,d6,hm,l7,l8,l9,m0⟩
      unfold xS at hm
      exact aC (bR (cW e8 (aM (rO rfl rfl) (aT (v:=i64 (wr (J+1))) (aU ⟨_,(zI hm).symm,bD,d3,d4,b4,d5,d6,l7,l8,rfl,l9,m0⟩)))))
     refine bC (aR (v:=cD a1 y) (cW Z (cW e4 ?_)));obtain ⟨m1,b5,hm⟩:=aB hm
     obtain ⟨⟨m2,m3⟩,f0⟩:=aCT o b5
     have i3:=bS b3 (i:=1) rfl (mE o b5 f0)
     refine aM (cS tH rfl i3 rfl rfl rfl b5) (aM (yC (t:=0) aDi b3 (i:=1) rfl (mE o b5 f0) rfl rfl rfl) (cW e8 ?_));obtain ⟨r8,f1,r9,m4,m5,m6⟩:=aD.lendD' (i:=1) b3 o rfl rfl
     obtain ⟨j,m7,hm⟩:=aB hm
     refine bO (vs:=[cD a1 y,zS m2 m1.length m3,i64 J]) call62 rfl (aEB m7 m5 (h3.mono f1) (h6.mono f1) (h9.mono f1) (aPa (m4 _ _ _ f0 (aHB b5)))) ?_
     rintro _ s0 ⟨g,h,rfl,m8⟩
     have s1:=m6 _ _ m8
     refine aT (v:=zS g j.length h) (aU (bB (bC (aR (v:=zS g j.length h) (aM (gU (len:=j.length) iX rfl) (aM (aHw rfl rfl) (aU ?_)))))))
     rcases aG hm with ⟨i4,hm⟩|⟨i4,hm⟩
     ·exact aI
     ·refine bT i4 rfl (cN (aC (bC (aT (v:=i64 (-1)) (aU (bB (bC (aT (v:=i64 0) (aU (aK [0,2,5,6,7,8,9] (fun f w=>∃ f2,tP x b e J j f2=some d1/\f 10=i64 f2/\aD G K (aH 30 K m n (aP c b)::rows [2] c b::aH 2 K g h j::aH 52 K k l e::box d 27 a::L) w) ?_ ?_))))))))))
      ·rintro f i5 ⟨f2,hm,m9,i6⟩
       unfold tP at hm
       refine aC (mZ [0,2,6,7,8] (fun f w=>∃ p f3 b6 b7 V,aBo x e J p f3=some d1/\f 5=zS b6 p.length b7/\f 10=i64 f3/\List.length V=List.length p/\aD G K (aH 30 K b6 b7 (aP V p)::rows [2] V p::aH 52 K k l e::box d 27 a::L) w) ?_ ?_)
       ·rintro f s2 ⟨p,f3,b6,b7,V,hm,s3,s4,s5,n0⟩
        unfold aBo at hm
        refine bB (bC (cW i2 (aM (gU (len:=e.length) iY rfl) (aM (aHw rfl rfl) (aU ?_)))))
        rcases aG hm with ⟨i7,hm⟩|⟨i7,hm⟩
        ·refine bP i7 rfl (bC (aM (cK (vs:=[]) (cs:=a) aMF rfl (by kernel_rfl)) (kL (i:=3) (ns:=a) (us:=a) sizeOf27 n0 rfl rfl rfl rfl rfl (nI rfl) rfl rfl (fun i8 (n1:aD G K (aH 30 K b6 b7 (aP V p)::rows [2] V p::aH 52 K k l e::box d 27 a::L) i8)=>(aT (v:=zS none 0 0) (aT (v:=zB false) (aU (jJ (bE (fE (bE (bE (bE ?_)))))))))))))
         have n2:=hr _ (zI hm).symm
         subst n2
         have hm:(some (.inr (.inr (⟨0,0,[],[]⟩,[],false))))=some b0:=ho
         clear hr ho
         refine fE (bE (fE (bE (bE (bE ?_)))))
         have n3:=hr _ (zI hm).symm
         subst n3
         have hm:(some (⟨0,0,[],[]⟩,[],false))=some R:=ho
         clear hr ho
         have n4:=aD.nil (α:=aJ) n1 9 K
         have n5:=aD.nil (α:=Edge) n4 52 K
         have i9:aD G K (g9::rows [2] ([]:List (Dp.Hd (List Int))) ([]:List (List Int))::aH 52 K none 0 ([]:List Edge)::aH 9 K none 0 ([]:List aJ)::aH 30 K b6 b7 (aP V p)::rows [2] V p::aH 52 K k l e::box d 27 a::L) i8:=aD.nil (α:=aOk _) (aD.rowsNil (α:=(List Int)) (tys:=[2]) n5) 30 K
         obtain rfl:=zI hm
         exact fE (bE (bE (aMa results45 (pR (vs:=a) rfl mS i9 (i:=7) rfl rfl rfl) (aBX rfl rfl) (aBX rfl rfl) ⟨none,0,none,0,none,0,([]:List (Dp.Hd (List Int))),rfl,rfl,(aD.arr 8 [3,2,0,1] i9 rfl)⟩)))
        ·exact aI
       refine bC (cW m9 (aM (pD rfl rfl) (aU ?_)))
       rcases aG hm with ⟨j0,hm⟩|⟨j0,hm⟩
       ·refine bP j0 rfl (bB (bC (cW Z (aM (gU (len:=b.length) tH rfl) (aM (aHw rfl rfl) (aU ?_))))))
        rcases aG hm with ⟨f4,hm⟩|⟨f4,hm⟩
        ·refine bP f4 rfl (bC (aM (cK (vs:=[]) (cs:=a) aMF rfl (by kernel_rfl)) (kL (i:=4) (ns:=a) (us:=a) sizeOf27 i6 rfl rfl rfl rfl rfl (nI rfl) rfl rfl (fun j1 (n7:aD G K (aH 30 K m n (aP c b)::rows [2] c b::aH 2 K g h j::aH 52 K k l e::box d 27 a::L) j1)=>(aT (v:=zS none 0 0) (aT (v:=zB false) (aU (jJ (bE (bE (fE (bE (bE (bE ?_))))))))))))))
         have n8:=hr _ (zI hm).symm
         subst n8
         have hm:(some (.inr (.inr (⟨0,0,[],[]⟩,[],false))))=some b0:=ho
         clear hr ho
         refine fE (bE (fE (bE (bE (bE ?_)))))
         have n9:=hr _ (zI hm).symm
         subst n9
         have hm:(some (⟨0,0,[],[]⟩,[],false))=some R:=ho
         clear hr ho
         have o0:=aD.nil (α:=aJ) n7 9 K
         have o1:=aD.nil (α:=Edge) o0 52 K
         have j2:aD G K (g9::rows [2] ([]:List (Dp.Hd (List Int))) ([]:List (List Int))::aH 52 K none 0 ([]:List Edge)::aH 9 K none 0 ([]:List aJ)::aH 30 K m n (aP c b)::rows [2] c b::aH 2 K g h j::aH 52 K k l e::box d 27 a::L) j1:=aD.nil (α:=aOk _) (aD.rowsNil (α:=(List Int)) (tys:=[2]) o1) 30 K
         obtain rfl:=zI hm
         exact fE (bE (bE (aMa results45 (pR (vs:=a) rfl mS j2 (i:=8) rfl rfl rfl) (aBX rfl rfl) (aBX rfl rfl) ⟨none,0,none,0,none,0,([]:List (Dp.Hd (List Int))),rfl,rfl,(aD.arr 9 [3,2,0,1] j2 rfl)⟩)))
        ·refine bT f4 rfl (cN (aC (bC (cW Z (aM (gU (len:=b.length) tH rfl) (aT (v:=i64 (b.length:Int)) (aU (bR (cW Z (aR (v:=zS g j.length h) ?_))))))))))
         have o3:aD G K (aH 2 K g h j::aH 30 K m n (aP c b)::rows [2] c b::aH 52 K k l e::box d 27 a::L) i5:=(aD.arr 3 [2,0,1] i6 rfl)
         have o4:aD G K (rows [2] ([(g,h)]:List (Dp.Hd (List Int))) [j]::aH 30 K m n (aP c b)::rows [2] c b::aH 52 K k l e::box d 27 a::L) i5:=aD.rowsOne o3
         refine eR (Kt:=K) (xs:=aP ([(g,h)]:List (Dp.Hd (List Int))) ([j]:List (List Int))) (cs:=[zS g j.length h]) (vs:=[(0,zS g j.length h)]) tH aHI rfl rfl o4 rfl (by kernel_rfl) rfl rfl rfl ⟨rfl,trivial⟩ ?_
         intro o5 o6 (o7:aD G K (aH 30 K o5 1 (aP ([(g,h)]:List (Dp.Hd (List Int))) ([j]:List (List Int)))::rows [2] ([(g,h)]:List (Dp.Hd (List Int))) ([j]:List (List Int))::aH 30 K m n (aP c b)::rows [2] c b::aH 52 K k l e::box d 27 a::L) o6)
         obtain ⟨d7,j3,hm⟩:=aB hm
         refine aPc (i:=0) (tys:=[2]) (hds:=c) (hds2:=([(g,h)]:List (Dp.Hd (List Int)))) tH underlying94 aHI rfl rfl o7 o rfl rfl rfl j3 rfl rfl rfl rfl ?_
         intro f5 f6 o8 (o9:aD G K (aH 30 K f5 f6 (aP (c++([(g,h)]:List (Dp.Hd (List Int)))) d7)::rows [2] (c++([(g,h)]:List (Dp.Hd (List Int)))) d7::aH 52 K k l e::box d 27 a::L) o8)
         exact aT (v:=zS f5 d7.length f6) (aU ⟨bD,d7,(b.length:Int),f5,f6,(c++([(g,h)]:List (Dp.Hd (List Int)))),hm,rfl,rfl,(aMb o rfl j3),o9⟩)
       ·exact aI
      obtain ⟨s6,p0,ho⟩:=aB hm
      refine bV [0,2,5,6,7,8,9] p0 (fun b8 a3 f w=>f 10=i64 b8/\f 11=i64 a3/\aD G K (aH 30 K m n (aP c b)::rows [2] c b::aH 2 K g h j::aH 52 K k l e::box d 27 a::L) w) aI ?_
      ·rintro b8 a3 p1 f s7 hm hr ⟨j4,d8,f7⟩
       unfold tQ at hm
       refine bB (bC (cW d8 (cW Z (aM (gU (len:=b.length) tH rfl) (aM (pD rfl rfl) (aU ?_))))))
       rcases aG hm with ⟨f8,hm⟩|⟨f8,hm⟩
       ·refine bP f8 rfl (cN (aC (bB (aK [0,2,5,6,7,8,9,11] (fun f w=>∃ f9,aBp a3 f9=some p1/\f 10=i64 f9/\aD G K (aH 30 K m n (aP c b)::rows [2] c b::aH 2 K g h j::aH 52 K k l e::box d 27 a::L) w) ?_ ?_))))
        ·rintro f s8 ⟨f9,hm,p2,p3⟩
         unfold aBp at hm
         exact aC (bR (cW d8 (aM (rO rfl rfl) (aT (v:=i64 (wr (a3+1))) (aU ⟨_,(zI hm).symm,bD,p2,rfl,p3⟩)))))
        refine bC (cW Z (cW d8 ?_));obtain ⟨p4,d9,hm⟩:=aB hm
        refine aM (cS tH rfl i3 rfl rfl rfl d9) ?_;obtain ⟨⟨p5,p6⟩,j5⟩:=aCT o d9
        refine aM (yC (t:=0) aDi f7 (i:=0) rfl (mE o d9 j5) rfl rfl rfl) (aR (v:=zS g j.length h) ?_);obtain ⟨s9,p7,t0,p8,p9,q0⟩:=aD.lendD' (i:=0) f7 o rfl rfl
        obtain ⟨t1,q1,q2,q3,q4⟩:=aD.lendSp p9 p7 .head
        obtain ⟨t2,q5,hm⟩:=aB hm
        refine bO (vs:=[zS p5 p4.length p6,zS g j.length h]) call64 rfl (aEC q5 q3 ((aPa (p8 _ _ _ j5 (aHB d9))).mono q1) q2) ?_
        rintro _ t3 ⟨rfl,q6⟩
        have q7:=q4 _ _ q6
        have j6:=q0 _ _ q7
        refine aU ?_
        rcases aG hm with ⟨g0,hm⟩|⟨g0,hm⟩
        ·exact bP g0 rfl (bR (cW d8 (aT (v:=i64 a3) (aL (iC (aC ⟨bD,a3,hm,rfl,j6⟩))))))
        ·exact bT g0 rfl (cN (iC (aC ⟨bD,b8,hm,j4,j6⟩)))
       ·refine bT f8 rfl (aAZ (iW (iW ?_)))
        have q8:=hr _ (zI hm).symm
        subst q8
        have hm:(tP x b e J j b8)=some d1:=ho
        clear hr ho
        exact uB (aC ⟨bD,b8,hm,j4,f7⟩)
    ·refine bT e9 rfl (aAZ (iW (iW ?_)))
     have q9:=hr _ (zI hm).symm
     subst q9
     have hm:(aDE x b e)=some b0:=ho
     clear hr ho
     exact uB (aC ⟨bD,b,e,m,n,c,k,l,hm,Z,i2,o,b3⟩)
  ·refine bT e5 rfl (aAZ (iW (iW ?_)))
   have r0:=hr _ (zI hm).symm
   subst r0
   have hm:(aBn t z a8)=some R:=ho
   clear hr ho
   exact uB (aC ⟨bD,z,a8,c0,c1,a9,c2,c3,hm,h5,k9,l0,l1⟩)
end Gv
