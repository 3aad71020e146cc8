/- Walks, printed by program. -/
import Derived.Test.YthmfdhgeglgpbaaGreatDoorJLW
set_option linter.all false
namespace Gv
open Gv.Hp renaming le_refl→zR
open Go.Value renaming slice→zS,bool→zB
open Option.some renaming inj→zI
open Go Go.Proofs Go.Proofs.Tryz
set_option maxRecDepth 20000
set_option maxHeartbeats 40000000
variable {G:rT} {K:Hp} {L:List fM} {w:World} {a1 a4 a7:Option Addr} {c2 c5 c8:Nat}
theorem aJE {a:(List aJ)} {R:((List Int) × Bool)} (hm:xK a=some R) (k:aF G K (L) w) (n:G.lo=0) (o:bI K a1 c2 a):
  Calls prog 208 ([zS a1 a.length c2]:List Value).toArray w (dL fun v w'=>∃ c d,v=Value.tuple #[zS c R.1.length d,zB R.2]/\aF G K (own 2 K c d R.1::L) w'):=by
 refine aBM func208 ?_;unfold xK at hm
 refine aAW ?_;refine aS [] (fun f w=>∃ b e g,aFI b=some R/\f 4=zS e b.length g/\aF G K (own 2 K e g b::L) w) aN ?_
 have p:=aF.nil (α:=Int) k 2 K
 obtain ⟨q,l,ho⟩:=aB hm
 exact bN [9,10] l (fun h m f w=>∃ i j,f 4=zS i h.length j/\f 11=i64 m/\aF G K (own 2 K i j h::L) w) aN aN
theorem aNe {c:UInt8} {R:Bool} (hm:aIG c=some R) (b:aF G K (L) w):
  Calls prog 251 ([Value.int .u8 (c.toNat:Int)]:List Value).toArray w (dL fun v w'=>v=zB R/\aF G K (L) w'):=by
 refine aBM func251 ?_;unfold aIG at hm
 iterate 6 refine aBh ?_
 exact bD [] (fun f w=>∃ a,aGu a=some R/\f 2=zB a/\aF G K (L) w) aN aN
theorem aOd {a:aJ} {R:Bool} (hm:aHL a=some R) (j:aF G K (L) w):
  Calls prog 236 ([str a]:List Value).toArray w (dL fun v w'=>v=zB R/\aF G K (L) w'):=by
 refine aBM func236 ?_;unfold aHL at hm
 iterate 9 refine aBh ?_
 refine aD (aDB runUnderlying9 rfl) (aAW ?_);refine aS [0] (fun f w=>aEH a=some R/\aF G K (L) w) ?_ ?_
 ·rintro f k ⟨hm,l⟩
  unfold aEH at hm
  iterate 2 refine aBh ?_
  exact bD [] (fun f w=>∃ d,aHK d=some R/\f 2=zB d/\aF G K (L) w) aN aN
 obtain ⟨m,h,ho⟩:=aB hm
 refine eK [0,6] h (fun b f w=>f 7=i64 b/\aF G K (L) w) aN ?_
 ·rintro b e f n hm hr ⟨o,p⟩
  unfold zW at hm
  refine aAW ?_
  rcases aM hm with ⟨i,hm⟩|⟨i,hm⟩
  ·refine aAW ?_;refine bZ ?_
   iterate 7 refine aBh ?_
   refine bD [0,3,6,7] (fun f w=>∃ c,sS a b c=some e/\f 4=zB c/\aF G K (L) w) ?_ ?_
   ·rintro f q ⟨c,hm,r,t⟩
    unfold sS at hm
    iterate 2 refine aBh ?_
    exact bD [0,6,7] (fun f w=>∃ g,aBQ b g=some e/\f 32=zB g/\aF G K (L) w) aN aN
   exact aN
  ·exact aN
theorem aMc {a:aJ} {R:Bool} (hm:aBl a=some R) (c:aF G K (L) w):
  Calls prog 216 ([str a]:List Value).toArray w (dL fun v w'=>v=zB R/\aF G K (L) w'):=by
 refine aBM func216 ?_;unfold aBl at hm
 iterate 6 refine aBh ?_
 exact bD [] (fun f w=>∃ b,aBA b=some R/\f 2=zB b/\aF G K (L) w) aN aN
theorem aOe {n low a:Int} {R:Bool} (hm:tT n low a=some R) (c:aF G K (L) w):
  Calls prog 115 ([i64 n,i64 low,i64 a]:List Value).toArray w (dL fun v w'=>v=zB R/\aF G K (L) w'):=by
 refine aBM func115 ?_;unfold tT at hm
 iterate 6 refine aBh ?_
 exact bD [] (fun f w=>∃ b,aHM b=some R/\f 6=zB b/\aF G K (L) w) aN aN
theorem aNf {n:Int} {R:Bool} (hm:aLa n=some R) (a:aF G K (L) w):
  Calls prog 249 ([i64 n]:List Value).toArray w (dL fun v w'=>v=zB R/\aF G K (L) w'):=by
 exact aN
theorem aCE {n:Int} {R:Bool} (hm:aDI n=some R) (a:aF G K (L) w):
  Calls prog 248 ([i64 n]:List Value).toArray w (dL fun v w'=>v=zB R/\aF G K (L) w'):=by
 exact aN
theorem vU {a:(List Int)} {R:Int} (hm:gH a=some R) (l:aF G K (L) w) (d:bI K a1 c2 a):
  Calls prog 150 ([zS a1 a.length c2,Value.func (.func 248) #[] #[]]:List Value).toArray w (dL fun v w'=>v=i64 R/\aF G K (L) w'):=by
 refine aBM func150 ?_;unfold gH at hm
 refine aAW ?_;refine aS [] (fun f w=>nU=some R/\aF G K (L) w) aN ?_
 obtain ⟨m,e,ho⟩:=aB hm
 refine eK [0,1,7] e (fun b f w=>f 8=i64 b/\aF G K (L) w) aN ?_
 ·rintro b n f o hm hr ⟨p,g⟩
  unfold dW at hm
  refine aAW ?_
  rcases aM hm with ⟨h,hm⟩|⟨h,hm⟩
  ·refine aAW ?_;refine bZ (aAW ?_)
   obtain ⟨c,i,hm⟩:=aB hm
   refine aAW ?_;obtain ⟨q,r,j⟩:=bI.el (sz:=1) rfl d i
   cases j
   refine aAW ?_;obtain ⟨t,k,hm⟩:=aB hm
   exact nT (vs:=[i64 c]) (caps:=[]) (us:=[i64 c]) rfl call248 rfl rfl (aCE k g) aN
  ·exact aN
theorem uA {a:(List Int)} {R:Bool} (hm:iZ a=some R) (b:aF G K (L) w) (c:bI K a1 c2 a):
  Calls prog 247 ([zS a1 a.length c2,Value.func (.func 248) #[] #[]]:List Value).toArray w (dL fun v w'=>v=zB R/\aF G K (L) w'):=by
 exact aN
theorem aLf {a:(List Int)} {R:Bool} (hm:aEI a=some R) (b:aF G K (L) w) (c:bI K a1 c2 a):
  Calls prog 233 ([zS a1 a.length c2]:List Value).toArray w (dL fun v w'=>v=zB R/\aF G K (L) w'):=by
 exact aN
theorem aOf {c:(List Int)} {d R:aJ} (hm:aHO c d=some R) (q:aF G K (L) w) (hG:G.lo=0) (r:bI K a1 c2 c):
  Calls prog 234 ([zS a1 c.length c2,str d]:List Value).toArray w (dL fun v w'=>v=str R/\aF G K (L) w'):=by
 refine aBM func234 ?_;unfold aHO at hm
 refine aAW ?_;obtain ⟨a,u,hm⟩:=aB hm
 refine aBb (e:=([]:aJ)) lI aIY rfl rfl q rfl rfl rfl u rfl (fun b x (b0:aF G K (own 9 K b a.length a::L) x)=>(aAW ?_));refine aS [1] (fun f w=>∃ g,aHN d g=some R/\f 5=zS b g.length a.length/\aF G K (own 9 K b a.length g::L) w) aN ?_
 obtain ⟨b1,y,ho⟩:=aB hm
 refine bN [1,11,12] y (fun j l f w=>f 5=zS b j.length a.length/\f 13=i64 l/\aF G K (own 9 K b a.length j::L) w) aN ?_
 ·rintro j l b2 f b3 hm hr ⟨z,b4,J⟩
  unfold aBR at hm
  refine aAW ?_
  rcases aM hm with ⟨Z,hm⟩|⟨Z,hm⟩
  ·refine aAW ?_;refine bZ (aAW ?_)
   obtain ⟨b5,a0,hm⟩:=aB hm
   refine aAW ?_;obtain ⟨b6,b7,a2⟩:=bI.el (sz:=1) rfl r a0
   cases a2
   refine aAW ?_;obtain ⟨m,a3,hm⟩:=aB hm
   refine aAZ call243 (aLP J a3) ?_
   rintro _ b8 ⟨rfl,o⟩
   obtain ⟨b9,k,hm⟩:=aB hm
   have a4:=bM o (i:=0) rfl k
   refine aD (cB lI rfl a4 rfl rfl rfl k) ?_;obtain ⟨a5,p,hm⟩:=aB hm
   refine eC (i:=0) (t:=0) (ns:=[str m]) (e':=(m:aJ)) sizeOf9 o rfl (zR _) rfl rfl rfl k p rfl rfl (eB rfl) rfl (fun cs h=>by cases h;rfl) (fun a7 (a8:aF G K (own 9 K b a.length a5::L) a7)=>(aAW ?_));exact ⟨_,(zI hm).symm,bG,(Eq.trans z (congrArg (fun n=>zS b n a.length) (dH p))),rfl,a8⟩
  ·exact aN
theorem aIb {b:aJ} {a:(List Int)} {R:(aJ × Bool)} (hm:aFJ b a=some R) (e:aF G K (L) w) (g:G.lo=0) (h:bI K a1 c2 a):
  Calls prog 211 ([str b,zS a1 a.length c2]:List Value).toArray w (dL fun v w'=>v=Value.tuple #[str R.1,zB R.2]/\aF G K (L) w'):=by
 refine aBM func211 ?_;unfold aFJ at hm
 refine aAW ?_;refine bZ (aAW ?_)
 rcases aM hm with ⟨d,hm⟩|⟨d,hm⟩
 ·exact aN
 ·iterate 2 refine aBh ?_
  exact bD [0,1] (fun f w=>∃ c,aAp b a c=some R/\f 12=zB c/\aF G K (L) w) aN aN
theorem wT {a b:aJ} {R:Bool} (hm:dS a b=some R) (d:aF G K (L) w):
  Calls prog 206 ([str a,str b]:List Value).toArray w (dL fun v w'=>v=zB R/\aF G K (L) w'):=by
 refine aBM func206 ?_;unfold dS at hm
 iterate 6 refine aBh ?_
 exact bD [] (fun f w=>∃ c,eH c=some R/\f 4=zB c/\aF G K (L) w) aN aN
theorem vV {a b R:aJ} (hm:kG a b=some R) (c:aF G K (L) w):
  Calls prog 232 ([str a,str b]:List Value).toArray w (dL fun v w'=>v=str R/\aF G K (L) w'):=by
 exact aN
theorem aEz {a b R:aJ} (hm:qE a b=some R) (c:aF G K (L) w):
  Calls prog 210 ([str a,str b]:List Value).toArray w (dL fun v w'=>v=str R/\aF G K (L) w'):=by
 exact aN
theorem aLg {d:aJ} {R:(aJ × (List Int) × Bool)} (hm:vD d=some R) (j:aF G K (L) w) (k:G.lo=0):
  Calls prog 163 ([str d]:List Value).toArray w (dL fun v w'=>∃ e g,v=Value.tuple #[str R.1,zS e R.2.1.length g,zB R.2.2]/\aF G K (own 2 K e g R.2.1::L) w'):=by
 refine aBM func163 ?_;unfold vD at hm
 refine aAW ?_;obtain ⟨h,l,hm⟩:=aB hm
 refine aAZ call207 (lib_Cut j l) ?_
 rintro _ t ⟨rfl,u⟩
 iterate 14 refine aBh ?_
 refine gQ [0,5] (fun f w=>∃ a b c,mQ d h a=some R/\f 8=zS b a.length c/\aF G K (own 2 K b c a::L) w) ?_ ?_
 ·rintro f x ⟨a,b,c,hm,y,m⟩
  unfold mQ at hm
  refine aAW ?_;obtain ⟨z,J,n,o,p⟩:=aF.lendSp m (zR _) .head
  obtain ⟨Z,q,hm⟩:=aB hm
  refine aAZ call211 (aIb q o k n) ?_
  rintro _ a0 ⟨rfl,r⟩
  have a1:=p _ _ r
  iterate 8 refine aBh ?_
  exact bD [5,8] (fun f w=>∃ i,pA h a i=some R/\f 40=zB i/\aF G K (own 2 K b c a::L) w) aN aN
 exact aN
theorem aNg {a:aJ} {R:Bool} (hm:aDn a=some R) (b:aF G K (L) w) (c:G.lo=0):
  Calls prog 117 ([str a]:List Value).toArray w (dL fun v w'=>v=zB R/\aF G K (L) w'):=by
 exact aN
theorem aIc {a:(List UInt8)} {R:Bool} (hm:aLb a=some R) (b:aF G K (L) w) (c:bI K a1 c2 a):
  Calls prog 4 ([zS a1 a.length c2]:List Value).toArray w (dL fun v w'=>v=zB R/\aF G K (L) w'):=by
 exact aN
theorem aId {a:(List UInt8)} {R:(Int × Int)} (hm:aLc a=some R) (c:aF G K (L) w) (d:bI K a1 c2 a):
  Calls prog 11 ([zS a1 a.length c2]:List Value).toArray w (dL fun v w'=>∃ b,v=Value.pointer (some ⟨b,0,none⟩)/\aF G K (box b 74 [zS a1 a.length c2,i64 R.1,Value.int .u64 R.2]::L) w'):=by
 exact aN
theorem aEk {a:Edge} {c:Nat} {b:Edge} {d:Nat} {R:Bool} (hm:aFK a b=some R) (e:aF G K (L) w) (g:dR K a1 c [i64 a.F,i64 a.B,i64 a.To]) (h:dR K a4 d [i64 b.F,i64 b.B,i64 b.To]):
  Calls prog 40 ([cE a1 c,cE a4 d]:List Value).toArray w (dL fun v w'=>v=zB R/\aF G K (L) w'):=by
 exact aN
theorem aOg {c:(List Edge)} {e:Edge} {R:(List Edge)} (hm:aHP c e=some R) (hs:aF G K (own 68 K a1 c2 c::L) w):
  Calls prog 68 ([zS a1 c.length c2,Value.agg #[i64 e.F,i64 e.B,i64 e.To]]:List Value).toArray w (dL fun v w'=>∃ z J,v=zS z R.length J/\aF G K (own 68 K z J R::L) w'):=by
 let d:=[i64 e.F,i64 e.B,i64 e.To]
 refine aBM func68 ?_;unfold aHP at hm
 refine aAW ?_;refine aGg fun g w4 e9=>?_
 refine aAW ?_;refine aS [0,3] (fun f w=>∃ k,aEK c e k=some R/\f 5=i64 k/\aF G K (box g 68 d::own 68 K a1 c2 c::L) w) ?_ ?_
 ·rintro f w8 ⟨k,hm,e7,m⟩
  unfold aEK at hm
  refine aAW ?_;refine bD [0,3,5] (fun f w=>∃ o,zX c e k o=some R/\f 30=zB o/\aF G K (box g 68 d::own 68 K a1 c2 c::L) w) ?_ ?_
  ·rintro f f2 ⟨o,hm,f3,f4⟩
   unfold zX at hm
   refine aAW ?_
   rcases aM hm with ⟨b4,hm⟩|⟨b4,hm⟩
   ·exact aN
   ·iterate 6 refine aBh ?_
    refine aD (cO (vs:=[]) (cs:=[i64 0,i64 0,i64 0]) bs_68 rfl (by kernel_rfl)) (aCp ([⟨0,0,0⟩]:List Edge) fun f5 f6 f7=>?_);obtain ⟨f8,f9,hm⟩:=aB hm
    refine aNS fun a b g0 g1=>?_;refine aAW ?_
    refine aS [3,5] (fun f w=>∃ l,aEJ e k l=some R/\f 0=zS a l.length b/\aF G K (box g 68 d::own 68 K a b l::L) w) ?_ ?_
    ·rintro f g2 ⟨l,hm,b5,Z⟩
     unfold aEJ at hm
     refine aAW ?_;obtain ⟨g3,p,hm⟩:=aB hm
     have b6:=bM Z (i:=1) rfl p
     refine aD (cB eW rfl b6 rfl rfl rfl p) ?_;obtain ⟨a0,a2,hm⟩:=aB hm
     refine eC (i:=1) (t:=0) (ns:=d) (e':=(⟨e.F,e.B,e.To⟩:Edge)) sizeOf68 Z rfl (zR _) rfl rfl rfl p a2 rfl rfl (eB rfl) rfl (fun cs h=>by cases h;rfl) (fun b7 (g4:aF G K (box g 68 d::own 68 K a b a0::L) b7)=>?_)
     iterate 4 refine aBh ?_
     refine bA (v:=zS a a0.length b) (Eq.trans b5 (congrArg (fun n=>zS a n b) (dH a2))) (aAW ?_);obtain rfl:=zI hm
     exact aOM results68 ⟨a,b,rfl,aCN⟩
    obtain ⟨g5,b9,ho⟩:=aB hm
    refine bN [3,5] b9 (fun q a3 f w=>f 0=zS a q.length b/\f 6=i64 a3/\aF G K (box g 68 d::own 68 K a b q::L) w) aN ?_
    ·rintro q a3 g6 f g7 hm hr ⟨c0,g8,a4⟩
     unfold aBS at hm
     refine aAW ?_
     rcases aM hm with ⟨c1,hm⟩|⟨c1,hm⟩
     ·refine aAW ?_;refine bZ (aAW ?_)
      obtain ⟨j,a5,hm⟩:=aB hm
      have a6:=bM a4 (i:=1) rfl a5
      refine aD (cB eW rfl a6 rfl rfl rfl a5) (aAW ?_);obtain ⟨g9,a7,hm⟩:=aB hm
      refine aD (cB eW rfl a6 rfl rfl rfl a7) ?_;obtain ⟨c3,a8,hm⟩:=aB hm
      refine eC (i:=1) (t:=0) (ns:=[i64 j.F,i64 j.B,i64 j.To]) (e':=(⟨j.F,j.B,j.To⟩:Edge)) sizeOf68 a4 rfl (zR _) rfl rfl rfl a7 a8 rfl rfl (eB rfl) rfl (fun cs h=>by cases h;rfl) (fun c4 (c5:aF G K (box g 68 d::own 68 K a b c3::L) c4)=>(aAW ?_));exact ⟨_,(zI hm).symm,bG,(Eq.trans c0 (congrArg (fun n=>zS a n b) (dH a8))),rfl,c5⟩
     ·exact aN
  refine aOY ?_;refine aAW ?_
  rcases aM hm with ⟨c6,hm⟩|⟨c6,hm⟩
  ·refine aAW ?_;obtain ⟨a9,b0,hm⟩:=aB hm
   have c7:=bM m (i:=1) rfl b0
   refine cW (fun _ m=>cB eW rfl c7 rfl rfl rfl b0) (aAW ?_);refine cW (fun _ m=>R_eqlG (eq_68 (x:=a9) (y:=e)) rfl rfl) (aAW ?_)
   refine aAm (fun h0 c8=>(aAW ?_));exact ⟨bG,decide ((a9:Edge)=e),hm,rfl,c8⟩
  ·exact aN
 obtain ⟨h1,c9,ho⟩:=aB hm
 refine eK [0,3] c9 (fun r f w=>f 5=i64 r/\aF G K (box g 68 d::own 68 K a1 c2 c::L) w) aN ?_
 ·rintro r d0 f h2 hm hr ⟨h3,b1⟩
  unfold zY at hm
  iterate 2 refine aBh ?_
  refine bD [0,3,5] (fun f w=>∃ b2,aBT r b2=some d0/\f 17=zB b2/\aF G K (box g 68 d::own 68 K a1 c2 c::L) w) aN (aAW ?_)
  rcases aM hm with ⟨d1,hm⟩|⟨d1,hm⟩
  ·refine aAW ?_;obtain ⟨h4,u,hm⟩:=aB hm
   have d2:=bM b1 (i:=1) rfl u
   refine aD (cB eW rfl d2 rfl rfl rfl u) (aAW ?_);obtain ⟨h5,d3,d4,d5,d6⟩:=aF.lendBp b1 .head
   obtain ⟨h6,d7,d8,d9,e0⟩:=aF.lendSp d5 d3 .head
   obtain ⟨h7,e1,e2⟩:=bI.el (sz:=3) rfl d8 u
   cases e2
   obtain ⟨h8,e3,hm⟩:=aB hm
   refine aAZ call40 (aEk e3 d9 (d4.mono d7) e1) ?_
   rintro _ h9 ⟨rfl,e4⟩
   have e5:=e0 _ _ e4
   have i0:=d6 _ _ e5
   exact aN
  ·exact aN
theorem aEl {a:(List aJ)} {b:aJ} {R:Int} (hm:aDo a b=some R) (e:aF G K (L) w) (g:bI K a1 c2 a):
  Calls prog 85 ([zS a1 a.length c2,str b]:List Value).toArray w (dL fun v w'=>v=i64 R/\aF G K (L) w'):=by
 refine aBM func85 ?_;unfold aDo at hm
 refine aAW ?_;refine aS [] (fun f w=>aKn=some R/\aF G K (L) w) aN ?_
 obtain ⟨h,c,ho⟩:=aB hm
 exact eK [0,1] c (fun d f w=>f 5=i64 d/\aF G K (L) w) aN aN
theorem aIe {q R:(List aJ)} (hm:aFL q=some R) (hs:aF G K (L) w) (h3:bI K a1 c2 q):
  Calls prog 84 ([zS a1 q.length c2]:List Value).toArray w (dL fun v w'=>∃ J Z,v=zS J R.length Z/\aF G K (own 9 K J Z R::L) w'):=by
 refine aBM func84 ?_;unfold aFL at hm
 refine aAW ?_;refine aCp ([([116,97,117]:aJ)]:List aJ) fun a4 w5 e7=>?_
 refine aAW ?_;refine aS [] (fun f w=>∃ r a8 c9,aKo r=some R/\f 3=zS a8 r.length c9/\aF G K (own 9 K a8 c9 r::L) w) aN ?_
 obtain ⟨e8,b7,ho⟩:=aB hm
 refine bN [0] b7 (fun c g f w=>∃ d e,f 3=zS d c.length e/\f 4=i64 g/\aF G K (own 9 K d e c::L) w) aN ?_
 ·rintro c g u f e9 hm hr ⟨d,e,f0,f1,b8⟩
  unfold sY at hm
  refine aAW ?_
  rcases aM hm with ⟨b9,hm⟩|⟨b9,hm⟩
  ·refine aAW ?_;refine aS [0,4] (fun f w=>∃ j k l,wH g j=some u/\f 3=zS k j.length l/\aF G K (own 9 K k l j::L) w) ?_ ?_
   ·rintro f f2 ⟨j,k,l,hm,c0,c1⟩
    unfold wH at hm
    refine aAW ?_;exact ⟨_,(zI hm).symm,bG,k,l,c0,rfl,c1⟩
   refine aAW ?_;obtain ⟨m,c3,hm⟩:=aB hm
   refine aAW ?_;obtain ⟨f3,f4,c4⟩:=bI.el (sz:=1) rfl h3 c3
   cases c4
   refine aAW ?_;obtain ⟨f5,f6,c5,c6,c7⟩:=aF.lendSp b8 (zR _) .head
   obtain ⟨f7,c8,hm⟩:=aB hm
   refine aAZ call85 (aEl c8 c6 c5) ?_
   rintro _ f8 ⟨rfl,d0⟩
   have f9:=c7 _ _ d0
   refine aAW ?_
   rcases aM hm with ⟨d1,hm⟩|⟨d1,hm⟩
   ·exact aN
   ·refine aAW ?_;refine aS [0,3,4] (fun f w=>∃ o,aCS c g m o=some u/\f 5=i64 o/\aF G K (own 9 K d e c::L) w) ?_ ?_
    ·rintro f g0 ⟨o,hm,g1,g2⟩
     unfold aCS at hm
     refine aAW ?_;refine aCp ([([]:aJ)]:List aJ) fun g3 g4 g5=>?_
     obtain ⟨g6,g7,hm⟩:=aB hm
     refine aNS fun a b g8 g9=>?_;refine aAW ?_
     refine aS [0,4,5] (fun f w=>∃ p,aCR g m o p=some u/\f 3=zS a p.length b/\aF G K (own 9 K a b p::L) w) ?_ ?_
     ·rintro f h0 ⟨p,hm,d2,a3⟩
      unfold aCR at hm
      refine aAW ?_;obtain ⟨h1,x,hm⟩:=aB hm
      have d3:=bM a3 (i:=0) rfl x
      refine aD (cB lI rfl d3 rfl rfl rfl x) ?_;obtain ⟨a5,a6,hm⟩:=aB hm
      refine eC (i:=0) (t:=0) (ns:=[str m]) (e':=(m:aJ)) sizeOf9 a3 rfl (zR _) rfl rfl rfl x a6 rfl rfl (eB rfl) rfl (fun cs h=>by cases h;rfl) (fun d4 (d5:aF G K (own 9 K a b a5::L) d4)=>(aAW ?_));exact ⟨bG,a5,a,b,hm,(Eq.trans d2 (congrArg (fun n=>zS a n b) (dH a6))),d5⟩
     obtain ⟨h2,d6,ho⟩:=aB hm
     refine bN [0,4,5] d6 (fun y a7 f w=>f 3=zS a y.length b/\f 6=i64 a7/\aF G K (own 9 K a b y::L) w) aN ?_
     ·rintro y a7 h4 f h5 hm hr ⟨d7,h6,a9⟩
      unfold aAq at hm
      refine aAW ?_
      rcases aM hm with ⟨d8,hm⟩|⟨d8,hm⟩
      ·refine aAW ?_;refine bZ (aAW ?_)
       obtain ⟨b0,b1,hm⟩:=aB hm
       have b2:=bM a9 (i:=0) rfl b1
       refine aD (cB lI rfl b2 rfl rfl rfl b1) (aAW ?_);obtain ⟨h7,b3,hm⟩:=aB hm
       refine aD (cB lI rfl b2 rfl rfl rfl b3) ?_;obtain ⟨d9,b4,hm⟩:=aB hm
       refine eC (i:=0) (t:=0) (ns:=[str b0]) (e':=(b0:aJ)) sizeOf9 a9 rfl (zR _) rfl rfl rfl b3 b4 rfl rfl (eB rfl) rfl (fun cs h=>by cases h;rfl) (fun e0 (e1:aF G K (own 9 K a b d9::L) e0)=>(aAW ?_));exact ⟨_,(zI hm).symm,bG,(Eq.trans d7 (congrArg (fun n=>zS a n b) (dH b4))),rfl,e1⟩
      ·exact aN
    obtain ⟨h8,e2,ho⟩:=aB hm
    refine eK [0,3,4] e2 (fun z f w=>f 5=i64 z/\aF G K (own 9 K d e c::L) w) aN ?_
    ·rintro z e3 f h9 hm hr ⟨i0,i1⟩
     unfold wI at hm
     refine aAW ?_;exact bD [0,3,4,5] (fun f w=>∃ b5,aAr z b5=some e3/\f 35=zB b5/\aF G K (own 9 K d e c::L) w) aN aN
  ·exact aN
theorem aNh {a b:Int} {g:(List aJ)} {edges:(List Edge)} {R:cN} (hm:aDp a b g edges=some R) (hs:aF G K (L) w) (m:bI K a1 c2 g) (h6:bI K a4 c5 edges):
  Calls prog 43 ([i64 a,i64 b,zS a1 g.length c2,zS a4 edges.length c5]:List Value).toArray w (dL fun v w'=>∃ n o p q,v=Value.agg (zCa R n o p q)/\aF G K (own 9 K n o R.L::own 68 K p q R.E::L) w'):=by
 refine aBM func43 ?_;unfold aDp at hm
 refine aAW ?_;refine aEx fun r w8 a3=>?_
 refine aAW ?_;obtain ⟨c,a5,hm⟩:=aB hm
 refine aAZ call84 (aIe a5 a3 m) ?_
 rintro _ c9 ⟨d,e,rfl,d0⟩
 refine aCp ([]:List Edge) fun u d1 d2=>?_;refine aD (cO (vs:=[(0,i64 a),(1,i64 b),(2,zS d c.length e),(3,zS u ([]:List Edge).length 0)]) (cs:=[i64 a,i64 b,zS d c.length e,zS u ([]:List Edge).length 0]) bs_28 rfl (by kernel_rfl)) (aEx fun x d3 d4=>?_)
 refine aFy fun d5 d6=>?_;refine aAW ?_
 refine aS [8,9] (fun f w=>∃ h y z,aKp a b c h=some R/\aF G K (own 68 K y z h::box x 28 [i64 a,i64 b,zS d c.length e,zS y h.length z]::own 9 K d e c::box r 28 zG::L) w) aN ?_;obtain ⟨d7,a6,ho⟩:=aB hm
 refine bN [2,3,8,9] a6 (fun i J f w=>∃ j k,f 10=i64 J/\aF G K (box x 28 [i64 a,i64 b,zS d c.length e,zS j i.length k]::own 68 K j k i::own 9 K d e c::box r 28 zG::L) w) aN ?_
 ·rintro i J d8 f d9 hm hr ⟨j,k,e0,e1⟩
  unfold wJ at hm
  refine aAW ?_
  rcases aM hm with ⟨a7,hm⟩|⟨a7,hm⟩
  ·refine aAW ?_;refine bZ (aAW ?_)
   obtain ⟨e2,a8,hm⟩:=aB hm
   refine aAW ?_;obtain ⟨e3,e4,a9⟩:=bI.el (sz:=3) rfl h6 a8
   cases a9
   refine aAW ?_;refine aEx fun e5 e6 e7=>?_
   refine aFy fun e8 b0=>?_;refine aAW ?_
   obtain ⟨e9,b1,b2,b3,b4⟩:=aF.lendBp b0 .head
   obtain ⟨f0,Z,f1,f2,b5⟩:=aF.lendBp b3 .head
   refine aGG [(0,0),(1,0),(2,0),(3,0),(4,0),(5,0),(6,0),(7,1),(8,0),(9,2)] fun f3 l=>?_;refine aAW ?_
   refine aZ rfl (fun _ ⟨_,l⟩=>bE (t:=1) dJ l (b2.mono Z) rfl rfl) ?_;obtain ⟨f4,b6,hm⟩:=aB hm
   refine aAW ?_;obtain ⟨f5,f6,b8⟩:=bI.el (sz:=1) rfl m b6
   cases b8
   refine aAW ?_;refine fR rfl ?_
   obtain ⟨f7,f8,b9,c0,c1⟩:=aF.lendSp l (Hp.le_trans b1 Z) zt1
   obtain ⟨f9,c3,hm⟩:=aB hm
   refine aAZ call85 (aEl c3 c0 b9) ?_
   rintro _ g0 ⟨rfl,c4⟩
   have a0:=c1 _ _ c4
   refine aY (aC ⟨⟨_,a0⟩,?_⟩)
   refine aAW ?_
   have c6:=b5 _ _ a0
   have g1:=b4 _ _ c6
   exact aN
  ·exact aN
theorem aJq {t:cN} {a:Nat} {R:cN} (hm:aHQ t=some R) (g:aF G K (L) w) (h:dR K a1 a (zC t a4 c5 a7 c8)) (i:bI K a4 c5 t.L) (j:bI K a7 c8 t.E):
  Calls prog 66 ([cE a1 a]:List Value).toArray w (dL fun v w'=>∃ b c d e,v=Value.agg (zCa R b c d e)/\aF G K (own 9 K b c R.L::own 68 K d e R.E::L) w'):=by
 refine aBM func66 ?_;unfold aHQ at hm
 refine aAW ?_;refine aEx fun k l m=>?_
 refine aAW ?_;refine aGG [(0,0),(1,0),(2,0),(3,0),(4,0),(5,0),(6,0),(7,0),(8,0),(9,1),(10,2)] fun n o=>?_
 exact aN
theorem mL {a R:(List Int)} (hm:aBU a=some R) (d:aF G K (L) w) (e:bI K a1 c2 a):
  Calls prog 109 ([zS a1 a.length c2]:List Value).toArray w (dL fun v w'=>∃ b c,v=zS b R.length c/\aF G K (own 2 K b c R::L) w'):=by
 exact aN
theorem aPF {n low a:Int} {R:Bool} (hm:yE n low a=some R) (c:aF G K (L) w):
  Calls prog 37 ([i64 n,i64 low,i64 a]:List Value).toArray w (dL fun v w'=>v=zB R/\aF G K (L) w'):=by
 refine aBM func37 ?_;unfold yE at hm
 iterate 6 refine aBh ?_
 exact bD [] (fun f w=>∃ b,aJA b=some R/\f 6=zB b/\aF G K (L) w) aN aN
theorem aHb {a R:Int} (hm:aBm a=some R) (e:aF G K (L) w):
  Calls prog 80 ([i64 a]:List Value).toArray w (dL fun v w'=>v=i64 R/\aF G K (L) w'):=by
 refine aBM func80 ?_;unfold aBm at hm
 refine aAW ?_;refine bZ (gQ [3] (fun f w=>∃ b,uB a b=some R/\f 4=zB b/\aF G K (L) w) ?_ ?_)
 ·rintro f g ⟨b,hm,h,i⟩
  unfold uB at hm
  rcases aM hm with ⟨d,hm⟩|⟨d,hm⟩
  ·exact aN
  ·iterate 1 refine aBh ?_
   exact gQ [] (fun f w=>∃ c,aBB c=some R/\f 8=zB c/\aF G K (L) w) aN aN
 exact aN
theorem aMd {c:UInt8} {R:Bool} (hm:aDJ c=some R) (b:aF G K (L) w):
  Calls prog 218 ([Value.int .u8 (c.toNat:Int)]:List Value).toArray w (dL fun v w'=>v=zB R/\aF G K (L) w'):=by
 refine aBM func218 ?_;unfold aDJ at hm
 iterate 6 refine aBh ?_
 exact bD [] (fun f w=>∃ a,aFl a=some R/\f 2=zB a/\aF G K (L) w) aN aN
theorem aHc {c:UInt8} {R:Bool} (hm:aDK c=some R) (b:aF G K (L) w):
  Calls prog 219 ([Value.int .u8 (c.toNat:Int)]:List Value).toArray w (dL fun v w'=>v=zB R/\aF G K (L) w'):=by
 refine aBM func219 ?_;unfold aDK at hm
 iterate 6 refine aBh ?_
 exact bD [] (fun f w=>∃ a,aFm a=some R/\f 2=zB a/\aF G K (L) w) aN aN
theorem aNi {a:aJ} {R:Bool} (hm:aDq a=some R) (j:aF G K (L) w):
  Calls prog 194 ([str a]:List Value).toArray w (dL fun v w'=>v=zB R/\aF G K (L) w'):=by
 refine aBM func194 ?_;unfold aDq at hm
 iterate 7 refine aBh ?_
 refine bD [0] (fun f w=>∃ b,sZ a b=some R/\f 16=zB b/\aF G K (L) w) ?_ ?_
 ·rintro f k ⟨b,hm,l,m⟩
  unfold sZ at hm
  refine aAW ?_
  rcases aM hm with ⟨e,hm⟩|⟨e,hm⟩
  ·exact aN
  ·refine aAW ?_;refine aS [] (fun f w=>aGv=some R/\aF G K (L) w) aN ?_
   obtain ⟨n,g,ho⟩:=aB hm
   refine eK [0] g (fun c f w=>f 3=i64 c/\aF G K (L) w) aN ?_
   ·rintro c h f o hm hr ⟨p,q⟩
    unfold aAs at hm
    iterate 5 refine aBh ?_
    refine aD (aDB runUnderlying9 rfl) (aAW ?_)
    rcases aM hm with ⟨i,hm⟩|⟨i,hm⟩
    ·refine aAW ?_;refine bZ ?_
     iterate 1 refine aBh ?_
     exact bD [0,3] (fun f w=>∃ d,aCT c d=some h/\f 34=zB d/\aF G K (L) w) aN aN
    ·exact aN
 exact aN
theorem aLh {a:aJ} {R:Bool} (hm:zZ a=some R) (c:aF G K (L) w):
  Calls prog 140 ([str a]:List Value).toArray w (dL fun v w'=>v=zB R/\aF G K (L) w'):=by
 refine aBM func140 ?_;unfold zZ at hm
 iterate 6 refine aBh ?_
 exact bD [] (fun f w=>∃ b,aAt b=some R/\f 2=zB b/\aF G K (L) w) aN aN
theorem aIf {a:aJ} {R:Int} (hm:aDr a=some R) (d:aF G K (L) w):
  Calls prog 179 ([str a]:List Value).toArray w (dL fun v w'=>v=i64 R/\aF G K (L) w'):=by
 refine aBM func179 ?_;unfold aDr at hm
 refine aAW ?_;refine aS [0] (fun f w=>aKq a=some R/\aF G K (L) w) aN ?_
 obtain ⟨e,b,ho⟩:=aB hm
 exact eK [0] b (fun c f w=>f 3=i64 c/\aF G K (L) w) aN aN
theorem aHd {d:aJ} {by_:UInt8} {R:(List aJ)} (hm:aDL d by_=some R) (J:aF G K (L) w):
  Calls prog 195 ([str d,Value.int .u8 (by_.toNat:Int)]:List Value).toArray w (dL fun v w'=>∃ l m,v=zS l R.length m/\aF G K (own 9 K l m R::L) w'):=by
 refine aBM func195 ?_;unfold aDL at hm
 refine aAW ?_;refine aCp ([]:List aJ) fun Z w2 a2=>?_
 refine aAW ?_;refine aS [0] (fun f w=>∃ e n o p,aFn d e n=some R/\f 5=zS o e.length p/\f 6=i64 n/\aF G K (own 9 K o p e::L) w) aN ?_
 obtain ⟨a3,r,ho⟩:=aB hm
 refine lR [0,1] r (fun g q h f w=>∃ i j,f 5=zS i g.length j/\f 6=i64 q/\f 7=i64 h/\aF G K (own 9 K i j g::L) w) aN ?_
 ·rintro g q h t f a4 hm hr ⟨i,j,a6,a7,a8,a9⟩
  unfold aBC at hm
  iterate 5 refine aBh ?_
  refine aD (aDB runUnderlying9 rfl) (aAW ?_)
  rcases aM hm with ⟨u,hm⟩|⟨u,hm⟩
  ·refine aAW ?_;refine aS [0,1,7] (fun f w=>∃ a k b c,uC h a k=some t/\f 5=zS b a.length c/\f 6=i64 k/\aF G K (own 9 K b c a::L) w) ?_ ?_
   ·rintro f b0 ⟨a,k,b,c,hm,x,y,z⟩
    unfold uC at hm
    refine aAW ?_;exact ⟨_,(zI hm).symm,bG,b,c,x,y,rfl,z⟩
   exact aN
  ·exact aN
end Gv
namespace Gv
open Gv.Hp renaming le_refl→zR
open Go.Value renaming slice→zS,bool→zB,pointer→zP
open Go Go.Proofs Go.Proofs.Tryz
set_option maxRecDepth 20000
set_option maxHeartbeats 40000000
variable {G:rT} {K:Hp} {L:List fM} {w:World} {a1 a4 a7 a2:Option Addr} {c2 c5 c8 b1 c3:Nat}
theorem aFX {c:aJ} {R:(Int × Bool)} (hm:aAa c=some R) (u:aF G K (L) w):
  Calls prog 196 ([str c]:List Value).toArray w (dL fun v w'=>v=Value.tuple #[i64 R.1,zB R.2]/\aF G K (L) w'):=by
 refine aBM func196 ?_;unfold aAa at hm
 iterate 11 refine aBh ?_
 refine gQ [0] (fun f w=>∃ d,rV c d=some R/\f 4=i64 d/\aF G K (L) w) ?_ ?_
 ·rintro f x ⟨d,hm,y,z⟩
  unfold rV at hm
  iterate 2 refine aBh ?_
  refine bD [0,4] (fun f w=>∃ e,mR c d e=some R/\f 36=zB e/\aF G K (L) w) ?_ ?_
  ·rintro f J ⟨e,hm,Z,a0⟩
   unfold mR at hm
   refine aAW ?_
   rcases aM hm with ⟨l,hm⟩|⟨l,hm⟩
   ·exact aN
   ·refine aAW ?_;refine aS [4] (fun f w=>∃ g,aAu d g=some R/\f 5=i64 g/\aF G K (L) w) ?_ ?_
    ·rintro f a1 ⟨g,hm,a2,a3⟩
     unfold aAu at hm
     iterate 1 refine aBh ?_
     exact gQ [] (fun f w=>∃ i,aDM i=some R/\f 5=i64 i/\aF G K (L) w) aN aN
    obtain ⟨a4,m,ho⟩:=aB hm
    refine bN [0,4] m (fun h i32 f w=>f 5=i64 h/\f 6=i64 i32/\aF G K (L) w) aN ?_
    ·rintro h i32 a5 f a6 hm hr ⟨a7,n,o⟩
     unfold rU at hm
     iterate 5 refine aBh ?_
     refine aD (aDB runUnderlying9 rfl) (aAW ?_)
     rcases aM hm with ⟨p,hm⟩|⟨p,hm⟩
     ·refine aAW ?_;refine bZ (aAW ?_)
      obtain ⟨c45,j,hm⟩:=aB hm
      refine aD (R_ixS runUnderlying9 rfl rfl j) ?_;obtain ⟨a8,q,hm⟩:=aB hm
      refine aAZ call219 (aHc q o) ?_
      rintro _ a9 ⟨rfl,r⟩
      refine aAW ?_
      rcases aM hm with ⟨t,hm⟩|⟨t,hm⟩
      ·exact aN
      ·iterate 8 refine aBh ?_
       exact aD (R_ixS runUnderlying9 rfl rfl j) (aD (aQl (a:=c45) (b:=(48:UInt8)) rfl rfl) (aD (aKb runUnderlying2 rfl ⟨_,runUnderlying5⟩) (aD (cJ rfl rfl) (aH (v:=i64 (wr ((wr (10 * h))+(wr ((c45 - (48:UInt8)).toNat:Int))))) (aY (bW (aC (aU (bA n (aD (cJ rfl rfl) (aH (v:=i64 (wr (i32+1))) (aI ⟨_,(Option.some.inj hm).symm,bG,rfl,rfl,r⟩))))))))))))
     ·exact aN
  exact aN
 iterate 1 refine aBh ?_
 exact bD [0,4] (fun f w=>∃ k,vE c k=some R/\f 14=zB k/\aF G K (L) w) aN aN
theorem aLi {d:aJ} {R:((List Int) × Bool)} (hm:aEL d=some R) (u:aF G K (L) w):
  Calls prog 141 ([str d]:List Value).toArray w (dL fun v w'=>∃ j k,v=Value.tuple #[zS j R.1.length k,zB R.2]/\aF G K (own 2 K j k R.1::L) w'):=by
 refine aBM func141 ?_;unfold aEL at hm
 refine aAW ?_;obtain ⟨x,y,hm⟩:=aB hm
 refine aAZ call179 (aIf y u) ?_
 rintro _ w3 ⟨rfl,a9⟩
 iterate 8 refine aBh ?_
 refine aD (aDB runUnderlying9 rfl) (aAW ?_)
 rcases aM hm with ⟨z,hm⟩|⟨z,hm⟩
 ·exact aN
 ·iterate 5 refine aBh ?_
  refine bD [0,4] (fun f w=>∃ e,rW d x e=some R/\f 31=zB e/\aF G K (L) w) ?_ ?_
  ·rintro f b0 ⟨e,hm,b1,J⟩
   unfold rW at hm
   refine aAW ?_
   rcases aM hm with ⟨Z,hm⟩|⟨Z,hm⟩
   ·exact aN
   ·iterate 9 refine aBh ?_
    refine aD (aDB runUnderlying9 rfl) (aAW ?_);obtain ⟨b2,a0,hm⟩:=aB hm
    refine aD (R_slSLH runUnderlying9 rfl rfl rfl a0) ?_;obtain ⟨l,a1,hm⟩:=aB hm
    refine aAZ call195 (aHd (by_:=(44:UInt8)) a1 J) ?_
    rintro _ b3 ⟨m,n,rfl,b4⟩
    refine aAW ?_;refine aCp ([]:List Int) fun b5 b6 b7=>?_
    refine aAW ?_;refine aS [] (fun f w=>∃ g o p,aDN g=some R/\f 6=zS o g.length p/\aF G K (own 2 K o p g::L) w) aN ?_
    obtain ⟨b8,a2,ho⟩:=aB hm
    refine bN [5] a2 (fun a h f w=>∃ b c,f 6=zS b a.length c/\f 7=i64 h/\aF G K (own 2 K b c a::own 9 K m n l::L) w) aN ?_
    ·rintro a h a3 f b9 hm hr ⟨b,c,c0,c1,q⟩
     unfold vF at hm
     refine aAW ?_
     rcases aM hm with ⟨a4,hm⟩|⟨a4,hm⟩
     ·refine aAW ?_;refine bZ (aAW ?_)
      obtain ⟨c2,r,hm⟩:=aB hm
      have a5:=bM q (i:=1) rfl r
      refine aD (cB lI rfl a5 rfl rfl rfl r) (aAW ?_);obtain ⟨a6,a7,hm⟩:=aB hm
      refine aAZ call196 (aFX a7 q) ?_
      rintro _ c3 ⟨rfl,c4⟩
      iterate 9 refine aBh ?_
      exact bD [5,6,7,8] (fun f w=>∃ t,aAv a h a6 t=some a3/\f 61=zB t/\aF G K (own 2 K b c a::own 9 K m n l::L) w) aN aN
     ·exact aN
  exact aN
theorem aMe {a:aJ} {R:Bool} (hm:aDO a=some R) (b:aF G K (L) w):
  Calls prog 83 ([str a]:List Value).toArray w (dL fun v w'=>v=zB R/\aF G K (L) w'):=by
 exact aN
theorem aEU {a:aJ} {R:Bool} (hm:tA a=some R) (e:aF G K (L) w):
  Calls prog 81 ([str a]:List Value).toArray w (dL fun v w'=>v=zB R/\aF G K (L) w'):=by
 refine aBM func81 ?_;unfold tA at hm
 iterate 7 refine aBh ?_
 refine bD [0] (fun f w=>∃ b,tU a b=some R/\f 8=zB b/\aF G K (L) w) ?_ ?_
 ·rintro f g ⟨b,hm,h,i⟩
  unfold tU at hm
  refine aAW ?_
  rcases aM hm with ⟨d,hm⟩|⟨d,hm⟩
  ·exact aN
  ·iterate 4 refine aBh ?_
   exact bD [] (fun f w=>∃ c,yF c=some R/\f 2=zB c/\aF G K (L) w) aN aN
 exact aN
theorem aHe {b:(List aT)} {p i:Int} {R:Bool} (hm:aBn b p i=some R) (hs:aF G K (L) w) (q:bI K a1 c2 b):
  Calls prog 35 ([zS a1 b.length c2,i64 p,i64 i]:List Value).toArray w (dL fun v w'=>v=zB R/\aF G K (L) w'):=by
 refine aBM func35 ?_;unfold aBn at hm
 iterate 7 refine aBh ?_
 refine bD [0,2] (fun f w=>∃ j,xL b i j=some R/\f 18=zB j/\aF G K (L) w) ?_ ?_
 ·rintro f w6 ⟨j,hm,e5,b2⟩
  unfold xL at hm
  refine aAW ?_
  rcases aM hm with ⟨J,hm⟩|⟨J,hm⟩
  ·exact aN
  ·refine aAW ?_;refine aS [] (fun f w=>∃ r,aFo r=some R/\f 7=i64 r/\aF G K (L) w) aN ?_
   obtain ⟨b3,Z,ho⟩:=aB hm
   refine bN [0,2] Z (fun e c f w=>f 7=i64 e/\f 8=i64 c/\aF G K (L) w) aN ?_
   ·rintro e c k f b4 hm hr ⟨b5,a0,b6⟩
    unfold dQ at hm
    refine aAW ?_
    rcases aM hm with ⟨a2,hm⟩|⟨a2,hm⟩
    ·refine aAW ?_;refine bZ ?_
     iterate 2 refine aBh ?_
     refine bD [0,2,7,8] (fun f w=>∃ l,uD b e c l=some k/\f 36=zB l/\aF G K (L) w) ?_ ?_
     ·rintro f b7 ⟨l,hm,b8,a3⟩
      unfold uD at hm
      refine aAW ?_
      rcases aM hm with ⟨a4,hm⟩|⟨a4,hm⟩
      ·exact aN
      ·refine aAW ?_;obtain ⟨d,u,hm⟩:=aB hm
       refine aAW ?_;obtain ⟨b9,x,a5⟩:=bI.el (sz:=4) rfl q u
       cases a5
       refine aAW ?_;obtain ⟨y,a6,hm⟩:=aB hm
       refine aAZ call80 (aHb a6 a3) ?_
       rintro _ c0 ⟨rfl,c1⟩
       iterate 6 refine aBh ?_
       refine bD [0,2,7,8] (fun f w=>∃ m,kI e c d y m=some k/\f 9=zB m/\aF G K (L) w) ?_ ?_
       ·rintro f c3 ⟨m,hm,c4,h⟩
        unfold kI at hm
        iterate 2 refine aBh ?_
        refine bD [0,2,7,8] (fun f w=>∃ z,mG e c y z=some k/\f 88=zB z/\aF G K (L) w) aN (aAW ?_)
        rcases aM hm with ⟨a,hm⟩|⟨a,hm⟩
        ·refine aAW ?_;obtain ⟨c5,a7,hm⟩:=aB hm
         refine aAZ call81 (aEU a7 h) ?_
         rintro _ c6 ⟨rfl,a8⟩
         refine aAW ?_
         rcases aM hm with ⟨n,hm⟩|⟨n,hm⟩
         ·exact aN
         ·refine aAW ?_;exact bK (pY a) rfl rfl (bK (pY a) rfl rfl (bK (pY a) rfl rfl (bK (pY a) rfl rfl (bK (pY a) rfl rfl (bK (pY a) rfl rfl (bK (pY a) rfl rfl (xF (g:=80) rfl rfl (xF (g:=80) rfl rfl (xF (g:=80) rfl rfl (xF (g:=80) rfl rfl (xF (g:=80) rfl rfl (bK (pY a) rfl rfl (cR n rfl rfl (aD (eJ (v:=zB false) (pY a) rfl rfl) (aD (eJ (v:=zB false) n rfl rfl) (aI ⟨bG,false,hm,rfl,a8⟩))))))))))))))))
        ·refine aAW ?_;refine bP (lC a) rfl rfl (aG (v:=zS a1 b.length c2) (bP (lC a) rfl rfl (bA a0 (bP (lC a) rfl rfl (aD (cU gS rfl q rfl rfl rfl u) (bP (lC a) rfl rfl (aD (cV (k':=c.toNat * 4+2) aKj rfl x rfl) (bP (lC a) rfl rfl (aD (bE (t:=2) sc_9 h x rfl rfl) (bP (lC a) rfl rfl (aD (R_neqS rfl rfl) (bP (lC a) rfl rfl (aG (v:=zB (!(d.B == ([]:aJ)))) ?_)))))))))))))
         rcases aM hm with ⟨o,hm⟩|⟨o,hm⟩
         ·refine aAW ?_;exact bP (lC a) rfl rfl (aD (fN (v:=zB true) o rfl rfl) (cR (by decide:¬ false=true) rfl rfl (aD (fN (v:=zB true) (lC a) rfl rfl) (aD (eJ (v:=zB true) (by decide:¬ false=true) rfl rfl) (aI ⟨bG,true,hm,rfl,h⟩)))))
         ·refine aAW ?_;exact bP (lC a) rfl rfl (aD (eJ (v:=zB d.Not) o rfl rfl) (cR (by decide:¬ false=true) rfl rfl (aD (fN (v:=zB d.Not) (lC a) rfl rfl) (aD (eJ (v:=zB d.Not) (by decide:¬ false=true) rfl rfl) (aI ⟨bG,d.Not,hm,rfl,h⟩)))))
       exact aN
     exact aN
    ·exact aN
 exact aN
theorem aMf {n:aT} {a:Nat} {R:Bool} (hm:yQ n=some R) (c:aF G K (L) w) (d:dR K a1 a [i64 n.Kind,i64 n.Variable,str n.B,zB n.Not]):
  Calls prog 36 ([cE a1 a]:List Value).toArray w (dL fun v w'=>v=zB R/\aF G K (L) w'):=by
 refine aBM func36 ?_;unfold yQ at hm
 iterate 6 refine aBh ?_
 exact bD [] (fun f w=>∃ b,aBD b=some R/\f 2=zB b/\aF G K (L) w) aN aN
theorem aOh {a:(List aT)} {k R:Int} (hm:vG a k=some R) (g:aF G K (L) w) (h:bI K a1 c2 a):
  Calls prog 82 ([zS a1 a.length c2,i64 k]:List Value).toArray w (dL fun v w'=>v=i64 R/\aF G K (L) w'):=by
 refine aBM func82 ?_;unfold vG at hm
 refine aAW ?_;refine aS [] (fun f w=>∃ b,aHR b=some R/\f 1=i64 b/\aF G K (L) w) aN ?_
 obtain ⟨i,c,ho⟩:=aB hm
 exact bN [0] c (fun d e f w=>f 1=i64 d/\f 5=i64 e/\aF G K (L) w) aN aN
theorem aLj {a:(List aT)} {k R:Int} (hm:eS a k=some R) (h:aF G K (L) w) (i:bI K a1 c2 a):
  Calls prog 38 ([zS a1 a.length c2,i64 k]:List Value).toArray w (dL fun v w'=>v=i64 R/\aF G K (L) w'):=by
 refine aBM func38 ?_;unfold eS at hm
 refine aAW ?_;refine aS [] (fun f w=>aHS=some R/\aF G K (L) w) aN ?_
 obtain ⟨j,d,ho⟩:=aB hm
 refine eK [0,1] d (fun b f w=>f 5=i64 b/\aF G K (L) w) aN ?_
 ·rintro b e f l hm hr ⟨m,n⟩
  unfold jI at hm
  refine aAW ?_
  rcases aM hm with ⟨g,hm⟩|⟨g,hm⟩
  ·refine aAW ?_;refine bZ (aAW ?_)
   exact bD [0,1,5] (fun f w=>∃ c,pB b c=some e/\f 35=zB c/\aF G K (L) w) aN aN
  ·exact aN
theorem aGD {a:(List aT)} {R:Bool} (hm:aAw a=some R) (g:aF G K (L) w) (h:bI K a1 c2 a):
  Calls prog 13 ([zS a1 a.length c2]:List Value).toArray w (dL fun v w'=>v=zB R/\aF G K (L) w'):=by
 refine aBM func13 ?_;unfold aAw at hm
 refine aAW ?_;obtain ⟨m,i,hm⟩:=aB hm
 refine aAZ call35 (aHe i g h) ?_
 rintro _ n ⟨rfl,o⟩
 refine aAW ?_
 rcases aM hm with ⟨j,hm⟩|⟨j,hm⟩
 ·exact aN
 ·refine aAW ?_;refine aS [] (fun f w=>aMX=some R/\aF G K (L) w) aN ?_
  obtain ⟨p,k,ho⟩:=aB hm
  refine eK [0] k (fun b f w=>f 3=i64 b/\aF G K (L) w) aN ?_
  ·rintro b c f q hm hr ⟨r,t⟩
   unfold tB at hm
   refine aAW ?_
   rcases aM hm with ⟨l,hm⟩|⟨l,hm⟩
   ·refine aAW ?_;refine bZ (gQ [0,3] (fun f w=>yR a b=some c/\aF G K (L) w) ?_ ?_)
    ·rintro f u ⟨hm,x⟩
     unfold yR at hm
     iterate 1 refine aBh ?_
     exact bD [0,3] (fun f w=>∃ d,aDP b d=some c/\f 49=zB d/\aF G K (L) w) aN aN
    iterate 1 refine aBh ?_
    exact bD [0,3] (fun f w=>∃ e,yS a b e=some c/\f 24=zB e/\aF G K (L) w) aN aN
   ·exact aN
theorem aMg {a:(List aJ)} {R:Bool} (hm:aDQ a=some R) (j:aF G K (L) w) (k:bI K a1 c2 a):
  Calls prog 39 ([zS a1 a.length c2]:List Value).toArray w (dL fun v w'=>v=zB R/\aF G K (L) w'):=by
 refine aBM func39 ?_;unfold aDQ at hm
 iterate 7 refine aBh ?_
 refine bD [0] (fun f w=>∃ b,uF a b=some R/\f 17=zB b/\aF G K (L) w) ?_ ?_
 ·rintro f l ⟨b,hm,m,n⟩
  unfold uF at hm
  refine aAW ?_
  rcases aM hm with ⟨e,hm⟩|⟨e,hm⟩
  ·exact aN
  ·refine aAW ?_;refine aS [] (fun f w=>aJg=some R/\aF G K (L) w) aN ?_
   obtain ⟨o,g,ho⟩:=aB hm
   refine eK [0] g (fun c f w=>f 3=i64 c/\aF G K (L) w) aN ?_
   ·rintro c h f p hm hr ⟨q,r⟩
    unfold xM at hm
    refine aAW ?_
    rcases aM hm with ⟨i,hm⟩|⟨i,hm⟩
    ·refine aAW ?_;refine bZ (aAW ?_)
     exact bD [0,3] (fun f w=>∃ d,uE c d=some h/\f 52=zB d/\aF G K (L) w) aN aN
    ·exact aN
 exact aN
theorem aGE {t:cN} {e:Nat} {R:Bool} (hm:aIH t=some R) (hs:aF G K (L) w) (h3:dR K a1 e (zC t a4 c5 a7 c8)) (h6:bI K a4 c5 t.L) (g:bI K a7 c8 t.E):
  Calls prog 14 ([cE a1 e]:List Value).toArray w (dL fun v w'=>v=zB R/\aF G K (L) w'):=by
 refine aBM func14 ?_;unfold aIH at hm
 refine aAW ?_;refine bD [0] (fun f w=>∃ c,yT t c=some R/\f 39=zB c/\aF G K (L) w) ?_ ?_
 ·rintro f a6 ⟨c,hm,a8,a9⟩
  unfold yT at hm
  refine aAW ?_
  rcases aM hm with ⟨j,hm⟩|⟨j,hm⟩
  ·exact aN
  ·refine aAW ?_;refine aS [] (fun f w=>aMY=some R/\aF G K (L) w) aN ?_
   obtain ⟨b0,k,ho⟩:=aB hm
   refine eK [0] k (fun a f w=>f 3=i64 a/\aF G K (L) w) aN ?_
   ·rintro a h f b1 hm hr ⟨b2,b3⟩
    unfold aDR at hm
    refine aAW ?_
    rcases aM hm with ⟨l,hm⟩|⟨l,hm⟩
    ·refine aAW ?_;refine bZ (aAW ?_)
     obtain ⟨b,m,hm⟩:=aB hm
     refine aAW ?_;obtain ⟨b4,b5,n⟩:=bI.el (sz:=3) rfl g m
     cases n
     refine aAW ?_;refine aEx fun o b6 b7=>?_
     refine aFy fun b8 b9=>?_;refine aAW ?_
     refine bD [0,3,4] (fun f w=>∃ d,aBo t a b d=some h/\f 87=zB d/\aF G K (box o 68 [i64 b.F,i64 b.B,i64 b.To]::L) w) ?_ ?_
     ·rintro f c0 ⟨d,hm,c1,p⟩
      unfold aBo at hm
      refine aAW ?_
      rcases aM hm with ⟨q,hm⟩|⟨q,hm⟩
      ·exact aN
      ·iterate 4 refine aBh ?_
       refine bD [0,3] (fun f w=>∃ i,aGw a i=some h/\f 100=zB i/\aF G K (L) w) aN (aAW ?_)
       rcases aM hm with ⟨r,hm⟩|⟨r,hm⟩
       ·refine aAW ?_;obtain ⟨c2,u,hm⟩:=aB hm
        refine aAW ?_;obtain ⟨c3,x,y⟩:=bI.el (sz:=3) rfl g u
        cases y
        refine aAW ?_;obtain ⟨c4,z,J,Z,c6⟩:=aF.lendBp p .head
        obtain ⟨c7,a0,hm⟩:=aB hm
        exact aAZ call40 (aEk a0 Z (x.mono z) J) aN
       ·exact aN
     exact aN
    ·exact aN
 exact aN
theorem aEm {a:(List UInt8)} {b c:Int} {R:(Int × Int × Int)} (hm:uG a b c=some R) (e:aF G K (box b1 74 [zS a2 a.length c3,i64 b,Value.int .u64 c]::L) w) (g:bI K a2 c3 a):
  Calls prog 79 ([zP (some ⟨b1,0,none⟩)]:List Value).toArray w (dL fun v w'=>v=i64 R.1/\aF G K (box b1 74 [zS a2 a.length c3,i64 R.2.1,Value.int .u64 R.2.2]::L) w'):=by
 refine aBM func79 ?_;unfold uG at hm
 iterate 10 refine aBh ?_
 exact gQ [0] (fun f w=>∃ d,rX a b c d=some R/\f 3=i64 d/\aF G K (box b1 74 [zS a2 a.length c3,i64 b,Value.int .u64 c]::L) w) aN aN
theorem bH {a:(List UInt8)} {b c n:Int} {R:(Int × Int × Int)} (hm:bJ a b c n=some R) (h:aF G K (box b1 74 [zS a2 a.length c3,i64 b,Value.int .u64 c]::L) w) (i:bI K a2 c3 a):
  Calls prog 34 ([zP (some ⟨b1,0,none⟩),i64 n]:List Value).toArray w (dL fun v w'=>v=i64 R.1/\aF G K (box b1 74 [zS a2 a.length c3,i64 R.2.1,Value.int .u64 R.2.2]::L) w'):=by
 refine aBM func34 ?_;unfold bJ at hm
 refine aAW ?_
 rcases aM hm with ⟨j,hm⟩|⟨j,hm⟩
 ·exact aN
 ·refine aAW ?_;obtain ⟨l,k,hm⟩:=aB hm
  refine aAZ call79 (aEm k h i) ?_
  rintro _ m ⟨rfl,o⟩
  iterate 3 refine aBh ?_
  exact gQ [1] (fun f w=>∃ d e g,rY n d e g=some R/\f 5=i64 d/\aF G K (box b1 74 [zS a2 a.length c3,i64 e,Value.int .u64 g]::L) w) aN aN
theorem nJ {a:(List UInt8)} {b c n:Int} {R:(Bool × Int × Int)} (hm:kM a b c n=some R) (d:aF G K (box b1 74 [zS a2 a.length c3,i64 b,Value.int .u64 c]::L) w) (e:bI K a2 c3 a):
  Calls prog 32 ([zP (some ⟨b1,0,none⟩),i64 n]:List Value).toArray w (dL fun v w'=>v=zB R.1/\aF G K (box b1 74 [zS a2 a.length c3,i64 R.2.1,Value.int .u64 R.2.2]::L) w'):=by
 exact aN
theorem aCF {a:(List UInt8)} {t u:Int} {R:((List aJ) × Int × Int)} (hm:vH a t u=some R) (hs:aF G K (box b1 74 [zS a2 a.length c3,i64 t,Value.int .u64 u]::L) w) (h4:bI K a2 c3 a):
  Calls prog 41 ([zP (some ⟨b1,0,none⟩)]:List Value).toArray w (dL fun v w'=>∃ x y,v=zS x R.1.length y/\aF G K (own 9 K x y R.1::box b1 74 [zS a2 a.length c3,i64 R.2.1,Value.int .u64 R.2.2]::L) w'):=by
 refine aBM func41 ?_;unfold vH at hm
 refine aAW ?_;refine aCp ([([116,97,117]:aJ)]:List aJ) fun a5 w6 b6=>?_
 refine aAW ?_;refine aCp ([([97]:aJ),([98]:aJ),([99]:aJ),([103,101,116,40,48,41]:aJ),([103,101,116,40,49,41]:aJ)]:List aJ) fun m w9 b8=>?_
 refine aAW ?_;refine aS [] (fun f w=>∃ e b c n o,uW e b c=some R/\f 3=zS n e.length o/\aF G K (own 9 K n o e::box b1 74 [zS a2 a.length c3,i64 b,Value.int .u64 c]::L) w) ?_ ?_
 ·rintro f b9 ⟨e,b,c,n,o,hm,c0,c1⟩
  unfold uW at hm
  iterate 1 refine aBh ?_
  exact gQ [] (fun f w=>∃ p z J,uV b c p=some R/\f 3=zS z p.length J/\aF G K (own 9 K z J p::box b1 74 [zS a2 a.length c3,i64 b,Value.int .u64 c]::L) w) aN aN
 obtain ⟨c2,a7,ho⟩:=aB hm
 refine aFB [0,4] a7 (fun Z a0 d g f w=>∃ h i,f 3=zS h d.length i/\f 5=i64 g/\aF G K (own 9 K m 5 ([([97]:aJ),([98]:aJ),([99]:aJ),([103,101,116,40,48,41]:aJ),([103,101,116,40,49,41]:aJ)]:List aJ)::own 9 K h i d::box b1 74 [zS a2 a.length c3,i64 Z,Value.int .u64 a0]::L) w) aN ?_
 ·rintro Z a0 d g a1 f c4 hm hr ⟨h,i,c5,c6,c7⟩
  unfold nG at hm
  refine aAW ?_
  rcases aM hm with ⟨a9,hm⟩|⟨a9,hm⟩
  ·refine aAW ?_;refine aS [0,4,5] (fun f w=>∃ q r j k l,kN g q r j=some a1/\f 3=zS k j.length l/\aF G K (own 9 K k l j::own 9 K m 5 ([([97]:aJ),([98]:aJ),([99]:aJ),([103,101,116,40,48,41]:aJ),([103,101,116,40,49,41]:aJ)]:List aJ)::box b1 74 [zS a2 a.length c3,i64 q,Value.int .u64 r]::L) w) ?_ ?_
   ·rintro f c8 ⟨q,r,j,k,l,hm,b0,c9⟩
    unfold kN at hm
    refine aAW ?_;exact ⟨_,(Option.some.inj hm).symm,bG,k,l,b0,rfl,aCN⟩
   iterate 1 refine aBh ?_
   exact bD [0,3,4,5] (fun f w=>∃ a3 a4 a6,qF d g a3 a4 a6=some a1/\f 20=zB a6/\aF G K (own 9 K m 5 ([([97]:aJ),([98]:aJ),([99]:aJ),([103,101,116,40,48,41]:aJ),([103,101,116,40,49,41]:aJ)]:List aJ)::own 9 K h i d::box b1 74 [zS a2 a.length c3,i64 a3,Value.int .u64 a4]::L) w) aN aN
  ·exact aN
end Gv
