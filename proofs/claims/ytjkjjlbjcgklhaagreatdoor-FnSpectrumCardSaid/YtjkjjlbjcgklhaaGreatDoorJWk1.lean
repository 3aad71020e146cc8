/- Walks, printed by program. -/
import Derived.Test.YtjkjjlbjcgklhaaGreatDoorJLW
set_option linter.all false
namespace Gv
open Go.Value renaming slice→zS,bool→zB,agg→zA
open Option.some renaming inj→zI
open Gv.Hp renaming le_refl→zR
open Go Go.Proofs Go.Proofs.Tryz
set_option maxRecDepth 20000
set_option maxHeartbeats 40000000
variable {G:Env} {K:Hp} {L:List iD} {w:World} {a1 a4 a7 a10:Option Addr} {c2 c5 c8 c11:Nat}
theorem aKn {a:(List aL)} {R:((List Int) × Bool)} (hm:zJ a=some R) (k:aD G K (L) w) (n:G.lo=0) (o:aT K a1 c2 a):
  Calls prog 147 ([zS a1 a.length c2]:List Value).toArray w (dO fun v w'=>∃ c d,v=Value.tuple #[zS c R.1.length d,zB R.2]/\aD G K (aH 2 K c d R.1::L) w'):=by
 refine cA func147 ?_;unfold zJ at hm
 refine aC ?_;refine aJ [] (fun f w=>∃ b e g,aGB b=some R/\f 4=zS e b.length g/\aD G K (aH 2 K e g b::L) w) aI ?_
 have p:=aD.nil (α:=Int) k 2 K
 obtain ⟨q,l,ho⟩:=aB hm
 exact aY [9,10] l (fun h m f w=>∃ i j,f 4=zS i h.length j/\f 11=i64 m/\aD G K (aH 2 K i j h::L) w) aI aI
theorem aOY {c:(List Int)} {d R:aL} (hm:aGC c d=some R) (q:aD G K (L) w) (hG:G.lo=0) (r:aT K a1 c2 c):
  Calls prog 98 ([zS a1 c.length c2,str d]:List Value).toArray w (dO fun v w'=>v=str R/\aD G K (L) w'):=by
 refine cA func98 ?_;unfold aGC at hm
 refine aC ?_;obtain ⟨a,u,hm⟩:=aB hm
 refine aFB (e:=([]:aL)) dG zF rfl rfl q rfl rfl rfl u rfl (fun b x (b0:aD G K (aH 9 K b a.length a::L) x)=>(aC ?_));refine aJ [1] (fun f w=>∃ g,aIm d g=some R/\f 5=zS b g.length a.length/\aD G K (aH 9 K b a.length g::L) w) aI ?_
 obtain ⟨b1,y,ho⟩:=aB hm
 refine aY [1,11,12] y (fun j l f w=>f 5=zS b j.length a.length/\f 13=i64 l/\aD G K (aH 9 K b a.length j::L) w) aI ?_
 ·rintro j l b2 f b3 hm hr ⟨z,b4,V⟩
  unfold aDg at hm
  refine aC ?_
  rcases aG hm with ⟨Z,hm⟩|⟨Z,hm⟩
  ·refine aC ?_;refine bT (aC ?_)
   obtain ⟨b5,a0,hm⟩:=aB hm
   refine aC ?_;obtain ⟨b6,b7,a2⟩:=aT.el (sz:=1) rfl r a0
   cases a2
   refine aC ?_;obtain ⟨m,a3,hm⟩:=aB hm
   refine bP call144 (aMB V a3) ?_
   rintro _ b8 ⟨rfl,o⟩
   obtain ⟨b9,k,hm⟩:=aB hm
   have a4:=bY o (i:=0) rfl k
   refine aK (cR dG rfl a4 rfl rfl rfl k) ?_;obtain ⟨a5,p,hm⟩:=aB hm
   refine lU (i:=0) (t:=0) (ns:=[str m]) (e':=(m:aL)) sizeOf9 o rfl (Hp.le_refl _) rfl rfl rfl k p rfl rfl (oR rfl) rfl (fun cs h=>by cases h;rfl) (fun a7 (a8:aD G K (aH 9 K b a.length a5::L) a7)=>(aC ?_));exact ⟨_,(zI hm).symm,aU,(Eq.trans z (congrArg (fun n=>zS b n a.length) (gX p))),rfl,a8⟩
  ·exact aI
theorem aNI {c:UInt8} {R:Bool} (hm:aJi c=some R) (b:aD G K (L) w):
  Calls prog 259 ([Value.int .u8 (c.toNat:Int)]:List Value).toArray w (dO fun v w'=>v=zB R/\aD G K (L) w'):=by
 refine cA func259 ?_;unfold aJi at hm
 iterate 6 refine eU ?_
 exact bG [] (fun f w=>∃ a,aHs a=some R/\f 2=zB a/\aD G K (L) w) aI aI
theorem aOZ {a:aL} {R:Bool} (hm:aIo a=some R) (j:aD G K (L) w):
  Calls prog 230 ([str a]:List Value).toArray w (dO fun v w'=>v=zB R/\aD G K (L) w'):=by
 refine cA func230 ?_;unfold aIo at hm
 iterate 9 refine eU ?_
 refine aK (aRs runUnderlying9 rfl) (aC ?_);refine aJ [0] (fun f w=>aFD a=some R/\aD G K (L) w) ?_ ?_
 ·rintro f k ⟨hm,l⟩
  unfold aFD at hm
  iterate 2 refine eU ?_
  exact bG [] (fun f w=>∃ d,aIn d=some R/\f 2=zB d/\aD G K (L) w) aI aI
 obtain ⟨m,h,ho⟩:=aB hm
 refine eM [0,6] h (fun b f w=>f 7=i64 b/\aD G K (L) w) aI ?_
 ·rintro b e f n hm hr ⟨o,p⟩
  unfold aAY at hm
  refine aC ?_
  rcases aG hm with ⟨i,hm⟩|⟨i,hm⟩
  ·refine aC ?_;refine bT ?_
   iterate 7 refine eU ?_
   refine bG [0,3,6,7] (fun f w=>∃ c,tL a b c=some e/\f 4=zB c/\aD G K (L) w) ?_ ?_
   ·rintro f q ⟨c,hm,r,t⟩
    unfold tL at hm
    iterate 2 refine eU ?_
    exact bG [0,6,7] (fun f w=>∃ g,aDh b g=some e/\f 32=zB g/\aD G K (L) w) aI aI
   exact aI
  ·exact aI
theorem aML {a:aL} {R:Bool} (hm:aEK a=some R) (c:aD G K (L) w):
  Calls prog 192 ([str a]:List Value).toArray w (dO fun v w'=>v=zB R/\aD G K (L) w'):=by
 refine cA func192 ?_;unfold aEK at hm
 iterate 6 refine eU ?_
 exact bG [] (fun f w=>∃ b,aCO b=some R/\f 2=zB b/\aD G K (L) w) aI aI
theorem aPa {n low a:Int} {R:Bool} (hm:zN n low a=some R) (c:aD G K (L) w):
  Calls prog 54 ([i64 n,i64 low,i64 a]:List Value).toArray w (dO fun v w'=>v=zB R/\aD G K (L) w'):=by
 refine cA func54 ?_;unfold zN at hm
 iterate 6 refine eU ?_
 exact bG [] (fun f w=>∃ b,aIp b=some R/\f 6=zB b/\aD G K (L) w) aI aI
theorem aNJ {n:Int} {R:Bool} (hm:aLP n=some R) (a:aD G K (L) w):
  Calls prog 232 ([i64 n]:List Value).toArray w (dO fun v w'=>v=zB R/\aD G K (L) w'):=by
 exact aI
theorem aEb {n:Int} {R:Bool} (hm:aEL n=some R) (a:aD G K (L) w):
  Calls prog 231 ([i64 n]:List Value).toArray w (dO fun v w'=>v=zB R/\aD G K (L) w'):=by
 exact aI
theorem wZ {a:(List Int)} {R:Int} (hm:gM a=some R) (l:aD G K (L) w) (d:aT K a1 c2 a):
  Calls prog 155 ([zS a1 a.length c2,Value.func (.func 231) #[] #[]]:List Value).toArray w (dO fun v w'=>v=i64 R/\aD G K (L) w'):=by
 refine cA func155 ?_;unfold gM at hm
 refine aC ?_;refine aJ [] (fun f w=>oL=some R/\aD G K (L) w) aI ?_
 obtain ⟨m,e,ho⟩:=aB hm
 refine eM [0,1,7] e (fun b f w=>f 8=i64 b/\aD G K (L) w) aI ?_
 ·rintro b n f o hm hr ⟨p,g⟩
  unfold dS at hm
  refine aC ?_
  rcases aG hm with ⟨h,hm⟩|⟨h,hm⟩
  ·refine aC ?_;refine bT (aC ?_)
   obtain ⟨c,i,hm⟩:=aB hm
   refine aC ?_;obtain ⟨q,r,j⟩:=aT.el (sz:=1) rfl d i
   cases j
   refine aC ?_;obtain ⟨t,k,hm⟩:=aB hm
   exact gR (vs:=[i64 c]) (caps:=[]) (us:=[i64 c]) rfl call231 rfl rfl (aEb k g) aI
  ·exact aI
theorem uU {a:(List Int)} {R:Bool} (hm:iY a=some R) (b:aD G K (L) w) (c:aT K a1 c2 a):
  Calls prog 108 ([zS a1 a.length c2,Value.func (.func 231) #[] #[]]:List Value).toArray w (dO fun v w'=>v=zB R/\aD G K (L) w'):=by
 exact aI
theorem aLS {a:(List Int)} {R:Bool} (hm:aFE a=some R) (b:aD G K (L) w) (c:aT K a1 c2 a):
  Calls prog 193 ([zS a1 a.length c2]:List Value).toArray w (dO fun v w'=>v=zB R/\aD G K (L) w'):=by
 exact aI
theorem aIB {b:aL} {a:(List Int)} {R:(aL × Bool)} (hm:aGD b a=some R) (e:aD G K (L) w) (g:G.lo=0) (h:aT K a1 c2 a):
  Calls prog 150 ([str b,zS a1 a.length c2]:List Value).toArray w (dO fun v w'=>v=Value.tuple #[str R.1,zB R.2]/\aD G K (L) w'):=by
 refine cA func150 ?_;unfold aGD at hm
 refine aC ?_;refine bT (aC ?_)
 rcases aG hm with ⟨d,hm⟩|⟨d,hm⟩
 ·exact aI
 ·iterate 2 refine eU ?_
  exact bG [0,1] (fun f w=>∃ c,aBw b a c=some R/\f 12=zB c/\aD G K (L) w) aI aI
theorem yI {a b:aL} {R:Bool} (hm:gS a b=some R) (d:aD G K (L) w):
  Calls prog 229 ([str a,str b]:List Value).toArray w (dO fun v w'=>v=zB R/\aD G K (L) w'):=by
 refine cA func229 ?_;unfold gS at hm
 iterate 6 refine eU ?_
 exact bG [] (fun f w=>∃ c,fP c=some R/\f 4=zB c/\aD G K (L) w) aI aI
theorem xA {a b R:aL} (hm:kO a b=some R) (c:aD G K (L) w):
  Calls prog 191 ([str a,str b]:List Value).toArray w (dO fun v w'=>v=str R/\aD G K (L) w'):=by
 exact aI
theorem aFx {a b R:aL} (hm:qR a b=some R) (c:aD G K (L) w):
  Calls prog 149 ([str a,str b]:List Value).toArray w (dO fun v w'=>v=str R/\aD G K (L) w'):=by
 exact aI
theorem aLT {d:aL} {R:(aL × (List Int) × Bool)} (hm:aFF d=some R) (j:aD G K (L) w) (k:G.lo=0):
  Calls prog 103 ([str d]:List Value).toArray w (dO fun v w'=>∃ e g,v=Value.tuple #[str R.1,zS e R.2.1.length g,zB R.2.2]/\aD G K (aH 2 K e g R.2.1::L) w'):=by
 refine cA func103 ?_;unfold aFF at hm
 refine aC ?_;obtain ⟨h,l,hm⟩:=aB hm
 refine bP call146 (lib_Cut j l) ?_
 rintro _ t ⟨rfl,u⟩
 iterate 14 refine eU ?_
 refine rD [0,5] (fun f w=>∃ a b c,sG d h a=some R/\f 8=zS b a.length c/\aD G K (aH 2 K b c a::L) w) ?_ ?_
 ·rintro f x ⟨a,b,c,hm,y,m⟩
  unfold sG at hm
  refine aC ?_;obtain ⟨z,V,n,o,p⟩:=aD.lendSp m (Hp.le_refl _) .head
  obtain ⟨Z,q,hm⟩:=aB hm
  refine bP call150 (aIB q o k n) ?_
  rintro _ a0 ⟨rfl,r⟩
  have a1:=p _ _ r
  iterate 8 refine eU ?_
  exact bG [5,8] (fun f w=>∃ i,wG h a i=some R/\f 40=zB i/\aD G K (aH 2 K b c a::L) w) aI aI
 exact aI
theorem aNK {a:aL} {R:Bool} (hm:aJj a=some R) (b:aD G K (L) w) (c:G.lo=0):
  Calls prog 56 ([str a]:List Value).toArray w (dO fun v w'=>v=zB R/\aD G K (L) w'):=by
 exact aI
theorem aKo {t:aO} {k:Int} {R:Bool} (hm:vB t k=some R) (a:aD G K (L) w) (b:aT K a1 c2 t.L) (c:aT K a4 c5 t.E):
  Calls prog 55 ([zA (zCa t a1 c2 a4 c5),i64 k]:List Value).toArray w (dO fun v w'=>v=zB R/\aD G K (L) w'):=by
 exact aI
theorem aQA {i many:Int} {R:Bool} (hm:aNb i many=some R) (a:aD G K (L) w):
  Calls prog 57 ([i64 i,i64 many]:List Value).toArray w (dO fun v w'=>v=zB R/\aD G K (L) w'):=by
 exact aI
theorem aHN {t:aO} {R:Bool} (hm:iK t=some R) (z:aD G K (L) w) (V:G.lo=0) (i:aT K a1 c2 t.L) (j:aT K a4 c5 t.E):
  Calls prog 26 ([zA (zCa t a1 c2 a4 c5)]:List Value).toArray w (dO fun v w'=>v=zB R/\aD G K (L) w'):=by
 let a:=(zC t a1 c2 a4 c5)
 refine cA func26 ?_;unfold iK at hm
 refine aC ?_;refine kN fun b Z a0=>?_
 iterate 5 refine eU ?_
 refine bG [1] (fun f w=>∃ c,rI t c=some R/\f 30=zB c/\aD G K (box b 27 a::L) w) ?_ ?_
 ·rintro f a2 ⟨c,hm,a3,a5⟩
  unfold rI at hm
  refine aC ?_
  rcases aG hm with ⟨k,hm⟩|⟨k,hm⟩
  ·exact aI
  ·refine aC ?_;refine aJ [1] (fun f w=>aCP t=some R/\aD G K (box b 27 a::L) w) ?_ ?_
   ·rintro f a6 ⟨hm,a7⟩
    unfold aCP at hm
    refine aC ?_;refine aJ [] (fun f w=>aJI=some R/\aD G K (L) w) aI ?_
    obtain ⟨a8,l,ho⟩:=aB hm
    refine eM [1,65,66] l (fun d f w=>f 67=i64 d/\aD G K (box b 27 a::L) w) aI ?_
    ·rintro d m f a9 hm hr ⟨b0,b1⟩
     unfold zQ at hm
     refine aC ?_
     rcases aG hm with ⟨n,hm⟩|⟨n,hm⟩
     ·refine aC ?_;refine bT (aC ?_)
      obtain ⟨b2,o,hm⟩:=aB hm
      refine aC ?_;obtain ⟨b3,b4,p⟩:=aT.el (sz:=3) rfl j o
      cases p
      refine aC ?_;refine jH fun b5 b6 b8=>?_
      refine aC ?_;refine kM fun b9 c0=>?_
      refine aC ?_;exact bG [1,65,66,67] (fun f w=>∃ g,rH d g=some m/\f 107=zB g/\aD G K (box b 27 a::L) w) aI aI
     ·exact aI
   obtain ⟨c1,q,ho⟩:=aB hm
   refine eM [1,32,33] q (fun e f w=>f 34=i64 e/\aD G K (box b 27 a::L) w) aI ?_
   ·rintro e r f c3 hm hr ⟨c4,c6⟩
    unfold zU at hm
    refine aC ?_
    rcases aG hm with ⟨u,hm⟩|⟨u,hm⟩
    ·refine aC ?_;refine bT (aC ?_)
     obtain ⟨c7,x,hm⟩:=aB hm
     refine aC ?_;obtain ⟨c8,c9,y⟩:=aT.el (sz:=1) rfl i x
     cases y
     iterate 6 refine eU ?_
     exact bG [1,32,33,34] (fun f w=>∃ h,vC e h=some r/\f 62=zB h/\aD G K (box b 27 a::L) w) aI aI
    ·exact aI
 exact aI
theorem aPb {kind:Int} {R:Bool} (hm:aNF kind=some R) (a:aD G K (L) w):
  Calls prog 66 ([i64 kind]:List Value).toArray w (dO fun v w'=>v=zB R/\aD G K (L) w'):=by
 exact aI
theorem aCp {a b:aO} {kind R:Int} (hm:sI a b kind=some R) (d:aD G K (L) w) (g:G.lo=0) (h:aT K a1 c2 a.L) (i:aT K a4 c5 a.E) (j:aT K a7 c8 b.L) (k:aT K a10 c11 b.E):
  Calls prog 28 ([zA (zCa a a1 c2 a4 c5),zA (zCa b a7 c8 a10 c11),i64 kind]:List Value).toArray w (dO fun v w'=>v=i64 R/\aD G K (L) w'):=by
 refine cA func28 ?_;unfold sI at hm
 exact bL (aCt (v:=zA (zCa a a1 c2 a4 c5)) (vs:=(zC a a1 c2 a4 c5)) d rfl rfl (fun l m e=>(aCt (v:=zA (zCa b a7 c8 a10 c11)) (vs:=(zC b a7 c8 a10 c11)) e rfl rfl (fun n o p=>(aV (v:=i64 0) (bA (bM (bT (bM (bG [2] (fun f w=>∃ c,sB kind c=some R/\f 7=zB c/\aD G K (L) w) aI aI))))))))))
theorem xB {t:aO} {k:Int} {R:(List Edge)} (hm:vD t k=some R) (u:aD G K (L) w) (Z:aT K a1 c2 t.L) (h6:aT K a4 c5 t.E):
  Calls prog 119 ([zA (zCa t a1 c2 a4 c5),i64 k]:List Value).toArray w (dO fun v w'=>∃ l m,v=zS l R.length m/\aD G K (aH 61 K l m R::L) w'):=by
 refine cA func119 ?_;unfold vD at hm
 refine bL (aCt (v:=zA (zCa t a1 c2 a4 c5)) (vs:=(zC t a1 c2 a4 c5)) u rfl rfl (fun b7 w8 n=>(aV (v:=zS none 0 0) (bA (bL (aV (v:=zS none 0 0) (bA (bM (bL (aK (jG (t':=3) aQt rfl rfl) (aK (aKH sc_25 n (i:=0) rfl rfl rfl) (aK (nW (len:=t.E.length) lH rfl) (aR (v:=i64 0) (bA (aJ [] (fun f w=>∃ e o p,aHt e=some R/\f 5=zS o e.length p/\aD G K (aH 61 K o p e::L) w) aI ?_)))))))))))))))
 have a5:=aD.nil (α:=Edge) n 61 K
 obtain ⟨a6,x,ho⟩:=aB hm
 refine aY [1,9,10] x (fun g a f w=>∃ h j,f 5=zS h g.length j/\f 11=i64 a/\aD G K (aH 61 K h j g::L) w) aI ?_
 ·rintro g a y f a7 hm hr ⟨h,j,a8,q,a9⟩
  unfold aBy at hm
  refine bL (aK (tK q rfl) (bA (bM ?_)))
  rcases aG hm with ⟨r,hm⟩|⟨r,hm⟩
  ·refine bX r rfl (eJ (aF (bM (aJ [1,9,10,11] (fun f w=>∃ b c d,aBx a b=some y/\f 5=zS c b.length d/\aD G K (aH 61 K c d b::L) w) ?_ ?_))))
   ·rintro f b0 ⟨b,c,d,hm,z,V⟩
    unfold aBx at hm
    exact aF (cG (aK (tJ q rfl) (aR (v:=i64 (wr (a+1))) (bA ⟨_,(zI hm).symm,aU,c,d,z,rfl,V⟩))))
   exact aI
  ·exact aI
theorem iN {a R:(List aL)} (hm:dE a=some R) (hs:aD G K (aH 9 K a1 c2 a::L) w):
  Calls prog 111 ([zS a1 a.length c2]:List Value).toArray w (dO fun v w'=>∃ a3 a4,v=zS a3 R.length a4/\aD G K (aH 9 K a3 a4 R::L) w'):=by
 refine cA func111 ?_;unfold dE at hm
 refine bL (aV (v:=zS none 0 0) (bA (bM (bL (aR (v:=zS a1 a.length c2) (aK (nW (len:=a.length) dG rfl) (aK (tK rfl rfl) (bA ?_))))))))
 rcases aG hm with ⟨c3,hm⟩|⟨c3,hm⟩
 ·exact aI
 ·refine cD c3 rfl (eJ (aF (bM (bL (aV (v:=i64 1) (bA (aJ [0] (fun f w=>oM a=some R/\aD G K (aH 9 K a1 c2 a::L) w) aI ?_)))))));obtain ⟨f3,d5,ho⟩:=aB hm
  refine eM [0] d5 (fun d f w=>f 3=i64 d/\aD G K (aH 9 K a1 c2 a::L) w) aI ?_
  ·rintro d a6 f f4 hm hr ⟨m,b⟩
   unfold dV at hm
   refine bM (bL (fO m (aR (v:=zS a1 a.length c2) (aK (nW (len:=a.length) dG rfl) (aK (tK rfl rfl) (bA ?_))))))
   rcases aG hm with ⟨a7,hm⟩|⟨a7,hm⟩
   ·refine bX a7 rfl (eJ (aF (bM (aJ [0] (fun f w=>fH d=some a6/\f 3=i64 d/\aD G K (aH 9 K a1 c2 a::L) w) ?_ ?_))))
    ·rintro f f5 ⟨hm,d6,d7⟩
     unfold fH at hm
     exact aF (cG (fO d6 (aK (tJ rfl rfl) (aV (v:=i64 (wr (d+1))) (bA ⟨_,(zI hm).symm,aU,rfl,d7⟩)))))
    refine bM (aEs (C:=fun w'=>aD G K (aH 9 K a1 c2 a::L) w') Tryz_mixed (by kernel_rfl) (aD.mono b (fN.drew _)) (gE (fun _ b=>bW (v:=zS a1 a.length c2) rfl) (gE (fun _ b=>bW m) ?_)));obtain ⟨f6,Z,hm⟩:=aB hm
    have e:=bY b (i:=0) rfl Z
    refine gE (fun _ b=>cR dG rfl e rfl rfl rfl Z) (gE (fun _ b=>vV (t:=0) sc_9 b (i:=0) rfl Z rfl rfl rfl) (gE (fun _ b=>bW (v:=zS a1 a.length c2) rfl) (gE (fun _ b=>bW m) (gE (fun _ b=>aKF rfl rfl) ?_))));obtain ⟨f7,a8,hm⟩:=aB hm
    refine gE (fun _ b=>cR dG rfl e rfl rfl rfl a8) (gE (fun _ b=>vV (t:=0) sc_9 b (i:=0) rfl a8 rfl rfl rfl) (gE (fun _ b=>aNw rfl rfl) (yP (fun f8 d8=>(aF ?_)))))
    rcases aG hm with ⟨a9,hm⟩|⟨a9,hm⟩
    ·refine bX a9 rfl (bL (aR (v:=zS a1 a.length c2) (fO m ?_)));obtain ⟨g,o,hm⟩:=aB hm
     have p:=mX d8 (i:=0) rfl
     obtain ⟨j,k,q⟩:=Cut.ex 1 a1 c2 d
     refine aK (yR dG p q rfl rfl rfl o) (aV (v:=zS j g.length k) (bA (bM (bL (aV (v:=i64 1) (bA (aJ [] (fun f w=>∃ r u,fI r u=some a6/\f 0=zS a1 r.length c2/\f 3=i64 u/\aD G K (aH 9 K a1 c2 r::L) w) ?_ ?_)))))))
     ·rintro f f9 ⟨r,u,hm,b0,b1,b2⟩
      unfold fI at hm
      refine aF (bL (fO b0 (fO b1 ?_)));obtain ⟨g0,d9,hm⟩:=aB hm
      have e0:=mX b2 (i:=0) rfl
      obtain ⟨g1,g2,b3⟩:=Cut.ex 1 a1 c2 u
      refine aK (yR dG e0 b3 rfl rfl rfl d9) ?_;obtain ⟨b4,b5,hm⟩:=aB hm
      refine aGy dG zF rfl b2 (i:=0) rfl b3 rfl rfl b5 (fun b6 (b7:aD G K (aH 9 K a1 c2 b4::L) b6)=>(bA (bL (fO (v:=zS a1 b4.length c2) (Eq.trans b0 (congrArg (fun n=>zS a1 n c2) (aHk b5))) (fO b1 ?_)))));obtain ⟨a0,b8,hm⟩:=aB hm
      have e1:=mX b7 (i:=0) rfl
      obtain ⟨b9,c0,c1⟩:=Cut.ex 1 a1 c2 0
      refine aK (aIk dG e1 c1 rfl rfl rfl b8) (aV (v:=zS b9 a0.length c0) (bA (kQ (gF (bO (bO (bO ?_)))))))
      have e2:=hr _ (zI hm).symm
      subst e2
      have hm:(some a0)=some R:=ho
      clear hr ho
      have g3:aD G K (aH 9 K b9 c0 a0::L) b6:=aD.cutP b7 (i:=0) rfl b8 c1
      exact aI
     obtain ⟨g4,e3,ho⟩:=aB hm
     refine mA [4] e3 (fun x y z f w=>f 0=zS a1 x.length c2/\f 3=i64 y/\f 5=i64 z/\aD G K (aH 9 K a1 c2 x::L) w) aI ?_
     ·rintro x y z e4 f g5 hm hr ⟨c4,c5,l,c⟩
      unfold dU at hm
      refine bM (bL (fO l (aR (v:=zS j g.length k) (aK (nW (len:=g.length) dG rfl) (aK (tK rfl rfl) (bA ?_))))))
      rcases aG hm with ⟨c6,hm⟩|⟨c6,hm⟩
      ·refine bX c6 rfl (eJ (aF (bM (aJ [4,5] (fun f w=>∃ V a2,dT z V a2=some e4/\f 0=zS a1 V.length c2/\f 3=i64 a2/\aD G K (aH 9 K a1 c2 V::L) w) ?_ ?_))))
       ·rintro f g6 ⟨V,a2,hm,e5,e6,e7⟩
        unfold dT at hm
        exact aF (cG (fO l (aK (tJ rfl rfl) (aV (v:=i64 (wr (z+1))) (bA ⟨_,(zI hm).symm,aU,e5,e6,rfl,e7⟩)))))
       refine bM (aEs (C:=fun w'=>aD G K (aH 9 K a1 c2 x::L) w') Tryz_mixed (by kernel_rfl) (aD.mono c (fN.drew _)) (gE (fun _ c=>bW (v:=zS j g.length k) rfl) (gE (fun _ c=>bW l) ?_)));obtain ⟨g7,c7,hm⟩:=aB hm
       obtain ⟨c8,c9,hm⟩:=aB hm
       refine gE (fun _ c=>aKR dG e q o p rfl rfl rfl c7 rfl) (gE (fun _ c=>vV (t:=0) sc_9 c (i:=0) rfl c9 rfl rfl rfl) (gE (fun _ c=>bW (v:=zS j g.length k) rfl) (gE (fun _ c=>bW l) (gE (fun _ c=>aKF rfl rfl) ?_))));obtain ⟨g8,e8,hm⟩:=aB hm
       obtain ⟨g9,e9,hm⟩:=aB hm
       refine gE (fun _ c=>aKR dG e q o p rfl rfl rfl e8 rfl) (gE (fun _ c=>vV (t:=0) sc_9 c (i:=0) rfl e9 rfl rfl rfl) (gE (fun _ c=>R_neqS rfl rfl) (yP (fun h0 d0=>(aF ?_)))))
       rcases aG hm with ⟨d1,hm⟩|⟨d1,hm⟩
       ·refine bX d1 rfl (bL (fO c4 (fO c5 (aR (v:=zS j g.length k) (fO l (aK (aKR dG e q o p rfl rfl rfl c7 rfl) (aK (vV (t:=0) sc_9 d0 (i:=0) rfl c9 rfl rfl rfl) ?_)))))));obtain ⟨h1,d2,hm⟩:=aB hm
        refine aK (cR dG rfl e rfl rfl rfl d2) ?_;obtain ⟨d3,d4,hm⟩:=aB hm
        exact lU (i:=0) (t:=0) (ns:=[str c8]) (e':=(c8:aL)) sizeOf9 d0 rfl (Hp.le_refl _) rfl rfl rfl d2 d4 rfl rfl (oR rfl) rfl (fun cs h=>by cases h;rfl) (fun f0 (f1:aD G K (aH 9 K a1 c2 d3::L) f0)=>(bA (cG (fO c5 (aK (tJ rfl rfl) (aV (v:=i64 (wr (y+1))) (aM (oJ (aF ⟨aU,d3,wr (y+1),hm,(Eq.trans c4 (congrArg (fun n=>zS a1 n c2) (gX d4))),rfl,f1⟩)))))))))
       ·exact aI
      ·exact aI
    ·exact aI
   ·exact aI
theorem gC {t:aO} {k:Int} {R:(List aL)} (hm:cT t k=some R) (q:aD G K (L) w) (r:aT K a1 c2 t.L) (u:aT K a4 c5 t.E):
  Calls prog 65 ([zA (zCa t a1 c2 a4 c5),i64 k]:List Value).toArray w (dO fun v w'=>∃ e g,v=zS e R.length g/\aD G K (aH 9 K e g R::L) w'):=by
 let d:=(zC t a1 c2 a4 c5)
 refine cA func65 ?_;unfold cT at hm
 refine bL (aCt (v:=zA (zCa t a1 c2 a4 c5)) (vs:=d) q rfl rfl (fun x w8 h=>(aV (v:=zS none 0 0) (bA (bL (aV (v:=zS none 0 0) (bA (bM (bL (aK (nC (us:=d) fF h (i:=0) rfl rfl rfl rfl) (aR (v:=i64 k) ?_)))))))))));obtain ⟨j,y,hm⟩:=aB hm
 refine bP call119 (xB y h r u) ?_
 rintro _ b1 ⟨z,V,rfl,Z⟩
 refine aK (nW (len:=j.length) lH rfl) (aR (v:=i64 0) (bA (aJ [] (fun f w=>∃ c a b,qS c=some R/\f 5=zS a c.length b/\aD G K (aH 9 K a b c::L) w) ?_ ?_)))
 ·rintro f b2 ⟨c,a,b,hm,l,a0⟩
  unfold qS at hm
  refine aF (bL (fO l ?_));obtain ⟨a2,a3,hm⟩:=aB hm
  refine bP call109 (lib_SortStr a0 a3) ?_
  rintro _ b3 ⟨rfl,a5,a6⟩
  refine bA (bL (fO (v:=zS a a2.length b) (Eq.trans l (congrArg (fun n=>zS a n b) a5)) ?_));obtain ⟨b4,a7,hm⟩:=aB hm
  exact bP call111 (iN a7 a6) aI
 have b5:=aD.nil (α:=aL) Z 9 K
 obtain ⟨b6,a8,ho⟩:=aB hm
 exact aY [2,10,11] a8 (fun m a9 f w=>∃ o p,f 5=zS o m.length p/\f 12=i64 a9/\aD G K (aH 9 K o p m::aH 61 K z V j::box x 27 d::L) w) aI aI
theorem aAP {a:(List Int)} {b R:Int} (hm:fT a b=some R) (e:aD G K (L) w) (g:aT K a1 c2 a):
  Calls prog 183 ([zS a1 a.length c2,i64 b]:List Value).toArray w (dO fun v w'=>v=i64 R/\aD G K (L) w'):=by
 refine cA func183 ?_;unfold fT at hm
 refine bL (aV (v:=i64 0) (bA (bM (bL (aR (v:=zS a1 a.length c2) (aK (nW (len:=a.length) gD rfl) (aR (v:=i64 0) (bA (aJ [] (fun f w=>qT=some R/\aD G K (L) w) aI ?_)))))))));obtain ⟨h,c,ho⟩:=aB hm
 exact eM [0,1,7] c (fun d f w=>f 8=i64 d/\aD G K (L) w) aI aI
theorem nR {a:(List Int)} {b:Int} {R:Bool} (hm:dJ a b=some R) (c:aD G K (L) w) (d:aT K a1 c2 a):
  Calls prog 137 ([zS a1 a.length c2,i64 b]:List Value).toArray w (dO fun v w'=>v=zB R/\aD G K (L) w'):=by
 exact aI
theorem dX {a R:(List Int)} (hm:bU a=some R) (hs:aD G K (aH 2 K a1 c2 a::L) w):
  Calls prog 91 ([zS a1 a.length c2]:List Value).toArray w (dO fun v w'=>∃ a3 a4,v=zS a3 R.length a4/\aD G K (aH 2 K a3 a4 R::L) w'):=by
 refine cA func91 ?_;unfold bU at hm
 refine bL (aV (v:=zS none 0 0) (bA (bM (bL (aR (v:=zS a1 a.length c2) (aK (nW (len:=a.length) gD rfl) (aK (tK rfl rfl) (bA ?_))))))))
 rcases aG hm with ⟨c3,hm⟩|⟨c3,hm⟩
 ·exact aI
 ·refine cD c3 rfl (eJ (aF (bM (bL (aV (v:=i64 1) (bA (aJ [0] (fun f w=>pB a=some R/\aD G K (aH 2 K a1 c2 a::L) w) aI ?_)))))));obtain ⟨f3,d5,ho⟩:=aB hm
  refine eM [0] d5 (fun d f w=>f 3=i64 d/\aD G K (aH 2 K a1 c2 a::L) w) aI ?_
  ·rintro d a6 f f4 hm hr ⟨m,b⟩
   unfold eP at hm
   refine bM (bL (fO m (aR (v:=zS a1 a.length c2) (aK (nW (len:=a.length) gD rfl) (aK (tK rfl rfl) (bA ?_))))))
   rcases aG hm with ⟨a7,hm⟩|⟨a7,hm⟩
   ·refine bX a7 rfl (eJ (aF (bM (aJ [0] (fun f w=>fU d=some a6/\f 3=i64 d/\aD G K (aH 2 K a1 c2 a::L) w) ?_ ?_))))
    ·rintro f f5 ⟨hm,d6,d7⟩
     unfold fU at hm
     exact aF (cG (fO d6 (aK (tJ rfl rfl) (aV (v:=i64 (wr (d+1))) (bA ⟨_,(zI hm).symm,aU,rfl,d7⟩)))))
    refine bM (aEs (C:=fun w'=>aD G K (aH 2 K a1 c2 a::L) w') Tryz_mixed (by kernel_rfl) (aD.mono b (fN.drew _)) (gE (fun _ b=>bW (v:=zS a1 a.length c2) rfl) (gE (fun _ b=>bW m) ?_)));obtain ⟨f6,Z,hm⟩:=aB hm
    have e:=bY b (i:=0) rfl Z
    refine gE (fun _ b=>cR gD rfl e rfl rfl rfl Z) (gE (fun _ b=>vV (t:=0) jE b (i:=0) rfl Z rfl rfl rfl) (gE (fun _ b=>bW (v:=zS a1 a.length c2) rfl) (gE (fun _ b=>bW m) (gE (fun _ b=>aKF rfl rfl) ?_))));obtain ⟨f7,a8,hm⟩:=aB hm
    refine gE (fun _ b=>cR gD rfl e rfl rfl rfl a8) (gE (fun _ b=>vV (t:=0) jE b (i:=0) rfl a8 rfl rfl rfl) (gE (fun _ b=>R_eql rfl rfl) (yP (fun f8 d8=>(aF ?_)))))
    rcases aG hm with ⟨a9,hm⟩|⟨a9,hm⟩
    ·refine bX a9 rfl (bL (aR (v:=zS a1 a.length c2) (fO m ?_)));obtain ⟨g,o,hm⟩:=aB hm
     have p:=mX d8 (i:=0) rfl
     obtain ⟨j,k,q⟩:=Cut.ex 1 a1 c2 d
     refine aK (yR gD p q rfl rfl rfl o) (aV (v:=zS j g.length k) (bA (bM (bL (aV (v:=i64 1) (bA (aJ [] (fun f w=>∃ r u,fV r u=some a6/\f 0=zS a1 r.length c2/\f 3=i64 u/\aD G K (aH 2 K a1 c2 r::L) w) ?_ ?_)))))))
     ·rintro f f9 ⟨r,u,hm,b0,b1,b2⟩
      unfold fV at hm
      refine aF (bL (fO b0 (fO b1 ?_)));obtain ⟨g0,d9,hm⟩:=aB hm
      have e0:=mX b2 (i:=0) rfl
      obtain ⟨g1,g2,b3⟩:=Cut.ex 1 a1 c2 u
      refine aK (yR gD e0 b3 rfl rfl rfl d9) ?_;obtain ⟨b4,b5,hm⟩:=aB hm
      refine aGy gD aGc rfl b2 (i:=0) rfl b3 rfl rfl b5 (fun b6 (b7:aD G K (aH 2 K a1 c2 b4::L) b6)=>(bA (bL (fO (v:=zS a1 b4.length c2) (Eq.trans b0 (congrArg (fun n=>zS a1 n c2) (aHk b5))) (fO b1 ?_)))));obtain ⟨a0,b8,hm⟩:=aB hm
      have e1:=mX b7 (i:=0) rfl
      obtain ⟨b9,c0,c1⟩:=Cut.ex 1 a1 c2 0
      refine aK (aIk gD e1 c1 rfl rfl rfl b8) (aV (v:=zS b9 a0.length c0) (bA (kQ (gF (bO (bO (bO ?_)))))))
      have e2:=hr _ (zI hm).symm
      subst e2
      have hm:(some a0)=some R:=ho
      clear hr ho
      have g3:aD G K (aH 2 K b9 c0 a0::L) b6:=aD.cutP b7 (i:=0) rfl b8 c1
      exact aI
     obtain ⟨g4,e3,ho⟩:=aB hm
     refine mA [4] e3 (fun x y z f w=>f 0=zS a1 x.length c2/\f 3=i64 y/\f 5=i64 z/\aD G K (aH 2 K a1 c2 x::L) w) aI ?_
     ·rintro x y z e4 f g5 hm hr ⟨c4,c5,l,c⟩
      unfold eO at hm
      refine bM (bL (fO l (aR (v:=zS j g.length k) (aK (nW (len:=g.length) gD rfl) (aK (tK rfl rfl) (bA ?_))))))
      rcases aG hm with ⟨c6,hm⟩|⟨c6,hm⟩
      ·refine bX c6 rfl (eJ (aF (bM (aJ [4,5] (fun f w=>∃ V a2,eN z V a2=some e4/\f 0=zS a1 V.length c2/\f 3=i64 a2/\aD G K (aH 2 K a1 c2 V::L) w) ?_ ?_))))
       ·rintro f g6 ⟨V,a2,hm,e5,e6,e7⟩
        unfold eN at hm
        exact aF (cG (fO l (aK (tJ rfl rfl) (aV (v:=i64 (wr (z+1))) (bA ⟨_,(zI hm).symm,aU,e5,e6,rfl,e7⟩)))))
       refine bM (aEs (C:=fun w'=>aD G K (aH 2 K a1 c2 x::L) w') Tryz_mixed (by kernel_rfl) (aD.mono c (fN.drew _)) (gE (fun _ c=>bW (v:=zS j g.length k) rfl) (gE (fun _ c=>bW l) ?_)));obtain ⟨g7,c7,hm⟩:=aB hm
       obtain ⟨c8,c9,hm⟩:=aB hm
       refine gE (fun _ c=>aKR gD e q o p rfl rfl rfl c7 rfl) (gE (fun _ c=>vV (t:=0) jE c (i:=0) rfl c9 rfl rfl rfl) (gE (fun _ c=>bW (v:=zS j g.length k) rfl) (gE (fun _ c=>bW l) (gE (fun _ c=>aKF rfl rfl) ?_))));obtain ⟨g8,e8,hm⟩:=aB hm
       obtain ⟨g9,e9,hm⟩:=aB hm
       refine gE (fun _ c=>aKR gD e q o p rfl rfl rfl e8 rfl) (gE (fun _ c=>vV (t:=0) jE c (i:=0) rfl e9 rfl rfl rfl) (gE (fun _ c=>aHI rfl rfl) (yP (fun h0 d0=>(aF ?_)))))
       rcases aG hm with ⟨d1,hm⟩|⟨d1,hm⟩
       ·refine bX d1 rfl (bL (fO c4 (fO c5 (aR (v:=zS j g.length k) (fO l (aK (aKR gD e q o p rfl rfl rfl c7 rfl) (aK (vV (t:=0) jE d0 (i:=0) rfl c9 rfl rfl rfl) ?_)))))));obtain ⟨h1,d2,hm⟩:=aB hm
        refine aK (cR gD rfl e rfl rfl rfl d2) ?_;obtain ⟨d3,d4,hm⟩:=aB hm
        exact lU (i:=0) (t:=0) (ns:=[i64 c8]) (e':=(c8:Int)) sizeOf2 d0 rfl (Hp.le_refl _) rfl rfl rfl d2 d4 rfl rfl (oR rfl) rfl (fun cs h=>by cases h;rfl) (fun f0 (f1:aD G K (aH 2 K a1 c2 d3::L) f0)=>(bA (cG (fO c5 (aK (tJ rfl rfl) (aV (v:=i64 (wr (y+1))) (aM (oJ (aF ⟨aU,d3,wr (y+1),hm,(Eq.trans c4 (congrArg (fun n=>zS a1 n c2) (gX d4))),rfl,f1⟩)))))))))
       ·exact aI
      ·exact aI
    ·exact aI
   ·exact aI
end Gv
namespace Gv
open Go.Value renaming slice→zS,bool→zB,pointer→zP,agg→zA,map→zM
open Option.some renaming inj→zI
open Gv.Hp renaming le_trans→zL,le_refl→zR
open Go Go.Proofs Go.Proofs.Tryz
set_option maxRecDepth 20000
set_option maxHeartbeats 40000000
variable {G:Env} {K:Hp} {L:List iD} {w:World} {a1 a4 a7 a10 a13 a16 a21 a19 a24:Option Addr} {c2 c5 c8 c11 c14 c17:Nat}
theorem aCb {t:aO} {m:(List Int)} {q:aL} {R:(List Int)} (hm:gU t m q=some R) (hs:aD G K (L) w) (h3:aT K a1 c2 t.L) (z:aT K a4 c5 t.E) (h9:aT K a7 c8 m):
  Calls prog 143 ([zA (zCa t a1 c2 a4 c5),zS a7 m.length c8,str q]:List Value).toArray w (dO fun v w'=>∃ r u,v=zS r R.length u/\aD G K (aH 2 K r u R::L) w'):=by
 let o:=(zC t a1 c2 a4 c5)
 refine cA func143 ?_;unfold gU at hm
 refine aC ?_;refine kN fun p b9 V=>?_
 refine aC ?_;refine aJ [] (fun f w=>∃ d a b,nY d=some R/\f 7=zS a d.length b/\aD G K (aH 2 K a b d::L) w) ?_ ?_
 ·rintro f c0 ⟨d,a,b,hm,Z,a0⟩
  unfold nY at hm
  refine aC ?_;obtain ⟨a2,a3,hm⟩:=aB hm
  refine bP call90 (aDu a0 a3) ?_
  rintro _ c1 ⟨rfl,a5,a6⟩
  iterate 4 refine eU ?_
  refine fO (v:=zS a a2.length b) (Eq.trans Z (congrArg (fun n=>zS a n b) a5)) ?_;obtain ⟨c3,a8,hm⟩:=aB hm
  exact bP call91 (dX a8 a6) aI
 have c4:=aD.nil (α:=Int) V 2 K
 obtain ⟨c6,a9,ho⟩:=aB hm
 refine aY [1,2,3,11,12] a9 (fun c e f w=>∃ g h,f 7=zS g c.length h/\f 13=i64 e/\aD G K (aH 2 K g h c::box p 27 o::L) w) aI ?_
 ·rintro c e x f c7 hm hr ⟨g,h,c9,d0,d1⟩
  unfold eK at hm
  refine aC ?_
  rcases aG hm with ⟨b0,hm⟩|⟨b0,hm⟩
  ·refine aC ?_;refine aJ [1,2,3,11,12,13] (fun f w=>∃ i j k,lI e i=some x/\f 7=zS j i.length k/\aD G K (aH 2 K j k i::box p 27 o::L) w) ?_ ?_
   ·rintro f d2 ⟨i,j,k,hm,b1,b2⟩
    unfold lI at hm
    refine aC ?_;exact ⟨_,(zI hm).symm,aU,j,k,b1,rfl,b2⟩
   refine aC ?_;obtain ⟨l,b3,hm⟩:=aB hm
   refine aC ?_;obtain ⟨d3,d4,b4⟩:=aT.el (sz:=3) rfl z b3
   cases b4
   refine aC ?_;refine jH fun b5 d5 d6=>?_
   refine kM fun d7 d8=>?_
   iterate 3 refine eU ?_
   exact bG [1,2,3,7,9,11,12,13] (fun f w=>∃ y,nZ c e l y=some x/\f 30=zB y/\aD G K (box b5 61 [i64 l.F,i64 l.B,i64 l.To]::aH 2 K g h c::box p 27 o::L) w) aI aI
  ·exact aI
theorem jW {a R:(List Int)} (hm:cL a=some R) (t:aD G K (L) w) (b:aT K a1 c2 a):
  Calls prog 142 ([zS a1 a.length c2]:List Value).toArray w (dO fun v w'=>∃ c d,v=zS c R.length d/\aD G K (aH 2 K c d R::L) w'):=by
 refine cA func142 ?_;unfold cL at hm
 iterate 9 refine eU ?_
 refine aK (aQj gD rfl rfl) (aC ?_)
 rcases aPt b with ⟨h,j,k⟩|l
 ·subst h;subst j;subst k
  refine aRp rfl ?_
  replace hm:(some [])=some R:=hm
  exact aI
 ·refine aRq (Eq.trans rfl (congrArg zB l)) (aC ?_);refine nE ([]:List Int) fun u x m=>?_
  refine aC ?_;obtain ⟨n,o,hm⟩:=aB hm
  refine tR (i:=0) gD underlying66 aGc rfl rfl m rfl (zR _) b o rfl rfl rfl rfl (fun e g p (q:aD G K (aH 2 K e g n::L) p)=>(aC ?_));obtain rfl:=zI hm
  exact aLM results142 ⟨e,g,rfl,q⟩
theorem sD {t:aO} {p R:(List Int)} (hm:eQ t p=some R) (hs:aD G K (L) w) (h3:aT K a1 c2 t.L) (h6:aT K a4 c5 t.E) (h9:aT K a7 c8 p):
  Calls prog 96 ([zA (zCa t a1 c2 a4 c5),zS a7 p.length c8]:List Value).toArray w (dO fun v w'=>∃ a3 a5,v=zS a3 R.length a5/\aD G K (aH 2 K a3 a5 R::L) w'):=by
 let c:=(zC t a1 c2 a4 c5)
 refine cA func96 ?_;unfold eQ at hm
 refine aC ?_;refine kN fun d f5 c0=>?_
 refine aC ?_;obtain ⟨f6,c1,hm⟩:=aB hm
 refine bP call142 (jW c1 c0 h9) ?_
 rintro _ f7 ⟨f8,f9,rfl,g0⟩
 refine aC ?_;refine aJ [] (fun f w=>∃ g a b,qU g=some R/\f 5=zS a g.length b/\aD G K (aH 2 K a b g::L) w) ?_ ?_
 ·rintro f g1 ⟨g,a,b,hm,c3,c4⟩
  unfold qU at hm
  refine aC ?_;obtain ⟨c6,c7,hm⟩:=aB hm
  refine bP call90 (aDu c4 c7) ?_
  rintro _ g2 ⟨rfl,c9,d0⟩
  iterate 4 refine eU ?_
  refine fO (v:=zS a c6.length b) (Eq.trans c3 (congrArg (fun n=>zS a n b) c9)) (aC ?_);obtain rfl:=zI hm
  exact aLM results96 ⟨a,b,rfl,d0⟩
 obtain ⟨g3,d2,ho⟩:=aB hm
 refine aY [2] d2 (fun q h f w=>∃ r u,f 5=zS r q.length u/\f 6=i64 h/\aD G K (aH 2 K r u q::box d 27 c::L) w) aI ?_
 ·rintro q h a6 f g4 hm hr ⟨r,u,g5,g6,d3⟩
  unfold jC at hm
  refine aC ?_
  rcases aG hm with ⟨d4,hm⟩|⟨d4,hm⟩
  ·refine aC ?_;refine aJ [2,6] (fun f w=>∃ i j k,qV h i=some a6/\f 5=zS j i.length k/\aD G K (aH 2 K j k i::box d 27 c::L) w) ?_ ?_
   ·rintro f g7 ⟨i,j,k,hm,d5,d6⟩
    unfold qV at hm
    refine aC ?_;exact ⟨_,(zI hm).symm,aU,j,k,d5,rfl,d6⟩
   refine aC ?_;obtain ⟨g8,x,a8,d7,d8⟩:=aD.lendSp d3 (zR _) .head
   obtain ⟨g9,e,h0,h1,d9⟩:=aD.lendBp d7 .head
   refine aBr [(0,0),(1,0),(2,0),(3,0),(4,0),(8,0),(5,1),(6,1),(7,0)] fun h2 h4=>?_;refine aC ?_
   obtain ⟨e0,y,hm⟩:=aB hm
   have e1:=aKO (a8.mono e) y
   refine cS rfl (fun _ _=>cR gD rfl e1 rfl rfl rfl y) ?_;obtain ⟨h5,h7,e2⟩:=aT.el (sz:=1) rfl (a8.mono e) y
   cases e2
   refine aC ?_;refine lV rfl (nE ([e0]:List Int) fun h8 i0 a9=>?_)
   refine aM (aF ⟨⟨_,a9⟩,?_⟩)
   refine lV rfl ?_;obtain ⟨i1,b0,e3,e4,e5⟩:=aD.lendSp a9 (zL x e) .head
   obtain ⟨b1,e6,hm⟩:=aB hm
   refine bP call143 (aCb e6 e4 (h3.mono (zL (zL x e) b0)) (h6.mono (zL (zL x e) b0)) e3) ?_
   rintro _ i2 ⟨b2,b3,rfl,e7⟩
   have b4:=e5 _ _ e7
   refine aM (aF ⟨⟨_,b4⟩,?_⟩)
   refine aC ?_;refine tS ?_
   have e8:=d9 _ _ b4
   have i3:=d8 _ _ e8
   refine aC ?_;refine aJ [2,6] (fun f w=>∃ z b5 b6,vY h z=some a6/\f 5=zS b5 z.length b6/\aD G K (aH 2 K b5 b6 z::box d 27 c::L) w) aI ?_
   obtain ⟨i4,e9,ho⟩:=aB hm
   refine aY [2,6,23,24] e9 (fun V Z f w=>∃ a0 a2,f 5=zS a0 V.length a2/\f 25=i64 Z/\aD G K (aH 2 K a0 a2 V::box d 27 c::aH 2 K b2 b3 b1::L) w) aI ?_
   ·rintro V Z f0 f i5 hm hr ⟨a0,a2,i6,i7,i8⟩
    unfold fQ at hm
    refine aC ?_
    rcases aG hm with ⟨f1,hm⟩|⟨f1,hm⟩
    ·refine aC ?_;refine aJ [2,6,23,24,25] (fun f w=>∃ l m o,nN Z l=some f0/\f 5=zS m l.length o/\aD G K (aH 2 K m o l::box d 27 c::aH 2 K b2 b3 b1::L) w) ?_ ?_
     ·rintro f i9 ⟨l,m,o,hm,f2,f3⟩
      unfold nN at hm
      refine aC ?_;exact ⟨_,(zI hm).symm,aU,m,o,f2,rfl,f3⟩
     exact aI
    ·exact aI
  ·exact aI
theorem aFd {t:aO} {a:(List Int)} {b:aL} {R:(List Int)} (hm:gN t a b=some R) (g:aD G K (L) w) (h:aT K a1 c2 t.L) (i:aT K a4 c5 t.E) (j:aT K a7 c8 a):
  Calls prog 100 ([zA (zCa t a1 c2 a4 c5),zS a7 a.length c8,str b]:List Value).toArray w (dO fun v w'=>∃ c d,v=zS c R.length d/\aD G K (aH 2 K c d R::L) w'):=by
 refine cA func100 ?_;unfold gN at hm
 refine aC ?_;refine kN fun k l e=>?_
 refine aC ?_;obtain ⟨m,n,o,p,q⟩:=aD.lendBp e .head
 refine aBr [(0,0),(1,0),(2,0),(3,0),(4,1),(5,1),(6,0)] fun r u=>?_;exact aI
theorem aCc {t:aO} {k:Int} {a:aL} {R:(List Int)} (hm:mY t k a=some R) (e:aD G K (L) w) (g:aT K a1 c2 t.L) (h:aT K a4 c5 t.E):
  Calls prog 87 ([zA (zCa t a1 c2 a4 c5),i64 k,str a]:List Value).toArray w (dO fun v w'=>∃ b c,v=zS b R.length c/\aD G K (aH 2 K b c R::L) w'):=by
 refine cA func87 ?_;unfold mY at hm
 refine aC ?_;refine kN fun i j l=>?_
 refine aC ?_;refine nE ([k]:List Int) fun m n d=>?_
 obtain ⟨o,p,q,r,u⟩:=aD.lendSp d (zR _) .head
 exact aI
theorem iZ {a b:(List aL)} {R:Bool} (hm:dY a b=some R) (g:aD G K (L) w) (h:aT K a1 c2 a) (i:aT K a4 c5 b):
  Calls prog 120 ([zS a1 a.length c2,zS a4 b.length c5]:List Value).toArray w (dO fun v w'=>v=zB R/\aD G K (L) w'):=by
 refine cA func120 ?_;unfold dY at hm
 refine aC ?_
 rcases aG hm with ⟨c,hm⟩|⟨c,hm⟩
 ·exact aI
 ·refine aC ?_;refine aJ [] (fun f w=>pC=some R/\aD G K (L) w) aI ?_
  obtain ⟨j,d,ho⟩:=aB hm
  exact eM [0,1,12] d (fun e f w=>f 13=i64 e/\aD G K (L) w) aI aI
theorem xC {a y:Int} {c:Nat} {b:(List ((Int × Int) × Bool))} {d:Nat} {R:Bool} (hm:qB a y b=some R) (e:aD G K (L) w) (i:cK K a1 c [zM (some d)]) (g:rdM K d b):
  Calls prog 121 ([i64 a,i64 y,cU a1 c]:List Value).toArray w (dO fun v w'=>v=zB R/\aD G K (L) w'):=by
 refine cA func121 ?_;unfold qB at hm
 refine aC ?_;refine aK (aBu (vs:=[(0,i64 a),(1,i64 y)]) (cs:=[i64 a,i64 y]) aEF aHr rfl (by kernel_rfl)) (aK (R_look1K (kv:=b) (k:=⟨a,y⟩) (z:=(false:Bool)) runUnderlying93 aGd zeroValue4 e g rfl rfl) (aC ?_))
 obtain rfl:=zI hm
 exact aLM results121 ⟨rfl,e⟩
theorem aFP {a:Int} {i:Nat} {j k:Int} {c:(List aL)} {d:(List Edge)} {l m:Int} {e:(List aL)} {g:(List Edge)} {b:Nat} {n:(List ((Int × Int) × Bool))} {r19:Nat} {p:Int} {o:Nat} {R:Bool} (hm:aEh a j k c d l m e g n p=some R) (h:aD G K (L) w) (q:cK K a1 i [i64 j,i64 k,zS a4 c.length c5,zS a7 d.length c8,i64 l,i64 m,zS a10 e.length c11,zS a13 g.length c14,Value.func (.func 121) #[] #[cU a16 b]]) (z:aT K a4 c5 c) (V:aT K a7 c8 d) (Z:aT K a10 c11 e) (a0:aT K a13 c14 g) (r:cK K a16 b [zM (some r19)]) (u:rdM K r19 n) (x:cK K a21 o [i64 p]):
  Calls prog 211 ([i64 a,cU a1 i,cU a21 o]:List Value).toArray w (dO fun v w'=>v=zB R/\aD G K (L) w'):=by
 refine cA func211 ?_;unfold aEh at hm
 refine aC ?_;refine aK (cH (t:=8) sc_51 h q rfl rfl) (aK (cH (t:=0) jE h x rfl rfl) (aR (v:=i64 a) ?_))
 obtain ⟨a2,y,hm⟩:=aB hm
 exact gR (vs:=[i64 p,i64 a]) (caps:=[cU a16 b]) (us:=[i64 p,i64 a,cU a16 b]) rfl call121 rfl rfl (xC y h r u) aI
theorem uV {c:(List Int)} {a:Nat} {i j:Int} {d:(List aL)} {e:(List Edge)} {k l:Int} {g:(List aL)} {h:(List Edge)} {m:Nat} {n:(List ((Int × Int) × Bool))} {o:Nat} {p:Int} {b:Nat} {R:Int} (hm:fJ c i j d e k l g h n p=some R) (hs:aD G K (L) w) (t:aT K a1 c2 c) (u:cK K a4 a [i64 i,i64 j,zS a7 d.length c8,zS a10 e.length c11,i64 k,i64 l,zS a13 g.length c14,zS a16 h.length c17,Value.func (.func 121) #[] #[cU a19 m]]) (x:aT K a7 c8 d) (y:aT K a10 c11 e) (z:aT K a13 c14 g) (V:aT K a16 c17 h) (Z:cK K a19 m [zM (some o)]) (a0:rdM K o n) (a2:cK K a24 b [i64 p]):
  Calls prog 155 ([zS a1 c.length c2,Value.func (.func 211) #[] #[cU a4 a,cU a24 b]]:List Value).toArray w (dO fun v w'=>v=i64 R/\aD G K (L) w'):=by
 refine cA func155 ?_;unfold fJ at hm
 refine aC ?_;refine aJ [] (fun f w=>mQ=some R/\aD G K (L) w) aI ?_
 obtain ⟨b2,a3,ho⟩:=aB hm
 refine eM [0,1,7] a3 (fun q f w=>f 8=i64 q/\aD G K (L) w) aI ?_
 ·rintro q b3 f b4 hm hr ⟨b5,a5⟩
  unfold cV at hm
  refine aC ?_
  rcases aG hm with ⟨a6,hm⟩|⟨a6,hm⟩
  ·refine aC ?_;refine bT (aC ?_)
   obtain ⟨r,a8,hm⟩:=aB hm
   refine aC ?_;obtain ⟨b6,b7,a9⟩:=aT.el (sz:=1) rfl t a8
   cases a9
   refine aC ?_;obtain ⟨b8,b0,hm⟩:=aB hm
   exact gR (vs:=[i64 r]) (caps:=[cU a4 a,cU a24 b]) (us:=[i64 r,cU a4 a,cU a24 b]) rfl call211 rfl rfl (aFP b0 a5 u x y z V Z a0 a2) aI
  ·exact aI
theorem kG {a:(List Int)} {g:Nat} {h i:Int} {b:(List aL)} {c:(List Edge)} {j k:Int} {d:(List aL)} {e:(List Edge)} {l:Nat} {m:(List ((Int × Int) × Bool))} {n:Nat} {o:Int} {p:Nat} {R:Bool} (hm:eV a h i b c j k d e m o=some R) (q:aD G K (L) w) (r:aT K a1 c2 a) (t:cK K a4 g [i64 h,i64 i,zS a7 b.length c8,zS a10 c.length c11,i64 j,i64 k,zS a13 d.length c14,zS a16 e.length c17,Value.func (.func 121) #[] #[cU a19 l]]) (u:aT K a7 c8 b) (x:aT K a10 c11 c) (y:aT K a13 c14 d) (z:aT K a16 c17 e) (V:cK K a19 l [zM (some n)]) (Z:rdM K n m) (a0:cK K a24 p [i64 o]):
  Calls prog 108 ([zS a1 a.length c2,Value.func (.func 211) #[] #[cU a4 g,cU a24 p]]:List Value).toArray w (dO fun v w'=>v=zB R/\aD G K (L) w'):=by
 exact aI
theorem aFQ {r_a r_b:aO} {d:Nat} {e:(List ((Int × Int) × Bool))} {g:Nat} {h y:Int} {i:aL} {j:Int} {R:Bool} (hm:xP r_a r_b e h y i j=some R) (hs:aD G K (L) w) (m:aT K a1 c2 r_a.L) (n:aT K a4 c5 r_a.E) (k:aT K a7 c8 r_b.L) (l:aT K a10 c11 r_b.E) (o:cK K a13 d [zM (some g)]) (p:rdM K g e):
  Calls prog 161 ([zA #[i64 r_a.N,i64 r_a.I,zS a1 r_a.L.length c2,zS a4 r_a.E.length c5,i64 r_b.N,i64 r_b.I,zS a7 r_b.L.length c8,zS a10 r_b.E.length c11,Value.func (.func 121) #[] #[cU a13 d]],i64 h,i64 y,str i,i64 j]:List Value).toArray w (dO fun v w'=>v=zB R/\aD G K (L) w'):=by
 refine cA func161 ?_;unfold xP at hm
 refine aC ?_;refine kN fun q a8 a9=>?_
 refine kN fun r b0 t=>?_;refine aC ?_
 obtain ⟨b1,u,hm⟩:=aB hm
 refine bP call87 (aCc u t k l) ?_
 rintro _ b2 ⟨b3,b4,rfl,x⟩
 refine aK (kU (vs:=[zP (some ⟨q,0,none⟩),zP (some ⟨r,0,none⟩)]) rfl) ?_;obtain ⟨b5,c,z,V,b6⟩:=aD.lendSp x (zR _) .head
 obtain ⟨b7,b,Z,a0,b8⟩:=aD.lendBp V zt1
 obtain ⟨b9,a,a2,a3,c0⟩:=aD.lendBp a0 .head
 obtain ⟨c1,a5,hm⟩:=aB hm
 exact bP call108 (kG a5 a3 (z.mono (zL b a)) (Z.mono a) (m.mono (zL (zL c b) a)) (n.mono (zL (zL c b) a)) (k.mono (zL (zL c b) a)) (l.mono (zL (zL c b) a)) (o.mono (zL (zL c b) a)) (p.mono (zL (zL c b) a)) a2) aI
theorem aGk {r_a r_b:aO} {c:Nat} {h:(List ((Int × Int) × Bool))} {j:Nat} {e y:Int} {R:Bool} (hm:lG r_a r_b h e y=some R) (hs:aD G K (L) w) (g:aT K a1 c2 r_a.L) (k:aT K a4 c5 r_a.E) (r:aT K a7 c8 r_b.L) (u:aT K a10 c11 r_b.E) (x:cK K a13 c [zM (some j)]) (z:rdM K j h):
  Calls prog 160 ([zA #[i64 r_a.N,i64 r_a.I,zS a1 r_a.L.length c2,zS a4 r_a.E.length c5,i64 r_b.N,i64 r_b.I,zS a7 r_b.L.length c8,zS a10 r_b.E.length c11,Value.func (.func 121) #[] #[cU a13 c]],i64 e,i64 y,Value.func (.func 161) #[] #[]]:List Value).toArray w (dO fun v w'=>v=zB R/\aD G K (L) w'):=by
 refine cA func160 ?_;unfold lG at hm
 refine aC ?_;refine kN fun V b9 Z=>?_
 refine aC ?_;obtain ⟨a0,a2,hm⟩:=aB hm
 refine bP call119 (xB a2 Z g k) ?_
 rintro _ c0 ⟨a3,a5,rfl,c1⟩
 refine aC ?_;refine aJ [] (fun f w=>aBz=some R/\aD G K (L) w) aI ?_
 obtain ⟨c3,a6,ho⟩:=aB hm
 refine eM [1,2,3,4,14,15] a6 (fun l f w=>f 16=i64 l/\aD G K (aH 61 K a3 a5 a0::box V 150 [i64 r_a.N,i64 r_a.I,zS a1 r_a.L.length c2,zS a4 r_a.E.length c5,i64 r_b.N,i64 r_b.I,zS a7 r_b.L.length c8,zS a10 r_b.E.length c11,Value.func (.func 121) #[] #[cU a13 c]]::L) w) aI ?_
 ·rintro l c4 f c6 hm hr ⟨a8,a9⟩
  unfold kW at hm
  refine aC ?_
  rcases aG hm with ⟨b0,hm⟩|⟨b0,hm⟩
  ·refine aC ?_;refine bT (aC ?_)
   obtain ⟨m,n,hm⟩:=aB hm
   have b1:=bY a9 (i:=0) rfl n
   refine aK (cR lH rfl b1 rfl rfl a8 n) (aC ?_);refine jH fun c7 c9 d0=>?_
   refine kM fun d1 b2=>?_;refine aC ?_
   obtain ⟨d2,b,o,b3,d3⟩:=aD.lendBp b2 .head
   obtain ⟨d4,a,d5,d6,b4⟩:=aD.lendBp b3 zt1
   refine aBr [(0,0),(1,0),(2,0),(3,0),(4,0),(5,0),(6,0),(7,0),(8,0),(9,0),(10,0),(11,0),(12,0),(13,1),(14,0)] fun d7 d=>?_;refine aC ?_
   refine cS rfl (fun _ ⟨_,d⟩=>cH (t:=1) jE d (o.mono a) rfl rfl) ?_;obtain ⟨p,b5,hm⟩:=aB hm
   refine aC ?_;obtain ⟨d8,d9,b6⟩:=aT.el (sz:=1) rfl g b5
   cases b6
   refine aC ?_;refine cS rfl (fun _ ⟨_,d⟩=>cH (t:=2) jE d (o.mono a) rfl rfl) (lV rfl ?_)
   obtain ⟨e0,b7,hm⟩:=aB hm
   refine gR (vs:=[zA #[i64 r_a.N,i64 r_a.I,zS a1 r_a.L.length c2,zS a4 r_a.E.length c5,i64 r_b.N,i64 r_b.I,zS a7 r_b.L.length c8,zS a10 r_b.E.length c11,Value.func (.func 121) #[] #[cU a13 c]],i64 e,i64 y,str p,i64 m.To]) (caps:=[]) (us:=[zA #[i64 r_a.N,i64 r_a.I,zS a1 r_a.L.length c2,zS a4 r_a.E.length c5,i64 r_b.N,i64 r_b.I,zS a7 r_b.L.length c8,zS a10 r_b.E.length c11,Value.func (.func 121) #[] #[cU a13 c]],i64 e,i64 y,str p,i64 m.To]) rfl call161 rfl rfl (aFQ (r_a:=⟨r_a.N,r_a.I,r_a.L,r_a.E⟩) (r_b:=⟨r_b.N,r_b.I,r_b.L,r_b.E⟩) b7 d (g.mono (zL b a)) (k.mono (zL b a)) (r.mono (zL b a)) (u.mono (zL b a)) (x.mono (zL b a)) (z.mono (zL b a))) ?_
   rintro _ e1 ⟨rfl,q⟩
   refine aM (aF ⟨⟨_,q⟩,?_⟩)
   refine aC ?_;refine tS ?_
   have e2:=b4 _ _ q
   exact aI
  ·exact aI
theorem aFe {a:Int} {i:Nat} {j k:Int} {c:(List aL)} {d:(List Edge)} {l m:Int} {e:(List aL)} {g:(List Edge)} {b:Nat} {n:(List ((Int × Int) × Bool))} {r19:Nat} {p:Int} {o:Nat} {R:Bool} (hm:aCQ a j k c d l m e g n p=some R) (h:aD G K (L) w) (q:cK K a1 i [i64 j,i64 k,zS a4 c.length c5,zS a7 d.length c8,i64 l,i64 m,zS a10 e.length c11,zS a13 g.length c14,Value.func (.func 121) #[] #[cU a16 b]]) (z:aT K a4 c5 c) (V:aT K a7 c8 d) (Z:aT K a10 c11 e) (a0:aT K a13 c14 g) (r:cK K a16 b [zM (some r19)]) (u:rdM K r19 n) (x:cK K a21 o [i64 p]):
  Calls prog 212 ([i64 a,cU a1 i,cU a21 o]:List Value).toArray w (dO fun v w'=>v=zB R/\aD G K (L) w'):=by
 refine cA func212 ?_;unfold aCQ at hm
 refine aC ?_;refine aK (cH (t:=8) sc_51 h q rfl rfl) (aK (cH (t:=0) jE h x rfl rfl) (aR (v:=i64 a) ?_))
 obtain ⟨a2,y,hm⟩:=aB hm
 exact gR (vs:=[i64 p,i64 a]) (caps:=[cU a16 b]) (us:=[i64 p,i64 a,cU a16 b]) rfl call121 rfl rfl (xC y h r u) aI
theorem uW {c:(List Int)} {a:Nat} {i j:Int} {d:(List aL)} {e:(List Edge)} {k l:Int} {g:(List aL)} {h:(List Edge)} {m:Nat} {n:(List ((Int × Int) × Bool))} {o:Nat} {p:Int} {b:Nat} {R:Int} (hm:fK c i j d e k l g h n p=some R) (hs:aD G K (L) w) (t:aT K a1 c2 c) (u:cK K a4 a [i64 i,i64 j,zS a7 d.length c8,zS a10 e.length c11,i64 k,i64 l,zS a13 g.length c14,zS a16 h.length c17,Value.func (.func 121) #[] #[cU a19 m]]) (x:aT K a7 c8 d) (y:aT K a10 c11 e) (z:aT K a13 c14 g) (V:aT K a16 c17 h) (Z:cK K a19 m [zM (some o)]) (a0:rdM K o n) (a2:cK K a24 b [i64 p]):
  Calls prog 155 ([zS a1 c.length c2,Value.func (.func 212) #[] #[cU a4 a,cU a24 b]]:List Value).toArray w (dO fun v w'=>v=i64 R/\aD G K (L) w'):=by
 refine cA func155 ?_;unfold fK at hm
 refine aC ?_;refine aJ [] (fun f w=>mR=some R/\aD G K (L) w) aI ?_
 obtain ⟨b2,a3,ho⟩:=aB hm
 refine eM [0,1,7] a3 (fun q f w=>f 8=i64 q/\aD G K (L) w) aI ?_
 ·rintro q b3 f b4 hm hr ⟨b5,a5⟩
  unfold cW at hm
  refine aC ?_
  rcases aG hm with ⟨a6,hm⟩|⟨a6,hm⟩
  ·refine aC ?_;refine bT (aC ?_)
   obtain ⟨r,a8,hm⟩:=aB hm
   refine aC ?_;obtain ⟨b6,b7,a9⟩:=aT.el (sz:=1) rfl t a8
   cases a9
   refine aC ?_;obtain ⟨b8,b0,hm⟩:=aB hm
   exact gR (vs:=[i64 r]) (caps:=[cU a4 a,cU a24 b]) (us:=[i64 r,cU a4 a,cU a24 b]) rfl call212 rfl rfl (aFe b0 a5 u x y z V Z a0 a2) aI
  ·exact aI
theorem kH {a:(List Int)} {g:Nat} {h i:Int} {b:(List aL)} {c:(List Edge)} {j k:Int} {d:(List aL)} {e:(List Edge)} {l:Nat} {m:(List ((Int × Int) × Bool))} {n:Nat} {o:Int} {p:Nat} {R:Bool} (hm:eW a h i b c j k d e m o=some R) (q:aD G K (L) w) (r:aT K a1 c2 a) (t:cK K a4 g [i64 h,i64 i,zS a7 b.length c8,zS a10 c.length c11,i64 j,i64 k,zS a13 d.length c14,zS a16 e.length c17,Value.func (.func 121) #[] #[cU a19 l]]) (u:aT K a7 c8 b) (x:aT K a10 c11 c) (y:aT K a13 c14 d) (z:aT K a16 c17 e) (V:cK K a19 l [zM (some n)]) (Z:rdM K n m) (a0:cK K a24 p [i64 o]):
  Calls prog 108 ([zS a1 a.length c2,Value.func (.func 212) #[] #[cU a4 g,cU a24 p]]:List Value).toArray w (dO fun v w'=>v=zB R/\aD G K (L) w'):=by
 exact aI
theorem aFf {r_a r_b:aO} {d:Nat} {e:(List ((Int × Int) × Bool))} {g:Nat} {h y:Int} {i:aL} {j:Int} {R:Bool} (hm:vE r_a r_b e h y i j=some R) (hs:aD G K (L) w) (n:aT K a1 c2 r_a.L) (o:aT K a4 c5 r_a.E) (k:aT K a7 c8 r_b.L) (l:aT K a10 c11 r_b.E) (p:cK K a13 d [zM (some g)]) (q:rdM K g e):
  Calls prog 162 ([zA #[i64 r_a.N,i64 r_a.I,zS a1 r_a.L.length c2,zS a4 r_a.E.length c5,i64 r_b.N,i64 r_b.I,zS a7 r_b.L.length c8,zS a10 r_b.E.length c11,Value.func (.func 121) #[] #[cU a13 d]],i64 h,i64 y,str i,i64 j]:List Value).toArray w (dO fun v w'=>v=zB R/\aD G K (L) w'):=by
 refine cA func162 ?_;unfold vE at hm
 refine aC ?_;refine kN fun r b3 b4=>?_
 refine kN fun t b5 b6=>?_;refine aC ?_
 refine nE ([y]:List Int) fun b7 b8 u=>?_;refine aC ?_
 obtain ⟨b9,m,x,z,V⟩:=aD.lendSp u (zR _) .head
 obtain ⟨c0,Z,hm⟩:=aB hm
 refine bP call143 (aCb Z z (k.mono m) (l.mono m) x) ?_
 rintro _ c1 ⟨c3,c4,rfl,a0⟩
 have a2:=V _ _ a0
 refine aK (kU (vs:=[zP (some ⟨r,0,none⟩),zP (some ⟨t,0,none⟩)]) rfl) ?_;obtain ⟨c6,c,a3,a5,c7⟩:=aD.lendSp a2 (zR _) zt1
 obtain ⟨c9,b,a6,a8,d0⟩:=aD.lendBp a5 zt2
 obtain ⟨d1,a,a9,b0,d2⟩:=aD.lendBp a8 zt1
 obtain ⟨d3,b1,hm⟩:=aB hm
 exact bP call108 (kH b1 b0 (a3.mono (zL b a)) (a6.mono a) (n.mono (zL (zL c b) a)) (o.mono (zL (zL c b) a)) (k.mono (zL (zL c b) a)) (l.mono (zL (zL c b) a)) (p.mono (zL (zL c b) a)) (q.mono (zL (zL c b) a)) a9) aI
theorem aEn {r_a r_b:aO} {c:Nat} {h:(List ((Int × Int) × Bool))} {j:Nat} {e y:Int} {R:Bool} (hm:iT r_a r_b h e y=some R) (hs:aD G K (L) w) (g:aT K a1 c2 r_a.L) (k:aT K a4 c5 r_a.E) (r:aT K a7 c8 r_b.L) (u:aT K a10 c11 r_b.E) (x:cK K a13 c [zM (some j)]) (z:rdM K j h):
  Calls prog 160 ([zA #[i64 r_a.N,i64 r_a.I,zS a1 r_a.L.length c2,zS a4 r_a.E.length c5,i64 r_b.N,i64 r_b.I,zS a7 r_b.L.length c8,zS a10 r_b.E.length c11,Value.func (.func 121) #[] #[cU a13 c]],i64 e,i64 y,Value.func (.func 162) #[] #[]]:List Value).toArray w (dO fun v w'=>v=zB R/\aD G K (L) w'):=by
 refine cA func160 ?_;unfold iT at hm
 refine aC ?_;refine kN fun V b9 Z=>?_
 refine aC ?_;obtain ⟨a0,a2,hm⟩:=aB hm
 refine bP call119 (xB a2 Z g k) ?_
 rintro _ c0 ⟨a3,a5,rfl,c1⟩
 refine aC ?_;refine aJ [] (fun f w=>yL=some R/\aD G K (L) w) aI ?_
 obtain ⟨c3,a6,ho⟩:=aB hm
 refine eM [1,2,3,4,14,15] a6 (fun l f w=>f 16=i64 l/\aD G K (aH 61 K a3 a5 a0::box V 150 [i64 r_a.N,i64 r_a.I,zS a1 r_a.L.length c2,zS a4 r_a.E.length c5,i64 r_b.N,i64 r_b.I,zS a7 r_b.L.length c8,zS a10 r_b.E.length c11,Value.func (.func 121) #[] #[cU a13 c]]::L) w) aI ?_
 ·rintro l c4 f c6 hm hr ⟨a8,a9⟩
  unfold iX at hm
  refine aC ?_
  rcases aG hm with ⟨b0,hm⟩|⟨b0,hm⟩
  ·refine aC ?_;refine bT (aC ?_)
   obtain ⟨m,n,hm⟩:=aB hm
   have b1:=bY a9 (i:=0) rfl n
   refine aK (cR lH rfl b1 rfl rfl a8 n) (aC ?_);refine jH fun c7 c9 d0=>?_
   refine kM fun d1 b2=>?_;refine aC ?_
   obtain ⟨d2,b,o,b3,d3⟩:=aD.lendBp b2 .head
   obtain ⟨d4,a,d5,d6,b4⟩:=aD.lendBp b3 zt1
   refine aBr [(0,0),(1,0),(2,0),(3,0),(4,0),(5,0),(6,0),(7,0),(8,0),(9,0),(10,0),(11,0),(12,0),(13,1),(14,0)] fun d7 d=>?_;refine aC ?_
   refine cS rfl (fun _ ⟨_,d⟩=>cH (t:=1) jE d (o.mono a) rfl rfl) ?_;obtain ⟨p,b5,hm⟩:=aB hm
   refine aC ?_;obtain ⟨d8,d9,b6⟩:=aT.el (sz:=1) rfl g b5
   cases b6
   refine aC ?_;refine cS rfl (fun _ ⟨_,d⟩=>cH (t:=2) jE d (o.mono a) rfl rfl) (lV rfl ?_)
   obtain ⟨e0,b7,hm⟩:=aB hm
   refine gR (vs:=[zA #[i64 r_a.N,i64 r_a.I,zS a1 r_a.L.length c2,zS a4 r_a.E.length c5,i64 r_b.N,i64 r_b.I,zS a7 r_b.L.length c8,zS a10 r_b.E.length c11,Value.func (.func 121) #[] #[cU a13 c]],i64 e,i64 y,str p,i64 m.To]) (caps:=[]) (us:=[zA #[i64 r_a.N,i64 r_a.I,zS a1 r_a.L.length c2,zS a4 r_a.E.length c5,i64 r_b.N,i64 r_b.I,zS a7 r_b.L.length c8,zS a10 r_b.E.length c11,Value.func (.func 121) #[] #[cU a13 c]],i64 e,i64 y,str p,i64 m.To]) rfl call162 rfl rfl (aFf (r_a:=⟨r_a.N,r_a.I,r_a.L,r_a.E⟩) (r_b:=⟨r_b.N,r_b.I,r_b.L,r_b.E⟩) b7 d (g.mono (zL b a)) (k.mono (zL b a)) (r.mono (zL b a)) (u.mono (zL b a)) (x.mono (zL b a)) (z.mono (zL b a))) ?_
   rintro _ e1 ⟨rfl,q⟩
   refine aM (aF ⟨⟨_,q⟩,?_⟩)
   refine aC ?_;refine tS ?_
   have e2:=b4 _ _ q
   exact aI
  ·exact aI
theorem uX {r_a r_b:aO} {e:Nat} {h:(List ((Int × Int) × Bool))} {i:Nat} {kind d y:Int} {R:Bool} (hm:gZ r_a r_b h kind d y=some R) (hs:aD G K (L) w) (p:aT K a1 c2 r_a.L) (q:aT K a4 c5 r_a.E) (r:aT K a7 c8 r_b.L) (u:aT K a10 c11 r_b.E) (b5:cK K a13 e [zM (some i)]) (b6:rdM K i h):
  Calls prog 122 ([zA #[i64 r_a.N,i64 r_a.I,zS a1 r_a.L.length c2,zS a4 r_a.E.length c5,i64 r_b.N,i64 r_b.I,zS a7 r_b.L.length c8,zS a10 r_b.E.length c11,Value.func (.func 121) #[] #[cU a13 e]],i64 kind,i64 d,i64 y]:List Value).toArray w (dO fun v w'=>v=zB R/\aD G K (L) w'):=by
 refine cA func122 ?_;unfold gZ at hm
 refine aC ?_;refine kN fun x b7 z=>?_
 refine aC ?_;refine bG [1,2,3,4] (fun f w=>∃ j,iL r_a r_b h kind d y j=some R/\f 22=zB j/\aD G K (box x 150 [i64 r_a.N,i64 r_a.I,zS a1 r_a.L.length c2,zS a4 r_a.E.length c5,i64 r_b.N,i64 r_b.I,zS a7 r_b.L.length c8,zS a10 r_b.E.length c11,Value.func (.func 121) #[] #[cU a13 e]]::L) w) aI ?_
 obtain ⟨b8,c,k,b9,l⟩:=aD.lendBp z .head
 refine aBr [(0,0),(1,0),(2,0),(3,0),(4,0),(5,0),(7,0),(8,0),(9,0),(6,1),(10,1),(11,1),(12,0),(13,0)] fun c0 b=>?_;refine aC ?_
 rcases aG hm with ⟨a,hm⟩|⟨a,hm⟩
 ·refine aEB rfl rfl rfl a (fun _ _=>jG (t':=0) aRR rfl rfl) (aEB rfl rfl rfl a (fun _ ⟨_,b⟩=>jR (t:=0) (vs:=(zC r_a a1 c2 a4 c5)) fF b k rfl rfl rfl) (aEB rfl rfl rfl a (fun _ _=>bW (v:=i64 d) rfl) (aEB rfl rfl rfl a (fun _ _=>jG (t':=4) aRS rfl rfl) (aEB rfl rfl rfl a (fun _ ⟨_,b⟩=>jR (t:=4) (vs:=(zC r_b a7 c8 a10 c11)) fF b k rfl rfl rfl) (aEB rfl rfl rfl a (fun _ _=>bW (v:=i64 y) rfl) (lV rfl (aC ?_)))))))
  obtain ⟨c1,V,hm⟩:=aB hm
  refine bP call65 (gC V b (p.mono c) (q.mono c)) ?_
  rintro _ c3 ⟨c4,c6,rfl,m⟩
  refine aM (aF ⟨⟨_,m⟩,?_⟩)
  refine lV rfl (aC ?_);obtain ⟨c7,Z,hm⟩:=aB hm
  refine bP call65 (gC Z m (r.mono c) (u.mono c)) ?_
  rintro _ c9 ⟨d0,d1,rfl,n⟩
  refine aM (aF ⟨⟨_,n⟩,?_⟩)
  refine lV rfl (aC ?_);obtain ⟨d2,a0,a2,a3,a5⟩:=aD.lendSp n c zt1
  obtain ⟨d3,a6,a8,a9,b0⟩:=aD.lendSp a3 (zL c a0) .head
  obtain ⟨d4,b1,hm⟩:=aB hm
  refine bP call120 (iZ b1 a9 (a2.mono a6) a8) ?_
  rintro _ d5 ⟨rfl,b2⟩
  have b3:=b0 _ _ b2
  have o:=a5 _ _ b3
  refine aM (aF ⟨⟨_,o⟩,?_⟩)
  refine aEB rfl rfl rfl a (fun _ _=>aGt rfl) (aC ?_);refine tS ?_
  have d6:=l _ _ o
  exact aI
 ·refine aAD rfl rfl rfl (aDX a) (aAD rfl rfl rfl (aDX a) (aAD rfl rfl rfl (aDX a) (aAD rfl rfl rfl (aDX a) (aAD rfl rfl rfl (aDX a) (aAD rfl rfl rfl (aDX a) (lV rfl ?_))))))
  iterate 1 refine eU ?_
  refine aM (aF ⟨⟨_,b⟩,?_⟩)
  refine lV rfl ?_
  iterate 1 refine eU ?_
  refine aM (aF ⟨⟨_,b⟩,?_⟩)
  refine lV rfl ?_
  iterate 1 refine eU ?_
  refine aM (aF ⟨⟨_,b⟩,?_⟩)
  refine aAD rfl rfl rfl (aDX a) (aC ?_);refine tS ?_
  have d7:=l _ _ b
  exact aI
theorem aLg {a b:aO} {kind:Int} {R:((List ((Int × Int) × Bool)) × Int)} (hm:aBA a b kind=some R) (hs:aD G K (L) w) (h3:aT K a1 c2 a.L) (h6:aT K a4 c5 a.E) (h9:aT K a7 c8 b.L) (e8:aT K a10 c11 b.E):
  Calls prog 67 ([zA (zCa a a1 c2 a4 c5),zA (zCa b a7 c8 a10 c11),i64 kind]:List Value).toArray w (dO fun v w'=>∃ e9,v=Value.tuple #[zM (some e9),i64 R.2]/\aD G K (iR e9 R.1::L) w'):=by
 let h:=(zC b a7 c8 a10 c11)
 let l:=(zC a a1 c2 a4 c5)
 refine cA func67 ?_;unfold aBA at hm
 refine aC ?_;refine kN fun m n9 o0=>?_
 refine kN fun o o1 h2=>?_;refine aC ?_
 refine aGw (Int × Int) Bool h2 ?_
 intro p h4 (o2:aD G K (iR p ([]:(List ((Int × Int) × Bool)))::box o 27 h::box m 27 l::L) h4)
 refine jH fun c o3 o4=>?_;refine kM fun o5 o6=>?_
 refine aC ?_;refine aJ [2,3,4,8] (fun f w=>∃ (d4:(List ((Int × Int) × Bool))),aAo a b kind d4=some R/\aD G K (box c 93 [zM (some p)]::iR p d4::box o 27 h::box m 27 l::L) w) ?_ ?_
 ·rintro f o7 ⟨d4,hm,o8⟩
  unfold aAo at hm
  refine aC ?_;refine aK (aBu (vs:=[(0,i64 a.I),(1,i64 b.I)]) (cs:=[i64 a.I,i64 b.I]) aEF aHr rfl (by kernel_rfl)) (jH fun q o9 p0=>?_)
  refine kM fun p1 p2=>?_;refine aC ?_
  refine bT ?_;obtain ⟨p3,h5,ho⟩:=aB hm
  refine mA [2,3,4,8,11] h5 (fun d d5 a5 f w=>∃ e,f 12=i64 d5/\f 13=i64 a5/\aD G K (box q 129 [i64 a.I,i64 b.I]::box c 93 [zM (some e)]::iR e d::box o 27 h::box m 27 l::L) w) aI ?_
  ·rintro d d5 a5 b7 f p4 hm hr ⟨e,p5,f0,f1⟩
   unfold uN at hm
   refine aC ?_;refine aJ [2,3,4,8,11,13] (fun f w=>∃ (d6:(List ((Int × Int) × Bool))) (d7:Int) (b8:Nat),aAm a5 d6 d7=some b7/\f 12=i64 d7/\aD G K (iR b8 d6::box q 129 [i64 a.I,i64 b.I]::box c 93 [zM (some b8)]::box o 27 h::box m 27 l::L) w) ?_ ?_
   ·rintro f p6 ⟨d6,d7,b8,hm,h7,p7⟩
    unfold aAm at hm
    refine aC ?_;exact ⟨_,(zI hm).symm,aU,b8,h7,rfl,oK⟩
   refine rD [2,3,4,8,11,13] (fun f w=>∃ b2,qC a b kind d a5 b2=some b7/\f 12=i64 b2/\aD G K (box q 129 [i64 a.I,i64 b.I]::box c 93 [zM (some e)]::iR e d::box o 27 h::box m 27 l::L) w) ?_ ?_
   ·rintro f p8 ⟨b2,hm,f2,p9⟩
    unfold qC at hm
    iterate 4 refine eU ?_
    refine aK (kU (vs:=[zP (some ⟨c,0,none⟩)]) rfl) (aK (dI (vs:=[(0,zA (zCa a a1 c2 a4 c5)),(1,zA (zCa b a7 c8 a10 c11)),(2,Value.func (.func 121) #[] #[zP (some ⟨c,0,none⟩)])]) (cs:=[i64 a.N,i64 a.I,zS a1 a.L.length c2,zS a4 a.E.length c5,i64 b.N,i64 b.I,zS a7 b.L.length c8,zS a10 b.E.length c11,Value.func (.func 121) #[] #[zP (some ⟨c,0,none⟩)]]) bs_150 rfl (by kernel_rfl)) (jH fun y q0 q1=>?_))
    refine kM fun q2 h8=>?_;refine aC ?_
    refine aGw (Int × Int) Bool h8 ?_
    intro u i0 (i1:aD G K (iR u ([]:(List ((Int × Int) × Bool)))::box y 150 [i64 a.N,i64 a.I,zS a1 a.L.length c2,zS a4 a.E.length c5,i64 b.N,i64 b.I,zS a7 b.L.length c8,zS a10 b.E.length c11,Value.func (.func 121) #[] #[zP (some ⟨c,0,none⟩)]]::box q 129 [i64 a.I,i64 b.I]::box c 93 [zM (some e)]::iR e d::box o 27 h::box m 27 l::L) i0)
    refine aC ?_;refine WO_range (i:=4) runUnderlying93 i1 rfl rfl ?_
    intro a6 i2 (f3:aD G K (iR u ([]:(List ((Int × Int) × Bool)))::box y 150 [i64 a.N,i64 a.I,zS a1 a.L.length c2,zS a4 a.E.length c5,i64 b.N,i64 b.I,zS a7 b.L.length c8,zS a10 b.E.length c11,Value.func (.func 121) #[] #[zP (some ⟨c,0,none⟩)]]::box q 129 [i64 a.I,i64 b.I]::box c 93 [zM (some e)]::mpi a6 e d (List.map Prod.fst d) none::box o 27 h::box m 27 l::L) i2)
    refine aC ?_;refine aJ [2,3,4,8,11,12,13,15] (fun f w=>∃ (d8:(List ((Int × Int) × Bool))),aAn d a5 b2 d8=some b7/\aD G K (iR u d8::box q 129 [i64 a.I,i64 b.I]::box c 93 [zM (some e)]::iR e d::box o 27 h::box m 27 l::L) w) ?_ ?_
    ·rintro f q3 ⟨d8,hm,f4⟩
     unfold aAn at hm
     refine aC ?_;refine aK (R_lenM runUnderlying93 f4 (i:=0) rfl rfl) (aC ?_)
     refine aK (R_lenM runUnderlying93 f4 (i:=3) rfl rfl) (aC ?_)
     rcases aG hm with ⟨i3,hm⟩|⟨i3,hm⟩
     ·exact aI
     ·exact aI
    have i4:=aD.keysM (i:=0) f3 rfl
    obtain ⟨q4,f5,hm⟩:=aB hm
    obtain ⟨f6,i5,hm⟩:=aB hm
    refine W_loopC (fun (n:Nat) f w=>∃ x a9 d9,List.Perm (x++a9) (List.map Prod.fst d)/\a9.length=n/\f 2=i64 kind/\f 3=zP (some ⟨m,0,none⟩)/\f 4=zP (some ⟨o,0,none⟩)/\f 8=zP (some ⟨c,0,none⟩)/\f 11=zP (some ⟨q,0,none⟩)/\f 12=i64 b2/\f 13=i64 a5/\f 14=zP (some ⟨y,0,none⟩)/\f 15=zM (some u)/\f 67=zP (some ⟨a6,0,none⟩)/\aD G K (iR u (aLL (gI a b kind d) ([]:(List ((Int × Int) × Bool))) true x)::box y 150 [i64 a.N,i64 a.I,zS a1 a.L.length c2,zS a4 a.E.length c5,i64 b.N,i64 b.I,zS a7 b.L.length c8,zS a10 b.E.length c11,Value.func (.func 121) #[] #[zP (some ⟨c,0,none⟩)]]::box q 129 [i64 a.I,i64 b.I]::box c 93 [zM (some e)]::mpi a6 e d a9 d9::box o 27 h::box m 27 l::L) w) (List.length (List.map Prod.fst d)) ⟨[],_,_,List.Perm.refl _,rfl,rfl,rfl,rfl,rfl,rfl,f2,f0,rfl,rfl,rfl,f3⟩ ?_ ?_
    ·rintro f f7 ⟨x,a9,d9,b3,b4,b9,c0,c1,c3,c4,c6,c7,e0,c9,b0,f8⟩
     obtain rfl:=List.length_eq_zero_iff.1 b4
     refine aC ?_;refine aK (R_nextN f8 (i:=4) rfl b0) (aC ?_)
     have i6:aD G K (iR u (aLL (gI a b kind d) ([]:(List ((Int × Int) × Bool))) true x)::box y 150 [i64 a.N,i64 a.I,zS a1 a.L.length c2,zS a4 a.E.length c5,i64 b.N,i64 b.I,zS a7 b.L.length c8,zS a10 b.E.length c11,Value.func (.func 121) #[] #[zP (some ⟨c,0,none⟩)]]::box q 129 [i64 a.I,i64 b.I]::box c 93 [zM (some e)]::iR e d::box o 27 h::box m 27 l::L) f7:=aD.endI (i:=4) f8 rfl
     have q5:aD G K (iR u f6::box y 150 [i64 a.N,i64 a.I,zS a1 a.L.length c2,zS a4 a.E.length c5,i64 b.N,i64 b.I,zS a7 b.L.length c8,zS a10 b.E.length c11,Value.func (.func 121) #[] #[zP (some ⟨c,0,none⟩)]]::box q 129 [i64 a.I,i64 b.I]::box c 93 [zM (some e)]::iR e d::box o 27 h::box m 27 l::L) f7:=aD.permM (i:=0) i6 rfl (accS_end i4 f5 i5 b3)
     refine aC ?_;exact ⟨(kpc b9 rfl (kpc c0 rfl (kpc c1 rfl (kpc c3 rfl (kpc c4 rfl (kpc c6 f2 (kpc c7 f0 (kpc c9 rfl rfl)))))))),f6,hm,oK⟩
    ·rintro j f f9 ⟨x,a9,d9,b3,b4,b9,c0,c1,c3,c4,c6,c7,e0,c9,b0,i7⟩
     have i8:a9≠[]:=by rintro rfl;cases b4
     refine aC ?_;refine WO_nextC i7 (i:=4) rfl i8 b0 ?_
     intro r d0 d1 i9 b5 q6 (j0:aD G K (iR u (aLL (gI a b kind d) ([]:(List ((Int × Int) × Bool))) true x)::box y 150 [i64 a.N,i64 a.I,zS a1 a.L.length c2,zS a4 a.E.length c5,i64 b.N,i64 b.I,zS a7 b.L.length c8,zS a10 b.E.length c11,Value.func (.func 121) #[] #[zP (some ⟨c,0,none⟩)]]::box q 129 [i64 a.I,i64 b.I]::box c 93 [zM (some e)]::mpi a6 e d d1 (some (r,d0))::box o 27 h::box m 27 l::L) i9)
     obtain ⟨j1,e1⟩:=mfil_at f5 b3 b5
     have a2:(gI a b kind d) r=some j1:=e1
     unfold gI at a2
     refine aC ?_;refine bT (aC ?_)
     refine aK (R_entry j0 (i:=4) rfl b0) (aC ?_);refine jH fun j2 q7 q8=>?_
     refine kM fun q9 j3=>?_;refine aC ?_
     refine aK (R_ixP (t':=0) (j:=0) aEF rfl rfl (by decide) (by decide) rfl) (aC ?_);refine aK (R_ixP (t':=1) (j:=1) aEF rfl rfl (by decide) (by decide) rfl) (aC ?_)
     obtain ⟨r0,d2,j4,j5,j6⟩:=aD.lendI (i:=5) j3 rfl
     obtain ⟨r1,b6,j7,j8,j9⟩:=aD.lendBp j5 zt4
     obtain ⟨r2,k0,a2⟩:=aB a2
     refine bP call122 (uX (r_a:=⟨a.N,a.I,a.L,a.E⟩) (r_b:=⟨b.N,b.I,b.L,b.E⟩) k0 j8 (h3.mono (zL d2 b6)) (h6.mono (zL d2 b6)) (h9.mono (zL d2 b6)) (e8.mono (zL d2 b6)) j7 (j4.mono b6)) ?_
     rintro _ f9 ⟨rfl,k1⟩
     have k2:=j9 _ _ k1
     have k3:=j6 _ _ k2
     refine aC ?_
     rcases aG a2 with ⟨k4,a2⟩|⟨k4,a2⟩
     ·refine aC ?_;refine aGx (i:=3) (k:=r) (v:=true) runUnderlying93 aGd k3 rfl rfl rfl rfl rfl ?_
      intro g0 (r3:aD G K (mpi a6 e d d1 (some (r,d0))::box c 93 [zM (some e)]::box j2 129 [i64 r.1,i64 r.2]::iR u (vN (aLL (gI a b kind d) ([]:(List ((Int × Int) × Bool))) true x) r true)::box y 150 [i64 a.N,i64 a.I,zS a1 a.L.length c2,zS a4 a.E.length c5,i64 b.N,i64 b.I,zS a7 b.L.length c8,zS a10 b.E.length c11,Value.func (.func 121) #[] #[zP (some ⟨c,0,none⟩)]]::box q 129 [i64 a.I,i64 b.I]::box o 27 h::box m 27 l::L) g0)
      refine aC ?_;obtain rfl:=zI a2
      have k5:aD G K (iR u (aLL (gI a b kind d) ([]:(List ((Int × Int) × Bool))) true (x++[r]))::box y 150 [i64 a.N,i64 a.I,zS a1 a.L.length c2,zS a4 a.E.length c5,i64 b.N,i64 b.I,zS a7 b.L.length c8,zS a10 b.E.length c11,Value.func (.func 121) #[] #[zP (some ⟨c,0,none⟩)]]::box q 129 [i64 a.I,i64 b.I]::box c 93 [zM (some e)]::mpi a6 e d d1 (some (r,d0))::box o 27 h::box m 27 l::L) g0:=by rw [accS_t e1];exact oK
      exact ⟨x++[r],_,_,aPw b3 b5,aRL b5 b4,b9,c0,c1,c3,c4,c6,c7,e0,c9,b0,k5⟩
     ·refine aC ?_;obtain rfl:=zI a2
      have k6:aD G K (iR u (aLL (gI a b kind d) ([]:(List ((Int × Int) × Bool))) true (x++[r]))::box y 150 [i64 a.N,i64 a.I,zS a1 a.L.length c2,zS a4 a.E.length c5,i64 b.N,i64 b.I,zS a7 b.L.length c8,zS a10 b.E.length c11,Value.func (.func 121) #[] #[zP (some ⟨c,0,none⟩)]]::box q 129 [i64 a.I,i64 b.I]::box c 93 [zM (some e)]::mpi a6 e d d1 (some (r,d0))::box o 27 h::box m 27 l::L) f9:=by rw [accS_f e1];exact oK
      exact ⟨x++[r],_,_,aPw b3 b5,aRL b5 b4,b9,c0,c1,c3,c4,c6,c7,e0,c9,b0,k6⟩
   iterate 1 refine eU ?_
   refine bG [2,3,4,8,11,12,13] (fun f w=>∃ g1,qD a b kind d d5 a5 g1=some b7/\f 59=zB g1/\aD G K (box q 129 [i64 a.I,i64 b.I]::box c 93 [zM (some e)]::iR e d::box o 27 h::box m 27 l::L) w) aI (aC ?_)
   rcases aG hm with ⟨k7,hm⟩|⟨k7,hm⟩
   ·refine aC ?_;refine aK (aKQ (kv:=d) (k:=⟨a.I,b.I⟩) (z:=(false:Bool)) runUnderlying93 aGd zeroValue4 f1 (i:=2) rfl rfl rfl) (aC ?_)
    exact ⟨aU,!((mW d ⟨a.I,b.I⟩).getD false),hm,rfl,f1⟩
   ·exact aI
 obtain ⟨r4,k8,ho⟩:=aB hm
 refine aY [2,3,4,8,19] k8 (fun g2 V f w=>f 20=i64 V/\aD G K (box c 93 [zM (some p)]::iR p g2::box o 27 h::box m 27 l::L) w) aI ?_
 ·rintro g2 V g3 f r5 hm hr ⟨r6,r7⟩
  unfold mG at hm
  refine aC ?_
  rcases aG hm with ⟨k9,hm⟩|⟨k9,hm⟩
  ·refine aC ?_;refine aJ [2,3,4,8,19,20] (fun f w=>∃ (e2:(List ((Int × Int) × Bool))),aAp V e2=some g3/\aD G K (box c 93 [zM (some p)]::iR p e2::box o 27 h::box m 27 l::L) w) ?_ ?_
   ·rintro f r8 ⟨e2,hm,l0⟩
    unfold aAp at hm
    refine aC ?_;exact ⟨_,(zI hm).symm,aU,rfl,l0⟩
   refine aC ?_;refine aJ [2,3,4,8,19,20] (fun f w=>∃ (g4:(List ((Int × Int) × Bool))),aDL V g4=some g3/\aD G K (box c 93 [zM (some p)]::iR p g4::box o 27 h::box m 27 l::L) w) aI ?_
   obtain ⟨r9,l1,ho⟩:=aB hm
   refine aY [2,3,4,8,9,19,20,24] l1 (fun d3 a3 f w=>f 25=i64 a3/\aD G K (box c 93 [zM (some p)]::iR p d3::box o 27 h::box m 27 l::L) w) aI ?_
   ·rintro d3 a3 g5 f s0 hm hr ⟨s1,l2⟩
    unfold mE at hm
    refine aC ?_
    rcases aG hm with ⟨l3,hm⟩|⟨l3,hm⟩
    ·refine aC ?_;refine aJ [2,3,4,8,9,19,20,24,25] (fun f w=>∃ (e3:(List ((Int × Int) × Bool))),sJ a3 e3=some g5/\aD G K (box c 93 [zM (some p)]::iR p e3::box o 27 h::box m 27 l::L) w) ?_ ?_
     ·rintro f s2 ⟨e3,hm,l4⟩
      unfold sJ at hm
      refine aC ?_;exact ⟨_,(zI hm).symm,aU,rfl,l4⟩
     refine aC ?_;refine bG [2,3,4,8,9,10,19,20,24,25] (fun f w=>∃ e4,oX V d3 a3 e4=some g5/\f 38=zB e4/\aD G K (box c 93 [zM (some p)]::iR p d3::box o 27 h::box m 27 l::L) w) ?_ ?_
     ·rintro f s3 ⟨e4,hm,s4,l5⟩
      unfold oX at hm
      refine aC ?_
      rcases aG hm with ⟨l6,hm⟩|⟨l6,hm⟩
      ·refine aC ?_;refine aK (aBu (vs:=[(0,i64 V),(1,i64 a3)]) (cs:=[i64 V,i64 a3]) aEF aHr rfl (by kernel_rfl)) ?_
       obtain ⟨g6,l7,hm⟩:=aB hm
       refine aGx (i:=1) (k:=⟨V,a3⟩) (v:=true) runUnderlying93 aGd l5 rfl rfl rfl rfl l7 (fun l8 (l9:aD G K (box c 93 [zM (some p)]::iR p g6::box o 27 h::box m 27 l::L) l8)=>(aC ?_));exact ⟨aU,g6,hm,l9⟩
      ·exact aI
     obtain ⟨s5,b1,m0,m1,g7⟩:=aD.lendBp l2 zt2
     obtain ⟨s6,a8,m2,s7,g8⟩:=aD.lendBp m1 zt2
     refine aBr [(0,0),(1,0),(2,0),(3,0),(4,0),(6,0),(7,0),(5,1),(8,1),(9,1),(10,0)] fun s8 Z=>?_;refine aC ?_
     rcases aG hm with ⟨a0,hm⟩|⟨a0,hm⟩
     ·refine aAD rfl rfl rfl (aEA a0) (aAD rfl rfl rfl (aEA a0) (aAD rfl rfl rfl (aEA a0) (aAD rfl rfl rfl (aEA a0) (lV rfl ?_))))
      iterate 1 refine eU ?_
      refine aM (aF ⟨⟨_,Z⟩,?_⟩)
      refine lV rfl ?_
      iterate 1 refine eU ?_
      refine aM (aF ⟨⟨_,Z⟩,?_⟩)
      refine lV rfl ?_
      iterate 1 refine eU ?_
      refine aM (aF ⟨⟨_,Z⟩,?_⟩)
      refine aC ?_;refine tS ?_
      have m3:=g8 _ _ Z
      have s9:=g7 _ _ m3
      exact aI
     ·refine aEB rfl rfl rfl (yQ a0) (fun _ ⟨_,Z⟩=>jR (t:=0) (vs:=l) fF Z m2 rfl rfl rfl) (aEB rfl rfl rfl (yQ a0) (fun _ _=>bW (v:=i64 V) rfl) (aEB rfl rfl rfl (yQ a0) (fun _ ⟨_,Z⟩=>jR (t:=0) (vs:=h) fF Z (m0.mono a8) rfl rfl rfl) (aEB rfl rfl rfl (yQ a0) (fun _ _=>bW (v:=i64 a3) rfl) (lV rfl (aC ?_)))));obtain ⟨t0,m4,hm⟩:=aB hm
      refine bP call65 (gC m4 Z (h3.mono (zL b1 a8)) (h6.mono (zL b1 a8))) ?_
      rintro _ t1 ⟨t2,t3,rfl,g9⟩
      refine aM (aF ⟨⟨_,g9⟩,?_⟩)
      refine lV rfl (aC ?_);obtain ⟨t4,m5,hm⟩:=aB hm
      refine bP call65 (gC m5 g9 (h9.mono (zL b1 a8)) (e8.mono (zL b1 a8))) ?_
      rintro _ t5 ⟨t6,t7,rfl,h0⟩
      refine aM (aF ⟨⟨_,h0⟩,?_⟩)
      refine lV rfl (aC ?_);obtain ⟨t8,m6,m7,m8,m9⟩:=aD.lendSp h0 (zL b1 a8) zt1
      obtain ⟨t9,n0,n1,n2,n3⟩:=aD.lendSp m8 (zL (zL b1 a8) m6) .head
      obtain ⟨u0,n4,hm⟩:=aB hm
      refine bP call120 (iZ n4 n2 (m7.mono n0) n1) ?_
      rintro _ u1 ⟨rfl,n5⟩
      have n6:=n3 _ _ n5
      have h1:=m9 _ _ n6
      refine aM (aF ⟨⟨_,h1⟩,?_⟩)
      refine aC ?_;refine tS ?_
      have n7:=g8 _ _ h1
      have u2:=g7 _ _ n7
      exact aI
    ·exact aI
  ·exact aI
theorem aLU {a b:aO} {kind:Int} {R:Bool} (hm:aFG a b kind=some R) (c:aD G K (L) w) (d:aT K a1 c2 a.L) (e:aT K a4 c5 a.E) (g:aT K a7 c8 b.L) (h:aT K a10 c11 b.E):
  Calls prog 29 ([zA (zCa a a1 c2 a4 c5),zA (zCa b a7 c8 a10 c11),i64 kind]:List Value).toArray w (dO fun v w'=>v=zB R/\aD G K (L) w'):=by
 exact aI
theorem aGP {a b:aO} {kind:Int} {R:(Bool × Int)} (hm:aAZ a b kind=some R) (q:aD G K (L) w) (d:G.lo=0) (e:aT K a1 c2 a.L) (g:aT K a4 c5 a.E) (h:aT K a7 c8 b.L) (i:aT K a10 c11 b.E):
  Calls prog 11 ([zA (zCa a a1 c2 a4 c5),zA (zCa b a7 c8 a10 c11),i64 kind]:List Value).toArray w (dO fun v w'=>v=Value.tuple #[zB R.1,i64 R.2]/\aD G K (L) w'):=by
 refine cA func11 ?_;unfold aAZ at hm
 refine aC ?_;refine kN fun r t u=>?_
 refine kN fun x y j=>?_;refine aC ?_
 obtain ⟨z,k,hm⟩:=aB hm
 refine bP call28 (aCp k j d e g h i) ?_
 rintro _ V ⟨rfl,Z⟩
 refine aC ?_
 rcases aG hm with ⟨l,hm⟩|⟨l,hm⟩
 ·exact aI
 ·iterate 4 refine eU ?_
  refine bG [] (fun f w=>∃ c,wI c=some R/\f 6=zB c/\f 7=i64 0/\aD G K (L) w) ?_ ?_
  ·rintro f a0 ⟨c,hm,m,n,o⟩
   unfold wI at hm
   refine aC ?_;obtain rfl:=zI hm
   exact kQ (aNu results11 rfl rfl ⟨(tp2 m n),o⟩)
  exact aI
theorem aIC {a:(List UInt8)} {R:Bool} (hm:aLQ a=some R) (b:aD G K (L) w) (c:aT K a1 c2 a):
  Calls prog 4 ([zS a1 a.length c2]:List Value).toArray w (dO fun v w'=>v=zB R/\aD G K (L) w'):=by
 exact aI
theorem aID {a:(List UInt8)} {R:(Int × Int)} (hm:aLR a=some R) (c:aD G K (L) w) (d:aT K a1 c2 a):
  Calls prog 12 ([zS a1 a.length c2]:List Value).toArray w (dO fun v w'=>∃ b,v=zP (some ⟨b,0,none⟩)/\aD G K (box b 59 [zS a1 a.length c2,i64 R.1,Value.int .u64 R.2]::L) w'):=by
 exact aI
end Gv
