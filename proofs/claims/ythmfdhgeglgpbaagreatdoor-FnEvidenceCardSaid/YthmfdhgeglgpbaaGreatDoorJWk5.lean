/- Walks, printed by program. -/
import Derived.Test.YthmfdhgeglgpbaaGreatDoorJWk3
set_option linter.all false
namespace Gv
open Gv.Hp renaming le_refl→zR
open Go.Value renaming slice→zS,bool→zB,agg→zA
open Option.some renaming inj→zI
open Go Go.Proofs Go.Proofs.Tryz
set_option maxRecDepth 20000
set_option maxHeartbeats 40000000
variable {G:rT} {K:Hp} {L:List fM} {w:World} {a1 a4 a7 a2 a10:Option Addr} {c2 c5 c8 b1 c3 c11:Nat}
theorem tM {n:aT} {R:Bool} (hm:kO n=some R) (b:aF G K (L) w):
  Calls prog 54 ([zA #[i64 n.Kind,i64 n.Variable,str n.B,zB n.Not]]:List Value).toArray w (dL fun v w'=>v=zB R/\aF G K (L) w'):=by
 refine aBM func54 ?_;unfold kO at hm
 refine aAW ?_;refine aGg fun c d e=>?_
 iterate 4 refine aBh ?_
 exact bD [] (fun f w=>∃ a,qJ a=some R/\f 2=zB a/\aF G K (L) w) aN aN
theorem wU {a b:aJ} {R:(aJ × Bool)} (hm:kP a b=some R) (c:aF G K (L) w):
  Calls prog 162 ([str a,str b]:List Value).toArray w (dL fun v w'=>v=Value.tuple #[str R.1,zB R.2]/\aF G K (L) w'):=by
 exact aN
theorem rH {a b:aJ} {R:(aJ × Bool)} (hm:jA a b=some R) (c:aF G K (L) w):
  Calls prog 99 ([str a,str b]:List Value).toArray w (dL fun v w'=>v=Value.tuple #[str R.1,zB R.2]/\aF G K (L) w'):=by
 exact aN
theorem aLl {a:aJ} {R:Bool} (hm:sT a=some R) (c:aF G K (L) w) (e:G.lo=0):
  Calls prog 181 ([str a]:List Value).toArray w (dL fun v w'=>v=zB R/\aF G K (L) w'):=by
 refine aBM func181 ?_;unfold sT at hm
 refine aAW ?_;obtain ⟨g,d,hm⟩:=aB hm
 refine aAZ call99 (rH d c) ?_
 rintro _ h ⟨rfl,i⟩
 iterate 8 refine aBh ?_
 exact bD [] (fun f w=>∃ b,pF b=some R/\f 2=zB b/\aF G K (L) w) aN aN
theorem aIj {n:aT} {R:Bool} (hm:nM n=some R) (e:aF G K (L) w) (g:G.lo=0):
  Calls prog 121 ([zA #[i64 n.Kind,i64 n.Variable,str n.B,zB n.Not]]:List Value).toArray w (dL fun v w'=>v=zB R/\aF G K (L) w'):=by
 refine aBM func121 ?_;unfold nM at hm
 refine aAW ?_;refine aGg fun h i b=>?_
 refine aAW ?_;obtain ⟨j,c,hm⟩:=aB hm
 refine aAZ call54 (tM c b) ?_
 rintro _ k ⟨rfl,l⟩
 refine aAW ?_
 rcases aM hm with ⟨d,hm⟩|⟨d,hm⟩
 ·exact aN
 ·iterate 4 refine aBh ?_
  exact bD [] (fun f w=>∃ a,tD a=some R/\f 2=zB a/\aF G K (L) w) aN aN
theorem aCG {n:aT} {R:Bool} (hm:kQ n=some R) (b:aF G K (L) w):
  Calls prog 134 ([zA #[i64 n.Kind,i64 n.Variable,str n.B,zB n.Not]]:List Value).toArray w (dL fun v w'=>v=zB R/\aF G K (L) w'):=by
 refine aBM func134 ?_;unfold kQ at hm
 refine aAW ?_;refine aGg fun c d e=>?_
 iterate 4 refine aBh ?_
 exact bD [] (fun f w=>∃ a,uY a=some R/\f 2=zB a/\aF G K (L) w) aN aN
theorem aJa {n:aT} {R:Bool} (hm:sC n=some R) (c:aF G K (L) w):
  Calls prog 122 ([zA #[i64 n.Kind,i64 n.Variable,str n.B,zB n.Not]]:List Value).toArray w (dL fun v w'=>v=zB R/\aF G K (L) w'):=by
 refine aBM func122 ?_;unfold sC at hm
 refine aAW ?_;refine aGg fun b d e=>?_
 iterate 5 refine aBh ?_
 exact bD [1] (fun f w=>∃ a,qK n a=some R/\f 9=zB a/\aF G K (box b 45 [i64 n.Kind,i64 n.Variable,str n.B,zB n.Not]::L) w) aN aN
theorem aKD {a:(List aT)} {k R:Int} (hm:mH a k=some R) (g:aF G K (L) w) (h:bI K a1 c2 a):
  Calls prog 182 ([zS a1 a.length c2,i64 k]:List Value).toArray w (dL fun v w'=>v=i64 R/\aF G K (L) w'):=by
 refine aBM func182 ?_;unfold mH at hm
 refine aAW ?_;refine aS [] (fun f w=>∃ b,aCq b=some R/\f 1=i64 b/\aF G K (L) w) aN ?_
 obtain ⟨i,c,ho⟩:=aB hm
 exact bN [0] c (fun d e f w=>f 1=i64 d/\f 5=i64 e/\aF G K (L) w) aN aN
theorem aJr {a:(List aT)} {k R:Int} (hm:sD a k=some R) (h:aF G K (L) w) (i:bI K a1 c2 a):
  Calls prog 123 ([zS a1 a.length c2,i64 k]:List Value).toArray w (dL fun v w'=>v=i64 R/\aF G K (L) w'):=by
 refine aBM func123 ?_;unfold sD at hm
 refine aAW ?_;refine aS [] (fun f w=>aLJ=some R/\aF G K (L) w) aN ?_
 obtain ⟨j,d,ho⟩:=aB hm
 refine eK [0,1] d (fun b f w=>f 5=i64 b/\aF G K (L) w) aN ?_
 ·rintro b e f l hm hr ⟨m,n⟩
  unfold fB at hm
  refine aAW ?_
  rcases aM hm with ⟨g,hm⟩|⟨g,hm⟩
  ·refine aAW ?_;refine bZ (aAW ?_)
   exact bD [0,1,5] (fun f w=>∃ c,oE b c=some e/\f 36=zB c/\aF G K (L) w) aN aN
  ·exact aN
theorem aJb {a:(List aT)} {R:Bool} (hm:pG a=some R) (m:aF G K (L) w) (n:G.lo=0) (e:bI K a1 c2 a):
  Calls prog 72 ([zS a1 a.length c2]:List Value).toArray w (dL fun v w'=>v=zB R/\aF G K (L) w'):=by
 refine aBM func72 ?_;unfold pG at hm
 iterate 7 refine aBh ?_
 refine bD [0] (fun f w=>∃ b,qL a b=some R/\f 13=zB b/\aF G K (L) w) ?_ ?_
 ·rintro f o ⟨b,hm,p,q⟩
  unfold qL at hm
  refine aAW ?_
  rcases aM hm with ⟨g,hm⟩|⟨g,hm⟩
  ·exact aN
  ·refine aAW ?_;refine aS [] (fun f w=>aEN=some R/\aF G K (L) w) aN ?_
   obtain ⟨r,h,ho⟩:=aB hm
   refine eK [0,14,15] h (fun c f w=>f 16=i64 c/\aF G K (L) w) aN ?_
   ·rintro c i f t hm hr ⟨u,x⟩
    unfold jF at hm
    refine aAW ?_
    rcases aM hm with ⟨j,hm⟩|⟨j,hm⟩
    ·refine aAW ?_;refine bZ (aAW ?_)
     obtain ⟨y,k,hm⟩:=aB hm
     refine aAW ?_;obtain ⟨z,J,l⟩:=bI.el (sz:=4) rfl e k
     cases l
     refine aAW ?_;refine aEx fun Z a0 a2=>?_
     refine aAW ?_;refine aFy fun a3 a4=>?_
     iterate 3 refine aBh ?_
     exact bD [0,14,15,16] (fun f w=>∃ d,jE c d=some i/\f 45=zB d/\aF G K (L) w) aN aN
    ·exact aN
 exact aN
theorem aBc {a:(List aT)} {R:Bool} (hm:aBr a=some R) (b:aF G K (L) w) (c:G.lo=0) (d:bI K a1 c2 a):
  Calls prog 71 ([zS a1 a.length c2]:List Value).toArray w (dL fun v w'=>v=zB R/\aF G K (L) w'):=by
 exact aN
theorem pJ {a:(List (List aT))} {R:Int} (hm:cX a=some R) (p:aF G K (L) w) (g:G.lo=0) (h:bI K a1 c2 a):
  Calls prog 119 ([zS a1 a.length c2,Value.func (.func 71) #[] #[]]:List Value).toArray w (dL fun v w'=>v=i64 R/\aF G K (L) w'):=by
 refine aBM func119 ?_;unfold cX at hm
 refine aAW ?_;refine aS [] (fun f w=>iX=some R/\aF G K (L) w) aN ?_
 obtain ⟨q,i,ho⟩:=aB hm
 refine eK [0,1,7] i (fun b f w=>f 8=i64 b/\aF G K (L) w) aN ?_
 ·rintro b r f t hm hr ⟨u,j⟩
  unfold cD at hm
  refine aAW ?_
  rcases aM hm with ⟨k,hm⟩|⟨k,hm⟩
  ·refine aAW ?_;refine bZ (aAW ?_)
   obtain ⟨c,l,hm⟩:=aB hm
   refine aAW ?_;obtain ⟨x,y,m⟩:=bI.el (sz:=1) rfl h l
   obtain ⟨d,e,rfl,n⟩:=m
   refine aAW ?_;obtain ⟨z,o,hm⟩:=aB hm
   exact nT (vs:=[zS d c.length e]) (caps:=[]) (us:=[zS d c.length e]) rfl call71 rfl rfl (aBc o j g n) aN
  ·exact aN
theorem oB {a:(List (List aT))} {R:Bool} (hm:eY a=some R) (b:aF G K (L) w) (c:G.lo=0) (d:bI K a1 c2 a):
  Calls prog 70 ([zS a1 a.length c2,Value.func (.func 71) #[] #[]]:List Value).toArray w (dL fun v w'=>v=zB R/\aF G K (L) w'):=by
 exact aN
theorem zD {t:cN} {a:(List (List aT))} {R:Int} (hm:uJ t a=some R) (c:aF G K (L) w) (d:G.lo=0) (e:bI K a1 c2 t.L) (g:bI K a4 c5 t.E) (h:bI K a7 c8 a):
  Calls prog 24 ([zA (zCa t a1 c2 a4 c5),zS a7 a.length c8]:List Value).toArray w (dL fun v w'=>v=i64 R/\aF G K (L) w'):=by
 refine aBM func24 ?_;unfold uJ at hm
 refine aAW ?_;refine aGg fun i j k=>?_
 iterate 5 refine aBh ?_
 exact bD [] (fun f w=>∃ b,aBs b=some R/\f 11=zB b/\aF G K (L) w) aN aN
theorem aLm {a R:aJ} (hm:aEO a=some R) (b:aF G K (L) w) (c:G.lo=0):
  Calls prog 100 ([str a]:List Value).toArray w (dL fun v w'=>v=str R/\aF G K (L) w'):=by
 exact aN
theorem aCH {n:aT} {a:aJ} {R:Bool} (hm:iF n a=some R) (g:aF G K (L) w) (h:G.lo=0):
  Calls prog 57 ([zA #[i64 n.Kind,i64 n.Variable,str n.B,zB n.Not],str a]:List Value).toArray w (dL fun v w'=>v=zB R/\aF G K (L) w'):=by
 refine aBM func57 ?_;unfold iF at hm
 refine aAW ?_;refine aGg fun c i d=>?_
 refine aAW ?_;obtain ⟨j,e,hm⟩:=aB hm
 refine aAZ call99 (rH e d) ?_
 rintro _ k ⟨rfl,l⟩
 iterate 8 refine aBh ?_
 exact bD [2] (fun f w=>∃ b,kR n b=some R/\f 7=zB b/\aF G K (box c 45 [i64 n.Kind,i64 n.Variable,str n.B,zB n.Not]::L) w) aN aN
theorem mM {is:Bool} {R:Int} (hm:yG is=some R) (a:aF G K (L) w):
  Calls prog 88 ([zB is]:List Value).toArray w (dL fun v w'=>v=i64 R/\aF G K (L) w'):=by
 exact aN
theorem aEV {a:(List aT)} {k:Int} {R:(List Int)} (hm:jM a k=some R) (l:aF G K (L) w) (m:bI K a1 c2 a):
  Calls prog 131 ([zS a1 a.length c2,i64 k]:List Value).toArray w (dL fun v w'=>∃ c d,v=zS c R.length d/\aF G K (own 3 K c d R::L) w'):=by
 refine aBM func131 ?_;unfold jM at hm
 refine aAW ?_;obtain ⟨x,n,hm⟩:=aB hm
 refine aAW ?_;obtain ⟨y,z,o⟩:=bI.el (sz:=4) rfl m n
 cases o
 refine aAW ?_;obtain ⟨J,p,hm⟩:=aB hm
 refine aAZ call180 (aCh p l) ?_
 rintro _ Z ⟨rfl,q⟩
 refine aAW ?_;refine aS [] (fun f w=>∃ b e g,aGV b=some R/\f 5=zS e b.length g/\aF G K (own 3 K e g b::L) w) aN ?_
 have a0:=aF.nil (α:=Int) q 3 K
 obtain ⟨a2,r,ho⟩:=aB hm
 exact lR [0,13] r (fun h t u f w=>∃ i j,f 5=zS i h.length j/\f 6=i64 t/\f 14=i64 u/\aF G K (own 3 K i j h::L) w) aN aN
theorem aIk {t:cN} {k:Int} {R:(List Edge)} (hm:aFP t k=some R) (y:aF G K (L) w) (z:bI K a1 c2 t.L) (J:bI K a4 c5 t.E):
  Calls prog 133 ([zA (zCa t a1 c2 a4 c5),i64 k]:List Value).toArray w (dL fun v w'=>∃ j l,v=zS j R.length l/\aF G K (own 68 K j l R::L) w'):=by
 refine aBM func133 ?_;unfold aFP at hm
 refine aAW ?_;refine aGg fun Z w8 o=>?_
 refine aAW ?_;refine aS [] (fun f w=>∃ d m n,aGy d=some R/\f 5=zS m d.length n/\aF G K (own 68 K m n d::L) w) aN ?_
 have a2:=aF.nil (α:=Edge) o 68 K
 obtain ⟨a3,p,ho⟩:=aB hm
 refine bN [1,9,10] p (fun e g f w=>∃ h i,f 5=zS h e.length i/\f 11=i64 g/\aF G K (own 68 K h i e::L) w) aN ?_
 ·rintro e g q f a5 hm hr ⟨h,i,a6,a7,a8⟩
  unfold aAB at hm
  refine aAW ?_
  rcases aM hm with ⟨r,hm⟩|⟨r,hm⟩
  ·refine aAW ?_;refine aS [1,9,10,11] (fun f w=>∃ a b c,aAA g a=some q/\f 5=zS b a.length c/\aF G K (own 68 K b c a::L) w) ?_ ?_
   ·rintro f a9 ⟨a,b,c,hm,u,x⟩
    unfold aAA at hm
    refine aAW ?_;exact ⟨_,(zI hm).symm,bG,b,c,u,rfl,x⟩
   exact aN
  ·exact aN
theorem aIl {b:(List aT)} {k R:Int} (hm:aAc b k=some R) (n:aF G K (L) w) (o:bI K a1 c2 b):
  Calls prog 135 ([zS a1 b.length c2,i64 k]:List Value).toArray w (dL fun v w'=>v=i64 R/\aF G K (L) w'):=by
 refine aBM func135 ?_;unfold aAc at hm
 refine aAW ?_;refine aS [] (fun f w=>∃ e,aKs e=some R/\f 5=i64 e/\aF G K (L) w) aN ?_
 obtain ⟨p,i,ho⟩:=aB hm
 refine bN [0,1,7] i (fun c a f w=>f 5=i64 c/\f 8=i64 a/\aF G K (L) w) aN ?_
 ·rintro c a g f q hm hr ⟨r,t,u⟩
  unfold gT at hm
  refine aAW ?_
  rcases aM hm with ⟨j,hm⟩|⟨j,hm⟩
  ·refine aAW ?_;refine aS [0,1,7,8] (fun f w=>∃ d,wP a d=some g/\f 5=i64 d/\aF G K (L) w) ?_ ?_
   ·rintro f x ⟨d,hm,l,m⟩
    unfold wP at hm
    refine aAW ?_;exact ⟨_,(zI hm).symm,bG,l,rfl,m⟩
   iterate 7 refine aBh ?_
   exact bD [0,1,5,7,8] (fun f w=>∃ h,tE c a h=some g/\f 22=zB h/\aF G K (L) w) aN aN
  ·exact aN
theorem dK {a R:(List Int)} (hm:bL a=some R) (t:aF G K (L) w) (b:bI K a1 c2 a):
  Calls prog 52 ([zS a1 a.length c2]:List Value).toArray w (dL fun v w'=>∃ c d,v=zS c R.length d/\aF G K (own 2 K c d R::L) w'):=by
 refine aBM func52 ?_;unfold bL at hm
 iterate 9 refine aBh ?_
 refine aD (aIF bF rfl rfl) (aAW ?_)
 rcases aFD b with ⟨h,j,k⟩|l
 ·subst h;subst j;subst k
  refine aHt rfl ?_
  replace hm:(some [])=some R:=hm
  exact aN
 ·refine aHu (Eq.trans rfl (congrArg zB l)) (aAW ?_);refine aCp ([]:List Int) fun u x m=>?_
  refine aAW ?_;obtain ⟨n,o,hm⟩:=aB hm
  refine aFg (i:=0) bF underlying88 jV rfl rfl m rfl (Hp.le_refl _) b o rfl rfl rfl rfl (fun e g p (q:aF G K (own 2 K e g n::L) p)=>(aAW ?_));obtain rfl:=zI hm
  exact aOM results52 ⟨e,g,rfl,q⟩
theorem oC {a R:(List Int)} (hm:fG a=some R) (hs:aF G K (own 2 K a1 c2 a::L) w):
  Calls prog 192 ([zS a1 a.length c2]:List Value).toArray w (dL fun v w'=>∃ u x,v=zS u R.length x/\aF G K (own 2 K u x R::L) w'):=by
 refine aBM func192 ?_;unfold fG at hm
 refine aAW ?_
 rcases aM hm with ⟨c3,hm⟩|⟨c3,hm⟩
 ·exact aN
 ·refine aAW ?_;refine aS [0] (fun f w=>pH a=some R/\aF G K (own 2 K a1 c2 a::L) w) aN ?_
  obtain ⟨e4,b6,ho⟩:=aB hm
  refine eK [0] b6 (fun c f w=>f 3=i64 c/\aF G K (own 2 K a1 c2 a::L) w) aN ?_
  ·rintro c y f e5 hm hr ⟨e6,m⟩
   unfold eO at hm
   refine aAW ?_
   rcases aM hm with ⟨b7,hm⟩|⟨b7,hm⟩
   ·refine aAW ?_;refine aS [0] (fun f w=>gB c=some y/\f 3=i64 c/\aF G K (own 2 K a1 c2 a::L) w) ?_ ?_
    ·rintro f e7 ⟨hm,e8,b8⟩
     unfold gB at hm
     refine aAW ?_;exact ⟨_,(zI hm).symm,bG,rfl,b8⟩
    refine aAW ?_;refine aOY ?_
    refine aAW ?_;obtain ⟨e9,z,hm⟩:=aB hm
    have b:=bM m (i:=0) rfl z
    refine cW (fun _ m=>cB bF rfl b rfl rfl rfl z) (aAW ?_);obtain ⟨f0,b9,hm⟩:=aB hm
    refine cW (fun _ m=>cB bF rfl b rfl rfl rfl b9) (aAW ?_);refine aAm (fun f1 c0=>(aAW ?_))
    rcases aM hm with ⟨c1,hm⟩|⟨c1,hm⟩
    ·refine aAW ?_;obtain ⟨f2,d,hm⟩:=aB hm
     have e:=qA c0 (i:=0) rfl
     obtain ⟨f3,f4,g⟩:=Cut.ex 1 a1 c2 c
     refine aD (aHE bF e g rfl rfl rfl d) (aAW ?_);refine aS [] (fun f w=>∃ j k,gC j k=some y/\f 0=zS a1 j.length c2/\f 3=i64 k/\aF G K (own 2 K a1 c2 j::L) w) ?_ ?_
     ·rintro f f5 ⟨j,k,hm,c4,f6,J⟩
      unfold gC at hm
      refine aAW ?_;obtain ⟨f7,c5,hm⟩:=aB hm
      have c6:=qA J (i:=0) rfl
      obtain ⟨f8,f9,Z⟩:=Cut.ex 1 a1 c2 k
      refine aD (aHE bF c6 Z rfl rfl rfl c5) ?_;obtain ⟨a0,a2,hm⟩:=aB hm
      refine aID bF jV rfl J (i:=0) rfl Z rfl rfl a2 (fun a3 (a4:aF G K (own 2 K a1 c2 a0::L) a3)=>?_)
      iterate 4 refine aBh ?_
      refine bA (v:=zS a1 a0.length c2) (Eq.trans c4 (congrArg (fun n=>zS a1 n c2) (aGi a2))) (aAW ?_);obtain ⟨a5,a6,hm⟩:=aB hm
      have c7:=qA a4 (i:=0) rfl
      obtain ⟨c8,c9,a7⟩:=Cut.ex 1 a1 c2 0
      refine aD (aKV bF c7 a7 rfl rfl rfl a6) (aAW ?_);refine nD (aHv (kJ (kJ (kJ ?_))))
      have d0:=hr _ (zI hm).symm
      subst d0
      have hm:(some a5)=some R:=ho
      clear hr ho
      have g0:aF G K (own 2 K c8 c9 a5::L) a3:=aF.cutP a4 (i:=0) rfl a6 a7
      exact aN
     obtain ⟨g1,d1,ho⟩:=aB hm
     refine lR [4] d1 (fun o p q f w=>f 0=zS a1 o.length c2/\f 3=i64 p/\f 5=i64 q/\aF G K (own 2 K a1 c2 o::L) w) aN ?_
     ·rintro o p q d2 f g2 hm hr ⟨d3,g3,g4,a8⟩
      unfold eN at hm
      refine aAW ?_
      rcases aM hm with ⟨d4,hm⟩|⟨d4,hm⟩
      ·refine aAW ?_;refine aS [4,5] (fun f w=>∃ l r,eM q l r=some d2/\f 0=zS a1 l.length c2/\f 3=i64 r/\aF G K (own 2 K a1 c2 l::L) w) ?_ ?_
       ·rintro f g5 ⟨l,r,hm,d5,d6,d7⟩
        unfold eM at hm
        refine aAW ?_;exact ⟨_,(zI hm).symm,bG,d5,d6,rfl,d7⟩
       refine aAW ?_;refine aOY ?_
       refine aAW ?_;obtain ⟨g6,a9,hm⟩:=aB hm
       obtain ⟨b0,d8,hm⟩:=aB hm
       refine cW (fun _ a8=>aOz bF b g d e rfl rfl rfl a9 rfl) (aAW ?_);obtain ⟨g7,d9,hm⟩:=aB hm
       obtain ⟨g8,g9,hm⟩:=aB hm
       refine cW (fun _ a8=>aOz bF b g d e rfl rfl rfl d9 rfl) (aAW ?_);refine aAm (fun h0 b1=>(aAW ?_))
       rcases aM hm with ⟨e0,hm⟩|⟨e0,hm⟩
       ·refine aAW ?_;refine aD (aOz bF b g d e rfl rfl rfl a9 rfl) (aD (lH (t:=0) dJ b1 (i:=0) rfl d8 rfl rfl rfl) ?_)
        obtain ⟨h1,b2,hm⟩:=aB hm
        refine aD (cB bF rfl b rfl rfl rfl b2) ?_;obtain ⟨b3,b4,hm⟩:=aB hm
        refine eC (i:=0) (t:=0) (ns:=[i64 b0]) (e':=(b0:Int)) sizeOf2 b1 rfl (Hp.le_refl _) rfl rfl rfl b2 b4 rfl rfl (eB rfl) rfl (fun cs h=>by cases h;rfl) (fun e1 (e2:aF G K (own 2 K a1 c2 b3::L) e1)=>(aAW ?_));exact ⟨bG,b3,wr (p+1),hm,(Eq.trans d3 (congrArg (fun n=>zS a1 n c2) (dH b4))),rfl,e2⟩
       ·exact aN
      ·exact aN
    ·exact aN
   ·exact aN
theorem aFZ {a R:(List Int)} (hm:aAd a=some R) (g:aF G K (L) w) (h:bI K a1 c2 a):
  Calls prog 136 ([zS a1 a.length c2]:List Value).toArray w (dL fun v w'=>∃ b c,v=zS b R.length c/\aF G K (own 2 K b c R::L) w'):=by
 refine aBM func136 ?_;unfold aAd at hm
 refine aAW ?_;obtain ⟨q,i,hm⟩:=aB hm
 refine aAZ call52 (dK i g h) ?_
 rintro _ r ⟨d,e,rfl,j⟩
 refine aAW ?_;obtain ⟨k,l,hm⟩:=aB hm
 refine aAZ call51 (aIa j l) ?_
 rintro _ t ⟨rfl,m,o⟩
 iterate 4 refine aBh ?_
 refine bA (v:=zS d k.length e) (Eq.trans rfl (congrArg (fun n=>zS d n e) m)) ?_;obtain ⟨u,p,hm⟩:=aB hm
 exact aAZ call192 (oC p o) aN
theorem pO {c d a b:Int} {p2_:(List Int)} {p:cN} {e:Nat} {R:(List Int)} (hm:oQ c d a b p2_ p=some R) (i:aF G K (own 2 K a2 c3 p2_::box b1 123 [i64 a,i64 b,zS a2 p2_.length c3]::L) w) (j:dR K a4 e (zC p a7 c8 a10 c11)) (k:bI K a7 c8 p.L) (l:bI K a10 c11 p.E):
  Calls prog 132 ([i64 c,i64 d,Value.pointer (some ⟨b1,0,none⟩),cE a4 e]:List Value).toArray w (dL fun v w'=>∃ g h,v=Value.tuple #[]/\aF G K (own 2 K g h R::box b1 123 [i64 a,i64 b,zS g R.length h]::L) w'):=by
 exact aN
theorem aCi {g:(List aO)} {t:Int} {p:(List Int)} {R:(List (List Int))} (hm:tX g t p=some R) (hs:aF G K (L) w) (h3:bI K a1 c2 g) (u:bI K a4 c5 p):
  Calls prog 142 ([zS a1 g.length c2,i64 t,zS a4 p.length c5]:List Value).toArray w (dL fun v w'=>∃ m x y,v=zS x R.length y/\Hp.le K m/\aF G m (own 88 m x y R::L) w'):=by
 refine aBM func142 ?_;unfold tX at hm
 refine aAW ?_;refine aOY ?_
 refine aAW ?_;obtain ⟨e9,a9,hm⟩:=aB hm
 refine aAW ?_;obtain ⟨d4,d5,b0⟩:=bI.el (sz:=1) rfl u a9
 cases b0
 refine aAW ?_;obtain ⟨d6,b1,hm⟩:=aB hm
 refine aAW ?_;obtain ⟨d7,d8,b2⟩:=bI.el (sz:=1) rfl u b1
 cases b2
 refine aAW ?_;obtain ⟨d9,b3,hm⟩:=aB hm
 refine aAW ?_;obtain ⟨e0,e1,b4⟩:=bI.el (sz:=3) rfl h3 b3
 obtain ⟨e2,e3,rfl,b5⟩:=b4
 refine aAW ?_;refine aAm (fun e4 b6=>(aAW ?_))
 refine aS [] (fun f w=>∃ n o z J,Hp.le K n/\aDT o=some R/\f 7=zS z o.length J/\aF G n (own 88 n z J o::L) w) aN ?_
 have e5:=aF.nil (α:=(List Int)) b6 88 K
 obtain ⟨e6,b7,ho⟩:=aB hm
 refine bN [1,22,23] b7 (fun c Z f w=>∃ b d e,Hp.le K b/\f 7=zS d c.length e/\f 24=i64 Z/\aF G b (own 88 b d e c::L) w) aN ?_
 ·rintro c Z e7 f e8 hm hr ⟨b,d,e,a0,f0,f1,f2⟩
  unfold jR at hm
  refine aAW ?_
  rcases aM hm with ⟨b8,hm⟩|⟨b8,hm⟩
  ·refine aAW ?_;refine bZ (aAW ?_)
   obtain ⟨f3,b9,hm⟩:=aB hm
   refine aAW ?_;obtain ⟨f4,f5,c0⟩:=bI.el (sz:=1) rfl b5 b9
   cases c0
   refine aAW ?_;refine aGG [(0,0),(1,0),(2,0),(3,0),(4,0),(5,0),(6,0),(7,1),(8,1),(9,1),(10,0)] fun f6 f7=>?_
   refine aAW ?_;obtain ⟨j,c1,hm⟩:=aB hm
   refine aZ rfl (fun _ _=>aLz rfl rfl c1) (aAW ?_);obtain ⟨k,c3,hm⟩:=aB hm
   refine aZ rfl (fun _ _=>aME rfl rfl c3) (fR rfl (aCp ([j,k]:List Int) fun q c4 a2=>?_));refine aY (aC ⟨⟨_,a2⟩,?_⟩)
   refine fR rfl ?_;obtain ⟨a,l,c6,r⟩:=aF.giveSp a2 a0 .head
   replace r:aF G a (own 88 b d e c::L) c4:=r
   refine bO (Kt:=a) (xs:=([([j,k]:List Int)]:List (List Int))) (cs:=[zS q ([j,k]:List Int).length 2]) (vs:=[(0,zS q ([j,k]:List Int).length 2)]) qD aHI rfl rfl r rfl (by kernel_rfl) rfl rfl rfl ⟨⟨q,2,rfl,c6⟩,trivial⟩ (fun c7 c8 (a3:aF G a (own 88 a c7 1 ([([j,k]:List Int)]:List (List Int))::own 88 b d e c::L) c8)=>(aY (aC ⟨⟨_,(aF.weakK a3 l)⟩,?_⟩)))
   refine fR rfl ?_;obtain ⟨c9,d0,hm⟩:=aB hm
   refine aEC (i:=0) a qD underlying50 aHI rfl rfl a3 rfl l (Hp.le_refl _) d0 rfl rfl rfl rfl (fun _ _ _ h=>El.one h) (fun a5 a6 d1 (a7:aF G a (own 88 a a5 a6 c9::L) d1)=>(aY (aC ⟨⟨_,(aF.weakK a7 l)⟩,?_⟩)))
   refine aAW ?_;refine lV (aAW ?_)
   exact ⟨_,(zI hm).symm,bG,a,a5,a6,(Hp.le_trans a0 l),rfl,rfl,a7⟩
  ·exact aN
theorem aCj {a:(List aT)} {k:Int} {R:Bool} (hm:jN a k=some R) (h:aF G K (L) w) (i:bI K a1 c2 a):
  Calls prog 145 ([zS a1 a.length c2,i64 k]:List Value).toArray w (dL fun v w'=>v=zB R/\aF G K (L) w'):=by
 refine aBM func145 ?_;unfold jN at hm
 refine aAW ?_;refine aS [] (fun f w=>yU=some R/\aF G K (L) w) aN ?_
 obtain ⟨j,d,ho⟩:=aB hm
 refine eK [0,1] d (fun b f w=>f 5=i64 b/\aF G K (L) w) aN ?_
 ·rintro b e f l hm hr ⟨m,n⟩
  unfold dA at hm
  refine aAW ?_
  rcases aM hm with ⟨g,hm⟩|⟨g,hm⟩
  ·refine aAW ?_;refine bZ ?_
   iterate 1 refine aBh ?_
   exact bD [0,1,5] (fun f w=>∃ c,gE a b c=some e/\f 22=zB c/\aF G K (L) w) aN aN
  ·exact aN
theorem zF {a:(List Int)} {b R:Int} (hm:eU a b=some R) (e:aF G K (L) w) (g:bI K a1 c2 a):
  Calls prog 96 ([zS a1 a.length c2,i64 b]:List Value).toArray w (dL fun v w'=>v=i64 R/\aF G K (L) w'):=by
 refine aBM func96 ?_;unfold eU at hm
 refine aAW ?_;refine aS [] (fun f w=>qM=some R/\aF G K (L) w) aN ?_
 obtain ⟨h,c,ho⟩:=aB hm
 exact eK [0,1,7] c (fun d f w=>f 8=i64 d/\aF G K (L) w) aN aN
theorem aHf {a b R:(List Int)} (hm:aDU a b=some R) (l:aF G K (L) w) (o:bI K a1 c2 a) (p:bI K a4 c5 b):
  Calls prog 146 ([zS a1 a.length c2,zS a4 b.length c5]:List Value).toArray w (dL fun v w'=>∃ d e,v=zS d R.length e/\aF G K (own 2 K d e R::L) w'):=by
 refine aBM func146 ?_;unfold aDU at hm
 refine aAW ?_;refine aS [] (fun f w=>∃ c g h,aFq c=some R/\f 5=zS g c.length h/\aF G K (own 2 K g h c::L) w) aN ?_
 have q:=aF.nil (α:=Int) l 2 K
 obtain ⟨r,m,ho⟩:=aB hm
 exact bN [0,8,9] m (fun i n f w=>∃ j k,f 5=zS j i.length k/\f 10=i64 n/\aF G K (own 2 K j k i::L) w) aN aN
theorem aBd {e:(List bB)} {R:(List Int)} (hm:oR e=some R) (p:aF G K (L) w) (q:bI K a1 c2 e):
  Calls prog 87 ([zS a1 e.length c2]:List Value).toArray w (dL fun v w'=>∃ i j,v=zS i R.length j/\aF G K (own 2 K i j R::L) w'):=by
 refine aBM func87 ?_;unfold oR at hm
 refine aAW ?_;refine aS [] (fun f w=>∃ g k l,aCC g=some R/\f 3=zS k g.length l/\aF G K (own 2 K k l g::L) w) aN ?_
 have y:=aF.nil (α:=Int) p 2 K
 obtain ⟨z,r,ho⟩:=aB hm
 refine lR [0,7,8] r (fun a h d f w=>∃ b c,f 3=zS b a.length c/\f 4=i64 h/\f 9=i64 d/\aF G K (own 2 K b c a::L) w) aN ?_
 ·rintro a h d m f J hm hr ⟨b,c,Z,a0,a2,a3⟩
  unfold gN at hm
  refine aAW ?_
  rcases aM hm with ⟨t,hm⟩|⟨t,hm⟩
  ·refine aAW ?_;refine bZ (aAW ?_)
   obtain ⟨a4,u,hm⟩:=aB hm
   refine aAW ?_;obtain ⟨a6,a7,x⟩:=bI.el (sz:=3) rfl q u
   obtain ⟨a8,a9,rfl,b0⟩:=x
   refine aAW ?_;refine aEx fun b1 b2 b3=>?_
   refine aAW ?_;refine aFy fun b4 b5=>?_
   iterate 2 refine aBh ?_
   refine gQ [0,3,7,8,9] (fun f w=>∃ n,nV a d n=some m/\f 4=i64 n/\aF G K (own 2 K b c a::L) w) aN (aAW ?_);exact bD [0,3,4,7,8,9] (fun f w=>∃ o,rN a h d o=some m/\f 26=zB o/\aF G K (own 2 K b c a::L) w) aN aN
  ·exact aN
theorem aJG {a:(List Int)} {R:Int} (hm:aFr a=some R) (b:aF G K (L) w) (c:bI K a1 c2 a):
  Calls prog 198 ([zS a1 a.length c2]:List Value).toArray w (dL fun v w'=>v=i64 R/\aF G K (L) w'):=by
 exact aN
theorem aGa {e:(List bB)} {R:Bool} (hm:aEP e=some R) (a:aF G K (L) w) (b:bI K a1 c2 e):
  Calls prog 147 ([zS a1 e.length c2]:List Value).toArray w (dL fun v w'=>v=zB R/\aF G K (L) w'):=by
 exact aN
end Gv
namespace Gv
open Gv.Hp renaming le_refl→zR
open Go.Value renaming slice→zS,bool→zB,pointer→zP,agg→zA
open Option.some renaming inj→zI
open Gv.Hp renaming le_trans→zL
open Go Go.Proofs Go.Proofs.Tryz
set_option maxRecDepth 20000
set_option maxHeartbeats 40000000
variable {G:rT} {K:Hp} {L:List fM} {w:World} {a1 a4 a7 a10:Option Addr} {c2 c5 c8 c11:Nat}
theorem uR {J:(List aT)} {t:cN} {R:(List aO)} (hm:oS J t=some R) (hs:aF G K (L) w) (hG:G.lo=0) (h3:bI K a1 c2 J) (h6:bI K a4 c5 t.L) (h9:bI K a7 c8 t.E):
  Calls prog 74 ([zS a1 J.length c2,zA (zCa t a4 c5 a7 c8),zS none 0 0]:List Value).toArray w (dL fun v w'=>∃ K' f4 f5,v=zS f4 R.length f5/\Hp.le K K'/\aF G K' (own 123 K' f4 f5 R::L) w'):=by
 let j:=(zC t a4 c5 a7 c8)
 refine aBM func74 ?_;unfold oS at hm
 refine aAW ?_;refine aGg fun c t3 j0=>?_
 refine aAW ?_;refine aS [] (fun f w=>∃ d4 d5 f6 f7,Hp.le K d4/\wZ d5=some R/\f 7=zS f6 d5.length f7/\aF G d4 (own 123 d4 f6 f7 d5::L) w) aN ?_
 have t4:=aF.nil (α:=aO) j0 123 K
 obtain ⟨t5,j1,ho⟩:=aB hm
 refine bN [0,2,4,18,19] j1 (fun b1 x f w=>∃ Z b9 c0,Hp.le K Z/\f 7=zS b9 b1.length c0/\f 20=i64 x/\aF G Z (own 123 Z b9 c0 b1::box c 28 j::L) w) aN ?_
 ·rintro b1 x d6 f t6 hm hr ⟨Z,b9,c0,k,j2,t7,t8⟩
  unfold fT at hm
  refine aAW ?_
  rcases aM hm with ⟨j3,hm⟩|⟨j3,hm⟩
  ·refine aAW ?_;refine aS [0,2,4,18,19,20] (fun f w=>∃ b2 c1 c3 c4,Hp.le Z b2/\rO x c1=some d6/\f 7=zS c3 c1.length c4/\aF G b2 (own 123 b2 c3 c4 c1::box c 28 j::L) w) ?_ ?_
   ·rintro f t9 ⟨b2,c1,c3,c4,j4,hm,j5,j6⟩
    unfold rO at hm
    refine aAW ?_;exact ⟨_,(zI hm).symm,bG,b2,c3,c4,(zL k j4),j5,rfl,j6⟩
   refine aAW ?_;obtain ⟨a,j7,hm⟩:=aB hm
   refine aAW ?_;obtain ⟨u0,u1,j8⟩:=bI.el (sz:=4) rfl h3 j7
   cases j8
   refine aAW ?_;refine aEx fun o u2 u3=>?_
   refine aAW ?_;refine aFy fun u4 j9=>?_
   refine aAW ?_;obtain ⟨l,k0,hm⟩:=aB hm
   refine aAZ call131 (aEV k0 j9 (h3.mono k)) ?_
   rintro _ u5 ⟨q,r,rfl,u6⟩
   refine aAW ?_;refine aS [0,2,4,18,19,20] (fun f w=>∃ d7 d8 f8 f9,Hp.le Z d7/\rP x d8=some d6/\f 7=zS f8 d8.length f9/\aF G d7 (own 123 d7 f8 f9 d8::box c 28 j::L) w) aN ?_
   obtain ⟨u7,k1,ho⟩:=aB hm
   refine bN [0,2,4,8,9,10,18,19,20,29] k1 (fun e u f w=>∃ b m n,Hp.le Z b/\f 7=zS m e.length n/\f 30=i64 u/\aF G b (own 3 K q r l::box o 45 [i64 a.Kind,i64 a.Variable,str a.B,zB a.Not]::own 123 b m n e::box c 28 j::L) w) aN ?_
   ·rintro e u a5 f u8 hm hr ⟨b,m,n,p,k2,u9,v0⟩
    unfold fC at hm
    refine aAW ?_
    rcases aM hm with ⟨k3,hm⟩|⟨k3,hm⟩
    ·refine aAW ?_;refine aS [0,2,4,8,9,10,18,19,20,29,30] (fun f w=>∃ b3 c6 c7 c9,Hp.le b b3/\rQ u c6=some a5/\f 7=zS c7 c6.length c9/\aF G b3 (own 123 b3 c7 c9 c6::own 3 K q r l::box o 45 [i64 a.Kind,i64 a.Variable,str a.B,zB a.Not]::box c 28 j::L) w) ?_ ?_
     ·rintro f v1 ⟨b3,c6,c7,c9,k4,hm,k5,v2⟩
      unfold rQ at hm
      refine aAW ?_;exact ⟨_,(zI hm).symm,bG,b3,c7,c9,(zL p k4),k5,rfl,aCN⟩
     iterate 8 refine aBh ?_
     refine aD (cO (vs:=[(1,i64 1000)]) (cs:=[i64 0,i64 1000,zS none 0 0]) aKX rfl (by kernel_rfl)) (aEx fun g v3 v4=>?_);refine aFy fun v5 d9=>?_
     iterate 4 refine aBh ?_
     refine aD (oY (vs:=[zP (some ⟨g,0,none⟩),zP (some ⟨c,0,none⟩)]) rfl) ?_
     iterate 4 refine aBh ?_
     refine bD [0,2,4,7,8,9,10,11,12,13,18,19,20,29,30] (fun f w=>∃ d,iH J t x a l e u d=some a5/\aF G b (box g 123 [i64 d,i64 1000,zS none 0 0]::own 3 K q r l::box o 45 [i64 a.Kind,i64 a.Variable,str a.B,zB a.Not]::own 123 b m n e::box c 28 j::L) w) ?_ ?_
     ·rintro f v6 ⟨d,hm,k6⟩
      unfold iH at hm
      refine aAW ?_;refine aS [0,2,4,7,8,9,10,12,18,19,20,29,30] (fun f w=>∃ y a0 a2,jB J x a e u d y=some a5/\aF G b (own 2 K a0 a2 y::box g 123 [i64 d,i64 1000,zS a0 y.length a2]::own 3 K q r l::box o 45 [i64 a.Kind,i64 a.Variable,str a.B,zB a.Not]::own 123 b m n e::box c 28 j::L) w) ?_ ?_
      ·rintro f v7 ⟨y,a0,a2,hm,k7⟩
       unfold jB at hm
       iterate 1 refine aBh ?_
       refine gQ [0,2,4,7,8,9,10,12,18,19,20,29,30] (fun f w=>∃ z,lD e u d y z=some a5/\aF G b (own 2 K a0 a2 y::box g 123 [i64 d,i64 z,zS a0 y.length a2]::own 3 K q r l::box o 45 [i64 a.Kind,i64 a.Variable,str a.B,zB a.Not]::own 123 b m n e::box c 28 j::L) w) ?_ ?_
       ·rintro f v8 ⟨z,hm,k8⟩
        unfold lD at hm
        refine aAW ?_;obtain ⟨v9,w0,k9,l0,l1⟩:=aF.lendSp k8 (zL k p) .head
        obtain ⟨a6,l2,hm⟩:=aB hm
        refine aAZ call136 (aFZ l2 l0 k9) ?_
        rintro _ w1 ⟨a8,a9,rfl,l3⟩
        have w2:=l1 _ _ l3
        refine aAW ?_;refine aFy fun l4 l5=>?_
        refine aAW ?_;obtain ⟨a3,g0,l6,e0⟩:=aF.giveSp l5 (zL k p) zt1
        replace e0:aF G a3 (own 2 K a0 a2 y::box g 123 [i64 d,i64 z,zS a8 a6.length a9]::own 3 K q r l::box o 45 [i64 a.Kind,i64 a.Variable,str a.B,zB a.Not]::own 123 b m n e::box c 28 j::L) l4:=e0
        refine bO (Kt:=a3) (xs:=([⟨d,z,a6⟩]:List aO)) (cs:=[i64 d,i64 z,zS a8 a6.length a9]) (vs:=[(0,zA #[i64 d,i64 z,zS a8 a6.length a9])]) eL aBk rfl rfl e0 rfl (by kernel_rfl) rfl rfl rfl ⟨⟨a8,a9,rfl,l6⟩,trivial⟩ (fun l7 l8 (l9:aF G a3 (own 123 a3 l7 1 ([⟨d,z,a6⟩]:List aO)::own 2 K a0 a2 y::box g 123 [i64 d,i64 z,zS a8 a6.length a9]::own 3 K q r l::box o 45 [i64 a.Kind,i64 a.Variable,str a.B,zB a.Not]::own 123 b m n e::box c 28 j::L) l8)=>?_)
        obtain ⟨g1,m0,hm⟩:=aB hm
        refine aEC (i:=4) a3 eL underlying94 aBk rfl rfl l9 rfl g0 (zR _) m0 rfl rfl rfl rfl (fun _ _ _ h=>El.one h) (fun g2 g3 m1 (w3:aF G a3 (own 2 K a0 a2 y::box g 123 [i64 d,i64 z,zS a8 a6.length a9]::own 3 K q r l::box o 45 [i64 a.Kind,i64 a.Variable,str a.B,zB a.Not]::own 123 a3 g2 g3 g1::box c 28 j::L) m1)=>(aAW ?_));exact ⟨bG,a3,g1,g2,g3,g0,hm,rfl,aCN⟩
       refine aAW ?_;obtain ⟨w4,m2,hm⟩:=aB hm
       refine aAZ call134 (aCG m2 k7) ?_
       rintro _ w5 ⟨rfl,m3⟩
       refine aAW ?_
       rcases aM hm with ⟨m4,hm⟩|⟨m4,hm⟩
       ·refine aAW ?_;obtain ⟨w6,m5,w7,w8,m6⟩:=aF.lendBp m3 zt3
        refine aGG [(0,0),(1,0),(4,0),(5,0),(6,0),(2,1),(3,0),(7,1),(8,0),(9,0),(10,2)] fun w9 m7=>?_;refine aAW ?_
        refine fR rfl ?_;obtain ⟨x0,m8,hm⟩:=aB hm
        refine aAZ call135 (aIl m8 m7 (h3.mono (zL (zL k p) m5))) ?_
        rintro _ x1 ⟨rfl,g4⟩
        refine aY (aC ⟨⟨_,g4⟩,?_⟩)
        refine aAW ?_;refine fR rfl ?_
        obtain ⟨x2,m9,hm⟩:=aB hm
        refine aAZ call88 (mM m9 g4) ?_
        rintro _ x3 ⟨rfl,g5⟩
        refine aY (aC ⟨⟨_,g5⟩,?_⟩)
        refine aAW ?_
        have x4:=m6 _ _ g5
        exact aN
       ·exact aN
      refine aAW ?_;obtain ⟨x5,n0,hm⟩:=aB hm
      refine aAZ call54 (tM n0 k6) ?_
      rintro _ x6 ⟨rfl,g6⟩
      refine aAW ?_
      rcases aM hm with ⟨n1,hm⟩|⟨n1,hm⟩
      ·refine aAW ?_;obtain ⟨e1,n2,hm⟩:=aB hm
       refine aAZ call133 (aIk n2 g6 (h6.mono (zL k p)) (h9.mono (zL k p))) ?_
       rintro _ x7 ⟨e2,e3,rfl,n3⟩
       refine aAW ?_;refine aS [0,2,4,7,8,9,10,12,18,19,20,29,30] (fun f w=>∃ e4 g7 g8,xA J x a e u d e4=some a5/\aF G b (own 2 K g7 g8 e4::box g 123 [i64 d,i64 1000,zS g7 e4.length g8]::own 3 K q r l::box o 45 [i64 a.Kind,i64 a.Variable,str a.B,zB a.Not]::own 123 b m n e::box c 28 j::L) w) aN ?_
       have x8:=aF.nil (α:=Int) n3 2 K
       obtain ⟨x9,n4,ho⟩:=aB hm
       refine bN [0,2,4,7,8,9,10,12,13,18,19,20,29,30,66,67] n4 (fun b4 e5 f w=>∃ b5 b6,f 68=i64 e5/\aF G b (own 2 K b5 b6 b4::own 68 K e2 e3 e1::box g 123 [i64 d,i64 1000,zS b5 b4.length b6]::own 3 K q r l::box o 45 [i64 a.Kind,i64 a.Variable,str a.B,zB a.Not]::own 123 b m n e::box c 28 j::L) w) aN ?_
       ·rintro b4 e5 n5 f y0 hm hr ⟨b5,b6,n6,n7⟩
        unfold jC at hm
        refine aAW ?_
        rcases aM hm with ⟨n8,hm⟩|⟨n8,hm⟩
        ·refine aAW ?_;refine aS [0,2,4,7,8,9,10,12,13,18,19,20,29,30,66,67,68] (fun f w=>∃ d0 d1 d2,nW e5 d0=some n5/\aF G b (own 2 K d1 d2 d0::own 68 K e2 e3 e1::box g 123 [i64 d,i64 1000,zS d1 d0.length d2]::own 3 K q r l::box o 45 [i64 a.Kind,i64 a.Variable,str a.B,zB a.Not]::own 123 b m n e::box c 28 j::L) w) ?_ ?_
         ·rintro f y1 ⟨d0,d1,d2,hm,n9⟩
          unfold nW at hm
          refine aAW ?_;exact ⟨_,(zI hm).symm,bG,d1,d2,rfl,n9⟩
         refine aAW ?_;obtain ⟨g9,h0,hm⟩:=aB hm
         have o0:=bM n7 (i:=1) rfl h0
         refine aD (cB eW rfl o0 rfl rfl n6 h0) (aAW ?_);refine aEx fun y2 y3 y4=>?_
         refine aFy fun y5 h1=>?_;refine aAW ?_
         refine aOY ?_;refine aAW ?_
         obtain ⟨o1,o2,hm⟩:=aB hm
         refine aAW ?_;obtain ⟨y6,y7,o3⟩:=bI.el (sz:=1) rfl h6 o2
         cases o3
         refine aAW ?_;obtain ⟨o4,o5,hm⟩:=aB hm
         refine aPm (vs:=[zA #[i64 a.Kind,i64 a.Variable,str a.B,zB a.Not],str o1]) (v:=zB o4) call57 rfl (fun _ h1=>(aCH o5 h1 hG)) (aAm (fun y8 o6=>(aAW ?_)))
         rcases aM hm with ⟨o7,hm⟩|⟨o7,hm⟩
         ·refine aAW ?_;obtain ⟨y9,e6,o8,o9,z0⟩:=aF.lendBp o6 .head
          obtain ⟨z1,e7,h2,z2,p0⟩:=aF.lendSp o9 (zL (zL k p) e6) zt3
          refine aGG [(0,0),(1,0),(2,0),(3,0),(4,0),(5,0),(6,1)] fun p1 e8=>?_;refine aAW ?_
          obtain ⟨h4,e9,hm⟩:=aB hm
          have p2:=wF h2 e9
          refine aZ rfl (fun _ _=>cB aKW rfl p2 rfl rfl rfl e9) ?_;obtain ⟨z3,z4,p3⟩:=bI.el (sz:=1) rfl h2 e9
          cases p3
          refine aAW ?_;refine aZ rfl (fun _ ⟨_,e8⟩=>bE (t:=2) dJ e8 (o8.mono e7) rfl rfl) (fR rfl ?_)
          obtain ⟨p4,h5,p5,z5,p6⟩:=aF.lendBp e8 zt5
          have p7:aF G p4 (own 2 K b5 b6 b4::box g 123 [i64 d,i64 1000,zS b5 b4.length b6]::own 68 K e2 e3 e1::box o 45 [i64 a.Kind,i64 a.Variable,str a.B,zB a.Not]::own 123 b m n e::L) p1:=aCN
          obtain ⟨z6,p8,hm⟩:=aB hm
          refine nT (vs:=[i64 h4,i64 g9.To]) (caps:=[zP (some ⟨g,0,none⟩),cE (some ⟨c,0,none⟩) 0]) (us:=[i64 h4,i64 g9.To,zP (some ⟨g,0,none⟩),cE (some ⟨c,0,none⟩) 0]) rfl call132 rfl rfl (pO p8 p7 p5 (h6.mono (zL (zL (zL (zL k p) e6) e7) h5)) (h9.mono (zL (zL (zL (zL k p) e6) e7) h5))) ?_
          rintro _ z7 ⟨z8,z9,rfl,p9⟩
          have h7:=p6 _ _ p9
          refine aY (aC ⟨⟨_,h7⟩,?_⟩)
          refine lV ?_
          have a00:=p0 _ _ h7
          exact aN
         ·exact aN
        ·exact aN
      ·iterate 2 refine aBh ?_
       refine bD [0,2,4,7,8,9,10,11,12,13,18,19,20,29,30] (fun f w=>jY J t x a l e u d=some a5/\f 88=zB false/\aF G b (box g 123 [i64 d,i64 1000,zS none 0 0]::own 3 K q r l::box o 45 [i64 a.Kind,i64 a.Variable,str a.B,zB a.Not]::own 123 b m n e::box c 28 j::L) w) ?_ ?_
       ·rintro f a01 ⟨hm,a02,h8⟩
        unfold jY at hm
        refine aAW ?_
        rcases aM hm with ⟨q0,hm⟩|⟨q0,hm⟩
        ·refine aAW ?_;obtain ⟨i0,q1,hm⟩:=aB hm
         refine aAZ call123 (aJr q1 h8 (h3.mono (zL k p))) ?_
         rintro _ a03 ⟨rfl,q2⟩
         refine aAW ?_;obtain ⟨a04,i1,q3,q4,q5⟩:=aF.lendBp q2 zt4
         have q6:=aF.nil (α:=Int) q4 2 K
         obtain ⟨a05,q7,hm⟩:=aB hm
         refine nT (vs:=[i64 i0,i64 u]) (caps:=[zP (some ⟨g,0,none⟩),cE (some ⟨c,0,none⟩) 0]) (us:=[i64 i0,i64 u,zP (some ⟨g,0,none⟩),cE (some ⟨c,0,none⟩) 0]) rfl call132 rfl rfl (pO (p2_:=[]) q7 q6 q3 (h6.mono (zL (zL k p) i1)) (h9.mono (zL (zL k p) i1))) ?_
         rintro _ a06 ⟨a07,a08,rfl,q8⟩
         have a09:=q5 _ _ q8
         exact aN
        ·refine aAW ?_;refine aS [0,2,4,7,8,9,10,12,18,19,20,29,30] (fun f w=>∃ f0 i2 i3,vO J x a e u d f0=some a5/\aF G b (own 2 K i2 i3 f0::box g 123 [i64 d,i64 1000,zS i2 f0.length i3]::own 3 K q r l::box o 45 [i64 a.Kind,i64 a.Variable,str a.B,zB a.Not]::own 123 b m n e::box c 28 j::L) w) aN ?_
         have a10:=aF.nil (α:=Int) h8 2 K
         obtain ⟨a11,q9,ho⟩:=aB hm
         refine bN [0,2,4,7,8,9,10,11,12,13,18,19,20,29,30,50,51] q9 (fun f1 i4 f w=>∃ f2 f3,f 52=i64 i4/\aF G b (own 2 K f2 f3 f1::box g 123 [i64 d,i64 1000,zS f2 f1.length f3]::own 3 K q r l::box o 45 [i64 a.Kind,i64 a.Variable,str a.B,zB a.Not]::own 123 b m n e::box c 28 j::L) w) aN ?_
         ·rintro f1 i4 a12 f a13 hm hr ⟨f2,f3,r0,i5⟩
          unfold iG at hm
          refine aAW ?_
          rcases aM hm with ⟨r1,hm⟩|⟨r1,hm⟩
          ·refine aAW ?_;refine bZ (aAW ?_)
           obtain ⟨i6,i7,hm⟩:=aB hm
           have r2:=bM i5 (i:=2) rfl i7
           refine aD (cB aKW rfl r2 rfl rfl r0 i7) (aAW ?_);obtain ⟨a14,i8,r3,r4,r5⟩:=aF.lendBp i5 zt5
           obtain ⟨a15,r6,hm⟩:=aB hm
           refine nT (vs:=[i64 i6,i64 u]) (caps:=[zP (some ⟨g,0,none⟩),cE (some ⟨c,0,none⟩) 0]) (us:=[i64 i6,i64 u,zP (some ⟨g,0,none⟩),cE (some ⟨c,0,none⟩) 0]) rfl call132 rfl rfl (pO r6 r4 r3 (h6.mono (zL (zL k p) i8)) (h9.mono (zL (zL k p) i8))) ?_
           rintro _ a17 ⟨a18,a19,rfl,r7⟩
           have a20:=r5 _ _ r7
           exact aN
          ·exact aN
       refine aAW ?_
       rcases aM hm with ⟨r8,hm⟩|⟨r8,hm⟩
       ·refine aAW ?_;refine aD (R_nilNe cQ rfl rfl) (aAW ?_)
        exact ⟨bG,hm,rfl,g6⟩
       ·exact aN
     refine aAW ?_
     rcases aM hm with ⟨r9,hm⟩|⟨r9,hm⟩
     ·refine aAW ?_;obtain ⟨s0,s1,hm⟩:=aB hm
      refine aAZ call88 (mM s1 d9) ?_
      rintro _ a21 ⟨rfl,a22⟩
      refine aAW ?_;refine aFy fun a23 s2=>?_
      refine aAW ?_;exact ⟨bG,s0,hm,s2⟩
     ·refine aAW ?_
      rcases aM hm with ⟨s3,hm⟩|⟨s3,hm⟩
      ·refine aAW ?_;obtain ⟨s4,s5,hm⟩:=aB hm
       refine aAZ call88 (mM s5 d9) ?_
       rintro _ a24 ⟨rfl,a25⟩
       refine aAW ?_;refine aFy fun a26 s6=>?_
       refine aAW ?_;exact ⟨bG,s4,hm,s6⟩
      ·refine aAW ?_;obtain ⟨s7,s8,hm⟩:=aB hm
       refine aAZ call88 (mM s8 d9) ?_
       rintro _ a27 ⟨rfl,a28⟩
       refine aAW ?_;refine aFy fun a29 s9=>?_
       refine aAW ?_;exact ⟨bG,s7,hm,s9⟩
    ·refine aAW ?_
     have t0:=hr _ (zI hm).symm
     subst t0
     have hm:(rP x e)=some d6:=ho
     clear hr ho
     refine aAW ?_;exact ⟨bG,b,e,m,n,p,hm,k2,aCN⟩
  ·refine aAW ?_
   have t1:=hr _ (zI hm).symm
   subst t1
   have hm:(wZ b1)=some R:=ho
   clear hr ho
   refine aAW ?_;exact ⟨bG,Z,b1,b9,c0,k,hm,j2,aCN⟩
theorem aIm {f_:(List aT)} {t:cN} {R:((List bB) × (List (List Int)) × Bool)} (hm:pW f_ t=some R) (hs:aF G K (L) w) (hG:G.lo=0) (h3:bI K a1 c2 f_) (h6:bI K a4 c5 t.L) (h9:bI K a7 c8 t.E):
  Calls prog 86 ([zS a1 f_.length c2,zA (zCa t a4 c5 a7 c8)]:List Value).toArray w (dL fun v w'=>∃ K' h4 h5 h7 h8,v=Value.tuple #[zS h4 R.1.length h5,zS h7 R.2.1.length h8,zB R.2.2]/\Hp.le K K'/\aF G K' (own 102 K' h4 h5 R.1::own 88 K' h7 h8 R.2.1::L) w'):=by
 let g:=(zC t a4 c5 a7 c8)
 refine aBM func86 ?_;unfold pW at hm
 refine aAW ?_;refine aGg fun j x3 k7=>?_
 refine aAW ?_;obtain ⟨e8,k8,hm⟩:=aB hm
 refine aAZ call74 (uR k8 k7 hG h3 h6 h9) ?_
 rintro _ k9 ⟨x4,x5,x6,rfl,b3,l0⟩
 iterate 1 refine aBh ?_
 obtain ⟨l1,b4,i0,i1⟩:=aF.giveSp l0 (zR _) .head
 replace i1:aF G l1 (box j 28 g::L) k9:=i1
 refine aAW ?_;refine aCp ([0,t.I]:List Int) fun e9 l2 l3=>?_
 obtain ⟨o,Z,l4,f0⟩:=aF.giveSp l3 (zL b3 b4) .head
 replace f0:aF G o (box j 28 g::L) l2:=f0
 refine bO (Kt:=o) (xs:=([([0,t.I]:List Int)]:List (List Int))) (cs:=[zS e9 ([0,t.I]:List Int).length 2]) (vs:=[(0,zS e9 ([0,t.I]:List Int).length 2)]) qD aHI rfl rfl f0 rfl (by kernel_rfl) rfl rfl rfl ⟨⟨e9,2,rfl,l4⟩,trivial⟩ (fun f1 l5 (l6:aF G o (own 88 o f1 1 ([([0,t.I]:List Int)]:List (List Int))::box j 28 g::L) l5)=>(aAW ?_));refine aQq Int Bool l6 ?_
 intro m l7 (l8:aF G o (mpo m ([]:(List (Int × Bool)))::own 88 o f1 1 ([([0,t.I]:List Int)]:List (List Int))::box j 28 g::L) l7)
 refine aAW ?_;obtain ⟨l9,m0,hm⟩:=aB hm
 refine WO_mapIns (i:=0) (k:=t.I) (v:=true) runUnderlying178 ko_2 l8 rfl rfl rfl rfl m0 (fun m1 (x7:aF G o (mpo m l9::own 88 o f1 1 ([([0,t.I]:List Int)]:List (List Int))::box j 28 g::L) m1)=>(aAW ?_));refine aS [0,3,7] (fun f w=>∃ e d8 c d,Hp.le o e/\tH f_ t e8 d8=some R/\f 8=zS c d8.length d/\aF G e (own 88 e c d d8::box j 28 g::L) w) ?_ ?_
 ·rintro f x8 ⟨e,d8,c,d,b5,hm,f2,m2⟩
  unfold tH at hm
  refine aAW ?_
  rcases aM hm with ⟨m3,hm⟩|⟨m3,hm⟩
  ·exact aN
  ·refine aAW ?_;obtain ⟨l,m4,hm⟩:=aB hm
   refine aAZ call143 (lib_SortRowsF (Kf:=e) m2 (zR _) m4) ?_
   rintro _ x9 ⟨rfl,f3,m5⟩
   iterate 10 refine aBh ?_
   refine bA (v:=zS c l.length d) (Eq.trans f2 (congrArg (fun n=>zS c n d) f3)) (aAW ?_);refine aS [0,7,8] (fun f w=>∃ p r u,tG f_ e8 l p=some R/\f 14=zS r p.length u/\aF G e (own 2 K r u p::own 88 e c d l::L) w) ?_ ?_
   ·rintro f y0 ⟨p,r,u,hm,y1,m6⟩
    unfold tG at hm
    iterate 9 refine aBh ?_
    refine bA (v:=zS c l.length d) (Eq.trans f2 (congrArg (fun n=>zS c n d) f3)) (aAW ?_);refine aS [8] (fun f w=>∃ x b6 b7 b8,Hp.le e x/\tF l b6=some R/\f 17=zS b7 b6.length b8/\aF G x (own 102 x b7 b8 b6::own 88 e c d l::L) w) ?_ ?_
    ·rintro f y2 ⟨x,b6,b7,b8,i2,hm,y3,m7⟩
     unfold tF at hm
     iterate 4 refine aBh ?_
     refine bA (v:=zS c l.length d) (Eq.trans f2 (congrArg (fun n=>zS c n d) f3)) (aAW ?_);obtain ⟨y4,y5,m8,m9,n0⟩:=aF.lendSp m7 (zR _) .head
     obtain ⟨y6,n1,hm⟩:=aB hm
     refine aAZ call147 (aGa n1 m9 m8) ?_
     rintro _ n2 ⟨rfl,n3⟩
     have n4:=n0 _ _ n3
     refine aAW ?_
     have n5:aF G x (own 102 x b7 b8 b6::own 88 x c d l::L) n2:=aF.weak (i:=1) n4 rfl (fun _ h=>own.mono i2 h)
     obtain rfl:=zI hm
     exact nD (aPj results86 rfl rfl rfl ⟨x,b7,b8,c,d,rfl,(zL (zL (zL (zL b3 b4) Z) b5) i2),n5⟩)
    have y7:=aF.nil (α:=bB) m6 102 e
    obtain ⟨y8,n7,ho⟩:=aB hm
    refine bN [0,7,8,14,102,103] n7 (fun a0 i3 f w=>∃ q a2 a3,Hp.le e q/\f 17=zS a2 a0.length a3/\f 104=i64 i3/\aF G q (own 102 q a2 a3 a0::own 2 K r u p::own 88 e c d l::L) w) aN ?_
    ·rintro a0 i3 y9 f z0 hm hr ⟨q,a2,a3,b9,z1,n8,f4⟩
     unfold iI at hm
     refine aAW ?_
     rcases aM hm with ⟨n9,hm⟩|⟨n9,hm⟩
     ·refine aAW ?_;refine bZ (aAW ?_)
      obtain ⟨o0,f5,hm⟩:=aB hm
      have o1:=bM f4 (i:=2) rfl f5
      refine aD (cB qD rfl o1 rfl rfl n8 f5) ?_;obtain ⟨z2,o2,o3⟩:=aMJ (sz:=1) rfl f4 (i:=2) rfl f5
      obtain ⟨o4,o5,rfl,o6⟩:=o3
      refine aD (R_ldC (t:=0) (v:=zS o4 o0.length o5) oZ o2 rfl rfl) (aAW ?_);obtain ⟨z3,i4,hm⟩:=aB hm
      have o7:=bM f4 (i:=1) rfl i4
      refine aD (cB bF rfl o7 rfl rfl rfl i4) (aAW ?_);obtain ⟨b,o8,hm⟩:=aB hm
      refine aAW ?_;obtain ⟨z4,z5,o9⟩:=bI.el (sz:=3) rfl i0 o8
      obtain ⟨c0,c1,rfl,p0⟩:=o9
      refine aAW ?_;refine aEx fun c3 z6 z7=>?_
      refine aFy fun p1 p2=>?_;refine aAW ?_
      have i5:aF G q (box c3 123 [i64 b.Owner,i64 b.Priority,zS c0 b.Next.length c1]::own 102 q a2 a3 a0::own 2 K r u p::own 88 e c d l::L) p1:=p2
      refine cI (C:=fun w'=>∃ L',aF G q (box c3 123 [i64 b.Owner,i64 b.Priority,zS c0 b.Next.length c1]::L') w') [(0,0),(1,0),(2,0),(3,0),(4,0),(6,0),(7,0),(8,0),(9,0),(10,0),(11,0),(5,1),(12,1),(13,0),(14,1),(15,1),(16,0)] Tryz_mixed (by kernel_rfl) (fun _ hg=>⟨_,aF.mono i5 hg⟩) (fun z8 p3=>?_)
      have p4:=aF.mono i5 p3
      refine aAW ?_;obtain ⟨z9,p5,hm⟩:=aB hm
      refine aAW ?_;obtain ⟨a00,a01,p6⟩:=bI.el (sz:=1) rfl o6 p5
      cases p6
      refine aAW ?_;refine fR rfl ?_
      obtain ⟨a5,p7,hm⟩:=aB hm
      refine aAZ call145 (aCj p7 p4 (h3.mono (zL (zL (zL (zL b3 b4) Z) b5) b9))) ?_
      rintro _ a02 ⟨rfl,i6⟩
      refine aY (aC ⟨⟨_,i6⟩,?_⟩)
      refine fR rfl ?_;obtain ⟨a03,p8,p9,q0,q1⟩:=aF.lendSp i6 (zL (zL (zL (zL b3 b4) Z) b5) b9) zt2
      obtain ⟨a6,q2,hm⟩:=aB hm
      refine aAZ call146 (aHf q2 q0 p9 (p0.mono (zL (zL (zL Z b5) b9) p8))) ?_
      rintro _ q3 ⟨c4,c6,rfl,q4⟩
      have q5:=q1 _ _ q4
      refine aY (aC ⟨⟨_,aCN⟩,?_⟩)
      refine aZ rfl (fun _ _=>cO (vs:=[(0,zB a5),(1,zB (b.Owner == 1)),(2,zS c4 a6.length c6)]) (cs:=[zB a5,zB (b.Owner == 1),zS c4 a6.length c6]) bs_102 rfl (by kernel_rfl)) (fR rfl ?_);obtain ⟨y,i7,q6,f6⟩:=aF.giveSp q5 (zL (zL (zL (zL b3 b4) Z) b5) b9) zt1
      replace f6:aF G y (own 2 K r u p::box c3 123 [i64 b.Owner,i64 b.Priority,zS c0 b.Next.length c1]::own 102 q a2 a3 a0::own 88 e c d l::L) q3:=f6
      refine bO (Kt:=y) (xs:=([⟨a5,b.Owner == 1,a6⟩]:List bB)) (cs:=[zB a5,zB (b.Owner == 1),zS c4 a6.length c6]) (vs:=[(0,zA #[zB a5,zB (b.Owner == 1),zS c4 a6.length c6])]) aCA aKZ rfl rfl f6 rfl (by kernel_rfl) rfl rfl rfl ⟨⟨c4,c6,rfl,q6⟩,trivial⟩ (fun q7 q8 (q9:aF G y (own 102 y q7 1 ([⟨a5,b.Owner == 1,a6⟩]:List bB)::own 2 K r u p::box c3 123 [i64 b.Owner,i64 b.Priority,zS c0 b.Next.length c1]::own 102 q a2 a3 a0::own 88 e c d l::L) q8)=>(aY (aC ⟨⟨_,aCN⟩,?_⟩)))
      refine fR rfl ?_;obtain ⟨r0,r1,hm⟩:=aB hm
      refine aEC (i:=2) y aCA underlying91 aKZ rfl rfl q9 rfl i7 (zR _) r1 rfl rfl rfl rfl (fun _ _ _ h=>El.one h) (fun i8 i9 r2 (a04:aF G y (own 2 K r u p::box c3 123 [i64 b.Owner,i64 b.Priority,zS c0 b.Next.length c1]::own 102 y i8 i9 r0::own 88 e c d l::L) r2)=>(aY (aC ⟨⟨_,aCN⟩,?_⟩)))
      refine aAW ?_;refine lV (aAW ?_)
      exact ⟨_,(zI hm).symm,bG,y,i8,i9,(zL b9 i7),rfl,rfl,aCN⟩
     ·exact aN
   have a05:=aF.nil (α:=Int) m5 2 K
   obtain ⟨a06,r3,ho⟩:=aB hm
   refine bN [0,3,7,8,82,83] r3 (fun f7 j0 f w=>∃ f8 f9,f 14=zS f8 f7.length f9/\f 84=i64 j0/\aF G e (own 2 K f8 f9 f7::own 88 e c d l::box j 28 g::L) w) aN ?_
   ·rintro f7 j0 a07 f a08 hm hr ⟨f8,f9,a09,r4,g0⟩
    unfold iJ at hm
    refine aAW ?_
    rcases aM hm with ⟨r5,hm⟩|⟨r5,hm⟩
    ·refine aAW ?_;refine bZ (aAW ?_)
     obtain ⟨r6,g1,hm⟩:=aB hm
     have r7:=bM g0 (i:=1) rfl g1
     refine aD (cB qD rfl r7 rfl rfl r4 g1) ?_;obtain ⟨a10,r8,r9⟩:=aMJ (sz:=1) rfl g0 (i:=1) rfl g1
     obtain ⟨s0,s1,rfl,j1⟩:=r9
     refine aD (R_ldC (t:=0) (v:=zS s0 r6.length s1) oZ r8 rfl rfl) (aAW ?_);obtain ⟨a11,a12,a13,a14,s2⟩:=aF.lendBp g0 zt2
     refine aGG [(0,0),(1,0),(2,0),(3,0),(4,0),(5,0),(6,0),(7,0),(8,0),(9,0),(10,0),(11,1),(12,1),(13,0)] fun a15 a16=>?_;refine aAW ?_
     obtain ⟨s3,s4,hm⟩:=aB hm
     refine aAW ?_;obtain ⟨a18,a19,s5⟩:=bI.el (sz:=1) rfl j1 s4
     cases s5
     refine aAW ?_;obtain ⟨s6,s7,hm⟩:=aB hm
     refine aAW ?_;obtain ⟨a20,a21,s8⟩:=bI.el (sz:=1) rfl j1 s7
     cases s8
     refine aAW ?_;refine fR rfl (aCp ([wr ((wr (s3 * t.N))+s6)]:List Int) fun a22 a23 s9=>?_)
     refine aY (aC ⟨⟨_,s9⟩,?_⟩)
     refine fR rfl ?_;obtain ⟨a24,a26,hm⟩:=aB hm
     refine aNS fun a27 a28 a29 j2=>?_;refine aY (aC ⟨⟨_,j2⟩,?_⟩)
     refine aAW ?_;refine lV ?_
     have a30:=s2 _ _ j2
     exact aN
    ·exact aN
 obtain ⟨a31,t0,ho⟩:=aB hm
 refine lR [0,3,7,9] t0 (fun a8 c7 c9 f w=>∃ J d0 d1,Hp.le o J/\f 8=zS d0 a8.length d1/\f 10=i64 c9/\aF G J (mpo m c7::own 88 J d0 d1 a8::box j 28 g::L) w) aN ?_
 ·rintro a8 c7 c9 g2 f a33 hm hr ⟨J,d0,d1,j3,a34,a35,a36⟩
  unfold gO at hm
  iterate 2 refine aBh ?_
  refine bD [0,3,7,8,9,10] (fun f w=>∃ g3,lE t e8 a8 c7 c9 g3=some g2/\f 40=zB g3/\aF G J (mpo m c7::own 88 J d0 d1 a8::box j 28 g::L) w) ?_ ?_
  ·rintro f a37 ⟨g3,hm,a38,t1⟩
   unfold lE at hm
   refine aAW ?_
   rcases aM hm with ⟨t2,hm⟩|⟨t2,hm⟩
   ·refine aAW ?_;refine aS [0,3,7,9,10] (fun f w=>∃ d2 d9 g4 e0 e1,Hp.le J d2/\tI c9 d9 g4=some g2/\f 8=zS e0 d9.length e1/\aF G d2 (own 88 d2 e0 e1 d9::mpo m g4::box j 28 g::L) w) ?_ ?_
    ·rintro f a39 ⟨d2,d9,g4,e0,e1,t3,hm,t4,a40⟩
     unfold tI at hm
     refine aAW ?_;exact ⟨_,(zI hm).symm,bG,d2,e0,e1,(zL j3 t3),t4,rfl,aCN⟩
    refine aAW ?_;obtain ⟨a41,a42,t5,t6,t7,t8⟩:=aF.lendSr t1 (zR _) zt1
    obtain ⟨a43,t9,a44,a46,u0⟩:=aF.lendBp t7 zt1
    refine aGG [(0,3),(1,3),(2,0),(3,3),(4,3),(5,3),(6,0),(9,3),(7,2),(8,3)] fun a47 u1=>?_;refine aAW ?_
    obtain ⟨a48,g5,hm⟩:=aB hm
    have u2:=wF (t5.mono t9) g5
    refine WE_t rfl (fun _=>cB qD rfl u2 rfl rfl rfl g5) ?_;obtain ⟨a49,a50,u3⟩:=t6 (sz:=1) rfl g5
    obtain ⟨a51,a52,rfl,u4⟩:=u3
    refine aAW ?_
    have u5:=u0 _ _ u1
    have u6:=t8 _ _ u5
    refine aHm rfl ?_;obtain ⟨a9,u7,hm⟩:=aB hm
    refine aAZ call142 (aCi u7 u6 (i0.mono (zL Z j3)) u4) ?_
    rintro _ u8 ⟨a,b0,b1,rfl,u9,v0⟩
    refine aAW ?_;refine lV (aAW ?_)
    refine aS [0,3,7,9,10] (fun f w=>∃ g6 j4 j5 j6,yV c9 g6 j4=some g2/\f 8=zS j5 g6.length j6/\aF G a (own 88 a j5 j6 g6::box j 28 g::mpo m j4::L) w) aN ?_
    have a53:aF G a (own 88 a b0 b1 a9::own 88 a d0 d1 a8::box j 28 g::mpo m c7::L) u8:=aF.weak (i:=1) v0 rfl (fun _ h=>own.mono u9 h)
    obtain ⟨a54,v1,ho⟩:=aB hm
    refine lR [0,3,7,9,10,50,51] v1 (fun d3 g7 g8 f w=>∃ d4 d5,f 8=zS d4 d3.length d5/\f 52=i64 g8/\aF G a (own 88 a b0 b1 a9::own 88 a d4 d5 d3::box j 28 g::mpo m g7::L) w) aN ?_
    ·rintro d3 g7 g8 v2 f a55 hm hr ⟨d4,d5,a56,v3,j7⟩
     unfold gF at hm
     refine aAW ?_
     rcases aM hm with ⟨v4,hm⟩|⟨v4,hm⟩
     ·refine aAW ?_;refine aS [0,3,7,9,10,50,51,52] (fun f w=>∃ e2 g9 e3 e4,lX g8 e2 g9=some v2/\f 8=zS e3 e2.length e4/\aF G a (own 88 a e3 e4 e2::own 88 a b0 b1 a9::box j 28 g::mpo m g9::L) w) ?_ ?_
      ·rintro f a57 ⟨e2,g9,e3,e4,hm,v5,a58⟩
       unfold lX at hm
       refine aAW ?_;exact ⟨_,(zI hm).symm,bG,e3,e4,v5,rfl,aCN⟩
      refine aAW ?_;obtain ⟨d6,h0,hm⟩:=aB hm
      have v6:=bM j7 (i:=0) rfl h0
      refine aD (cB qD rfl v6 rfl rfl v3 h0) ?_;obtain ⟨a59,v7,v8⟩:=aMJ (sz:=1) rfl j7 (i:=0) rfl h0
      obtain ⟨e5,e6,rfl,h1⟩:=v8
      refine aD (R_ldC (t:=0) (v:=zS e5 d6.length e6) oZ v7 rfl rfl) (aAW ?_);refine aOY ?_
      refine aAW ?_;obtain ⟨j8,v9,hm⟩:=aB hm
      refine aAW ?_;obtain ⟨a60,a62,w0⟩:=bI.el (sz:=1) rfl h1 v9
      cases w0
      refine aAW ?_;obtain ⟨j9,w1,hm⟩:=aB hm
      refine aAW ?_;obtain ⟨a63,a64,w2⟩:=bI.el (sz:=1) rfl h1 w1
      cases w2
      refine aAW ?_;refine aAm (fun a65 k0=>(aAW ?_))
      refine aD (aPt (kv:=g7) (k:=wr ((wr (j8 * t.N))+j9)) (z:=(false:Bool)) runUnderlying178 ko_2 zeroValue4 k0 (i:=3) rfl rfl rfl) (aAW ?_)
      rcases aM hm with ⟨w3,hm⟩|⟨w3,hm⟩
      ·refine aAW ?_;obtain ⟨e7,w4,hm⟩:=aB hm
       refine aMN (i:=3) (k:=wr ((wr (j8 * t.N))+j9)) (v:=true) runUnderlying178 ko_2 k0 rfl rfl rfl rfl w4 (fun w5 (w6:aF G a (own 88 a b0 b1 a9::own 88 a d4 d5 d3::box j 28 g::mpo m e7::L) w5)=>(aAW ?_));refine bO (Kt:=a) (xs:=([d6]:List (List Int))) (cs:=[zS e5 d6.length e6]) (vs:=[(0,zS e5 d6.length e6)]) qD aHI rfl rfl w6 rfl (by kernel_rfl) rfl rfl rfl ⟨⟨e5,e6,rfl,h1⟩,trivial⟩ (fun w7 w8 (w9:aF G a (own 88 a w7 1 ([d6]:List (List Int))::own 88 a b0 b1 a9::own 88 a d4 d5 d3::box j 28 g::mpo m e7::L) w8)=>?_)
       obtain ⟨k1,x0,hm⟩:=aB hm
       refine aEC (i:=1) a qD underlying50 aHI rfl rfl w9 rfl (zR _) (zR _) x0 rfl rfl rfl rfl (fun _ _ _ h=>El.one h) (fun k2 k3 x1 (a66:aF G a (own 88 a b0 b1 a9::own 88 a k2 k3 k1::box j 28 g::mpo m e7::L) x1)=>(aAW ?_));exact ⟨bG,k1,e7,k2,k3,hm,rfl,aCN⟩
      ·exact aN
     ·exact aN
   ·exact aN
  exact aN
theorem aCk {a:(List aT)} {t:cN} {R:((List bB) × (List (List Int)) × Int)} (hm:jO a t=some R) (hs:aF G K (L) w) (i:G.lo=0) (j:bI K a1 c2 a) (k:bI K a4 c5 t.L) (l:bI K a7 c8 t.E):
  Calls prog 44 ([zS a1 a.length c2,zA (zCa t a4 c5 a7 c8)]:List Value).toArray w (dL fun v w'=>∃ b c d e g,v=Value.tuple #[zS c R.1.length d,zS e R.2.1.length g,i64 R.2.2]/\Hp.le K b/\aF G b (own 102 b c d R.1::own 88 b e g R.2.1::L) w'):=by
 refine aBM func44 ?_;unfold jO at hm
 refine aAW ?_;refine aGg fun m a5 n=>?_
 refine aAW ?_;refine bO (Kt:=K) (xs:=([a]:List (List aT))) (cs:=[zS a1 a.length c2]) (vs:=[(0,zS a1 a.length c2)]) aMU ez_24 rfl rfl n rfl (by kernel_rfl) rfl rfl rfl ⟨⟨a1,c2,rfl,j⟩,trivial⟩ (fun o p (q:aF G K (own 24 K o 1 ([a]:List (List aT))::box m 28 (zC t a4 c5 a7 c8)::L) p)=>?_)
 obtain ⟨a6,h,r,u,x⟩:=aF.lendSp q (zR _) .head
 obtain ⟨a8,y,hm⟩:=aB hm
 refine aAZ call24 (zD y u i (k.mono h) (l.mono h) r) ?_
 rintro _ a9 ⟨rfl,z⟩
 have J:=x _ _ z
 refine aAW ?_
 rcases aM hm with ⟨Z,hm⟩|⟨Z,hm⟩
 ·refine aAW ?_
  have a0:=aF.nil (α:=bB) J 102 K
  have b0:=aF.nil (α:=(List Int)) a0 88 K
  obtain rfl:=zI hm
  exact nD (kJ (aPj results44 rfl rfl rfl ⟨K,none,0,none,0,rfl,(zR _),aCN⟩))
 ·exact aN
theorem aIn {e:(List bB)} {R:(List aO)} (hm:aJB e=some R) (hs:aF G K (L) w) (z:bI K a1 c2 e):
  Calls prog 45 ([zS a1 e.length c2]:List Value).toArray w (dL fun v w'=>∃ J a5 a7,v=zS a5 R.length a7/\Hp.le K J/\aF G J (own 123 J a5 a7 R::L) w'):=by
 refine aBM func45 ?_;unfold aJB at hm
 refine aAW ?_;obtain ⟨d,q5,hm⟩:=aB hm
 refine aAZ call87 (aBd q5 hs z) ?_
 rintro _ w8 ⟨g,j,rfl,c0⟩
 refine aAW ?_;refine aS [] (fun f w=>∃ Z a0 a8 a9,Hp.le K Z/\aOE a0=some R/\f 4=zS a8 a0.length a9/\aF G Z (own 123 Z a8 a9 a0::L) w) aN ?_
 have e7:=aF.nil (α:=aO) c0 123 K
 obtain ⟨e8,c1,ho⟩:=aB hm
 refine bN [0,3,9,10] c1 (fun k b0 f w=>∃ b l m,Hp.le K b/\f 4=zS l k.length m/\f 11=i64 b0/\aF G b (own 123 b l m k::own 2 K g j d::L) w) aN ?_
 ·rintro k b0 e9 f f0 hm hr ⟨b,l,m,a2,f1,f2,f3⟩
  unfold aAe at hm
  refine aAW ?_
  rcases aM hm with ⟨c3,hm⟩|⟨c3,hm⟩
  ·refine aAW ?_;refine bZ (aAW ?_)
   obtain ⟨a,c4,hm⟩:=aB hm
   refine aAW ?_;obtain ⟨f4,f5,c5⟩:=bI.el (sz:=3) rfl z c4
   obtain ⟨r,t,rfl,c6⟩:=c5
   refine aAW ?_;refine aEx fun u f6 f7=>?_
   refine aAW ?_;refine aFy fun c8 f8=>?_
   refine aAW ?_
   have b1:aF G b (box u 102 [zB a.Greatest,zB a.All,zS r a.Terms.length t]::own 2 K g j d::own 123 b l m k::L) c8:=aCN
   refine cI (C:=fun w'=>∃ L',aF G b (box u 102 [zB a.Greatest,zB a.All,zS r a.Terms.length t]::own 2 K g j d::L') w') [(0,0),(1,0),(2,0),(4,0),(5,0),(6,0),(7,0),(8,0),(9,0),(10,0),(11,0),(12,0),(15,0),(16,0),(3,1),(13,1),(14,0),(17,1),(18,0),(19,1),(20,1),(21,0)] Tryz_mixed (by kernel_rfl) (fun _ hg=>⟨_,aF.mono b1 hg⟩) (fun f9 c9=>?_)
   have b2:=aF.mono b1 c9
   refine aAW ?_;obtain ⟨n,b3,hm⟩:=aB hm
   have d0:=bM b2 (i:=1) rfl b3
   refine aZ rfl (fun _ _=>cB bF rfl d0 rfl rfl rfl b3) (aAW ?_);obtain ⟨g0,d1,hm⟩:=aB hm
   iterate 1 refine aBh ?_
   obtain ⟨g1,g2,d2⟩:=bI.el (sz:=3) rfl z d1
   obtain ⟨g3,g4,rfl,g5⟩:=d2
   refine aAW ?_;refine fR rfl ?_
   obtain ⟨o,d3,hm⟩:=aB hm
   refine aAZ call88 (mM d3 b2) ?_
   rintro _ g6 ⟨rfl,b4⟩
   refine aY (aC ⟨⟨_,b4⟩,?_⟩)
   refine fR rfl ?_;obtain ⟨p,d4,hm⟩:=aB hm
   refine aAZ call88 (mM d4 b4) ?_
   rintro _ g7 ⟨rfl,b5⟩
   refine aY (aC ⟨⟨_,b5⟩,?_⟩)
   refine aAW ?_;refine fR rfl ?_
   obtain ⟨q,d5,hm⟩:=aB hm
   refine aAZ call52 (dK d5 b5 (c6.mono a2)) ?_
   rintro _ d6 ⟨x,y,rfl,d7⟩
   refine aY (aC ⟨⟨_,aCN⟩,?_⟩)
   refine aZ rfl (fun _ _=>cO (vs:=[(0,i64 o),(1,i64 (wr (n+p))),(2,zS x q.length y)]) (cs:=[i64 o,i64 (wr (n+p)),zS x q.length y]) aKX rfl (by kernel_rfl)) (fR rfl ?_);obtain ⟨c,a3,d8,a4⟩:=aF.giveSp d7 a2 .head
   replace a4:aF G c (box u 102 [zB a.Greatest,zB a.All,zS r a.Terms.length t]::own 2 K g j d::own 123 b l m k::L) d6:=a4
   refine bO (Kt:=c) (xs:=([⟨o,wr (n+p),q⟩]:List aO)) (cs:=[i64 o,i64 (wr (n+p)),zS x q.length y]) (vs:=[(0,zA #[i64 o,i64 (wr (n+p)),zS x q.length y])]) eL aBk rfl rfl a4 rfl (by kernel_rfl) rfl rfl rfl ⟨⟨x,y,rfl,d8⟩,trivial⟩ (fun d9 e0 (e1:aF G c (own 123 c d9 1 ([⟨o,wr (n+p),q⟩]:List aO)::box u 102 [zB a.Greatest,zB a.All,zS r a.Terms.length t]::own 2 K g j d::own 123 b l m k::L) e0)=>(aY (aC ⟨⟨_,aCN⟩,?_⟩)))
   refine fR rfl ?_;obtain ⟨e2,e3,hm⟩:=aB hm
   refine aEC (i:=2) c eL underlying94 aBk rfl rfl e1 rfl a3 (zR _) e3 rfl rfl rfl rfl (fun _ _ _ h=>El.one h) (fun b6 b7 e4 (e5:aF G c (box u 102 [zB a.Greatest,zB a.All,zS r a.Terms.length t]::own 2 K g j d::own 123 c b6 b7 e2::L) e4)=>(aY (aC ⟨⟨_,(aF.weakK e5 a3)⟩,?_⟩)))
   refine aAW ?_;refine lV (aAW ?_)
   exact ⟨_,(zI hm).symm,bG,c,b6,b7,(zL a2 a3),rfl,rfl,aCN⟩
  ·exact aN
theorem aEW {p:(List Int)} {a:cN} {b:Nat} {R:Bool} (hm:aAC p a=some R) (d:aF G K (L) w) (e:bI K a1 c2 p) (g:dR K a4 b (zC a a7 c8 a10 c11)) (h:bI K a7 c8 a.L) (i:bI K a10 c11 a.E):
  Calls prog 90 ([zS a1 p.length c2,cE a4 b]:List Value).toArray w (dL fun v w'=>v=zB R/\aF G K (L) w'):=by
 refine aBM func90 ?_;unfold aAC at hm
 refine aAW ?_;exact bD [] (fun f w=>∃ c,yH c=some R/\f 3=zB c/\aF G K (L) w) aN aN
theorem kZ {c:(List (List Int))} {a:cN} {b:Nat} {R:Int} (hm:fD c a=some R) (u:aF G K (L) w) (i:bI K a1 c2 c) (j:dR K a4 b (zC a a7 c8 a10 c11)) (k:bI K a7 c8 a.L) (l:bI K a10 c11 a.E):
  Calls prog 89 ([zS a1 c.length c2,Value.func (.func 90) #[] #[cE a4 b]]:List Value).toArray w (dL fun v w'=>v=i64 R/\aF G K (L) w'):=by
 refine aBM func89 ?_;unfold fD at hm
 refine aAW ?_;refine aS [] (fun f w=>lT=some R/\aF G K (L) w) aN ?_
 obtain ⟨x,m,ho⟩:=aB hm
 refine eK [0,1,7] m (fun d f w=>f 8=i64 d/\aF G K (L) w) aN ?_
 ·rintro d y f z hm hr ⟨J,n⟩
  unfold cT at hm
  refine aAW ?_
  rcases aM hm with ⟨o,hm⟩|⟨o,hm⟩
  ·refine aAW ?_;refine bZ (aAW ?_)
   obtain ⟨e,p,hm⟩:=aB hm
   refine aAW ?_;obtain ⟨Z,a0,q⟩:=bI.el (sz:=1) rfl i p
   obtain ⟨g,h,rfl,r⟩:=q
   refine aAW ?_;obtain ⟨a2,t,hm⟩:=aB hm
   exact nT (vs:=[zS g e.length h]) (caps:=[cE a4 b]) (us:=[zS g e.length h,cE a4 b]) rfl call90 rfl rfl (aEW t n r j k l) aN
  ·exact aN
theorem aIo {t:cN} {a:(List (List Int))} {R:Int} (hm:aDt t a=some R) (l:aF G K (L) w) (c:bI K a1 c2 t.L) (d:bI K a4 c5 t.E) (e:bI K a7 c8 a):
  Calls prog 46 ([zA (zCa t a1 c2 a4 c5),zS a7 a.length c8]:List Value).toArray w (dL fun v w'=>v=i64 R/\aF G K (L) w'):=by
 refine aBM func46 ?_;unfold aDt at hm
 refine aAW ?_;refine aGg fun g m h=>?_
 iterate 6 refine aBh ?_
 refine aD (oY (vs:=[zP (some ⟨g,0,none⟩)]) rfl) ?_;obtain ⟨n,b,i,j,o⟩:=aF.lendBp h .head
 obtain ⟨p,k,hm⟩:=aB hm
 exact aAZ call89 (kZ k j (e.mono b) i (c.mono b) (d.mono b)) aN
theorem zH {e:(List aT)} {t:cN} {R:((List bB) × (List (List Int)) × (List aO) × Int × Int)} (hm:mI e t=some R) (hs:aF G K (L) w) (hG:G.lo=0) (h3:bI K a1 c2 e) (J:bI K a4 c5 t.L) (Z:bI K a7 c8 t.E):
  Calls prog 16 ([zS a1 e.length c2,zA (zCa t a4 c5 a7 c8)]:List Value).toArray w (dL fun v w'=>∃ q a0 a2 a3 a5 a6 a8 a9,v=Value.tuple #[zP (if (R.2.2.2.2 != 0)=false then some ⟨a9,0,none⟩ else none),i64 R.2.2.2.2]/\Hp.le K q/\bI q a0 a2 R.1/\aF G q (own 88 q a3 a5 R.2.1::own 123 q a6 a8 R.2.2.1::bxc (R.2.2.2.2 != 0) false a9 98 [zS a1 e.length c2,i64 t.N,i64 t.I,zS a4 t.L.length c5,zS a7 t.E.length c8,zS a0 R.1.length a2,zS a3 R.2.1.length a5,zS a6 R.2.2.1.length a8,i64 R.2.2.2.1]::L) w'):=by
 refine aBM func16 ?_;unfold mI at hm
 refine aAW ?_;refine aGg fun c0 e3 c1=>?_
 refine aAW ?_;obtain ⟨a,c3,hm⟩:=aB hm
 refine aAZ call44 (aCk c3 c1 hG h3 J Z) ?_
 rintro _ b0 ⟨b,k,l,c,d,rfl,r,b1⟩
 refine aAW ?_
 rcases aM hm with ⟨x,hm⟩|⟨x,hm⟩
 ·refine aAW ?_
  have c4:=aF.nil (α:=(List Int)) b1 88 b
  have c6:=aF.nil (α:=aO) c4 123 b
  have e4:aF G b (bxc (a.2.2 != 0) false 0 98 [zS a1 e.length c2,i64 t.N,i64 t.I,zS a4 t.L.length c5,zS a7 t.E.length c8,zS none 0 0,zS none ([]:List (List Int)).length 0,zS none ([]:List aO).length 0,i64 0]::own 123 b none 0 ([]:List aO)::own 88 b none 0 ([]:List (List Int))::own 102 b k l a.1::own 88 b c d a.2.1::box c0 28 (zC t a4 c5 a7 c8)::L) b0:=aF.bxcN (fun h=>absurd (x) (by rw [h];decide)) c6
  obtain rfl:=zI hm
  exact nD (kJ (retQ_2 results16 rfl rfl ⟨b,none,0,none,0,none,0,0,(tp2 (ptr_no (fun h=>absurd (x) (by rw [h];decide)) rfl) rfl),r,aCO _,aCN⟩))
 ·refine aAW ?_;obtain ⟨c9,o,e5,b2,_⟩:=aF.lendBp b1 zt2
  replace b2:aF G c9 (own 102 b k l a.1::own 88 b c d a.2.1::L) b0:=b2
  refine aGG [(0,0),(1,0),(2,0),(3,0),(4,0),(6,0),(7,0),(5,1),(8,1),(9,0),(10,1),(11,0),(12,0)] fun d0 d1=>?_;refine aAW ?_
  refine fR rfl ?_;obtain ⟨d2,j,b3,y⟩:=aF.giveSp d1 o .head
  replace y:aF G d2 (own 88 b c d a.2.1::L) d0:=y
  obtain ⟨p,d3,hm⟩:=aB hm
  refine aAZ call45 (aIn d3 y b3) ?_
  rintro _ e6 ⟨m,n,c45,rfl,g,b4⟩
  refine aY (aC ⟨⟨_,(aF.weakK b4 (zL j g))⟩,?_⟩)
  refine fR rfl ?_;obtain ⟨e7,b5,d4,d5,d6⟩:=aF.lendSp b4 (zL (zL o j) g) zt1
  obtain ⟨u,d7,hm⟩:=aB hm
  refine aAZ call46 (aIo d7 d5 (J.mono (zL (zL (zL (zL r o) j) g) b5)) (Z.mono (zL (zL (zL (zL r o) j) g) b5)) d4) ?_
  rintro _ e8 ⟨rfl,d8⟩
  have d9:=d6 _ _ d8
  refine aY (aC ⟨⟨_,(aF.weakK d9 (zL j g))⟩,?_⟩)
  refine aZ rfl (fun _ _=>cO (vs:=[(0,zS a1 e.length c2),(1,zA (zCa t a4 c5 a7 c8)),(2,zS k a.1.length l),(3,zS c a.2.1.length d),(4,zS n p.length c45),(5,i64 u)]) (cs:=[zS a1 e.length c2,i64 t.N,i64 t.I,zS a4 t.L.length c5,zS a7 t.E.length c8,zS k a.1.length l,zS c a.2.1.length d,zS n p.length c45,i64 u]) bs_98 rfl (by kernel_rfl)) (fR rfl (aGg fun z b6 b7=>?_));refine aY (aC ⟨⟨_,(aF.weakK b7 (zL j g))⟩,?_⟩)
  refine aAW ?_;refine lV (aAW ?_)
  have e0:aF G m (box z 98 [zS a1 e.length c2,i64 t.N,i64 t.I,zS a4 t.L.length c5,zS a7 t.E.length c8,zS k a.1.length l,zS c a.2.1.length d,zS n p.length c45,i64 u]::own 88 m c d a.2.1::own 123 m n c45 p::L) b6:=aF.weak (i:=1) b7 rfl (fun _ h=>own.mono (zL (zL o j) g) h)
  have e9:aF G m (bxc (0 != 0) false z 98 [zS a1 e.length c2,i64 t.N,i64 t.I,zS a4 t.L.length c5,zS a7 t.E.length c8,zS k a.1.length l,zS c a.2.1.length d,zS n p.length c45,i64 u]::own 88 m c d a.2.1::own 123 m n c45 p::L) b6:=aF.bxcT (i:=0) e0 rfl
  obtain rfl:=zI hm
  exact nD (retQ_2 results16 rfl rfl ⟨m,k,l,c,d,n,c45,z,(tp2 (ptr_yes (by decide:(0 != 0)=false) rfl) rfl),(zL (zL (zL r o) j) g),(b3.mono g),aCN⟩)
theorem gM {x_:(List Bool)} {k:Int} {R:(List Bool)} (hm:gG x_ k=some R) (hs:aF G K (L) w) (h3:bI K a1 c2 x_):
  Calls prog 183 ([zS a1 x_.length c2,i64 k]:List Value).toArray w (dL fun v w'=>∃ t u,v=zS t R.length u/\aF G K (own 4 K t u R::L) w'):=by
 refine aBM func183 ?_;unfold gG at hm
 iterate 5 refine aBh ?_
 refine gQ [0,1] (fun f w=>iB x_ k=some R/\aF G K (L) w) ?_ ?_
 ·rintro f w4 ⟨hm,a8⟩
  unfold iB at hm
  refine aL (aG (v:=zS a1 x_.length c2) (aD (bC (len:=x_.length) cQ rfl) (aD (aFC runUnderlying147 rfl ⟨_,runUnderlying3⟩) (aG (v:=i64 k) (aD (aFC runUnderlying147 rfl ⟨_,runUnderlying3⟩) ?_)))));obtain ⟨c,q7,hm⟩:=aB hm
  refine aAZ call149 (aPE a8 q7) ?_
  rintro _ w8 ⟨rfl,x⟩
  refine aG (v:=Value.tuple #[Value.int .u64 c.1,Value.int .u64 c.2]) (aD (bY rfl rfl) (aD (bY rfl rfl) (aH (v:=Value.int .u64 c.1) (aH (v:=Value.int .u64 c.2) (aI (gQ [0,6] (fun f w=>iA x_ c=some R/\aF G K (L) w) ?_ ?_))))))
  ·rintro f d3 ⟨hm,b0⟩
   unfold iA at hm
   refine aL (aG (v:=Value.int .u64 c.2) (aD (aKb runUnderlying3 rfl ⟨_,runUnderlying147⟩) ?_));obtain ⟨a,b1,hm⟩:=aB hm
   refine aBb (e:=(false:Bool)) cQ aEy rfl rfl b0 rfl rfl rfl b1 rfl (fun b b2 (y:aF G K (own 4 K b a.length a::L) b2)=>(aH (v:=zS b a.length a.length) (aI (aL (aG (v:=zS b a.length a.length) (aG (v:=zS a1 x_.length c2) ?_))))));obtain ⟨b3,z,hm⟩:=aB hm
   refine aKg cQ rfl y (i:=0) rfl Cut.whole rfl rfl rfl (aIE _ _ _) aHD (aMP rfl y h3) z (fun b4 (b5:aF G K (own 4 K b a.length b3::L) b4)=>(aH (v:=i64 ((Nat.min x_.length a.length):Int)) (aI (aK (aS [] (fun f w=>∃ h,hQ h=some R/\f 7=zS b h.length a.length/\aF G K (own 4 K b a.length h::L) w) ?_ ?_)))))
   ·rintro f d4 ⟨h,hm,b6,b7⟩
    unfold hQ at hm
    refine aC (aL (bA b6 (aH (v:=zS b h.length a.length) (aI ?_))));obtain rfl:=zI hm
    exact aOM results183 ⟨b,a.length,rfl,b7⟩
   obtain ⟨d5,b9,ho⟩:=aB hm
   refine bN [] b9 (fun j l f w=>f 7=zS b j.length a.length/\f 8=i64 l/\aF G K (own 4 K b a.length j::L) w) ?_ ?_
   ·exact ⟨(Eq.trans rfl (congrArg (fun n=>zS b n a.length) (aGi z))),rfl,b5⟩
   ·rintro j l d6 f d7 hm hr ⟨m,o,d8⟩
    unfold hY at hm
    refine aK (aL (bA o (bA m (aD (bC (len:=j.length) cQ rfl) (aD (cH rfl rfl) (aI ?_))))))
    rcases aM hm with ⟨q,hm⟩|⟨q,hm⟩
    ·refine aR q rfl (aW (aC (bZ (aGG [(0,0),(1,0),(2,0),(3,0),(4,0),(5,0),(6,0),(7,1),(8,0),(9,0)] fun d9 p=>?_))));refine aZ rfl (fun _ _=>aV o) (aZ rfl (fun _ _=>aV m) (aZ rfl (fun _ _=>aV o) ?_))
     obtain ⟨c0,c1,hm⟩:=aB hm
     have c3:=qA p (i:=0) rfl
     obtain ⟨e0,e1,J⟩:=Cut.ex 1 b a.length l
     refine aZ rfl (fun _ _=>aHE cQ c3 J rfl rfl rfl c1) (aZ rfl (fun _ _=>aV m) (aZ rfl (fun _ _=>aV o) ?_));obtain ⟨c4,Z,hm⟩:=aB hm
     have c5:=qA p (i:=0) rfl
     obtain ⟨e2,e3,a0⟩:=Cut.ex 1 b a.length 0
     refine aZ rfl (fun _ _=>aKV cQ c5 a0 rfl rfl rfl Z) (fR rfl ?_);obtain ⟨c6,a2,hm⟩:=aB hm
     refine aKg cQ rfl p (i:=0) rfl J rfl rfl rfl (aIE _ _ _) aHD (aJx rfl p (i:=0) rfl Z a0) a2 (fun c7 (a3:aF G K (own 4 K b a.length c6::L) c7)=>(aY (aC ⟨⟨_,a3⟩,?_⟩)))
     exact aZ rfl (fun _ _=>cJ rfl rfl) (aZ rfl (fun _ _=>cY (v:=i64 (wr (l+((Nat.min c4.length c0.length):Int)))) rfl) (lV (bW (aC ⟨_,(zI hm).symm,bG,(Eq.trans m (congrArg (fun n=>zS b n a.length) (aGi a2))),rfl,a3⟩))))
    ·refine aX q rfl (yO (gZ (gZ ?_)))
     have c8:=hr _ (zI hm).symm
     subst c8
     have hm:(hQ j)=some R:=ho
     exact aN
  refine aK (bD [0,6] (fun f w=>∃ r,fH x_ c r=some R/\f 26=zB r/\aF G K (L) w) ?_ ?_)
  ·rintro f e4 ⟨r,hm,c9,d0⟩
   unfold fH at hm
   refine aC ?_
   rcases aM hm with ⟨a4,hm⟩|⟨a4,hm⟩
   ·exact aN
   ·exact aX a4 c9 (aW (aC ⟨bG,hm,d0⟩))
  refine aU (aG (v:=Value.int .u64 c.1) (aD (zU rfl rfl) (aG (v:=zB (decide (0 < c.1))) ?_)))
  rcases aM hm with ⟨d,hm⟩|⟨d,hm⟩
  ·exact eG d rfl rfl (eG d rfl rfl (aD (fN (v:=zB true) d rfl rfl) (aI ⟨bG,true,hm,rfl,x⟩)))
  ·exact cR d rfl rfl (aG (v:=Value.int .u64 c.2) (cR d rfl rfl (aD (zU rfl rfl) (aD (eJ (v:=zB (decide (9223372036854775807 < c.2))) d rfl rfl) (aI ⟨bG,decide (9223372036854775807 < c.2),hm,rfl,x⟩)))))
 refine aAW ?_
 rcases aM hm with ⟨a5,hm⟩|⟨a5,hm⟩
 ·exact aN
 ·exact aX a5 rfl (aW (aC ⟨bG,hm,hs⟩))
end Gv
