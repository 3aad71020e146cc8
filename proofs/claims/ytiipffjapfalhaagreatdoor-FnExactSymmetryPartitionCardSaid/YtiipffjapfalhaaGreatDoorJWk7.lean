/- Walks, printed by program. -/
import Derived.Test.YtiipffjapfalhaaGreatDoorJWk5
set_option linter.all false
namespace Gv
open Gv.Hp renaming le_refl→zR
open Go.Value renaming slice→zS,bool→zB,agg→zA
open Go Go.Proofs Go.Proofs.Tryz
set_option maxRecDepth 20000
set_option maxHeartbeats 40000000
variable {G:nX} {K:Hp} {L:List fJ} {w:World} {a1 a4:Option Addr} {c2 c5:Nat}
theorem aET {p:Part} {R:Bool} (hm:wV p=some R) (g:aF G K (L) w) (h:bK K a1 c2 p.Arguments):
  Calls prog 247 ([zA #[i64 p.Kind,i64 p.Number,str p.Name,zS a1 p.Arguments.length c2]]:List Value).toArray w (dD fun v w'=>v=zB R/\aF G K (L) w'):=by
 let c:=[i64 p.Kind,i64 p.Number,str p.Name,zS a1 p.Arguments.length c2]
 refine aBe func247 ?_;unfold wV at hm
 refine tD ?_;refine aGh fun d i j=>?_
 iterate 4 refine aBL ?_
 refine bQ [1] (fun f w=>∃ a,qJ p a=some R/\f 3=zB a/\aF G K (box d 159 c::L) w) ?_ ?_
 ·rintro f k ⟨a,hm,l,m⟩
  unfold qJ at hm
  iterate 2 refine aBL ?_
  refine bQ [1,3] (fun f w=>∃ b,nB p a b=some R/\f 4=zB b/\aF G K (box d 159 c::L) w) ?_ ?_
  ·rintro f n ⟨b,hm,o,q⟩
   unfold nB at hm
   iterate 2 refine aBL ?_
   exact bQ [] (fun f w=>∃ e,eC e=some R/\f 2=zB e/\aF G K (L) w) aL aL
  exact aL
 exact aL
theorem aDk {p:Part} {a:(List Definition)} {R:Bool} (hm:uI p a=some R) (d:aF G K (L) w) (e:bK K a1 c2 p.Arguments) (g:bK K a4 c5 a):
  Calls prog 248 ([zA #[i64 p.Kind,i64 p.Number,str p.Name,zS a1 p.Arguments.length c2],zS a4 a.length c5]:List Value).toArray w (dD fun v w'=>v=zB R/\aF G K (L) w'):=by
 refine aBe func248 ?_;unfold uI at hm
 refine tD ?_;refine aGh fun h i j=>?_
 refine tD ?_;refine bT (tD ?_)
 rcases aM hm with ⟨c,hm⟩|⟨c,hm⟩
 ·iterate 2 refine aBL ?_
  exact bQ [] (fun f w=>∃ b,oQ b=some R/\f 4=zB b/\aF G K (L) w) aL aL
 ·exact aL
theorem aMT {t:aW} {a:Int} {R:Bool} (hm:aDS t a=some R) (b:aF G K (L) w):
  Calls prog 289 ([zA #[i64 t.Kind,i64 t.Value],i64 a]:List Value).toArray w (dD fun v w'=>v=zB R/\aF G K (L) w'):=by
 exact aL
theorem aCD {t:aW} {R:Int} (hm:xX t=some R) (a:aF G K (L) w):
  Calls prog 290 ([zA #[i64 t.Kind,i64 t.Value]]:List Value).toArray w (dD fun v w'=>v=i64 R/\aF G K (L) w'):=by
 exact aL
theorem aMU {e:(List aW)} {a h:Int} {R:Bool} (hm:aAK e a h=some R) (t:aF G K (L) w) (k:bK K a1 c2 e):
  Calls prog 251 ([zS a1 e.length c2,i64 a,i64 h]:List Value).toArray w (dD fun v w'=>v=zB R/\aF G K (L) w'):=by
 refine aBe func251 ?_;unfold aAK at hm
 iterate 7 refine aBL ?_
 refine bQ [0,1] (fun f w=>∃ b,oB e a b=some R/\f 24=zB b/\aF G K (L) w) ?_ ?_
 ·rintro f u ⟨b,hm,x,y⟩
  unfold oB at hm
  refine tD ?_
  rcases aM hm with ⟨l,hm⟩|⟨l,hm⟩
  ·exact aL
  ·refine tD ?_;refine aQ [] (fun f w=>∃ i,aHX i=some R/\f 7=i64 i/\aF G K (L) w) aL ?_
   obtain ⟨z,m,ho⟩:=aB hm
   refine cA [1,25,26] m (fun c d f w=>f 7=i64 c/\f 27=i64 d/\aF G K (L) w) aL ?_
   ·rintro c d n f J hm hr ⟨V,a0,a2⟩
    unfold sH at hm
    refine tD ?_
    rcases aM hm with ⟨o,hm⟩|⟨o,hm⟩
    ·refine tD ?_;refine bT (tD ?_)
     obtain ⟨g,p,hm⟩:=aB hm
     refine tD ?_;obtain ⟨a3,a4,q⟩:=bK.el (sz:=2) rfl k p
     cases q
     refine tD ?_;refine aGf fun r a5 a6=>?_
     refine aFe fun a7 a8=>?_
     iterate 4 refine aBL ?_
     exact bQ [1,7,9,25,26,27] (fun f w=>∃ j,xY c d g j=some n/\f 38=zB j/\aF G K (box r 275 [i64 g.Kind,i64 g.Value]::L) w) aL aL
    ·exact aL
 exact aL
theorem aBk {e:(List aW)} {p:dV} {a:Nat} {R:Bool} (hm:aBw e p=some R) (b:aF G K (L) w) (c:bK K a1 c2 e) (d:eU K a4 a [i64 p.scope,zB p.behind]):
  Calls prog 250 ([zS a1 e.length c2,dS a4 a]:List Value).toArray w (dD fun v w'=>v=zB R/\aF G K (L) w'):=by
 exact aL
theorem nO {s_:(List (List aW))} {b:dV} {a:Nat} {R:Int} (hm:eB s_ b=some R) (q:aF G K (L) w) (h:bK K a1 c2 s_) (i:eU K a4 a [i64 b.scope,zB b.behind]):
  Calls prog 288 ([zS a1 s_.length c2,Value.func (.func 250) #[] #[dS a4 a]]:List Value).toArray w (dD fun v w'=>v=i64 R/\aF G K (L) w'):=by
 refine aBe func288 ?_;unfold eB at hm
 refine tD ?_;refine aQ [] (fun f w=>iS=some R/\aF G K (L) w) aL ?_
 obtain ⟨r,j,ho⟩:=aB hm
 refine cE [0,1,7] j (fun c f w=>f 8=i64 c/\aF G K (L) w) aL ?_
 ·rintro c t f u hm hr ⟨x,k⟩
  unfold cY at hm
  refine tD ?_
  rcases aM hm with ⟨l,hm⟩|⟨l,hm⟩
  ·refine tD ?_;refine bT (tD ?_)
   obtain ⟨d,m,hm⟩:=aB hm
   refine tD ?_;obtain ⟨y,z,n⟩:=bK.el (sz:=1) rfl h m
   obtain ⟨e,g,rfl,o⟩:=n
   refine tD ?_;obtain ⟨J,p,hm⟩:=aB hm
   exact pT (vs:=[zS e d.length g]) (caps:=[dS a4 a]) (us:=[zS e d.length g,dS a4 a]) rfl call250 rfl rfl (aBk p k o i) aL
  ·exact aL
theorem gU {s_:(List (List aW))} {a:dV} {b:Nat} {R:Bool} (hm:dR s_ a=some R) (c:aF G K (L) w) (d:bK K a1 c2 s_) (e:eU K a4 b [i64 a.scope,zB a.behind]):
  Calls prog 249 ([zS a1 s_.length c2,Value.func (.func 250) #[] #[dS a4 b]]:List Value).toArray w (dD fun v w'=>v=zB R/\aF G K (L) w'):=by
 exact aL
theorem aLA {p:Part} {b:(List Definition)} {a:dV} {R:Int} (hm:sQ p b a=some R) (hs:aF G K (L) w) (h:bK K a1 c2 p.Arguments) (m:bK K a4 c5 b):
  Calls prog 216 ([zA #[i64 p.Kind,i64 p.Number,str p.Name,zS a1 p.Arguments.length c2],zS a4 b.length c5,zA #[i64 a.scope,zB a.behind]]:List Value).toArray w (dD fun v w'=>v=i64 R/\aF G K (L) w'):=by
 let d:=[i64 p.Kind,i64 p.Number,str p.Name,zS a1 p.Arguments.length c2]
 let e:=[i64 a.scope,zB a.behind]
 refine aBe func216 ?_;unfold sQ at hm
 refine tD ?_;refine aGh fun g w8 a8=>?_
 refine aGh fun c a9 n=>?_;refine tD ?_
 refine bT (tD ?_);obtain ⟨b0,o,hm⟩:=aB hm
 refine aCO call247 (aET o n h) ?_
 rintro _ b1 ⟨rfl,b2⟩
 refine tD ?_
 rcases aM hm with ⟨q,hm⟩|⟨q,hm⟩
 ·exact aL
 ·iterate 2 refine aBL ?_
  refine bQ [1,3,5] (fun f w=>∃ i,kS p b a i=some R/\f 11=zB i/\aF G K (box c 298 e::box g 159 d::L) w) ?_ ?_
  ·rintro f b3 ⟨i,hm,b4,b5⟩
   unfold kS at hm
   refine tD ?_
   rcases aM hm with ⟨r,hm⟩|⟨r,hm⟩
   ·exact aL
   ·iterate 2 refine aBL ?_
    refine bQ [1,3,5] (fun f w=>∃ j,iO p b a j=some R/\f 26=zB j/\aF G K (box c 298 e::box g 159 d::L) w) ?_ ?_
    ·rintro f b6 ⟨j,hm,b8,t⟩
     unfold iO at hm
     refine tD ?_
     rcases aM hm with ⟨u,hm⟩|⟨u,hm⟩
     ·exact aL
     ·refine tD ?_;obtain ⟨b9,x,hm⟩:=aB hm
      refine aCO call248 (aDk x t h m) ?_
      rintro _ c0 ⟨rfl,c1⟩
      refine tD ?_
      rcases aM hm with ⟨y,hm⟩|⟨y,hm⟩
      ·exact aL
      ·iterate 2 refine aBL ?_
       refine bQ [3,5] (fun f w=>∃ k,nD p a k=some R/\f 54=zB k/\aF G K (box c 298 e::box g 159 d::L) w) ?_ ?_
       ·rintro f c3 ⟨k,hm,c4,c6⟩
        unfold nD at hm
        refine tD ?_
        rcases aM hm with ⟨z,hm⟩|⟨z,hm⟩
        ·exact aL
        ·iterate 2 refine aBL ?_
         refine bQ [3,5] (fun f w=>∃ l,nC p a l=some R/\f 63=zB l/\aF G K (box c 298 e::box g 159 d::L) w) ?_ ?_
         ·rintro f c7 ⟨l,hm,c8,J⟩
          unfold nC at hm
          refine tD ?_
          rcases aM hm with ⟨V,hm⟩|⟨V,hm⟩
          ·exact aL
          ·iterate 5 refine aBL ?_
           refine aC (rD (vs:=[Value.pointer (some ⟨c,0,none⟩)]) rfl) ?_;obtain ⟨c9,a0,a2,a3,d0⟩:=aF.lendBp J .head
           obtain ⟨d1,a5,hm⟩:=aB hm
           exact aCO call249 (gU a5 a3 (h.mono a0) a2) aL
         exact aL
       exact aL
    exact aL
  exact aL
theorem aNS {a:(List Definition)} {d:Definition} {R:(Int × Int)} (hm:zJ a d=some R) (o:aF G K (L) w) (p:bK K a1 c2 a) (c:bK K a4 c5 d.Body):
  Calls prog 159 ([zS a1 a.length c2,zA #[str d.Name,i64 d.Parameters,zS a4 d.Body.length c5]]:List Value).toArray w (dD fun v w'=>v=Value.tuple #[i64 R.1,i64 R.2]/\aF G K (L) w'):=by
 refine aBe func159 ?_;unfold zJ at hm
 refine tD ?_;refine aGh fun e q r=>?_
 refine tD ?_;refine bQ [0,3] (fun f w=>∃ b,uK a d b=some R/\f 22=zB b/\aF G K (box e 101 [str d.Name,i64 d.Parameters,zS a4 d.Body.length c5]::L) w) ?_ ?_
 ·rintro f t ⟨b,hm,u,g⟩
  unfold uK at hm
  refine tD ?_
  rcases aM hm with ⟨h,hm⟩|⟨h,hm⟩
  ·exact aL
  ·refine tD ?_;obtain ⟨i,j,hm⟩:=aB hm
   refine aCO call215 (xF j g c) ?_
   rintro _ x ⟨k,l,rfl,y⟩
   refine tD ?_;refine aQ [] (fun f w=>aJc=some R/\aF G K (L) w) aL ?_
   obtain ⟨z,m,ho⟩:=aB hm
   exact cE [0,6,26,27] m (fun n f w=>f 28=i64 n/\aF G K (aP 298 K k l i::L) w) aL aL
 exact aL
theorem zQ {b:(List Definition)} {R:Bool} (hm:jG b=some R) (hs:aF G K (L) w) (d:bK K a1 c2 b):
  Calls prog 111 ([zS a1 b.length c2]:List Value).toArray w (dD fun v w'=>v=zB R/\aF G K (L) w'):=by
 refine aBe func111 ?_;unfold jG at hm
 iterate 7 refine aBL ?_
 refine bQ [0] (fun f w=>∃ e,kN b e=some R/\f 15=zB e/\aF G K (L) w) ?_ ?_
 ·rintro f w6 ⟨e,hm,e5,a7⟩
  unfold kN at hm
  refine tD ?_
  rcases aM hm with ⟨k,hm⟩|⟨k,hm⟩
  ·exact aL
  ·refine tD ?_;refine aQ [] (fun f w=>aBi=some R/\aF G K (L) w) aL ?_
   obtain ⟨a8,l,ho⟩:=aB hm
   refine cE [0,16,17] l (fun g f w=>f 18=i64 g/\aF G K (L) w) aL ?_
   ·rintro g m f a9 hm hr ⟨b0,b1⟩
    unfold kM at hm
    refine tD ?_
    rcases aM hm with ⟨n,hm⟩|⟨n,hm⟩
    ·refine tD ?_;refine bT (tD ?_)
     obtain ⟨a,o,hm⟩:=aB hm
     refine tD ?_;obtain ⟨b2,b3,p⟩:=bK.el (sz:=3) rfl d o
     obtain ⟨q,r,rfl,b4⟩:=p
     refine tD ?_;refine aGf fun t b5 b6=>?_
     refine tD ?_;refine aFe fun b7 c=>?_
     refine tD ?_;refine bQ [0,4,16,17,18] (fun f w=>∃ h,nS b g a h=some m/\f 35=zB h/\aF G K (box t 101 [str a.Name,i64 a.Parameters,zS q a.Body.length r]::L) w) aL (aRj ?_)
     refine tD ?_;obtain ⟨u,x,hm⟩:=aB hm
     refine pL (vs:=[str a.Name]) (v:=zB u) call157 rfl (fun _ c=>(aKV x c)) (tD ?_)
     rcases aM hm with ⟨y,hm⟩|⟨y,hm⟩
     ·exact aL
     ·refine tD ?_;obtain ⟨z,i,hm⟩:=aB hm
      obtain ⟨J,V,j⟩:=Cut.ex 3 a1 c2 0
      have a0:=bK.cut' d i j
      refine bU (fun _ c=>R_slVH yQ d.room j rfl rfl rfl i) (tD ?_);obtain ⟨a2,a3,hm⟩:=aB hm
      exact pL (vs:=[zS J z.length V,str a.Name]) (v:=i64 a2) call158 rfl (fun _ c=>(aAY a3 c a0)) aL
    ·exact aL
 exact aL
theorem aLB {a:(List Definition)} {c:aY} {R:Bool} (hm:wW a c=some R) (d:aF G K (L) w) (e:bK K a1 c2 a) (g:bK K a4 c5 c.Values):
  Calls prog 115 ([zS a1 a.length c2,zA #[i64 c.Definition,zS a4 c.Values.length c5]]:List Value).toArray w (dD fun v w'=>v=zB R/\aF G K (L) w'):=by
 refine aBe func115 ?_;unfold wW at hm
 refine tD ?_;refine aGh fun h i j=>?_
 refine tD ?_;exact bQ [] (fun f w=>∃ b,qK b=some R/\f 4=zB b/\aF G K (L) w) aL aL
theorem aHB {a b:bB} {R:Int} (hm:oR a b=some R) (d:aF G K (L) w):
  Calls prog 164 ([zA #[str a.Left,str a.Right,str a.Result],zA #[str b.Left,str b.Right,str b.Result]]:List Value).toArray w (dD fun v w'=>v=i64 R/\aF G K (L) w'):=by
 refine aBe func164 ?_;unfold oR at hm
 refine tD ?_;refine aGh fun e g h=>?_
 refine aGh fun i j k=>?_;refine tD ?_
 refine aIs ([a.Left,a.Right]:List aO) fun l m n=>?_;refine tD ?_
 refine aIs ([b.Left,b.Right]:List aO) fun o p c=>?_;obtain ⟨q,r,t,u,x⟩:=aF.lendSp c (Hp.le_refl _) zt1
 exact aL
theorem aCE {o p:bB} {a:Nat} {R:Bool} (hm:xZ o p=some R) (c:aF G K (L) w) (d:eU K a1 a [str p.Left,str p.Right,str p.Result]):
  Calls prog 166 ([zA #[str o.Left,str o.Right,str o.Result],dS a1 a]:List Value).toArray w (dD fun v w'=>v=zB R/\aF G K (L) w'):=by
 refine aBe func166 ?_;unfold xZ at hm
 refine tD ?_;refine aGh fun e g h=>?_
 iterate 4 refine aBL ?_
 exact bQ [] (fun f w=>∃ b,rQ b=some R/\f 3=zB b/\aF G K (L) w) aL aL
theorem mX {s_:(List bB)} {b:bB} {c:Nat} {R:Int} (hm:dW s_ b=some R) (n:aF G K (L) w) (e:bK K a1 c2 s_) (g:eU K a4 c [str b.Left,str b.Right,str b.Result]):
  Calls prog 221 ([zS a1 s_.length c2,Value.func (.func 166) #[] #[dS a4 c]]:List Value).toArray w (dD fun v w'=>v=i64 R/\aF G K (L) w'):=by
 refine aBe func221 ?_;unfold dW at hm
 refine tD ?_;refine aQ [] (fun f w=>iF=some R/\aF G K (L) w) aL ?_
 obtain ⟨o,h,ho⟩:=aB hm
 refine cE [0,1,7] h (fun d f w=>f 8=i64 d/\aF G K (L) w) aL ?_
 ·rintro d p f q hm hr ⟨r,i⟩
  unfold cT at hm
  refine tD ?_
  rcases aM hm with ⟨j,hm⟩|⟨j,hm⟩
  ·refine tD ?_;refine bT (tD ?_)
   obtain ⟨a,k,hm⟩:=aB hm
   refine tD ?_;obtain ⟨t,u,l⟩:=bK.el (sz:=3) rfl e k
   cases l
   refine tD ?_;obtain ⟨x,m,hm⟩:=aB hm
   exact pT (vs:=[zA #[str a.Left,str a.Right,str a.Result]]) (caps:=[dS a4 c]) (us:=[zA #[str a.Left,str a.Right,str a.Result],dS a4 c]) rfl call166 rfl rfl (aCE m i g) aL
  ·exact aL
theorem gL {s_:(List bB)} {a:bB} {b:Nat} {R:Bool} (hm:dJ s_ a=some R) (c:aF G K (L) w) (d:bK K a1 c2 s_) (e:eU K a4 b [str a.Left,str a.Right,str a.Result]):
  Calls prog 165 ([zS a1 s_.length c2,Value.func (.func 166) #[] #[dS a4 b]]:List Value).toArray w (dD fun v w'=>v=zB R/\aF G K (L) w'):=by
 exact aL
theorem aMV {a:(List bB)} {R:Bool} (hm:rR a=some R) (t:aF G K (L) w) (e:bK K a1 c2 a):
  Calls prog 116 ([zS a1 a.length c2]:List Value).toArray w (dD fun v w'=>v=zB R/\aF G K (L) w'):=by
 refine aBe func116 ?_;unfold rR at hm
 refine tD ?_;refine aQ [0] (fun f w=>aHY a=some R/\aF G K (L) w) aL ?_
 obtain ⟨u,h,ho⟩:=aB hm
 refine cE [0,5,6] h (fun c f w=>f 7=i64 c/\aF G K (L) w) aL ?_
 ·rintro c i f x hm hr ⟨y,z⟩
  unfold kI at hm
  refine tD ?_
  rcases aM hm with ⟨j,hm⟩|⟨j,hm⟩
  ·refine tD ?_;refine bT (tD ?_)
   obtain ⟨b,k,hm⟩:=aB hm
   refine tD ?_;obtain ⟨J,V,l⟩:=bK.el (sz:=3) rfl e k
   cases l
   refine tD ?_;refine aGf fun g a0 a2=>?_
   refine tD ?_;refine aFe fun a3 a4=>?_
   refine tD ?_;refine bQ [0,4,5,6,7] (fun f w=>∃ d,iM a c b d=some i/\f 48=zB d/\aF G K (box g 105 [str b.Left,str b.Right,str b.Result]::L) w) ?_ ?_
   ·rintro f a5 ⟨d,hm,a6,m⟩
    unfold iM at hm
    refine tD ?_
    rcases aM hm with ⟨n,hm⟩|⟨n,hm⟩
    ·exact aL
    ·iterate 6 refine aBL ?_
     refine aC (rD (vs:=[Value.pointer (some ⟨g,0,none⟩)]) rfl) ?_;obtain ⟨a7,o,p,q,a8⟩:=aF.lendBp m .head
     obtain ⟨a9,r,hm⟩:=aB hm
     exact aCO call165 (gL r q (e.mono o) p) aL
   exact aL
  ·exact aL
theorem aQt {a:(List aO)} {R:Bool} (hm:aEg a=some R) (k:aF G K (L) w) (d:bK K a1 c2 a):
  Calls prog 117 ([zS a1 a.length c2]:List Value).toArray w (dD fun v w'=>v=zB R/\aF G K (L) w'):=by
 refine aBe func117 ?_;unfold aEg at hm
 refine tD ?_;refine aQ [0] (fun f w=>aHt a=some R/\aF G K (L) w) aL ?_
 obtain ⟨l,e,ho⟩:=aB hm
 refine cE [0,5,6] e (fun b f w=>f 7=i64 b/\aF G K (L) w) aL ?_
 ·rintro b g f m hm hr ⟨n,o⟩
  unfold aAM at hm
  refine tD ?_
  rcases aM hm with ⟨h,hm⟩|⟨h,hm⟩
  ·refine tD ?_;refine bT (tD ?_)
   obtain ⟨p,i,hm⟩:=aB hm
   refine tD ?_;obtain ⟨q,r,j⟩:=bK.el (sz:=1) rfl d i
   cases j
   iterate 6 refine aBL ?_
   exact bQ [0,5,6,7] (fun f w=>∃ c,aAL b c=some g/\f 27=zB c/\aF G K (L) w) aL aL
  ·exact aL
end Gv
namespace Gv
open Gv.Hp renaming le_refl→zR
open Go.Value renaming slice→zS,bool→zB,agg→zA
open Option.some renaming inj→zI
open Gv.Hp renaming le_trans→zL
open Go Go.Proofs Go.Proofs.Tryz
set_option maxRecDepth 20000
set_option maxHeartbeats 40000000
variable {G:nX} {K:Hp} {L:List fJ} {w:World} {a1 a4 a7 a10 a13 a16 a19:Option Addr} {c2 c8 c11 c14 c17 c20 c5:Nat}
theorem aBl {c:aY} {p:bE} {a:Nat} {R:Bool} (hm:aBx c p=some R) (b:aF G K (L) w) (d:bK K a1 c2 c.Values) (e:eU K a4 a [zS a7 p.Definitions.length c8,zS a10 p.Components.length c11,zS a13 p.Meetings.length c14,zS a16 p.Allowed.length c17,zS a19 p.Hidden.length c20]) (g:bK K a7 c8 p.Definitions) (h:bK K a10 c11 p.Components) (i:bK K a13 c14 p.Meetings) (j:bK K a16 c17 p.Allowed) (k:bK K a19 c20 p.Hidden):
  Calls prog 114 ([zA #[i64 c.Definition,zS a1 c.Values.length c2],dS a4 a]:List Value).toArray w (dD fun v w'=>v=zB R/\aF G K (L) w'):=by
 exact aL
theorem lO {s_:(List aY)} {a:bE} {b:Nat} {R:Int} (hm:dI s_ a=some R) (x:aF G K (L) w) (g:bK K a1 c2 s_) (h:eU K a4 b [zS a7 a.Definitions.length c8,zS a10 a.Components.length c11,zS a13 a.Meetings.length c14,zS a16 a.Allowed.length c17,zS a19 a.Hidden.length c20]) (i:bK K a7 c8 a.Definitions) (j:bK K a10 c11 a.Components) (k:bK K a13 c14 a.Meetings) (l:bK K a16 c17 a.Allowed) (m:bK K a19 c20 a.Hidden):
  Calls prog 160 ([zS a1 s_.length c2,Value.func (.func 114) #[] #[dS a4 b]]:List Value).toArray w (dD fun v w'=>v=i64 R/\aF G K (L) w'):=by
 refine aBe func160 ?_;unfold dI at hm
 refine tD ?_;refine aQ [] (fun f w=>gO=some R/\aF G K (L) w) aL ?_
 obtain ⟨y,n,ho⟩:=aB hm
 refine cE [0,1,7] n (fun d f w=>f 8=i64 d/\aF G K (L) w) aL ?_
 ·rintro d z f J hm hr ⟨V,o⟩
  unfold cI at hm
  refine tD ?_
  rcases aM hm with ⟨p,hm⟩|⟨p,hm⟩
  ·refine tD ?_;refine bT (tD ?_)
   obtain ⟨c,q,hm⟩:=aB hm
   refine tD ?_;obtain ⟨a0,a2,r⟩:=bK.el (sz:=2) rfl g q
   obtain ⟨e,c48,rfl,t⟩:=r
   refine tD ?_;obtain ⟨a3,u,hm⟩:=aB hm
   exact pT (vs:=[zA #[i64 c.Definition,zS e c.Values.length c48]]) (caps:=[dS a4 b]) (us:=[zA #[i64 c.Definition,zS e c.Values.length c48],dS a4 b]) rfl call114 rfl rfl (aBl u o t h i j k l m) aL
  ·exact aL
theorem fQ {s_:(List aY)} {a:bE} {b:Nat} {R:Bool} (hm:dE s_ a=some R) (c:aF G K (L) w) (d:bK K a1 c2 s_) (e:eU K a4 b [zS a7 a.Definitions.length c8,zS a10 a.Components.length c11,zS a13 a.Meetings.length c14,zS a16 a.Allowed.length c17,zS a19 a.Hidden.length c20]) (g:bK K a7 c8 a.Definitions) (h:bK K a10 c11 a.Components) (i:bK K a13 c14 a.Meetings) (j:bK K a16 c17 a.Allowed) (k:bK K a19 c20 a.Hidden):
  Calls prog 113 ([zS a1 s_.length c2,Value.func (.func 114) #[] #[dS a4 b]]:List Value).toArray w (dD fun v w'=>v=zB R/\aF G K (L) w'):=by
 exact aL
theorem aLC {s_:bE} {R:Int} (hm:wX s_=some R) (y:aF G K (L) w) (b:bK K a1 c2 s_.Definitions) (c:bK K a4 c5 s_.Components) (g:bK K a7 c8 s_.Meetings) (h:bK K a10 c11 s_.Allowed) (i:bK K a13 c14 s_.Hidden):
  Calls prog 79 ([zA #[zS a1 s_.Definitions.length c2,zS a4 s_.Components.length c5,zS a7 s_.Meetings.length c8,zS a10 s_.Allowed.length c11,zS a13 s_.Hidden.length c14]]:List Value).toArray w (dD fun v w'=>v=i64 R/\aF G K (L) w'):=by
 refine aBe func79 ?_;unfold wX at hm
 refine tD ?_;refine aGh fun d z j=>?_
 refine tD ?_;refine bT (tD ?_)
 obtain ⟨J,k,hm⟩:=aB hm
 refine aCO call111 (zQ k j b) ?_
 rintro _ V ⟨rfl,l⟩
 refine tD ?_
 rcases aM hm with ⟨m,hm⟩|⟨m,hm⟩
 ·exact aL
 ·iterate 2 refine aBL ?_
  refine bQ [1] (fun f w=>∃ e,vI s_ e=some R/\f 8=zB e/\aF G K (box d 36 [zS a1 s_.Definitions.length c2,zS a4 s_.Components.length c5,zS a7 s_.Meetings.length c8,zS a10 s_.Allowed.length c11,zS a13 s_.Hidden.length c14]::L) w) aL (tD ?_);obtain ⟨a0,n,hm⟩:=aB hm
  refine aCO call112 (aKU n l) ?_
  rintro _ a2 ⟨rfl,o⟩
  refine tD ?_
  rcases aM hm with ⟨p,hm⟩|⟨p,hm⟩
  ·exact aL
  ·iterate 5 refine aBL ?_
   refine aC (rD (vs:=[Value.pointer (some ⟨d,0,none⟩)]) rfl) (tD ?_);obtain ⟨a3,a,q,r,t⟩:=aF.lendBp o .head
   obtain ⟨a5,u,hm⟩:=aB hm
   refine aCO call113 (fQ u r (c.mono a) q (b.mono a) (c.mono a) (g.mono a) (h.mono a) (i.mono a)) ?_
   rintro _ a6 ⟨rfl,x⟩
   have a8:=t _ _ x
   exact aL
theorem aLD {s_:bE} {R:Bool} (hm:wY s_=some R) (a:aF G K (L) w) (b:bK K a1 c2 s_.Definitions) (c:bK K a4 c5 s_.Components) (d:bK K a7 c8 s_.Meetings) (e:bK K a10 c11 s_.Allowed) (g:bK K a13 c14 s_.Hidden):
  Calls prog 52 ([zA #[zS a1 s_.Definitions.length c2,zS a4 s_.Components.length c5,zS a7 s_.Meetings.length c8,zS a10 s_.Allowed.length c11,zS a13 s_.Hidden.length c14]]:List Value).toArray w (dD fun v w'=>v=zB R/\aF G K (L) w'):=by
 exact aL
theorem aGG {n:Int} {R:Bool} (hm:aJd n=some R) (a:aF G K (L) w):
  Calls prog 237 ([i64 n]:List Value).toArray w (dD fun v w'=>v=zB R/\aF G K (L) w'):=by
 exact aL
theorem sM {s_:(List Int)} {R:Int} (hm:fR s_=some R) (k:aF G K (L) w) (c:bK K a1 c2 s_):
  Calls prog 252 ([zS a1 s_.length c2,Value.func (.func 237) #[] #[]]:List Value).toArray w (dD fun v w'=>v=i64 R/\aF G K (L) w'):=by
 refine aBe func252 ?_;unfold fR at hm
 refine tD ?_;refine aQ [] (fun f w=>kZ=some R/\aF G K (L) w) aL ?_
 obtain ⟨l,d,ho⟩:=aB hm
 refine cE [0,1,7] d (fun a f w=>f 8=i64 a/\aF G K (L) w) aL ?_
 ·rintro a m f n hm hr ⟨o,e⟩
  unfold dY at hm
  refine tD ?_
  rcases aM hm with ⟨g,hm⟩|⟨g,hm⟩
  ·refine tD ?_;refine bT (tD ?_)
   obtain ⟨b,h,hm⟩:=aB hm
   refine tD ?_;obtain ⟨p,q,i⟩:=bK.el (sz:=1) rfl c h
   cases i
   refine tD ?_;obtain ⟨r,j,hm⟩:=aB hm
   exact pT (vs:=[i64 b]) (caps:=[]) (us:=[i64 b]) rfl call237 rfl rfl (aGG j e) aL
  ·exact aL
theorem qM {s_:(List Int)} {R:Bool} (hm:eY s_=some R) (a:aF G K (L) w) (b:bK K a1 c2 s_):
  Calls prog 217 ([zS a1 s_.length c2,Value.func (.func 237) #[] #[]]:List Value).toArray w (dD fun v w'=>v=zB R/\aF G K (L) w'):=by
 exact aL
theorem aRr {a:(List Int)} {R:Bool} (hm:aJf a=some R) (c:aF G K (L) w) (d:bK K a1 c2 a):
  Calls prog 186 ([zS a1 a.length c2]:List Value).toArray w (dD fun v w'=>v=zB R/\aF G K (L) w'):=by
 refine aBe func186 ?_;unfold aJf at hm
 iterate 6 refine aBL ?_
 exact bQ [] (fun f w=>∃ b,aJe b=some R/\f 2=zB b/\aF G K (L) w) aL aL
theorem aPg {a:(List Int)} {R:aO} (hm:aHu a=some R) (b:aF G K (L) w) (c:G.lo=0) (d:bK K a1 c2 a):
  Calls prog 129 ([zS a1 a.length c2]:List Value).toArray w (dD fun v w'=>v=str R/\aF G K (L) w'):=by
 exact aL
theorem aNT {p:GPoint} {R:aO} (hm:aJg p=some R) (a:aF G K (L) w) (b:G.lo=0) (c:bK K a1 c2 p.Values):
  Calls prog 85 ([zA #[i64 p.Definition,i64 p.Part,zS a1 p.Values.length c2]]:List Value).toArray w (dD fun v w'=>v=str R/\aF G K (L) w'):=by
 exact aL
theorem aIk {p:GPoint} {R:aO} (hm:aEK p=some R) (a:aF G K (L) w) (b:G.lo=0) (c:bK K a1 c2 p.Values):
  Calls prog 54 ([zA #[i64 p.Definition,i64 p.Part,zS a1 p.Values.length c2]]:List Value).toArray w (dD fun v w'=>v=str R/\aF G K (L) w'):=by
 exact aL
theorem yF {a:(List GPoint)} {R:aO} (hm:yL a=some R) (i:aF G K (L) w) (l:G.lo=0) (m:bK K a1 c2 a):
  Calls prog 27 ([zS a1 a.length c2]:List Value).toArray w (dD fun v w'=>v=str R/\aF G K (L) w'):=by
 refine aBe func27 ?_;unfold yL at hm
 refine tD ?_;refine aQ [] (fun f w=>∃ b c d,aGc b=some R/\f 3=zS c b.length d/\aF G K (aP 9 K c d b::L) w) aL ?_
 have n:=aF.nil (α:=aO) i 9 K
 obtain ⟨o,j,ho⟩:=aB hm
 exact cA [6,7] j (fun e k f w=>∃ g h,f 3=zS g e.length h/\f 8=i64 k/\aF G K (aP 9 K g h e::L) w) aL aL
theorem qN {s_ R:(List Edge)} (hm:dZ s_=some R) (hs:aF G K (aP 92 K a1 c2 s_::L) w):
  Calls prog 173 ([zS a1 s_.length c2]:List Value).toArray w (dD fun v w'=>∃ z J,v=zS z R.length J/\aF G K (aP 92 K z J R::L) w'):=by
 refine aBe func173 ?_;unfold dZ at hm
 refine tD ?_
 rcases aM hm with ⟨c3,hm⟩|⟨c3,hm⟩
 ·exact aL
 ·refine tD ?_;refine aQ [0] (fun f w=>jU s_=some R/\aF G K (aP 92 K a1 c2 s_::L) w) aL ?_
  obtain ⟨e8,b7,ho⟩:=aB hm
  refine cE [0] b7 (fun c f w=>f 3=i64 c/\aF G K (aP 92 K a1 c2 s_::L) w) aL ?_
  ·rintro c V f e9 hm hr ⟨f0,d⟩
   unfold dM at hm
   refine tD ?_
   rcases aM hm with ⟨b8,hm⟩|⟨b8,hm⟩
   ·refine tD ?_;refine aQ [0] (fun f w=>eM c=some V/\f 3=i64 c/\aF G K (aP 92 K a1 c2 s_::L) w) ?_ ?_
    ·rintro f f1 ⟨hm,f2,b9⟩
     unfold eM at hm
     refine tD ?_;exact ⟨_,(zI hm).symm,bZ,rfl,b9⟩
    refine tD ?_;refine aRj ?_
    refine tD ?_;obtain ⟨c0,a0,hm⟩:=aB hm
    have b:=cR d (i:=0) rfl a0
    refine bU (fun _ d=>dH mA rfl b rfl rfl rfl a0) (tD ?_);obtain ⟨c1,c4,hm⟩:=aB hm
    refine bU (fun _ d=>dH mA rfl b rfl rfl rfl c4) (tD ?_);refine bU (fun _ d=>R_eqlG (eq_92 (x:=c0) (y:=c1)) rfl rfl) (pU (fun f3 c5=>(tD ?_)))
    rcases aM hm with ⟨c6,hm⟩|⟨c6,hm⟩
    ·refine tD ?_;obtain ⟨f4,e,hm⟩:=aB hm
     have g:=aHc c5 (i:=0) rfl
     obtain ⟨f5,f6,j⟩:=Cut.ex 3 a1 c2 c
     refine aC (aPK mA g j rfl rfl rfl e) (tD ?_);refine aQ [] (fun f w=>∃ k l,eN k l=some V/\f 0=zS a1 k.length c2/\f 3=i64 l/\aF G K (aP 92 K a1 c2 k::L) w) ?_ ?_
     ·rintro f f7 ⟨k,l,hm,c7,f8,a2⟩
      unfold eN at hm
      refine tD ?_;obtain ⟨f9,c8,hm⟩:=aB hm
      have c9:=aHc a2 (i:=0) rfl
      obtain ⟨g0,g1,a3⟩:=Cut.ex 3 a1 c2 l
      refine aC (aPK mA c9 a3 rfl rfl rfl c8) ?_;obtain ⟨a4,a5,hm⟩:=aB hm
      refine aRT mA aOB rfl a2 (i:=0) rfl a3 rfl rfl a5 (fun a6 (a7:aF G K (aP 92 K a1 c2 a4::L) a6)=>?_)
      iterate 4 refine aBL ?_
      refine aZ (v:=zS a1 a4.length c2) (Eq.trans c7 (congrArg (fun n=>zS a1 n c2) (ovw_len a5))) (tD ?_);obtain ⟨a8,a9,hm⟩:=aB hm
      have d0:=aHc a7 (i:=0) rfl
      obtain ⟨d1,d2,b0⟩:=Cut.ex 3 a1 c2 0
      refine aC (R_slVH mA d0 b0 rfl rfl rfl a9) (tD ?_);refine aCe (aCf (lT (lT (lT ?_))))
      have d3:=hr _ (zI hm).symm
      subst d3
      have hm:(some a8)=some R:=ho
      clear hr ho
      have g2:aF G K (aP 92 K d1 d2 a8::L) a6:=aF.cutP a7 (i:=0) rfl a9 b0
      exact aL
     obtain ⟨g3,d4,ho⟩:=aB hm
     refine iE [4] d4 (fun o p q f w=>f 0=zS a1 o.length c2/\f 3=i64 p/\f 5=i64 q/\aF G K (aP 92 K a1 c2 o::L) w) aL ?_
     ·rintro o p q d5 f g4 hm hr ⟨d6,g5,g6,r⟩
      unfold dL at hm
      refine tD ?_
      rcases aM hm with ⟨d7,hm⟩|⟨d7,hm⟩
      ·refine tD ?_;refine aQ [4,5] (fun f w=>∃ m u,dK q m u=some d5/\f 0=zS a1 m.length c2/\f 3=i64 u/\aF G K (aP 92 K a1 c2 m::L) w) ?_ ?_
       ·rintro f g7 ⟨m,u,hm,d8,d9,e0⟩
        unfold dK at hm
        refine tD ?_;exact ⟨_,(zI hm).symm,bZ,d8,d9,rfl,e0⟩
       refine tD ?_;refine aRj ?_
       refine tD ?_;obtain ⟨g8,b1,hm⟩:=aB hm
       obtain ⟨a,e1,hm⟩:=aB hm
       refine bU (fun _ r=>aRS mA b j e g rfl rfl rfl b1 rfl) (tD ?_);obtain ⟨g9,e2,hm⟩:=aB hm
       obtain ⟨e3,h0,hm⟩:=aB hm
       refine bU (fun _ r=>aRS mA b j e g rfl rfl rfl e2 rfl) (tD ?_);refine bU (fun _ r=>R_neqG (eq_92 (x:=a) (y:=e3)) rfl rfl) (pU (fun h1 b2=>(tD ?_)))
       rcases aM hm with ⟨e4,hm⟩|⟨e4,hm⟩
       ·refine tD ?_;refine aC (aRS mA b j e g rfl rfl rfl b1 rfl) (aC (aGY (t:=0) (vs:=[i64 a.F,i64 a.B,i64 a.To]) aFr b2 (i:=0) rfl e1 rfl rfl rfl rfl) ?_)
        obtain ⟨h2,b3,hm⟩:=aB hm
        refine aC (dH mA rfl b rfl rfl rfl b3) ?_;obtain ⟨b4,b5,hm⟩:=aB hm
        refine lW (i:=0) (t:=0) (ns:=[i64 a.F,i64 a.B,i64 a.To]) (e':=(⟨a.F,a.B,a.To⟩:Edge)) sizeOf92 b2 rfl (zR _) rfl rfl rfl b3 b5 rfl rfl (fW rfl) rfl (fun cs h=>by cases h;rfl) (fun e5 (e6:aF G K (aP 92 K a1 c2 b4::L) e5)=>(tD ?_));exact ⟨bZ,b4,wr (p+1),hm,(Eq.trans d6 (congrArg (fun n=>zS a1 n c2) (bS b5))),rfl,e6⟩
       ·exact aL
      ·exact aL
    ·exact aL
   ·exact aL
theorem lP {s_ R:(List aO)} (hm:eX s_=some R) (hs:aF G K (aP 9 K a1 c2 s_::L) w):
  Calls prog 169 ([zS a1 s_.length c2]:List Value).toArray w (dD fun v w'=>∃ r u,v=zS r R.length u/\aF G K (aP 9 K r u R::L) w'):=by
 refine aBe func169 ?_;unfold eX at hm
 refine tD ?_
 rcases aM hm with ⟨c3,hm⟩|⟨c3,hm⟩
 ·exact aL
 ·refine tD ?_;refine aQ [0] (fun f w=>mF s_=some R/\aF G K (aP 9 K a1 c2 s_::L) w) aL ?_
  obtain ⟨e3,b5,ho⟩:=aB hm
  refine cE [0] b5 (fun b f w=>f 3=i64 b/\aF G K (aP 9 K a1 c2 s_::L) w) aL ?_
  ·rintro b x f e4 hm hr ⟨e5,l⟩
   unfold eJ at hm
   refine tD ?_
   rcases aM hm with ⟨b6,hm⟩|⟨b6,hm⟩
   ·refine tD ?_;refine aQ [0] (fun f w=>fT b=some x/\f 3=i64 b/\aF G K (aP 9 K a1 c2 s_::L) w) ?_ ?_
    ·rintro f e6 ⟨hm,e7,b7⟩
     unfold fT at hm
     refine tD ?_;exact ⟨_,(zI hm).symm,bZ,rfl,b7⟩
    refine tD ?_;refine aRj ?_
    refine tD ?_;obtain ⟨e8,y,hm⟩:=aB hm
    have a:=cR l (i:=0) rfl y
    refine bU (fun _ l=>dH fM rfl a rfl rfl rfl y) (tD ?_);obtain ⟨e9,b8,hm⟩:=aB hm
    refine bU (fun _ l=>dH fM rfl a rfl rfl rfl b8) (tD ?_);refine pU (fun f0 b9=>(tD ?_))
    rcases aM hm with ⟨c0,hm⟩|⟨c0,hm⟩
    ·refine tD ?_;obtain ⟨f1,c,hm⟩:=aB hm
     have d:=aHc b9 (i:=0) rfl
     obtain ⟨f2,f3,e⟩:=Cut.ex 1 a1 c2 b
     refine aC (aPK fM d e rfl rfl rfl c) (tD ?_);refine aQ [] (fun f w=>∃ g j,fU g j=some x/\f 0=zS a1 g.length c2/\f 3=i64 j/\aF G K (aP 9 K a1 c2 g::L) w) ?_ ?_
     ·rintro f f4 ⟨g,j,hm,c1,f5,z⟩
      unfold fU at hm
      refine tD ?_;obtain ⟨f6,c4,hm⟩:=aB hm
      have c5:=aHc z (i:=0) rfl
      obtain ⟨f7,f8,J⟩:=Cut.ex 1 a1 c2 j
      refine aC (aPK fM c5 J rfl rfl rfl c4) ?_;obtain ⟨V,a0,hm⟩:=aB hm
      refine aRT fM aKx rfl z (i:=0) rfl J rfl rfl a0 (fun a2 (a3:aF G K (aP 9 K a1 c2 V::L) a2)=>?_)
      iterate 4 refine aBL ?_
      refine aZ (v:=zS a1 V.length c2) (Eq.trans c1 (congrArg (fun n=>zS a1 n c2) (ovw_len a0))) (tD ?_);obtain ⟨a4,a5,hm⟩:=aB hm
      have c6:=aHc a3 (i:=0) rfl
      obtain ⟨c7,c8,a6⟩:=Cut.ex 1 a1 c2 0
      refine aC (R_slVH fM c6 a6 rfl rfl rfl a5) (tD ?_);refine aCe (aCf (lT (lT (lT ?_))))
      have c9:=hr _ (zI hm).symm
      subst c9
      have hm:(some a4)=some R:=ho
      clear hr ho
      have f9:aF G K (aP 9 K c7 c8 a4::L) a2:=aF.cutP a3 (i:=0) rfl a5 a6
      exact aL
     obtain ⟨g0,d0,ho⟩:=aB hm
     refine iE [4] d0 (fun m o p f w=>f 0=zS a1 m.length c2/\f 3=i64 o/\f 5=i64 p/\aF G K (aP 9 K a1 c2 m::L) w) aL ?_
     ·rintro m o p d1 f g1 hm hr ⟨d2,g2,g3,a7⟩
      unfold eH at hm
      refine tD ?_
      rcases aM hm with ⟨d3,hm⟩|⟨d3,hm⟩
      ·refine tD ?_;refine aQ [4,5] (fun f w=>∃ k q,eG p k q=some d1/\f 0=zS a1 k.length c2/\f 3=i64 q/\aF G K (aP 9 K a1 c2 k::L) w) ?_ ?_
       ·rintro f g4 ⟨k,q,hm,d4,d5,d6⟩
        unfold eG at hm
        refine tD ?_;exact ⟨_,(zI hm).symm,bZ,d4,d5,rfl,d6⟩
       refine tD ?_;refine aRj ?_
       refine tD ?_;obtain ⟨g5,a8,hm⟩:=aB hm
       obtain ⟨a9,d7,hm⟩:=aB hm
       refine bU (fun _ a7=>aRS fM a e c d rfl rfl rfl a8 rfl) (tD ?_);obtain ⟨g6,d8,hm⟩:=aB hm
       obtain ⟨g7,g8,hm⟩:=aB hm
       refine bU (fun _ a7=>aRS fM a e c d rfl rfl rfl d8 rfl) (tD ?_);refine pU (fun g9 b0=>(tD ?_))
       rcases aM hm with ⟨d9,hm⟩|⟨d9,hm⟩
       ·refine tD ?_;refine aC (aRS fM a e c d rfl rfl rfl a8 rfl) (aC (aEm (t:=0) pE b0 (i:=0) rfl d7 rfl rfl rfl) ?_)
        obtain ⟨h0,b1,hm⟩:=aB hm
        refine aC (dH fM rfl a rfl rfl rfl b1) ?_;obtain ⟨b2,b3,hm⟩:=aB hm
        refine lW (i:=0) (t:=0) (ns:=[str a9]) (e':=(a9:aO)) sizeOf9 b0 rfl (zR _) rfl rfl rfl b1 b3 rfl rfl (fW rfl) rfl (fun cs h=>by cases h;rfl) (fun e0 (e1:aF G K (aP 9 K a1 c2 b2::L) e0)=>(tD ?_));exact ⟨bZ,b2,wr (o+1),hm,(Eq.trans d2 (congrArg (fun n=>zS a1 n c2) (bS b3))),rfl,e1⟩
       ·exact aL
      ·exact aL
    ·exact aL
   ·exact aL
theorem mK {s_:(List aO)} {a:aO} {R:Int} (hm:eK s_ a=some R) (d:aF G K (L) w) (e:bK K a1 c2 s_):
  Calls prog 170 ([zS a1 s_.length c2,str a]:List Value).toArray w (dD fun v w'=>v=i64 R/\aF G K (L) w'):=by
 refine aBe func170 ?_;unfold eK at hm
 refine tD ?_;refine aQ [] (fun f w=>nN=some R/\aF G K (L) w) aL ?_
 obtain ⟨g,b,ho⟩:=aB hm
 exact cE [0,1,7] b (fun c f w=>f 8=i64 c/\aF G K (L) w) aL aL
theorem aHC {a b:Int} {x:(List aO)} {y:(List lS)} {R:iZ} (hm:aRX a b x y=some R) (hs:aF G K (L) w) (h3:bK K a1 c2 x) (h6:bK K a4 c5 y):
  Calls prog 120 ([i64 a,i64 b,zS a1 x.length c2,zS a4 y.length c5]:List Value).toArray w (dD fun v w'=>∃ a3 a5 a6 a7,v=zA (zCa R a3 a5 a6 a7)/\aF G K (aP 9 K a3 a5 R.L::aP 92 K a6 a7 R.E::L) w'):=by
 let h:=zG
 refine aBe func120 ?_;unfold aRX at hm
 refine tD ?_;refine aGf fun j w8 f2=>?_
 refine tD ?_;refine aIs ([([116,97,117]:aO)]:List aO) fun f3 f4 b4=>?_
 refine tD ?_;obtain ⟨n,b5,hm⟩:=aB hm
 refine aSI (i:=0) fM underlying25 aKx rfl rfl b4 rfl (zR _) h3 b5 rfl rfl rfl rfl (fun d e b6 (f5:aF G K (aP 9 K d e n::box j 51 h::L) b6)=>(aC (jE (vs:=[(0,i64 a),(1,i64 b),(2,zS d n.length e)]) (cs:=[i64 a,i64 b,zS d n.length e,zS none 0 0]) bs_51 rfl (by kernel_rfl)) (aGf fun o f6 f7=>?_)));refine aFe fun b8 f8=>?_
 refine tD ?_
 have b9:aF G K (aP 9 K d e n::box o 51 [i64 a,i64 b,zS d n.length e,zS none 0 0]::box j 51 h::L) b8:=aDq
 obtain ⟨a8,c0,hm⟩:=aB hm
 refine aCO call167 (lib_SortStr b9 c0) ?_
 rintro _ c1 ⟨rfl,c3,c4⟩
 have c6:aF G K (aP 9 K d e a8::box o 51 [i64 a,i64 b,zS d a8.length e,zS none 0 0]::box j 51 h::L) c1:=by rw [←c3];exact c4
 refine tD ?_;obtain ⟨g,c7,hm⟩:=aB hm
 refine aCO call169 (lP c7 c6) ?_
 rintro _ f9 ⟨k,l,rfl,g0⟩
 refine tD ?_;refine aFe fun g1 c8=>?_
 refine tD ?_;refine aQ [8,9] (fun f w=>∃ r p q,aMI a b g r=some R/\aF G K (aP 92 K p q r::aP 9 K k l g::box o 51 [i64 a,i64 b,zS k g.length l,zS p r.length q]::box j 51 h::L) w) ?_ ?_
 ·rintro f g2 ⟨r,p,q,hm,c9⟩
  unfold aMI at hm
  refine tD ?_;obtain ⟨a9,d0,hm⟩:=aB hm
  refine aCO call171 (lib_SortEdge c9 d0) ?_
  rintro _ d1 ⟨rfl,d2,d3⟩
  have g3:aF G K (aP 92 K p q a9::aP 9 K k l g::box o 51 [i64 a,i64 b,zS k g.length l,zS p a9.length q]::box j 51 h::L) d1:=by rw [←d2];exact d3
  exact aL
 have g4:=aF.nil (α:=Edge) c8 92 K
 obtain ⟨g5,d4,ho⟩:=aB hm
 refine cA [8,9,25,26] d4 (fun z b0 f w=>∃ J V,f 27=i64 b0/\aF G K (aP 92 K J V z::aP 9 K k l g::box o 51 [i64 a,i64 b,zS k g.length l,zS J z.length V]::box j 51 h::L) w) aL ?_
 ·rintro z b0 g6 f g7 hm hr ⟨J,V,g8,g9⟩
  unfold aJh at hm
  refine tD ?_
  rcases aM hm with ⟨d5,hm⟩|⟨d5,hm⟩
  ·refine tD ?_;refine bT (tD ?_)
   obtain ⟨m,d6,hm⟩:=aB hm
   refine tD ?_;obtain ⟨h0,h1,d7⟩:=bK.el (sz:=3) rfl h6 d6
   cases d7
   refine tD ?_;refine aGf fun h2 h4 h5=>?_
   refine aFe fun h7 d8=>?_;refine tD ?_
   obtain ⟨h8,d9,a0,e0,h9⟩:=aF.lendBp d8 .head
   obtain ⟨i0,u,e1,i1,e2⟩:=aF.lendBp e0 zt2
   refine st_w [(0,0),(1,0),(2,0),(3,0),(4,0),(5,0),(6,0),(7,0),(9,0),(10,0),(8,1),(11,0),(12,1),(13,1),(14,0),(15,2)] fun i2 c=>?_;refine tD ?_
   refine bW rfl (fun _ ⟨_,c⟩=>cD (t:=0) kQ c (a0.mono u) rfl rfl) (bW rfl (fun _ _=>bG (t':=2) aHh rfl rfl) (bW rfl (fun _ ⟨_,c⟩=>cD (t:=2) aIH c e1 rfl rfl) (bW rfl (fun _ _=>bG (t':=1) aUt rfl rfl) (bW rfl (fun _ ⟨_,c⟩=>cD (t:=1) pE c (a0.mono u) rfl rfl) (bW rfl (fun _ _=>bG (t':=2) aUu rfl rfl) (bW rfl (fun _ ⟨_,c⟩=>cD (t:=2) kQ c (a0.mono u) rfl rfl) (nT rfl ?_)))))));obtain ⟨i3,i4,e3,e4,e5⟩:=aF.lendSp c (zL d9 u) zt1
   obtain ⟨a2,e6,hm⟩:=aB hm
   refine aCO call170 (mK e6 e4 e3) ?_
   rintro _ i5 ⟨rfl,e7⟩
   have e8:=e5 _ _ e7
   refine bN (aD ⟨⟨_,e8⟩,?_⟩)
   refine bW rfl (fun _ _=>jE (vs:=[(0,i64 m.from_),(1,i64 a2),(2,i64 m.to_)]) (cs:=[i64 m.from_,i64 a2,i64 m.to_]) bs_92 rfl (by kernel_rfl)) (nT rfl (aIs ([⟨m.from_,a2,m.to_⟩]:List Edge) fun i6 i7 e9=>?_));refine bN (aD ⟨⟨_,e9⟩,?_⟩)
   refine nT rfl ?_;obtain ⟨i8,i9,hm⟩:=aB hm
   refine st_p fun j0 j1 j2 b1=>?_;refine bN (aD ⟨⟨_,b1⟩,?_⟩)
   refine tD ?_
   have j3:=e2 _ _ b1
   exact aL
  ·exact aL
theorem aCV {a:(List lS)} {R:(List aO)} (hm:aBz a=some R) (k:aF G K (L) w) (n:bK K a1 c2 a):
  Calls prog 121 ([zS a1 a.length c2]:List Value).toArray w (dD fun v w'=>∃ c d,v=zS c R.length d/\aF G K (aP 9 K c d R::L) w'):=by
 refine aBe func121 ?_;unfold aBz at hm
 refine tD ?_;refine aQ [] (fun f w=>∃ b e g,aKQ b=some R/\f 3=zS e b.length g/\aF G K (aP 9 K e g b::L) w) aL ?_
 have o:=aF.nil (α:=aO) k 9 K
 obtain ⟨p,l,ho⟩:=aB hm
 exact cA [6,7] l (fun h m f w=>∃ i j,f 3=zS i h.length j/\f 8=i64 m/\aF G K (aP 9 K i j h::L) w) aL aL
theorem aLE {t:iZ} {k:Int} {R:Bool} (hm:sT t k=some R) (a:aF G K (L) w) (b:bK K a1 c2 t.L) (c:bK K a4 c5 t.E):
  Calls prog 174 ([zA (zCa t a1 c2 a4 c5),i64 k]:List Value).toArray w (dD fun v w'=>v=zB R/\aF G K (L) w'):=by
 exact aL
theorem aIl {t:iZ} {R:Bool} (hm:aBA t=some R) (z:aF G K (L) w) (J:G.lo=0) (i:bK K a1 c2 t.L) (j:bK K a4 c5 t.E):
  Calls prog 122 ([zA (zCa t a1 c2 a4 c5)]:List Value).toArray w (dD fun v w'=>v=zB R/\aF G K (L) w'):=by
 let a:=(zC t a1 c2 a4 c5)
 refine aBe func122 ?_;unfold aBA at hm
 refine tD ?_;refine aGh fun b V a0=>?_
 iterate 5 refine aBL ?_
 refine bQ [1] (fun f w=>∃ c,pI t c=some R/\f 30=zB c/\aF G K (box b 51 a::L) w) ?_ ?_
 ·rintro f a2 ⟨c,hm,a3,a5⟩
  unfold pI at hm
  refine tD ?_
  rcases aM hm with ⟨k,hm⟩|⟨k,hm⟩
  ·exact aL
  ·refine tD ?_;refine aQ [1] (fun f w=>aBX t=some R/\aF G K (box b 51 a::L) w) ?_ ?_
   ·rintro f a6 ⟨hm,a7⟩
    unfold aBX at hm
    refine tD ?_;refine aQ [] (fun f w=>aKR=some R/\aF G K (L) w) aL ?_
    obtain ⟨a8,l,ho⟩:=aB hm
    refine cE [1,65,66] l (fun d f w=>f 67=i64 d/\aF G K (box b 51 a::L) w) aL ?_
    ·rintro d m f a9 hm hr ⟨b0,b1⟩
     unfold wZ at hm
     refine tD ?_
     rcases aM hm with ⟨n,hm⟩|⟨n,hm⟩
     ·refine tD ?_;refine bT (tD ?_)
      obtain ⟨b2,o,hm⟩:=aB hm
      refine tD ?_;obtain ⟨b3,b4,p⟩:=bK.el (sz:=3) rfl j o
      cases p
      refine tD ?_;refine aGf fun b5 b6 b8=>?_
      refine tD ?_;refine aFe fun b9 c0=>?_
      refine tD ?_;exact bQ [1,65,66,67] (fun f w=>∃ g,pH d g=some m/\f 107=zB g/\aF G K (box b 51 a::L) w) aL aL
     ·exact aL
   obtain ⟨c1,q,ho⟩:=aB hm
   refine cE [1,32,33] q (fun e f w=>f 34=i64 e/\aF G K (box b 51 a::L) w) aL ?_
   ·rintro e r f c3 hm hr ⟨c4,c6⟩
    unfold xA at hm
    refine tD ?_
    rcases aM hm with ⟨u,hm⟩|⟨u,hm⟩
    ·refine tD ?_;refine bT (tD ?_)
     obtain ⟨c7,x,hm⟩:=aB hm
     refine tD ?_;obtain ⟨c8,c9,y⟩:=bK.el (sz:=1) rfl i x
     cases y
     iterate 6 refine aBL ?_
     exact bQ [1,32,33,34] (fun f w=>∃ h,sU e h=some r/\f 62=zB h/\aF G K (box b 51 a::L) w) aL aL
    ·exact aL
 exact aL
theorem gK {s_ R:(List Int)} (hm:bY s_=some R) (r:aF G K (L) w) (a:bK K a1 c2 s_):
  Calls prog 123 ([zS a1 s_.length c2]:List Value).toArray w (dD fun v w'=>∃ b c,v=zS b R.length c/\aF G K (aP 2 K b c R::L) w'):=by
 refine aBe func123 ?_;unfold bY at hm
 iterate 9 refine aBL ?_
 refine aC (R_isNil fZ rfl rfl) (tD ?_)
 rcases nil_cases a with ⟨g,h,j⟩|k
 ·subst g;subst h;subst j
  refine W_cond_t rfl ?_
  replace hm:(some [])=some R:=hm
  exact aL
 ·refine W_cond_f (Eq.trans rfl (congrArg zB k)) (tD ?_);refine aIs ([]:List Int) fun t u l=>?_
  refine tD ?_;obtain ⟨m,n,hm⟩:=aB hm
  refine aSI (i:=0) fZ underlying29 aIG rfl rfl l rfl (zR _) a n rfl rfl rfl rfl (fun d e o (p:aF G K (aP 2 K d e m::L) o)=>(tD ?_));obtain rfl:=zI hm
  exact st_E results123 ⟨d,e,rfl,p⟩
theorem aDl {s_:bE} {R:(List GPoint)} (hm:uM s_=some R) (hs:aF G K (L) w) (h3:bK K a1 c2 s_.Definitions) (h6:bK K a4 c5 s_.Components) (h9:bK K a7 c8 s_.Meetings) (d1:bK K a10 c11 s_.Allowed) (d2:bK K a13 c14 s_.Hidden):
  Calls prog 81 ([zA #[zS a1 s_.Definitions.length c2,zS a4 s_.Components.length c5,zS a7 s_.Meetings.length c8,zS a10 s_.Allowed.length c11,zS a13 s_.Hidden.length c14]]:List Value).toArray w (dD fun v w'=>∃ o p l,v=zS o R.length p/\List.length l=List.length R/\aF G K (aP 97 K o p (aV l R)::rows [2] l R::L) w'):=by
 refine aBe func81 ?_;unfold uM at hm
 refine tD ?_;refine aGh fun a6 a8 a9=>?_
 refine tD ?_;refine aQ [] (fun f w=>∃ h q r m,aFB h=some R/\f 3=zS q h.length r/\List.length m=List.length h/\aF G K (aP 97 K q r (aV m h)::rows [2] m h::L) w) aL ?_
 have d3:aF G K (aP 97 K none 0 (aV ([]:List (Dp.Hd GPoint)) ([]:List GPoint))::rows [2] ([]:List (Dp.Hd GPoint)) ([]:List GPoint)::box a6 36 [zS a1 s_.Definitions.length c2,zS a4 s_.Components.length c5,zS a7 s_.Meetings.length c8,zS a10 s_.Allowed.length c11,zS a13 s_.Hidden.length c14]::L) a8:=aF.nil (α:=Cells _) (aF.rowsNil (α:=GPoint) (tys:=[2]) a9) 97 K
 obtain ⟨d4,b0,ho⟩:=aB hm
 refine cA [7,8] b0 (fun d t f w=>∃ j k c,f 3=zS j d.length k/\f 9=i64 t/\List.length c=List.length d/\aF G K (aP 97 K j k (aV c d)::rows [2] c d::L) w) ?_ ?_
 ·exact ⟨none,0,[],rfl,rfl,rfl,aDq⟩
 ·rintro d t d5 f d6 hm hr ⟨j,k,c,d7,d8,u,d9⟩
  unfold oS at hm
  refine tD ?_
  rcases aM hm with ⟨b1,hm⟩|⟨b1,hm⟩
  ·refine tD ?_;refine bT (tD ?_)
   obtain ⟨e,b2,hm⟩:=aB hm
   refine tD ?_;obtain ⟨e0,e1,b3⟩:=bK.el (sz:=2) rfl h6 b2
   obtain ⟨e2,e3,rfl,b4⟩:=b3
   refine tD ?_;refine aGf fun e4 e5 e6=>?_
   refine aFe fun e7 b5=>?_;refine tD ?_
   obtain ⟨n,b6,e8,e9,b7⟩:=aF.lendBp b5 .head
   refine st_w [(0,0),(1,0),(2,0),(3,0),(4,0),(5,1),(6,0),(7,1),(8,1),(9,0)] fun f0 b8=>?_;refine tD ?_
   refine nT rfl ?_;obtain ⟨g,b9,hm⟩:=aB hm
   refine aCO call123 (gK b9 b8 (b4.mono b6)) ?_
   rintro _ c0 ⟨a,b,rfl,y⟩
   refine bN (aD ⟨⟨_,y⟩,?_⟩)
   refine bW rfl (fun _ _=>jE (vs:=[(0,i64 e.Definition),(1,i64 0),(2,zS a g.length b)]) (cs:=[i64 e.Definition,i64 0,zS a g.length b]) aPS rfl (by kernel_rfl)) (nT rfl ?_)
   have c1:aF G n (rows [2] ([(a,b)]:List (Dp.Hd GPoint)) ([⟨e.Definition,0,g⟩]:List GPoint)::aP 97 K j k (aV c d)::rows [2] c d::L) c0:=aF.rowsOneS (tys:=[2]) (hd:=((a,b):Dp.Hd GPoint)) (x:=(⟨e.Definition,0,g⟩:GPoint)) y
   refine dU (Kt:=K) (xs:=aV ([(a,b)]:List (Dp.Hd GPoint)) ([⟨e.Definition,0,g⟩]:List GPoint)) (cs:=[i64 e.Definition,i64 0,zS a g.length b]) (vs:=[(0,zA #[i64 e.Definition,i64 0,zS a g.length b])]) gR aDb rfl rfl c1 rfl (by kernel_rfl) rfl rfl rfl ⟨rfl,trivial⟩ ?_
   intro c3 c4 (z:aF G n (aP 97 K c3 1 (aV ([(a,b)]:List (Dp.Hd GPoint)) ([⟨e.Definition,0,g⟩]:List GPoint))::rows [2] ([(a,b)]:List (Dp.Hd GPoint)) ([⟨e.Definition,0,g⟩]:List GPoint)::aP 97 K j k (aV c d)::rows [2] c d::L) c4)
   refine bN (aD ⟨⟨_,z⟩,?_⟩)
   refine nT rfl ?_;obtain ⟨J,V,hm⟩:=aB hm
   refine aSO (i:=0) (tys:=[2]) (hds:=c) (hds2:=([(a,b)]:List (Dp.Hd GPoint))) gR underlying56 aDb rfl rfl z u rfl rfl rfl V rfl rfl rfl rfl ?_
   intro a0 a2 c6 (a3:aF G n (aP 97 K a0 a2 (aV (c++([(a,b)]:List (Dp.Hd GPoint))) J)::rows [2] (c++([(a,b)]:List (Dp.Hd GPoint))) J::L) c6)
   refine bN (aD ⟨⟨_,a3⟩,?_⟩)
   refine tD ?_;refine aCP ?_
   have f1:=b7 _ _ a3
   refine tD ?_;exact ⟨_,(zI hm).symm,bZ,a0,a2,(c++([(a,b)]:List (Dp.Hd GPoint))),rfl,rfl,(aPr u rfl V),aDq⟩
  ·exact aL
theorem aFJ {rec_:(List aW)->Option ((Tr aW) × (List aW))} (ih:∀ {G:nX} {K:Hp} {L:List fJ} {w:World} {e:(List aW)} {a1:Option Addr} {c2:Nat} {R:((Tr aW) × (List aW))} (hm:rec_ e=some R) (hs:aF G K (L) w) (r:bK K a1 c2 e),
  Calls prog 299 ([zS a1 e.length c2]:List Value).toArray w (dD fun v w'=>∃ b n o p,v=Value.tuple #[dS n 0,zS o R.2.length p]/\Hp.le K b/\trd b R.1 n/\bK b o p R.2/\aF G b (L) w'))
  {G:nX} {K:Hp} {L:List fJ} {w:World} {e:(List aW)} {a1:Option Addr} {c2:Nat} {R:((Tr aW) × (List aW))} (hm:mP rec_ e=some R) (hs:aF G K (L) w) (r:bK K a1 c2 e):
  Calls prog 299 ([zS a1 e.length c2]:List Value).toArray w (dD fun v w'=>∃ b n o p,v=Value.tuple #[dS n 0,zS o R.2.length p]/\Hp.le K b/\trd b R.1 n/\bK b o p R.2/\aF G b (L) w'):=by
 refine aBe func299 ?_;unfold mP at hm
 refine tD ?_;obtain ⟨a,q5,hm⟩:=aB hm
 refine tD ?_;obtain ⟨f2,f3,c0⟩:=bK.el (sz:=2) rfl r q5
 cases c0
 iterate 1 refine aBL ?_
 refine aC (jE (vs:=[(0,zA #[i64 a.Kind,i64 a.Value])]) (cs:=[i64 a.Kind,i64 a.Value,zS none 0 0]) bs_360 rfl (by kernel_rfl)) (aGh fun c f4 c1=>?_);refine tD ?_
 obtain ⟨f5,a7,hm⟩:=aB hm
 obtain ⟨f6,f7,a8⟩:=Cut.ex 2 a1 c2 1
 have f8:=bK.cut' r a7 a8
 refine aC (aPK vV r.room a8 rfl rfl rfl a7) (tD ?_);obtain ⟨f9,c3,hm⟩:=aB hm
 refine aCO call290 (aCD c3 c1) ?_
 rintro _ g0 ⟨rfl,c4⟩
 refine tD ?_;refine aQ [4] (fun f w=>∃ q g t u x y z,Hp.le K q/\aGd a g t=some R/\f 5=zS y t.length z/\bK q y z t/\aF G q (aP 336 q u x g::box c 360 [i64 a.Kind,i64 a.Value,zS u g.length x]::L) w) ?_ ?_
 ·rintro f a9 ⟨q,g,t,u,x,y,z,c5,hm,g1,c6,c7⟩
  unfold aGd at hm
  refine tD ?_;obtain ⟨c8,b0,c9,J⟩:=aF.giveSp c7 (zR _) .head
  replace J:aF G c8 (box c 360 [i64 a.Kind,i64 a.Value,zS u g.length x]::L) a9:=J
  obtain ⟨V,a0,d0,a2,_⟩:=aF.lendBp J .head
  replace a2:aF G V (L) a9:=a2
  have d1:trd V (Tr.mk a g) (some ⟨c,0,none⟩):=trd_mk d0 (c9.mono a0)
  obtain rfl:=zI hm
  exact aCe (aNy results299 rfl rfl ⟨V,(some ⟨c,0,none⟩),y,z,(tp2 (elp_b rfl) rfl),(zL (zL c5 b0) a0),d1,(c6.mono (zL b0 a0)),a2⟩)
 have g2:=aF.nil (α:=(Tr aW)) c4 336 K
 obtain ⟨g3,d3,ho⟩:=aB hm
 refine iE [4,17] d3 (fun j a3 b1 f w=>∃ k l m a4 a5,Hp.le K k/\f 5=zS a4 a3.length a5/\f 18=i64 b1/\bK k a4 a5 a3/\aF G k (aP 336 k l m j::box c 360 [i64 a.Kind,i64 a.Value,zS l j.length m]::L) w) aL ?_
 ·rintro j a3 b1 g4 f g5 hm hr ⟨k,l,m,a4,a5,d4,g6,g7,d5,d6⟩
  unfold xB at hm
  refine tD ?_
  rcases aM hm with ⟨d7,hm⟩|⟨d7,hm⟩
  ·refine tD ?_;refine bT (tD ?_)
   obtain ⟨b2,d8,hm⟩:=aB hm
   refine aCO call299 (ih d8 d6 d5) ?_
   rintro _ g8 ⟨d,a6,d9,e0,rfl,b3,e1,e2,e3⟩
   refine tD ?_;refine dU (Kt:=d) (xs:=([b2.1]:List (Tr aW))) (cs:=[dS a6 0]) (vs:=[(0,dS a6 0)]) aNK ez_336 rfl rfl e3 rfl (by kernel_rfl) rfl rfl rfl ⟨⟨a6,rfl,e1⟩,trivial⟩ (fun e5 e6 (e7:aF G d (aP 336 d e5 1 ([b2.1]:List (Tr aW))::aP 336 k l m j::box c 360 [i64 a.Kind,i64 a.Value,zS l j.length m]::L) e6)=>?_)
   obtain ⟨e8,e9,hm⟩:=aB hm
   refine xP (i:=0) d aNK underlying358 ez_336 rfl rfl e7 rfl b3 (zR _) e9 rfl rfl rfl rfl (fun _ _ _ h=>El.one h) (fun b4 b5 f0 (g9:aF G d (aP 336 d b4 b5 e8::box c 360 [i64 a.Kind,i64 a.Value,zS l j.length m]::L) f0)=>(tD ?_));refine aFe fun h0 f1=>?_
   refine tD ?_;exact ⟨_,(zI hm).symm,bZ,d,b4,b5,d9,e0,(zL d4 b3),rfl,rfl,e2,f1⟩
  ·exact aL
theorem aFK (n:Nat):∀ {G:nX} {K:Hp} {L:List fJ} {w:World} {e:(List aW)} {a1:Option Addr} {c2:Nat} {R:((Tr aW) × (List aW))} (hm:mQ n e=some R) (a:aF G K (L) w) (b:bK K a1 c2 e),
  Calls prog 299 ([zS a1 e.length c2]:List Value).toArray w (dD fun v w'=>∃ c d g h,v=Value.tuple #[dS d 0,zS g R.2.length h]/\Hp.le K c/\trd c R.1 d/\bK c g h R.2/\aF G c (L) w'):=by
 induction n with
 |zero=>
  intro G K L w e a1 c2 R hm a b
  unfold mQ at hm
  cases hm
 |succ n ih=>
  intro G K L w e a1 c2 R hm a b
  exact aFJ (rec_:=mQ n) (fun hm a b=>ih hm a b) hm a b
end Gv
