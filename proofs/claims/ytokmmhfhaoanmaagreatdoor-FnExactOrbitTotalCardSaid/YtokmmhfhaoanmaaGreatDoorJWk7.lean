/- Walks, printed by program. -/
import Derived.Test.YtokmmhfhaoanmaaGreatDoorJWk5
set_option linter.all false
namespace Gv
open Gv.Hp renaming le_refl→zR
open Go.Value renaming slice→zS,bool→zB,pointer→zP,agg→zA
open Option.some renaming inj→zI
open Go Go.Proofs Go.Proofs.Tryz
set_option maxRecDepth 20000
set_option maxHeartbeats 40000000
variable {G:mL} {K:Hp} {L:List eU} {w:World} {a1 a4 a7 a10 a13 a2 a16:Option Addr} {c2 c5 c8 c11 c14 b1 c3 c17:Nat}
theorem aOv {a R:(List Int)} (hm:aGW a=some R) (r:aD G K (L) w) (u:aW K a1 c2 a):
  Calls prog 74 ([zS a1 a.length c2]:List Value).toArray w (cN fun v w'=>∃ k l,v=zS k R.length l/\aD G K (aJ 2 K k l R::L) w'):=by
 refine cC func74 ?_;unfold aGW at hm
 refine aC ?_;obtain ⟨b,x,hm⟩:=aB hm
 refine aOV (e:=(0:Int)) xU ez_2 rfl rfl r rfl rfl rfl x rfl (fun c y (a8:aD G K (aJ 2 K c b.length b::L) y)=>(aC ?_));refine aI [] (fun f w=>∃ d,aKj d=some R/\f 3=zS c d.length b.length/\aD G K (aJ 2 K c b.length d::L) w) aF ?_
 obtain ⟨a9,z,ho⟩:=aB hm
 refine bJ [0] z (fun g m f w=>f 3=zS c g.length b.length/\f 4=i64 m/\aD G K (aJ 2 K c b.length g::L) w) aF ?_
 ·rintro g m b0 f b1 hm hr ⟨J,b2,o⟩
  unfold vZ at hm
  refine aC ?_
  rcases aG hm with ⟨V,hm⟩|⟨V,hm⟩
  ·refine aC ?_;refine bI (aC ?_)
   obtain ⟨p,a0,hm⟩:=aB hm
   refine aC ?_;obtain ⟨b3,b4,a2⟩:=aW.el (sz:=1) rfl u a0
   cases a2
   refine aC ?_;obtain ⟨b5,j,hm⟩:=aB hm
   have a3:=cG o (i:=0) rfl j
   refine aL (dG xU rfl a3 rfl rfl rfl j) ?_;obtain ⟨a4,q,hm⟩:=aB hm
   refine qU (i:=0) (t:=0) (ns:=[i64 p]) (e':=(p:Int)) sizeOf2 o rfl (Hp.le_refl _) rfl rfl rfl j q rfl rfl (xM rfl) rfl (fun cs h=>by cases h;rfl) (fun a5 (a7:aD G K (aJ 2 K c b.length a4::L) a5)=>(aC ?_));exact ⟨_,(zI hm).symm,bO,(Eq.trans J (congrArg (fun n=>zS c n b.length) (fB q))),rfl,a7⟩
  ·exact aF
theorem aEm {a R:aZ} (hm:aFB a=some R) (d:aD G K (L) w) (e:aW K a1 c2 a.Values):
  Calls prog 41 ([zA #[i64 a.Definition,zS a1 a.Values.length c2]]:List Value).toArray w (cN fun v w'=>∃ b c,v=zA #[i64 R.Definition,zS b R.Values.length c]/\aD G K (aJ 2 K b c R.Values::L) w'):=by
 exact aF
theorem aCu {a R:(List aZ)} (hm:aAn a=some R) (J:aD G K (L) w) (V:aW K a1 c2 a):
  Calls prog 17 ([zS a1 a.length c2]:List Value).toArray w (cN fun v w'=>∃ q r m,v=zS q R.length r/\List.length m=List.length R/\aD G K (aJ 92 K q r (aO m R)::rows [2] m R::L) w'):=by
 refine cC func17 ?_;unfold aAn at hm
 refine aC ?_;obtain ⟨b,t,hm⟩:=aB hm
 refine aRS (tys:=[2]) (hd:=((none,0):Dp.Hd aZ)) sl_32 ez_92 rfl rfl J rfl rfl rfl t rfl (aLC _) ?_
 intro d w7 (a2:aD G K (aJ 92 K d b.length (aO (List.replicate (a.length:Int).toNat ((none,0):Dp.Hd aZ)) b)::rows [2] (List.replicate (a.length:Int).toNat ((none,0):Dp.Hd aZ)) b::L) w7)
 refine aC ?_;refine aI [] (fun f w=>∃ j o,aEW j=some R/\f 3=zS d j.length b.length/\List.length o=List.length j/\aD G K (aJ 92 K d b.length (aO o j)::rows [2] o j::L) w) aF ?_
 obtain ⟨b7,a3,ho⟩:=aB hm
 refine bJ [0] a3 (fun e i32 f w=>∃ c,f 3=zS d e.length b.length/\f 4=i64 i32/\List.length c=List.length e/\aD G K (aJ 92 K d b.length (aO c e)::rows [2] c e::L) w) ?_ ?_
 ·exact ⟨(List.replicate (a.length:Int).toNat ((none,0):Dp.Hd aZ)),rfl,rfl,(aFK (hd:=((none,0):Dp.Hd aZ)) t).2.1,a2⟩
 ·rintro e i32 b8 f b9 hm hr ⟨c,a4,c0,k,a5⟩
  unfold nZ at hm
  refine aC ?_
  rcases aG hm with ⟨a7,hm⟩|⟨a7,hm⟩
  ·refine aC ?_;refine bI (aC ?_)
   obtain ⟨c1,a8,hm⟩:=aB hm
   refine aC ?_;obtain ⟨c3,c4,a9⟩:=aW.el (sz:=2) rfl V a8
   obtain ⟨c5,c6,rfl,b0⟩:=a9
   refine aC ?_;obtain ⟨u,b1,hm⟩:=aB hm
   refine dQ call41 (aEm b1 a5 b0) ?_
   rintro _ b2 ⟨g,h,rfl,x⟩
   obtain ⟨c7,l,hm⟩:=aB hm
   obtain ⟨⟨c8,c9⟩,y⟩:=aGA k l
   have b3:=cG x (i:=1) rfl (rP k l y)
   refine aL (dG sl_32 rfl b3 rfl rfl rfl l) ?_
   have b4:aD G K (aJ 2 K g h u.Values::aJ 92 K d b.length (aO c e)::rows [2] c e::L) b2:=x
   obtain ⟨z,p,hm⟩:=aB hm
   refine aMW (i:=0) (tys:=[2]) (hd':=((g,h):Dp.Hd aZ)) (e':=(u:aZ)) (hds:=c) sizeOf92 b4 k rfl rfl rfl rfl rfl l y p rfl ?_
   intro b5 (b6:aD G K (aJ 92 K d b.length (aO (List.set c i32.toNat (g,h)) z)::rows [2] (List.set c i32.toNat (g,h)) z::L) b5)
   refine aC ?_;exact ⟨_,(zI hm).symm,bO,(List.set c i32.toNat (g,h)),(Eq.trans a4 (congrArg (fun n=>zS d n b.length) (fB p))),rfl,(aCC (hd:=((g,h):Dp.Hd aZ)) k p),b6⟩
  ·exact aF
theorem aGh {a R:aT} (hm:aIz a=some R) (b:aD G K (L) w):
  Calls prog 42 ([zA #[str a.Left,str a.Right,str a.Result]]:List Value).toArray w (cN fun v w'=>v=zA #[str R.Left,str R.Right,str R.Result]/\aD G K (L) w'):=by
 exact aF
theorem aFh {a R:(List aT)} (hm:aDd a=some R) (r:aD G K (L) w) (u:aW K a1 c2 a):
  Calls prog 18 ([zS a1 a.length c2]:List Value).toArray w (cN fun v w'=>∃ l m,v=zS l R.length m/\aD G K (aJ 94 K l m R::L) w'):=by
 refine cC func18 ?_;unfold aDd at hm
 refine aC ?_;obtain ⟨b,x,hm⟩:=aB hm
 refine aOV (e:=(⟨[],[],[]⟩:aT)) sl_33 ez_94 rfl rfl r rfl rfl rfl x rfl (fun c y (b0:aD G K (aJ 94 K c b.length b::L) y)=>(aC ?_));refine aI [] (fun f w=>∃ g,aHy g=some R/\f 3=zS c g.length b.length/\aD G K (aJ 94 K c b.length g::L) w) aF ?_
 obtain ⟨b1,z,ho⟩:=aB hm
 refine bJ [0] z (fun j o f w=>f 3=zS c j.length b.length/\f 4=i64 o/\aD G K (aJ 94 K c b.length j::L) w) aF ?_
 ·rintro j o b2 f b3 hm hr ⟨J,b4,V⟩
  unfold rT at hm
  refine aC ?_
  rcases aG hm with ⟨a0,hm⟩|⟨a0,hm⟩
  ·refine aC ?_;refine bI (aC ?_)
   obtain ⟨b5,a2,hm⟩:=aB hm
   refine aC ?_;obtain ⟨b6,b7,a3⟩:=aW.el (sz:=3) rfl u a2
   cases a3
   refine aC ?_;obtain ⟨d,a4,hm⟩:=aB hm
   refine dQ call42 (aGh a4 V) ?_
   rintro _ b8 ⟨rfl,p⟩
   obtain ⟨b9,k,hm⟩:=aB hm
   have a5:=cG p (i:=0) rfl k
   refine aL (dG sl_33 rfl a5 rfl rfl rfl k) ?_;obtain ⟨a7,q,hm⟩:=aB hm
   refine qU (i:=0) (t:=0) (ns:=[str d.Left,str d.Right,str d.Result]) (e':=(⟨d.Left,d.Right,d.Result⟩:aT)) sizeOf94 p rfl (Hp.le_refl _) rfl rfl rfl k q rfl rfl (xM rfl) rfl (fun cs h=>by cases h;rfl) (fun a8 (a9:aD G K (aJ 94 K c b.length a7::L) a8)=>(aC ?_));exact ⟨_,(zI hm).symm,bO,(Eq.trans J (congrArg (fun n=>zS c n b.length) (fB q))),rfl,a9⟩
  ·exact aF
theorem aGi {a R:(List aH)} (hm:yF a=some R) (r:aD G K (L) w) (u:aW K a1 c2 a):
  Calls prog 19 ([zS a1 a.length c2]:List Value).toArray w (cN fun v w'=>∃ k l,v=zS k R.length l/\aD G K (aJ 9 K k l R::L) w'):=by
 refine cC func19 ?_;unfold yF at hm
 refine aC ?_;obtain ⟨b,x,hm⟩:=aB hm
 refine aOV (e:=([]:aH)) sP ez_9 rfl rfl r rfl rfl rfl x rfl (fun c y (a8:aD G K (aJ 9 K c b.length b::L) y)=>(aC ?_));refine aI [] (fun f w=>∃ d,aIA d=some R/\f 3=zS c d.length b.length/\aD G K (aJ 9 K c b.length d::L) w) aF ?_
 obtain ⟨a9,z,ho⟩:=aB hm
 refine bJ [0] z (fun g m f w=>f 3=zS c g.length b.length/\f 4=i64 m/\aD G K (aJ 9 K c b.length g::L) w) aF ?_
 ·rintro g m b0 f b1 hm hr ⟨J,b2,o⟩
  unfold aAo at hm
  refine aC ?_
  rcases aG hm with ⟨V,hm⟩|⟨V,hm⟩
  ·refine aC ?_;refine bI (aC ?_)
   obtain ⟨p,a0,hm⟩:=aB hm
   refine aC ?_;obtain ⟨b3,b4,a2⟩:=aW.el (sz:=1) rfl u a0
   cases a2
   refine aC ?_;obtain ⟨b5,j,hm⟩:=aB hm
   have a3:=cG o (i:=0) rfl j
   refine aL (dG sP rfl a3 rfl rfl rfl j) ?_;obtain ⟨a4,q,hm⟩:=aB hm
   refine qU (i:=0) (t:=0) (ns:=[str p]) (e':=(p:aH)) sizeOf9 o rfl (Hp.le_refl _) rfl rfl rfl j q rfl rfl (xM rfl) rfl (fun cs h=>by cases h;rfl) (fun a5 (a7:aD G K (aJ 9 K c b.length a4::L) a5)=>(aC ?_));exact ⟨_,(zI hm).symm,bO,(Eq.trans J (congrArg (fun n=>zS c n b.length) (fB q))),rfl,a7⟩
  ·exact aF
theorem xK {a R:aR} (hm:tP a=some R) (hs:aD G K (L) w) (o:aW K a1 c2 a.Definitions) (p:aW K a4 c5 a.Components) (q:aW K a7 c8 a.Meetings) (r:aW K a10 c11 a.Allowed) (a3:aW K a13 c14 a.Hidden):
  Calls prog 6 ([zA #[zS a1 a.Definitions.length c2,zS a4 a.Components.length c5,zS a7 a.Meetings.length c8,zS a10 a.Allowed.length c11,zS a13 a.Hidden.length c14]]:List Value).toArray w (cN fun v w'=>∃ d e b g h c i j k l m n,v=zA #[zS d R.Definitions.length e,zS g R.Components.length h,zS i R.Meetings.length j,zS k R.Allowed.length l,zS m R.Hidden.length n]/\List.length b=List.length R.Definitions/\List.length c=List.length R.Components/\aD G K (aJ 90 K d e (aO b R.Definitions)::rows [186,274,337] b R.Definitions::aJ 92 K g h (aO c R.Components)::rows [2] c R.Components::aJ 94 K i j R.Meetings::aJ 9 K k l R.Allowed::aJ 9 K m n R.Hidden::L) w'):=by
 refine cC func6 ?_;unfold tP at hm
 refine aC ?_;refine sL fun a5 a6 a8=>?_
 refine pO fun a9 b0 b1=>?_;refine aC ?_
 refine pO fun b2 b3 t=>?_;refine aC ?_
 obtain ⟨b4,u,hm⟩:=aB hm
 refine dQ call16 (aBV u t o) ?_
 rintro _ b5 ⟨b6,b7,b8,rfl,b9,c0⟩
 refine aC ?_;refine nB fun c1 x=>?_
 refine aC ?_;obtain ⟨c3,y,hm⟩:=aB hm
 refine dQ call17 (aCu y x p) ?_
 rintro _ c4 ⟨c6,c7,c9,rfl,d0,d1⟩
 refine aC ?_;refine nB fun d2 z=>?_
 refine aC ?_;obtain ⟨d3,J,hm⟩:=aB hm
 refine dQ call18 (aFh J z q) ?_
 rintro _ d4 ⟨d5,c48,rfl,d6⟩
 refine aC ?_;refine nB fun d7 V=>?_
 refine aC ?_;obtain ⟨d8,a0,hm⟩:=aB hm
 exact dQ call19 (aGi a0 V r) aF
theorem aAD {d:Definition} {R:Bool} (hm:aAp d=some R) (a:aD G K (L) w) (b:aW K a1 c2 d.Body):
  Calls prog 229 ([zA #[str d.Name,i64 d.Parameters,zS a1 d.Body.length c2]]:List Value).toArray w (cN fun v w'=>v=zB R/\aD G K (L) w'):=by
 exact aF
theorem kO {s_:(List Definition)} {R:Int} (hm:cQ s_=some R) (n:aD G K (L) w) (e:aW K a1 c2 s_):
  Calls prog 231 ([zS a1 s_.length c2,Value.func (.func 229) #[] #[]]:List Value).toArray w (cN fun v w'=>v=i64 R/\aD G K (L) w'):=by
 refine cC func231 ?_;unfold cQ at hm
 refine aC ?_;refine aI [] (fun f w=>fV=some R/\aD G K (L) w) aF ?_
 obtain ⟨o,g,ho⟩:=aB hm
 refine bL [0,1,7] g (fun b f w=>f 8=i64 b/\aD G K (L) w) aF ?_
 ·rintro b p f q hm hr ⟨r,h⟩
  unfold bU at hm
  refine aC ?_
  rcases aG hm with ⟨i,hm⟩|⟨i,hm⟩
  ·refine aC ?_;refine bI (aC ?_)
   obtain ⟨a,j,hm⟩:=aB hm
   refine aC ?_;obtain ⟨t,u,k⟩:=aW.el (sz:=3) rfl e j
   obtain ⟨c,d,rfl,l⟩:=k
   refine aC ?_;obtain ⟨x,m,hm⟩:=aB hm
   exact lL (vs:=[zA #[str a.Name,i64 a.Parameters,zS c a.Body.length d]]) (caps:=[]) (us:=[zA #[str a.Name,i64 a.Parameters,zS c a.Body.length d]]) rfl call229 rfl rfl (aAD m h l) aF
  ·exact aF
theorem jP {s_:(List Definition)} {R:Bool} (hm:cK s_=some R) (a:aD G K (L) w) (b:aW K a1 c2 s_):
  Calls prog 228 ([zS a1 s_.length c2,Value.func (.func 229) #[] #[]]:List Value).toArray w (cN fun v w'=>v=zB R/\aD G K (L) w'):=by
 exact aF
theorem aJV {a:(List Definition)} {R:Bool} (hm:aAq a=some R) (b:aD G K (L) w) (c:aW K a1 c2 a):
  Calls prog 172 ([zS a1 a.length c2]:List Value).toArray w (cN fun v w'=>v=zB R/\aD G K (L) w'):=by
 exact aF
theorem uY {d:Definition} {p:aH} {a:Nat} {R:Bool} (hm:tQ d p=some R) (b:aD G K (L) w) (c:aW K a1 c2 d.Body) (e:eM K a4 a [str p]):
  Calls prog 232 ([zA #[str d.Name,i64 d.Parameters,zS a1 d.Body.length c2],fL a4 a]:List Value).toArray w (cN fun v w'=>v=zB R/\aD G K (L) w'):=by
 exact aF
theorem fA {s_:(List Definition)} {c:aH} {b:Nat} {R:Int} (hm:cL s_ c=some R) (q:aD G K (L) w) (h:aW K a1 c2 s_) (i:eM K a4 b [str c]):
  Calls prog 231 ([zS a1 s_.length c2,Value.func (.func 232) #[] #[fL a4 b]]:List Value).toArray w (cN fun v w'=>v=i64 R/\aD G K (L) w'):=by
 refine cC func231 ?_;unfold cL at hm
 refine aC ?_;refine aI [] (fun f w=>fH=some R/\aD G K (L) w) aF ?_
 obtain ⟨r,j,ho⟩:=aB hm
 refine bL [0,1,7] j (fun d f w=>f 8=i64 d/\aD G K (L) w) aF ?_
 ·rintro d t f u hm hr ⟨x,k⟩
  unfold bP at hm
  refine aC ?_
  rcases aG hm with ⟨l,hm⟩|⟨l,hm⟩
  ·refine aC ?_;refine bI (aC ?_)
   obtain ⟨a,m,hm⟩:=aB hm
   refine aC ?_;obtain ⟨y,z,n⟩:=aW.el (sz:=3) rfl h m
   obtain ⟨e,g,rfl,o⟩:=n
   refine aC ?_;obtain ⟨J,p,hm⟩:=aB hm
   exact lL (vs:=[zA #[str a.Name,i64 a.Parameters,zS e a.Body.length g]]) (caps:=[fL a4 b]) (us:=[zA #[str a.Name,i64 a.Parameters,zS e a.Body.length g],fL a4 b]) rfl call232 rfl rfl (uY p k o i) aF
  ·exact aF
theorem aAE {a:(List Definition)} {b:aH} {R:Int} (hm:oA a b=some R) (k:aD G K (L) w) (c:aW K a1 c2 a):
  Calls prog 174 ([zS a1 a.length c2,str b]:List Value).toArray w (cN fun v w'=>v=i64 R/\aD G K (L) w'):=by
 refine cC func174 ?_;unfold oA at hm
 refine aC ?_;refine sL fun d l e=>?_
 iterate 6 refine cV ?_
 refine aL (qV (vs:=[zP (some ⟨d,0,none⟩)]) rfl) ?_;obtain ⟨m,g,h,i,n⟩:=aD.lendBp e .head
 obtain ⟨o,j,hm⟩:=aB hm
 exact dQ call231 (fA j i (c.mono g) h) aF
theorem aEn {p:Part} {R:Int} (hm:wA p=some R) (b:aD G K (L) w) (c:aW K a1 c2 p.Arguments):
  Calls prog 263 ([zA #[i64 p.Kind,i64 p.Number,str p.Name,zS a1 p.Arguments.length c2]]:List Value).toArray w (cN fun v w'=>v=i64 R/\aD G K (L) w'):=by
 refine cC func263 ?_;unfold wA at hm
 refine aC ?_;refine sL fun d e g=>?_
 refine aC ?_;exact bI (sH [4] (fun f w=>∃ a,uQ p a=some R/\f 5=zB a/\aD G K (L) w) aF aF)
theorem aAM {d:Definition} {part R:Int} (hm:kI d part=some R) (h:aD G K (L) w) (i:aW K a1 c2 d.Body):
  Calls prog 200 ([zA #[str d.Name,i64 d.Parameters,zS a1 d.Body.length c2],i64 part]:List Value).toArray w (cN fun v w'=>v=i64 R/\aD G K (L) w'):=by
 refine cC func200 ?_;unfold kI at hm
 refine aC ?_;refine sL fun b j k=>?_
 refine aC ?_;refine aI [] (fun f w=>∃ a,pD a=some R/\f 1=i64 a/\aD G K (L) w) aF ?_
 obtain ⟨l,c,ho⟩:=aB hm
 exact bJ [2] c (fun e g f w=>f 1=i64 e/\f 5=i64 g/\aD G K (box b 90 [str d.Name,i64 d.Parameters,zS a1 d.Body.length c2]::L) w) aF aF
theorem qP {rec_:Int->dJ->(List dJ)->Definition->Definition->Option (Int × (List dJ))} (ih:∀ {G:mL} {K:Hp} {L:List eU} {w:World} {k:Int} {p:dJ} {b1:Nat} {e:(List dJ)} {a2:Option Addr} {c3:Nat} {c:Definition} {a4:Option Addr} {m:Nat} {a7:Option Addr} {c8:Nat} {a10:Option Addr} {d:Nat} {b:Definition} {a13:Option Addr} {j:Nat} {a16:Option Addr} {c17:Nat} {R:(Int × (List dJ))} (hm:rec_ k p e c b=some R) (hs:aD G K (aJ 304 K a2 c3 e::box b1 300 [zS a2 e.length c3]::L) w) (h6:eM K a4 m [str c.Name,i64 c.Parameters,zS a7 c.Body.length c8]) (h9:aW K a7 c8 c.Body) (a5:eM K a10 d [Value.func (.func 280) #[] #[zP (some ⟨b1,0,none⟩),fL a13 j,fL a10 d]]) (y:eM K a13 j [str b.Name,i64 b.Parameters,zS a16 b.Body.length c17]) (z:aW K a16 c17 b.Body),
  Calls prog 280 ([i64 k,zA #[i64 p.scope,zB p.behind],zP (some ⟨b1,0,none⟩),fL a4 m,fL a10 d]:List Value).toArray w (cN fun v w'=>∃ n o,v=i64 R.1/\aD G K (aJ 304 K n o R.2::box b1 300 [zS n R.2.length o]::L) w'))
  {G:mL} {K:Hp} {L:List eU} {w:World} {k:Int} {p:dJ} {b1:Nat} {e:(List dJ)} {a2:Option Addr} {c3:Nat} {c:Definition} {a4:Option Addr} {m:Nat} {a7:Option Addr} {c8:Nat} {a10:Option Addr} {d:Nat} {b:Definition} {a13:Option Addr} {j:Nat} {a16:Option Addr} {c17:Nat} {R:(Int × (List dJ))} (hm:dP rec_ k p e c b=some R) (hs:aD G K (aJ 304 K a2 c3 e::box b1 300 [zS a2 e.length c3]::L) w) (h6:eM K a4 m [str c.Name,i64 c.Parameters,zS a7 c.Body.length c8]) (h9:aW K a7 c8 c.Body) (a5:eM K a10 d [Value.func (.func 280) #[] #[zP (some ⟨b1,0,none⟩),fL a13 j,fL a10 d]]) (y:eM K a13 j [str b.Name,i64 b.Parameters,zS a16 b.Body.length c17]) (z:aW K a16 c17 b.Body):
  Calls prog 280 ([i64 k,zA #[i64 p.scope,zB p.behind],zP (some ⟨b1,0,none⟩),fL a4 m,fL a10 d]:List Value).toArray w (cN fun v w'=>∃ n o,v=i64 R.1/\aD G K (aJ 304 K n o R.2::box b1 300 [zS n R.2.length o]::L) w'):=by
 let J:=[i64 p.scope,zB p.behind]
 refine cC func280 ?_;unfold dP at hm
 refine aC ?_;refine sL fun a6 d6 a8=>?_
 refine aC ?_;obtain ⟨d7,V,hm⟩:=aB hm
 have b9:=cG a8 (i:=1) rfl V
 refine aL (dG sl_300 rfl b9 rfl rfl rfl V) ?_;obtain ⟨l,a9,hm⟩:=aB hm
 refine qU (i:=1) (t:=0) (ns:=J) (e':=(⟨p.scope,p.behind⟩:dJ)) sizeOf304 a8 rfl (Hp.le_refl _) rfl rfl rfl V a9 rfl rfl (xM rfl) rfl (fun cs h=>by cases h;rfl) (fun b0 (c0:aD G K (box a6 304 J::aJ 304 K a2 c3 l::box b1 300 [zS a2 e.length c3]::L) b0)=>?_)
 have d8:aD G K (box a6 304 J::aJ 304 K a2 c3 l::box b1 300 [zS a2 l.length c3]::L) b0:=by rw [←(fB a9)];exact c0
 refine aC ?_;obtain ⟨a,c1,hm⟩:=aB hm
 refine aC ?_;obtain ⟨d9,e0,c2⟩:=aW.el (sz:=4) rfl h9 c1
 obtain ⟨c4,c5,rfl,c6⟩:=c2
 refine aC ?_;refine pO fun c7 e1 e2=>?_
 refine nB fun e3 e4=>?_
 iterate 9 refine cV ?_
 refine aL (gW (vs:=[(0,i64 p.scope),(1,zB (a.Kind == 1))]) (cs:=[i64 p.scope,zB (a.Kind == 1)]) bs_304 rfl (by kernel_rfl)) (pO fun a0 e5 e6=>?_);refine nB fun e7 e8=>?_
 iterate 2 refine cV ?_
 refine sH [0,4,8,9] (fun f w=>∃ g,cR rec_ k b l a g=some R/\aD G K (box a0 304 [i64 g,zB (a.Kind == 1)]::box c7 186 [i64 a.Kind,i64 a.Number,str a.Name,zS c4 a.Arguments.length c5]::aJ 304 K a2 c3 l::box b1 300 [zS a2 l.length c3]::L) w) ?_ ?_
 ·rintro f e9 ⟨g,hm,c9⟩
  unfold cR at hm
  refine aC ?_;obtain ⟨f0,d0,hm⟩:=aB hm
  refine dQ call263 (aEn d0 c9 c6) ?_
  rintro _ f1 ⟨rfl,f2⟩
  refine aC ?_;refine aI [] (fun f w=>∃ b2 a1 b3 b4,kD b2 a1=some R/\f 10=i64 b2/\aD G K (aJ 304 K b3 b4 a1::box b1 300 [zS b3 a1.length b4]::L) w) aF ?_
  obtain ⟨f3,d1,ho⟩:=aB hm
  refine nO [4,9,36] d1 (fun x b5 q f w=>∃ r u,f 10=i64 x/\f 37=i64 b5/\aD G K (box a0 304 [i64 g,zB (a.Kind == 1)]::aJ 304 K r u q::box b1 300 [zS r q.length u]::L) w) aF ?_
  ·rintro x b5 q f4 f d2 hm hr ⟨r,u,f5,f6,f7⟩
   unfold eT at hm
   refine aC ?_
   rcases aG hm with ⟨d3,hm⟩|⟨d3,hm⟩
   ·refine aC ?_;refine bI (aC ?_)
    have d4:aD G K (aJ 304 K r u q::box b1 300 [zS r q.length u]::box a0 304 [i64 g,zB (a.Kind == 1)]::L) d2:=nC
    obtain ⟨f8,d5,hm⟩:=aB hm
    exact lL (vs:=[i64 x,zA #[i64 g,zB (a.Kind == 1)]]) (caps:=[zP (some ⟨b1,0,none⟩),fL a13 j,fL a10 d]) (us:=[i64 x,zA #[i64 g,zB (a.Kind == 1)],zP (some ⟨b1,0,none⟩),fL a13 j,fL a10 d]) rfl call280 rfl rfl (ih (p:=⟨g,a.Kind == 1⟩) d5 d4 y z a5 y z) aF
   ·exact aF
 exact aF
theorem qQ (n:Nat):∀ {G:mL} {K:Hp} {L:List eU} {w:World} {l:Int} {p:dJ} {b1:Nat} {c:(List dJ)} {a2:Option Addr} {c3:Nat} {a:Definition} {a4:Option Addr} {m:Nat} {a7:Option Addr} {c8:Nat} {a10:Option Addr} {d:Nat} {b:Definition} {a13:Option Addr} {o:Nat} {a16:Option Addr} {c17:Nat} {R:(Int × (List dJ))} (hm:cF n l p c a b=some R) (e:aD G K (aJ 304 K a2 c3 c::box b1 300 [zS a2 c.length c3]::L) w) (g:eM K a4 m [str a.Name,i64 a.Parameters,zS a7 a.Body.length c8]) (h:aW K a7 c8 a.Body) (i:eM K a10 d [Value.func (.func 280) #[] #[zP (some ⟨b1,0,none⟩),fL a13 o,fL a10 d]]) (j:eM K a13 o [str b.Name,i64 b.Parameters,zS a16 b.Body.length c17]) (k:aW K a16 c17 b.Body),
  Calls prog 280 ([i64 l,zA #[i64 p.scope,zB p.behind],zP (some ⟨b1,0,none⟩),fL a4 m,fL a10 d]:List Value).toArray w (cN fun v w'=>∃ q r,v=i64 R.1/\aD G K (aJ 304 K q r R.2::box b1 300 [zS q R.2.length r]::L) w'):=by
 induction n with
 |zero=>
  intro G K L w l p b1 c a2 c3 a a4 m a7 c8 a10 d b a13 o a16 c17 R hm e g h i j k
  unfold cF at hm
  cases hm
 |succ n ih=>
  intro G K L w l p b1 c a2 c3 a a4 m a7 c8 a10 d b a13 o a16 c17 R hm e g h i j k
  exact qP (rec_:=cF n) (fun hm e g h i j k=>ih hm e g h i j k) hm e g h i j k
theorem sY {at_:Int} {p:dJ} {p':(List dJ)} {p'':Definition} {k5 k11:Nat} {p_c1_:Definition} {k14:Nat} {R:(Int × (List dJ))} (hm:rI at_ p p' p'' p_c1_=some R) (hs:aD G K (aJ 304 K a2 c3 p'::box b1 300 [zS a2 p'.length c3]::L) w) (h6:eM K a4 k5 [str p''.Name,i64 p''.Parameters,zS a7 p''.Body.length c8]) (h9:aW K a7 c8 p''.Body) (h12:eM K a10 k11 [Value.func (.func 280) #[] #[zP (some ⟨b1,0,none⟩),fL a13 k14,fL a10 k11]]) (h15:eM K a13 k14 [str p_c1_.Name,i64 p_c1_.Parameters,zS a16 p_c1_.Body.length c17]) (h18:aW K a16 c17 p_c1_.Body):
  Calls prog 280 ([i64 at_,zA #[i64 p.scope,zB p.behind],zP (some ⟨b1,0,none⟩),fL a4 k5,fL a10 k11]:List Value).toArray w (cN fun v w'=>∃ ra0 rc0,v=i64 R.1/\aD G K (aJ 304 K ra0 rc0 R.2::box b1 300 [zS ra0 R.2.length rc0]::L) w'):=qQ 100000 hm hs h6 h9 h12 h15 h18
theorem wK {d:Definition} {R:(List dJ)} (hm:lP d=some R) (hs:aD G K (L) w) (j:aW K a1 c2 d.Body):
  Calls prog 233 ([zA #[str d.Name,i64 d.Parameters,zS a1 d.Body.length c2]]:List Value).toArray w (cN fun v w'=>∃ k l,v=zS k R.length l/\aD G K (aJ 304 K k l R::L) w'):=by
 refine cC func233 ?_;unfold lP at hm
 refine aC ?_;refine sL fun b w5 o=>?_
 refine aC ?_;obtain ⟨a,q,hm⟩:=aB hm
 refine aOV (e:=(⟨0,false⟩:dJ)) sl_300 ez_304 rfl rfl o rfl rfl rfl q rfl (fun i r (a3:aD G K (aJ 304 K i a.length a::box b 90 [str d.Name,i64 d.Parameters,zS a1 d.Body.length c2]::L) r)=>(pO fun c a4 a5=>?_));refine nB fun a6 a7=>?_
 refine aC ?_;refine pO fun g a8 b0=>?_
 iterate 4 refine cV ?_
 refine aL (qV (vs:=[zP (some ⟨c,0,none⟩),zP (some ⟨b,0,none⟩),zP (some ⟨g,0,none⟩)]) rfl) (nB fun t u=>?_)
 iterate 7 refine cV ?_
 refine aL (gW (vs:=[(0,i64 d.Parameters)]) (cs:=[i64 d.Parameters,zB false]) bs_304 rfl (by kernel_rfl)) ?_;obtain ⟨b1,m,n,x,b2⟩:=aD.lendBp u zt3
 obtain ⟨y,h,z,b3,b5⟩:=aD.lendBp x .head
 have J:aD G y (aJ 304 K i a.length a::box c 300 [zS i a.length a.length]::L) t:=nC
 obtain ⟨b6,V,hm⟩:=aB hm
 exact lL (vs:=[i64 0,zA #[i64 d.Parameters,zB false]]) (caps:=[zP (some ⟨c,0,none⟩),fL (some ⟨b,0,none⟩) 0,fL (some ⟨g,0,none⟩) 0]) (us:=[i64 0,zA #[i64 d.Parameters,zB false],zP (some ⟨c,0,none⟩),fL (some ⟨b,0,none⟩) 0,fL (some ⟨g,0,none⟩) 0]) rfl call280 rfl rfl (sY (p:=⟨d.Parameters,false⟩) V J (n.mono h) (j.mono (Hp.le_trans m h)) (show eM _ _ _ [Value.func (.func 280) #[] #[zP (some ⟨c,0,none⟩),fL (some ⟨b,0,none⟩) 0,fL (some ⟨g,0,none⟩) 0]] from z) (n.mono h) (j.mono (Hp.le_trans m h))) aF
theorem aSo {i many:Int} {R:Bool} (hm:aDe i many=some R) (a:aD G K (L) w):
  Calls prog 130 ([i64 i,i64 many]:List Value).toArray w (cN fun v w'=>v=zB R/\aD G K (L) w'):=by
 exact aF
theorem aEo {p:Part} {R:Bool} (hm:wB p=some R) (g:aD G K (L) w) (h:aW K a1 c2 p.Arguments):
  Calls prog 281 ([zA #[i64 p.Kind,i64 p.Number,str p.Name,zS a1 p.Arguments.length c2]]:List Value).toArray w (cN fun v w'=>v=zB R/\aD G K (L) w'):=by
 let c:=[i64 p.Kind,i64 p.Number,str p.Name,zS a1 p.Arguments.length c2]
 refine cC func281 ?_;unfold wB at hm
 refine aC ?_;refine sL fun d i j=>?_
 iterate 4 refine cV ?_
 refine bC [1] (fun f w=>∃ a,qD p a=some R/\f 3=zB a/\aD G K (box d 186 c::L) w) ?_ ?_
 ·rintro f k ⟨a,hm,l,m⟩
  unfold qD at hm
  iterate 2 refine cV ?_
  refine bC [1,3] (fun f w=>∃ b,mH p a b=some R/\f 4=zB b/\aD G K (box d 186 c::L) w) ?_ ?_
  ·rintro f n ⟨b,hm,o,q⟩
   unfold mH at hm
   iterate 2 refine cV ?_
   exact bC [] (fun f w=>∃ e,dU e=some R/\f 2=zB e/\aD G K (L) w) aF aF
  exact aF
 exact aF
theorem aCv {p:Part} {a:(List Definition)} {R:Bool} (hm:tR p a=some R) (d:aD G K (L) w) (e:aW K a1 c2 p.Arguments) (g:aW K a4 c5 a):
  Calls prog 282 ([zA #[i64 p.Kind,i64 p.Number,str p.Name,zS a1 p.Arguments.length c2],zS a4 a.length c5]:List Value).toArray w (cN fun v w'=>v=zB R/\aD G K (L) w'):=by
 refine cC func282 ?_;unfold tR at hm
 refine aC ?_;refine sL fun h i j=>?_
 refine aC ?_;refine bI (aC ?_)
 rcases aG hm with ⟨c,hm⟩|⟨c,hm⟩
 ·iterate 2 refine cV ?_
  exact bC [] (fun f w=>∃ b,oB b=some R/\f 4=zB b/\aD G K (L) w) aF aF
 ·exact aF
theorem aMk {t:aP} {a:Int} {R:Bool} (hm:aDf t a=some R) (b:aD G K (L) w):
  Calls prog 319 ([zA #[i64 t.Kind,i64 t.Value],i64 a]:List Value).toArray w (cN fun v w'=>v=zB R/\aD G K (L) w'):=by
 exact aF
theorem aBW {t:aP} {R:Int} (hm:xE t=some R) (a:aD G K (L) w):
  Calls prog 320 ([zA #[i64 t.Kind,i64 t.Value]]:List Value).toArray w (cN fun v w'=>v=i64 R/\aD G K (L) w'):=by
 exact aF
theorem aMl {e:(List aP)} {a h:Int} {R:Bool} (hm:aAr e a h=some R) (t:aD G K (L) w) (k:aW K a1 c2 e):
  Calls prog 285 ([zS a1 e.length c2,i64 a,i64 h]:List Value).toArray w (cN fun v w'=>v=zB R/\aD G K (L) w'):=by
 refine cC func285 ?_;unfold aAr at hm
 iterate 7 refine cV ?_
 refine bC [0,1] (fun f w=>∃ b,nK e a b=some R/\f 24=zB b/\aD G K (L) w) ?_ ?_
 ·rintro f u ⟨b,hm,x,y⟩
  unfold nK at hm
  refine aC ?_
  rcases aG hm with ⟨l,hm⟩|⟨l,hm⟩
  ·exact aF
  ·refine aC ?_;refine aI [] (fun f w=>∃ i,aHz i=some R/\f 7=i64 i/\aD G K (L) w) aF ?_
   obtain ⟨z,m,ho⟩:=aB hm
   refine bJ [1,25,26] m (fun c d f w=>f 7=i64 c/\f 27=i64 d/\aD G K (L) w) aF ?_
   ·rintro c d n f J hm hr ⟨V,a0,a2⟩
    unfold rU at hm
    refine aC ?_
    rcases aG hm with ⟨o,hm⟩|⟨o,hm⟩
    ·refine aC ?_;refine bI (aC ?_)
     obtain ⟨g,p,hm⟩:=aB hm
     refine aC ?_;obtain ⟨a3,a4,q⟩:=aW.el (sz:=2) rfl k p
     cases q
     refine aC ?_;refine pO fun r a5 a6=>?_
     refine nB fun a7 a8=>?_
     iterate 4 refine cV ?_
     exact bC [1,7,9,25,26,27] (fun f w=>∃ j,xF c d g j=some n/\f 38=zB j/\aD G K (box r 337 [i64 g.Kind,i64 g.Value]::L) w) aF aF
    ·exact aF
 exact aF
theorem aAN {e:(List aP)} {p:dJ} {a:Nat} {R:Bool} (hm:aAY e p=some R) (b:aD G K (L) w) (c:aW K a1 c2 e) (d:eM K a4 a [i64 p.scope,zB p.behind]):
  Calls prog 284 ([zS a1 e.length c2,fL a4 a]:List Value).toArray w (cN fun v w'=>v=zB R/\aD G K (L) w'):=by
 exact aF
theorem mV {s_:(List (List aP))} {b:dJ} {a:Nat} {R:Int} (hm:dT s_ b=some R) (q:aD G K (L) w) (h:aW K a1 c2 s_) (i:eM K a4 a [i64 b.scope,zB b.behind]):
  Calls prog 318 ([zS a1 s_.length c2,Value.func (.func 284) #[] #[fL a4 a]]:List Value).toArray w (cN fun v w'=>v=i64 R/\aD G K (L) w'):=by
 refine cC func318 ?_;unfold dT at hm
 refine aC ?_;refine aI [] (fun f w=>iG=some R/\aD G K (L) w) aF ?_
 obtain ⟨r,j,ho⟩:=aB hm
 refine bL [0,1,7] j (fun c f w=>f 8=i64 c/\aD G K (L) w) aF ?_
 ·rintro c t f u hm hr ⟨x,k⟩
  unfold cJ at hm
  refine aC ?_
  rcases aG hm with ⟨l,hm⟩|⟨l,hm⟩
  ·refine aC ?_;refine bI (aC ?_)
   obtain ⟨d,m,hm⟩:=aB hm
   refine aC ?_;obtain ⟨y,z,n⟩:=aW.el (sz:=1) rfl h m
   obtain ⟨e,g,rfl,o⟩:=n
   refine aC ?_;obtain ⟨J,p,hm⟩:=aB hm
   exact lL (vs:=[zS e d.length g]) (caps:=[fL a4 a]) (us:=[zS e d.length g,fL a4 a]) rfl call284 rfl rfl (aAN p k o i) aF
  ·exact aF
theorem gJ {s_:(List (List aP))} {a:dJ} {b:Nat} {R:Bool} (hm:dI s_ a=some R) (c:aD G K (L) w) (d:aW K a1 c2 s_) (e:eM K a4 b [i64 a.scope,zB a.behind]):
  Calls prog 283 ([zS a1 s_.length c2,Value.func (.func 284) #[] #[fL a4 b]]:List Value).toArray w (cN fun v w'=>v=zB R/\aD G K (L) w'):=by
 exact aF
end Gv
namespace Gv
open Gv.Hp renaming le_refl→zR
open Go.Value renaming slice→zS,bool→zB,agg→zA
open Option.some renaming inj→zI
open Go Go.Proofs Go.Proofs.Tryz
set_option maxRecDepth 20000
set_option maxHeartbeats 40000000
variable {G:mL} {K:Hp} {L:List eU} {w:World} {a1 a4 a7 a10 a13 a16 a19:Option Addr} {c2 c5 c8 c11 c14 c17 c20:Nat}
theorem aKU {p:Part} {b:(List Definition)} {a:dJ} {R:Int} (hm:sA p b a=some R) (hs:aD G K (L) w) (h:aW K a1 c2 p.Arguments) (m:aW K a4 c5 b):
  Calls prog 234 ([zA #[i64 p.Kind,i64 p.Number,str p.Name,zS a1 p.Arguments.length c2],zS a4 b.length c5,zA #[i64 a.scope,zB a.behind]]:List Value).toArray w (cN fun v w'=>v=i64 R/\aD G K (L) w'):=by
 let d:=[i64 p.Kind,i64 p.Number,str p.Name,zS a1 p.Arguments.length c2]
 let e:=[i64 a.scope,zB a.behind]
 refine cC func234 ?_;unfold sA at hm
 refine aC ?_;refine sL fun g w8 a8=>?_
 refine sL fun c a9 n=>?_;refine aC ?_
 refine bI (aC ?_);obtain ⟨b0,o,hm⟩:=aB hm
 refine dQ call281 (aEo o n h) ?_
 rintro _ b1 ⟨rfl,b2⟩
 refine aC ?_
 rcases aG hm with ⟨q,hm⟩|⟨q,hm⟩
 ·exact aF
 ·iterate 2 refine cV ?_
  refine bC [1,3,5] (fun f w=>∃ i,kJ p b a i=some R/\f 11=zB i/\aD G K (box c 304 e::box g 186 d::L) w) ?_ ?_
  ·rintro f b3 ⟨i,hm,b4,b5⟩
   unfold kJ at hm
   refine aC ?_
   rcases aG hm with ⟨r,hm⟩|⟨r,hm⟩
   ·exact aF
   ·iterate 2 refine cV ?_
    refine bC [1,3,5] (fun f w=>∃ j,iE p b a j=some R/\f 26=zB j/\aD G K (box c 304 e::box g 186 d::L) w) ?_ ?_
    ·rintro f b6 ⟨j,hm,b8,t⟩
     unfold iE at hm
     refine aC ?_
     rcases aG hm with ⟨u,hm⟩|⟨u,hm⟩
     ·exact aF
     ·refine aC ?_;obtain ⟨b9,x,hm⟩:=aB hm
      refine dQ call282 (aCv x t h m) ?_
      rintro _ c0 ⟨rfl,c1⟩
      refine aC ?_
      rcases aG hm with ⟨y,hm⟩|⟨y,hm⟩
      ·exact aF
      ·iterate 2 refine cV ?_
       refine bC [3,5] (fun f w=>∃ k,mJ p a k=some R/\f 54=zB k/\aD G K (box c 304 e::box g 186 d::L) w) ?_ ?_
       ·rintro f c3 ⟨k,hm,c4,c6⟩
        unfold mJ at hm
        refine aC ?_
        rcases aG hm with ⟨z,hm⟩|⟨z,hm⟩
        ·exact aF
        ·iterate 2 refine cV ?_
         refine bC [3,5] (fun f w=>∃ l,mI p a l=some R/\f 63=zB l/\aD G K (box c 304 e::box g 186 d::L) w) ?_ ?_
         ·rintro f c7 ⟨l,hm,c8,J⟩
          unfold mI at hm
          refine aC ?_
          rcases aG hm with ⟨V,hm⟩|⟨V,hm⟩
          ·exact aF
          ·iterate 5 refine cV ?_
           refine aL (qV (vs:=[Value.pointer (some ⟨c,0,none⟩)]) rfl) ?_;obtain ⟨c9,a0,a2,a3,d0⟩:=aD.lendBp J .head
           obtain ⟨d1,a5,hm⟩:=aB hm
           exact dQ call283 (gJ a5 a3 (h.mono a0) a2) aF
         exact aF
       exact aF
    exact aF
  exact aF
theorem aNn {a:(List Definition)} {d:Definition} {R:(Int × Int)} (hm:yG a d=some R) (o:aD G K (L) w) (p:aW K a1 c2 a) (c:aW K a4 c5 d.Body):
  Calls prog 175 ([zS a1 a.length c2,zA #[str d.Name,i64 d.Parameters,zS a4 d.Body.length c5]]:List Value).toArray w (cN fun v w'=>v=Value.tuple #[i64 R.1,i64 R.2]/\aD G K (L) w'):=by
 refine cC func175 ?_;unfold yG at hm
 refine aC ?_;refine sL fun e q r=>?_
 refine aC ?_;refine bC [0,3] (fun f w=>∃ b,tT a d b=some R/\f 22=zB b/\aD G K (box e 90 [str d.Name,i64 d.Parameters,zS a4 d.Body.length c5]::L) w) ?_ ?_
 ·rintro f t ⟨b,hm,u,g⟩
  unfold tT at hm
  refine aC ?_
  rcases aG hm with ⟨h,hm⟩|⟨h,hm⟩
  ·exact aF
  ·refine aC ?_;obtain ⟨i,j,hm⟩:=aB hm
   refine dQ call233 (wK j g c) ?_
   rintro _ x ⟨k,l,rfl,y⟩
   refine aC ?_;refine aI [] (fun f w=>aIB=some R/\aD G K (L) w) aF ?_
   obtain ⟨z,m,ho⟩:=aB hm
   exact bL [0,6,26,27] m (fun n f w=>f 28=i64 n/\aD G K (aJ 304 K k l i::L) w) aF aF
 exact aF
theorem yL {b:(List Definition)} {R:Bool} (hm:iT b=some R) (hs:aD G K (L) w) (d:aW K a1 c2 b):
  Calls prog 114 ([zS a1 b.length c2]:List Value).toArray w (cN fun v w'=>v=zB R/\aD G K (L) w'):=by
 refine cC func114 ?_;unfold iT at hm
 iterate 7 refine cV ?_
 refine bC [0] (fun f w=>∃ e,kF b e=some R/\f 15=zB e/\aD G K (L) w) ?_ ?_
 ·rintro f w6 ⟨e,hm,e5,a7⟩
  unfold kF at hm
  refine aC ?_
  rcases aG hm with ⟨k,hm⟩|⟨k,hm⟩
  ·exact aF
  ·refine aC ?_;refine aI [] (fun f w=>aAL=some R/\aD G K (L) w) aF ?_
   obtain ⟨a8,l,ho⟩:=aB hm
   refine bL [0,16,17] l (fun g f w=>f 18=i64 g/\aD G K (L) w) aF ?_
   ·rintro g m f a9 hm hr ⟨b0,b1⟩
    unfold kE at hm
    refine aC ?_
    rcases aG hm with ⟨n,hm⟩|⟨n,hm⟩
    ·refine aC ?_;refine bI (aC ?_)
     obtain ⟨a,o,hm⟩:=aB hm
     refine aC ?_;obtain ⟨b2,b3,p⟩:=aW.el (sz:=3) rfl d o
     obtain ⟨q,r,rfl,b4⟩:=p
     refine aC ?_;refine pO fun t b5 b6=>?_
     refine aC ?_;refine nB fun b7 c=>?_
     refine aC ?_;refine bC [0,4,16,17,18] (fun f w=>∃ h,mX b g a h=some m/\f 35=zB h/\aD G K (box t 90 [str a.Name,i64 a.Parameters,zS q a.Body.length r]::L) w) aF (aIi ?_)
     refine aC ?_;obtain ⟨u,x,hm⟩:=aB hm
     refine qW (vs:=[str a.Name]) (v:=zB u) call173 rfl (fun _ c=>(aKp x c)) (aC ?_)
     rcases aG hm with ⟨y,hm⟩|⟨y,hm⟩
     ·exact aF
     ·refine aC ?_;obtain ⟨z,i,hm⟩:=aB hm
      obtain ⟨J,V,j⟩:=Cut.ex 3 a1 c2 0
      have a0:=aW.cut' d i j
      refine rO (fun _ c=>aRT aRb d.room j rfl rfl rfl i) (aC ?_);obtain ⟨a2,a3,hm⟩:=aB hm
      exact qW (vs:=[zS J z.length V,str a.Name]) (v:=i64 a2) call174 rfl (fun _ c=>(aAE a3 c a0)) aF
    ·exact aF
 exact aF
theorem aKV {a:(List Definition)} {c:aZ} {R:Bool} (hm:wC a c=some R) (d:aD G K (L) w) (e:aW K a1 c2 a) (g:aW K a4 c5 c.Values):
  Calls prog 118 ([zS a1 a.length c2,zA #[i64 c.Definition,zS a4 c.Values.length c5]]:List Value).toArray w (cN fun v w'=>v=zB R/\aD G K (L) w'):=by
 refine cC func118 ?_;unfold wC at hm
 refine aC ?_;refine sL fun h i j=>?_
 refine aC ?_;exact bC [] (fun f w=>∃ b,qE b=some R/\f 4=zB b/\aD G K (L) w) aF aF
theorem aHf {a b:aT} {R:Int} (hm:oC a b=some R) (d:aD G K (L) w):
  Calls prog 179 ([zA #[str a.Left,str a.Right,str a.Result],zA #[str b.Left,str b.Right,str b.Result]]:List Value).toArray w (cN fun v w'=>v=i64 R/\aD G K (L) w'):=by
 refine cC func179 ?_;unfold oC at hm
 refine aC ?_;refine sL fun e g h=>?_
 refine sL fun i j k=>?_;refine aC ?_
 refine vJ ([a.Left,a.Right]:List aH) fun l m n=>?_;refine aC ?_
 refine vJ ([b.Left,b.Right]:List aH) fun o p c=>?_;obtain ⟨q,r,t,u,x⟩:=aD.lendSp c (Hp.le_refl _) zt1
 exact aF
theorem aBX {o p:aT} {a:Nat} {R:Bool} (hm:xG o p=some R) (c:aD G K (L) w) (d:eM K a1 a [str p.Left,str p.Right,str p.Result]):
  Calls prog 181 ([zA #[str o.Left,str o.Right,str o.Result],fL a1 a]:List Value).toArray w (cN fun v w'=>v=zB R/\aD G K (L) w'):=by
 refine cC func181 ?_;unfold xG at hm
 refine aC ?_;refine sL fun e g h=>?_
 iterate 4 refine cV ?_
 exact bC [] (fun f w=>∃ b,rJ b=some R/\f 3=zB b/\aD G K (L) w) aF aF
theorem mB {s_:(List aT)} {b:aT} {c:Nat} {R:Int} (hm:dK s_ b=some R) (n:aD G K (L) w) (e:aW K a1 c2 s_) (g:eM K a4 c [str b.Left,str b.Right,str b.Result]):
  Calls prog 207 ([zS a1 s_.length c2,Value.func (.func 181) #[] #[fL a4 c]]:List Value).toArray w (cN fun v w'=>v=i64 R/\aD G K (L) w'):=by
 refine cC func207 ?_;unfold dK at hm
 refine aC ?_;refine aI [] (fun f w=>gY=some R/\aD G K (L) w) aF ?_
 obtain ⟨o,h,ho⟩:=aB hm
 refine bL [0,1,7] h (fun d f w=>f 8=i64 d/\aD G K (L) w) aF ?_
 ·rintro d p f q hm hr ⟨r,i⟩
  unfold cD at hm
  refine aC ?_
  rcases aG hm with ⟨j,hm⟩|⟨j,hm⟩
  ·refine aC ?_;refine bI (aC ?_)
   obtain ⟨a,k,hm⟩:=aB hm
   refine aC ?_;obtain ⟨t,u,l⟩:=aW.el (sz:=3) rfl e k
   cases l
   refine aC ?_;obtain ⟨x,m,hm⟩:=aB hm
   exact lL (vs:=[zA #[str a.Left,str a.Right,str a.Result]]) (caps:=[fL a4 c]) (us:=[zA #[str a.Left,str a.Right,str a.Result],fL a4 c]) rfl call181 rfl rfl (aBX m i g) aF
  ·exact aF
theorem fZ {s_:(List aT)} {a:aT} {b:Nat} {R:Bool} (hm:cZ s_ a=some R) (c:aD G K (L) w) (d:aW K a1 c2 s_) (e:eM K a4 b [str a.Left,str a.Right,str a.Result]):
  Calls prog 180 ([zS a1 s_.length c2,Value.func (.func 181) #[] #[fL a4 b]]:List Value).toArray w (cN fun v w'=>v=zB R/\aD G K (L) w'):=by
 exact aF
theorem aMm {a:(List aT)} {R:Bool} (hm:rK a=some R) (t:aD G K (L) w) (e:aW K a1 c2 a):
  Calls prog 119 ([zS a1 a.length c2]:List Value).toArray w (cN fun v w'=>v=zB R/\aD G K (L) w'):=by
 refine cC func119 ?_;unfold rK at hm
 refine aC ?_;refine aI [0] (fun f w=>aHA a=some R/\aD G K (L) w) aF ?_
 obtain ⟨u,h,ho⟩:=aB hm
 refine bL [0,5,6] h (fun c f w=>f 7=i64 c/\aD G K (L) w) aF ?_
 ·rintro c i f x hm hr ⟨y,z⟩
  unfold jW at hm
  refine aC ?_
  rcases aG hm with ⟨j,hm⟩|⟨j,hm⟩
  ·refine aC ?_;refine bI (aC ?_)
   obtain ⟨b,k,hm⟩:=aB hm
   refine aC ?_;obtain ⟨J,V,l⟩:=aW.el (sz:=3) rfl e k
   cases l
   refine aC ?_;refine pO fun g a0 a2=>?_
   refine aC ?_;refine nB fun a3 a4=>?_
   refine aC ?_;refine bC [0,4,5,6,7] (fun f w=>∃ d,iD a c b d=some i/\f 48=zB d/\aD G K (box g 94 [str b.Left,str b.Right,str b.Result]::L) w) ?_ ?_
   ·rintro f a5 ⟨d,hm,a6,m⟩
    unfold iD at hm
    refine aC ?_
    rcases aG hm with ⟨n,hm⟩|⟨n,hm⟩
    ·exact aF
    ·iterate 6 refine cV ?_
     refine aL (qV (vs:=[Value.pointer (some ⟨g,0,none⟩)]) rfl) ?_;obtain ⟨a7,o,p,q,a8⟩:=aD.lendBp m .head
     obtain ⟨a9,r,hm⟩:=aB hm
     exact dQ call180 (fZ r q (e.mono o) p) aF
   exact aF
  ·exact aF
theorem aPF {a:(List aH)} {R:Bool} (hm:aDw a=some R) (k:aD G K (L) w) (d:aW K a1 c2 a):
  Calls prog 120 ([zS a1 a.length c2]:List Value).toArray w (cN fun v w'=>v=zB R/\aD G K (L) w'):=by
 refine cC func120 ?_;unfold aDw at hm
 refine aC ?_;refine aI [0] (fun f w=>aGX a=some R/\aD G K (L) w) aF ?_
 obtain ⟨l,e,ho⟩:=aB hm
 refine bL [0,5,6] e (fun b f w=>f 7=i64 b/\aD G K (L) w) aF ?_
 ·rintro b g f m hm hr ⟨n,o⟩
  unfold aAt at hm
  refine aC ?_
  rcases aG hm with ⟨h,hm⟩|⟨h,hm⟩
  ·refine aC ?_;refine bI (aC ?_)
   obtain ⟨p,i,hm⟩:=aB hm
   refine aC ?_;obtain ⟨q,r,j⟩:=aW.el (sz:=1) rfl d i
   cases j
   iterate 6 refine cV ?_
   exact bC [0,5,6,7] (fun f w=>∃ c,aAs b c=some g/\f 27=zB c/\aD G K (L) w) aF aF
  ·exact aF
theorem aAO {c:aZ} {p:aR} {a:Nat} {R:Bool} (hm:aAZ c p=some R) (b:aD G K (L) w) (d:aW K a1 c2 c.Values) (e:eM K a4 a [zS a7 p.Definitions.length c8,zS a10 p.Components.length c11,zS a13 p.Meetings.length c14,zS a16 p.Allowed.length c17,zS a19 p.Hidden.length c20]) (g:aW K a7 c8 p.Definitions) (h:aW K a10 c11 p.Components) (i:aW K a13 c14 p.Meetings) (j:aW K a16 c17 p.Allowed) (k:aW K a19 c20 p.Hidden):
  Calls prog 117 ([zA #[i64 c.Definition,zS a1 c.Values.length c2],fL a4 a]:List Value).toArray w (cN fun v w'=>v=zB R/\aD G K (L) w'):=by
 exact aF
theorem lB {s_:(List aZ)} {a:aR} {b:Nat} {R:Int} (hm:cY s_ a=some R) (x:aD G K (L) w) (g:aW K a1 c2 s_) (h:eM K a4 b [zS a7 a.Definitions.length c8,zS a10 a.Components.length c11,zS a13 a.Meetings.length c14,zS a16 a.Allowed.length c17,zS a19 a.Hidden.length c20]) (i:aW K a7 c8 a.Definitions) (j:aW K a10 c11 a.Components) (k:aW K a13 c14 a.Meetings) (l:aW K a16 c17 a.Allowed) (m:aW K a19 c20 a.Hidden):
  Calls prog 176 ([zS a1 s_.length c2,Value.func (.func 117) #[] #[fL a4 b]]:List Value).toArray w (cN fun v w'=>v=i64 R/\aD G K (L) w'):=by
 refine cC func176 ?_;unfold cY at hm
 refine aC ?_;refine aI [] (fun f w=>gB=some R/\aD G K (L) w) aF ?_
 obtain ⟨y,n,ho⟩:=aB hm
 refine bL [0,1,7] n (fun d f w=>f 8=i64 d/\aD G K (L) w) aF ?_
 ·rintro d z f J hm hr ⟨V,o⟩
  unfold bV at hm
  refine aC ?_
  rcases aG hm with ⟨p,hm⟩|⟨p,hm⟩
  ·refine aC ?_;refine bI (aC ?_)
   obtain ⟨c,q,hm⟩:=aB hm
   refine aC ?_;obtain ⟨a0,a2,r⟩:=aW.el (sz:=2) rfl g q
   obtain ⟨e,c48,rfl,t⟩:=r
   refine aC ?_;obtain ⟨a3,u,hm⟩:=aB hm
   exact lL (vs:=[zA #[i64 c.Definition,zS e c.Values.length c48]]) (caps:=[fL a4 b]) (us:=[zA #[i64 c.Definition,zS e c.Values.length c48],fL a4 b]) rfl call117 rfl rfl (aAO u o t h i j k l m) aF
  ·exact aF
theorem fK {s_:(List aZ)} {a:aR} {b:Nat} {R:Bool} (hm:cP s_ a=some R) (c:aD G K (L) w) (d:aW K a1 c2 s_) (e:eM K a4 b [zS a7 a.Definitions.length c8,zS a10 a.Components.length c11,zS a13 a.Meetings.length c14,zS a16 a.Allowed.length c17,zS a19 a.Hidden.length c20]) (g:aW K a7 c8 a.Definitions) (h:aW K a10 c11 a.Components) (i:aW K a13 c14 a.Meetings) (j:aW K a16 c17 a.Allowed) (k:aW K a19 c20 a.Hidden):
  Calls prog 116 ([zS a1 s_.length c2,Value.func (.func 117) #[] #[fL a4 b]]:List Value).toArray w (cN fun v w'=>v=zB R/\aD G K (L) w'):=by
 exact aF
theorem aKW {s_:aR} {R:Int} (hm:wD s_=some R) (y:aD G K (L) w) (b:aW K a1 c2 s_.Definitions) (c:aW K a4 c5 s_.Components) (g:aW K a7 c8 s_.Meetings) (h:aW K a10 c11 s_.Allowed) (i:aW K a13 c14 s_.Hidden):
  Calls prog 75 ([zA #[zS a1 s_.Definitions.length c2,zS a4 s_.Components.length c5,zS a7 s_.Meetings.length c8,zS a10 s_.Allowed.length c11,zS a13 s_.Hidden.length c14]]:List Value).toArray w (cN fun v w'=>v=i64 R/\aD G K (L) w'):=by
 refine cC func75 ?_;unfold wD at hm
 refine aC ?_;refine sL fun d z j=>?_
 refine aC ?_;refine bI (aC ?_)
 obtain ⟨J,k,hm⟩:=aB hm
 refine dQ call114 (yL k j b) ?_
 rintro _ V ⟨rfl,l⟩
 refine aC ?_
 rcases aG hm with ⟨m,hm⟩|⟨m,hm⟩
 ·exact aF
 ·iterate 2 refine cV ?_
  refine bC [1] (fun f w=>∃ e,uR s_ e=some R/\f 8=zB e/\aD G K (box d 35 [zS a1 s_.Definitions.length c2,zS a4 s_.Components.length c5,zS a7 s_.Meetings.length c8,zS a10 s_.Allowed.length c11,zS a13 s_.Hidden.length c14]::L) w) aF (aC ?_);obtain ⟨a0,n,hm⟩:=aB hm
  refine dQ call115 (aKo n l) ?_
  rintro _ a2 ⟨rfl,o⟩
  refine aC ?_
  rcases aG hm with ⟨p,hm⟩|⟨p,hm⟩
  ·exact aF
  ·iterate 5 refine cV ?_
   refine aL (qV (vs:=[Value.pointer (some ⟨d,0,none⟩)]) rfl) (aC ?_);obtain ⟨a3,a,q,r,t⟩:=aD.lendBp o .head
   obtain ⟨a5,u,hm⟩:=aB hm
   refine dQ call116 (fK u r (c.mono a) q (b.mono a) (c.mono a) (g.mono a) (h.mono a) (i.mono a)) ?_
   rintro _ a6 ⟨rfl,x⟩
   have a8:=t _ _ x
   exact aF
theorem aEp {s_:aR} {R:Bool} (hm:wE s_=some R) (a:aD G K (L) w) (b:aW K a1 c2 s_.Definitions) (c:aW K a4 c5 s_.Components) (d:aW K a7 c8 s_.Meetings) (e:aW K a10 c11 s_.Allowed) (g:aW K a13 c14 s_.Hidden):
  Calls prog 43 ([zA #[zS a1 s_.Definitions.length c2,zS a4 s_.Components.length c5,zS a7 s_.Meetings.length c8,zS a10 s_.Allowed.length c11,zS a13 s_.Hidden.length c14]]:List Value).toArray w (cN fun v w'=>v=zB R/\aD G K (L) w'):=by
 exact aF
theorem qF {s_ R:(List Edge)} (hm:dN s_=some R) (hs:aD G K (aJ 83 K a1 c2 s_::L) w):
  Calls prog 127 ([zS a1 s_.length c2]:List Value).toArray w (cN fun v w'=>∃ z J,v=zS z R.length J/\aD G K (aJ 83 K z J R::L) w'):=by
 refine cC func127 ?_;unfold dN at hm
 refine aC ?_
 rcases aG hm with ⟨c3,hm⟩|⟨c3,hm⟩
 ·exact aF
 ·refine aC ?_;refine aI [0] (fun f w=>jI s_=some R/\aD G K (aJ 83 K a1 c2 s_::L) w) aF ?_
  obtain ⟨e8,b7,ho⟩:=aB hm
  refine bL [0] b7 (fun c f w=>f 3=i64 c/\aD G K (aJ 83 K a1 c2 s_::L) w) aF ?_
  ·rintro c V f e9 hm hr ⟨f0,d⟩
   unfold dC at hm
   refine aC ?_
   rcases aG hm with ⟨b8,hm⟩|⟨b8,hm⟩
   ·refine aC ?_;refine aI [0] (fun f w=>eE c=some V/\f 3=i64 c/\aD G K (aJ 83 K a1 c2 s_::L) w) ?_ ?_
    ·rintro f f1 ⟨hm,f2,b9⟩
     unfold eE at hm
     refine aC ?_;exact ⟨_,(zI hm).symm,bO,rfl,b9⟩
    refine aC ?_;refine aIi ?_
    refine aC ?_;obtain ⟨c0,a0,hm⟩:=aB hm
    have b:=cG d (i:=0) rfl a0
    refine rO (fun _ d=>dG yY rfl b rfl rfl rfl a0) (aC ?_);obtain ⟨c1,c4,hm⟩:=aB hm
    refine rO (fun _ d=>dG yY rfl b rfl rfl rfl c4) (aC ?_);refine rO (fun _ d=>R_eqlG (eq_83 (x:=c0) (y:=c1)) rfl rfl) (sJ (fun f3 c5=>(aC ?_)))
    rcases aG hm with ⟨c6,hm⟩|⟨c6,hm⟩
    ·refine aC ?_;obtain ⟨f4,e,hm⟩:=aB hm
     have g:=aGE c5 (i:=0) rfl
     obtain ⟨f5,f6,j⟩:=Cut.ex 3 a1 c2 c
     refine aL (aKE yY g j rfl rfl rfl e) (aC ?_);refine aI [] (fun f w=>∃ k l,eF k l=some V/\f 0=zS a1 k.length c2/\f 3=i64 l/\aD G K (aJ 83 K a1 c2 k::L) w) ?_ ?_
     ·rintro f f7 ⟨k,l,hm,c7,f8,a2⟩
      unfold eF at hm
      refine aC ?_;obtain ⟨f9,c8,hm⟩:=aB hm
      have c9:=aGE a2 (i:=0) rfl
      obtain ⟨g0,g1,a3⟩:=Cut.ex 3 a1 c2 l
      refine aL (aKE yY c9 a3 rfl rfl rfl c8) ?_;obtain ⟨a4,a5,hm⟩:=aB hm
      refine aNa yY ez_83 rfl a2 (i:=0) rfl a3 rfl rfl a5 (fun a6 (a7:aD G K (aJ 83 K a1 c2 a4::L) a6)=>?_)
      iterate 4 refine cV ?_
      refine kH (v:=zS a1 a4.length c2) (Eq.trans c7 (congrArg (fun n=>zS a1 n c2) (aRG a5))) (aC ?_);obtain ⟨a8,a9,hm⟩:=aB hm
      have d0:=aGE a7 (i:=0) rfl
      obtain ⟨d1,d2,b0⟩:=Cut.ex 3 a1 c2 0
      refine aL (aRT yY d0 b0 rfl rfl rfl a9) (aC ?_);refine aDC (kS (dX (dX (dX ?_))))
      have d3:=hr _ (zI hm).symm
      subst d3
      have hm:(some a8)=some R:=ho
      clear hr ho
      have g2:aD G K (aJ 83 K d1 d2 a8::L) a6:=aD.cutP a7 (i:=0) rfl a9 b0
      exact aF
     obtain ⟨g3,d4,ho⟩:=aB hm
     refine nO [4] d4 (fun o p q f w=>f 0=zS a1 o.length c2/\f 3=i64 p/\f 5=i64 q/\aD G K (aJ 83 K a1 c2 o::L) w) aF ?_
     ·rintro o p q d5 f g4 hm hr ⟨d6,g5,g6,r⟩
      unfold dB at hm
      refine aC ?_
      rcases aG hm with ⟨d7,hm⟩|⟨d7,hm⟩
      ·refine aC ?_;refine aI [4,5] (fun f w=>∃ m u,dA q m u=some d5/\f 0=zS a1 m.length c2/\f 3=i64 u/\aD G K (aJ 83 K a1 c2 m::L) w) ?_ ?_
       ·rintro f g7 ⟨m,u,hm,d8,d9,e0⟩
        unfold dA at hm
        refine aC ?_;exact ⟨_,(zI hm).symm,bO,d8,d9,rfl,e0⟩
       refine aC ?_;refine aIi ?_
       refine aC ?_;obtain ⟨g8,b1,hm⟩:=aB hm
       obtain ⟨a,e1,hm⟩:=aB hm
       refine rO (fun _ r=>aLz yY b j e g rfl rfl rfl b1 rfl) (aC ?_);obtain ⟨g9,e2,hm⟩:=aB hm
       obtain ⟨e3,h0,hm⟩:=aB hm
       refine rO (fun _ r=>aLz yY b j e g rfl rfl rfl e2 rfl) (aC ?_);refine rO (fun _ r=>R_neqG (eq_83 (x:=a) (y:=e3)) rfl rfl) (sJ (fun h1 b2=>(aC ?_)))
       rcases aG hm with ⟨e4,hm⟩|⟨e4,hm⟩
       ·refine aC ?_;refine aL (aLz yY b j e g rfl rfl rfl b1 rfl) (aL (aRL (t:=0) (vs:=[i64 a.F,i64 a.B,i64 a.To]) ag_83 b2 (i:=0) rfl e1 rfl rfl rfl rfl) ?_)
        obtain ⟨h2,b3,hm⟩:=aB hm
        refine aL (dG yY rfl b rfl rfl rfl b3) ?_;obtain ⟨b4,b5,hm⟩:=aB hm
        refine qU (i:=0) (t:=0) (ns:=[i64 a.F,i64 a.B,i64 a.To]) (e':=(⟨a.F,a.B,a.To⟩:Edge)) sizeOf83 b2 rfl (Hp.le_refl _) rfl rfl rfl b3 b5 rfl rfl (xM rfl) rfl (fun cs h=>by cases h;rfl) (fun e5 (e6:aD G K (aJ 83 K a1 c2 b4::L) e5)=>(aC ?_));exact ⟨bO,b4,wr (p+1),hm,(Eq.trans d6 (congrArg (fun n=>zS a1 n c2) (fB b5))),rfl,e6⟩
       ·exact aF
      ·exact aF
    ·exact aF
   ·exact aF
theorem lC {s_ R:(List aH)} (hm:eP s_=some R) (hs:aD G K (aJ 9 K a1 c2 s_::L) w):
  Calls prog 123 ([zS a1 s_.length c2]:List Value).toArray w (cN fun v w'=>∃ r u,v=zS r R.length u/\aD G K (aJ 9 K r u R::L) w'):=by
 refine cC func123 ?_;unfold eP at hm
 refine aC ?_
 rcases aG hm with ⟨c3,hm⟩|⟨c3,hm⟩
 ·exact aF
 ·refine aC ?_;refine aI [0] (fun f w=>lR s_=some R/\aD G K (aJ 9 K a1 c2 s_::L) w) aF ?_
  obtain ⟨e3,b5,ho⟩:=aB hm
  refine bL [0] b5 (fun b f w=>f 3=i64 b/\aD G K (aJ 9 K a1 c2 s_::L) w) aF ?_
  ·rintro b x f e4 hm hr ⟨e5,l⟩
   unfold eC at hm
   refine aC ?_
   rcases aG hm with ⟨b6,hm⟩|⟨b6,hm⟩
   ·refine aC ?_;refine aI [0] (fun f w=>fN b=some x/\f 3=i64 b/\aD G K (aJ 9 K a1 c2 s_::L) w) ?_ ?_
    ·rintro f e6 ⟨hm,e7,b7⟩
     unfold fN at hm
     refine aC ?_;exact ⟨_,(zI hm).symm,bO,rfl,b7⟩
    refine aC ?_;refine aIi ?_
    refine aC ?_;obtain ⟨e8,y,hm⟩:=aB hm
    have a:=cG l (i:=0) rfl y
    refine rO (fun _ l=>dG sP rfl a rfl rfl rfl y) (aC ?_);obtain ⟨e9,b8,hm⟩:=aB hm
    refine rO (fun _ l=>dG sP rfl a rfl rfl rfl b8) (aC ?_);refine sJ (fun f0 b9=>(aC ?_))
    rcases aG hm with ⟨c0,hm⟩|⟨c0,hm⟩
    ·refine aC ?_;obtain ⟨f1,c,hm⟩:=aB hm
     have d:=aGE b9 (i:=0) rfl
     obtain ⟨f2,f3,e⟩:=Cut.ex 1 a1 c2 b
     refine aL (aKE sP d e rfl rfl rfl c) (aC ?_);refine aI [] (fun f w=>∃ g j,fO g j=some x/\f 0=zS a1 g.length c2/\f 3=i64 j/\aD G K (aJ 9 K a1 c2 g::L) w) ?_ ?_
     ·rintro f f4 ⟨g,j,hm,c1,f5,z⟩
      unfold fO at hm
      refine aC ?_;obtain ⟨f6,c4,hm⟩:=aB hm
      have c5:=aGE z (i:=0) rfl
      obtain ⟨f7,f8,J⟩:=Cut.ex 1 a1 c2 j
      refine aL (aKE sP c5 J rfl rfl rfl c4) ?_;obtain ⟨V,a0,hm⟩:=aB hm
      refine aNa sP ez_9 rfl z (i:=0) rfl J rfl rfl a0 (fun a2 (a3:aD G K (aJ 9 K a1 c2 V::L) a2)=>?_)
      iterate 4 refine cV ?_
      refine kH (v:=zS a1 V.length c2) (Eq.trans c1 (congrArg (fun n=>zS a1 n c2) (aRG a0))) (aC ?_);obtain ⟨a4,a5,hm⟩:=aB hm
      have c6:=aGE a3 (i:=0) rfl
      obtain ⟨c7,c8,a6⟩:=Cut.ex 1 a1 c2 0
      refine aL (aRT sP c6 a6 rfl rfl rfl a5) (aC ?_);refine aDC (kS (dX (dX (dX ?_))))
      have c9:=hr _ (zI hm).symm
      subst c9
      have hm:(some a4)=some R:=ho
      clear hr ho
      have f9:aD G K (aJ 9 K c7 c8 a4::L) a2:=aD.cutP a3 (i:=0) rfl a5 a6
      exact aF
     obtain ⟨g0,d0,ho⟩:=aB hm
     refine nO [4] d0 (fun m o p f w=>f 0=zS a1 m.length c2/\f 3=i64 o/\f 5=i64 p/\aD G K (aJ 9 K a1 c2 m::L) w) aF ?_
     ·rintro m o p d1 f g1 hm hr ⟨d2,g2,g3,a7⟩
      unfold eB at hm
      refine aC ?_
      rcases aG hm with ⟨d3,hm⟩|⟨d3,hm⟩
      ·refine aC ?_;refine aI [4,5] (fun f w=>∃ k q,eA p k q=some d1/\f 0=zS a1 k.length c2/\f 3=i64 q/\aD G K (aJ 9 K a1 c2 k::L) w) ?_ ?_
       ·rintro f g4 ⟨k,q,hm,d4,d5,d6⟩
        unfold eA at hm
        refine aC ?_;exact ⟨_,(zI hm).symm,bO,d4,d5,rfl,d6⟩
       refine aC ?_;refine aIi ?_
       refine aC ?_;obtain ⟨g5,a8,hm⟩:=aB hm
       obtain ⟨a9,d7,hm⟩:=aB hm
       refine rO (fun _ a7=>aLz sP a e c d rfl rfl rfl a8 rfl) (aC ?_);obtain ⟨g6,d8,hm⟩:=aB hm
       obtain ⟨g7,g8,hm⟩:=aB hm
       refine rO (fun _ a7=>aLz sP a e c d rfl rfl rfl d8 rfl) (aC ?_);refine sJ (fun g9 b0=>(aC ?_))
       rcases aG hm with ⟨d9,hm⟩|⟨d9,hm⟩
       ·refine aC ?_;refine aL (aLz sP a e c d rfl rfl rfl a8 rfl) (aL (R_ldO (t:=0) sc_9 b0 (i:=0) rfl d7 rfl rfl rfl) ?_)
        obtain ⟨h0,b1,hm⟩:=aB hm
        refine aL (dG sP rfl a rfl rfl rfl b1) ?_;obtain ⟨b2,b3,hm⟩:=aB hm
        refine qU (i:=0) (t:=0) (ns:=[str a9]) (e':=(a9:aH)) sizeOf9 b0 rfl (Hp.le_refl _) rfl rfl rfl b1 b3 rfl rfl (xM rfl) rfl (fun cs h=>by cases h;rfl) (fun e0 (e1:aD G K (aJ 9 K a1 c2 b2::L) e0)=>(aC ?_));exact ⟨bO,b2,wr (o+1),hm,(Eq.trans d2 (congrArg (fun n=>zS a1 n c2) (fB b3))),rfl,e1⟩
       ·exact aF
      ·exact aF
    ·exact aF
   ·exact aF
theorem lT {s_:(List aH)} {a:aH} {R:Int} (hm:eD s_ a=some R) (d:aD G K (L) w) (e:aW K a1 c2 s_):
  Calls prog 124 ([zS a1 s_.length c2,str a]:List Value).toArray w (cN fun v w'=>v=i64 R/\aD G K (L) w'):=by
 refine cC func124 ?_;unfold eD at hm
 refine aC ?_;refine aI [] (fun f w=>mT=some R/\aD G K (L) w) aF ?_
 obtain ⟨g,b,ho⟩:=aB hm
 exact bL [0,1,7] b (fun c f w=>f 8=i64 c/\aD G K (L) w) aF aF
end Gv
