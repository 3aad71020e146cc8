/- Networks: the laws' measures, copies, comparisons and marks. -/
import Derived.Test.YtlechllgdgniaaaGreatDoorJP50
set_option linter.all false
namespace Gv
def aHZ (n:Nat) (m:bV):Prop:=m.Left.length<=n/\m.Right.length<=n/\m.Result.length<=n
structure aGL (n:Nat) (a:iY):Prop where
 parts:a.Parts.length<=n
 part:∀ t∈a.Parts,lP n t
 meets:a.Meetings.length<=n
 meet:∀ m∈a.Meetings,aHZ n m
 alls:a.Allowed.length<=n
 all:∀ s∈a.Allowed,s.length<=n
 hids:a.Hidden.length<=n
 hid:∀ s∈a.Hidden,s.length<=n
theorem aGL.mono {n m:Nat} {a:iY} (h:aGL n a) (hn:n<=m):aGL m a:=
 ⟨Nat.le_trans h.1 hn,fun t ht=>let ⟨x,y,z⟩:=h.2 t ht;⟨Nat.le_trans x hn,fun s hs=>Nat.le_trans (y s hs) hn,Nat.le_trans z hn⟩,Nat.le_trans h.3 hn,fun t ht=>let ⟨x,y,z⟩:=h.4 t ht;⟨Nat.le_trans x hn,Nat.le_trans y hn,Nat.le_trans z hn⟩,Nat.le_trans h.5 hn,fun t ht=>Nat.le_trans (h.6 t ht) hn,Nat.le_trans h.7 hn,fun t ht=>Nat.le_trans (h.8 t ht) hn⟩
theorem eqLtsS_eq (a b:List eP) (h:a.length < 4611686018427387904) (hp:∀ t∈a,lP 4611686018427387903 t):aHF a b=some (decide (a=b)):=by
 unfold aHF
 by_cases e:a.length=b.length
 ·rw [if_neg (by simp [e])]
  refine Eq.trans ?_ (aED e (step:=fun s=>aCK a b s) ?_ ?_)
  ·rfl
  ·intro k x y hk hx hy
   have hxm:x∈a:=by rw [cV hk] at hx;cases hx;exact List.getElem_mem hk
   simp only [aCK,cU hk,if_true,hx,hy,aF,cT hk h,eqLts_eq x y (hp x hxm)]
   by_cases e:x=y<;>simp [e]
  ·simp only [aCK,cK];rfl
 ·rw [if_pos (by simp only [bne_iff_ne,ne_eq];omega)]
  have:¬ a=b:=fun h=>e (by rw [h])
  simp [this]
theorem aQh (a b:bV):uA a b=some (decide (a=b)):=by
 obtain ⟨a1,a2,a3⟩:=a;obtain ⟨b1,b2,b3⟩:=b
 simp only [uA,bV.mk.injEq]
 by_cases h1:a1=b1<;>by_cases h2:a2=b2<;>by_cases h3:a3=b3<;>simp [h1,h2,h3]
theorem aOl (a b:List bV) (h:a.length < 4611686018427387904):rN a b=some (decide (a=b)):=by
 unfold rN
 by_cases e:a.length=b.length
 ·rw [if_neg (by simp [e])]
  refine Eq.trans ?_ (aED e (step:=fun s=>kS a b s) ?_ ?_)
  ·rfl
  ·intro k x y hk hx hy
   simp only [kS,cU hk,if_true,hx,hy,aF,cT hk h,aQh]
   by_cases e:x=y<;>simp [e]
  ·simp only [kS,cK];rfl
 ·rw [if_pos (by simp only [bne_iff_ne,ne_eq];omega)]
  have:¬ a=b:=fun h=>e (by rw [h])
  simp [this]
theorem aQi (a b:iY) (h:aGL sz a):uB a b=some (decide (a=b)):=by
 obtain ⟨a1,a2,a3,a4⟩:=a;obtain ⟨b1,b2,b3,b4⟩:=b
 have g1:=h.1;have g3:=h.3;have g5:=h.5;have g7:=h.7
 simp only [sz] at g1 g3 g5 g7
 simp only [uB,iY.mk.injEq,eqLtsS_eq a1 b1 (by omega) (fun t ht=>(h.2 t ht).mono (by decide)),aOl a2 b2 (by omega),aBg a3 b3 (by omega),aBg a4 b4 (by omega),aF]
 by_cases e1:a1=b1<;>by_cases e2:a2=b2<;>by_cases e3:a3=b3<;>by_cases e4:a4=b4<;>simp [e1,e2,e3,e4]
end Gv
namespace Gv
noncomputable def mLt (k:Int) (t:eP):eP:=⟨k,k+1,mS (k+2) t.L.length,mE (k+2+t.L.length) t.E.length⟩
def wL (t:eP):Int:=2+t.L.length+3 * t.E.length
noncomputable def mLs:Int->List eP->List eP
 |_,[]=>[]
 |k,t::ts=>mLt k t::mLs (k+wL t) ts
def kL:Int->List eP->Int
 |k,[]=>k
 |k,t::ts=>kL (k+wL t) ts
theorem wL_le {t:eP} (h:lP sz t):0<=wL t/\wL t<=4194306:=by
 have h1:=h.1;have h2:=h.2.2
 unfold sz at h1 h2
 unfold wL;omega
theorem kL_app:∀ (a b:List eP) (k:Int),kL k (a++b)=kL (kL k a) b
 |[],_,_=>rfl
 |t::ts,b,k=>kL_app ts b (k+wL t)
theorem aQj:∀ (a b:List eP) (k:Int),mLs k (a++b)=mLs k a++mLs (kL k a) b
 |[],_,_=>rfl
 |t::ts,b,k=>by rw [List.cons_append,mLs,mLs,aQj ts b (k+wL t)];rfl
theorem aGM:∀ (a:List eP) (k:Int),(mLs k a).length=a.length
 |[],_=>rfl
 |t::ts,k=>by rw [mLs,List.length_cons,List.length_cons,aGM ts]
theorem kL_le:∀ {a:List eP} (k:Int),(∀ t∈a,lP sz t)->k<=kL k a/\kL k a<=k+4194306 * a.length
 |[],k,_=>by simp [kL]
 |t::ts,k,h=>by
  have h1:=wL_le (h t (by simp))
  have h2:=kL_le (a:=ts) (k+wL t) (fun s hs=>h s (List.mem_cons_of_mem _ hs))
  rw [kL,List.length_cons];omega
theorem aPd {α:Type} {a:List α} {i:Nat} (h:i < a.length):a.take (i+1)=a.take i++[a[i]]:=by rw [List.take_add_one];simp [h]
theorem kL_step {a:List eP} {i:Nat} (h:i < a.length) (k:Int):kL k (a.take (i+1))=kL k (a.take i)+wL a[i]:=by rw [aPd h,kL_app];rfl
theorem mLs_at {a:List eP} {i:Nat} (h:i < a.length) (k:Int):(mLs k a)[i]'(by rw [aGM];exact h)=mLt (kL k (a.take i)) a[i]:=by
 have e:mLs k a=mLs k (a.take i)++mLs (kL k (a.take i)) (a.drop i):=by rw [←aQj,List.take_append_drop]
 have hl:(mLs k (a.take i)).length=i:=by rw [aGM];simp;omega
 have e2:a.drop i=a[i]::a.drop (i+1):=List.drop_eq_getElem_cons h
 have e3:(mLs k a)[i]?=some (mLt (kL k (a.take i)) a[i]):=by
  rw [e,List.getElem?_append_right (by omega),hl,Nat.sub_self,e2];rfl
 exact (List.getElem?_eq_some_iff.1 e3).2
theorem kL_in {a:List eP} (ha:a.length<=sz) (hp:∀ t∈a,lP sz t) {k:Int} (h0:0<=k) (hk:k<=1000) (i:Nat):0<=kL k (a.take i)/\kL k (a.take i)<=4398048610304+1000:=by
 have h1:=kL_le (a:=a.take i) k (fun t ht=>hp t (List.mem_of_mem_take ht))
 have h2:(a.take i).length<=a.length:=by simp;omega
 unfold sz at ha
 omega
theorem aRt {a:List eP} {k:Int} (h0:0<=k) (hk:k<=1000) (ha:a.length<=sz) (hp:∀ t∈a,lP sz t):aEu a k=some (kL k a,mLs k a):=by
 unfold aEu
 have hlt:a.length < 4611686018427387904:=by unfold sz at ha;omega
 have:=tC (step:=fun s:List eP × Int × Int=>xF s.1 s.2.1 s.2.2) a.length (fun i (s:List eP × Int)=>(s.1,s.2,(i:Int))) (fun _ _=>(kL k a,mLs k a)) (fun i s=>s.1=mLs k (a.take i)++a.drop i/\s.2=kL k (a.take i)) (fun i s hi hI=>?_) (fun s hI=>?_) a.length 0 (a,k) (by omega) ⟨by simp [mLs],by simp [kL]⟩
 ·simp only [Int.natCast_zero] at this
  rw [this];rfl
 ·left
  obtain ⟨out,kk⟩:=s
  obtain ⟨e1,e2⟩:=hI
  simp only at e1 e2 ⊢
  have hb:=kL_in ha hp h0 hk i
  rw [←e2] at hb
  have hl1:(mLs k (a.take i)).length=i:=by rw [aGM];simp;omega
  have ho:out.length=a.length:=by rw [e1];simp [aGM];omega
  have hio:i < out.length:=by omega
  have hx:out[i]=a[i]:=by
   have:out[i]?=some a[i]:=by rw [e1,List.getElem?_append_right (by omega),hl1,Nat.sub_self,List.drop_eq_getElem_cons hi];rfl
   exact (List.getElem?_eq_some_iff.1 this).2
  have hf:=hp a[i] (List.getElem_mem hi)
  obtain ⟨f1,_,f3⟩:=hf
  unfold sz at f1 f3
  refine ⟨(out.set i (mLt kk a[i]),kk+wL a[i]),?_,⟨?_,?_⟩,trivial⟩
  ·simp only [xF,ho,cU hi,if_true,cV hio,mT _ hio,aF,hx]
   generalize hy:(⟨kk,a[i].I,a[i].L,a[i].E⟩:eP)=y
   have c1:i < (out.set i y).length:=by simpa using hio
   simp only [cV c1,mT _ c1,aF,List.getElem_set_self,List.set_set]
   have w1:wr (kk+1)=kk+1:=eT (by omega) (by omega)
   have w2:wr (kk+1+1)=kk+2:=by rw [eT (by omega) (by omega)];omega
   rw [w1,w2]
   generalize hz:(⟨y.N,kk+1,y.L,y.E⟩:eP)=z
   have c2:i < (out.set i z).length:=by simpa using hio
   simp only [cV c2,mT _ c2,aF,List.getElem_set_self,List.set_set]
   have hzL:z.L=a[i].L:=by subst hz;subst hy;rfl
   have hzE:z.E=a[i].E:=by subst hz;subst hy;rfl
   rw [hzL,uN (by omega) (by omega) (by omega),aF]
   simp only [cV c2,mT _ c2,aF,List.set_set]
   generalize hu:(⟨z.N,z.I,mS (kk+2) a[i].L.length,z.E⟩:eP)=u
   have c3:i < (out.set i u).length:=by simpa using hio
   simp only [cV c3,mT _ c3,aF,List.getElem_set_self,List.set_set]
   have huE:u.E=a[i].E:=by subst hu;exact hzE
   rw [huE,aPY (by omega) (by omega) (by omega),aF]
   simp only [cV c3,mT _ c3,aF,List.set_set,cT hi hlt]
   subst hu;subst hz;subst hy
   simp only [mLt,wL,Option.some.injEq,Sum.inl.injEq,Prod.mk.injEq,true_and,and_true]
   omega
  ·rw [aPd hi,aQj,←e2,e1]
   have hd:a.drop i=a[i]::a.drop (i+1):=List.drop_eq_getElem_cons hi
   rw [List.set_append_right _ _ (by omega),hl1,Nat.sub_self,hd,List.set_cons_zero]
   simp [mLs]
  ·rw [kL_step hi,e2]
 ·obtain ⟨out,kk⟩:=s
  obtain ⟨e1,e2⟩:=hI
  simp only at e1 e2 ⊢
  have ho:out=mLs k a:=by rw [e1];simp
  have hk2:kk=kL k a:=by rw [e2];simp
  have hol:out.length=a.length:=by rw [ho,aGM]
  simp only [xF,hol,cK]
  subst ho;subst hk2;rfl
theorem aRu {a:List eP} {k:Int} (h0:0<=k) (hk:k<=1000) (ha:a.length<=sz) (hp:∀ t∈a,lP sz t):aEv (mLs k a) k=some (kL k a):=by
 unfold aEv
 have hlt:a.length < 4611686018427387904:=by unfold sz at ha;omega
 have hl:=aGM a k
 have:=tC (step:=fun s:Int × Int=>xH (mLs k a) s.1 s.2) a.length (fun i (_:Unit)=>(kL k (a.take i),(i:Int))) (fun _ _=>.inl (kL k a)) (fun _ _=>True) (fun i s hi _=>?_) (fun s _=>?_) a.length 0 () (by omega) trivial
 ·simp only [List.take_zero,kL] at this
  rw [show (k,(0:Int))=(k,((0:Nat):Int)) from rfl,this];rfl
 ·left
  refine ⟨(),?_,trivial,rfl⟩
  have hi':i < (mLs k a).length:=by omega
  have hb:=kL_in ha hp h0 hk i
  have hf:=hp a[i] (List.getElem_mem hi)
  obtain ⟨f1,_,f3⟩:=hf
  unfold sz at f1 f3
  generalize hkk:kL k (a.take i)=kk at hb
  have w1:wr (kk+1)=kk+1:=eT (by omega) (by omega)
  have w2:wr (kk+1+1)=kk+2:=by rw [eT (by omega) (by omega)];omega
  simp only [xH,hl,cU hi,if_true,cV hi',aF,mLs_at hi,hkk,mLt,w1,w2,bne_self_eq_false,Bool.false_eq_true,if_false]
  rw [aEE (by omega) (by omega) (by omega),aF,if_neg (by simp;omega),aPZ (by omega) (by omega) (by omega),aF,if_neg (by simp;omega),cT hi hlt,kL_step hi,hkk]
  simp only [wL,Option.some.injEq,Sum.inl.injEq,Prod.mk.injEq,and_true]
  omega
 ·rw [List.take_of_length_le (Nat.le_refl _)]
  simp only [xH,hl,cK];rfl
noncomputable def mM (k:Int) (n:Nat):List bV:=(List.range n).map fun i=>⟨mt (k+(3:Nat) * (i:Nat)),mt (k+(3:Nat) * (i:Nat)+1),mt (k+(3:Nat) * (i:Nat)+2)⟩
theorem aMb {a:List bV} {k:Int} (h0:0<=k) (hk:k<=1125899906842624) (ha:a.length<=1099511627776):mA a k=some (k+3 * a.length,mM k a.length):=by
 unfold mA
 rw [aIo (f:=fun k=>⟨mt k,mt (k+1),mt (k+2)⟩) (c:=3) (k0:=k) (a:=a)]
 ·simp [pA,mM]
 ·intro i out hi ho
  have hi':i < out.length:=by omega
  have w1:wr (k+(3:Nat) * (i:Nat)+1)=k+(3:Nat) * (i:Nat)+1:=eT (by omega) (by omega)
  have w2:wr (k+(3:Nat) * (i:Nat)+1+1)=k+(3:Nat) * (i:Nat)+2:=by rw [eT (by omega) (by omega)];omega
  have w3:wr (k+(3:Nat) * (i:Nat)+2+1)=k+(3:Nat) * (i+1:Nat):=by rw [eT (by omega) (by omega)];omega
  simp only [kM,ho,cU hi,if_true,cV hi',mT _ hi',aF,cT hi (show a.length < _ by omega),w1,w2,w3,aFW (k:=k+(3:Nat) * (i:Nat)) (by omega),aFW (k:=k+(3:Nat) * (i:Nat)+1) (by omega),aFW (k:=k+(3:Nat) * (i:Nat)+2) (by omega)]
  generalize hx:(⟨mt (k+(3:Nat) * (i:Nat)),out[i].Right,out[i].Result⟩:bV)=x
  have e1:i < (out.set i x).length:=by simpa using hi'
  simp only [cV e1,mT _ e1,aF,List.getElem_set_self,List.set_set]
  generalize hy:(⟨x.Left,mt (k+(3:Nat) * (i:Nat)+1),x.Result⟩:bV)=y
  have e2:i < (out.set i y).length:=by simpa using hi'
  simp only [cV e2,mT _ e2,aF,List.getElem_set_self,List.set_set]
  subst hy hx
  rfl
 ·intro out k ho
  simp only [kM,ho,cK];rfl
theorem aMc {n:Nat} {k:Int} (h0:0<=k) (hk:k<=1125899906842624) (hn:n<=1099511627776):uH (mM k n) k=some (k+3 * n):=by
 unfold uH
 have hl:(mM k n).length=n:=by simp [mM]
 have:=tC (step:=fun s:Int × Int=>pB (mM k n) s.1 s.2) n (fun i (_:Unit)=>(k+(3:Nat) * (i:Nat),(i:Int))) (fun _ _=>.inl (k+(3:Nat) * n)) (fun _ _=>True) (fun i a hi _=>?_) (fun a _=>?_) n 0 () (by omega) trivial
 ·simp only [Int.natCast_zero,Int.mul_zero,Int.add_zero] at this
  rw [show (k,(0:Int))=(k,((0:Nat):Int)) from rfl] at *
  rw [this];rfl
 ·left
  refine ⟨(),?_,trivial,rfl⟩
  have hi':i < (mM k n).length:=by omega
  have w1:wr (k+(3:Nat) * (i:Nat)+1)=k+(3:Nat) * (i:Nat)+1:=eT (by omega) (by omega)
  have w2:wr (k+(3:Nat) * (i:Nat)+1+1)=k+(3:Nat) * (i:Nat)+2:=by rw [eT (by omega) (by omega)];omega
  have w3:wr (k+(3:Nat) * (i:Nat)+2+1)=k+(3:Nat) * (i+1:Nat):=by rw [eT (by omega) (by omega)];omega
  simp only [pB,hl,cU hi,if_true,cV hi',aF,cT hi (show n < _ by omega),w1,w2,w3,aFW (k:=k+(3:Nat) * (i:Nat)) (by omega),aFW (k:=k+(3:Nat) * (i:Nat)+1) (by omega),aFW (k:=k+(3:Nat) * (i:Nat)+2) (by omega)]
  rw [show (mM k n)[i]=⟨mt (k+(3:Nat) * (i:Nat)),mt (k+(3:Nat) * (i:Nat)+1),mt (k+(3:Nat) * (i:Nat)+2)⟩ by simp [mM]]
  simp
 ·simp only [pB,hl,cK];rfl
theorem mark_net {a:iY} (h:aGL sz a):∃ k Ps Ms As Hs,xG a.Parts a.Meetings a.Allowed a.Hidden 1=some (k,Ps,Ms,As,Hs)/\sM ⟨Ps,Ms,As,Hs⟩ 1=some k/\0<=k:=by
 have g1:=h.1;have g3:=h.3;have g5:=h.5;have g7:=h.7
 have hb:=kL_in h.1 h.2 (k:=1) (by omega) (by omega) a.Parts.length
 rw [List.take_of_length_le (Nat.le_refl _)] at hb
 simp only [sz] at g3 g5 g7
 generalize hk:kL 1 a.Parts=k1 at hb
 refine ⟨k1+3 * a.Meetings.length+a.Allowed.length+a.Hidden.length,mLs 1 a.Parts,mM k1 a.Meetings.length,mS (k1+3 * a.Meetings.length) a.Allowed.length,mS (k1+3 * a.Meetings.length+a.Allowed.length) a.Hidden.length,?_,?_,by omega⟩
 ·unfold xG
  rw [aRt (by omega) (by omega) h.1 h.2,aF,hk]
  simp only
  rw [aMb (by omega) (by omega) (by omega),aF]
  simp only
  rw [uN (by omega) (by omega) (by omega),aF]
  simp only
  rw [uN (by omega) (by omega) (by omega),aF]
 ·unfold sM
  rw [aRu (by omega) (by omega) h.1 h.2,aF,hk,if_neg (by simp;omega),aMc (by omega) (by omega) (by omega),aF,if_neg (by simp;omega),aEE (by omega) (by omega) (by omega),aF,if_neg (by simp;omega),aEE (by omega) (by omega) (by omega),aF,if_neg (by simp;omega)]
end Gv
namespace Gv
def mlt (a b:bV):Bool:=lQ a.Left b.Left||(a.Left == b.Left&&lQ a.Right b.Right)
def cS (x y:bK):Int:=if lQ x y then -1 else if x=y then 0 else 1
theorem cmpS_eq (x y:bK):lA x y=some (cS x y):=by
 unfold lA mO cS
 simp only [BEq.rfl,Bool.not_true,aF,Bool.false_eq_true,if_false]
 by_cases h1:lQ x y=true
 ·simp [h1]
 ·have h1':lQ x y=false:=by simpa using h1
  by_cases h2:x=y
  ·subst h2;simp [h1']
  ·simp [h1',h2]
theorem cmpM (a b:bV):∃ v,oS a b=some v/\decide (0<=v)=!mlt a b:=by
 unfold oS iL mlt
 have s0:cZ [a.Left,a.Right] [b.Left,b.Right] 0=if (cS a.Left b.Left != 0)=true then some (.inr (.inr (cS a.Left b.Left))) else some (.inl 1):=by
  unfold cZ
  rw [if_pos (by simp),show ix ([a.Left,a.Right]:List bK) 0=some a.Left from rfl,aF,if_neg (by simp),show ix ([b.Left,b.Right]:List bK) 0=some b.Left from rfl,aF,cmpS_eq,aF]
  rfl
 have s1:cZ [a.Left,a.Right] [b.Left,b.Right] 1=if (cS a.Right b.Right != 0)=true then some (.inr (.inr (cS a.Right b.Right))) else some (.inl 2):=by
  unfold cZ
  rw [if_pos (by simp),show ix ([a.Left,a.Right]:List bK) 1=some a.Right from rfl,aF,if_neg (by simp),show ix ([b.Left,b.Right]:List bK) 1=some b.Right from rfl,aF,cmpS_eq,aF]
  rfl
 have s2:cZ [a.Left,a.Right] [b.Left,b.Right] 2=some (.inr (.inl ())):=by
  unfold cZ
  rw [if_neg (by simp)]
 by_cases h1:lQ a.Left b.Left=true
 ·have c0:cS a.Left b.Left=-1:=by unfold cS;rw [if_pos h1]
  rw [c0] at s0
  rw [cN,s0]
  exact ⟨-1,rfl,by rw [h1];rfl⟩
 have h1':lQ a.Left b.Left=false:=by simpa using h1
 by_cases h2:a.Left=b.Left
 ·have c0:cS a.Left b.Left=0:=by unfold cS;rw [if_neg h1,if_pos h2]
  rw [c0] at s0
  have s0':cZ [a.Left,a.Right] [b.Left,b.Right] 0=some (.inl 1):=s0
  rw [cN,s0']
  have e2:(a.Left == b.Left)=true:=by rw [h2];exact BEq.rfl
  by_cases h3:lQ a.Right b.Right=true
  ·have c1:cS a.Right b.Right=-1:=by unfold cS;rw [if_pos h3]
   rw [c1] at s1
   simp only
   rw [cN,s1]
   exact ⟨-1,rfl,by rw [h1',e2,h3];rfl⟩
  have h3':lQ a.Right b.Right=false:=by simpa using h3
  by_cases h4:a.Right=b.Right
  ·have c1:cS a.Right b.Right=0:=by unfold cS;rw [if_neg h3,if_pos h4]
   rw [c1] at s1
   have s1':cZ [a.Left,a.Right] [b.Left,b.Right] 1=some (.inl 2):=s1
   simp only
   rw [cN,s1']
   simp only
   rw [cN,s2]
   exact ⟨0,rfl,by rw [h1',e2,h3'];rfl⟩
  ·have c1:cS a.Right b.Right=1:=by unfold cS;rw [if_neg h3,if_neg h4]
   rw [c1] at s1
   simp only
   rw [cN,s1]
   exact ⟨1,rfl,by rw [h1',e2,h3'];rfl⟩
 ·have c0:cS a.Left b.Left=1:=by unfold cS;rw [if_neg h1,if_neg h2]
  rw [c0] at s0
  rw [cN,s0]
  have e2:(a.Left == b.Left)=false:=by simpa using h2
  exact ⟨1,rfl,by rw [h1',e2];rfl⟩
def aIV (ms:List bV) (m:bV):Bool:=ms.any fun o=>o.Left == m.Result||o.Right == m.Result
theorem clash_i (ms:List bV) (m:bV) (h:ms.length < 4000000):dY ms m=some (aIV ms m):=by
 unfold dY fG
 have hl:=aDO (step:=fun s=>dX ms m s) ms (fun o=>o.Left == m.Result||o.Right == m.Result) (fun k x hk hx=>by
  have hw:=cT hk (show ms.length < 4611686018427387904 by omega)
  simp only [dX,cU hk,if_pos,hx,aF,hw]
  unfold xW nN
  by_cases h1:(x.Left == m.Result)=true
  ·rw [if_pos h1,h1,Bool.true_or,aF]
  ·have h1':(x.Left == m.Result)=false:=by simpa using h1
   rw [if_neg h1,h1',Bool.false_or,aF]) (by simp only [dX,cK];rfl)
 rw [hl,aF]
 unfold aIV
 cases hf:ms.findIdx? (fun o:bV=>o.Left == m.Result||o.Right == m.Result) with
 |none=>
  have:ms.any (fun o:bV=>o.Left == m.Result||o.Right == m.Result)=false:=by
   rw [List.any_eq_false]
   intro x hx
   exact List.findIdx?_eq_none_iff.1 hf x hx ▸ (by simp)
  rw [this];rfl
 |some i=>
  obtain ⟨hi,hp,_⟩:=List.findIdx?_eq_some_iff_getElem.1 hf
  have:ms.any (fun o:bV=>o.Left == m.Result||o.Right == m.Result)=true:=List.any_eq_true.2 ⟨_,List.getElem_mem hi,hp⟩
  rw [this];simp [aF]
def mtB (ms:List bV) (k:Nat) (m:bV):Bool:=jI m.Left&&jI m.Right&&jI m.Result&&!lQ m.Right m.Left&&(k == 0||mlt (ms.getD (k - 1) ⟨[],[],[]⟩) m)&&!aIV ms m
theorem le_not (a b:bK):(lQ a b||a == b)=!lQ b a:=aQb b a
theorem meet_i (ms:List bV) (hl:ms.length<=sz) (hm:∀ m∈ms,aHZ sz m) {k:Nat} (hk:k < ms.length):kR ms (k:Int)=if mtB ms k ms[k]=true then some (.inl ((k+1:Nat):Int)) else some (.inr (.inr false)):=by
 obtain ⟨b1,b2,b3⟩:=hm _ (List.getElem_mem hk)
 unfold sz at b1 b2 b3 hl
 generalize hx:ms[k]=x at *
 have hwk:=cT hk (show ms.length < 4611686018427387904 by omega)
 have hj:∀ v,iU ms (k:Int) x v=if (!v&&!aIV ms x)=true then some (.inl ((k+1:Nat):Int)) else some (.inr (.inr false)):=by
  intro v
  unfold iU
  rw [clash_i _ _ (by omega),hwk]
  cases v<;>cases aIV ms x<;>rfl
 unfold kR mtB
 rw [if_pos (cU hk),cV hk,hx,aF,zW _ (by omega),aF]
 cases jI x.Left with
 |false=>simp [hj]
 |true=>
  rw [if_neg (by simp),zW _ (by omega),aF]
  cases jI x.Right with
  |false=>simp [hj]
  |true=>
   rw [if_neg (by simp),zW _ (by omega),aF]
   cases jI x.Result with
   |false=>simp [hj]
   |true=>
    rw [if_neg (by simp),le_not]
    cases lQ x.Right x.Left with
    |true=>simp [hj]
    |false=>
     rw [if_neg (by simp)]
     by_cases h0:0 < k
     ·have hw:wr ((k:Int) - 1)=((k - 1:Nat):Int):=by rw [eT (by omega) (by omega)];omega
      obtain ⟨v,v1,v2⟩:=cmpM (ms[k - 1]'(by omega)) x
      rw [if_pos (by simp only [decide_eq_true_eq];omega),hw,cV (show k - 1 < ms.length by omega),aF,v1,aF,v2,hj]
      have e:ms.getD (k - 1) ⟨[],[],[]⟩=ms[k - 1]'(by omega):=by rw [List.getD_eq_getElem?_getD,List.getElem?_eq_getElem (by omega)];rfl
      have e0:(k == 0)=false:=by simp;omega
      rw [e,e0]
      simp
     ·obtain rfl:k=0:=by omega
      rw [if_neg (by simp),hj]
      simp
theorem meet_s (ms:List bV) (hl:ms.length<=sz) {k:Nat} (hk:k < ms.length):nC ms (k:Int)=if mtB ms k ms[k]=true then some (.inl ((k+1:Nat):Int)) else some (.inr (.inr false)):=by
 unfold sz at hl
 generalize hx:ms[k]=x at *
 have hwk:=cT hk (show ms.length < 4611686018427387904 by omega)
 have hj6:∀ v,jX ms (k:Int) x v=if (!v&&!aIV ms x)=true then some (.inl ((k+1:Nat):Int)) else some (.inr (.inr false)):=by
  intro v
  unfold jX
  cases v with
  |true=>rfl
  |false=>
   rw [if_neg (by simp),aEB (step:=fun s=>qC ms x s) ms (fun o=>!(o.Left == x.Result||o.Right == x.Result)) (.inr false) (.inl ()) (fun j y hj hy=>by
    have hwj:=cT hj (show ms.length < 4611686018427387904 by omega)
    simp only [qC,cU hj,if_pos,hy,aF,qB,hwj]
    cases (y.Left == x.Result)<;>cases (y.Right == x.Result)<;>rfl) (by simp only [qC,cK];rfl),aF]
   have e:ms.all (fun o=>!(o.Left == x.Result||o.Right == x.Result))=!aIV ms x:=by
    unfold aIV
    rw [List.not_any_eq_all_not]
   rw [e]
   unfold qA vB
   rw [hwk]
   cases aIV ms x<;>rfl
 have hj7:∀ v,jY ms (k:Int) x v=if (!v&&(k == 0||mlt (ms.getD (k - 1) ⟨[],[],[]⟩) x)&&!aIV ms x)=true then some (.inl ((k+1:Nat):Int)) else some (.inr (.inr false)):=by
  intro v
  unfold jY
  cases v with
  |true=>rfl
  |false=>
   rw [if_neg (by simp)]
   by_cases h0:0 < k
   ·have hw:wr ((k:Int) - 1)=((k - 1:Nat):Int):=by rw [eT (by omega) (by omega)];omega
    have e:ms.getD (k - 1) ⟨[],[],[]⟩=ms[k - 1]'(by omega):=by rw [List.getD_eq_getElem?_getD,List.getElem?_eq_getElem (by omega)];rfl
    have e0:(k == 0)=false:=by simp;omega
    rw [if_pos (by simp only [decide_eq_true_eq];omega),hw,cV (show k - 1 < ms.length by omega),aF,e,e0]
    generalize ms[k - 1]'(by omega)=p
    unfold mlt
    by_cases h1:p.Left=x.Left
    ·have e1:(p.Left == x.Left)=true:=by rw [h1];exact BEq.rfl
     have e2:lQ p.Left x.Left=false:=by rw [h1];exact uO _
     simp only [e1,e2,Bool.or_true,Bool.not_true,Bool.false_eq_true,if_false,if_true,hj6,Bool.not_not,Bool.false_or,Bool.true_and,Bool.not_false]
    ·have e1:(p.Left == x.Left)=false:=by simpa using h1
     cases h2:lQ p.Left x.Left with
     |true=>simp [e1,hj6]
     |false=>simp [e1,hj6]
   ·obtain rfl:k=0:=by omega
    rw [if_neg (by simp),hj6]
    simp
 unfold nC mtB
 rw [if_pos (cU hk),cV hk,hx,aF,aBh,aF]
 cases jI x.Left with
 |false=>simp [hj7]
 |true=>
  rw [if_neg (by simp),aBh,aF]
  cases jI x.Right with
  |false=>simp [hj7]
  |true=>
   rw [if_neg (by simp),aBh,aF]
   cases jI x.Result with
   |false=>simp [hj7]
   |true=>
    rw [if_neg (by simp),le_not,hj7]
    simp
theorem aSB (ms:List bV) (hl:ms.length<=sz) (hm:∀ m∈ms,aHZ sz m):∃ B,rM ms=some B/\wJ ms=some B:=by
 have hget:∀ {k:Nat} (hk:k < ms.length),ms.getD k ⟨[],[],[]⟩=ms[k]:=fun hk=>by rw [List.getD_eq_getElem?_getD,List.getElem?_eq_getElem hk];rfl
 obtain ⟨b,hb,hi⟩:=aDM (step:=fun s=>kR ms s) ms.length 0 (fun k=>mtB ms k (ms.getD k ⟨[],[],[]⟩)) (.inr false) (.inl ()) (Nat.zero_le _) (fun k _ hk=>by rw [hget hk];exact meet_i ms hl hm hk) (by simp only [kR,cK];rfl)
 obtain ⟨c,hc,hs⟩:=aDM (step:=fun s=>nC ms s) ms.length 0 (fun k=>mtB ms k (ms.getD k ⟨[],[],[]⟩)) (.inr false) (.inl ()) (Nat.zero_le _) (fun k _ hk=>by rw [hget hk];exact meet_s ms hl hk) (by simp only [nC,cK];rfl)
 have hbc:c=b:=by
  cases b<;>cases c<;>first|rfl|(have:=hb.2 (hc.1 rfl);simp at this)|(have:=hc.2 (hb.1 rfl);simp at this)
 subst hbc
 refine ⟨c&&decide ((ms.length:Int)<=6),?_,?_⟩
 ·unfold rM
  rw [show (0:Int)=((0:Nat):Int) from rfl,hi,aF]
  cases c<;>rfl
 ·unfold wJ
  by_cases h6:6 < ms.length
  ·rw [if_pos (by simp only [decide_eq_true_eq];omega),decide_eq_false (by omega),Bool.and_false]
  ·rw [if_neg (by simp only [decide_eq_true_eq];omega),show (0:Int)=((0:Nat):Int) from rfl,hs,aF,decide_eq_true (by omega),Bool.and_true]
   cases c<;>rfl
end Gv
