/- Trees that are written as text: loops with stacks; expressions on both sides. -/
import Derived.Test.YtoddhhghiolggaaGreatDoorJP327
import Derived.Test.YtoddhhghiolggaaGreatDoorJP200
set_option linter.all false
namespace Gv
open Go
section
variable {β γ:Type}
theorem stack_seg {σ ρ:Type} {step:σ->Option (σ ⊕ ρ)} {mk:List γ->Int->σ} {val:GTr β->γ} {ar:β->Nat} {e:List β}
  (h0:∀ pre x post S,e=pre++x::post->S.length<=post.length->(GTr.nul x).WF ar->step (mk S (pre.length:Int))=some (.inl (mk (S++[val (.nul x)]) ((pre.length:Int) - 1))))
  (h1:∀ pre x (a:GTr β) post S,e=pre++x::(a.flat++post)->S.length<=post.length->(GTr.one x a).WF ar->step (mk (S++[val a]) (pre.length:Int))=some (.inl (mk (S++[val (.one x a)]) ((pre.length:Int) - 1))))
  (h2:∀ pre x (a b:GTr β) post S,e=pre++x::(a.flat++(b.flat++post))->S.length<=post.length->(GTr.two x a b).WF ar->step (mk (S++[val b,val a]) (pre.length:Int))=some (.inl (mk (S++[val (.two x a b)]) ((pre.length:Int) - 1)))):
  ∀ (t:GTr β) (pre post:List β) (S:List γ),e=pre++(t.flat++post)->t.WF ar->S.length<=post.length->loop step (mk S ((pre.length:Int)+t.flat.length - 1))=loop step (mk (S++[val t]) ((pre.length:Int) - 1)):=by
 intro t
 induction t with
 |nul x=>
  intro pre post S he hw hS
  have:=h0 pre x post S (by rw [he];rfl) hS hw
  rw [show ((pre.length:Int)+(GTr.nul x).flat.length - 1)=pre.length by simp [GTr.flat]]
  exact pH this
 |one x a iha=>
  intro pre post S he hw hS
  have e1:=iha (pre++[x]) post S (by rw [he];simp [GTr.flat]) hw.2 hS
  have e2:=h1 pre x a post S (by rw [he];simp [GTr.flat]) hS hw
  rw [show (((pre++[x]).length:Int)+a.flat.length - 1)=((pre.length:Int)+(GTr.one x a).flat.length - 1) by simp [GTr.flat];omega,show (((pre++[x]).length:Int) - 1)=pre.length by simp] at e1
  rw [e1];exact pH e2
 |two x a b iha ihb=>
  intro pre post S he hw hS
  have e1:=ihb (pre++x::a.flat) post S (by rw [he];simp [GTr.flat]) hw.2.2 hS
  have e2:=iha (pre++[x]) (b.flat++post) (S++[val b]) (by rw [he];simp [GTr.flat]) hw.2.1 (by have:=b.flat_pos;simp;omega)
  have e3:=h2 pre x a b post S (by rw [he];simp [GTr.flat]) hS hw
  rw [show (((pre++x::a.flat).length:Int)+b.flat.length - 1)=((pre.length:Int)+(GTr.two x a b).flat.length - 1) by simp [GTr.flat];omega,show (((pre++x::a.flat).length:Int) - 1)=((pre++[x]).length:Int)+a.flat.length - 1 by simp;omega] at e1
  rw [show (((pre++[x]).length:Int) - 1)=pre.length by simp,List.append_assoc] at e2
  rw [e1,e2];exact pH e3
theorem aKE {σ ρ:Type} {step:σ->Option (σ ⊕ ρ)} {mk:List γ->Int->σ} {val:GTr β->γ} {ar:β->Nat} {e:List β}
  (h0:∀ pre x post S,e=pre++x::post->S.length<=post.length->(GTr.nul x).WF ar->step (mk S (pre.length:Int))=some (.inl (mk (S++[val (.nul x)]) ((pre.length:Int) - 1))))
  (h1:∀ pre x (a:GTr β) post S,e=pre++x::(a.flat++post)->S.length<=post.length->(GTr.one x a).WF ar->step (mk (S++[val a]) (pre.length:Int))=some (.inl (mk (S++[val (.one x a)]) ((pre.length:Int) - 1))))
  (h2:∀ pre x (a b:GTr β) post S,e=pre++x::(a.flat++(b.flat++post))->S.length<=post.length->(GTr.two x a b).WF ar->step (mk (S++[val b,val a]) (pre.length:Int))=some (.inl (mk (S++[val (.two x a b)]) ((pre.length:Int) - 1))))
  {t:GTr β} (he:e=t.flat) (hw:t.WF ar) (hl:e.length < 1000000000) {r:ρ} (hr:step (mk [val t] (-1))=some (.inr r)):loop step (mk [] (wr ((e.length:Int) - 1)))=some r:=by
 have key:=stack_seg h0 h1 h2 t [] [] [] (by rw [he];simp) hw (Nat.le_refl _)
 have hp:=t.flat_pos
 rw [dM (by omega) (by omega),he]
 rw [show (((([]:List β).length:Nat):Int)+t.flat.length - 1)=(t.flat.length:Int) - 1 by simp] at key
 rw [key]
 exact fN hr
end
theorem dZ {a b:aN} {n:Nat} (h:a.length+b.length<=n) (hn:n<=1000000000000):fA a b=some (a++b):=aIo (by unfold jB;omega)
theorem kV {n:Int} (h:0<=n) (h2:n < 4611686018427387904):(Lib.itoa n).length<=21:=aGP h h2
theorem xD {n:Int} (h:0<=n) (h2:n < 4611686018427387904):iF n=some (Lib.itoa n)/\lO n=some (Lib.itoa n):=⟨by unfold iF;rw [if_pos ⟨by omega,by omega⟩],aOz h h2⟩
def lvO (op:Int):Int:=aKe.getD op.toNat 0
def opO (op:Int):aN:=aHP.getD op.toNat []
theorem aJY {op:Int} (h0:0<=op) (h8:op<=8):aEG op=some (lvO op)/\ix aKe op=some (lvO op)/\1<=lvO op/\lvO op<=5/\ix aHP op=some (opO op)/\(opO op).length<=2:=by
 have:op=0\/op=1\/op=2\/op=3\/op=4\/op=5\/op=6\/op=7\/op=8:=by omega
 rcases this with rfl|rfl|rfl|rfl|rfl|rfl|rfl|rfl|rfl<;>exact ⟨rfl,rfl,by decide,by decide,rfl,by decide⟩
theorem ops_eq:aJb=some aHP:=rfl
def wrp (b:Bool) (s:aN):aN:=if b then 40::(s++[41]) else s
theorem gC (b:Bool) (s:aN):(wrp b s).length<=s.length+2:=by unfold wrp;split<;>simp
theorem aNk {s:aN} (h:s.length<=100000000000):(ob (fA ([40]:aN) s) fun r=>ob (fA r ([41]:aN)) fun q=>some q)=some (wrp true s):=by
 rw [dZ (n:=200000000000) (by simp;omega) (by omega),aA,dZ (n:=200000000000) (by simp;omega) (by omega),aA]
 rfl
theorem aFc {s:aN} (b:Bool) (h:s.length<=100000000000):iG s b=some (wrp b s):=by
 unfold iG
 cases b with
 |true=>rw [if_pos rfl];exact aNk h
 |false=>rfl
def xE:GTr aR->aN
 |.nul t=>if t.Kind == 0 then Lib.itoa t.Value else 118::Lib.itoa t.Value
 |.one _ a=>33::wrp (match a with|.two ..=>true|_=>false) (xE a)
 |.two t a b=>wrp (decide ((match a with|.two t _ _=>lvO t.Value|.one ..=>6|_=>7) < lvO t.Value)) (xE a)++opO t.Value++wrp (decide ((match b with|.two t _ _=>lvO t.Value|.one ..=>6|_=>7)<=lvO t.Value)) (xE b)
def lvT:GTr aR->Int
 |.nul _=>7
 |.one ..=>6
 |.two t _ _=>lvO t.Value
theorem lvT_nul (t:aR):lvT (.nul t)=7:=rfl
theorem lvT_one (t:aR) (a:GTr aR):lvT (.one t a)=6:=rfl
theorem lvT_two (t:aR) (a b:GTr aR):lvT (.two t a b)=lvO t.Value:=rfl
def isO:GTr aR->Bool
 |.two ..=>true
 |_=>false
theorem aPq (t:aR) (a:GTr aR):xE (.one t a)=33::wrp (isO a) (xE a):=by cases a<;>rfl
theorem aPr (t:aR) (a b:GTr aR):xE (.two t a b)=wrp (decide (lvT a < lvO t.Value)) (xE a)++opO t.Value++wrp (decide (lvT b<=lvO t.Value)) (xE b):=by cases a<;>cases b<;>rfl
theorem aFd {t:aR} {v:Int} (hv:v<=1000) (h:sC v t=true):0<=t.Value/\t.Value<=1000/\(t.Kind=2->t.Value<=8):=by
 unfold sC vA at h
 by_cases h0:t.Kind=0
 ·simp [h0] at h ⊢;omega
 by_cases h1:t.Kind=1
 ·simp [h1] at h ⊢;omega
 by_cases h2:t.Kind=2
 ·simp [h2] at h ⊢;omega
 ·simp [h0,h1,h2] at h ⊢;omega
theorem aHJ {t:aR} {v:Int} (ht:sC v t=true):(arT t=0->t.Kind=0\/t.Kind=1)/\(arT t=1->t.Kind=3)/\(arT t=2->t.Kind=2):=by
 unfold sC at ht
 unfold arT
 by_cases h0:t.Kind=0
 ·simp [h0]
 by_cases h1:t.Kind=1
 ·simp [h1]
 by_cases h2:t.Kind=2
 ·simp [h2]
 by_cases h3:t.Kind=3
 ·simp [h3]
 ·simp [h0,h1,h2,h3] at ht
section
variable {v:Int} (hv:v<=1000)
include hv
theorem zV:∀ (t:GTr aR),t.WF arT->(∀ x∈t.flat,sC v x=true)->(xE t).length<=24 * t.flat.length
 |.nul t,hw,ho=>by
  obtain ⟨h1,h2,_⟩:=aFd hv (ho t (by simp [GTr.flat]))
  have:=kV h1 (by omega)
  simp only [xE,GTr.flat]
  split<;>simp<;>omega
 |.one t a,hw,ho=>by
  have:=zV a hw.2 (fun x hx=>ho x (by simp [GTr.flat,hx]))
  have:=gC (isO a) (xE a)
  rw [aPq]
  simp only [GTr.flat,List.length_cons]
  omega
 |.two t a b,hw,ho=>by
  have ha:=zV a hw.2.1 (fun x hx=>ho x (by simp [GTr.flat,hx]))
  have hb:=zV b hw.2.2 (fun x hx=>ho x (by simp [GTr.flat,hx]))
  have ht:=ho t (by simp [GTr.flat])
  have hv':=aFd hv ht
  have:=(aJY hv'.1 (hv'.2.2 ((aHJ ht).2.2 hw.1))).2.2.2.2.2
  have w1:=gC (decide (lvT a < lvO t.Value)) (xE a)
  have w2:=gC (decide (lvT b<=lvO t.Value)) (xE b)
  rw [aPr]
  simp only [GTr.flat,List.length_cons,List.length_append]
  omega
theorem aPs:∀ {t:GTr aR},t.WF arT->(∀ x∈t.flat,sC v x=true)->iC (trT t)=some (if isO t then lvT t else 9)/\(isO t=true->lvT t<=5)/\(isO t=false->6<=lvT t)/\((trT t).val.Kind == 2)=isO t
 |.nul t,hw,ho=>by
  have ht:=ho t (by simp [GTr.flat])
  have hk:=(aHJ ht).1 hw
  have h2:(t.Kind == 2)=false:=by rcases hk with h|h<;>simp [h]
  refine ⟨?_,fun h=>(by cases h),fun _=>(by simp [lvT]),h2⟩
  unfold iC trT
  simp only [Tr.val,h2,Bool.false_eq_true,if_false]
  rfl
 |.one t a,hw,ho=>by
  have ht:=ho t (by simp [GTr.flat])
  have hk:=(aHJ ht).2.1 hw.1
  have h2:(t.Kind == 2)=false:=by simp [hk]
  refine ⟨?_,fun h=>(by cases h),fun _=>(by simp [lvT]),h2⟩
  unfold iC trT
  simp only [Tr.val,h2,Bool.false_eq_true,if_false]
  rfl
 |.two t a b,hw,ho=>by
  have ht:=ho t (by simp [GTr.flat])
  have hk:=(aHJ ht).2.2 hw.1
  have h2:(t.Kind == 2)=true:=by simp [hk]
  have hv':=aFd hv ht
  have hf:=aJY hv'.1 (hv'.2.2 hk)
  refine ⟨?_,fun h=>hf.2.2.2.1,fun h=>(by cases h),h2⟩
  unfold iC trT
  simp only [Tr.val,h2,if_true,hf.2.1,aA]
  rfl
theorem text_I:∀ (t:GTr aR) (m:Nat),t.flat.length<=m->t.flat.length < 1000000000->t.WF arT->(∀ x∈t.flat,sC v x=true)->fX m (trT t)=some (xE t):=by
 intro t
 induction t with
 |nul t=>
  intro m hm hl hw ho
  match m with
  |0=>simp [GTr.flat] at hm
  |m+1=>
   have ht:=ho t (by simp [GTr.flat])
   obtain ⟨h1,h2,_⟩:=aFd hv ht
   have hd:=(xD h1 (by omega)).1
   have hl:=kV h1 (by omega)
   show jF (fX m) (.mk t [])=_
   unfold jF
   simp only [Tr.val,xE]
   rcases (aHJ ht).1 hw with h|h
   ·simp [h,hd]
   ·have h1:(t.Kind == 1)=true:=by simp [h]
    have h0:(t.Kind == 0)=false:=by simp [h]
    simp only [h0,h1,Bool.false_eq_true,if_false,if_true,hd,aA,dZ (a:=([118]:aN)) (b:=Lib.itoa t.Value) (n:=200) (by simp;omega) (by omega)]
    rfl
 |one t a iha=>
  intro m hm hl hw ho
  match m with
  |0=>simp [GTr.flat] at hm
  |m+1=>
   have ht:=ho t (by simp [GTr.flat])
   have hoa:∀ x∈a.flat,sC v x=true:=fun x hx=>ho x (by simp [GTr.flat,hx])
   have hla:a.flat.length < 1000000000:=by simp [GTr.flat] at hl;omega
   have ra:=iha m (by simp [GTr.flat] at hm;omega) hla hw.2 hoa
   have hk:=(aHJ ht).2.1 hw.1
   have hla2:=zV hv a hw.2 hoa
   have hlv:=aPs hv hw.2 hoa
   have hwl:=gC (isO a) (xE a)
   show jF (fX m) (.mk t [trT a])=_
   unfold jF
   rw [aPq]
   have h1:(t.Kind == 1)=false:=by simp [hk]
   have h0:(t.Kind == 0)=false:=by simp [hk]
   have h3:(t.Kind == 3)=true:=by simp [hk]
   simp only [Tr.val,Tr.kids,h0,h1,h3,Bool.false_eq_true,if_false,if_true,show ix [trT a] 0=some (trT a) from rfl,aA]
   have hc:fU (fX m) (trT a) (isO a)=some (wrp (isO a) (xE a)):=by
    unfold fU
    cases isO a with
    |true=>rw [if_pos rfl,ra,aA];exact aNk (by omega)
    |false=>rw [if_neg (by simp),ra];rfl
   have hk2:=hlv.2.2.2
   unfold Tr.val at hk2
   rw [hk2,hc,aA,dZ (n:=100000000000) (by simp;omega) (by omega),aA]
   rfl
 |two t a b iha ihb=>
  intro m hm hl hw ho
  match m with
  |0=>simp [GTr.flat] at hm
  |m+1=>
   have ht:=ho t (by simp [GTr.flat])
   have hoa:∀ x∈a.flat,sC v x=true:=fun x hx=>ho x (by simp [GTr.flat,hx])
   have hob:∀ x∈b.flat,sC v x=true:=fun x hx=>ho x (by simp [GTr.flat,hx])
   have hla:a.flat.length < 1000000000:=by simp [GTr.flat] at hl;omega
   have hlb:b.flat.length < 1000000000:=by simp [GTr.flat] at hl;omega
   have ra:=iha m (by simp [GTr.flat] at hm;omega) hla hw.2.1 hoa
   have rb:=ihb m (by simp [GTr.flat] at hm;omega) hlb hw.2.2 hob
   have hk:=(aHJ ht).2.2 hw.1
   have hv':=aFd hv ht
   have hf:=aJY hv'.1 (hv'.2.2 hk)
   have hla2:=zV hv a hw.2.1 hoa
   have hlb2:=zV hv b hw.2.2 hob
   have lva:=aPs hv hw.2.1 hoa
   have lvb:=aPs hv hw.2.2 hob
   show jF (fX m) (.mk t [trT a,trT b])=_
   unfold jF
   rw [aPr]
   have h1:(t.Kind == 1)=false:=by simp [hk]
   have h0:(t.Kind == 0)=false:=by simp [hk]
   have h3:(t.Kind == 3)=false:=by simp [hk]
   have hlev:iC (.mk t [trT a,trT b])=some (lvO t.Value):=by
    unfold iC
    simp only [Tr.val,hk,show ((2:Int) == 2)=true from rfl,if_true,hf.2.1,aA]
   simp only [Tr.val,Tr.kids,h0,h1,h3,Bool.false_eq_true,if_false,show ix [trT a,trT b] 0=some (trT a) from rfl,show ix [trT a,trT b] 1=some (trT b) from rfl,aA,hlev,hf.2.2.2.2.1,lva.1,lvb.1]
   have ea:decide ((if isO a then lvT a else 9) < lvO t.Value)=decide (lvT a < lvO t.Value):=by
    cases h:isO a with
    |true=>rfl
    |false=>have:=lva.2.2.1 h;have:=hf.2.2.2.1;simp;omega
   have eb:decide ((if isO b then lvT b else 9)<=lvO t.Value)=decide (lvT b<=lvO t.Value):=by
    cases h:isO b with
    |true=>rfl
    |false=>have:=lvb.2.2.1 h;have:=hf.2.2.2.1;simp;omega
   have hca:∀ c,fU (fX m) (trT a) c=some (wrp c (xE a)):=fun c=>by
    unfold fU
    cases c with
    |true=>rw [if_pos rfl,ra,aA];exact aNk (by omega)
    |false=>rw [if_neg (by simp),ra];rfl
   have hcb:∀ c,fU (fX m) (trT b) c=some (wrp c (xE b)):=fun c=>by
    unfold fU
    cases c with
    |true=>rw [if_pos rfl,rb,aA];exact aNk (by omega)
    |false=>rw [if_neg (by simp),rb];rfl
   have w1:=gC (decide (lvT a < lvO t.Value)) (xE a)
   have w2:=gC (decide (lvT b<=lvO t.Value)) (xE b)
   have:=hf.2.2.2.2.2
   rw [ea,eb,hca,hcb,aA,dZ (n:=100000000000) (by omega) (by omega),aA,aA,dZ (n:=200000000000) (by rw [List.length_append];omega) (by omega),aA]
theorem text_S {t:GTr aR} (hl:t.flat.length < 1000000000) (hw:t.WF arT) (ho:∀ x∈t.flat,sC v x=true):uS t.flat=some (xE t):=by
 have hsl:∀ {α:Type} (S:List α) (y:List α),slc (S++y) 0 (S.length:Int)=some S:=fun S y=>by
  rw [aOy (by simp)];simp
 have hsub:∀ {pre post:List aR} {a:GTr aR} {x},t.flat=pre++x::(a.flat++post)->(∀ y∈a.flat,sC v y=true)/\a.flat.length < 1000000000:=fun {pre post a x} he=>⟨fun y hy=>ho y (by rw [he];simp [hy]),by have:t.flat.length=_:=congrArg List.length he;simp at this;omega⟩
 have key:=aKE (step:=fun (s:(List aN × List Int × Int))=>nR t.flat s.1 s.2.1 s.2.2) (mk:=fun (S:List (aN × Int)) i=>(S.map (·.1),S.map (·.2),i)) (val:=fun t=>(xE t,lvT t)) (ar:=arT) (e:=t.flat)
  (fun pre x post S he hS hw=>by
   have hx:sC v x=true:=ho x (by rw [he];simp)
   obtain ⟨h1,h2,_⟩:=aFd hv hx
   have hd:=(xD h1 (by omega)).2
   have hil:=kV h1 (by omega)
   have hlen:t.flat.length=pre.length+(post.length+1):=by rw [he];simp
   have hi:ix t.flat (pre.length:Int)=some x:=by rw [dN,he];simp
   have w:wr ((pre.length:Int) - 1)=(pre.length:Int) - 1:=dM (by omega) (by omega)
   have a1:∀ y,oR (S.map (·.1)) ([y]:List aN)=some (S.map (·.1)++[y]):=fun y=>fC (by unfold jB;simp;omega)
   have a2:∀ y,oR (S.map (·.2)) ([y]:List Int)=some (S.map (·.2)++[y]):=fun y=>fC (by unfold jB;simp;omega)
   simp only [nR,jE]
   rw [if_pos (by simp),hi,aA,hd]
   simp only [aA,a1,a2,xE,lvT_nul,w,dZ (a:=([118]:aN)) (b:=Lib.itoa x.Value) (n:=200) (by simp;omega) (by omega)]
   rcases (aHJ hx).1 hw with h|h
   ·simp [h]
   ·simp [h])
  (fun pre x a post S he hS hw=>by
   have hx:sC v x=true:=ho x (by rw [he];simp)
   obtain ⟨hoa,hla⟩:=hsub he
   have hlen:t.flat.length=pre.length+(a.flat.length+post.length+1):=by rw [he];simp
   have hi:ix t.flat (pre.length:Int)=some x:=by rw [dN,he];simp
   have w:wr ((pre.length:Int) - 1)=(pre.length:Int) - 1:=dM (by omega) (by omega)
   have a1:∀ y,oR (S.map (·.1)) ([y]:List aN)=some (S.map (·.1)++[y]):=fun y=>fC (by unfold jB;simp;omega)
   have a2:∀ y,oR (S.map (·.2)) ([y]:List Int)=some (S.map (·.2)++[y]):=fun y=>fC (by unfold jB;simp;omega)
   have hk:=(aHJ hx).2.1 hw.1
   have la:=zV hv a hw.2 hoa
   have lva:=aPs hv hw.2 hoa
   have t1:wr (((((S++[(xE a,lvT a)]).map (·.1)).length:Nat):Int) - 1)=(S.length:Int):=by
    rw [List.length_map,List.length_append,List.length_singleton,dM (by omega) (by omega)];omega
   have g1:ix ((S++[(xE a,lvT a)]).map (·.1)) (S.length:Int)=some (xE a):=by rw [dN,List.map_append];simp
   have g2:ix ((S++[(xE a,lvT a)]).map (·.2)) (S.length:Int)=some (lvT a):=by rw [dN,List.map_append];simp
   have s1:slc ((S++[(xE a,lvT a)]).map (·.1)) 0 (S.length:Int)=some (S.map (·.1)):=by rw [List.map_append,show (S.length:Int)=((S.map (·.1)).length:Int) by simp,hsl]
   have s2:slc ((S++[(xE a,lvT a)]).map (·.2)) 0 (S.length:Int)=some (S.map (·.2)):=by rw [List.map_append,show (S.length:Int)=((S.map (·.2)).length:Int) by simp,hsl]
   simp only [nR,jE,wA]
   rw [if_pos (by simp),hi,aA]
   have h6:decide (lvT a < 6)=isO a:=by
    cases h:isO a with
    |true=>have:=lva.2.1 h;simp;omega
    |false=>have:=lva.2.2.1 h;simp;omega
   have wl:=gC (isO a) (xE a)
   simp only [show (x.Kind == 0)=false by simp [hk],show (x.Kind == 1)=false by simp [hk],show (x.Kind == 3)=true by simp [hk],Bool.false_eq_true,if_false,if_true,t1,g1,g2,s1,s2,aA,h6,a1,a2,w,aPq,lvT_one]
   cases h:isO a with
   |true=>
    rw [h] at wl
    rw [if_pos rfl,dZ (n:=100000000000) (by simp;omega) (by omega),aA,dZ (n:=100000000000) (by simp;omega) (by omega),aA,dZ (n:=100000000000) (by simp;omega) (by omega),aA]
    simp [wrp]
   |false=>
    rw [if_neg (by simp),dZ (n:=100000000000) (by simp;omega) (by omega),aA]
    simp [wrp])
  (fun pre x a b post S he hS hw=>by
   have hx:sC v x=true:=ho x (by rw [he];simp)
   obtain ⟨hoa,hla⟩:=hsub he
   obtain ⟨hob,hlb⟩:(∀ y∈b.flat,sC v y=true)/\b.flat.length < 1000000000:=⟨fun y hy=>ho y (by rw [he];simp [hy]),by have:t.flat.length=_:=congrArg List.length he;simp at this;omega⟩
   have hlen:t.flat.length=pre.length+(a.flat.length+(b.flat.length+post.length)+1):=by rw [he];simp
   have hi:ix t.flat (pre.length:Int)=some x:=by rw [dN,he];simp
   have w:wr ((pre.length:Int) - 1)=(pre.length:Int) - 1:=dM (by omega) (by omega)
   have a1:∀ y,oR (S.map (·.1)) ([y]:List aN)=some (S.map (·.1)++[y]):=fun y=>fC (by unfold jB;simp;omega)
   have a2:∀ y,oR (S.map (·.2)) ([y]:List Int)=some (S.map (·.2)++[y]):=fun y=>fC (by unfold jB;simp;omega)
   have hk:=(aHJ hx).2.2 hw.1
   have hv':=aFd hv hx
   have hf:=aJY hv'.1 (hv'.2.2 hk)
   have la:=zV hv a hw.2.1 hoa
   have lbq:=zV hv b hw.2.2 hob
   have t1:wr (((((S++[(xE b,lvT b),(xE a,lvT a)]).map (·.1)).length:Nat):Int) - 1)=((S.length+1:Nat):Int):=by
    rw [List.length_map,List.length_append,dM (by simp;omega) (by simp;omega)];simp;omega
   have t2:wr (((S.length+1:Nat):Int) - 1)=(S.length:Int):=by rw [dM (by omega) (by omega)];omega
   have g1:ix ((S++[(xE b,lvT b),(xE a,lvT a)]).map (·.1)) ((S.length+1:Nat):Int)=some (xE a):=by rw [dN,List.map_append,List.getElem?_append_right (by simp)];simp
   have g2:ix ((S++[(xE b,lvT b),(xE a,lvT a)]).map (·.2)) ((S.length+1:Nat):Int)=some (lvT a):=by rw [dN,List.map_append,List.getElem?_append_right (by simp)];simp
   have g3:ix ((S++[(xE b,lvT b),(xE a,lvT a)]).map (·.1)) (S.length:Int)=some (xE b):=by rw [dN,List.map_append,List.getElem?_append_right (by simp)];simp
   have g4:ix ((S++[(xE b,lvT b),(xE a,lvT a)]).map (·.2)) (S.length:Int)=some (lvT b):=by rw [dN,List.map_append,List.getElem?_append_right (by simp)];simp
   have s1:slc ((S++[(xE b,lvT b),(xE a,lvT a)]).map (·.1)) 0 (S.length:Int)=some (S.map (·.1)):=by rw [List.map_append,show (S.length:Int)=((S.map (·.1)).length:Int) by simp,hsl]
   have s2:slc ((S++[(xE b,lvT b),(xE a,lvT a)]).map (·.2)) 0 (S.length:Int)=some (S.map (·.2)):=by rw [List.map_append,show (S.length:Int)=((S.map (·.2)).length:Int) by simp,hsl]
   simp only [nR,jE,wB,wC]
   rw [if_pos (by simp),hi,aA]
   have w1:=gC (decide (lvT a < lvO x.Value)) (xE a)
   have w2:=gC (decide (lvT b<=lvO x.Value)) (xE b)
   have h2l:=hf.2.2.2.2.2
   simp only [show (x.Kind == 0)=false by simp [hk],show (x.Kind == 1)=false by simp [hk],show (x.Kind == 3)=false by simp [hk],show (x.Kind == 2)=true by simp [hk],Bool.false_eq_true,if_false,if_true,t1,t2,g1,g2,g3,g4,s1,s2,aA,a1,a2,w,aPr,lvT_two,hf.1,ops_eq,hf.2.2.2.2.1]
   have fin:∀ X Y:aN,X.length<=30000000000->Y.length<=30000000000->(ob (fA X (opO x.Value)) fun s223=>ob (fA s223 Y) fun s225=>(some (Sum.inl (S.map (·.1)++[s225],S.map (·.2)++[lvO x.Value],(pre.length:Int) - 1)):Option ((List aN × List Int × Int) ⊕ (List aN))))=some (Sum.inl (S.map (·.1)++[X++opO x.Value++Y],S.map (·.2)++[lvO x.Value],(pre.length:Int) - 1)):=fun X Y hX hY=>by
    rw [dZ (n:=100000000000) (by omega) (by omega),aA,dZ (n:=100000000000) (by rw [List.length_append];omega) (by omega),aA]
   have pc:∀ X:aN,X.length<=30000000000->fA ([40]:aN) X=some (40::X):=fun X h=>by rw [dZ (n:=100000000000) (by simp;omega) (by omega)];rfl
   have pd:∀ X:aN,X.length<=30000000000->fA (40::X) ([41]:aN)=some (40::(X++[41])):=fun X h=>by rw [dZ (n:=100000000000) (by simp;omega) (by omega)];rfl
   simp only [List.map_append,List.map_cons,List.map_nil]
   cases h1:decide (lvT a < lvO x.Value)<;>cases h2:decide (lvT b<=lvO x.Value)<;>rw [h1] at w1<;>rw [h2] at w2
   ·simp only [Bool.false_eq_true,if_false,wrp]
    exact fin _ _ (by omega) (by omega)
   ·simp only [Bool.false_eq_true,if_false,if_true,wrp,pc (xE b) (by omega),pd (xE b) (by omega),aA]
    exact fin _ _ (by omega) (by simp;omega)
   ·simp only [Bool.false_eq_true,if_false,if_true,wrp,pc (xE a) (by omega),pd (xE a) (by omega),aA]
    exact fin _ _ (by simp;omega) (by omega)
   ·simp only [if_true,wrp,pc (xE a) (by omega),pd (xE a) (by omega),pc (xE b) (by omega),pd (xE b) (by omega),aA]
    exact fin _ _ (by simp;omega) (by simp;omega))
  rfl hw hl (r:=[xE t]) (by simp only [nR];rfl)
 unfold uS
 simp only [List.map_nil] at key
 rw [key,aA]
 rfl
end
end Gv
namespace Gv
open Go
theorem aOA (sep:aN):∀ (l:List aN) (y:aN),Lib.join (l++[y]) sep=(if l=[] then [] else Lib.join l sep++sep)++y
 |[],y=>by rw [List.nil_append,Lib.join_one,if_pos rfl];rfl
 |x::l,y=>by
  rw [if_neg (by simp),List.cons_append,Lib.join_cons,Lib.join_cons]
  have:Lib.joinTail sep (l++[y])=Lib.joinTail sep l++sep++y:=by
   have h:=Lib.joinTail_take_succ sep (l++[y]) l.length y (by simp)
   rw [List.take_of_length_le (by simp)] at h
   rw [h,List.take_left']
   rfl
  rw [this];simp
theorem aJZ {M:Nat}:∀ (l:List aN),(∀ s∈l,s.length<=M)->Lib.lens l<=M * l.length
 |[],_=>by simp [Lib.lens]
 |x::l,h=>by
  have h1:=aJZ l fun s hs=>h s (List.mem_cons_of_mem _ hs)
  have h2:=h x (by simp)
  have e:Lib.lens (x::l)=x.length+Lib.lens l:=by simp [Lib.lens]
  rw [e,List.length_cons,Nat.mul_add,Nat.mul_one];omega
theorem join_le (sep:aN) {M:Nat}:∀ (l:List aN),(∀ s∈l,s.length<=M)->(Lib.join l sep).length<=(M+sep.length) * l.length
 |[],_=>by simp [Lib.join_nil]
 |x::l,h=>by
  have h1:=aJZ (x::l) h
  rw [Lib.join_length,Nat.add_mul]
  have:sep.length * l.length<=sep.length * (x::l).length:=Nat.mul_le_mul_left _ (by simp)
  omega
theorem aNl {β:Type} {step:aN × Int->Option ((aN × Int) ⊕ aN)} {xs:List β} {f:β->aN} {sep pre:aN}
  (hs:∀ (k:Nat) (hk:k < xs.length),step (pre++Lib.join ((xs.take k).map f) sep,(k:Int))=some (.inl (pre++((if k=0 then [] else Lib.join ((xs.take k).map f) sep++sep)++f xs[k]),((k+1:Nat):Int))))
  (he:∀ out,step (out,(xs.length:Int))=some (.inr out)):loop step (pre,0)=some (pre++Lib.join (xs.map f) sep):=by
 have aux:∀ n k,n+k=xs.length->loop step (pre++Lib.join ((xs.take k).map f) sep,(k:Int))=some (pre++Lib.join (xs.map f) sep):=by
  intro n
  induction n with
  |zero=>intro k hk;rw [Nat.zero_add] at hk;subst hk;rw [List.take_length];exact fN (he _)
  |succ n ih=>
   intro k hk
   have hk':k < xs.length:=by omega
   rw [pH (hs k hk')]
   have:=ih (k+1) (by omega)
   rw [←this,List.take_add_one,List.getElem?_eq_getElem hk',Option.toList_some,List.map_append,List.map_cons,List.map_nil,aOA]
   congr 4
   by_cases h0:k=0
   ·subst h0;simp
   ·rw [if_neg h0,if_neg]
    intro h
    rw [List.map_eq_nil_iff,List.take_eq_nil_iff] at h
    rcases h with h|h
    ·exact h0 h
    ·subst h;simp at hk'
 have:=aux xs.length 0 rfl
 rw [List.take_zero,List.map_nil,Lib.join_nil,List.append_nil] at this
 exact this
theorem yP {β γ:Type} {step:List γ × Int->Option ((List γ × Int) ⊕ List γ)} {xs:List β} {f:β->γ} {pre:List γ}
  (hs:∀ (k:Nat) (hk:k < xs.length),step (pre++(xs.take k).map f,(k:Int))=some (.inl (pre++(xs.take k).map f++[f xs[k]],((k+1:Nat):Int))))
  (he:∀ out,step (out,(xs.length:Int))=some (.inr out)):loop step (pre,0)=some (pre++xs.map f):=by
 have aux:∀ n k,n+k=xs.length->loop step (pre++(xs.take k).map f,(k:Int))=some (pre++xs.map f):=by
  intro n
  induction n with
  |zero=>intro k hk;rw [Nat.zero_add] at hk;subst hk;rw [List.take_length];exact fN (he _)
  |succ n ih=>
   intro k hk
   have hk':k < xs.length:=by omega
   rw [pH (hs k hk')]
   have:=ih (k+1) (by omega)
   rw [←this,List.take_add_one,List.getElem?_eq_getElem hk',Option.toList_some,List.map_append,List.map_cons,List.map_nil,List.append_assoc]
 have:=aux xs.length 0 rfl
 rw [List.take_zero,List.map_nil,List.append_nil] at this
 exact this
def TxE (e:List aR):Prop:=∃ t:GTr aR,e=t.flat/\t.WF arT/\e.length<=15/\∀ x∈e,sC 1000 x=true
noncomputable def exT (e:List aR):aN:=(uS e).getD []
theorem aQD {s u:Int} (h:s<=u) {t:aR} (ht:sC s t=true):sC u t=true:=by
 unfold sC at ht ⊢
 split
 ·rename_i h0;rw [if_pos h0] at ht;exact ht
 ·rename_i h0
  rw [if_neg h0] at ht
  split
  ·rename_i h1;rw [if_pos h1] at ht;simp at ht ⊢;omega
  ·rename_i h1;rw [if_neg h1] at ht;exact ht
theorem okE_tx {s:Int} (hs:s<=1000) {e:List aR} (h:okE s e=true):TxE e:=by
 unfold okE at h
 rw [Bool.and_eq_true] at h
 obtain ⟨h1,h2⟩:=h
 obtain ⟨ts,g1,g2,g3⟩:=aEW aNd h2
 match ts,g1 with
 |[t],_=>exact ⟨t,by rw [g2];simp,g3 t (by simp),Int.ofNat_le.1 (of_decide_eq_true h1),fun x hx=>aQD hs (aQp h2 x hx)⟩
theorem tree_I {t:GTr aR} {v:Int} (hv:v<=1000) (hw:t.WF arT) (hl:t.flat.length<=90000) (ho:∀ x∈t.flat,sC v x=true):aIb t.flat=some (trT t):=by
 have:=aQq (vs:=List.replicate 1000 0) (by rw [List.all_eq_true];intro x hx;rw [List.mem_replicate] at hx;rw [hx.2];rfl) t 100000 [] (by omega) (by rw [List.append_nil];omega) hw (fun x hx=>aQD (by rw [List.length_replicate];exact hv) (ho x hx))
 rw [List.append_nil] at this
 unfold aIb aIa
 rw [this];rfl
theorem aIu {e:List aR} (h:TxE e):uS e=some (exT e)/\(∃ t,aIb e=some t/\aAo t=some (exT e))/\(exT e).length<=360:=by
 obtain ⟨t,rfl,hw,hl,ho⟩:=h
 have h1:=text_S (v:=1000) (by omega) (by omega) hw ho
 have h2:=text_I (v:=1000) (by omega) t 100000 (by omega) (by omega) hw ho
 have h3:=zV (v:=1000) (by omega) t hw ho
 have e:exT t.flat=xE t:=by unfold exT;rw [h1];rfl
 rw [e]
 exact ⟨h1,⟨trT t,tree_I (v:=1000) (by omega) hw (by omega) ho,h2⟩,by omega⟩
noncomputable def argT (l:List (List aR)):aN:=if l=[] then [] else 40::(Lib.join (l.map exT) [44]++[41])
theorem aNm {l:List (List aR)} (h:∀ e∈l,TxE e) (hl:l.length<=1000):(Lib.join (l.map exT) [44]).length<=361 * 1000:=by
 have:=join_le [44] (M:=360) (l.map exT) fun s hs=>by
  rw [List.mem_map] at hs
  obtain ⟨e,he,rfl⟩:=hs
  exact (aIu (h e he)).2.2
 rw [List.length_map] at this
 exact Nat.le_trans this (Nat.mul_le_mul_left _ hl)
theorem aEi {l:List (List aR)} (h:∀ e∈l,TxE e) (hl:l.length<=1000):(argT l).length<=362000:=by
 have:=aNm h hl
 unfold argT
 split
 ·simp
 ·simp;omega
theorem aNn {l:List aN} {sep:aN} {M N:Nat} (h:∀ s∈l,s.length<=M) (hl:l.length<=N):(Lib.join l sep).length<=(M+sep.length) * N:=Nat.le_trans (join_le sep l h) (Nat.mul_le_mul_left _ hl)
theorem aKa {l:List aN} {sep:aN} (h1:l.length < 1000000000) (h2:(Lib.join l sep).length < 1000000000000):aBB l sep=some (Lib.join l sep):=by
 unfold aBB jB
 rw [if_pos ⟨by omega,by omega⟩]
theorem aOB {l:List (List aR)} (h:∀ e∈l,TxE e) (hl:l.length<=1000):aAp l=some (argT l):=by
 unfold aAp argT
 by_cases h0:l=[]
 ·subst h0;rfl
 have hb:=aNm h hl
 rw [if_neg (by simpa using h0),if_neg h0]
 have:=yP (step:=fun s=>aCX l s.1 s.2) (xs:=l) (f:=exT) (pre:=[]) (fun k hk=>by
  obtain ⟨g1,⟨t,g2,g3⟩,g4⟩:=aIu (h _ (List.getElem_mem hk))
  have a1:∀ y,oR ((l.take k).map exT) ([y]:List aN)=some ((l.take k).map exT++[y]):=fun y=>fC (by unfold jB;simp;omega)
  simp only [aCX,bU hk,if_true,bX hk,aA,g2,g3,List.nil_append,a1,bN hk (show l.length < 4611686018427387904 by omega)]) (fun out=>by simp only [aCX,bJ];rfl)
 rw [this,aA,List.nil_append]
 unfold aFX
 rw [aKa (by simp;omega) (by omega),aA,dZ (n:=100000000000) (by simp;omega) (by omega),aA,dZ (n:=100000000000) (by simp;omega) (by omega),aA]
 rfl
theorem Row_eq {l:List (List aR)} (h:∀ e∈l,TxE e) (hl:l.length<=1000) {sep:aN} (hs:sep.length<=10):aFR l sep=some (Lib.join (l.map exT) sep):=by
 unfold aFR
 have:=aNl (step:=fun s=>aAj l sep s.1 s.2) (xs:=l) (f:=exT) (sep:=sep) (pre:=[]) (fun k hk=>by
  obtain ⟨g1,_,g4⟩:=aIu (h _ (List.getElem_mem hk))
  have hb:=aNn (sep:=sep) (M:=360) (N:=1000) (l:=(l.take k).map exT) (fun s hs=>by
   rw [List.mem_map] at hs
   obtain ⟨e,he,rfl⟩:=hs
   exact (aIu (h e (List.mem_of_mem_take he))).2.2) (by simp;omega)
  have hb':(Lib.join ((l.take k).map exT) sep).length<=370000:=by
    have:(360+sep.length) * 1000<=370000:=by omega
    omega
  simp only [aAj,bU hk,if_true,List.nil_append]
  by_cases h0:k=0
  ·subst h0
   rw [if_neg (by simp),if_pos rfl]
   simp only [aAi,bX hk,aA,g1,List.take_zero,List.map_nil,Lib.join_nil,dZ (a:=([]:aN)) (b:=exT l[0]) (n:=100000000000) (by simp;omega) (by omega),bN hk (show l.length < 4611686018427387904 by omega)]
  ·rw [if_pos (by simp;omega),if_neg h0,dZ (n:=100000000000) (by omega) (by omega),aA]
   simp only [aAi,bX hk,aA,g1,dZ (a:=Lib.join ((l.take k).map exT) sep++sep) (b:=exT l[k]) (n:=100000000000) (by rw [List.length_append];omega) (by omega),bN hk (show l.length < 4611686018427387904 by omega)]) (fun out=>by simp only [aAj,bJ];rfl)
 rw [this,aA,List.nil_append]
 rfl
theorem Args_eq {l:List (List aR)} (h:∀ e∈l,TxE e) (hl:l.length<=1000):aDP l=some (argT l):=by
 unfold aDP argT
 by_cases h0:l=[]
 ·subst h0;rfl
 have hb:=aNm h hl
 rw [if_neg (by simpa using h0),if_neg h0,Row_eq h hl (by simp),aA,dZ (n:=100000000000) (by simp;omega) (by omega),aA,dZ (n:=100000000000) (by simp;omega) (by omega),aA]
 rfl
structure PrP (l:List Definition) (p:bG):Prop where
 kind:0<=p.Kind/\p.Kind<=5
 args:∀ e∈p.Arguments,TxE e
 argn:p.Arguments.length<=1000
 name:p.Name.length<=1000
 guard:p.Kind=3->p.Arguments.length=1
 call:p.Kind=5->0<=p.Number/\p.Number < (l.length:Int)
 num:p.Kind=4->0<=p.Number/\p.Number<=1000
def mD:GTr bG->Bool
 |.two ..=>true
 |_=>false
noncomputable def preP (p:bG):aN:=if p.Kind == 1 then p.Name++argT p.Arguments++[46] else if p.Kind == 3 then 91::(exT (p.Arguments.getD 0 [])++[93]) else [115,117,109,32]++Lib.itoa p.Number++[46]
noncomputable def endT (l:List Definition) (p:bG):aN:=if p.Kind == 5 then (l.getD p.Number.toNat ⟨[],0,[]⟩).Name++argT p.Arguments else [48]
noncomputable def txB (l:List Definition):GTr bG->aN
 |.nul p=>endT l p
 |.one p a=>preP p++wrp (mD a) (txB l a)
 |.two _ a b=>wrp (mD a) (txB l a)++[32,43,32]++txB l b
section
variable {l:List Definition} (hn:∀ d∈l,d.Name.length<=1000)
theorem aPt {p:bG} (h:PrP l p) (h4:fH p=1):(preP p).length<=400000:=by
 have h1:=aEi h.args h.argn
 have h2:=h.name
 unfold preP
 split
 ·simp;omega
 ·split
  ·rename_i k3
   have k3:p.Kind=3:=by simpa using k3
   have g:=h.guard k3
   have:=(aIu (h.args (p.Arguments.getD 0 []) (by rw [List.getD_eq_getElem?_getD,List.getElem?_eq_getElem (by omega)];exact List.getElem_mem _))).2.2
   simp only [List.length_cons,List.length_append,List.length_nil];omega
  ·rename_i k1 k3
   have k4:p.Kind=4:=by
    unfold fH at h4
    by_cases k4:p.Kind=4
    ·exact k4
    ·have k1:¬ p.Kind=1:=by simpa using k1
     have k3:¬ p.Kind=3:=by simpa using k3
     simp [k1,k3,k4] at h4
     split at h4<;>omega
   have g:=h.num k4
   have:=kV g.1 (by omega)
   simp;omega
include hn
theorem end_len {p:bG} (h:PrP l p):(endT l p).length<=400000:=by
 have h1:=aEi h.args h.argn
 unfold endT
 split
 ·rename_i k5
  have g:=h.call (by simpa using k5)
  have hlt:p.Number.toNat < l.length:=by omega
  have:=hn l[p.Number.toNat] (List.getElem_mem hlt)
  rw [List.getD_eq_getElem?_getD,List.getElem?_eq_getElem hlt,List.length_append]
  simp only [Option.getD_some]
  omega
 ·simp
theorem xF:∀ (t:GTr bG),t.WF fH->(∀ p∈t.flat,PrP l p)->(txB l t).length<=500000 * t.flat.length
 |.nul p,hw,ho=>by
  have:=end_len hn (ho p (by simp [GTr.flat]))
  simp only [txB,GTr.flat,List.length_singleton];omega
 |.one p a,hw,ho=>by
  have h1:=aPt (ho p (by simp [GTr.flat])) hw.1
  have h2:=xF a hw.2 (fun x hx=>ho x (by simp [GTr.flat,hx]))
  have h3:=gC (mD a) (txB l a)
  simp only [txB,GTr.flat,List.length_cons,List.length_append];omega
 |.two p a b,hw,ho=>by
  have h1:=xF a hw.2.1 (fun x hx=>ho x (by simp [GTr.flat,hx]))
  have h2:=xF b hw.2.2 (fun x hx=>ho x (by simp [GTr.flat,hx]))
  have h3:=gC (mD a) (txB l a)
  simp only [txB,GTr.flat,List.length_cons,List.length_append,List.length_nil];omega
omit hn in
theorem head_ch {t:GTr bG} (hw:t.WF fH) (post:List bG):∃ p r,t.flat++post=p::r/\(p.Kind == 2)=mD t:=by
 cases t with
 |nul p=>
  refine ⟨p,post,rfl,?_⟩
  have:fH p=0:=hw
  unfold fH at this
  cases h:p.Kind == 2 with
  |false=>rfl
  |true=>simp at h;simp [h] at this
 |one p a=>
  refine ⟨p,a.flat++post,rfl,?_⟩
  have:fH p=1:=hw.1
  unfold fH at this
  cases h:p.Kind == 2 with
  |false=>rfl
  |true=>simp at h;simp [h] at this
 |two p a b=>
  refine ⟨p,a.flat++b.flat++post,rfl,?_⟩
  have:=aEg.2 hw.1
  simp [this,mD]
theorem part_I:∀ (t:GTr bG) (m:Nat) (post:List bG),t.flat.length<=m->(t.flat++post).length<=90000->t.WF fH->(∀ p∈t.flat,PrP l p)->eC m l (t.flat++post)=some (txB l t,post):=by
 have inner:∀ (rec_:List Definition->List bG->Option (aN × List bG)) (t:GTr bG) (post:List bG),(t.flat++post).length<=90000->t.WF fH->(∀ p∈t.flat,PrP l p)->rec_ l (t.flat++post)=some (txB l t,post)->fV rec_ l (t.flat++post)=some (wrp (mD t) (txB l t),post):=by
  intro rec_ t post hl hw ho hr
  have hlen:=xF hn t hw ho
  have hll:t.flat.length<=90000:=by simp at hl;omega
  obtain ⟨p,r,e1,e2⟩:=head_ch hw post
  unfold fV
  rw [hr,e1,show ix (p::r) 0=some p from rfl,aA,e2]
  cases mD t with
  |true=>rw [if_pos rfl,aA,dZ (n:=100000000000) (by simp only [List.length_cons,List.length_append,List.length_nil];omega) (by omega),aA,dZ (n:=100000000000) (by simp only [List.length_cons,List.length_append,List.length_nil];omega) (by omega),aA];rfl
  |false=>rw [if_neg (by simp),aA];rfl
 have hs:∀ (p:bG) (r:List bG),r.length<=90000->slc (p::r) 1 ((p::r).length:Int)=some r:=fun p r hr=>by
  unfold slc
  rw [if_pos ⟨by omega,by simp;omega,by simp⟩,show ((1:Int)).toNat=1 from rfl,List.drop_succ_cons,List.drop_zero,List.take_of_length_le (by simp)]
 intro t
 induction t with
 |nul p=>
  intro m post hm hl hw ho
  match m with
  |0=>simp [GTr.flat] at hm
  |m+1=>
   have hp:=ho p (by simp [GTr.flat])
   have hf:fH p=0:=hw
   have hal:=aEi hp.args hp.argn
   have hel:=end_len hn hp
   have hk:p.Kind=0\/p.Kind=5:=by
    have:=hp.kind
    unfold fH at hf
    by_cases k1:p.Kind=1;· simp [k1] at hf
    by_cases k2:p.Kind=2;· simp [k2] at hf
    by_cases k3:p.Kind=3;· simp [k3] at hf
    by_cases k4:p.Kind=4;· simp [k4] at hf
    omega
   show fF (eC m) l (p::post)=_
   unfold fF
   rw [show ix (p::post) 0=some p from rfl,aA,hs p post (by simp [GTr.flat] at hl;omega),aA]
   unfold txB endT
   rcases hk with h|h
   ·simp [h]
   ·have g:=hp.call h
    have hlt:p.Number.toNat < l.length:=by omega
    have hnm:=hn l[p.Number.toNat] (List.getElem_mem hlt)
    have hix:ix l p.Number=some l[p.Number.toNat]:=by unfold ix;rw [if_pos g.1];simp [hlt]
    simp only [h,show ((5:Int) == 1)=false from rfl,show ((5:Int) == 2)=false from rfl,show ((5:Int) == 3)=false from rfl,show ((5:Int) == 4)=false from rfl,show ((5:Int) == 5)=true from rfl,Bool.false_eq_true,if_false,if_true,hix,aA,aOB hp.args hp.argn]
    rw [dZ (n:=100000000000) (by omega) (by omega),aA,List.getD_eq_getElem?_getD,List.getElem?_eq_getElem hlt]
    rfl
 |one p a iha=>
  intro m post hm hl hw ho
  match m with
  |0=>simp [GTr.flat] at hm
  |m+1=>
   have hp:=ho p (by simp [GTr.flat])
   have hoa:∀ q∈a.flat,PrP l q:=fun q hq=>ho q (by simp [GTr.flat,hq])
   have hla:(a.flat++post).length<=90000:=by simp [GTr.flat] at hl ⊢;omega
   have ra:=iha m post (by simp [GTr.flat] at hm;omega) hla hw.2 hoa
   have ri:=inner (eC m) a post hla hw.2 hoa ra
   have hpl:=aPt hp hw.1
   have hal:=aEi hp.args hp.argn
   have hnl:=hp.name
   have hxl:=xF hn a hw.2 hoa
   have hwl:=gC (mD a) (txB l a)
   have haf:a.flat.length<=90000:=by simp at hla;omega
   have fin:∀ X:aN,X.length<=400000->(ob (fA X (wrp (mD a) (txB l a))) fun s=>some (s,post))=some (X++wrp (mD a) (txB l a),post):=fun X hX=>by rw [dZ (n:=100000000000) (by omega) (by omega),aA]
   show fF (eC m) l (p::(a.flat++post))=_
   unfold fF
   rw [show ix (p::(a.flat++post)) 0=some p from rfl,aA,hs p _ hla,aA,ri]
   have hk:p.Kind=1\/p.Kind=3\/p.Kind=4:=by
    have hf:fH p=1:=hw.1
    unfold fH at hf
    by_cases k1:p.Kind=1;· exact .inl k1
    by_cases k3:p.Kind=3;· exact .inr (.inl k3)
    by_cases k4:p.Kind=4;· exact .inr (.inr k4)
    simp [k1,k3,k4] at hf
    split at hf<;>omega
   have ht:txB l (.one p a)=preP p++wrp (mD a) (txB l a):=rfl
   rw [ht]
   unfold preP at hpl ⊢
   rcases hk with h|h|h
   ·simp only [h,show ((1:Int) == 1)=true from rfl,if_true] at hpl ⊢
    rw [aOB hp.args hp.argn,aA,dZ (n:=100000000000) (by omega) (by omega),aA,dZ (n:=100000000000) (by simp only [List.length_cons,List.length_append,List.length_nil];omega) (by omega),aA,aA]
    exact fin _ hpl
   ·simp only [h,show ((3:Int) == 1)=false from rfl,show ((3:Int) == 2)=false from rfl,show ((3:Int) == 3)=true from rfl,Bool.false_eq_true,if_false,if_true] at hpl ⊢
    have g:=hp.guard h
    have hix:ix p.Arguments 0=some (p.Arguments.getD 0 []):=by
     rw [show (0:Int)=((0:Nat):Int) from rfl,bX (by omega),List.getD_eq_getElem?_getD,List.getElem?_eq_getElem (by omega)];rfl
    obtain ⟨_,⟨t,g2,g3⟩,g4⟩:=aIu (hp.args (p.Arguments.getD 0 []) (by rw [List.getD_eq_getElem?_getD,List.getElem?_eq_getElem (by omega)];exact List.getElem_mem _))
    rw [hix,aA,g2,aA,g3,aA,dZ (n:=100000000000) (by simp only [List.length_cons,List.length_append,List.length_nil];omega) (by omega),aA,dZ (n:=100000000000) (by simp only [List.length_cons,List.length_append,List.length_nil];omega) (by omega),aA,aA]
    exact fin _ hpl
   ·simp only [h,show ((4:Int) == 1)=false from rfl,show ((4:Int) == 2)=false from rfl,show ((4:Int) == 3)=false from rfl,show ((4:Int) == 4)=true from rfl,Bool.false_eq_true,if_false,if_true] at hpl ⊢
    have g:=hp.num h
    have:=kV g.1 (by omega)
    rw [(xD g.1 (by omega)).1,aA,dZ (n:=100000000000) (by simp only [List.length_cons,List.length_append,List.length_nil];omega) (by omega),aA,dZ (n:=100000000000) (by simp only [List.length_cons,List.length_append,List.length_nil];omega) (by omega),aA,aA]
    exact fin _ hpl
 |two p a b iha ihb=>
  intro m post hm hl hw ho
  match m with
  |0=>simp [GTr.flat] at hm
  |m+1=>
   have hoa:∀ q∈a.flat,PrP l q:=fun q hq=>ho q (by simp [GTr.flat,hq])
   have hob:∀ q∈b.flat,PrP l q:=fun q hq=>ho q (by simp [GTr.flat,hq])
   have hla:(a.flat++(b.flat++post)).length<=90000:=by simp [GTr.flat] at hl ⊢;omega
   have hlb:(b.flat++post).length<=90000:=by simp at hla ⊢;omega
   have ra:=iha m (b.flat++post) (by simp [GTr.flat] at hm;omega) hla hw.2.1 hoa
   have rb:=ihb m post (by simp [GTr.flat] at hm;omega) hlb hw.2.2 hob
   have ri:=inner (eC m) a (b.flat++post) hla hw.2.1 hoa ra
   have hxl:=xF hn a hw.2.1 hoa
   have hxb:=xF hn b hw.2.2 hob
   have hwl:=gC (mD a) (txB l a)
   have haf:a.flat.length+b.flat.length<=90000:=by simp at hla;omega
   have hk:=aEg.2 hw.1
   rw [show (GTr.two p a b).flat++post=p::(a.flat++(b.flat++post)) by simp [GTr.flat]]
   show fF (eC m) l (p::(a.flat++(b.flat++post)))=_
   unfold fF
   rw [show ix (p::(a.flat++(b.flat++post))) 0=some p from rfl,aA,hs p _ hla,aA,ri]
   simp only [hk,show ((2:Int) == 1)=false from rfl,show ((2:Int) == 2)=true from rfl,Bool.false_eq_true,if_false,if_true]
   rw [aA,dZ (n:=100000000000) (by simp only [List.length_cons,List.length_append,List.length_nil];omega) (by omega),aA,rb,aA,dZ (n:=200000000000) (by simp only [List.length_cons,List.length_append,List.length_nil];omega) (by omega),aA]
   rfl
theorem body_S {t:GTr bG} (hl:t.flat.length<=90000) (hw:t.WF fH) (ho:∀ p∈t.flat,PrP l p):yA l t.flat=some (txB l t):=by
 have hsl:∀ {α:Type} (S:List α) (y:List α),slc (S++y) 0 (S.length:Int)=some S:=fun S y=>by
  rw [aOy (by simp)];simp
 have hsub:∀ {pre post:List bG} {a:GTr bG} {x},t.flat=pre++x::(a.flat++post)->(∀ y∈a.flat,PrP l y)/\a.flat.length<=90000:=fun {pre post a x} he=>⟨fun y hy=>ho y (by rw [he];simp [hy]),by have:t.flat.length=_:=congrArg List.length he;simp at this;omega⟩
 have key:=aKE (step:=fun (s:(List aN × List Bool × Int))=>nS l t.flat s.1 s.2.1 s.2.2) (mk:=fun (S:List (aN × Bool)) i=>(S.map (·.1),S.map (·.2),i)) (val:=fun t=>(txB l t,mD t)) (ar:=fH) (e:=t.flat)
  (fun pre x post S he hS hw=>by
   have hp:=ho x (by rw [he];simp)
   have hf:fH x=0:=hw
   have hal:=aEi hp.args hp.argn
   have hlen:t.flat.length=pre.length+(post.length+1):=by rw [he];simp
   have hi:ix t.flat (pre.length:Int)=some x:=by rw [dN,he];simp
   have w:wr ((pre.length:Int) - 1)=(pre.length:Int) - 1:=dM (by omega) (by omega)
   have a1:∀ y,oR (S.map (·.1)) ([y]:List aN)=some (S.map (·.1)++[y]):=fun y=>fC (by unfold jB;simp;omega)
   have a2:∀ y,oR (S.map (·.2)) ([y]:List Bool)=some (S.map (·.2)++[y]):=fun y=>fC (by unfold jB;simp;omega)
   have hk:x.Kind=0\/x.Kind=5:=by
    have:=hp.kind
    unfold fH at hf
    by_cases k1:x.Kind=1;· simp [k1] at hf
    by_cases k2:x.Kind=2;· simp [k2] at hf
    by_cases k3:x.Kind=3;· simp [k3] at hf
    by_cases k4:x.Kind=4;· simp [k4] at hf
    omega
   simp only [nS,gO]
   rw [if_pos (by simp),hi,aA]
   simp only [a1,a2,w,txB,mD,endT]
   rcases hk with h|h
   ·simp [h]
   ·have g:=hp.call h
    have hlt:x.Number.toNat < l.length:=by omega
    have hnm:=hn l[x.Number.toNat] (List.getElem_mem hlt)
    have hix:ix l x.Number=some l[x.Number.toNat]:=by unfold ix;rw [if_pos g.1];simp [hlt]
    simp only [h,show ((5:Int) == 0)=false from rfl,show ((5:Int) == 5)=true from rfl,Bool.false_eq_true,if_false,if_true,hix,aA,Args_eq hp.args hp.argn]
    rw [dZ (n:=100000000000) (by omega) (by omega),aA,List.getD_eq_getElem?_getD,List.getElem?_eq_getElem hlt]
    simp)
  (fun pre x a post S he hS hw=>by
   have hp:=ho x (by rw [he];simp)
   obtain ⟨hoa,hla⟩:=hsub he
   have hlen:t.flat.length=pre.length+(a.flat.length+post.length+1):=by rw [he];simp
   have hi:ix t.flat (pre.length:Int)=some x:=by rw [dN,he];simp
   have w:wr ((pre.length:Int) - 1)=(pre.length:Int) - 1:=dM (by omega) (by omega)
   have a1:∀ y,oR (S.map (·.1)) ([y]:List aN)=some (S.map (·.1)++[y]):=fun y=>fC (by unfold jB;simp;omega)
   have a2:∀ y,oR (S.map (·.2)) ([y]:List Bool)=some (S.map (·.2)++[y]):=fun y=>fC (by unfold jB;simp;omega)
   have hpl:=aPt hp hw.1
   have hal:=aEi hp.args hp.argn
   have hnl:=hp.name
   have hxl:=xF hn a hw.2 hoa
   have hwl:=gC (mD a) (txB l a)
   have t1:wr (((((S++[(txB l a,mD a)]).map (·.1)).length:Nat):Int) - 1)=(S.length:Int):=by
    rw [List.length_map,List.length_append,List.length_singleton,dM (by omega) (by omega)];omega
   have g1:ix ((S++[(txB l a,mD a)]).map (·.1)) (S.length:Int)=some (txB l a):=by rw [dN,List.map_append];simp
   have g2:ix ((S++[(txB l a,mD a)]).map (·.2)) (S.length:Int)=some (mD a):=by rw [dN,List.map_append];simp
   have s1:slc ((S++[(txB l a,mD a)]).map (·.1)) 0 (S.length:Int)=some (S.map (·.1)):=by rw [List.map_append,show (S.length:Int)=((S.map (·.1)).length:Int) by simp,hsl]
   have s2:slc ((S++[(txB l a,mD a)]).map (·.2)) 0 (S.length:Int)=some (S.map (·.2)):=by rw [List.map_append,show (S.length:Int)=((S.map (·.2)).length:Int) by simp,hsl]
   have fin:∀ X:aN,X.length<=400000->fA X (wrp (mD a) (txB l a))=some (X++wrp (mD a) (txB l a)):=fun X hX=>dZ (n:=100000000000) (by omega) (by omega)
   simp only [nS,gO]
   rw [if_pos (by simp),hi,aA]
   have hk:x.Kind=1\/x.Kind=3\/x.Kind=4:=by
    have hf:fH x=1:=hw.1
    unfold fH at hf
    by_cases k1:x.Kind=1;· exact .inl k1
    by_cases k3:x.Kind=3;· exact .inr (.inl k3)
    by_cases k4:x.Kind=4;· exact .inr (.inr k4)
    simp [k1,k3,k4] at hf
    split at hf<;>omega
   have ht:txB l (.one x a)=preP x++wrp (mD a) (txB l a):=rfl
   have hc:mD (.one x a)=false:=rfl
   simp only [t1,g1,g2,s1,s2,aA,aFc (mD a) (show (txB l a).length<=100000000000 by omega),ht,hc]
   unfold preP at hpl ⊢
   rcases hk with h|h|h
   ·simp only [h,show ((1:Int) == 0)=false from rfl,show ((1:Int) == 5)=false from rfl,show ((1:Int) == 2)=false from rfl,show ((1:Int) == 1)=true from rfl,Bool.false_eq_true,if_false,if_true] at hpl ⊢
    rw [Args_eq hp.args hp.argn,aA,dZ (n:=100000000000) (by omega) (by omega),aA,dZ (n:=100000000000) (by simp only [List.length_cons,List.length_append,List.length_nil];omega) (by omega),aA,fin _ hpl,aA,a1,aA,a2,aA,w]
    simp
   ·simp only [h,show ((3:Int) == 0)=false from rfl,show ((3:Int) == 5)=false from rfl,show ((3:Int) == 1)=false from rfl,show ((3:Int) == 2)=false from rfl,show ((3:Int) == 3)=true from rfl,Bool.false_eq_true,if_false,if_true] at hpl ⊢
    have g:=hp.guard h
    have hix:ix x.Arguments 0=some (x.Arguments.getD 0 []):=by
     rw [show (0:Int)=((0:Nat):Int) from rfl,bX (by omega),List.getD_eq_getElem?_getD,List.getElem?_eq_getElem (by omega)];rfl
    obtain ⟨g2,_,g4⟩:=aIu (hp.args (x.Arguments.getD 0 []) (by rw [List.getD_eq_getElem?_getD,List.getElem?_eq_getElem (by omega)];exact List.getElem_mem _))
    rw [hix,aA,g2,aA,dZ (n:=100000000000) (by simp only [List.length_cons,List.length_append,List.length_nil];omega) (by omega),aA,dZ (n:=100000000000) (by simp only [List.length_cons,List.length_append,List.length_nil];omega) (by omega),aA]
    rw [show ([91]++exT (x.Arguments.getD 0 [])++[93]:aN)=91::(exT (x.Arguments.getD 0 [])++[93]) from rfl,fin _ hpl,aA,a1,aA,a2,aA,w]
    simp
   ·simp only [h,show ((4:Int) == 0)=false from rfl,show ((4:Int) == 5)=false from rfl,show ((4:Int) == 1)=false from rfl,show ((4:Int) == 2)=false from rfl,show ((4:Int) == 3)=false from rfl,show ((4:Int) == 4)=true from rfl,Bool.false_eq_true,if_false,if_true] at hpl ⊢
    have g:=hp.num h
    have:=kV g.1 (by omega)
    rw [(xD g.1 (by omega)).2,aA,dZ (n:=100000000000) (by simp only [List.length_cons,List.length_append,List.length_nil];omega) (by omega),aA,dZ (n:=100000000000) (by simp only [List.length_cons,List.length_append,List.length_nil];omega) (by omega),aA,fin _ hpl,aA,a1,aA,a2,aA,w]
    simp)
  (fun pre x a b post S he hS hw=>by
   obtain ⟨hoa,hla⟩:=hsub he
   obtain ⟨hob,hlb⟩:(∀ y∈b.flat,PrP l y)/\b.flat.length<=90000:=⟨fun y hy=>ho y (by rw [he];simp [hy]),by have:t.flat.length=_:=congrArg List.length he;simp at this;omega⟩
   have hlen:t.flat.length=pre.length+(a.flat.length+(b.flat.length+post.length)+1):=by rw [he];simp
   have hi:ix t.flat (pre.length:Int)=some x:=by rw [dN,he];simp
   have w:wr ((pre.length:Int) - 1)=(pre.length:Int) - 1:=dM (by omega) (by omega)
   have a1:∀ y,oR (S.map (·.1)) ([y]:List aN)=some (S.map (·.1)++[y]):=fun y=>fC (by unfold jB;simp;omega)
   have a2:∀ y,oR (S.map (·.2)) ([y]:List Bool)=some (S.map (·.2)++[y]):=fun y=>fC (by unfold jB;simp;omega)
   have hk:=aEg.2 hw.1
   have hxl:=xF hn a hw.2.1 hoa
   have hxb:=xF hn b hw.2.2 hob
   have hwl:=gC (mD a) (txB l a)
   have t1:wr (((((S++[(txB l b,mD b),(txB l a,mD a)]).map (·.1)).length:Nat):Int) - 1)=((S.length+1:Nat):Int):=by
    rw [List.length_map,List.length_append,dM (by simp;omega) (by simp;omega)];simp;omega
   have t2:wr (((S.length+1:Nat):Int) - 1)=(S.length:Int):=by rw [dM (by omega) (by omega)];omega
   have g1:ix ((S++[(txB l b,mD b),(txB l a,mD a)]).map (·.1)) ((S.length+1:Nat):Int)=some (txB l a):=by rw [dN,List.map_append,List.getElem?_append_right (by simp)];simp
   have g2:ix ((S++[(txB l b,mD b),(txB l a,mD a)]).map (·.2)) ((S.length+1:Nat):Int)=some (mD a):=by rw [dN,List.map_append,List.getElem?_append_right (by simp)];simp
   have g3:ix ((S++[(txB l b,mD b),(txB l a,mD a)]).map (·.1)) (S.length:Int)=some (txB l b):=by rw [dN,List.map_append,List.getElem?_append_right (by simp)];simp
   have s1:slc ((S++[(txB l b,mD b),(txB l a,mD a)]).map (·.1)) 0 (S.length:Int)=some (S.map (·.1)):=by rw [List.map_append,show (S.length:Int)=((S.map (·.1)).length:Int) by simp,hsl]
   have s2:slc ((S++[(txB l b,mD b),(txB l a,mD a)]).map (·.2)) 0 (S.length:Int)=some (S.map (·.2)):=by rw [List.map_append,show (S.length:Int)=((S.map (·.2)).length:Int) by simp,hsl]
   simp only [nS,gO]
   rw [if_pos (by simp),hi,aA]
   simp only [hk,show ((2:Int) == 0)=false from rfl,show ((2:Int) == 5)=false from rfl,show ((2:Int) == 2)=true from rfl,Bool.false_eq_true,if_false,if_true,t1,t2,g1,g2,g3,s1,s2,aA,aFc (mD a) (show (txB l a).length<=100000000000 by omega)]
   rw [dZ (n:=100000000000) (by simp only [List.length_cons,List.length_append,List.length_nil];omega) (by omega),aA,dZ (n:=200000000000) (by simp only [List.length_cons,List.length_append,List.length_nil];omega) (by omega),aA,a1,aA,a2,aA,w]
   simp [txB,mD])
  rfl hw (by omega) (r:=[txB l t]) (by simp only [nS];rfl)
 unfold yA
 simp only [List.map_nil] at key
 rw [key,aA]
 rfl
end
end Gv
namespace Gv
open Go
theorem join_lens (sep:aN) (l:List aN):(Lib.join l sep).length<=Lib.lens l+sep.length * l.length:=by
 cases l with
 |nil=>simp [Lib.join_nil]
 |cons x r=>rw [Lib.join_length];have:sep.length * r.length<=sep.length * (x::r).length:=Nat.mul_le_mul_left _ (by simp);omega
theorem aGR {n:Nat} (h:¬ n=0):decide (0 < (n:Int))=true:=by simp;omega
theorem aKb (a b:List aN):Lib.lens (a++b)=Lib.lens a+Lib.lens b:=by simp [Lib.lens]
theorem getD_ix {β:Type} {l:List β} {i:Int} (h0:0<=i) (h1:i < (l.length:Int)) (d:β):ix l i=some (l.getD i.toNat d)/\l.getD i.toNat d∈l:=by
 have hlt:i.toNat < l.length:=by omega
 have e:l.getD i.toNat d=l[i.toNat]:=by rw [List.getD_eq_getElem?_getD,List.getElem?_eq_getElem hlt];rfl
 rw [e]
 exact ⟨by unfold ix;rw [if_pos h0];simp [hlt],List.getElem_mem hlt⟩
theorem prP_of {l:List Definition} {p:bG} {pl:dF} (h:yO l pl p=true) (hs:pl.scope<=1000) (hpar:∀ d∈l,aEZ d=true):PrP l p:=by
 unfold yO at h
 simp only [Bool.and_eq_true] at h
 obtain ⟨⟨⟨⟨⟨⟨k1,k2⟩,k3⟩,k4⟩,k5⟩,k6⟩,k7⟩:=h
 have args:∀ e∈p.Arguments,TxE e:=fun e he=>okE_tx hs (List.all_eq_true.1 k7 e he)
 unfold aHI at k1
 unfold aIt at k4
 unfold yN at k3
 by_cases h0:p.Kind=0
 ·simp [h0] at k1
  exact ⟨by omega,args,by simp [k1],by simp [k1],by omega,by omega,by omega⟩
 by_cases h2:p.Kind=2
 ·simp [h2] at k1
  exact ⟨by omega,args,by simp [k1],by simp [k1],by omega,by omega,by omega⟩
 by_cases h1:p.Kind=1
 ·simp [h1] at k2 k4
  have:=aGp k2
  exact ⟨by omega,args,by omega,by omega,by omega,by omega,by omega⟩
 by_cases h3:p.Kind=3
 ·simp [h3] at k1 k4
  exact ⟨by omega,args,by omega,by simp [k1],fun _=>by omega,by omega,by omega⟩
 by_cases h4:p.Kind=4
 ·simp [h4] at k1 k3
  exact ⟨by omega,args,by simp [k1],by simp [k1],by omega,by omega,fun _=>by omega⟩
 ·simp [h0,h1,h2,h3,h4] at k1
  simp [k1.1] at k3 k4
  have hg:=getD_ix k3.1 k3.2 (⟨[],0,[]⟩:Definition)
  have hp:=hpar _ hg.2
  unfold aEZ at hp
  simp only [Bool.and_eq_true,decide_eq_true_eq] at hp
  have h8:(p.Arguments.length:Int)<=3:=by
   rw [List.getD_eq_getElem?_getD] at hp
   rw [k4];exact hp.2
  exact ⟨by omega,args,by omega,by simp [k1],by omega,fun _=>k3,by omega⟩
noncomputable def bT (l:List Definition) (b:List bG):aN:=(yA l b).getD []
theorem aKG {l:List Definition} (h:sD l):∀ d∈l,pG d.Name=true:=fun d hd=>by
 obtain ⟨k,hk,rfl⟩:=List.getElem_of_mem hd
 exact (h.2.2.2.2 k hk).1
theorem bT_eq {l:List Definition} (h:sD l) {d:Definition} (hd:d∈l):yA l d.Body=some (bT l d.Body)/\wU l d.Body=some (bT l d.Body,[])/\(bT l d.Body).length<=10000000:=by
 have hb:=h.2.2.2.1 d hd
 unfold aAx at hb
 simp only [decide_eq_true_eq] at hb
 obtain ⟨h20,t,ht,hw,hok⟩:=hb
 have hp:=h.2.2.1 d hd
 unfold aEZ at hp
 simp only [Bool.and_eq_true,decide_eq_true_eq] at hp
 have hpr:∀ p∈t.flat,PrP l p:=fun p hpm=>by
  rw [←ht] at hpm
  obtain ⟨i,hi,rfl⟩:=List.getElem_of_mem hpm
  have hi2:i < (plT d.Parameters false t).length:=by rw [oC,←ht];exact hi
  have hsc:=aEh t d.Parameters false _ (List.getElem_mem hi2)
  rw [←ht] at hsc
  exact prP_of (hok i _ _ (List.getElem?_eq_getElem hi) (List.getElem?_eq_getElem hi2)) (by omega) h.2.2.1
 have hn:∀ d∈l,d.Name.length<=1000:=fun d hd=>by have:=(aGp (aKG h d hd)).1;omega
 have hl:t.flat.length<=20:=by rw [←ht];exact h20
 have h1:=body_S hn (by omega) hw hpr
 have h2:=part_I hn t 100000 [] (by omega) (by rw [List.append_nil];omega) hw hpr
 have h3:=xF hn t hw hpr
 rw [List.append_nil] at h2
 have e:bT l d.Body=txB l t:=by unfold bT;rw [ht,h1];rfl
 rw [e,ht]
 exact ⟨h1,h2,by omega⟩
noncomputable def dT (l:List Definition) (d:Definition):aN:=[112,114,111,99,32]++d.Name++[32]++Lib.itoa d.Parameters++[32,61,32]++bT l d.Body
theorem dT_eq {l:List Definition} (h:sD l) {d:Definition} (hd:d∈l):mZ l d=some (dT l d)/\(∀ k:Nat,l[k]?=some d->aGC l (k:Int)=some (dT l d))/\(dT l d).length<=11000000:=by
 obtain ⟨b1,b2,b3⟩:=bT_eq h hd
 have hn:=(aGp (aKG h d hd)).1
 have hp:=h.2.2.1 d hd
 unfold aEZ at hp
 simp only [Bool.and_eq_true,decide_eq_true_eq] at hp
 have hi:=kV hp.1 (by omega)
 have hdec:=xD hp.1 (show d.Parameters < 4611686018427387904 by omega)
 have key:∀ f:Int->Option aN,f d.Parameters=some (Lib.itoa d.Parameters)->(ob (fA ([112,114,111,99,32]:aN) d.Name) fun s22=>ob (fA s22 ([32]:aN)) fun s24=>ob (f d.Parameters) fun r26=>ob (fA s24 r26) fun s30=>ob (fA s30 ([32,61,32]:aN)) fun s32=>ob (fA s32 (bT l d.Body)) fun s42=>some s42)=some (dT l d):=fun f hf=>by
  rw [dZ (n:=100000000000) (by simp only [List.length_cons,List.length_append,List.length_nil];omega) (by omega),aA,dZ (n:=100000000000) (by simp only [List.length_cons,List.length_append,List.length_nil];omega) (by omega),aA,hf,aA,dZ (n:=100000000000) (by simp only [List.length_cons,List.length_append,List.length_nil];omega) (by omega),aA,dZ (n:=100000000000) (by simp only [List.length_cons,List.length_append,List.length_nil];omega) (by omega),aA,dZ (n:=100000000000) (by simp only [List.length_cons,List.length_append,List.length_nil];omega) (by omega),aA]
  rfl
 refine ⟨?_,fun k hk=>?_,?_⟩
 ·unfold mZ
  rw [←key iF hdec.1]
  simp only [b2,aA]
 ·unfold aGC
  rw [dN,hk,aA,←key lO hdec.2]
  simp only [b1,aA]
 ·unfold dT
  simp only [List.length_cons,List.length_append,List.length_nil];omega
def cpT (l:List Definition) (c:aX):aN:=(l.getD c.Definition.toNat ⟨[],0,[]⟩).Name++(if c.Values.length=0 then [] else 40::(uZ c.Values++[41]))
def mtT (m:bB):aN:=[109,101,101,116,32]++m.Left++[32]++m.Right++[32]++m.Result
theorem aGS {s:aN} (h:gE s=true):s.length<=10:=by
 unfold gE at h
 rw [Bool.and_eq_true] at h
 exact (aGp h.1).1
section
variable {s:bL} (h:SysOk s) (hm:s.Meetings.length<=1048576)
include h
theorem aIv {c:aX} (hc:c∈s.Components):ix s.Definitions c.Definition=some (s.Definitions.getD c.Definition.toNat ⟨[],0,[]⟩)/\(s.Definitions.getD c.Definition.toNat ⟨[],0,[]⟩).Name.length<=10/\c.Values.length<=3/\(∀ v∈c.Values,0<=v/\v < 4611686018427387904):=by
 have hb:=h.comp c hc
 unfold aAy at hb
 simp only [Bool.and_eq_true,decide_eq_true_eq,beq_iff_eq] at hb
 obtain ⟨⟨⟨h0,h1⟩,h2⟩,h3⟩:=hb
 have hg:=getD_ix h0 h1 (⟨[],0,[]⟩:Definition)
 have hp:=h.defs.2.2.1 _ hg.2
 unfold aEZ at hp
 simp only [Bool.and_eq_true,decide_eq_true_eq] at hp
 refine ⟨hg.1,(aGp (aKG h.defs _ hg.2)).1,by omega,fun v hv=>?_⟩
 have:=List.all_eq_true.1 h3 v hv
 unfold vA at this
 simp only [Bool.and_eq_true,decide_eq_true_eq] at this
 omega
theorem cpT_len {c:aX} (hc:c∈s.Components):(cpT s.Definitions c).length<=100:=by
 obtain ⟨h1,h2,h3,h4⟩:=aIv h hc
 have:=aBt h4
 unfold cpT
 rw [List.length_append]
 split
 ·simp only [List.length_nil];omega
 ·simp only [List.length_cons,List.length_append,List.length_nil];omega
noncomputable def rG (s:bL):List aN:=
 s.Definitions.map (dT s.Definitions)++[[114,117,110,32]++Lib.join (s.Components.map (cpT s.Definitions)) [32,124,32]]++s.Meetings.map mtT++(if s.Allowed.length=0 then [] else [[97,108,108,111,119,32]++Lib.join s.Allowed [32]])++(if s.Hidden.length=0 then [] else [[104,105,100,101,32]++Lib.join s.Hidden [32]])
theorem aPv (k:Nat):(Lib.join ((s.Components.take k).map (cpT s.Definitions)) [32,124,32]).length<=103 * 3:=by
 refine Nat.le_trans (aNn (sep:=[32,124,32]) (M:=100) (N:=3) (fun x hx=>?_) ?_) (by simp)
 ·rw [List.mem_map] at hx
  obtain ⟨c,hc,rfl⟩:=hx
  exact cpT_len h (List.mem_of_mem_take hc)
 ·have:=h.n3;simp;omega
omit h in
theorem aGT {l:List aN} (h:pZ l) (k:Nat):(Lib.join (l.take k) [32]).length<=11 * 12:=by
 refine Nat.le_trans (aNn (sep:=[32]) (M:=10) (N:=12) (fun x hx=>aGS (h.2.1 x (List.mem_of_mem_take hx))) ?_) (by simp)
 have:=h.1;simp;omega
theorem mtT_len {m:bB} (hx:m∈s.Meetings):(mtT m).length<=40/\m.Left.length<=10/\m.Right.length<=10/\m.Result.length<=10:=by
 obtain ⟨a,b,c⟩:=h.meet m hx
 have:=aGS a;have:=aGS b;have:=aGS c
 unfold mtT
 simp only [List.length_cons,List.length_append,List.length_nil];omega
theorem meet_eq {m:bB} (hx:m∈s.Meetings) {α:Type} (f:aN->Option α):(ob (fA ([109,101,101,116,32]:aN) m.Left) fun s143=>ob (fA s143 ([32]:aN)) fun s145=>ob (fA s145 m.Right) fun s147=>ob (fA s147 ([32]:aN)) fun s149=>ob (fA s149 m.Result) f)=f (mtT m):=by
 obtain ⟨_,a,b,c⟩:=mtT_len h hx
 rw [dZ (n:=100000000000) (by simp only [List.length_cons,List.length_append,List.length_nil];omega) (by omega),aA,dZ (n:=100000000000) (by simp only [List.length_cons,List.length_append,List.length_nil];omega) (by omega),aA,dZ (n:=100000000000) (by simp only [List.length_cons,List.length_append,List.length_nil];omega) (by omega),aA,dZ (n:=100000000000) (by simp only [List.length_cons,List.length_append,List.length_nil];omega) (by omega),aA,dZ (n:=100000000000) (by simp only [List.length_cons,List.length_append,List.length_nil];omega) (by omega),aA]
 rfl
include hm
theorem aRK:Lib.lens (rG s)<=100000000/\(rG s).length<=1048583:=by
 have h1:=aJZ (M:=11000000) (s.Definitions.map (dT s.Definitions)) (fun x hx=>by
  rw [List.mem_map] at hx;obtain ⟨d,hd,rfl⟩:=hx;exact (dT_eq h.defs hd).2.2)
 have h2:=aJZ (M:=40) (s.Meetings.map mtT) (fun x hx=>by
  rw [List.mem_map] at hx;obtain ⟨m,hx,rfl⟩:=hx;exact (mtT_len h hx).1)
 have h3:=aPv h s.Components.length
 have h4:=aGT h.alw s.Allowed.length
 have h5:=aGT h.hid s.Hidden.length
 rw [List.take_length] at h3 h4 h5
 have h6:=h.defs.2.1
 rw [List.length_map] at h1 h2
 have e1:∀ a:aN,Lib.lens [a]=a.length:=fun a=>by simp [Lib.lens]
 have e2:∀ (c:Prop) [Decidable c] (a:aN),Lib.lens (if c then [] else [a])<=a.length:=fun c _ a=>by split<;>simp [Lib.lens]
 have e3:∀ (c:Prop) [Decidable c] (a:aN),(if c then [] else [a]:List aN).length<=1:=fun c _ a=>by split<;>simp
 unfold rG
 refine ⟨?_,?_⟩
 ·rw [aKb,aKb,aKb,aKb,e1]
  have q1:=e2 (s.Allowed.length=0) ([97,108,108,111,119,32]++Lib.join s.Allowed [32])
  have q2:=e2 (s.Hidden.length=0) ([104,105,100,101,32]++Lib.join s.Hidden [32])
  simp only [List.length_cons,List.length_append,List.length_nil] at q1 q2 ⊢
  omega
 ·have q1:=e3 (s.Allowed.length=0) ([97,108,108,111,119,32]++Lib.join s.Allowed [32])
  have q2:=e3 (s.Hidden.length=0) ([104,105,100,101,32]++Lib.join s.Hidden [32])
  simp only [List.length_append,List.length_map,List.length_cons,List.length_nil] at q1 q2 ⊢
  omega
theorem lines_I:qV s=some (rG s):=by
 have hsz:s.Definitions.length<=4:=h.defs.2.1
 have l1:=yP (step:=fun (q:(List aN × Int))=>pV s q.1 q.2) (xs:=s.Definitions) (f:=dT s.Definitions) (pre:=[]) (fun k hk=>by
  obtain ⟨g1,_,_⟩:=dT_eq h.defs (List.getElem_mem hk)
  have a1:∀ y,oR ((s.Definitions.take k).map (dT s.Definitions)) ([y]:List aN)=some ((s.Definitions.take k).map (dT s.Definitions)++[y]):=fun y=>fC (by unfold jB;simp;omega)
  simp only [pV,bU hk,if_true,bX hk,aA,g1,List.nil_append,a1,bN hk (show s.Definitions.length < 4611686018427387904 by omega)]) (fun out=>by simp only [pV,bJ];rfl)
 have l2:=yP (step:=fun (q:(List aN × Int))=>lY s q.1 q.2) (xs:=s.Components) (f:=cpT s.Definitions) (pre:=[]) (fun k hk=>by
  have hn3:=h.n3
  obtain ⟨g1,g2,g3,g4⟩:=aIv h (List.getElem_mem hk)
  have a1:∀ y,oR ((s.Components.take k).map (cpT s.Definitions)) ([y]:List aN)=some ((s.Components.take k).map (cpT s.Definitions)++[y]):=fun y=>fC (by unfold jB;simp;omega)
  have hj:=aBt g4
  simp only [lY,pT,bU hk,if_true,bX hk,aA,g1,List.nil_append,a1,bN hk (show s.Components.length < 4611686018427387904 by omega)]
  by_cases h0:s.Components[k].Values.length=0
  ·rw [if_neg (by simp [h0])]
   simp [cpT,h0]
  ·rw [if_pos (aGR h0),joined_C (by omega) g4,aA,dZ (n:=100000000000) (by simp only [List.length_cons,List.length_nil];omega) (by omega),aA,dZ (n:=100000000000) (by simp only [List.length_cons,List.length_append,List.length_nil];omega) (by omega),aA,dZ (n:=100000000000) (by simp only [List.length_cons,List.length_append,List.length_nil];omega) (by omega),aA]
   simp only [cpT,h0,if_false]
   rfl) (fun out=>by simp only [lY,bJ];rfl)
 have l3:=yP (step:=fun (q:(List aN × Int))=>pQ s q.1 q.2) (xs:=s.Meetings) (f:=mtT) (pre:=s.Definitions.map (dT s.Definitions)++[[114,117,110,32]++Lib.join (s.Components.map (cpT s.Definitions)) [32,124,32]]) (fun k hk=>by
  have a1:∀ y,oR (s.Definitions.map (dT s.Definitions)++[[114,117,110,32]++Lib.join (s.Components.map (cpT s.Definitions)) [32,124,32]]++(s.Meetings.take k).map mtT) ([y]:List aN)=some (s.Definitions.map (dT s.Definitions)++[[114,117,110,32]++Lib.join (s.Components.map (cpT s.Definitions)) [32,124,32]]++(s.Meetings.take k).map mtT++[y]):=fun y=>fC (by unfold jB;simp;omega)
  simp only [pQ,bU hk,if_true,bX hk,aA]
  rw [meet_eq h (List.getElem_mem hk),a1,aA,bN hk (by omega)]) (fun out=>by simp only [pQ,bJ];rfl)
 unfold qV
 rw [l1,aA,List.nil_append]
 unfold pU
 rw [l2,aA,List.nil_append]
 unfold pR
 have h3:=aPv h s.Components.length
 have h4:=aGT h.alw s.Allowed.length
 have h5:=aGT h.hid s.Hidden.length
 rw [List.take_length] at h3 h4 h5
 have hc3:=h.n3
 have ha:=h.alw.1
 have hh:=h.hid.1
 rw [aKa (by simp;omega) (by omega),aA,dZ (n:=100000000000) (by simp only [List.length_cons,List.length_nil];omega) (by omega),aA,fC (by unfold jB;simp;omega),aA,l3,aA]
 have hout:∀ o:List aN,o.length<=2000000->jP s o=some (o++(if s.Hidden.length=0 then [] else [[104,105,100,101,32]++Lib.join s.Hidden [32]])):=fun o ho=>by
  unfold jP pO
  by_cases h0:s.Hidden.length=0
  ·rw [if_neg (by simp [h0]),if_pos h0,List.append_nil]
  ·rw [if_pos (aGR h0),if_neg h0,aKa (by omega) (by omega),aA,dZ (n:=100000000000) (by simp only [List.length_cons,List.length_nil];omega) (by omega),aA,fC (by unfold jB;simp;omega),aA]
 unfold pP
 by_cases h0:s.Allowed.length=0
 ·rw [if_neg (by simp [h0]),hout _ (by simp;omega)]
  unfold rG
  rw [if_pos h0];simp
 ·rw [if_pos (aGR h0),aKa (by omega) (by omega),aA,dZ (n:=100000000000) (by simp only [List.length_cons,List.length_nil];omega) (by omega),aA,fC (by unfold jB;simp;omega),aA,hout _ (by simp;omega)]
  unfold rG
  rw [if_neg h0]
omit h hm in
theorem aQF {l:List aN} (h:pZ l) (h0:l.length≠0) {head:aN} (hh:head.length<=100):yB head l=some (head++[32]++Lib.join l [32]):=by
 have hl:=h.1
 have hb:∀ k,(Lib.joinTail [32] (l.take k)).length<=1000:=fun k=>by
  rw [Lib.joinTail_length]
  have:=aJZ (M:=10) (l.take k) (fun x hx=>aGS (h.2.1 x (List.mem_of_mem_take hx)))
  have:(l.take k).length<=12:=by simp;omega
  simp only [List.length_cons,List.length_nil];omega
 have aux:∀ n k,n+k=l.length->loop (fun (s:(aN × Int))=>sU l s.1 s.2) (head++Lib.joinTail [32] (l.take k),(k:Int))=some (head++Lib.joinTail [32] l):=by
  intro n
  induction n with
  |zero=>
   intro k hk
   rw [Nat.zero_add] at hk;subst hk
   rw [List.take_length]
   exact fN (by simp only [sU,bJ];rfl)
  |succ n ih=>
   intro k hk
   have hk':k < l.length:=by omega
   have:=hb k
   have ha:=aGS (h.2.1 _ (List.getElem_mem hk'))
   have hst:sU l (head++Lib.joinTail [32] (l.take k)) (k:Int)=some (.inl (head++Lib.joinTail [32] (l.take (k+1)),((k+1:Nat):Int))):=by
    rw [Lib.joinTail_take_succ [32] l k l[k] (List.getElem?_eq_getElem hk')]
    simp only [sU,bU hk',if_true,bX hk',aA,bN hk' (show l.length < 4611686018427387904 by omega)]
    rw [dZ (n:=100000000000) (by simp only [List.length_cons,List.length_nil];omega) (by omega),aA,dZ (n:=100000000000) (by simp only [List.length_cons,List.length_append,List.length_nil];omega) (by omega),aA]
    simp
   rw [pH hst]
   exact ih (k+1) (by omega)
 have:=aux l.length 0 rfl
 rw [List.take_zero,show Lib.joinTail [32] ([]:List aN)=[] from rfl,List.append_nil] at this
 unfold yB aDr
 rw [show (0:Int)=((0:Nat):Int) from rfl,this,aA]
 cases l with
 |nil=>simp at h0
 |cons x r=>rw [Lib.join_cons];simp [Lib.joinTail]
theorem lines_S:aCa s=some (rG s):=by
 have hsz:s.Definitions.length<=4:=h.defs.2.1
 have hn3:=h.n3
 have l1:=yP (step:=fun (q:(List aN × Int))=>wD s q.1 q.2) (xs:=s.Definitions) (f:=dT s.Definitions) (pre:=[]) (fun k hk=>by
  obtain ⟨_,g1,_⟩:=dT_eq h.defs (List.getElem_mem hk)
  have a1:∀ y,oR ((s.Definitions.take k).map (dT s.Definitions)) ([y]:List aN)=some ((s.Definitions.take k).map (dT s.Definitions)++[y]):=fun y=>fC (by unfold jB;simp;omega)
  simp only [wD,bU hk,if_true,aA,g1 k (List.getElem?_eq_getElem hk),List.nil_append,a1,bN hk (show s.Definitions.length < 4611686018427387904 by omega)]) (fun out=>by simp only [wD,bJ];rfl)
 have l2:=aNl (step:=fun (q:(aN × Int))=>sX s q.1 q.2) (xs:=s.Components) (f:=cpT s.Definitions) (sep:=[32,124,32]) (pre:=[114,117,110,32]) (fun k hk=>by
  obtain ⟨g1,g2,g3,g4⟩:=aIv h (List.getElem_mem hk)
  have hj:=aBt g4
  have hr:=aPv h k
  have hj7:∀ o:aN,o.length<=10000->sW s (k:Int) o=some (.inl (o++cpT s.Definitions s.Components[k],((k+1:Nat):Int))):=fun o ho=>by
   unfold sW sV
   simp only [bX hk,aA,g1]
   rw [dZ (n:=100000000000) (by omega) (by omega),aA]
   by_cases h0:s.Components[k].Values.length=0
   ·rw [if_neg (by simp [h0]),bN hk (by omega)]
    simp [cpT,h0]
   ·rw [if_pos (aGR h0),aRI (by omega) g4,aA]
    have e:lstT s.Components[k].Values=uZ s.Components[k].Values:=by unfold lstT;rw [if_neg h0]
    rw [e,dZ (n:=100000000000) (by simp only [List.length_cons,List.length_nil];omega) (by omega),aA,dZ (n:=100000000000) (by simp only [List.length_cons,List.length_append,List.length_nil];omega) (by omega),aA,dZ (n:=100000000000) (by simp only [List.length_cons,List.length_append,List.length_nil];omega) (by omega),aA,bN hk (by omega)]
    simp [cpT,h0]
  simp only [sX,bU hk,if_true]
  by_cases h0:k=0
  ·subst h0
   rw [if_neg (by simp),if_pos rfl,hj7 _ (by simp [Lib.join_nil])]
   simp [Lib.join_nil]
  ·rw [if_pos (by simp;omega),if_neg h0,dZ (n:=100000000000) (by simp only [List.length_cons,List.length_append,List.length_nil];omega) (by omega),aA,hj7 _ (by simp only [List.length_cons,List.length_append,List.length_nil];omega)]
   simp) (fun out=>by simp only [sX,bJ];rfl)
 have l3:=yP (step:=fun (q:(List aN × Int))=>yZ s q.1 q.2) (xs:=s.Meetings) (f:=mtT) (pre:=s.Definitions.map (dT s.Definitions)++[[114,117,110,32]++Lib.join (s.Components.map (cpT s.Definitions)) [32,124,32]]) (fun k hk=>by
  have a1:∀ y,oR (s.Definitions.map (dT s.Definitions)++[[114,117,110,32]++Lib.join (s.Components.map (cpT s.Definitions)) [32,124,32]]++(s.Meetings.take k).map mtT) ([y]:List aN)=some (s.Definitions.map (dT s.Definitions)++[[114,117,110,32]++Lib.join (s.Components.map (cpT s.Definitions)) [32,124,32]]++(s.Meetings.take k).map mtT++[y]):=fun y=>fC (by unfold jB;simp;omega)
  simp only [yZ,bU hk,if_true,bX hk,aA]
  rw [meet_eq h (List.getElem_mem hk),a1,aA,bN hk (by omega)]) (fun out=>by simp only [yZ,bJ];rfl)
 unfold aCa
 rw [l1,aA,List.nil_append]
 unfold zE
 rw [l2,aA]
 unfold zD
 have ha:=h.alw.1
 have hh:=h.hid.1
 rw [fC (by unfold jB;simp;omega),aA,l3,aA]
 have hout:∀ o:List aN,o.length<=2000000->oZ s o=some (o++(if s.Hidden.length=0 then [] else [[104,105,100,101,32]++Lib.join s.Hidden [32]])):=fun o ho=>by
  unfold oZ yX
  by_cases h0:s.Hidden.length=0
  ·rw [if_neg (by simp [h0]),if_pos h0,List.append_nil]
  ·rw [if_pos (aGR h0),if_neg h0,aQF h.hid h0 (by simp),aA,fC (by unfold jB;simp;omega),aA]
   rfl
 unfold yY
 by_cases h0:s.Allowed.length=0
 ·rw [if_neg (by simp [h0]),hout _ (by simp;omega)]
  unfold rG
  rw [if_pos h0];simp
 ·rw [if_pos (aGR h0),aQF h.alw h0 (by simp),aA,fC (by unfold jB;simp;omega),aA,hout _ (by simp;omega)]
  unfold rG
  rw [if_neg h0]
  rfl
noncomputable def sysT (s:bL):aN:=Lib.join (rG s) [10]
theorem aPw (hv:mB s=some true):aBh s=some (sysT s)/\aDR s=some (sysT s)/\(sysT s).length<=200000000:=by
 obtain ⟨q1,q2⟩:=aRK h hm
 have hj:∀ k,(Lib.join ((rG s).take k) [10]).length<=200000000:=fun k=>by
  have:=join_lens [10] ((rG s).take k)
  have:=Lib.lens_take_le (rG s) k
  have:((rG s).take k).length<=1048583:=by simp;omega
  simp only [List.length_cons,List.length_nil] at *
  omega
 have hf:=hj (rG s).length
 rw [List.take_length] at hf
 refine ⟨?_,?_,hf⟩
 ·unfold aBh
  rw [hv,aA,if_neg (by simp),lines_I h hm,aA,aKa (by omega) (by omega),aA]
  rfl
 ·unfold aDR
  rw [lines_S h hm,aA]
  have:=aNl (step:=fun (q:(aN × Int))=>wF (rG s) q.1 q.2) (xs:=rG s) (f:=id) (sep:=[10]) (pre:=[]) (fun k hk=>by
   have hb:=hj k
   have hb2:=hj (k+1)
   rw [List.take_add_one,List.getElem?_eq_getElem hk,Option.toList_some,aOA,List.length_append] at hb2
   simp only [List.map_id,List.nil_append,id,wF,bU hk,if_true]
   by_cases h0:k=0
   ·subst h0
    rw [if_neg (by simp),if_pos rfl]
    simp only [wE,bX hk,aA,List.take_zero,Lib.join_nil]
    rw [dZ (n:=100000000000) (by simp only [List.length_nil];omega) (by omega),aA,bN hk (by omega)]
   ·rw [if_pos (by simp;omega),if_neg h0,dZ (n:=100000000000) (by simp only [List.length_cons,List.length_nil];omega) (by omega),aA]
    simp only [wE,bX hk,aA]
    rw [dZ (n:=100000000000) (by simp only [List.length_cons,List.length_append,List.length_nil];omega) (by omega),aA,bN hk (by omega)]) (fun out=>by simp only [wF,bJ];rfl)
  rw [this,aA,List.map_id]
  rfl
end
end Gv
namespace Gv
open Go
def ptD (l:aN):Bool:=l == []||aAO l||(l.getLast? == some (42:UInt8)&&gE l.dropLast)
theorem ipatD {l:aN} (h:l.length < 100000000):aAl l=some (ptD l):=by
 unfold aAl mU ptD
 have h1:((if (l.getLast? == some (42:UInt8))=true then (l.dropLast,true) else (l,false)).1:aN).length < 100000000:=by
  split
  ·show l.dropLast.length < 100000000
   rw [List.length_dropLast];omega
  ·exact h
 rw [aJQ _ _ (by omega),aA,aMX _ (by omega),aA,rE _ (by omega),aA]
 cases l == []<;>cases aAO l<;>cases l.getLast? == some (42:UInt8)<;>simp
theorem spatD {l:aN} (h:l.length < 100000000):vS l=some (ptD l):=by
 unfold vS ptD
 by_cases h0:l=[]
 ·subst h0;rfl
 ·rw [if_neg (by simpa using h0),aKW _ (by omega),aA,show (l == [])=false by simpa using h0]
  unfold oJ tS
  cases hb:aAO l with
  |true=>rfl
  |false=>
   obtain ⟨q,c,hq⟩:=(List.eq_nil_or_concat l).resolve_left h0
   rw [List.concat_eq_append] at hq
   subst hq
   have hl:(q++[c]).length=q.length+1:=by simp
   rw [hl] at h
   rw [if_neg (by decide),hl,dM (by omega) (by omega),show ((q.length+1:Nat):Int) - 1=(q.length:Int) by omega,bX (by rw [hl];omega),aA]
   simp only [List.getElem_concat_length,List.getLast?_append,List.getLast?_singleton,List.dropLast_concat,Option.some_or,Bool.false_or]
   by_cases hc:c=42
   ·subst hc
    rw [if_pos (by decide),aOy (by rw [hl];omega),aA,rU,aA,List.take_left]
    simp
   ·have hn:¬ (((c.toNat:Int) == 42)=true):=fun h9=>hc (UInt8.toNat_inj.1 (by
     have h7:(c.toNat:Int)=42:=by simpa using h9
     have h8:(42:UInt8).toNat=42:=rfl
     omega))
    rw [if_neg hn]
    have:((some c:Option UInt8) == some 42)=false:=by simpa using hc
    rw [this]
    rfl
def arF (n:bH):Nat:=if n.Kind=2\/n.Kind=3 then 2 else if n.Kind=4\/n.Kind=5\/n.Kind=7\/n.Kind=8 then 1 else 0
theorem aIw (n:bH):arF n<=2:=by unfold arF;split;omega;split<;>omega
theorem aEj (n:bH):jV n=some ((arF n:Nat):Int):=by
 unfold jV lC iX arF
 by_cases h2:n.Kind=2;· simp [h2]
 by_cases h3:n.Kind=3;· simp [h3]
 by_cases h4:n.Kind=4;· simp [h4]
 by_cases h5:n.Kind=5;· simp [h5]
 by_cases h7:n.Kind=7;· simp [h7]
 by_cases h8:n.Kind=8;· simp [h8]
 simp [h2,h3,h4,h5,h7,h8]
theorem aNo {n:bH} (h0:0<=n.Kind) (h8:n.Kind<=8):uG n.Kind=some ((arF n:Nat):Int):=by
 unfold uG oV yT arF
 have:n.Kind=0\/n.Kind=1\/n.Kind=2\/n.Kind=3\/n.Kind=4\/n.Kind=5\/n.Kind=6\/n.Kind=7\/n.Kind=8:=by omega
 rcases this with h|h|h|h|h|h|h|h|h<;>simp [h]
def kdB (n:bH):Bool:=decide (0<=n.Kind)&&decide (n.Kind<=8)
def fldB (n:bH):Bool:=if n.Kind == 4||n.Kind == 5 then ptD n.B else n.B == []&&!n.Not
def aKH (n:bH):Bool:=kdB n&&fldB n
def bndB (n:bH):Bool:=if n.Kind == 6||(n.Kind == 7||n.Kind == 8) then decide (0<=n.Variable)&&decide (n.Variable<=2) else n.Variable == 0
def fixB (n:bH):Bool:=n.Kind == 7||n.Kind == 8
theorem aNq (n:bH):mV n=some (fixB n):=by unfold mV pM fixB;cases n.Kind == 7<;>rfl
theorem aLc (n:bH):xU n=some (fixB n):=by unfold xU yU fixB;cases n.Kind == 7<;>rfl
theorem fieldsD {n:bH} (h:n.B.length < 100000000):oM n=some (fldB n):=by
 unfold oM pL lR nV fldB
 rw [ipatD h]
 cases n.Kind == 4<;>cases n.Kind == 5<;>cases n.B == []<;>rfl
theorem boundD (n:bH):qQ n=some (bndB n):=by
 unfold qQ pN bndB
 rw [aNq,eZ]
 unfold fixB
 cases n.Kind == 7<;>cases n.Kind == 8<;>cases n.Kind == 6<;>rfl
def ttN (_:bH):Bool:=true
theorem aNr {α:Type} {ok tt:α->Bool} {ar:α->Nat} (ht:∀ x,tt x=true):∀ (l:List α) (n:Nat),jX ok ar n l=(jX tt ar n l&&l.all ok)
 |[],n=>by simp [jX]
 |x::l,0=>by simp [jX]
 |x::l,n+1=>by
  have ih:=aNr (ok:=ok) (ar:=ar) ht l (n+ar x)
  simp only [jX,ht,Bool.true_and,List.all_cons,ih]
  cases ok x<;>cases jX tt ar (n+ar x) l<;>rfl
section
variable {f:List bH} (hl:∀ n∈f,n.B.length < 100000000) (hf:f.length<=30)
include hf
theorem shape_I:aDV f=some (jX ttN arF 1 f):=by
 unfold aDV
 have key:=aEf (step:=fun s=>aBf f s.1 s.2) (e:=f) (ok:=ttN) (ar:=arF) aIw (fun pre x post n he hn=>?_) (fun n=>?_)
 ·obtain ⟨r,h1,h2⟩:=key
  rw [h1,aA,←h2]
  cases r<;>rfl
 ·have hp:pre.length < f.length:=by rw [he];simp
  have hi:ix f (pre.length:Int)=some x:=by rw [dN,he];simp
  have ha:=aIw x
  simp only [aBf,bU hp,if_true,hi,aA,aEj]
  by_cases h0:n=0
  ·subst h0;rfl
  ·have h0':((n:Int) == 0)=false:=by simp;omega
   rw [if_neg (by simp [h0']),if_neg h0,aEX h0 (by omega) ha,bN hp (by omega)]
   rfl
 ·simp only [aBf,bJ];rfl
include hl
theorem shape_S (h1:1<=f.length):xT f 30 8=some (jX aKH arF 1 f):=by
 unfold xT
 rw [if_neg (by simp;omega)]
 unfold oX
 rw [if_neg (by simp;omega)]
 have key:=aEf (step:=fun s=>sM f 8 s.1 s.2) (e:=f) (ok:=aKH) (ar:=arF) aIw (fun pre x post n he hn=>?_) (fun n=>?_)
 ·obtain ⟨r,h1,h2⟩:=key
  rw [h1,aA,←h2]
  cases r<;>rfl
 ·have hp:pre.length < f.length:=by rw [he];simp
  have hi:ix f (pre.length:Int)=some x:=by rw [dN,he];simp
  have ha:=aIw x
  have hxl:=hl x (by rw [he];simp)
  simp only [sM,bU hp,if_true,hi,aA,oQ]
  by_cases h0:n=0
  ·subst h0;rfl
  have h0':((n:Int) == 0)=false:=by simp;omega
  rw [if_neg (by simp [h0']),if_neg h0]
  unfold sL aKH
  cases hk:kdB x with
  |false=>
   have e:(decide (0<=x.Kind)&&decide (x.Kind<=8))=false:=hk
   rw [e];rfl
  |true=>
   have e:(decide (0<=x.Kind)&&decide (x.Kind<=8))=true:=hk
   rw [e,if_neg (by simp),hi,aA]
   simp only [Bool.and_eq_true,decide_eq_true_eq] at e
   rw [aNo e.1 e.2,aA]
   have hok:some (Sum.inl (wr ((n:Int)+wr (((arF x:Nat):Int) - 1)),wr ((pre.length:Int)+1)))=some ((.inl (((n - 1+arF x:Nat):Int),((pre.length+1:Nat):Int))):(Int × Int) ⊕ (Int ⊕ Bool)):=by rw [aEX h0 (by omega) ha,bN hp (by omega)]
   unfold sK oW fldB
   rw [spatD hxl,hok]
   cases x.Kind == 4<;>cases x.Kind == 5<;>cases x.B == []<;>cases x.Not<;>cases ptD x.B<;>rfl
 ·simp only [sM,bJ];rfl
end
theorem sub_at {α:Type} {ar:α->Nat}:∀ (T:GTr α) (i:Nat),T.WF ar->i < T.flat.length->∃ pre t post,T.flat=pre++GTr.flat t++post/\pre.length=i/\GTr.WF ar t:=by
 intro T
 induction T with
 |nul x=>
  intro i hw hi
  simp [GTr.flat] at hi
  subst hi
  exact ⟨[],.nul x,[],by simp,rfl,hw⟩
 |one x a iha=>
  intro i hw hi
  match i with
  |0=>exact ⟨[],.one x a,[],by simp,rfl,hw⟩
  |i+1=>
   obtain ⟨pre,t,post,h1,h2,h3⟩:=iha i hw.2 (by simp [GTr.flat] at hi;omega)
   exact ⟨x::pre,t,post,by simp [GTr.flat,h1],by simp [h2],h3⟩
 |two x a b iha ihb=>
  intro i hw hi
  match i with
  |0=>exact ⟨[],.two x a b,[],by simp,rfl,hw⟩
  |i+1=>
   by_cases h:i < a.flat.length
   ·obtain ⟨pre,t,post,h1,h2,h3⟩:=iha i hw.2.1 h
    exact ⟨x::pre,t,post++b.flat,by simp [GTr.flat,h1],by simp [h2],h3⟩
   ·obtain ⟨pre,t,post,h1,h2,h3⟩:=ihb (i - a.flat.length) hw.2.2 (by simp [GTr.flat] at hi;omega)
    exact ⟨x::(a.flat++pre),t,post,by simp [GTr.flat,h1],by simp [h2];omega,h3⟩
theorem aRL {α:Type} {ok:α->Bool} {ar:α->Nat} (har:∀ x,ar x<=2) {l:List α} (h:jX ok ar 1 l=true):∃ t:GTr α,l=t.flat/\t.WF ar:=by
 obtain ⟨ts,h1,h2,h3⟩:=aEW har h
 match ts,h1 with
 |[t],_=>exact ⟨t,by rw [h2];simp,h3 t (by simp)⟩
def fndB (p:Nat->Bool):Nat->Int
 |0=>-1
 |k+1=>if p k then (k:Int) else fndB p k
theorem aNs {step:Int->Option (Int ⊕ (Unit ⊕ Int))} (p:Nat->Bool) {N:Nat} (h:∀ i:Nat,i < N->step (i:Int)=if p i=true then some (.inr (.inr (i:Int))) else some (.inl ((i:Int) - 1))) (h':step (-1)=some (.inr (.inl ()))):∀ k:Nat,k<=N->(ob (loop step ((k:Int) - 1)) fun r=>match r with|.inl _=>some (-1)|.inr r=>some r)=some (fndB p k)
 |0,_=>by rw [show (((0:Nat):Int) - 1)=-1 by omega,fN h'];rfl
 |k+1,hk=>by
  have:=h k (by omega)
  rw [show (((k+1:Nat):Int) - 1)=(k:Int) by omega]
  unfold fndB
  cases hp:p k with
  |true=>rw [hp,if_pos rfl] at this;rw [fN this];rfl
  |false=>rw [hp,if_neg (by simp)] at this;rw [pH this,aNs p h h' k (by omega)];rfl
section
variable {f:List bH} {T:GTr bH} (he:f=T.flat) (hw:T.WF arF) (hf:f.length<=30)
include he hw hf
theorem end_I {i:Nat} (hi:i < f.length):∃ e:Int,kJ f (i:Int)=some e/\((∀ n∈f,kdB n=true)->aDL f (i:Int)=some e):=by
 obtain ⟨pre,t,post,h1,h2,h3⟩:=sub_at T i hw (by rw [←he];exact hi)
 rw [←he] at h1
 refine ⟨((pre.length+(([t]:List (GTr bH)).flatMap GTr.flat).length:Nat):Int),?_,fun hk=>?_⟩
 ·have:=aJS (step:=fun (s:(Int × Int))=>tW f s.1 s.2) (e:=f) (ar:=arF) (fun k=>k) (fun pre x post n hx hn=>by
   have hp:pre.length < f.length:=by rw [hx];simp
   have hix:ix f (pre.length:Int)=some x:=by rw [dN,hx];simp
   have ha:=aIw x
   simp only [tW,hix,aA,aEj]
   rw [if_pos (by simp),bN hp (by omega),aEX (by omega) (by omega) ha]
   rfl) (fun k=>by simp only [tW];rfl) _ [t] pre post rfl (by rw [h1];simp) (by simp;exact h3)
  unfold kJ aAE
  rw [show ((([t]:List (GTr bH)).length:Nat):Int)=1 from rfl] at this
  rw [←h2,this,aA]
 ·have:=aJS (step:=fun (s:(Int × Int))=>aCN f s.1 s.2) (e:=f) (ar:=arF) (fun k=>k) (fun pre x post n hx hn=>by
   have hp:pre.length < f.length:=by rw [hx];simp
   have hix:ix f (pre.length:Int)=some x:=by rw [dN,hx];simp
   have ha:=aIw x
   have hkx:=hk x (by rw [hx];simp)
   unfold kdB at hkx
   simp only [Bool.and_eq_true,decide_eq_true_eq] at hkx
   simp only [aCN,hix,aA,aNo hkx.1 hkx.2]
   rw [if_pos (by simp),bN hp (by omega),aEX (by omega) (by omega) ha]
   rfl) (fun k=>by simp only [aCN];rfl) _ [t] pre post rfl (by rw [h1];simp) (by simp;exact h3)
  unfold aDL aFL
  rw [show ((([t]:List (GTr bH)).length:Nat):Int)=1 from rfl] at this
  rw [←h2,this,aA]
theorem aQG {k:Nat} (hk:k < f.length):∃ r:Int,aCi f (k:Int)=some r/\((∀ n∈f,kdB n=true)->uP f (k:Int)=some r):=by
 obtain ⟨ei,hd⟩:∃ ei:Nat->Int,∀ i,i < f.length->kJ f (i:Int)=some (ei i):=⟨fun i=>(kJ f (i:Int)).getD 0,fun i hi=>by
  obtain ⟨e,h1,_⟩:=end_I he hw hf hi
  show kJ f (i:Int)=some ((kJ f (i:Int)).getD 0)
  rw [h1];rfl⟩
 let p:Nat->Bool:=fun i=>match f[i]? with|some x=>fixB x&&(x.Variable == f[k].Variable&&decide ((k:Int) < ei i))|none=>true
 refine ⟨fndB p k,?_,fun hkd=>?_⟩
 ·have hst:∀ j:Nat,j < f.length->aAn f (k:Int) (j:Int)=if p j=true then some (.inr (.inr (j:Int))) else some (.inl ((j:Int) - 1)):=fun j hj=>by
   simp only [aAn,aAm,bX hj,bX hk,aA,aNq,p,List.getElem?_eq_getElem hj]
   rw [if_pos (by simp),hd j hj,aA,dM (x:=(j:Int) - 1) (by omega) (by omega)]
   cases fixB f[j]<;>cases f[j].Variable == f[k].Variable<;>cases decide ((k:Int) < ei j)<;>rfl
  unfold aCi
  rw [dM (by omega) (by omega)]
  exact aNs (step:=fun (s:Int)=>aAn f (k:Int) s) p hst rfl k (by omega)
 ·have hs:∀ i,i < f.length->aDL f (i:Int)=some (ei i):=fun i hi=>by
   obtain ⟨e,h1,h2⟩:=end_I he hw hf hi
   rw [h2 hkd,←h1,hd i hi]
  have hst:∀ j:Nat,j < f.length->qK f (k:Int) (j:Int)=if p j=true then some (.inr (.inr (j:Int))) else some (.inl ((j:Int) - 1)):=fun j hj=>by
   simp only [qK,qJ,bX hj,bX hk,aA,aLc,p,List.getElem?_eq_getElem hj]
   rw [if_pos (by simp),hs j hj,aA,dM (x:=(j:Int) - 1) (by omega) (by omega)]
   cases fixB f[j]<;>cases f[j].Variable == f[k].Variable<;>cases decide ((k:Int) < ei j)<;>rfl
  unfold uP
  rw [dM (by omega) (by omega)]
  exact aNs (step:=fun (s:Int)=>qK f (k:Int) s) p hst rfl k (by omega)
end
structure FrmD (f:List bH):Prop where
 len:f.length<=30
 tree:∃ T:GTr bH,f=T.flat/\T.WF arF
 loc:∀ n∈f,aKH n=true
 bnd:∀ n∈f,bndB n=true
theorem aPy {f:List bH} (hl:∀ n∈f,n.B.length < 100000000) (hlen:f.length < 1000000000):∃ B,gK f=some B/\aEC f=some B/\(B=true->FrmD f):=by
 by_cases h1:1<=f.length/\f.length<=30
 rotate_left
 ·refine ⟨false,?_,?_,fun h=>by cases h⟩
  ·unfold gK
   rw [eZ,aA,if_pos (by simp;omega)]
   rfl
  ·unfold aEC xT
   by_cases h0:f.length < 1
   ·rw [if_pos (by simp;omega)];rfl
   ·rw [if_neg (by simp;omega)]
    unfold oX
    rw [if_pos (by simp;omega)];rfl
 have hI:=shape_I h1.2
 have hS:=shape_S hl h1.2 h1.1
 rw [aNr (tt:=ttN) (fun _=>rfl)] at hS
 cases hn:jX ttN arF 1 f with
 |false=>
  rw [hn] at hI hS
  refine ⟨false,?_,?_,fun h=>by cases h⟩
  ·unfold gK
   rw [eZ,aA,if_neg (by simp;omega),hI];rfl
  ·unfold aEC
   rw [hS];rfl
 |true=>
  rw [hn] at hI hS
  obtain ⟨T,he,hw⟩:=aRL aIw hn
  have hf:=h1.2
  let bi:Nat->Int:=fun k=>(aCi f (k:Int)).getD 0
  have hbi:∀ k,k < f.length->aCi f (k:Int)=some (bi k):=fun k hk=>by
   obtain ⟨r,h1,_⟩:=aQG he hw hf hk
   simp only [bi,h1];rfl
  let pI:Nat->Bool:=fun k=>match f[k]? with|some x=>aKH x&&(bndB x&&(!(x.Kind == 6)||decide (0<=bi k)))|none=>true
  let pS:Nat->Bool:=fun k=>match f[k]? with|some x=>bndB x&&(!(x.Kind == 6)||decide (0<=bi k))|none=>true
  have hdn:∀ r:Int,decide (r < 0)=!decide (0<=r):=fun r=>by by_cases h:0<=r<;>simp [h]<;>omega
  obtain ⟨b,hb,hbl⟩:=pE (step:=fun s=>lS f s) f.length 0 pI (.inr false) (.inl ()) (Nat.zero_le _) (fun k _ hk=>by
   have hx:=hl _ (List.getElem_mem hk)
   simp only [lS,iB,bU hk,if_true,bX hk,aA,eZ,fieldsD hx,boundD,hbi k hk,hdn,bN hk (show f.length < 4611686018427387904 by omega),pI,List.getElem?_eq_getElem hk,aKH]
   have hkd:(decide (0<=f[k].Kind)&&decide (f[k].Kind<=8))=kdB f[k]:=rfl
   rw [hkd]
   cases kdB f[k]<;>cases fldB f[k]<;>cases bndB f[k]<;>cases f[k].Kind == 6<;>cases decide (0<=bi k)<;>rfl) (by simp only [lS,bJ];rfl)
  have hiv:gK f=some b:=by
   unfold gK
   rw [eZ,aA,if_neg (by simp;omega),hI,aA]
   unfold lT wO
   rw [if_neg (by simp),show (0:Int)=((0:Nat):Int) from rfl,hbl,aA]
   cases b<;>rfl
  refine ⟨b,hiv,?_,?_⟩
  ·unfold aEC
   rw [hS,aA]
   by_cases ha:f.all aKH=true
   ·have hkd:∀ n∈f,kdB n=true:=fun n hn=>by
     have:=List.all_eq_true.1 ha n hn
     unfold aKH at this
     rw [Bool.and_eq_true] at this
     exact this.1
    have hbs:∀ k,k < f.length->uP f (k:Int)=some (bi k):=fun k hk=>by
     obtain ⟨r,h1,h2⟩:=aQG he hw hf hk
     simp only [bi,h1,h2 hkd];rfl
    rw [ha,if_neg (by simp)]
    obtain ⟨c,hc,hcl⟩:=pE (step:=fun s=>aBV f s) f.length 0 pS (.inr false) (.inl ()) (Nat.zero_le _) (fun k _ hk=>by
     simp only [aBV,aEB,aBU,aEA,bU hk,if_true,bX hk,aA,aLc,oQ,hbs k hk,hdn,bN hk (show f.length < 4611686018427387904 by omega),pS,List.getElem?_eq_getElem hk]
     unfold bndB fixB
     have hne:(f[k].Variable != 0)=!(f[k].Variable == 0):=rfl
     rw [hne]
     cases h6:f[k].Kind == 6<;>cases h7:f[k].Kind == 7<;>cases h8:f[k].Kind == 8<;>cases (decide (0<=f[k].Variable)&&decide (f[k].Variable<=2))<;>cases f[k].Variable == 0<;>cases decide (0<=bi k)<;>rfl) (by simp only [aBV,bJ];rfl)
    rw [show (0:Int)=((0:Nat):Int) from rfl,hcl,aA]
    have e:c=b:=by
     have:c=true<->b=true:=by
      rw [hb,hc]
      refine forall_congr' fun k=>forall_congr' fun _=>forall_congr' fun hk=>?_
      have:=List.all_eq_true.1 ha _ (List.getElem_mem hk)
      simp only [pI,pS,List.getElem?_eq_getElem hk,this,Bool.true_and]
     cases c<;>cases b<;>simp at this ⊢
    rw [e]
    unfold aHX
    cases b<;>rfl
   ·have ha':f.all aKH=false:=by simpa using ha
    rw [ha',if_pos (by simp)]
    have:b=false:=by
     cases b with
     |false=>rfl
     |true=>
      exfalso
      apply ha
      rw [List.all_eq_true]
      intro x hx
      obtain ⟨k,hk,rfl⟩:=List.getElem_of_mem hx
      have:=hb.1 rfl k (Nat.zero_le _) hk
      simp only [pI,List.getElem?_eq_getElem hk,Bool.and_eq_true] at this
      exact this.1
    rw [this]
  ·intro hbt
   have hall:∀ x∈f,aKH x=true/\bndB x=true:=fun x hx=>by
    obtain ⟨k,hk,rfl⟩:=List.getElem_of_mem hx
    have:=hb.1 hbt k (Nat.zero_le _) hk
    simp only [pI,List.getElem?_eq_getElem hk,Bool.and_eq_true] at this
    exact ⟨this.1,this.2.1⟩
   exact ⟨hf,⟨T,he,hw⟩,fun n hn=>(hall n hn).1,fun n hn=>(hall n hn).2⟩
end Gv
namespace Gv
open Go
def tsT (label:aN) (nt:Bool):aN:=(if nt then [33] else [])++(if label=[] then [95] else if label.getLast? == some (42:UInt8) then label.dropLast++[40,42,41] else label)
theorem aPz (label:aN) (nt:Bool):(tsT label nt).length<=label.length+4:=by
 unfold tsT
 rw [List.length_append]
 have h1:(if nt then [33] else []:aN).length<=1:=by cases nt<;>simp
 have h2:(if label=[] then [95] else if label.getLast? == some (42:UInt8) then label.dropLast++[40,42,41] else label:aN).length<=label.length+3:=by
  by_cases h0:label=[]
  ·rw [if_pos h0];simp
  ·rw [if_neg h0]
   cases label.getLast? == some (42:UInt8) with
   |true=>rw [if_pos rfl,List.length_append,List.length_dropLast];simp only [List.length_cons,List.length_nil];omega
   |false=>rw [if_neg (by simp)];omega
 omega
theorem test_I {label:aN} (nt:Bool) (h:label.length < 100000000):yH label nt=some (tsT label nt):=by
 unfold yH tsT
 have fin:∀ l:aN,l.length < 200000000->pC nt l=some ((if nt then [33] else [])++l):=fun l hl=>by
  unfold pC
  cases nt with
  |true=>rw [if_pos rfl,dZ (n:=100000000000) (by simp only [List.length_cons,List.length_nil];omega) (by omega),aA];rfl
  |false=>rfl
 rw [aJQ _ _ (by omega),aA]
 by_cases h0:label=[]
 ·subst h0
  rw [if_pos (show (([]:aN) == [])=true from rfl),if_pos rfl,fin _ (by simp)]
 ·rw [if_neg (by simpa using h0),if_neg h0]
  cases hb:label.getLast? == some (42:UInt8) with
  |true=>
   simp only [if_true]
   rw [dZ (n:=100000000000) (by rw [List.length_dropLast];simp only [List.length_cons,List.length_nil];omega) (by omega),aA,fin _ (by rw [List.length_append,List.length_dropLast];simp only [List.length_cons,List.length_nil];omega)]
  |false=>
   simp only [Bool.false_eq_true,if_false]
   exact fin _ (by omega)
theorem test_S {label:aN} (nt:Bool) (h:label.length < 100000000):aBq label nt=some (tsT label nt):=by
 unfold aBq tsT
 have fin:∀ l:aN,l.length < 200000000->rK nt l=some ((if nt then [33] else [])++l):=fun l hl=>by
  unfold rK
  cases nt with
  |true=>rw [if_pos rfl,dZ (n:=100000000000) (by simp only [List.length_cons,List.length_nil];omega) (by omega),aA];rfl
  |false=>rfl
 by_cases h0:label=[]
 ·subst h0
  rw [if_pos (show ((([]:aN).length:Int) == 0)=true from rfl),if_pos rfl,fin _ (by simp)]
 ·rw [if_neg (by simpa using h0),if_neg h0]
  obtain ⟨q,c,hq⟩:=(List.eq_nil_or_concat label).resolve_left h0
  rw [List.concat_eq_append] at hq
  subst hq
  have hl:(q++[c]).length=q.length+1:=by simp
  rw [hl] at h
  rw [hl,dM (by omega) (by omega),show ((q.length+1:Nat):Int) - 1=(q.length:Int) by omega,bX (by rw [hl];omega),aA]
  simp only [List.getElem_concat_length,List.getLast?_append,List.getLast?_singleton,List.dropLast_concat,Option.some_or]
  by_cases hc:c=42
  ·subst hc
   rw [if_pos (by decide),aOy (by rw [hl];omega),aA,List.take_left,dZ (n:=100000000000) (by simp only [List.length_cons,List.length_nil];omega) (by omega),aA,fin _ (by rw [List.length_append];simp only [List.length_cons,List.length_nil];omega)]
   rfl
  ·have hn:¬ (((c.toNat:Int) == 42)=true):=fun h9=>hc (UInt8.toNat_inj.1 (by
    have h7:(c.toNat:Int)=42:=by simpa using h9
    have h8:(42:UInt8).toNat=42:=rfl
    omega))
   have:((some c:Option UInt8) == some 42)=false:=by simpa using hc
   simp only [this,Bool.false_eq_true,if_false]
   rw [if_neg hn,fin _ (by rw [hl];omega)]
def kN:GTr bH->Int
 |.nul n=>n.Kind
 |.one n _=>n.Kind
 |.two n _ _=>n.Kind
theorem rtK_nul (n:bH):kN (.nul n)=n.Kind:=rfl
theorem rtK_one (n:bH) (a:GTr bH):kN (.one n a)=n.Kind:=rfl
theorem rtK_two (n:bH) (a b:GTr bH):kN (.two n a b)=n.Kind:=rfl
def nd2 (k:Int):Bool:=k == 2||k == 3
def heF (n:bH):aN:=
 if n.Kind == 4 then [60]++tsT n.B n.Not++[62] else if n.Kind == 5 then [91]++tsT n.B n.Not++[93] else if n.Kind == 7 then [109,117,32,88]++Lib.itoa n.Variable++[46] else [110,117,32,88]++Lib.itoa n.Variable++[46]
def enF (n:bH):aN:=if n.Kind == 0 then [116,114,117,101] else if n.Kind == 1 then [102,97,108,115,101] else [88]++Lib.itoa n.Variable
def jH:GTr bH->aN
 |.nul n=>enF n
 |.one n a=>heF n++wrp (nd2 (kN a)) (jH a)
 |.two n a b=>if n.Kind == 2 then wrp (nd2 (kN a)) (jH a)++[32,38,32]++wrp (kN b == 3) (jH b) else wrp (kN a == 3) (jH a)++[32,124,32]++jH b
def trN:GTr bH->Tr bH
 |.nul t=>.mk t []
 |.one t a=>.mk t [trN a]
 |.two t a b=>.mk t [trN a,trN b]
theorem trN_val (t:GTr bH):(trN t).val.Kind=kN t:=by cases t<;>rfl
theorem aBu {n:bH} (h:aKH n=true):0<=n.Kind/\n.Kind<=8/\(arF n=0->n.Kind=0\/n.Kind=1\/n.Kind=6)/\(arF n=1->n.Kind=4\/n.Kind=5\/n.Kind=7\/n.Kind=8)/\(arF n=2->n.Kind=2\/n.Kind=3):=by
 unfold aKH kdB at h
 simp only [Bool.and_eq_true,decide_eq_true_eq] at h
 unfold arF
 have:n.Kind=0\/n.Kind=1\/n.Kind=2\/n.Kind=3\/n.Kind=4\/n.Kind=5\/n.Kind=6\/n.Kind=7\/n.Kind=8:=by omega
 rcases this with k|k|k|k|k|k|k|k|k<;>simp [k]
theorem aGV {n:bH} (h:bndB n=true):0<=n.Variable/\n.Variable<=2:=by
 unfold bndB at h
 split at h
 ·simp only [Bool.and_eq_true,decide_eq_true_eq] at h;exact h
 ·have:n.Variable=0:=by simpa using h
  omega
structure NdP (n:bH):Prop where
 loc:aKH n=true
 bnd:bndB n=true
 len:n.B.length < 100000000
theorem he_len {n:bH} (h:NdP n):(heF n).length<=100000100:=by
 have h1:=aPz n.B n.Not
 have h2:=aGV h.bnd
 have h3:=kV h2.1 (by omega)
 have h4:=h.len
 unfold heF
 split
 ·simp only [List.length_cons,List.length_append,List.length_nil];omega
 split
 ·simp only [List.length_cons,List.length_append,List.length_nil];omega
 split
 ·simp only [List.length_cons,List.length_append,List.length_nil];omega
 ·simp only [List.length_cons,List.length_append,List.length_nil];omega
theorem en_len {n:bH} (h:NdP n):(enF n).length<=100:=by
 have h2:=aGV h.bnd
 have h3:=kV h2.1 (by omega)
 unfold enF
 split
 ·simp
 split
 ·simp
 ·simp only [List.length_cons,List.length_append,List.length_nil];omega
theorem zW:∀ (t:GTr bH),(∀ n∈t.flat,NdP n)->(jH t).length<=200000000 * t.flat.length
 |.nul n,ho=>by
  have:=en_len (ho n (by simp [GTr.flat]))
  simp only [jH,GTr.flat,List.length_singleton];omega
 |.one n a,ho=>by
  have h1:=he_len (ho n (by simp [GTr.flat]))
  have h2:=zW a (fun x hx=>ho x (by simp [GTr.flat,hx]))
  have h3:=gC (nd2 (kN a)) (jH a)
  simp only [jH,GTr.flat,List.length_cons,List.length_append];omega
 |.two n a b,ho=>by
  have h1:=zW a (fun x hx=>ho x (by simp [GTr.flat,hx]))
  have h2:=zW b (fun x hx=>ho x (by simp [GTr.flat,hx]))
  have h3:=gC (nd2 (kN a)) (jH a)
  have h4:=gC (kN b == 3) (jH b)
  have h5:=gC (kN a == 3) (jH a)
  simp only [jH,GTr.flat]
  split<;>(simp only [List.length_cons,List.length_append,List.length_nil];omega)
theorem fromD:∀ (t:GTr bH) (m:Nat) (post:List bH),t.flat.length<=m->(t.flat++post).length < 1000000000->t.WF arF->gQ m (t.flat++post)=some (trN t,post):=by
 intro t
 induction t with
 |nul t=>
  intro m post hm hl hw
  match m with
  |0=>simp [GTr.flat] at hm
  |m+1=>
   have hw:arF t=0:=hw
   have hs:slc (t::post) 1 ((t::post).length:Int)=some post:=by
    unfold slc
    rw [if_pos ⟨by omega,by simp;omega,by simp⟩]
    simp
   show gP (gQ m) ([t]++post)=_
   unfold gP
   rw [List.singleton_append,show ix (t::post) 0=some t from rfl,aA,hs,aA,aEj,aA,hw,bF]
   rfl
 |one t a iha=>
  intro m post hm hl hw
  match m with
  |0=>simp [GTr.flat] at hm
  |m+1=>
   have h1:arF t=1:=hw.1
   have hs:slc (t::(a.flat++post)) 1 ((t::(a.flat++post)).length:Int)=some (a.flat++post):=by
    unfold slc
    rw [if_pos ⟨by omega,by simp;omega,by simp⟩,show ((1:Int)).toNat=1 from rfl,List.drop_succ_cons,List.drop_zero,List.take_of_length_le (by simp;omega)]
   have hl2:(a.flat++post).length < 1000000000:=by simp [GTr.flat] at hl ⊢;omega
   have ra:=iha m post (by simp [GTr.flat] at hm;omega) hl2 hw.2
   show gP (gQ m) (t::a.flat++post)=_
   unfold gP
   rw [List.cons_append,show ix (t::(a.flat++post)) 0=some t from rfl,aA,hs,aA,aEj,aA,h1,bF]
   simp only [mW,ra,aA,fC (xs:=([]:List (Tr bH))) (ys:=[trN a]) (by unfold jB;simp),show decide ((0:Int) < ((1:Nat):Int))=true from rfl,if_true,show wr (0+1)=1 from rfl]
   rw [bF]
   rfl
 |two t a b iha ihb=>
  intro m post hm hl hw
  match m with
  |0=>simp [GTr.flat] at hm
  |m+1=>
   have h1:arF t=2:=hw.1
   have hs:slc (t::(a.flat++(b.flat++post))) 1 ((t::(a.flat++(b.flat++post))).length:Int)=some (a.flat++(b.flat++post)):=by
    unfold slc
    rw [if_pos ⟨by omega,by simp;omega,by simp⟩,show ((1:Int)).toNat=1 from rfl,List.drop_succ_cons,List.drop_zero,List.take_of_length_le (by simp;omega)]
   have hl2:(a.flat++(b.flat++post)).length < 1000000000:=by simp [GTr.flat] at hl ⊢;omega
   have ra:=iha m (b.flat++post) (by simp [GTr.flat] at hm;omega) hl2 hw.2.1
   have rb:=ihb m post (by simp [GTr.flat] at hm;omega) (by simp at hl2 ⊢;omega) hw.2.2
   show gP (gQ m) (t::(a.flat++b.flat)++post)=_
   unfold gP
   rw [List.cons_append,List.append_assoc,show ix (t::(a.flat++(b.flat++post))) 0=some t from rfl,aA,hs,aA,aEj,aA,h1,bF]
   simp only [mW,ra,aA,fC (xs:=([]:List (Tr bH))) (ys:=[trN a]) (by unfold jB;simp),show decide ((0:Int) < ((2:Nat):Int))=true from rfl,if_true,show wr (0+1)=1 from rfl,List.nil_append]
   rw [bF]
   simp only [mW,rb,aA,fC (xs:=[trN a]) (ys:=[trN b]) (by unfold jB;simp),show decide ((1:Int) < ((2:Nat):Int))=true from rfl,if_true,show wr (1+1)=2 from rfl]
   rw [bF]
   rfl
theorem cont_0 (v:Int):cB [] v=some false:=by
 unfold cB eN
 rw [fN (r:=.inl ()) rfl];rfl
theorem cont_1 (v:Int):cB [3] v=some (v == 3):=by
 unfold cB eN
 cases h:v == 3 with
 |true=>rw [fN (r:=.inr 0) (by simp only [dC,show ix ([3]:List Int) 0=some 3 from rfl,aA,h];rfl)];rfl
 |false=>rw [pH (s':=1) (by simp only [dC,show ix ([3]:List Int) 0=some 3 from rfl,aA,h];rfl),fN (r:=.inl ()) rfl];rfl
theorem cont_2 (v:Int):cB [2,3] v=some (nd2 v):=by
 unfold cB eN nd2
 cases h:v == 2 with
 |true=>rw [fN (r:=.inr 0) (by simp only [dC,show ix ([2,3]:List Int) 0=some 2 from rfl,aA,h];rfl)];rfl
 |false=>
  rw [pH (s':=1) (by simp only [dC,show ix ([2,3]:List Int) 0=some 2 from rfl,aA,h];rfl)]
  cases h3:v == 3 with
  |true=>rw [fN (r:=.inr 1) (by simp only [dC,show ix ([2,3]:List Int) 1=some 3 from rfl,aA,h3];rfl)];rfl
  |false=>rw [pH (s':=2) (by simp only [dC,show ix ([2,3]:List Int) 1=some 3 from rfl,aA,h3];rfl),fN (r:=.inl ()) rfl];rfl
theorem formT_I:∀ (t:GTr bH) (m:Nat),t.flat.length<=m->t.flat.length<=30->t.WF arF->(∀ n∈t.flat,NdP n)->dX m (trN t)=some (jH t):=by
 have hc1:∀ (rec_:Tr bH->Option aN) (a:GTr bH) (ks:List Int) (b:Bool),(jH a).length<=10000000000->rec_ (trN a)=some (jH a)->cB ks (kN a)=some b->eH rec_ (trN a) ks=some (wrp b (jH a)):=by
  intro rec_ a ks b hl hr hc
  unfold eH
  rw [trN_val,hc,aA,hr]
  cases b with
  |true=>rw [if_pos rfl,aA];exact aNk (by omega)
  |false=>rw [if_neg (by simp)];rfl
 intro t
 induction t with
 |nul n=>
  intro m hm hl hw ho
  match m with
  |0=>simp [GTr.flat] at hm
  |m+1=>
   have hn:=ho n (by simp [GTr.flat])
   have hv:=aGV hn.bnd
   have hil:=kV hv.1 (by omega)
   show gA (dX m) (.mk n [])=_
   unfold gA
   simp only [Tr.val,jH,enF]
   rcases (aBu hn.loc).2.2.1 hw with h|h|h
   ·simp [h]
   ·simp [h]
   ·simp only [h,show ((6:Int) == 0)=false from rfl,show ((6:Int) == 1)=false from rfl,show ((6:Int) == 2)=false from rfl,show ((6:Int) == 3)=false from rfl,show ((6:Int) == 4)=false from rfl,show ((6:Int) == 5)=false from rfl,show ((6:Int) == 7)=false from rfl,show ((6:Int) == 8)=false from rfl,Bool.false_eq_true,if_false]
    rw [(xD hv.1 (by omega)).1,aA,dZ (n:=100000000000) (by simp only [List.length_cons,List.length_nil];omega) (by omega),aA]
 |one n a iha=>
  intro m hm hl hw ho
  match m with
  |0=>simp [GTr.flat] at hm
  |m+1=>
   have hn:=ho n (by simp [GTr.flat])
   have hv:=aGV hn.bnd
   have hil:=kV hv.1 (by omega)
   have hoa:∀ q∈a.flat,NdP q:=fun q hq=>ho q (by simp [GTr.flat,hq])
   have hla:a.flat.length<=29:=by simp [GTr.flat] at hl;omega
   have ra:=iha m (by simp [GTr.flat] at hm;omega) (by omega) hw.2 hoa
   have hxl:=zW a hoa
   have hwl:=gC (nd2 (kN a)) (jH a)
   have htl:=aPz n.B n.Not
   have hnl:=hn.len
   have hhl:=he_len hn
   have hc:=hc1 (dX m) a [2,3] (nd2 (kN a)) (by omega) ra (cont_2 _)
   have ht:=test_I n.Not hn.len
   have hd:=(xD hv.1 (show n.Variable < 4611686018427387904 by omega)).1
   show gA (dX m) (.mk n [trN a])=_
   unfold gA
   simp only [Tr.val,Tr.kids,show ix [trN a] 0=some (trN a) from rfl,aA,hc,ht,hd,jH]
   have fin:∀ X:aN,X.length<=200000000->fA X (wrp (nd2 (kN a)) (jH a))=some (X++wrp (nd2 (kN a)) (jH a)):=fun X hX=>dZ (n:=100000000000) (by omega) (by omega)
   unfold heF at hhl ⊢
   rcases (aBu hn.loc).2.2.2.1 hw.1 with h|h|h|h
   ·simp only [h,show ((4:Int) == 0)=false from rfl,show ((4:Int) == 1)=false from rfl,show ((4:Int) == 2)=false from rfl,show ((4:Int) == 3)=false from rfl,show ((4:Int) == 4)=true from rfl,Bool.false_eq_true,if_false,if_true] at hhl ⊢
    rw [dZ (n:=100000000000) (by simp only [List.length_cons,List.length_nil];omega) (by omega),aA,dZ (n:=100000000000) (by simp only [List.length_cons,List.length_append,List.length_nil];omega) (by omega),aA,fin _ (by omega),aA]
    rfl
   ·simp only [h,show ((5:Int) == 0)=false from rfl,show ((5:Int) == 1)=false from rfl,show ((5:Int) == 2)=false from rfl,show ((5:Int) == 3)=false from rfl,show ((5:Int) == 4)=false from rfl,show ((5:Int) == 5)=true from rfl,Bool.false_eq_true,if_false,if_true] at hhl ⊢
    rw [dZ (n:=100000000000) (by simp only [List.length_cons,List.length_nil];omega) (by omega),aA,dZ (n:=100000000000) (by simp only [List.length_cons,List.length_append,List.length_nil];omega) (by omega),aA,fin _ (by omega),aA]
    rfl
   ·simp only [h,show ((7:Int) == 0)=false from rfl,show ((7:Int) == 1)=false from rfl,show ((7:Int) == 2)=false from rfl,show ((7:Int) == 3)=false from rfl,show ((7:Int) == 4)=false from rfl,show ((7:Int) == 5)=false from rfl,show ((7:Int) == 7)=true from rfl,Bool.false_eq_true,if_false,if_true] at hhl ⊢
    rw [dZ (n:=100000000000) (by simp only [List.length_cons,List.length_nil];omega) (by omega),aA,dZ (n:=100000000000) (by simp only [List.length_cons,List.length_append,List.length_nil];omega) (by omega),aA,fin _ (by omega),aA]
    rfl
   ·simp only [h,show ((8:Int) == 0)=false from rfl,show ((8:Int) == 1)=false from rfl,show ((8:Int) == 2)=false from rfl,show ((8:Int) == 3)=false from rfl,show ((8:Int) == 4)=false from rfl,show ((8:Int) == 5)=false from rfl,show ((8:Int) == 7)=false from rfl,show ((8:Int) == 8)=true from rfl,Bool.false_eq_true,if_false,if_true] at hhl ⊢
    rw [dZ (n:=100000000000) (by simp only [List.length_cons,List.length_nil];omega) (by omega),aA,dZ (n:=100000000000) (by simp only [List.length_cons,List.length_append,List.length_nil];omega) (by omega),aA,fin _ (by omega),aA]
    rfl
 |two n a b iha ihb=>
  intro m hm hl hw ho
  match m with
  |0=>simp [GTr.flat] at hm
  |m+1=>
   have hn:=ho n (by simp [GTr.flat])
   have hoa:∀ q∈a.flat,NdP q:=fun q hq=>ho q (by simp [GTr.flat,hq])
   have hob:∀ q∈b.flat,NdP q:=fun q hq=>ho q (by simp [GTr.flat,hq])
   have hla:a.flat.length+b.flat.length<=29:=by simp [GTr.flat] at hl;omega
   have ra:=iha m (by simp [GTr.flat] at hm;omega) (by omega) hw.2.1 hoa
   have rb:=ihb m (by simp [GTr.flat] at hm;omega) (by omega) hw.2.2 hob
   have hxa:=zW a hoa
   have hxb:=zW b hob
   have w1:=gC (nd2 (kN a)) (jH a)
   have w2:=gC (kN a == 3) (jH a)
   have w3:=gC (kN b == 3) (jH b)
   have ca2:=hc1 (dX m) a [2,3] (nd2 (kN a)) (by omega) ra (cont_2 _)
   have ca1:=hc1 (dX m) a [3] (kN a == 3) (by omega) ra (cont_1 _)
   have cb1:=hc1 (dX m) b [3] (kN b == 3) (by omega) rb (cont_1 _)
   have cb0:=hc1 (dX m) b [] false (by omega) rb (cont_0 _)
   show gA (dX m) (.mk n [trN a,trN b])=_
   unfold gA
   simp only [Tr.val,Tr.kids,show ix [trN a,trN b] 0=some (trN a) from rfl,show ix [trN a,trN b] 1=some (trN b) from rfl,aA,ca2,ca1,cb1,cb0,jH]
   rcases (aBu hn.loc).2.2.2.2 hw.1 with h|h
   ·simp only [h,show ((2:Int) == 0)=false from rfl,show ((2:Int) == 1)=false from rfl,show ((2:Int) == 2)=true from rfl,Bool.false_eq_true,if_false,if_true]
    rw [dZ (n:=100000000000) (by simp only [List.length_cons,List.length_nil];omega) (by omega),aA,dZ (n:=100000000000) (by simp only [List.length_cons,List.length_append,List.length_nil];omega) (by omega),aA]
    rfl
   ·simp only [h,show ((3:Int) == 0)=false from rfl,show ((3:Int) == 1)=false from rfl,show ((3:Int) == 2)=false from rfl,show ((3:Int) == 3)=true from rfl,Bool.false_eq_true,if_false,if_true]
    rw [dZ (n:=100000000000) (by simp only [List.length_cons,List.length_nil];omega) (by omega),aA,show wrp false (jH b)=jH b from rfl,dZ (n:=100000000000) (by simp only [List.length_cons,List.length_append,List.length_nil];omega) (by omega),aA]
theorem aPB {α:Type} (S:List α) (y:List α):slc (S++y) 0 (S.length:Int)=some S:=by
 rw [aOy (by simp)];simp
section
variable {t:GTr bH} (hl:t.flat.length<=30) (ho:∀ n∈t.flat,NdP n)
include hl ho
theorem formS0 (pre:List bH) (x:bH) (post:List bH) (S:List (aN × Int)) (he:t.flat=pre++x::post) (hS:S.length<=post.length) (hw:(GTr.nul x).WF arF):eU t.flat ((S).map (·.1)) ((S).map (·.2)) (pre.length:Int)=some (.inl ((S++[(jH (.nul x),kN (.nul x))]).map (·.1),(S++[(jH (.nul x),kN (.nul x))]).map (·.2),(pre.length:Int) - 1)):=by
 have hsl:=@aPB
 have hn:=ho x (by rw [he];simp)
 have hv:=aGV hn.bnd
 have hil:=kV hv.1 (by omega)
 have hf:arF x=0:=hw
 have hk:=aBu hn.loc
 have hlen:t.flat.length=pre.length+(post.length+1):=by rw [he];simp
 have hi:ix t.flat (pre.length:Int)=some x:=by rw [dN,he];simp
 have w:wr ((pre.length:Int) - 1)=(pre.length:Int) - 1:=dM (by omega) (by omega)
 have t1:wr ((((S.map (·.1)).length:Nat):Int) - 0)=((S.map (·.1)).length:Int):=by rw [List.length_map,dM (by omega) (by omega)];omega
 have t2:wr ((((S.map (·.2)).length:Nat):Int) - 0)=((S.map (·.2)).length:Int):=by rw [List.length_map,dM (by omega) (by omega)];omega
 have s1:slc (S.map (·.1)) 0 ((S.map (·.1)).length:Int)=some (S.map (·.1)):=by have:=hsl (S.map (·.1)) [];rw [List.append_nil] at this;exact this
 have s2:slc (S.map (·.2)) 0 ((S.map (·.2)).length:Int)=some (S.map (·.2)):=by have:=hsl (S.map (·.2)) [];rw [List.append_nil] at this;exact this
 have a1:∀ y,oR (S.map (·.1)) ([y]:List aN)=some (S.map (·.1)++[y]):=fun y=>fC (by unfold jB;simp;omega)
 have a2:∀ y,oR (S.map (·.2)) ([y]:List Int)=some (S.map (·.2)++[y]):=fun y=>fC (by unfold jB;simp;omega)
 have hj2:∀ y:aN,cY (S.map (·.1)) (S.map (·.2)) (pre.length:Int) x 0 y=some (.inl (S.map (·.1)++[y],S.map (·.2)++[x.Kind],(pre.length:Int) - 1)):=fun y=>by
  unfold cY
  rw [t1,s1,aA,a1,aA,t2,s2,aA,a2,aA,w]
 simp only [eU]
 rw [if_pos (by simp),hi,aA,aNo hk.1 hk.2.1,aA,hf,show (((0:Nat):Int))=0 from rfl,if_neg (by decide)]
 unfold gN
 simp only [hj2,jH,enF,rtK_nul]
 rcases hk.2.2.1 hw with h|h|h
 ·simp [h]
 ·simp [h]
 ·simp only [h,show ((6:Int) == 0)=false from rfl,show ((6:Int) == 1)=false from rfl,show ((6:Int) == 6)=true from rfl,Bool.false_eq_true,if_false,if_true]
  rw [(xD hv.1 (by omega)).2,aA,dZ (n:=100000000000) (by simp only [List.length_cons,List.length_nil];omega) (by omega),aA]
  simp
theorem formS1 (pre:List bH) (x:bH) (a:GTr bH) (post:List bH) (S:List (aN × Int)) (he:t.flat=pre++x::(a.flat++post)) (hS:S.length<=post.length) (hw:(GTr.one x a).WF arF):eU t.flat ((S++[(jH a,kN a)]).map (·.1)) ((S++[(jH a,kN a)]).map (·.2)) (pre.length:Int)=some (.inl ((S++[(jH (.one x a),kN (.one x a))]).map (·.1),(S++[(jH (.one x a),kN (.one x a))]).map (·.2),(pre.length:Int) - 1)):=by
 have hsl:=@aPB
 have hn:=ho x (by rw [he];simp)
 have hv:=aGV hn.bnd
 have hil:=kV hv.1 (by omega)
 have hf:arF x=1:=hw.1
 have hk:=aBu hn.loc
 have hoa:∀ q∈a.flat,NdP q:=fun q hq=>ho q (by rw [he];simp [hq])
 have hlen:t.flat.length=pre.length+(a.flat.length+post.length+1):=by rw [he];simp
 have hxl:=zW a hoa
 have hwl:=gC (nd2 (kN a)) (jH a)
 have htl:=aPz x.B x.Not
 have hnl:=hn.len
 have hhl:=he_len hn
 have hi:ix t.flat (pre.length:Int)=some x:=by rw [dN,he];simp
 have w:wr ((pre.length:Int) - 1)=(pre.length:Int) - 1:=dM (by omega) (by omega)
 have t1:wr (((((S++[(jH a,kN a)]).map (·.1)).length:Nat):Int) - 1)=(S.length:Int):=by
  rw [List.length_map,List.length_append,List.length_singleton,dM (by omega) (by omega)];omega
 have t2:wr (((((S++[(jH a,kN a)]).map (·.2)).length:Nat):Int) - 1)=(S.length:Int):=by
  rw [List.length_map,List.length_append,List.length_singleton,dM (by omega) (by omega)];omega
 have g1:ix ((S++[(jH a,kN a)]).map (·.1)) (S.length:Int)=some (jH a):=by rw [dN,List.map_append];simp
 have g2:ix ((S++[(jH a,kN a)]).map (·.2)) (S.length:Int)=some (kN a):=by rw [dN,List.map_append];simp
 have s1:slc ((S++[(jH a,kN a)]).map (·.1)) 0 (S.length:Int)=some (S.map (·.1)):=by rw [List.map_append,show (S.length:Int)=((S.map (·.1)).length:Int) by simp,hsl]
 have s2:slc ((S++[(jH a,kN a)]).map (·.2)) 0 (S.length:Int)=some (S.map (·.2)):=by rw [List.map_append,show (S.length:Int)=((S.map (·.2)).length:Int) by simp,hsl]
 have a1:∀ y,oR (S.map (·.1)) ([y]:List aN)=some (S.map (·.1)++[y]):=fun y=>fC (by unfold jB;simp;omega)
 have a2:∀ y,oR (S.map (·.2)) ([y]:List Int)=some (S.map (·.2)++[y]):=fun y=>fC (by unfold jB;simp;omega)
 have hj2:∀ y:aN,cY ((S++[(jH a,kN a)]).map (·.1)) ((S++[(jH a,kN a)]).map (·.2)) (pre.length:Int) x 1 y=some (.inl (S.map (·.1)++[y],S.map (·.2)++[x.Kind],(pre.length:Int) - 1)):=fun y=>by
  unfold cY
  rw [t1,s1,aA,a1,aA,t2,s2,aA,a2,aA,w]
 simp only [eU]
 rw [if_pos (by simp),hi,aA,aNo hk.1 hk.2.1,aA,hf,if_pos (by rfl),t1,g1,aA,g2,aA]
 have hj5:∀ y:aN,jT ((S++[(jH a,kN a)]).map (·.1)) ((S++[(jH a,kN a)]).map (·.2)) (pre.length:Int) x 1 y=gN ((S++[(jH a,kN a)]).map (·.1)) ((S++[(jH a,kN a)]).map (·.2)) (pre.length:Int) x 1 y:=fun y=>rfl
 have hwr:(if (kN a == 2)=true then ob (iG (jH a) true) fun r265=>jT ((S++[(jH a,kN a)]).map (·.1)) ((S++[(jH a,kN a)]).map (·.2)) (pre.length:Int) x 1 r265 else ob (iG (jH a) (kN a == 3)) fun r271=>jT ((S++[(jH a,kN a)]).map (·.1)) ((S++[(jH a,kN a)]).map (·.2)) (pre.length:Int) x 1 r271)=gN ((S++[(jH a,kN a)]).map (·.1)) ((S++[(jH a,kN a)]).map (·.2)) (pre.length:Int) x 1 (wrp (nd2 (kN a)) (jH a)):=by
  unfold nd2
  cases h2:kN a == 2 with
  |true=>rw [if_pos rfl,aFc true (by omega),aA,hj5];rfl
  |false=>rw [if_neg (by simp),aFc (kN a == 3) (by omega),aA,hj5];rfl
 refine Eq.trans hwr ?_
 have ht:=test_S x.Not hn.len
 have hd:=(xD hv.1 (show x.Variable < 4611686018427387904 by omega)).2
 have fin:∀ X:aN,X.length<=200000000->fA X (wrp (nd2 (kN a)) (jH a))=some (X++wrp (nd2 (kN a)) (jH a)):=fun X hX=>dZ (n:=100000000000) (by omega) (by omega)
 unfold gN
 simp only [hj2,ht,hd,aA,jH,rtK_one]
 unfold heF at hhl ⊢
 rcases hk.2.2.2.1 hw.1 with h|h|h|h
 ·simp only [h,show ((4:Int) == 0)=false from rfl,show ((4:Int) == 1)=false from rfl,show ((4:Int) == 6)=false from rfl,show ((4:Int) == 4)=true from rfl,Bool.false_eq_true,if_false,if_true] at hhl ⊢
  rw [dZ (n:=100000000000) (by simp only [List.length_cons,List.length_nil];omega) (by omega),aA,dZ (n:=100000000000) (by simp only [List.length_cons,List.length_append,List.length_nil];omega) (by omega),aA,fin _ (by omega),aA]
  simp
 ·simp only [h,show ((5:Int) == 0)=false from rfl,show ((5:Int) == 1)=false from rfl,show ((5:Int) == 6)=false from rfl,show ((5:Int) == 4)=false from rfl,show ((5:Int) == 5)=true from rfl,Bool.false_eq_true,if_false,if_true] at hhl ⊢
  rw [dZ (n:=100000000000) (by simp only [List.length_cons,List.length_nil];omega) (by omega),aA,dZ (n:=100000000000) (by simp only [List.length_cons,List.length_append,List.length_nil];omega) (by omega),aA,fin _ (by omega),aA]
  simp
 ·simp only [h,show ((7:Int) == 0)=false from rfl,show ((7:Int) == 1)=false from rfl,show ((7:Int) == 6)=false from rfl,show ((7:Int) == 4)=false from rfl,show ((7:Int) == 5)=false from rfl,show ((7:Int) == 7)=true from rfl,Bool.false_eq_true,if_false,if_true] at hhl ⊢
  rw [dZ (n:=100000000000) (by simp only [List.length_cons,List.length_nil];omega) (by omega),aA,dZ (n:=100000000000) (by simp only [List.length_cons,List.length_append,List.length_nil];omega) (by omega),aA,fin _ (by omega),aA]
  simp
 ·simp only [h,show ((8:Int) == 0)=false from rfl,show ((8:Int) == 1)=false from rfl,show ((8:Int) == 6)=false from rfl,show ((8:Int) == 4)=false from rfl,show ((8:Int) == 5)=false from rfl,show ((8:Int) == 7)=false from rfl,show ((8:Int) == 8)=true from rfl,Bool.false_eq_true,if_false,if_true] at hhl ⊢
  rw [dZ (n:=100000000000) (by simp only [List.length_cons,List.length_nil];omega) (by omega),aA,dZ (n:=100000000000) (by simp only [List.length_cons,List.length_append,List.length_nil];omega) (by omega),aA,fin _ (by omega),aA]
  simp
theorem formS2 (pre:List bH) (x:bH) (a b:GTr bH) (post:List bH) (S:List (aN × Int)) (he:t.flat=pre++x::(a.flat++(b.flat++post))) (hS:S.length<=post.length) (hw:(GTr.two x a b).WF arF):eU t.flat ((S++[(jH b,kN b),(jH a,kN a)]).map (·.1)) ((S++[(jH b,kN b),(jH a,kN a)]).map (·.2)) (pre.length:Int)=some (.inl ((S++[(jH (.two x a b),kN (.two x a b))]).map (·.1),(S++[(jH (.two x a b),kN (.two x a b))]).map (·.2),(pre.length:Int) - 1)):=by
 have hsl:=@aPB
 have hn:=ho x (by rw [he];simp)
 have hf:arF x=2:=hw.1
 have hk:=aBu hn.loc
 have hoa:∀ q∈a.flat,NdP q:=fun q hq=>ho q (by rw [he];simp [hq])
 have hob:∀ q∈b.flat,NdP q:=fun q hq=>ho q (by rw [he];simp [hq])
 have hlen:t.flat.length=pre.length+(a.flat.length+(b.flat.length+post.length)+1):=by rw [he];simp
 have hxa:=zW a hoa
 have hxb:=zW b hob
 have w1:=gC (nd2 (kN a)) (jH a)
 have w2:=gC (kN a == 3) (jH a)
 have w3:=gC (kN b == 3) (jH b)
 have hi:ix t.flat (pre.length:Int)=some x:=by rw [dN,he];simp
 have w:wr ((pre.length:Int) - 1)=(pre.length:Int) - 1:=dM (by omega) (by omega)
 have t1:wr (((((S++[(jH b,kN b),(jH a,kN a)]).map (·.1)).length:Nat):Int) - 1)=((S.length+1:Nat):Int):=by
  rw [List.length_map,List.length_append,dM (by simp;omega) (by simp;omega)];simp;omega
 have t2:wr (((S.length+1:Nat):Int) - 1)=(S.length:Int):=by rw [dM (by omega) (by omega)];omega
 have t3:wr (((((S++[(jH b,kN b),(jH a,kN a)]).map (·.1)).length:Nat):Int) - 2)=(S.length:Int):=by
  rw [List.length_map,List.length_append,dM (by simp only [List.length_cons,List.length_nil];omega) (by simp only [List.length_cons,List.length_nil];omega)];simp
 have t4:wr (((((S++[(jH b,kN b),(jH a,kN a)]).map (·.2)).length:Nat):Int) - 2)=(S.length:Int):=by
  rw [List.length_map,List.length_append,dM (by simp only [List.length_cons,List.length_nil];omega) (by simp only [List.length_cons,List.length_nil];omega)];simp
 have g1:ix ((S++[(jH b,kN b),(jH a,kN a)]).map (·.1)) ((S.length+1:Nat):Int)=some (jH a):=by rw [dN,List.map_append,List.getElem?_append_right (by simp)];simp
 have g2:ix ((S++[(jH b,kN b),(jH a,kN a)]).map (·.2)) ((S.length+1:Nat):Int)=some (kN a):=by rw [dN,List.map_append,List.getElem?_append_right (by simp)];simp
 have g3:ix ((S++[(jH b,kN b),(jH a,kN a)]).map (·.1)) (S.length:Int)=some (jH b):=by rw [dN,List.map_append,List.getElem?_append_right (by simp)];simp
 have g4:ix ((S++[(jH b,kN b),(jH a,kN a)]).map (·.2)) (S.length:Int)=some (kN b):=by rw [dN,List.map_append,List.getElem?_append_right (by simp)];simp
 have s1:slc ((S++[(jH b,kN b),(jH a,kN a)]).map (·.1)) 0 (S.length:Int)=some (S.map (·.1)):=by rw [List.map_append,show (S.length:Int)=((S.map (·.1)).length:Int) by simp,hsl]
 have s2:slc ((S++[(jH b,kN b),(jH a,kN a)]).map (·.2)) 0 (S.length:Int)=some (S.map (·.2)):=by rw [List.map_append,show (S.length:Int)=((S.map (·.2)).length:Int) by simp,hsl]
 have a1:∀ y,oR (S.map (·.1)) ([y]:List aN)=some (S.map (·.1)++[y]):=fun y=>fC (by unfold jB;simp;omega)
 have a2:∀ y,oR (S.map (·.2)) ([y]:List Int)=some (S.map (·.2)++[y]):=fun y=>fC (by unfold jB;simp;omega)
 have hj2:∀ y:aN,cY ((S++[(jH b,kN b),(jH a,kN a)]).map (·.1)) ((S++[(jH b,kN b),(jH a,kN a)]).map (·.2)) (pre.length:Int) x 2 y=some (.inl (S.map (·.1)++[y],S.map (·.2)++[x.Kind],(pre.length:Int) - 1)):=fun y=>by
  unfold cY
  rw [t3,s1,aA,a1,aA,t4,s2,aA,a2,aA,w]
 simp only [eU]
 rw [if_pos (by simp),hi,aA,aNo hk.1 hk.2.1,aA,hf,show (((2:Nat):Int))=2 from rfl,if_neg (by decide)]
 unfold gN tT
 simp only [hj2,t1,t2,g1,g2,g3,g4,aA,jH,rtK_two,aFc true (show (jH a).length<=100000000000 by omega),aFc (kN a == 3) (show (jH a).length<=100000000000 by omega),aFc (kN b == 3) (show (jH b).length<=100000000000 by omega)]
 rcases hk.2.2.2.2 hw.1 with h|h
 ·simp only [h,show ((2:Int) == 0)=false from rfl,show ((2:Int) == 1)=false from rfl,show ((2:Int) == 6)=false from rfl,show ((2:Int) == 4)=false from rfl,show ((2:Int) == 5)=false from rfl,show ((2:Int) == 7)=false from rfl,show ((2:Int) == 8)=false from rfl,show ((2:Int) == 2)=true from rfl,Bool.false_eq_true,if_false,if_true]
  unfold nd2 at w1 ⊢
  cases h2:kN a == 2 with
  |true=>
   rw [h2] at w1
   rw [if_pos rfl,dZ (n:=100000000000) (by simp only [List.length_cons,List.length_nil,Bool.true_or] at w1 ⊢;omega) (by omega),aA,dZ (n:=100000000000) (by simp only [List.length_cons,List.length_append,List.length_nil,Bool.true_or] at w1 ⊢;omega) (by omega),aA]
   simp
  |false=>
   rw [if_neg (by simp),dZ (n:=100000000000) (by simp only [List.length_cons,List.length_nil];omega) (by omega),aA,dZ (n:=100000000000) (by simp only [List.length_cons,List.length_append,List.length_nil];omega) (by omega),aA]
   simp
 ·simp only [h,show ((3:Int) == 0)=false from rfl,show ((3:Int) == 1)=false from rfl,show ((3:Int) == 6)=false from rfl,show ((3:Int) == 4)=false from rfl,show ((3:Int) == 5)=false from rfl,show ((3:Int) == 7)=false from rfl,show ((3:Int) == 8)=false from rfl,show ((3:Int) == 2)=false from rfl,show ((3:Int) == 3)=true from rfl,Bool.false_eq_true,if_false,if_true]
  rw [dZ (n:=100000000000) (by simp only [List.length_cons,List.length_nil];omega) (by omega),aA,dZ (n:=100000000000) (by simp only [List.length_cons,List.length_append,List.length_nil];omega) (by omega),aA]
  simp
theorem formT_S (hw:t.WF arF):nO t.flat=some (jH t):=by
 have key:=aKE (step:=fun (s:(List aN × List Int × Int))=>eU t.flat s.1 s.2.1 s.2.2) (mk:=fun (S:List (aN × Int)) i=>(S.map (·.1),S.map (·.2),i)) (val:=fun t=>(jH t,kN t)) (ar:=arF) (e:=t.flat)
  (fun pre x post S he hS hw=>by
   show eU t.flat (S.map (·.1)) (S.map (·.2)) (pre.length:Int)=_
   rw [formS0 hl ho pre x post S he hS hw]) (fun pre x a post S he hS hw=>by
   show eU t.flat ((S++[(jH a,kN a)]).map (·.1)) ((S++[(jH a,kN a)]).map (·.2)) (pre.length:Int)=_
   rw [formS1 hl ho pre x a post S he hS hw]) (fun pre x a b post S he hS hw=>by
   show eU t.flat ((S++[(jH b,kN b),(jH a,kN a)]).map (·.1)) ((S++[(jH b,kN b),(jH a,kN a)]).map (·.2)) (pre.length:Int)=_
   rw [formS2 hl ho pre x a b post S he hS hw])
  rfl hw (by omega) (r:=[jH t]) (by simp only [eU];rfl)
 unfold nO
 simp only [List.map_nil] at key
 rw [key,aA]
 rfl
end
noncomputable def frT (f:List bH):aN:=(nO f).getD []
theorem aKI {f:List bH} (h:FrmD f) (hl:∀ n∈f,n.B.length < 100000000) (hv:gK f=some true):zH f=some (frT f)/\nO f=some (frT f)/\(frT f).length<=6000000000:=by
 obtain ⟨T,he,hw⟩:=h.tree
 have ho:∀ n∈T.flat,NdP n:=fun n hn=>by rw [←he] at hn;exact ⟨h.loc n hn,h.bnd n hn,hl n hn⟩
 have h30:T.flat.length<=30:=by rw [←he];exact h.len
 have hS:=formT_S h30 ho hw
 have hI:=formT_I T 100000 (by omega) h30 hw ho
 have hF:=fromD T 100000 [] (by omega) (by rw [List.append_nil];omega) hw
 have hlen:=zW T ho
 rw [List.append_nil] at hF
 have e:frT f=jH T:=by unfold frT;rw [he,hS];rfl
 rw [e]
 refine ⟨?_,by rw [he,hS],by omega⟩
 unfold zH
 rw [hv,aA,if_neg (by simp)]
 unfold aFV aDt
 rw [he,hF,aA,aA]
 unfold aCj
 rw [hI,aA]
end Gv
namespace Gv
open Go
theorem szSystemL {s:bL} {left:Int} (h0:0<=left) (hl:left<=sz) (h:aGO 9223372036854775807 s):∃ r,aEx s left=some r/\(0<=r->r<=left/\zSys s<=sz):=by
 obtain ⟨p1,p2,p3,p4,p5,p6,p7,p8,p9,p10⟩:=h
 obtain ⟨r,hr,h1⟩:=aIs (a:=s.Definitions) (left:=left) h0 hl (by omega) p2
 unfold aEx zSys
 rw [hr,aA]
 by_cases n1:r < 0
 ·exact ⟨-1,by rw [if_pos (by simpa using n1)],by omega⟩
 rw [if_neg (by simpa using n1)]
 have i1:=h1 (by omega)
 obtain ⟨r2,hr2,h2⟩:=aJW (a:=s.Components) (left:=r) (by omega) (by omega) (by omega) (fun c hc=>by have:=p4 c hc;omega)
 rw [hr2,aA]
 by_cases n2:r2 < 0
 ·exact ⟨-1,by rw [if_pos (by simpa using n2)],by omega⟩
 rw [if_neg (by simpa using n2)]
 have i2:=h2 (by omega)
 obtain ⟨r3,hr3,h3⟩:=aPp (a:=s.Meetings) (left:=r2) (by omega) (by omega) (by omega) p6
 rw [hr3,aA]
 by_cases n3:r3 < 0
 ·exact ⟨-1,by rw [if_pos (by simpa using n3)],by omega⟩
 rw [if_neg (by simpa using n3)]
 have i3:=h3 (by omega)
 obtain ⟨r4,hr4,h4⟩:=aLb (a:=s.Allowed) (left:=r3) (by omega) (by omega) (by omega) (fun s hs=>by have:=p8 s hs;omega)
 rw [hr4,aA]
 by_cases n4:r4 < 0
 ·exact ⟨-1,by rw [if_pos (by simpa using n4)],by omega⟩
 rw [if_neg (by simpa using n4)]
 have i4:=h4 (by omega)
 obtain ⟨r5,hr5,h5⟩:=aLb (a:=s.Hidden) (left:=r4) (by omega) (by omega) (by omega) (fun s hs=>by have:=p10 s hs;omega)
 rw [hr5,aA]
 by_cases n5:r5 < 0
 ·exact ⟨-1,by rw [if_pos (by simpa using n5)],by omega⟩
 rw [if_neg (by simpa using n5)]
 have i5:=h5 (by omega)
 exact ⟨_,rfl,fun _=>⟨by omega,by omega⟩⟩
theorem aPC {a:List bH} {left:Int} (h0:0<=left) (hl:left<=sz) (ha:a.length<=9223372036854775807) (hp:∀ n∈a,n.B.length<=9223372036854775807):
  ∃ r,aGx a left=some r/\(0<=r->r<=left/\(a.length:Int)<=left/\∀ n∈a,n.B.length<=sz):=by
 refine szList (f:=aIP) (ok:=fun (n:bH)=>n.B.length<=sz) (step:=fun s=>aAP a s.1 s.2) h0 hl (by omega) (fun t ht l g0 g1=>?_) (fun k l x hk hz hx=>?_) (fun l=>?_)
 ·have:=hp t ht
  have e:wr (l - (t.B.length:Int))=l - t.B.length:=by unfold sz at g1;unfold wr;omega
  unfold aIP
  rw [e]
  by_cases hn:l - (t.B.length:Int) < 0
  ·exact ⟨-1,by rw [if_pos (by simpa using hn)],by omega⟩
  ·exact ⟨_,by rw [if_neg (by simpa using hn)],by omega⟩
 ·simp only [aAP,bU hk,if_true,hx,aA,bN hk (show a.length < 4611686018427387904 by unfold sz at hz;omega)]
 ·simp only [aAP,bJ];rfl
structure aQH (n:Nat) (k:Kept):Prop where
 name:k.Name.length<=n
 sys:rT n k.S
 nodes:k.Formula.length<=n
 node:∀ x∈k.Formula,x.B.length<=n
 src:aGO n k.Source
structure aLd (k:Kept):Prop where
 name:k.Name.length<=sz
 sys:rT sz k.S
 nodes:k.Formula.length<=sz
 node:∀ x∈k.Formula,x.B.length<=sz
 src:zSys k.Source<=sz
theorem aQI {k:Kept} {left:Int} (h0:0<=left) (hl:left<=sz) (h:aQH 9223372036854775807 k):∃ r,aFK k left=some r/\(0<=r->r<=left/\aLd k):=by
 have hn:=h.name
 have e1:wr (left - (k.Name.length:Int))=left - (k.Name.length:Int):=by unfold sz at hl;unfold wr;omega
 unfold aFK
 rw [e1]
 by_cases n1:left - (k.Name.length:Int) < 0
 ·exact ⟨-1,by rw [if_pos (by simpa using n1)],by omega⟩
 rw [if_neg (by simpa using n1)]
 obtain ⟨r2,hr2,h2⟩:=aRh (t:=k.S) (left:=left - (k.Name.length:Int)) (by omega) (by omega) h.sys
 rw [hr2,aA]
 by_cases n2:r2 < 0
 ·exact ⟨-1,by rw [if_pos (by simpa using n2)],by omega⟩
 rw [if_neg (by simpa using n2)]
 obtain ⟨i2,j2⟩:=h2 (by omega)
 obtain ⟨r3,hr3,h3⟩:=aPC (a:=k.Formula) (left:=r2) (by omega) (by omega) h.nodes h.node
 rw [hr3,aA]
 by_cases n3:r3 < 0
 ·exact ⟨-1,by rw [if_pos (by simpa using n3)],by omega⟩
 rw [if_neg (by simpa using n3)]
 obtain ⟨i3,j3,l3⟩:=h3 (by omega)
 obtain ⟨r4,hr4,h4⟩:=szSystemL (s:=k.Source) (left:=r3) (by omega) (by omega) h.src
 rw [hr4,aA]
 by_cases n4:r4 < 0
 ·exact ⟨-1,by rw [if_pos (by simpa using n4)],by omega⟩
 rw [if_neg (by simpa using n4)]
 obtain ⟨i4,j4⟩:=h4 (by omega)
 exact ⟨_,rfl,fun _=>⟨by omega,⟨by omega,j2,by omega,l3,j4⟩⟩⟩
theorem lts_le {t:hJ} {m n:Nat} (h:m<=n) (ht:rT m t):rT n t:=⟨Nat.le_trans ht.1 h,fun s hs=>Nat.le_trans (ht.2.1 s hs) h,Nat.le_trans ht.2.2 h⟩
theorem aRO {a:List bH} (h:a.length<=jB):aGD a=some a:=by
 have h2:a.length < 4611686018427387904:=by unfold jB at h;omega
 refine toL (step:=fun s=>wH a s.1 s.2) h (fun k out x hk ho hx _=>?_) (fun out=>?_)
 ·simp only [wH,bU hk,if_true,hx,aA,aMj,bX (xs:=out) (k:=k) (by omega),aCv (xs:=out) (k:=k) _ (show k < out.length by omega),bN hk h2]
 ·simp only [wH,bJ];rfl
theorem toKept_eq {k:Kept} (h:aLd k):aFU k=some k:=by
 unfold aFU
 rw [toLts_eq (lts_le aPg h.sys),aA,aRO (Nat.le_trans h.nodes aPg),aA,aQx (aJX (Nat.le_trans h.src aPg)),aA]
theorem eqNode_eq (a b:bH):aJp a b=some (decide (a=b)):=by
 obtain ⟨a1,a2,a3,a4⟩:=a;obtain ⟨b1,b2,b3,b4⟩:=b
 simp only [aJp,bH.mk.injEq]
 by_cases e1:a1=b1<;>by_cases e2:a2=b2<;>by_cases e3:a3=b3<;>by_cases e4:a4=b4<;>simp [e1,e2,e3,e4]
theorem aRP (a b:List bH) (h:a.length < 4611686018427387904):aGH a b=some (decide (a=b)):=by
 refine eqLG (step:=fun s=>aBj a b s) h (fun k x y hk hx hy hm=>?_) ?_
 ·simp only [aBj,bU hk,if_true,hx,hy,aA,eqNode_eq x y]
  by_cases e:x=y<;>simp [e]
 ·simp only [aBj,bJ];rfl
theorem eqKept_eq (a b:Kept) (h:aLd a):aJv a b=some (decide (a=b)):=by
 obtain ⟨a1,a2,a3,a4,a5⟩:=a;obtain ⟨b1,b2,b3,b4,b5⟩:=b
 have g3:=eqLts_eq a3 b3 (lts_le (by unfold sz;omega) h.sys)
 have g4:=aRP a4 b4 (by have:=h.nodes;unfold sz at this;simp only at this;omega)
 have g5:=aQA a5 b5 (aJX h.src)
 simp only [aJv,Kept.mk.injEq,g3,g4,g5,aA]
 by_cases e1:a1=b1<;>by_cases e2:a2=b2<;>by_cases e3:a3=b3<;>by_cases e4:a4=b4<;>by_cases e5:a5=b5<;>simp [e1,e2,e3,e4,e5]
theorem aPD (a:List aN):dE a []=some (a.length == 0):=by
 unfold dE
 cases a with
 |nil=>rw [if_neg (by simp),fN (r:=.inl ()) rfl];rfl
 |cons x l=>rw [if_pos (by simp;omega)];simp
theorem eqNil_e (a:List Edge):dW a []=some (a.length == 0):=by
 unfold dW
 cases a with
 |nil=>rw [if_neg (by simp),fN (r:=.inl ()) rfl];rfl
 |cons x l=>rw [if_pos (by simp;omega)];simp
theorem eqNil_m (a:List bB):cZ a []=some (a.length == 0):=by
 unfold cZ
 cases a with
 |nil=>rw [if_neg (by simp),fN (r:=.inl ()) rfl];rfl
 |cons x l=>rw [if_pos (by simp;omega)];simp
theorem eqNil_d (a:List Definition):bA a []=some (a.length == 0):=by
 unfold bA
 cases a with
 |nil=>rw [if_neg (by simp),fN (r:=.inl ()) rfl];rfl
 |cons x l=>rw [if_pos (by simp;omega)];simp
theorem eqNil_c (a:List aX):bC a []=some (a.length == 0):=by
 unfold bC
 cases a with
 |nil=>rw [if_neg (by simp),fN (r:=.inl ()) rfl];rfl
 |cons x l=>rw [if_pos (by simp;omega)];simp
def nilL (t:hJ):Bool:=t.N == 0&&(t.I == 0&&(t.L.length == 0&&t.E.length == 0))
def nilS (s:bL):Bool:=s.Definitions.length == 0&&(s.Components.length == 0&&(s.Meetings.length == 0&&(s.Allowed.length == 0&&s.Hidden.length == 0)))
theorem len0 (n:Nat):((n:Int) == 0)=(n == 0):=by cases n with
 |zero=>rfl
 |succ n=>rw [show (n+1 == 0)=false from rfl];simp;omega
theorem aQJ (t:hJ):aDU t ⟨0,0,[],[]⟩=some (nilL t):=by
 unfold aDU rO nilL
 rw [aPD,eqNil_e]
 cases t.N == 0<;>cases t.I == 0<;>cases t.L.length == 0<;>cases t.E.length == 0<;>rfl
theorem aQK (t:hJ):xV t=some (nilL t):=by
 unfold xV oY nilL
 rw [len0,len0]
 cases t.N == 0<;>cases t.I == 0<;>cases t.L.length == 0<;>cases t.E.length == 0<;>rfl
theorem aNu (s:bL):wN s ⟨[],[],[],[],[]⟩=some (nilS s):=by
 unfold wN jU nilS
 rw [eqNil_d,eqNil_c,eqNil_m,aPD,aPD]
 cases s.Definitions.length == 0<;>cases s.Components.length == 0<;>cases s.Meetings.length == 0<;>cases s.Allowed.length == 0<;>cases s.Hidden.length == 0<;>rfl
theorem aRQ {s:bL} (h:aGO sz s):aDK s=some (nilS s):=by
 obtain ⟨p1,p2,p3,p4,p5,p6,p7,p8,p9,p10⟩:=h
 unfold sz at p1 p3 p5 p7 p9
 unfold aDK nilS
 have e:wr ((wr ((wr ((wr ((s.Definitions.length:Int)+(s.Components.length:Int)))+(s.Meetings.length:Int)))+(s.Allowed.length:Int)))+(s.Hidden.length:Int))=((s.Definitions.length+s.Components.length+s.Meetings.length+s.Allowed.length+s.Hidden.length:Nat):Int):=by unfold wr;omega
 rw [e,len0]
 refine congrArg some ?_
 cases h1:s.Definitions.length with
 |succ n=>simp
 |zero=>
  cases h2:s.Components.length with
  |succ n=>simp
  |zero=>
   cases h3:s.Meetings.length with
   |succ n=>simp
   |zero=>
    cases h4:s.Allowed.length with
    |succ n=>simp
    |zero=>simp
theorem kept_both {k:Kept} (h:aLd k):∃ B,qX k=some B/\aEI k=some B:=by
 have hsz:sz=1048576:=rfl
 have hn:=h.name
 have hF:=lts_le (n:=999999999) (by omega) h.sys
 obtain ⟨vs,v1,v2,v3⟩:=aRH h.src
 obtain ⟨vf,f1,f2,f3⟩:=aPy (f:=k.Formula) (fun n hn=>by have:=h.node n hn;omega) (by have:=h.nodes;omega)
 have hsf:=aJX h.src
 unfold qX aEI
 rw [aKv _ (by omega),aCw,aA,aA]
 cases pG k.Name with
 |false=>exact ⟨false,rfl,rfl⟩
 |true=>
  rw [if_neg (by simp),if_neg (by simp),aQJ,aA,aNu,aA]
  simp only [aQK,aRQ hsf,aA,len0]
  by_cases k1:(k.Kind == 1)=true
  ·rw [if_pos k1,if_pos k1,aQl _ hF,aA,l11Is_eq _ hF,aA]
   unfold qW aCb
   cases cl (jM k.S)<;>cases k.Formula.length == 0<;>exact ⟨_,rfl,rfl⟩
  rw [if_neg k1,if_neg k1]
  by_cases k2:(k.Kind == 2)=true
  ·rw [if_pos k2,if_pos k2,f1,aA,f2,aA]
   unfold nA yC
   cases vf with
   |false=>exact ⟨false,rfl,rfl⟩
   |true=>
    obtain ⟨t1,t2,t3⟩:=aKI (f3 rfl) (fun n hn=>by have:=h.node n hn;omega) f1
    rw [if_pos rfl,if_pos rfl,t1,aA,t2,aA]
    cases decide (((frT k.Formula).length:Int)<=400)<;>cases nilL k.S<;>cases nilS k.Source<;>exact ⟨_,rfl,rfl⟩
  rw [if_neg k2,if_neg k2]
  by_cases k3:(k.Kind == 3)=true
  ·rw [if_pos k3,if_pos k3,v1,aA,v2,aA]
   unfold nB yD
   cases vs with
   |false=>exact ⟨false,rfl,rfl⟩
   |true=>
    obtain ⟨t1,t2,t3⟩:=aPw (v3 rfl) (by have:=hsf.meets;omega) v1
    rw [if_pos rfl,if_pos rfl,t1,aA,t2,aA]
    cases decide (((sysT k.Source).length:Int)<=16000)<;>cases nilL k.S<;>cases k.Formula.length == 0<;>exact ⟨_,rfl,rfl⟩
  rw [if_neg k3,if_neg k3]
  exact ⟨false,rfl,rfl⟩
noncomputable def kpB (k:Kept):Bool:=(aEI k).getD false
theorem kp_eq {k:Kept} (h:aLd k):qX k=some (kpB k)/\aEI k=some (kpB k):=by
 obtain ⟨B,h1,h2⟩:=kept_both h
 have:kpB k=B:=by unfold kpB;rw [h2];rfl
 rw [this];exact ⟨h1,h2⟩
end Gv
namespace Gv
open Go
structure aQL (n:Nat) (d:vI):Prop where
 len:d.Kept.length<=n
 kept:∀ k∈d.Kept,aQH n k
structure DeskZ (d:vI):Prop where
 len:d.Kept.length<=sz
 kept:∀ k∈d.Kept,aLd k
theorem aQM {d:vI} (h:aQL 9223372036854775807 d):∃ r,aIT d 1048576=some r/\(0<=r->DeskZ d):=by
 have key:∃ r,aGz d.Kept 1048576=some r/\(0<=r->r<=1048576/\(d.Kept.length:Int)<=1048576/\∀ k∈d.Kept,aLd k):=by
  have hlen:=h.len
  refine szList (f:=aFK) (ok:=aLd) (step:=fun s=>vN d.Kept s.1 s.2) (by omega) (by unfold sz;omega) (by omega) (fun t ht l g0 g1=>aQI g0 g1 (h.kept t ht)) (fun k l x hk hz hx=>?_) (fun l=>?_)
  ·simp only [vN,bU hk,if_true,hx,aA,bN hk (show d.Kept.length < 4611686018427387904 by unfold sz at hz;omega)]
  ·simp only [vN,bJ];rfl
 obtain ⟨r,hr,h1⟩:=key
 unfold aIT
 rw [hr,aA]
 by_cases n1:r < 0
 ·exact ⟨-1,by rw [if_pos (by simpa using n1)],by omega⟩
 ·obtain ⟨_,a,b⟩:=h1 (by omega)
  exact ⟨r,by rw [if_neg (by simpa using n1)],fun _=>⟨by unfold sz;omega,b⟩⟩
theorem toDesk_eq {d:vI} (h:DeskZ d):aDT d=some d:=by
 have hl:=h.len
 have h2:d.Kept.length < 4611686018427387904:=by unfold sz at hl;omega
 have key:aGG d.Kept=some d.Kept:=by
  refine toL (step:=fun s=>wL d.Kept s.1 s.2) (Nat.le_trans hl aPg) (fun k out x hk ho hx hm=>?_) (fun out=>?_)
  ·simp only [wL,bU hk,if_true,hx,aA,toKept_eq (h.kept x hm),bX (xs:=out) (k:=k) (by omega),aCv (xs:=out) (k:=k) _ (show k < out.length by omega),bN hk h2]
  ·simp only [wL,bJ];rfl
 unfold aDT
 rw [key,aA]
theorem eqDesk_eq (a b:vI) (h:DeskZ a):aJx a b=some (decide (a=b)):=by
 have hl:=h.len
 have key:aGK a.Kept b.Kept=some (decide (a.Kept=b.Kept)):=by
  refine eqLG (step:=fun s=>wY a.Kept b.Kept s) (by unfold sz at hl;omega) (fun k x y hk hx hy hm=>?_) ?_
  ·simp only [wY,bU hk,if_true,hx,hy,aA,eqKept_eq x y (h.kept x hm)]
   by_cases e:x=y<;>simp [e]
  ·simp only [wY,bJ];rfl
 obtain ⟨a1⟩:=a;obtain ⟨b1⟩:=b
 unfold aJx
 simp only [key,aA,vI.mk.injEq]
 by_cases e:a1=b1<;>simp [e]
theorem desk_both {d:vI} (h:DeskZ d):∃ B,uU d=some B/\aJf d=some B/\(B=true->d.Kept.length<=12/\∀ k∈d.Kept,qX k=some true):=by
 have hl:=h.len
 have hsz:sz=1048576:=rfl
 let p:Nat->Bool:=fun i=>match d.Kept[i]? with|some x=>kpB x&&(i == 0||(match d.Kept[i - 1]? with|some y=>nI y.Name x.Name|none=>true))|none=>true
 obtain ⟨b,hb,hbl⟩:=pE (step:=fun s=>qZ d s) d.Kept.length 0 p (.inr false) (.inl ()) (Nat.zero_le _) (fun k _ hk=>by
  obtain ⟨g1,_⟩:=kp_eq (h.kept _ (List.getElem_mem hk))
  simp only [qZ,qY,bU hk,if_true,bX hk,aA,g1,bN hk (show d.Kept.length < 4611686018427387904 by omega),p,List.getElem?_eq_getElem hk]
  by_cases h0:k=0
  ·subst h0
   rw [if_neg (show ¬ (decide ((0:Int) < ((0:Nat):Int))=true) by simp)]
   cases kpB d.Kept[0]<;>rfl
  ·have e1:wr ((k:Int) - 1)=((k - 1:Nat):Int):=by rw [dM (by omega) (by omega)];omega
   have h1:k - 1 < d.Kept.length:=by omega
   rw [if_pos (show decide ((0:Int) < (k:Int))=true by simp;omega),e1,bX h1,aA,aMY,List.getElem?_eq_getElem h1,show (k == 0)=false by simpa using h0]
   cases kpB d.Kept[k]<;>cases hq:nI d.Kept[k - 1].Name d.Kept[k].Name<;>simp [hq]) (by simp only [qZ,bJ];rfl)
 obtain ⟨c,hc,hcl⟩:=pE (step:=fun s=>aCd d s) d.Kept.length 0 p (.inr false) (.inl ()) (Nat.zero_le _) (fun k _ hk=>by
  obtain ⟨_,g1⟩:=kp_eq (h.kept _ (List.getElem_mem hk))
  simp only [aCd,aCc,bU hk,if_true,bX hk,aA,g1,bN hk (show d.Kept.length < 4611686018427387904 by omega),p,List.getElem?_eq_getElem hk]
  by_cases h0:k=0
  ·subst h0
   rw [if_neg (show ¬ (decide ((0:Int) < ((0:Nat):Int))=true) by simp)]
   cases kpB d.Kept[0]<;>rfl
  ·have e1:wr ((k:Int) - 1)=((k - 1:Nat):Int):=by rw [dM (by omega) (by omega)];omega
   have h1:k - 1 < d.Kept.length:=by omega
   rw [if_pos (show decide ((0:Int) < (k:Int))=true by simp;omega),e1,bX h1,aA,List.getElem?_eq_getElem h1,show (k == 0)=false by simpa using h0]
   cases kpB d.Kept[k]<;>cases hq:nI d.Kept[k - 1].Name d.Kept[k].Name<;>simp [hq]) (by simp only [aCd,bJ];rfl)
 have hbc:c=b:=by
  have:c=true<->b=true:=by rw [hb,hc]
  cases c<;>cases b<;>simp at this ⊢
 subst hbc
 have hi:uU d=some (c&&decide (d.Kept.length<=12)):=by
  have e:decide ((d.Kept.length:Int)<=12)=decide (d.Kept.length<=12):=by simp;omega
  unfold uU aCk
  rw [show (0:Int)=((0:Nat):Int) from rfl,hbl,aA,e]
  cases c<;>rfl
 refine ⟨_,hi,?_,fun ht=>?_⟩
 rotate_left
 ·rw [Bool.and_eq_true,decide_eq_true_eq] at ht
  refine ⟨ht.2,fun x hx=>?_⟩
  obtain ⟨i,hl',rfl⟩:=List.mem_iff_getElem.1 hx
  have:=hc.1 ht.1 i (Nat.zero_le _) hl'
  simp only [p,List.getElem?_eq_getElem hl',Bool.and_eq_true] at this
  rw [(kp_eq (h.kept _ hx)).1,this.1]
 unfold aJf aHY
 by_cases h12:d.Kept.length<=12
 ·rw [if_neg (by simp;omega),show (0:Int)=((0:Nat):Int) from rfl,hcl,aA,decide_eq_true h12]
  cases c<;>rfl
 ·rw [if_pos (by simp;omega),decide_eq_false h12,Bool.and_false]
theorem lawDesk (aD:vI) (h:aQL 9223372036854775807 aD):oA aD=some true:=by
 obtain ⟨r,hr,h1⟩:=aQM h
 unfold oA
 rw [hr,aA]
 by_cases hn:r < 0
 ·rw [if_pos (by simpa using hn)]
 rw [if_neg (by simpa using hn)]
 have hz:=h1 (by omega)
 obtain ⟨B,b1,b2,_⟩:=desk_both hz
 have e1:=eqDesk_eq aD aD hz
 rw [decide_eq_true rfl] at e1
 rw [toDesk_eq hz,aA,show aAk aD=some B by unfold aAk;rw [b2];rfl,aA,aA,b1,aA,if_neg (by simp),aA,e1,aA,if_neg (by simp)]
end Gv
