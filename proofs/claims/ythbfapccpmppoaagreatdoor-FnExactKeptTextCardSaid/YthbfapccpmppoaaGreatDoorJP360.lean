/- Trees that are written as text: loops with stacks; expressions on both sides. -/
import Derived.Test.YthbfapccpmppoaaGreatDoorJP327
import Derived.Test.YthbfapccpmppoaaGreatDoorJP200
set_option linter.all false
namespace Gv
open Go
section
variable {β γ:Type}
theorem stack_seg {σ ρ:Type} {step:σ->Option (σ ⊕ ρ)} {mk:List γ->Int->σ} {val:GTr β->γ} {ar:β->Nat} {e:List β}
  (h0:∀ pre x post S,e=pre++x::post->S.length<=post.length->(GTr.nul x).WF ar->step (mk S (pre.length:Int))=some (.inl (mk (S++[val (.nul x)]) ((pre.length:Int) - 1))))
  (h1:∀ pre x (a:GTr β) post S,e=pre++x::(a.flat++post)->S.length<=post.length->(GTr.one x a).WF ar->step (mk (S++[val a]) (pre.length:Int))=some (.inl (mk (S++[val (.one x a)]) ((pre.length:Int) - 1))))
  (h2:∀ pre x (a b:GTr β) post S,e=pre++x::(a.flat++(b.flat++post))->S.length<=post.length->(GTr.two x a b).WF ar->step (mk (S++[val b,val a]) (pre.length:Int))=some (.inl (mk (S++[val (.two x a b)]) ((pre.length:Int) - 1)))):
  ∀ (t:GTr β) (pre post:List β) (S:List γ),e=pre++(t.flat++post)->t.WF ar->S.length<=post.length->loop step (mk S ((pre.length:Int)+t.flat.length - 1))=loop step (mk (S++[val t]) ((pre.length:Int) - 1)):=by
 intro t
 induction t with
 |nul x=>
  intro pre post S he hw hS
  have:=h0 pre x post S (by rw [he];rfl) hS hw
  rw [show ((pre.length:Int)+(GTr.nul x).flat.length - 1)=pre.length by simp [GTr.flat]]
  exact oF this
 |one x a iha=>
  intro pre post S he hw hS
  have e1:=iha (pre++[x]) post S (by rw [he];simp [GTr.flat]) hw.2 hS
  have e2:=h1 pre x a post S (by rw [he];simp [GTr.flat]) hS hw
  rw [show (((pre++[x]).length:Int)+a.flat.length - 1)=((pre.length:Int)+(GTr.one x a).flat.length - 1) by simp [GTr.flat];omega,show (((pre++[x]).length:Int) - 1)=pre.length by simp] at e1
  rw [e1];exact oF e2
 |two x a b iha ihb=>
  intro pre post S he hw hS
  have e1:=ihb (pre++x::a.flat) post S (by rw [he];simp [GTr.flat]) hw.2.2 hS
  have e2:=iha (pre++[x]) (b.flat++post) (S++[val b]) (by rw [he];simp [GTr.flat]) hw.2.1 (by have:=b.flat_pos;simp;omega)
  have e3:=h2 pre x a b post S (by rw [he];simp [GTr.flat]) hS hw
  rw [show (((pre++x::a.flat).length:Int)+b.flat.length - 1)=((pre.length:Int)+(GTr.two x a b).flat.length - 1) by simp [GTr.flat];omega,show (((pre++x::a.flat).length:Int) - 1)=((pre++[x]).length:Int)+a.flat.length - 1 by simp;omega] at e1
  rw [show (((pre++[x]).length:Int) - 1)=pre.length by simp,List.append_assoc] at e2
  rw [e1,e2];exact oF e3
theorem aKR {σ ρ:Type} {step:σ->Option (σ ⊕ ρ)} {mk:List γ->Int->σ} {val:GTr β->γ} {ar:β->Nat} {e:List β}
  (h0:∀ pre x post S,e=pre++x::post->S.length<=post.length->(GTr.nul x).WF ar->step (mk S (pre.length:Int))=some (.inl (mk (S++[val (.nul x)]) ((pre.length:Int) - 1))))
  (h1:∀ pre x (a:GTr β) post S,e=pre++x::(a.flat++post)->S.length<=post.length->(GTr.one x a).WF ar->step (mk (S++[val a]) (pre.length:Int))=some (.inl (mk (S++[val (.one x a)]) ((pre.length:Int) - 1))))
  (h2:∀ pre x (a b:GTr β) post S,e=pre++x::(a.flat++(b.flat++post))->S.length<=post.length->(GTr.two x a b).WF ar->step (mk (S++[val b,val a]) (pre.length:Int))=some (.inl (mk (S++[val (.two x a b)]) ((pre.length:Int) - 1))))
  {t:GTr β} (he:e=t.flat) (hw:t.WF ar) (hl:e.length < 1000000000) {r:ρ} (hr:step (mk [val t] (-1))=some (.inr r)):loop step (mk [] (wr ((e.length:Int) - 1)))=some r:=by
 have key:=stack_seg h0 h1 h2 t [] [] [] (by rw [he];simp) hw (Nat.le_refl _)
 have hp:=t.flat_pos
 rw [dW (by omega) (by omega),he]
 rw [show (((([]:List β).length:Nat):Int)+t.flat.length - 1)=(t.flat.length:Int) - 1 by simp] at key
 rw [key]
 exact fJ hr
end
theorem cY {a b:aL} {n:Nat} (h:a.length+b.length<=n) (hn:n<=1000000000000):eK a b=some (a++b):=aIG (by unfold iK;omega)
theorem fH {n:Int} (h:0<=n) (h2:n < 4611686018427387904):(Lib.itoa n).length<=21:=aHl h h2
theorem kG {n:Int} (h:0<=n) (h2:n < 4611686018427387904):gN n=some (Lib.itoa n)/\iD n=some (Lib.itoa n):=⟨by unfold gN;rw [if_pos ⟨by omega,by omega⟩],aOK h h2⟩
def lvO (op:Int):Int:=aKq.getD op.toNat 0
def opO (op:Int):aL:=aIi.getD op.toNat []
theorem aKj {op:Int} (h0:0<=op) (h8:op<=8):aEU op=some (lvO op)/\ix aKq op=some (lvO op)/\1<=lvO op/\lvO op<=5/\ix aIi op=some (opO op)/\(opO op).length<=2:=by
 have:op=0\/op=1\/op=2\/op=3\/op=4\/op=5\/op=6\/op=7\/op=8:=by omega
 rcases this with rfl|rfl|rfl|rfl|rfl|rfl|rfl|rfl|rfl<;>exact ⟨rfl,rfl,by decide,by decide,rfl,by decide⟩
theorem ops_eq:aJr=some aIi:=rfl
def wrp (b:Bool) (s:aL):aL:=if b then 40::(s++[41]) else s
theorem gE (b:Bool) (s:aL):(wrp b s).length<=s.length+2:=by unfold wrp;split<;>simp
theorem aNx {s:aL} (h:s.length<=100000000000):(ob (eK ([40]:aL) s) fun r=>ob (eK r ([41]:aL)) fun q=>some q)=some (wrp true s):=by
 rw [cY (n:=200000000000) (by simp;omega) (by omega),aA,cY (n:=200000000000) (by simp;omega) (by omega),aA]
 rfl
theorem aFt {s:aL} (b:Bool) (h:s.length<=100000000000):iM s b=some (wrp b s):=by
 unfold iM
 cases b with
 |true=>rw [if_pos rfl];exact aNx h
 |false=>rfl
def xK:GTr aR->aL
 |.nul t=>if t.Kind == 0 then Lib.itoa t.Value else 118::Lib.itoa t.Value
 |.one _ a=>33::wrp (match a with|.two ..=>true|_=>false) (xK a)
 |.two t a b=>wrp (decide ((match a with|.two t _ _=>lvO t.Value|.one ..=>6|_=>7) < lvO t.Value)) (xK a)++opO t.Value++wrp (decide ((match b with|.two t _ _=>lvO t.Value|.one ..=>6|_=>7)<=lvO t.Value)) (xK b)
def lvT:GTr aR->Int
 |.nul _=>7
 |.one ..=>6
 |.two t _ _=>lvO t.Value
theorem lvT_nul (t:aR):lvT (.nul t)=7:=rfl
theorem lvT_one (t:aR) (a:GTr aR):lvT (.one t a)=6:=rfl
theorem lvT_two (t:aR) (a b:GTr aR):lvT (.two t a b)=lvO t.Value:=rfl
def isO:GTr aR->Bool
 |.two ..=>true
 |_=>false
theorem aPy (t:aR) (a:GTr aR):xK (.one t a)=33::wrp (isO a) (xK a):=by cases a<;>rfl
theorem aPz (t:aR) (a b:GTr aR):xK (.two t a b)=wrp (decide (lvT a < lvO t.Value)) (xK a)++opO t.Value++wrp (decide (lvT b<=lvO t.Value)) (xK b):=by cases a<;>cases b<;>rfl
theorem aFu {t:aR} {v:Int} (hv:v<=1000) (h:sG v t=true):0<=t.Value/\t.Value<=1000/\(t.Kind=2->t.Value<=8):=by
 unfold sG vG at h
 by_cases h0:t.Kind=0
 ·simp [h0] at h ⊢;omega
 by_cases h1:t.Kind=1
 ·simp [h1] at h ⊢;omega
 by_cases h2:t.Kind=2
 ·simp [h2] at h ⊢;omega
 ·simp [h0,h1,h2] at h ⊢;omega
theorem aId {t:aR} {v:Int} (ht:sG v t=true):(arT t=0->t.Kind=0\/t.Kind=1)/\(arT t=1->t.Kind=3)/\(arT t=2->t.Kind=2):=by
 unfold sG at ht
 unfold arT
 by_cases h0:t.Kind=0
 ·simp [h0]
 by_cases h1:t.Kind=1
 ·simp [h1]
 by_cases h2:t.Kind=2
 ·simp [h2]
 by_cases h3:t.Kind=3
 ·simp [h3]
 ·simp [h0,h1,h2,h3] at ht
section
variable {v:Int} (hv:v<=1000)
include hv
theorem aAd:∀ (t:GTr aR),t.WF arT->(∀ x∈t.flat,sG v x=true)->(xK t).length<=24 * t.flat.length
 |.nul t,hw,ho=>by
  obtain ⟨h1,h2,_⟩:=aFu hv (ho t (by simp [GTr.flat]))
  have:=fH h1 (by omega)
  simp only [xK,GTr.flat]
  split<;>simp<;>omega
 |.one t a,hw,ho=>by
  have:=aAd a hw.2 (fun x hx=>ho x (by simp [GTr.flat,hx]))
  have:=gE (isO a) (xK a)
  rw [aPy]
  simp only [GTr.flat,List.length_cons]
  omega
 |.two t a b,hw,ho=>by
  have ha:=aAd a hw.2.1 (fun x hx=>ho x (by simp [GTr.flat,hx]))
  have hb:=aAd b hw.2.2 (fun x hx=>ho x (by simp [GTr.flat,hx]))
  have ht:=ho t (by simp [GTr.flat])
  have hv':=aFu hv ht
  have:=(aKj hv'.1 (hv'.2.2 ((aId ht).2.2 hw.1))).2.2.2.2.2
  have w1:=gE (decide (lvT a < lvO t.Value)) (xK a)
  have w2:=gE (decide (lvT b<=lvO t.Value)) (xK b)
  rw [aPz]
  simp only [GTr.flat,List.length_cons,List.length_append]
  omega
theorem aPA:∀ {t:GTr aR},t.WF arT->(∀ x∈t.flat,sG v x=true)->iI (trT t)=some (if isO t then lvT t else 9)/\(isO t=true->lvT t<=5)/\(isO t=false->6<=lvT t)/\((trT t).val.Kind == 2)=isO t
 |.nul t,hw,ho=>by
  have ht:=ho t (by simp [GTr.flat])
  have hk:=(aId ht).1 hw
  have h2:(t.Kind == 2)=false:=by rcases hk with h|h<;>simp [h]
  refine ⟨?_,fun h=>(by cases h),fun _=>(by simp [lvT]),h2⟩
  unfold iI trT
  simp only [Tr.val,h2,Bool.false_eq_true,if_false]
  rfl
 |.one t a,hw,ho=>by
  have ht:=ho t (by simp [GTr.flat])
  have hk:=(aId ht).2.1 hw.1
  have h2:(t.Kind == 2)=false:=by simp [hk]
  refine ⟨?_,fun h=>(by cases h),fun _=>(by simp [lvT]),h2⟩
  unfold iI trT
  simp only [Tr.val,h2,Bool.false_eq_true,if_false]
  rfl
 |.two t a b,hw,ho=>by
  have ht:=ho t (by simp [GTr.flat])
  have hk:=(aId ht).2.2 hw.1
  have h2:(t.Kind == 2)=true:=by simp [hk]
  have hv':=aFu hv ht
  have hf:=aKj hv'.1 (hv'.2.2 hk)
  refine ⟨?_,fun h=>hf.2.2.2.1,fun h=>(by cases h),h2⟩
  unfold iI trT
  simp only [Tr.val,h2,if_true,hf.2.1,aA]
  rfl
theorem text_I:∀ (t:GTr aR) (m:Nat),t.flat.length<=m->t.flat.length < 1000000000->t.WF arT->(∀ x∈t.flat,sG v x=true)->fY m (trT t)=some (xK t):=by
 intro t
 induction t with
 |nul t=>
  intro m hm hl hw ho
  match m with
  |0=>simp [GTr.flat] at hm
  |m+1=>
   have ht:=ho t (by simp [GTr.flat])
   obtain ⟨h1,h2,_⟩:=aFu hv ht
   have hd:=(kG h1 (by omega)).1
   have hl:=fH h1 (by omega)
   show jI (fY m) (.mk t [])=_
   unfold jI
   simp only [Tr.val,xK]
   rcases (aId ht).1 hw with h|h
   ·simp [h,hd]
   ·have h1:(t.Kind == 1)=true:=by simp [h]
    have h0:(t.Kind == 0)=false:=by simp [h]
    simp only [h0,h1,Bool.false_eq_true,if_false,if_true,hd,aA,cY (a:=([118]:aL)) (b:=Lib.itoa t.Value) (n:=200) (by simp;omega) (by omega)]
    rfl
 |one t a iha=>
  intro m hm hl hw ho
  match m with
  |0=>simp [GTr.flat] at hm
  |m+1=>
   have ht:=ho t (by simp [GTr.flat])
   have hoa:∀ x∈a.flat,sG v x=true:=fun x hx=>ho x (by simp [GTr.flat,hx])
   have hla:a.flat.length < 1000000000:=by simp [GTr.flat] at hl;omega
   have ra:=iha m (by simp [GTr.flat] at hm;omega) hla hw.2 hoa
   have hk:=(aId ht).2.1 hw.1
   have hla2:=aAd hv a hw.2 hoa
   have hlv:=aPA hv hw.2 hoa
   have hwl:=gE (isO a) (xK a)
   show jI (fY m) (.mk t [trT a])=_
   unfold jI
   rw [aPy]
   have h1:(t.Kind == 1)=false:=by simp [hk]
   have h0:(t.Kind == 0)=false:=by simp [hk]
   have h3:(t.Kind == 3)=true:=by simp [hk]
   simp only [Tr.val,Tr.kids,h0,h1,h3,Bool.false_eq_true,if_false,if_true,show ix [trT a] 0=some (trT a) from rfl,aA]
   have hc:fV (fY m) (trT a) (isO a)=some (wrp (isO a) (xK a)):=by
    unfold fV
    cases isO a with
    |true=>rw [if_pos rfl,ra,aA];exact aNx (by omega)
    |false=>rw [if_neg (by simp),ra];rfl
   have hk2:=hlv.2.2.2
   unfold Tr.val at hk2
   rw [hk2,hc,aA,cY (n:=100000000000) (by simp;omega) (by omega),aA]
   rfl
 |two t a b iha ihb=>
  intro m hm hl hw ho
  match m with
  |0=>simp [GTr.flat] at hm
  |m+1=>
   have ht:=ho t (by simp [GTr.flat])
   have hoa:∀ x∈a.flat,sG v x=true:=fun x hx=>ho x (by simp [GTr.flat,hx])
   have hob:∀ x∈b.flat,sG v x=true:=fun x hx=>ho x (by simp [GTr.flat,hx])
   have hla:a.flat.length < 1000000000:=by simp [GTr.flat] at hl;omega
   have hlb:b.flat.length < 1000000000:=by simp [GTr.flat] at hl;omega
   have ra:=iha m (by simp [GTr.flat] at hm;omega) hla hw.2.1 hoa
   have rb:=ihb m (by simp [GTr.flat] at hm;omega) hlb hw.2.2 hob
   have hk:=(aId ht).2.2 hw.1
   have hv':=aFu hv ht
   have hf:=aKj hv'.1 (hv'.2.2 hk)
   have hla2:=aAd hv a hw.2.1 hoa
   have hlb2:=aAd hv b hw.2.2 hob
   have lva:=aPA hv hw.2.1 hoa
   have lvb:=aPA hv hw.2.2 hob
   show jI (fY m) (.mk t [trT a,trT b])=_
   unfold jI
   rw [aPz]
   have h1:(t.Kind == 1)=false:=by simp [hk]
   have h0:(t.Kind == 0)=false:=by simp [hk]
   have h3:(t.Kind == 3)=false:=by simp [hk]
   have hlev:iI (.mk t [trT a,trT b])=some (lvO t.Value):=by
    unfold iI
    simp only [Tr.val,hk,show ((2:Int) == 2)=true from rfl,if_true,hf.2.1,aA]
   simp only [Tr.val,Tr.kids,h0,h1,h3,Bool.false_eq_true,if_false,show ix [trT a,trT b] 0=some (trT a) from rfl,show ix [trT a,trT b] 1=some (trT b) from rfl,aA,hlev,hf.2.2.2.2.1,lva.1,lvb.1]
   have ea:decide ((if isO a then lvT a else 9) < lvO t.Value)=decide (lvT a < lvO t.Value):=by
    cases h:isO a with
    |true=>rfl
    |false=>have:=lva.2.2.1 h;have:=hf.2.2.2.1;simp;omega
   have eb:decide ((if isO b then lvT b else 9)<=lvO t.Value)=decide (lvT b<=lvO t.Value):=by
    cases h:isO b with
    |true=>rfl
    |false=>have:=lvb.2.2.1 h;have:=hf.2.2.2.1;simp;omega
   have hca:∀ c,fV (fY m) (trT a) c=some (wrp c (xK a)):=fun c=>by
    unfold fV
    cases c with
    |true=>rw [if_pos rfl,ra,aA];exact aNx (by omega)
    |false=>rw [if_neg (by simp),ra];rfl
   have hcb:∀ c,fV (fY m) (trT b) c=some (wrp c (xK b)):=fun c=>by
    unfold fV
    cases c with
    |true=>rw [if_pos rfl,rb,aA];exact aNx (by omega)
    |false=>rw [if_neg (by simp),rb];rfl
   have w1:=gE (decide (lvT a < lvO t.Value)) (xK a)
   have w2:=gE (decide (lvT b<=lvO t.Value)) (xK b)
   have:=hf.2.2.2.2.2
   rw [ea,eb,hca,hcb,aA,cY (n:=100000000000) (by omega) (by omega),aA,aA,cY (n:=200000000000) (by rw [List.length_append];omega) (by omega),aA]
theorem text_S {t:GTr aR} (hl:t.flat.length < 1000000000) (hw:t.WF arT) (ho:∀ x∈t.flat,sG v x=true):vA t.flat=some (xK t):=by
 have hsl:∀ {α:Type} (S:List α) (y:List α),slc (S++y) 0 (S.length:Int)=some S:=fun S y=>by
  rw [aOJ (by simp)];simp
 have hsub:∀ {pre post:List aR} {a:GTr aR} {x},t.flat=pre++x::(a.flat++post)->(∀ y∈a.flat,sG v y=true)/\a.flat.length < 1000000000:=fun {pre post a x} he=>⟨fun y hy=>ho y (by rw [he];simp [hy]),by have:t.flat.length=_:=congrArg List.length he;simp at this;omega⟩
 have key:=aKR (step:=fun (s:(List aL × List Int × Int))=>nU t.flat s.1 s.2.1 s.2.2) (mk:=fun (S:List (aL × Int)) i=>(S.map (·.1),S.map (·.2),i)) (val:=fun t=>(xK t,lvT t)) (ar:=arT) (e:=t.flat)
  (fun pre x post S he hS hw=>by
   have hx:sG v x=true:=ho x (by rw [he];simp)
   obtain ⟨h1,h2,_⟩:=aFu hv hx
   have hd:=(kG h1 (by omega)).2
   have hil:=fH h1 (by omega)
   have hlen:t.flat.length=pre.length+(post.length+1):=by rw [he];simp
   have hi:ix t.flat (pre.length:Int)=some x:=by rw [dQ,he];simp
   have w:wr ((pre.length:Int) - 1)=(pre.length:Int) - 1:=dW (by omega) (by omega)
   have a1:∀ y,oH (S.map (·.1)) ([y]:List aL)=some (S.map (·.1)++[y]):=fun y=>fB (by unfold iK;simp;omega)
   have a2:∀ y,oH (S.map (·.2)) ([y]:List Int)=some (S.map (·.2)++[y]):=fun y=>fB (by unfold iK;simp;omega)
   simp only [nU,jH]
   rw [if_pos (by simp),hi,aA,hd]
   simp only [aA,a1,a2,xK,lvT_nul,w,cY (a:=([118]:aL)) (b:=Lib.itoa x.Value) (n:=200) (by simp;omega) (by omega)]
   rcases (aId hx).1 hw with h|h
   ·simp [h]
   ·simp [h])
  (fun pre x a post S he hS hw=>by
   have hx:sG v x=true:=ho x (by rw [he];simp)
   obtain ⟨hoa,hla⟩:=hsub he
   have hlen:t.flat.length=pre.length+(a.flat.length+post.length+1):=by rw [he];simp
   have hi:ix t.flat (pre.length:Int)=some x:=by rw [dQ,he];simp
   have w:wr ((pre.length:Int) - 1)=(pre.length:Int) - 1:=dW (by omega) (by omega)
   have a1:∀ y,oH (S.map (·.1)) ([y]:List aL)=some (S.map (·.1)++[y]):=fun y=>fB (by unfold iK;simp;omega)
   have a2:∀ y,oH (S.map (·.2)) ([y]:List Int)=some (S.map (·.2)++[y]):=fun y=>fB (by unfold iK;simp;omega)
   have hk:=(aId hx).2.1 hw.1
   have la:=aAd hv a hw.2 hoa
   have lva:=aPA hv hw.2 hoa
   have t1:wr (((((S++[(xK a,lvT a)]).map (·.1)).length:Nat):Int) - 1)=(S.length:Int):=by
    rw [List.length_map,List.length_append,List.length_singleton,dW (by omega) (by omega)];omega
   have g1:ix ((S++[(xK a,lvT a)]).map (·.1)) (S.length:Int)=some (xK a):=by rw [dQ,List.map_append];simp
   have g2:ix ((S++[(xK a,lvT a)]).map (·.2)) (S.length:Int)=some (lvT a):=by rw [dQ,List.map_append];simp
   have s1:slc ((S++[(xK a,lvT a)]).map (·.1)) 0 (S.length:Int)=some (S.map (·.1)):=by rw [List.map_append,show (S.length:Int)=((S.map (·.1)).length:Int) by simp,hsl]
   have s2:slc ((S++[(xK a,lvT a)]).map (·.2)) 0 (S.length:Int)=some (S.map (·.2)):=by rw [List.map_append,show (S.length:Int)=((S.map (·.2)).length:Int) by simp,hsl]
   simp only [nU,jH,wE]
   rw [if_pos (by simp),hi,aA]
   have h6:decide (lvT a < 6)=isO a:=by
    cases h:isO a with
    |true=>have:=lva.2.1 h;simp;omega
    |false=>have:=lva.2.2.1 h;simp;omega
   have wl:=gE (isO a) (xK a)
   simp only [show (x.Kind == 0)=false by simp [hk],show (x.Kind == 1)=false by simp [hk],show (x.Kind == 3)=true by simp [hk],Bool.false_eq_true,if_false,if_true,t1,g1,g2,s1,s2,aA,h6,a1,a2,w,aPy,lvT_one]
   cases h:isO a with
   |true=>
    rw [h] at wl
    rw [if_pos rfl,cY (n:=100000000000) (by simp;omega) (by omega),aA,cY (n:=100000000000) (by simp;omega) (by omega),aA,cY (n:=100000000000) (by simp;omega) (by omega),aA]
    simp [wrp]
   |false=>
    rw [if_neg (by simp),cY (n:=100000000000) (by simp;omega) (by omega),aA]
    simp [wrp])
  (fun pre x a b post S he hS hw=>by
   have hx:sG v x=true:=ho x (by rw [he];simp)
   obtain ⟨hoa,hla⟩:=hsub he
   obtain ⟨hob,hlb⟩:(∀ y∈b.flat,sG v y=true)/\b.flat.length < 1000000000:=⟨fun y hy=>ho y (by rw [he];simp [hy]),by have:t.flat.length=_:=congrArg List.length he;simp at this;omega⟩
   have hlen:t.flat.length=pre.length+(a.flat.length+(b.flat.length+post.length)+1):=by rw [he];simp
   have hi:ix t.flat (pre.length:Int)=some x:=by rw [dQ,he];simp
   have w:wr ((pre.length:Int) - 1)=(pre.length:Int) - 1:=dW (by omega) (by omega)
   have a1:∀ y,oH (S.map (·.1)) ([y]:List aL)=some (S.map (·.1)++[y]):=fun y=>fB (by unfold iK;simp;omega)
   have a2:∀ y,oH (S.map (·.2)) ([y]:List Int)=some (S.map (·.2)++[y]):=fun y=>fB (by unfold iK;simp;omega)
   have hk:=(aId hx).2.2 hw.1
   have hv':=aFu hv hx
   have hf:=aKj hv'.1 (hv'.2.2 hk)
   have la:=aAd hv a hw.2.1 hoa
   have lbq:=aAd hv b hw.2.2 hob
   have t1:wr (((((S++[(xK b,lvT b),(xK a,lvT a)]).map (·.1)).length:Nat):Int) - 1)=((S.length+1:Nat):Int):=by
    rw [List.length_map,List.length_append,dW (by simp;omega) (by simp;omega)];simp;omega
   have t2:wr (((S.length+1:Nat):Int) - 1)=(S.length:Int):=by rw [dW (by omega) (by omega)];omega
   have g1:ix ((S++[(xK b,lvT b),(xK a,lvT a)]).map (·.1)) ((S.length+1:Nat):Int)=some (xK a):=by rw [dQ,List.map_append,List.getElem?_append_right (by simp)];simp
   have g2:ix ((S++[(xK b,lvT b),(xK a,lvT a)]).map (·.2)) ((S.length+1:Nat):Int)=some (lvT a):=by rw [dQ,List.map_append,List.getElem?_append_right (by simp)];simp
   have g3:ix ((S++[(xK b,lvT b),(xK a,lvT a)]).map (·.1)) (S.length:Int)=some (xK b):=by rw [dQ,List.map_append,List.getElem?_append_right (by simp)];simp
   have g4:ix ((S++[(xK b,lvT b),(xK a,lvT a)]).map (·.2)) (S.length:Int)=some (lvT b):=by rw [dQ,List.map_append,List.getElem?_append_right (by simp)];simp
   have s1:slc ((S++[(xK b,lvT b),(xK a,lvT a)]).map (·.1)) 0 (S.length:Int)=some (S.map (·.1)):=by rw [List.map_append,show (S.length:Int)=((S.map (·.1)).length:Int) by simp,hsl]
   have s2:slc ((S++[(xK b,lvT b),(xK a,lvT a)]).map (·.2)) 0 (S.length:Int)=some (S.map (·.2)):=by rw [List.map_append,show (S.length:Int)=((S.map (·.2)).length:Int) by simp,hsl]
   simp only [nU,jH,wF,wG]
   rw [if_pos (by simp),hi,aA]
   have w1:=gE (decide (lvT a < lvO x.Value)) (xK a)
   have w2:=gE (decide (lvT b<=lvO x.Value)) (xK b)
   have h2l:=hf.2.2.2.2.2
   simp only [show (x.Kind == 0)=false by simp [hk],show (x.Kind == 1)=false by simp [hk],show (x.Kind == 3)=false by simp [hk],show (x.Kind == 2)=true by simp [hk],Bool.false_eq_true,if_false,if_true,t1,t2,g1,g2,g3,g4,s1,s2,aA,a1,a2,w,aPz,lvT_two,hf.1,ops_eq,hf.2.2.2.2.1]
   have fin:∀ X Y:aL,X.length<=30000000000->Y.length<=30000000000->(ob (eK X (opO x.Value)) fun s223=>ob (eK s223 Y) fun s225=>(some (Sum.inl (S.map (·.1)++[s225],S.map (·.2)++[lvO x.Value],(pre.length:Int) - 1)):Option ((List aL × List Int × Int) ⊕ (List aL))))=some (Sum.inl (S.map (·.1)++[X++opO x.Value++Y],S.map (·.2)++[lvO x.Value],(pre.length:Int) - 1)):=fun X Y hX hY=>by
    rw [cY (n:=100000000000) (by omega) (by omega),aA,cY (n:=100000000000) (by rw [List.length_append];omega) (by omega),aA]
   have pc:∀ X:aL,X.length<=30000000000->eK ([40]:aL) X=some (40::X):=fun X h=>by rw [cY (n:=100000000000) (by simp;omega) (by omega)];rfl
   have pd:∀ X:aL,X.length<=30000000000->eK (40::X) ([41]:aL)=some (40::(X++[41])):=fun X h=>by rw [cY (n:=100000000000) (by simp;omega) (by omega)];rfl
   simp only [List.map_append,List.map_cons,List.map_nil]
   cases h1:decide (lvT a < lvO x.Value)<;>cases h2:decide (lvT b<=lvO x.Value)<;>rw [h1] at w1<;>rw [h2] at w2
   ·simp only [Bool.false_eq_true,if_false,wrp]
    exact fin _ _ (by omega) (by omega)
   ·simp only [Bool.false_eq_true,if_false,if_true,wrp,pc (xK b) (by omega),pd (xK b) (by omega),aA]
    exact fin _ _ (by omega) (by simp;omega)
   ·simp only [Bool.false_eq_true,if_false,if_true,wrp,pc (xK a) (by omega),pd (xK a) (by omega),aA]
    exact fin _ _ (by simp;omega) (by omega)
   ·simp only [if_true,wrp,pc (xK a) (by omega),pd (xK a) (by omega),pc (xK b) (by omega),pd (xK b) (by omega),aA]
    exact fin _ _ (by simp;omega) (by simp;omega))
  rfl hw hl (r:=[xK t]) (by simp only [nU];rfl)
 unfold vA
 simp only [List.map_nil] at key
 rw [key,aA]
 rfl
end
end Gv
namespace Gv
open Go
theorem aKT (sep:aL):∀ (l:List aL) (y:aL),Lib.join (l++[y]) sep=(if l=[] then [] else Lib.join l sep++sep)++y
 |[],y=>by rw [List.nil_append,Lib.join_one,if_pos rfl];rfl
 |x::l,y=>by
  rw [if_neg (by simp),List.cons_append,Lib.join_cons,Lib.join_cons]
  have:Lib.joinTail sep (l++[y])=Lib.joinTail sep l++sep++y:=by
   have h:=Lib.joinTail_take_succ sep (l++[y]) l.length y (by simp)
   rw [List.take_of_length_le (by simp)] at h
   rw [h,List.take_left']
   rfl
  rw [this];simp
theorem aFv {M:Nat}:∀ (l:List aL),(∀ s∈l,s.length<=M)->Lib.lens l<=M * l.length
 |[],_=>by simp [Lib.lens]
 |x::l,h=>by
  have h1:=aFv l fun s hs=>h s (List.mem_cons_of_mem _ hs)
  have h2:=h x (by simp)
  have e:Lib.lens (x::l)=x.length+Lib.lens l:=by simp [Lib.lens]
  rw [e,List.length_cons,Nat.mul_add,Nat.mul_one];omega
theorem join_le (sep:aL) {M:Nat}:∀ (l:List aL),(∀ s∈l,s.length<=M)->(Lib.join l sep).length<=(M+sep.length) * l.length
 |[],_=>by simp [Lib.join_nil]
 |x::l,h=>by
  have h1:=aFv (x::l) h
  rw [Lib.join_length,Nat.add_mul]
  have:sep.length * l.length<=sep.length * (x::l).length:=Nat.mul_le_mul_left _ (by simp)
  omega
theorem aKk {β:Type} {step:aL × Int->Option ((aL × Int) ⊕ aL)} {xs:List β} {f:β->aL} {sep pre:aL}
  (hs:∀ (k:Nat) (hk:k < xs.length),step (pre++Lib.join ((xs.take k).map f) sep,(k:Int))=some (.inl (pre++((if k=0 then [] else Lib.join ((xs.take k).map f) sep++sep)++f xs[k]),((k+1:Nat):Int))))
  (he:∀ out,step (out,(xs.length:Int))=some (.inr out)):loop step (pre,0)=some (pre++Lib.join (xs.map f) sep):=by
 have aux:∀ n k,n+k=xs.length->loop step (pre++Lib.join ((xs.take k).map f) sep,(k:Int))=some (pre++Lib.join (xs.map f) sep):=by
  intro n
  induction n with
  |zero=>intro k hk;rw [Nat.zero_add] at hk;subst hk;rw [List.take_length];exact fJ (he _)
  |succ n ih=>
   intro k hk
   have hk':k < xs.length:=by omega
   rw [oF (hs k hk')]
   have:=ih (k+1) (by omega)
   rw [←this,List.take_add_one,List.getElem?_eq_getElem hk',Option.toList_some,List.map_append,List.map_cons,List.map_nil,aKT]
   congr 4
   by_cases h0:k=0
   ·subst h0;simp
   ·rw [if_neg h0,if_neg]
    intro h
    rw [List.map_eq_nil_iff,List.take_eq_nil_iff] at h
    rcases h with h|h
    ·exact h0 h
    ·subst h;simp at hk'
 have:=aux xs.length 0 rfl
 rw [List.take_zero,List.map_nil,Lib.join_nil,List.append_nil] at this
 exact this
theorem uR {β γ:Type} {step:List γ × Int->Option ((List γ × Int) ⊕ List γ)} {xs:List β} {f:β->γ} {pre:List γ}
  (hs:∀ (k:Nat) (hk:k < xs.length),step (pre++(xs.take k).map f,(k:Int))=some (.inl (pre++(xs.take k).map f++[f xs[k]],((k+1:Nat):Int))))
  (he:∀ out,step (out,(xs.length:Int))=some (.inr out)):loop step (pre,0)=some (pre++xs.map f):=by
 have aux:∀ n k,n+k=xs.length->loop step (pre++(xs.take k).map f,(k:Int))=some (pre++xs.map f):=by
  intro n
  induction n with
  |zero=>intro k hk;rw [Nat.zero_add] at hk;subst hk;rw [List.take_length];exact fJ (he _)
  |succ n ih=>
   intro k hk
   have hk':k < xs.length:=by omega
   rw [oF (hs k hk')]
   have:=ih (k+1) (by omega)
   rw [←this,List.take_add_one,List.getElem?_eq_getElem hk',Option.toList_some,List.map_append,List.map_cons,List.map_nil,List.append_assoc]
 have:=aux xs.length 0 rfl
 rw [List.take_zero,List.map_nil,List.append_nil] at this
 exact this
def TxE (e:List aR):Prop:=∃ t:GTr aR,e=t.flat/\t.WF arT/\e.length<=15/\∀ x∈e,sG 1000 x=true
noncomputable def exT (e:List aR):aL:=(vA e).getD []
theorem aQH {s u:Int} (h:s<=u) {t:aR} (ht:sG s t=true):sG u t=true:=by
 unfold sG at ht ⊢
 split
 ·rename_i h0;rw [if_pos h0] at ht;exact ht
 ·rename_i h0
  rw [if_neg h0] at ht
  split
  ·rename_i h1;rw [if_pos h1] at ht;simp at ht ⊢;omega
  ·rename_i h1;rw [if_neg h1] at ht;exact ht
theorem okE_tx {s:Int} (hs:s<=1000) {e:List aR} (h:okE s e=true):TxE e:=by
 unfold okE at h
 rw [Bool.and_eq_true] at h
 obtain ⟨h1,h2⟩:=h
 obtain ⟨ts,g1,g2,g3⟩:=aFn aNp h2
 match ts,g1 with
 |[t],_=>exact ⟨t,by rw [g2];simp,g3 t (by simp),Int.ofNat_le.1 (of_decide_eq_true h1),fun x hx=>aQH hs (aQu h2 x hx)⟩
theorem tree_I {t:GTr aR} {v:Int} (hv:v<=1000) (hw:t.WF arT) (hl:t.flat.length<=90000) (ho:∀ x∈t.flat,sG v x=true):aIt t.flat=some (trT t):=by
 have:=aQv (vs:=List.replicate 1000 0) (by rw [List.all_eq_true];intro x hx;rw [List.mem_replicate] at hx;rw [hx.2];rfl) t 100000 [] (by omega) (by rw [List.append_nil];omega) hw (fun x hx=>aQH (by rw [List.length_replicate];exact hv) (ho x hx))
 rw [List.append_nil] at this
 unfold aIt aIs
 rw [this];rfl
theorem aIM {e:List aR} (h:TxE e):vA e=some (exT e)/\(∃ t,aIt e=some t/\aAt t=some (exT e))/\(exT e).length<=360:=by
 obtain ⟨t,rfl,hw,hl,ho⟩:=h
 have h1:=text_S (v:=1000) (by omega) (by omega) hw ho
 have h2:=text_I (v:=1000) (by omega) t 100000 (by omega) (by omega) hw ho
 have h3:=aAd (v:=1000) (by omega) t hw ho
 have e:exT t.flat=xK t:=by unfold exT;rw [h1];rfl
 rw [e]
 exact ⟨h1,⟨trT t,tree_I (v:=1000) (by omega) hw (by omega) ho,h2⟩,by omega⟩
noncomputable def argT (l:List (List aR)):aL:=if l=[] then [] else 40::(Lib.join (l.map exT) [44]++[41])
theorem aNy {l:List (List aR)} (h:∀ e∈l,TxE e) (hl:l.length<=1000):(Lib.join (l.map exT) [44]).length<=361 * 1000:=by
 have:=join_le [44] (M:=360) (l.map exT) fun s hs=>by
  rw [List.mem_map] at hs
  obtain ⟨e,he,rfl⟩:=hs
  exact (aIM (h e he)).2.2
 rw [List.length_map] at this
 exact Nat.le_trans this (Nat.mul_le_mul_left _ hl)
theorem aEu {l:List (List aR)} (h:∀ e∈l,TxE e) (hl:l.length<=1000):(argT l).length<=362000:=by
 have:=aNy h hl
 unfold argT
 split
 ·simp
 ·simp;omega
theorem aNz {l:List aL} {sep:aL} {M N:Nat} (h:∀ s∈l,s.length<=M) (hl:l.length<=N):(Lib.join l sep).length<=(M+sep.length) * N:=Nat.le_trans (join_le sep l h) (Nat.mul_le_mul_left _ hl)
theorem aFw {l:List aL} {sep:aL} (h1:l.length < 1000000000) (h2:(Lib.join l sep).length < 1000000000000):aAH l sep=some (Lib.join l sep):=by
 unfold aAH iK
 rw [if_pos ⟨by omega,by omega⟩]
theorem aOL {l:List (List aR)} (h:∀ e∈l,TxE e) (hl:l.length<=1000):aAu l=some (argT l):=by
 unfold aAu argT
 by_cases h0:l=[]
 ·subst h0;rfl
 have hb:=aNy h hl
 rw [if_neg (by simpa using h0),if_neg h0]
 have:=uR (step:=fun s=>aDk l s.1 s.2) (xs:=l) (f:=exT) (pre:=[]) (fun k hk=>by
  obtain ⟨g1,⟨t,g2,g3⟩,g4⟩:=aIM (h _ (List.getElem_mem hk))
  have a1:∀ y,oH ((l.take k).map exT) ([y]:List aL)=some ((l.take k).map exT++[y]):=fun y=>fB (by unfold iK;simp;omega)
  simp only [aDk,bV hk,if_true,bY hk,aA,g2,g3,List.nil_append,a1,bO hk (show l.length < 4611686018427387904 by omega)]) (fun out=>by simp only [aDk,bL];rfl)
 rw [this,aA,List.nil_append]
 unfold aGu
 rw [aFw (by simp;omega) (by omega),aA,cY (n:=100000000000) (by simp;omega) (by omega),aA,cY (n:=100000000000) (by simp;omega) (by omega),aA]
 rfl
theorem Row_eq {l:List (List aR)} (h:∀ e∈l,TxE e) (hl:l.length<=1000) {sep:aL} (hs:sep.length<=10):aGp l sep=some (Lib.join (l.map exT) sep):=by
 unfold aGp
 have:=aKk (step:=fun s=>aAp l sep s.1 s.2) (xs:=l) (f:=exT) (sep:=sep) (pre:=[]) (fun k hk=>by
  obtain ⟨g1,_,g4⟩:=aIM (h _ (List.getElem_mem hk))
  have hb:=aNz (sep:=sep) (M:=360) (N:=1000) (l:=(l.take k).map exT) (fun s hs=>by
   rw [List.mem_map] at hs
   obtain ⟨e,he,rfl⟩:=hs
   exact (aIM (h e (List.mem_of_mem_take he))).2.2) (by simp;omega)
  have hb':(Lib.join ((l.take k).map exT) sep).length<=370000:=by
    have:(360+sep.length) * 1000<=370000:=by omega
    omega
  simp only [aAp,bV hk,if_true,List.nil_append]
  by_cases h0:k=0
  ·subst h0
   rw [if_neg (by simp),if_pos rfl]
   simp only [aAo,bY hk,aA,g1,List.take_zero,List.map_nil,Lib.join_nil,cY (a:=([]:aL)) (b:=exT l[0]) (n:=100000000000) (by simp;omega) (by omega),bO hk (show l.length < 4611686018427387904 by omega)]
  ·rw [if_pos (by simp;omega),if_neg h0,cY (n:=100000000000) (by omega) (by omega),aA]
   simp only [aAo,bY hk,aA,g1,cY (a:=Lib.join ((l.take k).map exT) sep++sep) (b:=exT l[k]) (n:=100000000000) (by rw [List.length_append];omega) (by omega),bO hk (show l.length < 4611686018427387904 by omega)]) (fun out=>by simp only [aAp,bL];rfl)
 rw [this,aA,List.nil_append]
 rfl
theorem Args_eq {l:List (List aR)} (h:∀ e∈l,TxE e) (hl:l.length<=1000):aEb l=some (argT l):=by
 unfold aEb argT
 by_cases h0:l=[]
 ·subst h0;rfl
 have hb:=aNy h hl
 rw [if_neg (by simpa using h0),if_neg h0,Row_eq h hl (by simp),aA,cY (n:=100000000000) (by simp;omega) (by omega),aA,cY (n:=100000000000) (by simp;omega) (by omega),aA]
 rfl
structure PrP (l:List Definition) (p:bG):Prop where
 kind:0<=p.Kind/\p.Kind<=5
 args:∀ e∈p.Arguments,TxE e
 argn:p.Arguments.length<=1000
 name:p.Name.length<=1000
 guard:p.Kind=3->p.Arguments.length=1
 call:p.Kind=5->0<=p.Number/\p.Number < (l.length:Int)
 num:p.Kind=4->0<=p.Number/\p.Number<=1000
def mH:GTr bG->Bool
 |.two ..=>true
 |_=>false
noncomputable def preP (p:bG):aL:=if p.Kind == 1 then p.Name++argT p.Arguments++[46] else if p.Kind == 3 then 91::(exT (p.Arguments.getD 0 [])++[93]) else [115,117,109,32]++Lib.itoa p.Number++[46]
noncomputable def endT (l:List Definition) (p:bG):aL:=if p.Kind == 5 then (l.getD p.Number.toNat ⟨[],0,[]⟩).Name++argT p.Arguments else [48]
noncomputable def txB (l:List Definition):GTr bG->aL
 |.nul p=>endT l p
 |.one p a=>preP p++wrp (mH a) (txB l a)
 |.two _ a b=>wrp (mH a) (txB l a)++[32,43,32]++txB l b
section
variable {l:List Definition} (hn:∀ d∈l,d.Name.length<=1000)
theorem aPB {p:bG} (h:PrP l p) (h4:fK p=1):(preP p).length<=400000:=by
 have h1:=aEu h.args h.argn
 have h2:=h.name
 unfold preP
 split
 ·simp;omega
 ·split
  ·rename_i k3
   have k3:p.Kind=3:=by simpa using k3
   have g:=h.guard k3
   have:=(aIM (h.args (p.Arguments.getD 0 []) (by rw [List.getD_eq_getElem?_getD,List.getElem?_eq_getElem (by omega)];exact List.getElem_mem _))).2.2
   simp only [List.length_cons,List.length_append,List.length_nil];omega
  ·rename_i k1 k3
   have k4:p.Kind=4:=by
    unfold fK at h4
    by_cases k4:p.Kind=4
    ·exact k4
    ·have k1:¬ p.Kind=1:=by simpa using k1
     have k3:¬ p.Kind=3:=by simpa using k3
     simp [k1,k3,k4] at h4
     split at h4<;>omega
   have g:=h.num k4
   have:=fH g.1 (by omega)
   simp;omega
include hn
theorem end_len {p:bG} (h:PrP l p):(endT l p).length<=400000:=by
 have h1:=aEu h.args h.argn
 unfold endT
 split
 ·rename_i k5
  have g:=h.call (by simpa using k5)
  have hlt:p.Number.toNat < l.length:=by omega
  have:=hn l[p.Number.toNat] (List.getElem_mem hlt)
  rw [List.getD_eq_getElem?_getD,List.getElem?_eq_getElem hlt,List.length_append]
  simp only [Option.getD_some]
  omega
 ·simp
theorem xL:∀ (t:GTr bG),t.WF fK->(∀ p∈t.flat,PrP l p)->(txB l t).length<=500000 * t.flat.length
 |.nul p,hw,ho=>by
  have:=end_len hn (ho p (by simp [GTr.flat]))
  simp only [txB,GTr.flat,List.length_singleton];omega
 |.one p a,hw,ho=>by
  have h1:=aPB (ho p (by simp [GTr.flat])) hw.1
  have h2:=xL a hw.2 (fun x hx=>ho x (by simp [GTr.flat,hx]))
  have h3:=gE (mH a) (txB l a)
  simp only [txB,GTr.flat,List.length_cons,List.length_append];omega
 |.two p a b,hw,ho=>by
  have h1:=xL a hw.2.1 (fun x hx=>ho x (by simp [GTr.flat,hx]))
  have h2:=xL b hw.2.2 (fun x hx=>ho x (by simp [GTr.flat,hx]))
  have h3:=gE (mH a) (txB l a)
  simp only [txB,GTr.flat,List.length_cons,List.length_append,List.length_nil];omega
omit hn in
theorem head_ch {t:GTr bG} (hw:t.WF fK) (post:List bG):∃ p r,t.flat++post=p::r/\(p.Kind == 2)=mH t:=by
 cases t with
 |nul p=>
  refine ⟨p,post,rfl,?_⟩
  have:fK p=0:=hw
  unfold fK at this
  cases h:p.Kind == 2 with
  |false=>rfl
  |true=>simp at h;simp [h] at this
 |one p a=>
  refine ⟨p,a.flat++post,rfl,?_⟩
  have:fK p=1:=hw.1
  unfold fK at this
  cases h:p.Kind == 2 with
  |false=>rfl
  |true=>simp at h;simp [h] at this
 |two p a b=>
  refine ⟨p,a.flat++b.flat++post,rfl,?_⟩
  have:=aEr.2 hw.1
  simp [this,mH]
theorem part_I:∀ (t:GTr bG) (m:Nat) (post:List bG),t.flat.length<=m->(t.flat++post).length<=90000->t.WF fK->(∀ p∈t.flat,PrP l p)->eG m l (t.flat++post)=some (txB l t,post):=by
 have inner:∀ (rec_:List Definition->List bG->Option (aL × List bG)) (t:GTr bG) (post:List bG),(t.flat++post).length<=90000->t.WF fK->(∀ p∈t.flat,PrP l p)->rec_ l (t.flat++post)=some (txB l t,post)->fW rec_ l (t.flat++post)=some (wrp (mH t) (txB l t),post):=by
  intro rec_ t post hl hw ho hr
  have hlen:=xL hn t hw ho
  have hll:t.flat.length<=90000:=by simp at hl;omega
  obtain ⟨p,r,e1,e2⟩:=head_ch hw post
  unfold fW
  rw [hr,e1,show ix (p::r) 0=some p from rfl,aA,e2]
  cases mH t with
  |true=>rw [if_pos rfl,aA,cY (n:=100000000000) (by simp only [List.length_cons,List.length_append,List.length_nil];omega) (by omega),aA,cY (n:=100000000000) (by simp only [List.length_cons,List.length_append,List.length_nil];omega) (by omega),aA];rfl
  |false=>rw [if_neg (by simp),aA];rfl
 have hs:∀ (p:bG) (r:List bG),r.length<=90000->slc (p::r) 1 ((p::r).length:Int)=some r:=fun p r hr=>by
  unfold slc
  rw [if_pos ⟨by omega,by simp;omega,by simp⟩,show ((1:Int)).toNat=1 from rfl,List.drop_succ_cons,List.drop_zero,List.take_of_length_le (by simp)]
 intro t
 induction t with
 |nul p=>
  intro m post hm hl hw ho
  match m with
  |0=>simp [GTr.flat] at hm
  |m+1=>
   have hp:=ho p (by simp [GTr.flat])
   have hf:fK p=0:=hw
   have hal:=aEu hp.args hp.argn
   have hel:=end_len hn hp
   have hk:p.Kind=0\/p.Kind=5:=by
    have:=hp.kind
    unfold fK at hf
    by_cases k1:p.Kind=1;· simp [k1] at hf
    by_cases k2:p.Kind=2;· simp [k2] at hf
    by_cases k3:p.Kind=3;· simp [k3] at hf
    by_cases k4:p.Kind=4;· simp [k4] at hf
    omega
   show fG (eG m) l (p::post)=_
   unfold fG
   rw [show ix (p::post) 0=some p from rfl,aA,hs p post (by simp [GTr.flat] at hl;omega),aA]
   unfold txB endT
   rcases hk with h|h
   ·simp [h]
   ·have g:=hp.call h
    have hlt:p.Number.toNat < l.length:=by omega
    have hnm:=hn l[p.Number.toNat] (List.getElem_mem hlt)
    have hix:ix l p.Number=some l[p.Number.toNat]:=by unfold ix;rw [if_pos g.1];simp [hlt]
    simp only [h,show ((5:Int) == 1)=false from rfl,show ((5:Int) == 2)=false from rfl,show ((5:Int) == 3)=false from rfl,show ((5:Int) == 4)=false from rfl,show ((5:Int) == 5)=true from rfl,Bool.false_eq_true,if_false,if_true,hix,aA,aOL hp.args hp.argn]
    rw [cY (n:=100000000000) (by omega) (by omega),aA,List.getD_eq_getElem?_getD,List.getElem?_eq_getElem hlt]
    rfl
 |one p a iha=>
  intro m post hm hl hw ho
  match m with
  |0=>simp [GTr.flat] at hm
  |m+1=>
   have hp:=ho p (by simp [GTr.flat])
   have hoa:∀ q∈a.flat,PrP l q:=fun q hq=>ho q (by simp [GTr.flat,hq])
   have hla:(a.flat++post).length<=90000:=by simp [GTr.flat] at hl ⊢;omega
   have ra:=iha m post (by simp [GTr.flat] at hm;omega) hla hw.2 hoa
   have ri:=inner (eG m) a post hla hw.2 hoa ra
   have hpl:=aPB hp hw.1
   have hal:=aEu hp.args hp.argn
   have hnl:=hp.name
   have hxl:=xL hn a hw.2 hoa
   have hwl:=gE (mH a) (txB l a)
   have haf:a.flat.length<=90000:=by simp at hla;omega
   have fin:∀ X:aL,X.length<=400000->(ob (eK X (wrp (mH a) (txB l a))) fun s=>some (s,post))=some (X++wrp (mH a) (txB l a),post):=fun X hX=>by rw [cY (n:=100000000000) (by omega) (by omega),aA]
   show fG (eG m) l (p::(a.flat++post))=_
   unfold fG
   rw [show ix (p::(a.flat++post)) 0=some p from rfl,aA,hs p _ hla,aA,ri]
   have hk:p.Kind=1\/p.Kind=3\/p.Kind=4:=by
    have hf:fK p=1:=hw.1
    unfold fK at hf
    by_cases k1:p.Kind=1;· exact .inl k1
    by_cases k3:p.Kind=3;· exact .inr (.inl k3)
    by_cases k4:p.Kind=4;· exact .inr (.inr k4)
    simp [k1,k3,k4] at hf
    split at hf<;>omega
   have ht:txB l (.one p a)=preP p++wrp (mH a) (txB l a):=rfl
   rw [ht]
   unfold preP at hpl ⊢
   rcases hk with h|h|h
   ·simp only [h,show ((1:Int) == 1)=true from rfl,if_true] at hpl ⊢
    rw [aOL hp.args hp.argn,aA,cY (n:=100000000000) (by omega) (by omega),aA,cY (n:=100000000000) (by simp only [List.length_cons,List.length_append,List.length_nil];omega) (by omega),aA,aA]
    exact fin _ hpl
   ·simp only [h,show ((3:Int) == 1)=false from rfl,show ((3:Int) == 2)=false from rfl,show ((3:Int) == 3)=true from rfl,Bool.false_eq_true,if_false,if_true] at hpl ⊢
    have g:=hp.guard h
    have hix:ix p.Arguments 0=some (p.Arguments.getD 0 []):=by
     rw [show (0:Int)=((0:Nat):Int) from rfl,bY (by omega),List.getD_eq_getElem?_getD,List.getElem?_eq_getElem (by omega)];rfl
    obtain ⟨_,⟨t,g2,g3⟩,g4⟩:=aIM (hp.args (p.Arguments.getD 0 []) (by rw [List.getD_eq_getElem?_getD,List.getElem?_eq_getElem (by omega)];exact List.getElem_mem _))
    rw [hix,aA,g2,aA,g3,aA,cY (n:=100000000000) (by simp only [List.length_cons,List.length_append,List.length_nil];omega) (by omega),aA,cY (n:=100000000000) (by simp only [List.length_cons,List.length_append,List.length_nil];omega) (by omega),aA,aA]
    exact fin _ hpl
   ·simp only [h,show ((4:Int) == 1)=false from rfl,show ((4:Int) == 2)=false from rfl,show ((4:Int) == 3)=false from rfl,show ((4:Int) == 4)=true from rfl,Bool.false_eq_true,if_false,if_true] at hpl ⊢
    have g:=hp.num h
    have:=fH g.1 (by omega)
    rw [(kG g.1 (by omega)).1,aA,cY (n:=100000000000) (by simp only [List.length_cons,List.length_append,List.length_nil];omega) (by omega),aA,cY (n:=100000000000) (by simp only [List.length_cons,List.length_append,List.length_nil];omega) (by omega),aA,aA]
    exact fin _ hpl
 |two p a b iha ihb=>
  intro m post hm hl hw ho
  match m with
  |0=>simp [GTr.flat] at hm
  |m+1=>
   have hoa:∀ q∈a.flat,PrP l q:=fun q hq=>ho q (by simp [GTr.flat,hq])
   have hob:∀ q∈b.flat,PrP l q:=fun q hq=>ho q (by simp [GTr.flat,hq])
   have hla:(a.flat++(b.flat++post)).length<=90000:=by simp [GTr.flat] at hl ⊢;omega
   have hlb:(b.flat++post).length<=90000:=by simp at hla ⊢;omega
   have ra:=iha m (b.flat++post) (by simp [GTr.flat] at hm;omega) hla hw.2.1 hoa
   have rb:=ihb m post (by simp [GTr.flat] at hm;omega) hlb hw.2.2 hob
   have ri:=inner (eG m) a (b.flat++post) hla hw.2.1 hoa ra
   have hxl:=xL hn a hw.2.1 hoa
   have hxb:=xL hn b hw.2.2 hob
   have hwl:=gE (mH a) (txB l a)
   have haf:a.flat.length+b.flat.length<=90000:=by simp at hla;omega
   have hk:=aEr.2 hw.1
   rw [show (GTr.two p a b).flat++post=p::(a.flat++(b.flat++post)) by simp [GTr.flat]]
   show fG (eG m) l (p::(a.flat++(b.flat++post)))=_
   unfold fG
   rw [show ix (p::(a.flat++(b.flat++post))) 0=some p from rfl,aA,hs p _ hla,aA,ri]
   simp only [hk,show ((2:Int) == 1)=false from rfl,show ((2:Int) == 2)=true from rfl,Bool.false_eq_true,if_false,if_true]
   rw [aA,cY (n:=100000000000) (by simp only [List.length_cons,List.length_append,List.length_nil];omega) (by omega),aA,rb,aA,cY (n:=200000000000) (by simp only [List.length_cons,List.length_append,List.length_nil];omega) (by omega),aA]
   rfl
theorem body_S {t:GTr bG} (hl:t.flat.length<=90000) (hw:t.WF fK) (ho:∀ p∈t.flat,PrP l p):yJ l t.flat=some (txB l t):=by
 have hsl:∀ {α:Type} (S:List α) (y:List α),slc (S++y) 0 (S.length:Int)=some S:=fun S y=>by
  rw [aOJ (by simp)];simp
 have hsub:∀ {pre post:List bG} {a:GTr bG} {x},t.flat=pre++x::(a.flat++post)->(∀ y∈a.flat,PrP l y)/\a.flat.length<=90000:=fun {pre post a x} he=>⟨fun y hy=>ho y (by rw [he];simp [hy]),by have:t.flat.length=_:=congrArg List.length he;simp at this;omega⟩
 have key:=aKR (step:=fun (s:(List aL × List Bool × Int))=>nV l t.flat s.1 s.2.1 s.2.2) (mk:=fun (S:List (aL × Bool)) i=>(S.map (·.1),S.map (·.2),i)) (val:=fun t=>(txB l t,mH t)) (ar:=fK) (e:=t.flat)
  (fun pre x post S he hS hw=>by
   have hp:=ho x (by rw [he];simp)
   have hf:fK x=0:=hw
   have hal:=aEu hp.args hp.argn
   have hlen:t.flat.length=pre.length+(post.length+1):=by rw [he];simp
   have hi:ix t.flat (pre.length:Int)=some x:=by rw [dQ,he];simp
   have w:wr ((pre.length:Int) - 1)=(pre.length:Int) - 1:=dW (by omega) (by omega)
   have a1:∀ y,oH (S.map (·.1)) ([y]:List aL)=some (S.map (·.1)++[y]):=fun y=>fB (by unfold iK;simp;omega)
   have a2:∀ y,oH (S.map (·.2)) ([y]:List Bool)=some (S.map (·.2)++[y]):=fun y=>fB (by unfold iK;simp;omega)
   have hk:x.Kind=0\/x.Kind=5:=by
    have:=hp.kind
    unfold fK at hf
    by_cases k1:x.Kind=1;· simp [k1] at hf
    by_cases k2:x.Kind=2;· simp [k2] at hf
    by_cases k3:x.Kind=3;· simp [k3] at hf
    by_cases k4:x.Kind=4;· simp [k4] at hf
    omega
   simp only [nV,gU]
   rw [if_pos (by simp),hi,aA]
   simp only [a1,a2,w,txB,mH,endT]
   rcases hk with h|h
   ·simp [h]
   ·have g:=hp.call h
    have hlt:x.Number.toNat < l.length:=by omega
    have hnm:=hn l[x.Number.toNat] (List.getElem_mem hlt)
    have hix:ix l x.Number=some l[x.Number.toNat]:=by unfold ix;rw [if_pos g.1];simp [hlt]
    simp only [h,show ((5:Int) == 0)=false from rfl,show ((5:Int) == 5)=true from rfl,Bool.false_eq_true,if_false,if_true,hix,aA,Args_eq hp.args hp.argn]
    rw [cY (n:=100000000000) (by omega) (by omega),aA,List.getD_eq_getElem?_getD,List.getElem?_eq_getElem hlt]
    simp)
  (fun pre x a post S he hS hw=>by
   have hp:=ho x (by rw [he];simp)
   obtain ⟨hoa,hla⟩:=hsub he
   have hlen:t.flat.length=pre.length+(a.flat.length+post.length+1):=by rw [he];simp
   have hi:ix t.flat (pre.length:Int)=some x:=by rw [dQ,he];simp
   have w:wr ((pre.length:Int) - 1)=(pre.length:Int) - 1:=dW (by omega) (by omega)
   have a1:∀ y,oH (S.map (·.1)) ([y]:List aL)=some (S.map (·.1)++[y]):=fun y=>fB (by unfold iK;simp;omega)
   have a2:∀ y,oH (S.map (·.2)) ([y]:List Bool)=some (S.map (·.2)++[y]):=fun y=>fB (by unfold iK;simp;omega)
   have hpl:=aPB hp hw.1
   have hal:=aEu hp.args hp.argn
   have hnl:=hp.name
   have hxl:=xL hn a hw.2 hoa
   have hwl:=gE (mH a) (txB l a)
   have t1:wr (((((S++[(txB l a,mH a)]).map (·.1)).length:Nat):Int) - 1)=(S.length:Int):=by
    rw [List.length_map,List.length_append,List.length_singleton,dW (by omega) (by omega)];omega
   have g1:ix ((S++[(txB l a,mH a)]).map (·.1)) (S.length:Int)=some (txB l a):=by rw [dQ,List.map_append];simp
   have g2:ix ((S++[(txB l a,mH a)]).map (·.2)) (S.length:Int)=some (mH a):=by rw [dQ,List.map_append];simp
   have s1:slc ((S++[(txB l a,mH a)]).map (·.1)) 0 (S.length:Int)=some (S.map (·.1)):=by rw [List.map_append,show (S.length:Int)=((S.map (·.1)).length:Int) by simp,hsl]
   have s2:slc ((S++[(txB l a,mH a)]).map (·.2)) 0 (S.length:Int)=some (S.map (·.2)):=by rw [List.map_append,show (S.length:Int)=((S.map (·.2)).length:Int) by simp,hsl]
   have fin:∀ X:aL,X.length<=400000->eK X (wrp (mH a) (txB l a))=some (X++wrp (mH a) (txB l a)):=fun X hX=>cY (n:=100000000000) (by omega) (by omega)
   simp only [nV,gU]
   rw [if_pos (by simp),hi,aA]
   have hk:x.Kind=1\/x.Kind=3\/x.Kind=4:=by
    have hf:fK x=1:=hw.1
    unfold fK at hf
    by_cases k1:x.Kind=1;· exact .inl k1
    by_cases k3:x.Kind=3;· exact .inr (.inl k3)
    by_cases k4:x.Kind=4;· exact .inr (.inr k4)
    simp [k1,k3,k4] at hf
    split at hf<;>omega
   have ht:txB l (.one x a)=preP x++wrp (mH a) (txB l a):=rfl
   have hc:mH (.one x a)=false:=rfl
   simp only [t1,g1,g2,s1,s2,aA,aFt (mH a) (show (txB l a).length<=100000000000 by omega),ht,hc]
   unfold preP at hpl ⊢
   rcases hk with h|h|h
   ·simp only [h,show ((1:Int) == 0)=false from rfl,show ((1:Int) == 5)=false from rfl,show ((1:Int) == 2)=false from rfl,show ((1:Int) == 1)=true from rfl,Bool.false_eq_true,if_false,if_true] at hpl ⊢
    rw [Args_eq hp.args hp.argn,aA,cY (n:=100000000000) (by omega) (by omega),aA,cY (n:=100000000000) (by simp only [List.length_cons,List.length_append,List.length_nil];omega) (by omega),aA,fin _ hpl,aA,a1,aA,a2,aA,w]
    simp
   ·simp only [h,show ((3:Int) == 0)=false from rfl,show ((3:Int) == 5)=false from rfl,show ((3:Int) == 1)=false from rfl,show ((3:Int) == 2)=false from rfl,show ((3:Int) == 3)=true from rfl,Bool.false_eq_true,if_false,if_true] at hpl ⊢
    have g:=hp.guard h
    have hix:ix x.Arguments 0=some (x.Arguments.getD 0 []):=by
     rw [show (0:Int)=((0:Nat):Int) from rfl,bY (by omega),List.getD_eq_getElem?_getD,List.getElem?_eq_getElem (by omega)];rfl
    obtain ⟨g2,_,g4⟩:=aIM (hp.args (x.Arguments.getD 0 []) (by rw [List.getD_eq_getElem?_getD,List.getElem?_eq_getElem (by omega)];exact List.getElem_mem _))
    rw [hix,aA,g2,aA,cY (n:=100000000000) (by simp only [List.length_cons,List.length_append,List.length_nil];omega) (by omega),aA,cY (n:=100000000000) (by simp only [List.length_cons,List.length_append,List.length_nil];omega) (by omega),aA]
    rw [show ([91]++exT (x.Arguments.getD 0 [])++[93]:aL)=91::(exT (x.Arguments.getD 0 [])++[93]) from rfl,fin _ hpl,aA,a1,aA,a2,aA,w]
    simp
   ·simp only [h,show ((4:Int) == 0)=false from rfl,show ((4:Int) == 5)=false from rfl,show ((4:Int) == 1)=false from rfl,show ((4:Int) == 2)=false from rfl,show ((4:Int) == 3)=false from rfl,show ((4:Int) == 4)=true from rfl,Bool.false_eq_true,if_false,if_true] at hpl ⊢
    have g:=hp.num h
    have:=fH g.1 (by omega)
    rw [(kG g.1 (by omega)).2,aA,cY (n:=100000000000) (by simp only [List.length_cons,List.length_append,List.length_nil];omega) (by omega),aA,cY (n:=100000000000) (by simp only [List.length_cons,List.length_append,List.length_nil];omega) (by omega),aA,fin _ hpl,aA,a1,aA,a2,aA,w]
    simp)
  (fun pre x a b post S he hS hw=>by
   obtain ⟨hoa,hla⟩:=hsub he
   obtain ⟨hob,hlb⟩:(∀ y∈b.flat,PrP l y)/\b.flat.length<=90000:=⟨fun y hy=>ho y (by rw [he];simp [hy]),by have:t.flat.length=_:=congrArg List.length he;simp at this;omega⟩
   have hlen:t.flat.length=pre.length+(a.flat.length+(b.flat.length+post.length)+1):=by rw [he];simp
   have hi:ix t.flat (pre.length:Int)=some x:=by rw [dQ,he];simp
   have w:wr ((pre.length:Int) - 1)=(pre.length:Int) - 1:=dW (by omega) (by omega)
   have a1:∀ y,oH (S.map (·.1)) ([y]:List aL)=some (S.map (·.1)++[y]):=fun y=>fB (by unfold iK;simp;omega)
   have a2:∀ y,oH (S.map (·.2)) ([y]:List Bool)=some (S.map (·.2)++[y]):=fun y=>fB (by unfold iK;simp;omega)
   have hk:=aEr.2 hw.1
   have hxl:=xL hn a hw.2.1 hoa
   have hxb:=xL hn b hw.2.2 hob
   have hwl:=gE (mH a) (txB l a)
   have t1:wr (((((S++[(txB l b,mH b),(txB l a,mH a)]).map (·.1)).length:Nat):Int) - 1)=((S.length+1:Nat):Int):=by
    rw [List.length_map,List.length_append,dW (by simp;omega) (by simp;omega)];simp;omega
   have t2:wr (((S.length+1:Nat):Int) - 1)=(S.length:Int):=by rw [dW (by omega) (by omega)];omega
   have g1:ix ((S++[(txB l b,mH b),(txB l a,mH a)]).map (·.1)) ((S.length+1:Nat):Int)=some (txB l a):=by rw [dQ,List.map_append,List.getElem?_append_right (by simp)];simp
   have g2:ix ((S++[(txB l b,mH b),(txB l a,mH a)]).map (·.2)) ((S.length+1:Nat):Int)=some (mH a):=by rw [dQ,List.map_append,List.getElem?_append_right (by simp)];simp
   have g3:ix ((S++[(txB l b,mH b),(txB l a,mH a)]).map (·.1)) (S.length:Int)=some (txB l b):=by rw [dQ,List.map_append,List.getElem?_append_right (by simp)];simp
   have s1:slc ((S++[(txB l b,mH b),(txB l a,mH a)]).map (·.1)) 0 (S.length:Int)=some (S.map (·.1)):=by rw [List.map_append,show (S.length:Int)=((S.map (·.1)).length:Int) by simp,hsl]
   have s2:slc ((S++[(txB l b,mH b),(txB l a,mH a)]).map (·.2)) 0 (S.length:Int)=some (S.map (·.2)):=by rw [List.map_append,show (S.length:Int)=((S.map (·.2)).length:Int) by simp,hsl]
   simp only [nV,gU]
   rw [if_pos (by simp),hi,aA]
   simp only [hk,show ((2:Int) == 0)=false from rfl,show ((2:Int) == 5)=false from rfl,show ((2:Int) == 2)=true from rfl,Bool.false_eq_true,if_false,if_true,t1,t2,g1,g2,g3,s1,s2,aA,aFt (mH a) (show (txB l a).length<=100000000000 by omega)]
   rw [cY (n:=100000000000) (by simp only [List.length_cons,List.length_append,List.length_nil];omega) (by omega),aA,cY (n:=200000000000) (by simp only [List.length_cons,List.length_append,List.length_nil];omega) (by omega),aA,a1,aA,a2,aA,w]
   simp [txB,mH])
  rfl hw (by omega) (r:=[txB l t]) (by simp only [nV];rfl)
 unfold yJ
 simp only [List.map_nil] at key
 rw [key,aA]
 rfl
end
end Gv
namespace Gv
open Go
theorem aKU (sep:aL) (l:List aL):(Lib.join l sep).length<=Lib.lens l+sep.length * l.length:=by
 cases l with
 |nil=>simp [Lib.join_nil]
 |cons x r=>rw [Lib.join_length];have:sep.length * r.length<=sep.length * (x::r).length:=Nat.mul_le_mul_left _ (by simp);omega
theorem aHn {n:Nat} (h:¬ n=0):decide (0 < (n:Int))=true:=by simp;omega
theorem aKl (a b:List aL):Lib.lens (a++b)=Lib.lens a+Lib.lens b:=by simp [Lib.lens]
theorem getD_ix {β:Type} {l:List β} {i:Int} (h0:0<=i) (h1:i < (l.length:Int)) (d:β):ix l i=some (l.getD i.toNat d)/\l.getD i.toNat d∈l:=by
 have hlt:i.toNat < l.length:=by omega
 have e:l.getD i.toNat d=l[i.toNat]:=by rw [List.getD_eq_getElem?_getD,List.getElem?_eq_getElem hlt];rfl
 rw [e]
 exact ⟨by unfold ix;rw [if_pos h0];simp [hlt],List.getElem_mem hlt⟩
theorem prP_of {l:List Definition} {p:bG} {pl:dH} (h:yZ l pl p=true) (hs:pl.scope<=1000) (hpar:∀ d∈l,aFq d=true):PrP l p:=by
 unfold yZ at h
 simp only [Bool.and_eq_true] at h
 obtain ⟨⟨⟨⟨⟨⟨k1,k2⟩,k3⟩,k4⟩,k5⟩,k6⟩,k7⟩:=h
 have args:∀ e∈p.Arguments,TxE e:=fun e he=>okE_tx hs (List.all_eq_true.1 k7 e he)
 unfold aIc at k1
 unfold aIL at k4
 unfold yY at k3
 by_cases h0:p.Kind=0
 ·simp [h0] at k1
  exact ⟨by omega,args,by simp [k1],by simp [k1],by omega,by omega,by omega⟩
 by_cases h2:p.Kind=2
 ·simp [h2] at k1
  exact ⟨by omega,args,by simp [k1],by simp [k1],by omega,by omega,by omega⟩
 by_cases h1:p.Kind=1
 ·simp [h1] at k2 k4
  have:=aEt k2
  exact ⟨by omega,args,by omega,by omega,by omega,by omega,by omega⟩
 by_cases h3:p.Kind=3
 ·simp [h3] at k1 k4
  exact ⟨by omega,args,by omega,by simp [k1],fun _=>by omega,by omega,by omega⟩
 by_cases h4:p.Kind=4
 ·simp [h4] at k1 k3
  exact ⟨by omega,args,by simp [k1],by simp [k1],by omega,by omega,fun _=>by omega⟩
 ·simp [h0,h1,h2,h3,h4] at k1
  simp [k1.1] at k3 k4
  have hg:=getD_ix k3.1 k3.2 (⟨[],0,[]⟩:Definition)
  have hp:=hpar _ hg.2
  unfold aFq at hp
  simp only [Bool.and_eq_true,decide_eq_true_eq] at hp
  have h8:(p.Arguments.length:Int)<=3:=by
   rw [List.getD_eq_getElem?_getD] at hp
   rw [k4];exact hp.2
  exact ⟨by omega,args,by omega,by simp [k1],by omega,fun _=>k3,by omega⟩
noncomputable def bT (l:List Definition) (b:List bG):aL:=(yJ l b).getD []
theorem aKV {l:List Definition} (h:sH l):∀ d∈l,oE d.Name=true:=fun d hd=>by
 obtain ⟨k,hk,rfl⟩:=List.getElem_of_mem hd
 exact (h.2.2.2.2 k hk).1
theorem bT_eq {l:List Definition} (h:sH l) {d:Definition} (hd:d∈l):yJ l d.Body=some (bT l d.Body)/\wZ l d.Body=some (bT l d.Body,[])/\(bT l d.Body).length<=10000000:=by
 have hb:=h.2.2.2.1 d hd
 unfold aAC at hb
 simp only [decide_eq_true_eq] at hb
 obtain ⟨h20,t,ht,hw,hok⟩:=hb
 have hp:=h.2.2.1 d hd
 unfold aFq at hp
 simp only [Bool.and_eq_true,decide_eq_true_eq] at hp
 have hpr:∀ p∈t.flat,PrP l p:=fun p hpm=>by
  rw [←ht] at hpm
  obtain ⟨i,hi,rfl⟩:=List.getElem_of_mem hpm
  have hi2:i < (plT d.Parameters false t).length:=by rw [oG,←ht];exact hi
  have hsc:=aEs t d.Parameters false _ (List.getElem_mem hi2)
  rw [←ht] at hsc
  exact prP_of (hok i _ _ (List.getElem?_eq_getElem hi) (List.getElem?_eq_getElem hi2)) (by omega) h.2.2.1
 have hn:∀ d∈l,d.Name.length<=1000:=fun d hd=>by have:=(aEt (aKV h d hd)).1;omega
 have hl:t.flat.length<=20:=by rw [←ht];exact h20
 have h1:=body_S hn (by omega) hw hpr
 have h2:=part_I hn t 100000 [] (by omega) (by rw [List.append_nil];omega) hw hpr
 have h3:=xL hn t hw hpr
 rw [List.append_nil] at h2
 have e:bT l d.Body=txB l t:=by unfold bT;rw [ht,h1];rfl
 rw [e,ht]
 exact ⟨h1,h2,by omega⟩
noncomputable def dT (l:List Definition) (d:Definition):aL:=[112,114,111,99,32]++d.Name++[32]++Lib.itoa d.Parameters++[32,61,32]++bT l d.Body
theorem dT_eq {l:List Definition} (h:sH l) {d:Definition} (hd:d∈l):nE l d=some (dT l d)/\(∀ k:Nat,l[k]?=some d->aGZ l (k:Int)=some (dT l d))/\(dT l d).length<=11000000:=by
 obtain ⟨b1,b2,b3⟩:=bT_eq h hd
 have hn:=(aEt (aKV h d hd)).1
 have hp:=h.2.2.1 d hd
 unfold aFq at hp
 simp only [Bool.and_eq_true,decide_eq_true_eq] at hp
 have hi:=fH hp.1 (by omega)
 have hdec:=kG hp.1 (show d.Parameters < 4611686018427387904 by omega)
 have key:∀ f:Int->Option aL,f d.Parameters=some (Lib.itoa d.Parameters)->(ob (eK ([112,114,111,99,32]:aL) d.Name) fun s22=>ob (eK s22 ([32]:aL)) fun s24=>ob (f d.Parameters) fun r26=>ob (eK s24 r26) fun s30=>ob (eK s30 ([32,61,32]:aL)) fun s32=>ob (eK s32 (bT l d.Body)) fun s42=>some s42)=some (dT l d):=fun f hf=>by
  rw [cY (n:=100000000000) (by simp only [List.length_cons,List.length_append,List.length_nil];omega) (by omega),aA,cY (n:=100000000000) (by simp only [List.length_cons,List.length_append,List.length_nil];omega) (by omega),aA,hf,aA,cY (n:=100000000000) (by simp only [List.length_cons,List.length_append,List.length_nil];omega) (by omega),aA,cY (n:=100000000000) (by simp only [List.length_cons,List.length_append,List.length_nil];omega) (by omega),aA,cY (n:=100000000000) (by simp only [List.length_cons,List.length_append,List.length_nil];omega) (by omega),aA]
  rfl
 refine ⟨?_,fun k hk=>?_,?_⟩
 ·unfold nE
  rw [←key gN hdec.1]
  simp only [b2,aA]
 ·unfold aGZ
  rw [dQ,hk,aA,←key iD hdec.2]
  simp only [b1,aA]
 ·unfold dT
  simp only [List.length_cons,List.length_append,List.length_nil];omega
def cpT (l:List Definition) (c:aY):aL:=(l.getD c.Definition.toNat ⟨[],0,[]⟩).Name++(if c.Values.length=0 then [] else 40::(vF c.Values++[41]))
def mtT (m:bB):aL:=[109,101,101,116,32]++m.Left++[32]++m.Right++[32]++m.Result
theorem aHo {s:aL} (h:gH s=true):s.length<=10:=by
 unfold gH at h
 rw [Bool.and_eq_true] at h
 exact (aEt h.1).1
section
variable {s:bM} (h:SysOk s) (hm:s.Meetings.length<=1048576)
include h
theorem aIN {c:aY} (hc:c∈s.Components):ix s.Definitions c.Definition=some (s.Definitions.getD c.Definition.toNat ⟨[],0,[]⟩)/\(s.Definitions.getD c.Definition.toNat ⟨[],0,[]⟩).Name.length<=10/\c.Values.length<=3/\(∀ v∈c.Values,0<=v/\v < 4611686018427387904):=by
 have hb:=h.comp c hc
 unfold aAD at hb
 simp only [Bool.and_eq_true,decide_eq_true_eq,beq_iff_eq] at hb
 obtain ⟨⟨⟨h0,h1⟩,h2⟩,h3⟩:=hb
 have hg:=getD_ix h0 h1 (⟨[],0,[]⟩:Definition)
 have hp:=h.defs.2.2.1 _ hg.2
 unfold aFq at hp
 simp only [Bool.and_eq_true,decide_eq_true_eq] at hp
 refine ⟨hg.1,(aEt (aKV h.defs _ hg.2)).1,by omega,fun v hv=>?_⟩
 have:=List.all_eq_true.1 h3 v hv
 unfold vG at this
 simp only [Bool.and_eq_true,decide_eq_true_eq] at this
 omega
theorem cpT_len {c:aY} (hc:c∈s.Components):(cpT s.Definitions c).length<=100:=by
 obtain ⟨h1,h2,h3,h4⟩:=aIN h hc
 have:=aBG h4
 unfold cpT
 rw [List.length_append]
 split
 ·simp only [List.length_nil];omega
 ·simp only [List.length_cons,List.length_append,List.length_nil];omega
noncomputable def rI (s:bM):List aL:=
 s.Definitions.map (dT s.Definitions)++[[114,117,110,32]++Lib.join (s.Components.map (cpT s.Definitions)) [32,124,32]]++s.Meetings.map mtT++(if s.Allowed.length=0 then [] else [[97,108,108,111,119,32]++Lib.join s.Allowed [32]])++(if s.Hidden.length=0 then [] else [[104,105,100,101,32]++Lib.join s.Hidden [32]])
theorem aPD (k:Nat):(Lib.join ((s.Components.take k).map (cpT s.Definitions)) [32,124,32]).length<=103 * 3:=by
 refine Nat.le_trans (aNz (sep:=[32,124,32]) (M:=100) (N:=3) (fun x hx=>?_) ?_) (by simp)
 ·rw [List.mem_map] at hx
  obtain ⟨c,hc,rfl⟩:=hx
  exact cpT_len h (List.mem_of_mem_take hc)
 ·have:=h.n3;simp;omega
omit h in
theorem aHp {l:List aL} (h:qE l) (k:Nat):(Lib.join (l.take k) [32]).length<=11 * 12:=by
 refine Nat.le_trans (aNz (sep:=[32]) (M:=10) (N:=12) (fun x hx=>aHo (h.2.1 x (List.mem_of_mem_take hx))) ?_) (by simp)
 have:=h.1;simp;omega
theorem mtT_len {m:bB} (hx:m∈s.Meetings):(mtT m).length<=40/\m.Left.length<=10/\m.Right.length<=10/\m.Result.length<=10:=by
 obtain ⟨a,b,c⟩:=h.meet m hx
 have:=aHo a;have:=aHo b;have:=aHo c
 unfold mtT
 simp only [List.length_cons,List.length_append,List.length_nil];omega
theorem meet_eq {m:bB} (hx:m∈s.Meetings) {α:Type} (f:aL->Option α):(ob (eK ([109,101,101,116,32]:aL) m.Left) fun s143=>ob (eK s143 ([32]:aL)) fun s145=>ob (eK s145 m.Right) fun s147=>ob (eK s147 ([32]:aL)) fun s149=>ob (eK s149 m.Result) f)=f (mtT m):=by
 obtain ⟨_,a,b,c⟩:=mtT_len h hx
 rw [cY (n:=100000000000) (by simp only [List.length_cons,List.length_append,List.length_nil];omega) (by omega),aA,cY (n:=100000000000) (by simp only [List.length_cons,List.length_append,List.length_nil];omega) (by omega),aA,cY (n:=100000000000) (by simp only [List.length_cons,List.length_append,List.length_nil];omega) (by omega),aA,cY (n:=100000000000) (by simp only [List.length_cons,List.length_append,List.length_nil];omega) (by omega),aA,cY (n:=100000000000) (by simp only [List.length_cons,List.length_append,List.length_nil];omega) (by omega),aA]
 rfl
include hm
theorem aRP:Lib.lens (rI s)<=100000000/\(rI s).length<=1048583:=by
 have h1:=aFv (M:=11000000) (s.Definitions.map (dT s.Definitions)) (fun x hx=>by
  rw [List.mem_map] at hx;obtain ⟨d,hd,rfl⟩:=hx;exact (dT_eq h.defs hd).2.2)
 have h2:=aFv (M:=40) (s.Meetings.map mtT) (fun x hx=>by
  rw [List.mem_map] at hx;obtain ⟨m,hx,rfl⟩:=hx;exact (mtT_len h hx).1)
 have h3:=aPD h s.Components.length
 have h4:=aHp h.alw s.Allowed.length
 have h5:=aHp h.hid s.Hidden.length
 rw [List.take_length] at h3 h4 h5
 have h6:=h.defs.2.1
 rw [List.length_map] at h1 h2
 have e1:∀ a:aL,Lib.lens [a]=a.length:=fun a=>by simp [Lib.lens]
 have e2:∀ (c:Prop) [Decidable c] (a:aL),Lib.lens (if c then [] else [a])<=a.length:=fun c _ a=>by split<;>simp [Lib.lens]
 have e3:∀ (c:Prop) [Decidable c] (a:aL),(if c then [] else [a]:List aL).length<=1:=fun c _ a=>by split<;>simp
 unfold rI
 refine ⟨?_,?_⟩
 ·rw [aKl,aKl,aKl,aKl,e1]
  have q1:=e2 (s.Allowed.length=0) ([97,108,108,111,119,32]++Lib.join s.Allowed [32])
  have q2:=e2 (s.Hidden.length=0) ([104,105,100,101,32]++Lib.join s.Hidden [32])
  simp only [List.length_cons,List.length_append,List.length_nil] at q1 q2 ⊢
  omega
 ·have q1:=e3 (s.Allowed.length=0) ([97,108,108,111,119,32]++Lib.join s.Allowed [32])
  have q2:=e3 (s.Hidden.length=0) ([104,105,100,101,32]++Lib.join s.Hidden [32])
  simp only [List.length_append,List.length_map,List.length_cons,List.length_nil] at q1 q2 ⊢
  omega
theorem lines_I:rA s=some (rI s):=by
 have hsz:s.Definitions.length<=4:=h.defs.2.1
 have l1:=uR (step:=fun (q:(List aL × Int))=>pZ s q.1 q.2) (xs:=s.Definitions) (f:=dT s.Definitions) (pre:=[]) (fun k hk=>by
  obtain ⟨g1,_,_⟩:=dT_eq h.defs (List.getElem_mem hk)
  have a1:∀ y,oH ((s.Definitions.take k).map (dT s.Definitions)) ([y]:List aL)=some ((s.Definitions.take k).map (dT s.Definitions)++[y]):=fun y=>fB (by unfold iK;simp;omega)
  simp only [pZ,bV hk,if_true,bY hk,aA,g1,List.nil_append,a1,bO hk (show s.Definitions.length < 4611686018427387904 by omega)]) (fun out=>by simp only [pZ,bL];rfl)
 have l2:=uR (step:=fun (q:(List aL × Int))=>mA s q.1 q.2) (xs:=s.Components) (f:=cpT s.Definitions) (pre:=[]) (fun k hk=>by
  have hn3:=h.n3
  obtain ⟨g1,g2,g3,g4⟩:=aIN h (List.getElem_mem hk)
  have a1:∀ y,oH ((s.Components.take k).map (cpT s.Definitions)) ([y]:List aL)=some ((s.Components.take k).map (cpT s.Definitions)++[y]):=fun y=>fB (by unfold iK;simp;omega)
  have hj:=aBG g4
  simp only [mA,pX,bV hk,if_true,bY hk,aA,g1,List.nil_append,a1,bO hk (show s.Components.length < 4611686018427387904 by omega)]
  by_cases h0:s.Components[k].Values.length=0
  ·rw [if_neg (by simp [h0])]
   simp [cpT,h0]
  ·rw [if_pos (aHn h0),joined_C (by omega) g4,aA,cY (n:=100000000000) (by simp only [List.length_cons,List.length_nil];omega) (by omega),aA,cY (n:=100000000000) (by simp only [List.length_cons,List.length_append,List.length_nil];omega) (by omega),aA,cY (n:=100000000000) (by simp only [List.length_cons,List.length_append,List.length_nil];omega) (by omega),aA]
   simp only [cpT,h0,if_false]
   rfl) (fun out=>by simp only [mA,bL];rfl)
 have l3:=uR (step:=fun (q:(List aL × Int))=>pV s q.1 q.2) (xs:=s.Meetings) (f:=mtT) (pre:=s.Definitions.map (dT s.Definitions)++[[114,117,110,32]++Lib.join (s.Components.map (cpT s.Definitions)) [32,124,32]]) (fun k hk=>by
  have a1:∀ y,oH (s.Definitions.map (dT s.Definitions)++[[114,117,110,32]++Lib.join (s.Components.map (cpT s.Definitions)) [32,124,32]]++(s.Meetings.take k).map mtT) ([y]:List aL)=some (s.Definitions.map (dT s.Definitions)++[[114,117,110,32]++Lib.join (s.Components.map (cpT s.Definitions)) [32,124,32]]++(s.Meetings.take k).map mtT++[y]):=fun y=>fB (by unfold iK;simp;omega)
  simp only [pV,bV hk,if_true,bY hk,aA]
  rw [meet_eq h (List.getElem_mem hk),a1,aA,bO hk (by omega)]) (fun out=>by simp only [pV,bL];rfl)
 unfold rA
 rw [l1,aA,List.nil_append]
 unfold pY
 rw [l2,aA,List.nil_append]
 unfold pW
 have h3:=aPD h s.Components.length
 have h4:=aHp h.alw s.Allowed.length
 have h5:=aHp h.hid s.Hidden.length
 rw [List.take_length] at h3 h4 h5
 have hc3:=h.n3
 have ha:=h.alw.1
 have hh:=h.hid.1
 rw [aFw (by simp;omega) (by omega),aA,cY (n:=100000000000) (by simp only [List.length_cons,List.length_nil];omega) (by omega),aA,fB (by unfold iK;simp;omega),aA,l3,aA]
 have hout:∀ o:List aL,o.length<=2000000->jR s o=some (o++(if s.Hidden.length=0 then [] else [[104,105,100,101,32]++Lib.join s.Hidden [32]])):=fun o ho=>by
  unfold jR pT
  by_cases h0:s.Hidden.length=0
  ·rw [if_neg (by simp [h0]),if_pos h0,List.append_nil]
  ·rw [if_pos (aHn h0),if_neg h0,aFw (by omega) (by omega),aA,cY (n:=100000000000) (by simp only [List.length_cons,List.length_nil];omega) (by omega),aA,fB (by unfold iK;simp;omega),aA]
 unfold pU
 by_cases h0:s.Allowed.length=0
 ·rw [if_neg (by simp [h0]),hout _ (by simp;omega)]
  unfold rI
  rw [if_pos h0];simp
 ·rw [if_pos (aHn h0),aFw (by omega) (by omega),aA,cY (n:=100000000000) (by simp only [List.length_cons,List.length_nil];omega) (by omega),aA,fB (by unfold iK;simp;omega),aA,hout _ (by simp;omega)]
  unfold rI
  rw [if_neg h0]
omit h hm in
theorem aQJ {l:List aL} (h:qE l) (h0:l.length≠0) {head:aL} (hh:head.length<=100):yK head l=some (head++[32]++Lib.join l [32]):=by
 have hl:=h.1
 have hb:∀ k,(Lib.joinTail [32] (l.take k)).length<=1000:=fun k=>by
  rw [Lib.joinTail_length]
  have:=aFv (M:=10) (l.take k) (fun x hx=>aHo (h.2.1 x (List.mem_of_mem_take hx)))
  have:(l.take k).length<=12:=by simp;omega
  simp only [List.length_cons,List.length_nil];omega
 have aux:∀ n k,n+k=l.length->loop (fun (s:(aL × Int))=>sZ l s.1 s.2) (head++Lib.joinTail [32] (l.take k),(k:Int))=some (head++Lib.joinTail [32] l):=by
  intro n
  induction n with
  |zero=>
   intro k hk
   rw [Nat.zero_add] at hk;subst hk
   rw [List.take_length]
   exact fJ (by simp only [sZ,bL];rfl)
  |succ n ih=>
   intro k hk
   have hk':k < l.length:=by omega
   have:=hb k
   have ha:=aHo (h.2.1 _ (List.getElem_mem hk'))
   have hst:sZ l (head++Lib.joinTail [32] (l.take k)) (k:Int)=some (.inl (head++Lib.joinTail [32] (l.take (k+1)),((k+1:Nat):Int))):=by
    rw [Lib.joinTail_take_succ [32] l k l[k] (List.getElem?_eq_getElem hk')]
    simp only [sZ,bV hk',if_true,bY hk',aA,bO hk' (show l.length < 4611686018427387904 by omega)]
    rw [cY (n:=100000000000) (by simp only [List.length_cons,List.length_nil];omega) (by omega),aA,cY (n:=100000000000) (by simp only [List.length_cons,List.length_append,List.length_nil];omega) (by omega),aA]
    simp
   rw [oF hst]
   exact ih (k+1) (by omega)
 have:=aux l.length 0 rfl
 rw [List.take_zero,show Lib.joinTail [32] ([]:List aL)=[] from rfl,List.append_nil] at this
 unfold yK aDE
 rw [show (0:Int)=((0:Nat):Int) from rfl,this,aA]
 cases l with
 |nil=>simp at h0
 |cons x r=>rw [Lib.join_cons];simp [Lib.joinTail]
theorem lines_S:aCl s=some (rI s):=by
 have hsz:s.Definitions.length<=4:=h.defs.2.1
 have hn3:=h.n3
 have l1:=uR (step:=fun (q:(List aL × Int))=>wH s q.1 q.2) (xs:=s.Definitions) (f:=dT s.Definitions) (pre:=[]) (fun k hk=>by
  obtain ⟨_,g1,_⟩:=dT_eq h.defs (List.getElem_mem hk)
  have a1:∀ y,oH ((s.Definitions.take k).map (dT s.Definitions)) ([y]:List aL)=some ((s.Definitions.take k).map (dT s.Definitions)++[y]):=fun y=>fB (by unfold iK;simp;omega)
  simp only [wH,bV hk,if_true,aA,g1 k (List.getElem?_eq_getElem hk),List.nil_append,a1,bO hk (show s.Definitions.length < 4611686018427387904 by omega)]) (fun out=>by simp only [wH,bL];rfl)
 have l2:=aKk (step:=fun (q:(aL × Int))=>tC s q.1 q.2) (xs:=s.Components) (f:=cpT s.Definitions) (sep:=[32,124,32]) (pre:=[114,117,110,32]) (fun k hk=>by
  obtain ⟨g1,g2,g3,g4⟩:=aIN h (List.getElem_mem hk)
  have hj:=aBG g4
  have hr:=aPD h k
  have hj7:∀ o:aL,o.length<=10000->tB s (k:Int) o=some (.inl (o++cpT s.Definitions s.Components[k],((k+1:Nat):Int))):=fun o ho=>by
   unfold tB tA
   simp only [bY hk,aA,g1]
   rw [cY (n:=100000000000) (by omega) (by omega),aA]
   by_cases h0:s.Components[k].Values.length=0
   ·rw [if_neg (by simp [h0]),bO hk (by omega)]
    simp [cpT,h0]
   ·rw [if_pos (aHn h0),aRN (by omega) g4,aA]
    have e:lstT s.Components[k].Values=vF s.Components[k].Values:=by unfold lstT;rw [if_neg h0]
    rw [e,cY (n:=100000000000) (by simp only [List.length_cons,List.length_nil];omega) (by omega),aA,cY (n:=100000000000) (by simp only [List.length_cons,List.length_append,List.length_nil];omega) (by omega),aA,cY (n:=100000000000) (by simp only [List.length_cons,List.length_append,List.length_nil];omega) (by omega),aA,bO hk (by omega)]
    simp [cpT,h0]
  simp only [tC,bV hk,if_true]
  by_cases h0:k=0
  ·subst h0
   rw [if_neg (by simp),if_pos rfl,hj7 _ (by simp [Lib.join_nil])]
   simp [Lib.join_nil]
  ·rw [if_pos (by simp;omega),if_neg h0,cY (n:=100000000000) (by simp only [List.length_cons,List.length_append,List.length_nil];omega) (by omega),aA,hj7 _ (by simp only [List.length_cons,List.length_append,List.length_nil];omega)]
   simp) (fun out=>by simp only [tC,bL];rfl)
 have l3:=uR (step:=fun (q:(List aL × Int))=>zU s q.1 q.2) (xs:=s.Meetings) (f:=mtT) (pre:=s.Definitions.map (dT s.Definitions)++[[114,117,110,32]++Lib.join (s.Components.map (cpT s.Definitions)) [32,124,32]]) (fun k hk=>by
  have a1:∀ y,oH (s.Definitions.map (dT s.Definitions)++[[114,117,110,32]++Lib.join (s.Components.map (cpT s.Definitions)) [32,124,32]]++(s.Meetings.take k).map mtT) ([y]:List aL)=some (s.Definitions.map (dT s.Definitions)++[[114,117,110,32]++Lib.join (s.Components.map (cpT s.Definitions)) [32,124,32]]++(s.Meetings.take k).map mtT++[y]):=fun y=>fB (by unfold iK;simp;omega)
  simp only [zU,bV hk,if_true,bY hk,aA]
  rw [meet_eq h (List.getElem_mem hk),a1,aA,bO hk (by omega)]) (fun out=>by simp only [zU,bL];rfl)
 unfold aCl
 rw [l1,aA,List.nil_append]
 unfold zW
 rw [l2,aA]
 unfold zV
 have ha:=h.alw.1
 have hh:=h.hid.1
 rw [fB (by unfold iK;simp;omega),aA,l3,aA]
 have hout:∀ o:List aL,o.length<=2000000->pC s o=some (o++(if s.Hidden.length=0 then [] else [[104,105,100,101,32]++Lib.join s.Hidden [32]])):=fun o ho=>by
  unfold pC zO
  by_cases h0:s.Hidden.length=0
  ·rw [if_neg (by simp [h0]),if_pos h0,List.append_nil]
  ·rw [if_pos (aHn h0),if_neg h0,aQJ h.hid h0 (by simp),aA,fB (by unfold iK;simp;omega),aA]
   rfl
 unfold zQ
 by_cases h0:s.Allowed.length=0
 ·rw [if_neg (by simp [h0]),hout _ (by simp;omega)]
  unfold rI
  rw [if_pos h0];simp
 ·rw [if_pos (aHn h0),aQJ h.alw h0 (by simp),aA,fB (by unfold iK;simp;omega),aA,hout _ (by simp;omega)]
  unfold rI
  rw [if_neg h0]
  rfl
noncomputable def sysT (s:bM):aL:=Lib.join (rI s) [10]
theorem aKm (hv:mF s=some true):rW s=some (sysT s)/\yL s=some (sysT s)/\(sysT s).length<=200000000:=by
 obtain ⟨q1,q2⟩:=aRP h hm
 have hj:∀ k,(Lib.join ((rI s).take k) [10]).length<=200000000:=fun k=>by
  have:=aKU [10] ((rI s).take k)
  have:=Lib.lens_take_le (rI s) k
  have:((rI s).take k).length<=1048583:=by simp;omega
  simp only [List.length_cons,List.length_nil] at *
  omega
 have hf:=hj (rI s).length
 rw [List.take_length] at hf
 refine ⟨?_,?_,hf⟩
 ·unfold rW
  rw [hv,aA,if_neg (by simp),lines_I h hm,aA,aFw (by omega) (by omega),aA]
  rfl
 ·unfold yL
  rw [lines_S h hm,aA]
  have:=aKk (step:=fun (q:(aL × Int))=>wJ (rI s) q.1 q.2) (xs:=rI s) (f:=id) (sep:=[10]) (pre:=[]) (fun k hk=>by
   have hb:=hj k
   have hb2:=hj (k+1)
   rw [List.take_add_one,List.getElem?_eq_getElem hk,Option.toList_some,aKT,List.length_append] at hb2
   simp only [List.map_id,List.nil_append,id,wJ,bV hk,if_true]
   by_cases h0:k=0
   ·subst h0
    rw [if_neg (by simp),if_pos rfl]
    simp only [wI,bY hk,aA,List.take_zero,Lib.join_nil]
    rw [cY (n:=100000000000) (by simp only [List.length_nil];omega) (by omega),aA,bO hk (by omega)]
   ·rw [if_pos (by simp;omega),if_neg h0,cY (n:=100000000000) (by simp only [List.length_cons,List.length_nil];omega) (by omega),aA]
    simp only [wI,bY hk,aA]
    rw [cY (n:=100000000000) (by simp only [List.length_cons,List.length_append,List.length_nil];omega) (by omega),aA,bO hk (by omega)]) (fun out=>by simp only [wJ,bL];rfl)
  rw [this,aA,List.map_id]
  rfl
end
end Gv
namespace Gv
open Go
def ptD (l:aL):Bool:=l == []||aAX l||(l.getLast? == some (42:UInt8)&&gH l.dropLast)
theorem ipatD {l:aL} (h:l.length < 100000000):aAq l=some (ptD l):=by
 unfold aAq mZ ptD
 have h1:((if (l.getLast? == some (42:UInt8))=true then (l.dropLast,true) else (l,false)).1:aL).length < 100000000:=by
  split
  ·show l.dropLast.length < 100000000
   rw [List.length_dropLast];omega
  ·exact h
 rw [aKc _ _ (by omega),aA,aNj _ (by omega),aA,rG _ (by omega),aA]
 cases l == []<;>cases aAX l<;>cases l.getLast? == some (42:UInt8)<;>simp
theorem spatD {l:aL} (h:l.length < 100000000):vW l=some (ptD l):=by
 unfold vW ptD
 by_cases h0:l=[]
 ·subst h0;rfl
 ·rw [if_neg (by simpa using h0),aLj _ (by omega),aA,show (l == [])=false by simpa using h0]
  unfold oN tX
  cases hb:aAX l with
  |true=>rfl
  |false=>
   obtain ⟨q,c,hq⟩:=(List.eq_nil_or_concat l).resolve_left h0
   rw [List.concat_eq_append] at hq
   subst hq
   have hl:(q++[c]).length=q.length+1:=by simp
   rw [hl] at h
   rw [if_neg (by decide),hl,dW (by omega) (by omega),show ((q.length+1:Nat):Int) - 1=(q.length:Int) by omega,bY (by rw [hl];omega),aA]
   simp only [List.getElem_concat_length,List.getLast?_append,List.getLast?_singleton,List.dropLast_concat,Option.some_or,Bool.false_or]
   by_cases hc:c=42
   ·subst hc
    rw [if_pos (by decide),aOJ (by rw [hl];omega),aA,rZ,aA,List.take_left]
    simp
   ·have hn:¬ (((c.toNat:Int) == 42)=true):=fun h9=>hc (UInt8.toNat_inj.1 (by
     have h7:(c.toNat:Int)=42:=by simpa using h9
     have h8:(42:UInt8).toNat=42:=rfl
     omega))
    rw [if_neg hn]
    have:((some c:Option UInt8) == some 42)=false:=by simpa using hc
    rw [this]
    rfl
def arF (n:bI):Nat:=if n.Kind=2\/n.Kind=3 then 2 else if n.Kind=4\/n.Kind=5\/n.Kind=7\/n.Kind=8 then 1 else 0
theorem aIO (n:bI):arF n<=2:=by unfold arF;split;omega;split<;>omega
theorem aEv (n:bI):jX n=some ((arF n:Nat):Int):=by
 unfold jX lF jA arF
 by_cases h2:n.Kind=2;· simp [h2]
 by_cases h3:n.Kind=3;· simp [h3]
 by_cases h4:n.Kind=4;· simp [h4]
 by_cases h5:n.Kind=5;· simp [h5]
 by_cases h7:n.Kind=7;· simp [h7]
 by_cases h8:n.Kind=8;· simp [h8]
 simp [h2,h3,h4,h5,h7,h8]
theorem aNA {n:bI} (h0:0<=n.Kind) (h8:n.Kind<=8):uL n.Kind=some ((arF n:Nat):Int):=by
 unfold uL oY zH arF
 have:n.Kind=0\/n.Kind=1\/n.Kind=2\/n.Kind=3\/n.Kind=4\/n.Kind=5\/n.Kind=6\/n.Kind=7\/n.Kind=8:=by omega
 rcases this with h|h|h|h|h|h|h|h|h<;>simp [h]
def kdB (n:bI):Bool:=decide (0<=n.Kind)&&decide (n.Kind<=8)
def fldB (n:bI):Bool:=if n.Kind == 4||n.Kind == 5 then ptD n.B else n.B == []&&!n.Not
def aKW (n:bI):Bool:=kdB n&&fldB n
def bndB (n:bI):Bool:=if n.Kind == 6||(n.Kind == 7||n.Kind == 8) then decide (0<=n.Variable)&&decide (n.Variable<=2) else n.Variable == 0
def fixB (n:bI):Bool:=n.Kind == 7||n.Kind == 8
theorem aNC (n:bI):nA n=some (fixB n):=by unfold nA pQ fixB;cases n.Kind == 7<;>rfl
theorem aLo (n:bI):yD n=some (fixB n):=by unfold yD zJ fixB;cases n.Kind == 7<;>rfl
theorem fieldsD {n:bI} (h:n.B.length < 100000000):oQ n=some (fldB n):=by
 unfold oQ pP lT nY fldB
 rw [ipatD h]
 cases n.Kind == 4<;>cases n.Kind == 5<;>cases n.B == []<;>rfl
theorem boundD (n:bI):qV n=some (bndB n):=by
 unfold qV pR bndB
 rw [aNC,fC]
 unfold fixB
 cases n.Kind == 7<;>cases n.Kind == 8<;>cases n.Kind == 6<;>rfl
def ttN (_:bI):Bool:=true
theorem aND {α:Type} {ok tt:α->Bool} {ar:α->Nat} (ht:∀ x,tt x=true):∀ (l:List α) (n:Nat),jZ ok ar n l=(jZ tt ar n l&&l.all ok)
 |[],n=>by simp [jZ]
 |x::l,0=>by simp [jZ]
 |x::l,n+1=>by
  have ih:=aND (ok:=ok) (ar:=ar) ht l (n+ar x)
  simp only [jZ,ht,Bool.true_and,List.all_cons,ih]
  cases ok x<;>cases jZ tt ar (n+ar x) l<;>rfl
section
variable {f:List bI} (hl:∀ n∈f,n.B.length < 100000000) (hf:f.length<=30)
include hf
theorem shape_I:aEh f=some (jZ ttN arF 1 f):=by
 unfold aEh
 have key:=aEq (step:=fun s=>aBs f s.1 s.2) (e:=f) (ok:=ttN) (ar:=arF) aIO (fun pre x post n he hn=>?_) (fun n=>?_)
 ·obtain ⟨r,h1,h2⟩:=key
  rw [h1,aA,←h2]
  cases r<;>rfl
 ·have hp:pre.length < f.length:=by rw [he];simp
  have hi:ix f (pre.length:Int)=some x:=by rw [dQ,he];simp
  have ha:=aIO x
  simp only [aBs,bV hp,if_true,hi,aA,aEv]
  by_cases h0:n=0
  ·subst h0;rfl
  ·have h0':((n:Int) == 0)=false:=by simp;omega
   rw [if_neg (by simp [h0']),if_neg h0,aFo h0 (by omega) ha,bO hp (by omega)]
   rfl
 ·simp only [aBs,bL];rfl
include hl
theorem shape_S (h1:1<=f.length):yC f 30 8=some (jZ aKW arF 1 f):=by
 unfold yC
 rw [if_neg (by simp;omega)]
 unfold pA
 rw [if_neg (by simp;omega)]
 have key:=aEq (step:=fun s=>sT f 8 s.1 s.2) (e:=f) (ok:=aKW) (ar:=arF) aIO (fun pre x post n he hn=>?_) (fun n=>?_)
 ·obtain ⟨r,h1,h2⟩:=key
  rw [h1,aA,←h2]
  cases r<;>rfl
 ·have hp:pre.length < f.length:=by rw [he];simp
  have hi:ix f (pre.length:Int)=some x:=by rw [dQ,he];simp
  have ha:=aIO x
  have hxl:=hl x (by rw [he];simp)
  simp only [sT,bV hp,if_true,hi,aA,oU]
  by_cases h0:n=0
  ·subst h0;rfl
  have h0':((n:Int) == 0)=false:=by simp;omega
  rw [if_neg (by simp [h0']),if_neg h0]
  unfold sS aKW
  cases hk:kdB x with
  |false=>
   have e:(decide (0<=x.Kind)&&decide (x.Kind<=8))=false:=hk
   rw [e];rfl
  |true=>
   have e:(decide (0<=x.Kind)&&decide (x.Kind<=8))=true:=hk
   rw [e,if_neg (by simp),hi,aA]
   simp only [Bool.and_eq_true,decide_eq_true_eq] at e
   rw [aNA e.1 e.2,aA]
   have hok:some (Sum.inl (wr ((n:Int)+wr (((arF x:Nat):Int) - 1)),wr ((pre.length:Int)+1)))=some ((.inl (((n - 1+arF x:Nat):Int),((pre.length+1:Nat):Int))):(Int × Int) ⊕ (Int ⊕ Bool)):=by rw [aFo h0 (by omega) ha,bO hp (by omega)]
   unfold sQ oZ fldB
   rw [spatD hxl,hok]
   cases x.Kind == 4<;>cases x.Kind == 5<;>cases x.B == []<;>cases x.Not<;>cases ptD x.B<;>rfl
 ·simp only [sT,bL];rfl
end
theorem sub_at {α:Type} {ar:α->Nat}:∀ (T:GTr α) (i:Nat),T.WF ar->i < T.flat.length->∃ pre t post,T.flat=pre++GTr.flat t++post/\pre.length=i/\GTr.WF ar t:=by
 intro T
 induction T with
 |nul x=>
  intro i hw hi
  simp [GTr.flat] at hi
  subst hi
  exact ⟨[],.nul x,[],by simp,rfl,hw⟩
 |one x a iha=>
  intro i hw hi
  match i with
  |0=>exact ⟨[],.one x a,[],by simp,rfl,hw⟩
  |i+1=>
   obtain ⟨pre,t,post,h1,h2,h3⟩:=iha i hw.2 (by simp [GTr.flat] at hi;omega)
   exact ⟨x::pre,t,post,by simp [GTr.flat,h1],by simp [h2],h3⟩
 |two x a b iha ihb=>
  intro i hw hi
  match i with
  |0=>exact ⟨[],.two x a b,[],by simp,rfl,hw⟩
  |i+1=>
   by_cases h:i < a.flat.length
   ·obtain ⟨pre,t,post,h1,h2,h3⟩:=iha i hw.2.1 h
    exact ⟨x::pre,t,post++b.flat,by simp [GTr.flat,h1],by simp [h2],h3⟩
   ·obtain ⟨pre,t,post,h1,h2,h3⟩:=ihb (i - a.flat.length) hw.2.2 (by simp [GTr.flat] at hi;omega)
    exact ⟨x::(a.flat++pre),t,post,by simp [GTr.flat,h1],by simp [h2];omega,h3⟩
theorem aRQ {α:Type} {ok:α->Bool} {ar:α->Nat} (har:∀ x,ar x<=2) {l:List α} (h:jZ ok ar 1 l=true):∃ t:GTr α,l=t.flat/\t.WF ar:=by
 obtain ⟨ts,h1,h2,h3⟩:=aFn har h
 match ts,h1 with
 |[t],_=>exact ⟨t,by rw [h2];simp,h3 t (by simp)⟩
def fndB (p:Nat->Bool):Nat->Int
 |0=>-1
 |k+1=>if p k then (k:Int) else fndB p k
theorem aNE {step:Int->Option (Int ⊕ (Unit ⊕ Int))} (p:Nat->Bool) {N:Nat} (h:∀ i:Nat,i < N->step (i:Int)=if p i=true then some (.inr (.inr (i:Int))) else some (.inl ((i:Int) - 1))) (h':step (-1)=some (.inr (.inl ()))):∀ k:Nat,k<=N->(ob (loop step ((k:Int) - 1)) fun r=>match r with|.inl _=>some (-1)|.inr r=>some r)=some (fndB p k)
 |0,_=>by rw [show (((0:Nat):Int) - 1)=-1 by omega,fJ h'];rfl
 |k+1,hk=>by
  have:=h k (by omega)
  rw [show (((k+1:Nat):Int) - 1)=(k:Int) by omega]
  unfold fndB
  cases hp:p k with
  |true=>rw [hp,if_pos rfl] at this;rw [fJ this];rfl
  |false=>rw [hp,if_neg (by simp)] at this;rw [oF this,aNE p h h' k (by omega)];rfl
section
variable {f:List bI} {T:GTr bI} (he:f=T.flat) (hw:T.WF arF) (hf:f.length<=30)
include he hw hf
theorem end_I {i:Nat} (hi:i < f.length):∃ e:Int,kL f (i:Int)=some e/\((∀ n∈f,kdB n=true)->aDX f (i:Int)=some e):=by
 obtain ⟨pre,t,post,h1,h2,h3⟩:=sub_at T i hw (by rw [←he];exact hi)
 rw [←he] at h1
 refine ⟨((pre.length+(([t]:List (GTr bI)).flatMap GTr.flat).length:Nat):Int),?_,fun hk=>?_⟩
 ·have:=aKe (step:=fun (s:(Int × Int))=>uB f s.1 s.2) (e:=f) (ar:=arF) (fun k=>k) (fun pre x post n hx hn=>by
   have hp:pre.length < f.length:=by rw [hx];simp
   have hix:ix f (pre.length:Int)=some x:=by rw [dQ,hx];simp
   have ha:=aIO x
   simp only [uB,hix,aA,aEv]
   rw [if_pos (by simp),bO hp (by omega),aFo (by omega) (by omega) ha]
   rfl) (fun k=>by simp only [uB];rfl) _ [t] pre post rfl (by rw [h1];simp) (by simp;exact h3)
  unfold kL aAL
  rw [show ((([t]:List (GTr bI)).length:Nat):Int)=1 from rfl] at this
  rw [←h2,this,aA]
 ·have:=aKe (step:=fun (s:(Int × Int))=>aDa f s.1 s.2) (e:=f) (ar:=arF) (fun k=>k) (fun pre x post n hx hn=>by
   have hp:pre.length < f.length:=by rw [hx];simp
   have hix:ix f (pre.length:Int)=some x:=by rw [dQ,hx];simp
   have ha:=aIO x
   have hkx:=hk x (by rw [hx];simp)
   unfold kdB at hkx
   simp only [Bool.and_eq_true,decide_eq_true_eq] at hkx
   simp only [aDa,hix,aA,aNA hkx.1 hkx.2]
   rw [if_pos (by simp),bO hp (by omega),aFo (by omega) (by omega) ha]
   rfl) (fun k=>by simp only [aDa];rfl) _ [t] pre post rfl (by rw [h1];simp) (by simp;exact h3)
  unfold aDX aGj
  rw [show ((([t]:List (GTr bI)).length:Nat):Int)=1 from rfl] at this
  rw [←h2,this,aA]
theorem aQK {k:Nat} (hk:k < f.length):∃ r:Int,aCs f (k:Int)=some r/\((∀ n∈f,kdB n=true)->uX f (k:Int)=some r):=by
 obtain ⟨ei,hd⟩:∃ ei:Nat->Int,∀ i,i < f.length->kL f (i:Int)=some (ei i):=⟨fun i=>(kL f (i:Int)).getD 0,fun i hi=>by
  obtain ⟨e,h1,_⟩:=end_I he hw hf hi
  show kL f (i:Int)=some ((kL f (i:Int)).getD 0)
  rw [h1];rfl⟩
 let p:Nat->Bool:=fun i=>match f[i]? with|some x=>fixB x&&(x.Variable == f[k].Variable&&decide ((k:Int) < ei i))|none=>true
 refine ⟨fndB p k,?_,fun hkd=>?_⟩
 ·have hst:∀ j:Nat,j < f.length->aAs f (k:Int) (j:Int)=if p j=true then some (.inr (.inr (j:Int))) else some (.inl ((j:Int) - 1)):=fun j hj=>by
   simp only [aAs,aAr,bY hj,bY hk,aA,aNC,p,List.getElem?_eq_getElem hj]
   rw [if_pos (by simp),hd j hj,aA,dW (x:=(j:Int) - 1) (by omega) (by omega)]
   cases fixB f[j]<;>cases f[j].Variable == f[k].Variable<;>cases decide ((k:Int) < ei j)<;>rfl
  unfold aCs
  rw [dW (by omega) (by omega)]
  exact aNE (step:=fun (s:Int)=>aAs f (k:Int) s) p hst rfl k (by omega)
 ·have hs:∀ i,i < f.length->aDX f (i:Int)=some (ei i):=fun i hi=>by
   obtain ⟨e,h1,h2⟩:=end_I he hw hf hi
   rw [h2 hkd,←h1,hd i hi]
  have hst:∀ j:Nat,j < f.length->qP f (k:Int) (j:Int)=if p j=true then some (.inr (.inr (j:Int))) else some (.inl ((j:Int) - 1)):=fun j hj=>by
   simp only [qP,qO,bY hj,bY hk,aA,aLo,p,List.getElem?_eq_getElem hj]
   rw [if_pos (by simp),hs j hj,aA,dW (x:=(j:Int) - 1) (by omega) (by omega)]
   cases fixB f[j]<;>cases f[j].Variable == f[k].Variable<;>cases decide ((k:Int) < ei j)<;>rfl
  unfold uX
  rw [dW (by omega) (by omega)]
  exact aNE (step:=fun (s:Int)=>qP f (k:Int) s) p hst rfl k (by omega)
end
structure FrmD (f:List bI):Prop where
 len:f.length<=30
 tree:∃ T:GTr bI,f=T.flat/\T.WF arF
 loc:∀ n∈f,aKW n=true
 bnd:∀ n∈f,bndB n=true
theorem aKn {f:List bI} (hl:∀ n∈f,n.B.length < 100000000) (hlen:f.length < 1000000000):∃ B,gQ f=some B/\aEQ f=some B/\(B=true->FrmD f):=by
 by_cases h1:1<=f.length/\f.length<=30
 rotate_left
 ·refine ⟨false,?_,?_,fun h=>by cases h⟩
  ·unfold gQ
   rw [fC,aA,if_pos (by simp;omega)]
   rfl
  ·unfold aEQ yC
   by_cases h0:f.length < 1
   ·rw [if_pos (by simp;omega)];rfl
   ·rw [if_neg (by simp;omega)]
    unfold pA
    rw [if_pos (by simp;omega)];rfl
 have hI:=shape_I h1.2
 have hS:=shape_S hl h1.2 h1.1
 rw [aND (tt:=ttN) (fun _=>rfl)] at hS
 cases hn:jZ ttN arF 1 f with
 |false=>
  rw [hn] at hI hS
  refine ⟨false,?_,?_,fun h=>by cases h⟩
  ·unfold gQ
   rw [fC,aA,if_neg (by simp;omega),hI];rfl
  ·unfold aEQ
   rw [hS];rfl
 |true=>
  rw [hn] at hI hS
  obtain ⟨T,he,hw⟩:=aRQ aIO hn
  have hf:=h1.2
  let bi:Nat->Int:=fun k=>(aCs f (k:Int)).getD 0
  have hbi:∀ k,k < f.length->aCs f (k:Int)=some (bi k):=fun k hk=>by
   obtain ⟨r,h1,_⟩:=aQK he hw hf hk
   simp only [bi,h1];rfl
  let pI:Nat->Bool:=fun k=>match f[k]? with|some x=>aKW x&&(bndB x&&(!(x.Kind == 6)||decide (0<=bi k)))|none=>true
  let pS:Nat->Bool:=fun k=>match f[k]? with|some x=>bndB x&&(!(x.Kind == 6)||decide (0<=bi k))|none=>true
  have hdn:∀ r:Int,decide (r < 0)=!decide (0<=r):=fun r=>by by_cases h:0<=r<;>simp [h]<;>omega
  obtain ⟨b,hb,hbl⟩:=vE (step:=fun s=>lU f s) f.length 0 pI (.inr false) (.inl ()) (Nat.zero_le _) (fun k _ hk=>by
   have hx:=hl _ (List.getElem_mem hk)
   simp only [lU,iH,bV hk,if_true,bY hk,aA,fC,fieldsD hx,boundD,hbi k hk,hdn,bO hk (show f.length < 4611686018427387904 by omega),pI,List.getElem?_eq_getElem hk,aKW]
   have hkd:(decide (0<=f[k].Kind)&&decide (f[k].Kind<=8))=kdB f[k]:=rfl
   rw [hkd]
   cases kdB f[k]<;>cases fldB f[k]<;>cases bndB f[k]<;>cases f[k].Kind == 6<;>cases decide (0<=bi k)<;>rfl) (by simp only [lU,bL];rfl)
  have hiv:gQ f=some b:=by
   unfold gQ
   rw [fC,aA,if_neg (by simp;omega),hI,aA]
   unfold lV wT
   rw [if_neg (by simp),show (0:Int)=((0:Nat):Int) from rfl,hbl,aA]
   cases b<;>rfl
  refine ⟨b,hiv,?_,?_⟩
  ·unfold aEQ
   rw [hS,aA]
   by_cases ha:f.all aKW=true
   ·have hkd:∀ n∈f,kdB n=true:=fun n hn=>by
     have:=List.all_eq_true.1 ha n hn
     unfold aKW at this
     rw [Bool.and_eq_true] at this
     exact this.1
    have hbs:∀ k,k < f.length->uX f (k:Int)=some (bi k):=fun k hk=>by
     obtain ⟨r,h1,h2⟩:=aQK he hw hf hk
     simp only [bi,h1,h2 hkd];rfl
    rw [ha,if_neg (by simp)]
    obtain ⟨c,hc,hcl⟩:=vE (step:=fun s=>aCg f s) f.length 0 pS (.inr false) (.inl ()) (Nat.zero_le _) (fun k _ hk=>by
     simp only [aCg,aEP,aCf,aEO,bV hk,if_true,bY hk,aA,aLo,oU,hbs k hk,hdn,bO hk (show f.length < 4611686018427387904 by omega),pS,List.getElem?_eq_getElem hk]
     unfold bndB fixB
     have hne:(f[k].Variable != 0)=!(f[k].Variable == 0):=rfl
     rw [hne]
     cases h6:f[k].Kind == 6<;>cases h7:f[k].Kind == 7<;>cases h8:f[k].Kind == 8<;>cases (decide (0<=f[k].Variable)&&decide (f[k].Variable<=2))<;>cases f[k].Variable == 0<;>cases decide (0<=bi k)<;>rfl) (by simp only [aCg,bL];rfl)
    rw [show (0:Int)=((0:Nat):Int) from rfl,hcl,aA]
    have e:c=b:=by
     have:c=true<->b=true:=by
      rw [hb,hc]
      refine forall_congr' fun k=>forall_congr' fun _=>forall_congr' fun hk=>?_
      have:=List.all_eq_true.1 ha _ (List.getElem_mem hk)
      simp only [pI,pS,List.getElem?_eq_getElem hk,this,Bool.true_and]
     cases c<;>cases b<;>simp at this ⊢
    rw [e]
    unfold aIq
    cases b<;>rfl
   ·have ha':f.all aKW=false:=by simpa using ha
    rw [ha',if_pos (by simp)]
    have:b=false:=by
     cases b with
     |false=>rfl
     |true=>
      exfalso
      apply ha
      rw [List.all_eq_true]
      intro x hx
      obtain ⟨k,hk,rfl⟩:=List.getElem_of_mem hx
      have:=hb.1 rfl k (Nat.zero_le _) hk
      simp only [pI,List.getElem?_eq_getElem hk,Bool.and_eq_true] at this
      exact this.1
    rw [this]
  ·intro hbt
   have hall:∀ x∈f,aKW x=true/\bndB x=true:=fun x hx=>by
    obtain ⟨k,hk,rfl⟩:=List.getElem_of_mem hx
    have:=hb.1 hbt k (Nat.zero_le _) hk
    simp only [pI,List.getElem?_eq_getElem hk,Bool.and_eq_true] at this
    exact ⟨this.1,this.2.1⟩
   exact ⟨hf,⟨T,he,hw⟩,fun n hn=>(hall n hn).1,fun n hn=>(hall n hn).2⟩
end Gv
namespace Gv
open Go
def tsT (label:aL) (nt:Bool):aL:=(if nt then [33] else [])++(if label=[] then [95] else if label.getLast? == some (42:UInt8) then label.dropLast++[40,42,41] else label)
theorem aPG (label:aL) (nt:Bool):(tsT label nt).length<=label.length+4:=by
 unfold tsT
 rw [List.length_append]
 have h1:(if nt then [33] else []:aL).length<=1:=by cases nt<;>simp
 have h2:(if label=[] then [95] else if label.getLast? == some (42:UInt8) then label.dropLast++[40,42,41] else label:aL).length<=label.length+3:=by
  by_cases h0:label=[]
  ·rw [if_pos h0];simp
  ·rw [if_neg h0]
   cases label.getLast? == some (42:UInt8) with
   |true=>rw [if_pos rfl,List.length_append,List.length_dropLast];simp only [List.length_cons,List.length_nil];omega
   |false=>rw [if_neg (by simp)];omega
 omega
theorem test_I {label:aL} (nt:Bool) (h:label.length < 100000000):yS label nt=some (tsT label nt):=by
 unfold yS tsT
 have fin:∀ l:aL,l.length < 200000000->pF nt l=some ((if nt then [33] else [])++l):=fun l hl=>by
  unfold pF
  cases nt with
  |true=>rw [if_pos rfl,cY (n:=100000000000) (by simp only [List.length_cons,List.length_nil];omega) (by omega),aA];rfl
  |false=>rfl
 rw [aKc _ _ (by omega),aA]
 by_cases h0:label=[]
 ·subst h0
  rw [if_pos (show (([]:aL) == [])=true from rfl),if_pos rfl,fin _ (by simp)]
 ·rw [if_neg (by simpa using h0),if_neg h0]
  cases hb:label.getLast? == some (42:UInt8) with
  |true=>
   simp only [if_true]
   rw [cY (n:=100000000000) (by rw [List.length_dropLast];simp only [List.length_cons,List.length_nil];omega) (by omega),aA,fin _ (by rw [List.length_append,List.length_dropLast];simp only [List.length_cons,List.length_nil];omega)]
  |false=>
   simp only [Bool.false_eq_true,if_false]
   exact fin _ (by omega)
theorem test_S {label:aL} (nt:Bool) (h:label.length < 100000000):aBD label nt=some (tsT label nt):=by
 unfold aBD tsT
 have fin:∀ l:aL,l.length < 200000000->rM nt l=some ((if nt then [33] else [])++l):=fun l hl=>by
  unfold rM
  cases nt with
  |true=>rw [if_pos rfl,cY (n:=100000000000) (by simp only [List.length_cons,List.length_nil];omega) (by omega),aA];rfl
  |false=>rfl
 by_cases h0:label=[]
 ·subst h0
  rw [if_pos (show ((([]:aL).length:Int) == 0)=true from rfl),if_pos rfl,fin _ (by simp)]
 ·rw [if_neg (by simpa using h0),if_neg h0]
  obtain ⟨q,c,hq⟩:=(List.eq_nil_or_concat label).resolve_left h0
  rw [List.concat_eq_append] at hq
  subst hq
  have hl:(q++[c]).length=q.length+1:=by simp
  rw [hl] at h
  rw [hl,dW (by omega) (by omega),show ((q.length+1:Nat):Int) - 1=(q.length:Int) by omega,bY (by rw [hl];omega),aA]
  simp only [List.getElem_concat_length,List.getLast?_append,List.getLast?_singleton,List.dropLast_concat,Option.some_or]
  by_cases hc:c=42
  ·subst hc
   rw [if_pos (by decide),aOJ (by rw [hl];omega),aA,List.take_left,cY (n:=100000000000) (by simp only [List.length_cons,List.length_nil];omega) (by omega),aA,fin _ (by rw [List.length_append];simp only [List.length_cons,List.length_nil];omega)]
   rfl
  ·have hn:¬ (((c.toNat:Int) == 42)=true):=fun h9=>hc (UInt8.toNat_inj.1 (by
    have h7:(c.toNat:Int)=42:=by simpa using h9
    have h8:(42:UInt8).toNat=42:=rfl
    omega))
   have:((some c:Option UInt8) == some 42)=false:=by simpa using hc
   simp only [this,Bool.false_eq_true,if_false]
   rw [if_neg hn,fin _ (by rw [hl];omega)]
def kQ:GTr bI->Int
 |.nul n=>n.Kind
 |.one n _=>n.Kind
 |.two n _ _=>n.Kind
theorem rtK_nul (n:bI):kQ (.nul n)=n.Kind:=rfl
theorem rtK_one (n:bI) (a:GTr bI):kQ (.one n a)=n.Kind:=rfl
theorem rtK_two (n:bI) (a b:GTr bI):kQ (.two n a b)=n.Kind:=rfl
def nd2 (k:Int):Bool:=k == 2||k == 3
def heF (n:bI):aL:=
 if n.Kind == 4 then [60]++tsT n.B n.Not++[62] else if n.Kind == 5 then [91]++tsT n.B n.Not++[93] else if n.Kind == 7 then [109,117,32,88]++Lib.itoa n.Variable++[46] else [110,117,32,88]++Lib.itoa n.Variable++[46]
def enF (n:bI):aL:=if n.Kind == 0 then [116,114,117,101] else if n.Kind == 1 then [102,97,108,115,101] else [88]++Lib.itoa n.Variable
def jK:GTr bI->aL
 |.nul n=>enF n
 |.one n a=>heF n++wrp (nd2 (kQ a)) (jK a)
 |.two n a b=>if n.Kind == 2 then wrp (nd2 (kQ a)) (jK a)++[32,38,32]++wrp (kQ b == 3) (jK b) else wrp (kQ a == 3) (jK a)++[32,124,32]++jK b
def trN:GTr bI->Tr bI
 |.nul t=>.mk t []
 |.one t a=>.mk t [trN a]
 |.two t a b=>.mk t [trN a,trN b]
theorem trN_val (t:GTr bI):(trN t).val.Kind=kQ t:=by cases t<;>rfl
theorem aBH {n:bI} (h:aKW n=true):0<=n.Kind/\n.Kind<=8/\(arF n=0->n.Kind=0\/n.Kind=1\/n.Kind=6)/\(arF n=1->n.Kind=4\/n.Kind=5\/n.Kind=7\/n.Kind=8)/\(arF n=2->n.Kind=2\/n.Kind=3):=by
 unfold aKW kdB at h
 simp only [Bool.and_eq_true,decide_eq_true_eq] at h
 unfold arF
 have:n.Kind=0\/n.Kind=1\/n.Kind=2\/n.Kind=3\/n.Kind=4\/n.Kind=5\/n.Kind=6\/n.Kind=7\/n.Kind=8:=by omega
 rcases this with k|k|k|k|k|k|k|k|k<;>simp [k]
theorem aHr {n:bI} (h:bndB n=true):0<=n.Variable/\n.Variable<=2:=by
 unfold bndB at h
 split at h
 ·simp only [Bool.and_eq_true,decide_eq_true_eq] at h;exact h
 ·have:n.Variable=0:=by simpa using h
  omega
structure NdP (n:bI):Prop where
 loc:aKW n=true
 bnd:bndB n=true
 len:n.B.length < 100000000
theorem he_len {n:bI} (h:NdP n):(heF n).length<=100000100:=by
 have h1:=aPG n.B n.Not
 have h2:=aHr h.bnd
 have h3:=fH h2.1 (by omega)
 have h4:=h.len
 unfold heF
 split
 ·simp only [List.length_cons,List.length_append,List.length_nil];omega
 split
 ·simp only [List.length_cons,List.length_append,List.length_nil];omega
 split
 ·simp only [List.length_cons,List.length_append,List.length_nil];omega
 ·simp only [List.length_cons,List.length_append,List.length_nil];omega
theorem en_len {n:bI} (h:NdP n):(enF n).length<=100:=by
 have h2:=aHr h.bnd
 have h3:=fH h2.1 (by omega)
 unfold enF
 split
 ·simp
 split
 ·simp
 ·simp only [List.length_cons,List.length_append,List.length_nil];omega
theorem aAe:∀ (t:GTr bI),(∀ n∈t.flat,NdP n)->(jK t).length<=200000000 * t.flat.length
 |.nul n,ho=>by
  have:=en_len (ho n (by simp [GTr.flat]))
  simp only [jK,GTr.flat,List.length_singleton];omega
 |.one n a,ho=>by
  have h1:=he_len (ho n (by simp [GTr.flat]))
  have h2:=aAe a (fun x hx=>ho x (by simp [GTr.flat,hx]))
  have h3:=gE (nd2 (kQ a)) (jK a)
  simp only [jK,GTr.flat,List.length_cons,List.length_append];omega
 |.two n a b,ho=>by
  have h1:=aAe a (fun x hx=>ho x (by simp [GTr.flat,hx]))
  have h2:=aAe b (fun x hx=>ho x (by simp [GTr.flat,hx]))
  have h3:=gE (nd2 (kQ a)) (jK a)
  have h4:=gE (kQ b == 3) (jK b)
  have h5:=gE (kQ a == 3) (jK a)
  simp only [jK,GTr.flat]
  split<;>(simp only [List.length_cons,List.length_append,List.length_nil];omega)
theorem fromD:∀ (t:GTr bI) (m:Nat) (post:List bI),t.flat.length<=m->(t.flat++post).length < 1000000000->t.WF arF->gW m (t.flat++post)=some (trN t,post):=by
 intro t
 induction t with
 |nul t=>
  intro m post hm hl hw
  match m with
  |0=>simp [GTr.flat] at hm
  |m+1=>
   have hw:arF t=0:=hw
   have hs:slc (t::post) 1 ((t::post).length:Int)=some post:=by
    unfold slc
    rw [if_pos ⟨by omega,by simp;omega,by simp⟩]
    simp
   show gV (gW m) ([t]++post)=_
   unfold gV
   rw [List.singleton_append,show ix (t::post) 0=some t from rfl,aA,hs,aA,aEv,aA,hw,bD]
   rfl
 |one t a iha=>
  intro m post hm hl hw
  match m with
  |0=>simp [GTr.flat] at hm
  |m+1=>
   have h1:arF t=1:=hw.1
   have hs:slc (t::(a.flat++post)) 1 ((t::(a.flat++post)).length:Int)=some (a.flat++post):=by
    unfold slc
    rw [if_pos ⟨by omega,by simp;omega,by simp⟩,show ((1:Int)).toNat=1 from rfl,List.drop_succ_cons,List.drop_zero,List.take_of_length_le (by simp;omega)]
   have hl2:(a.flat++post).length < 1000000000:=by simp [GTr.flat] at hl ⊢;omega
   have ra:=iha m post (by simp [GTr.flat] at hm;omega) hl2 hw.2
   show gV (gW m) (t::a.flat++post)=_
   unfold gV
   rw [List.cons_append,show ix (t::(a.flat++post)) 0=some t from rfl,aA,hs,aA,aEv,aA,h1,bD]
   simp only [nB,ra,aA,fB (xs:=([]:List (Tr bI))) (ys:=[trN a]) (by unfold iK;simp),show decide ((0:Int) < ((1:Nat):Int))=true from rfl,if_true,show wr (0+1)=1 from rfl]
   rw [bD]
   rfl
 |two t a b iha ihb=>
  intro m post hm hl hw
  match m with
  |0=>simp [GTr.flat] at hm
  |m+1=>
   have h1:arF t=2:=hw.1
   have hs:slc (t::(a.flat++(b.flat++post))) 1 ((t::(a.flat++(b.flat++post))).length:Int)=some (a.flat++(b.flat++post)):=by
    unfold slc
    rw [if_pos ⟨by omega,by simp;omega,by simp⟩,show ((1:Int)).toNat=1 from rfl,List.drop_succ_cons,List.drop_zero,List.take_of_length_le (by simp;omega)]
   have hl2:(a.flat++(b.flat++post)).length < 1000000000:=by simp [GTr.flat] at hl ⊢;omega
   have ra:=iha m (b.flat++post) (by simp [GTr.flat] at hm;omega) hl2 hw.2.1
   have rb:=ihb m post (by simp [GTr.flat] at hm;omega) (by simp at hl2 ⊢;omega) hw.2.2
   show gV (gW m) (t::(a.flat++b.flat)++post)=_
   unfold gV
   rw [List.cons_append,List.append_assoc,show ix (t::(a.flat++(b.flat++post))) 0=some t from rfl,aA,hs,aA,aEv,aA,h1,bD]
   simp only [nB,ra,aA,fB (xs:=([]:List (Tr bI))) (ys:=[trN a]) (by unfold iK;simp),show decide ((0:Int) < ((2:Nat):Int))=true from rfl,if_true,show wr (0+1)=1 from rfl,List.nil_append]
   rw [bD]
   simp only [nB,rb,aA,fB (xs:=[trN a]) (ys:=[trN b]) (by unfold iK;simp),show decide ((1:Int) < ((2:Nat):Int))=true from rfl,if_true,show wr (1+1)=2 from rfl]
   rw [bD]
   rfl
theorem cont_0 (v:Int):cC [] v=some false:=by
 unfold cC eS
 rw [fJ (r:=.inl ()) rfl];rfl
theorem cont_1 (v:Int):cC [3] v=some (v == 3):=by
 unfold cC eS
 cases h:v == 3 with
 |true=>rw [fJ (r:=.inr 0) (by simp only [dE,show ix ([3]:List Int) 0=some 3 from rfl,aA,h];rfl)];rfl
 |false=>rw [oF (s':=1) (by simp only [dE,show ix ([3]:List Int) 0=some 3 from rfl,aA,h];rfl),fJ (r:=.inl ()) rfl];rfl
theorem cont_2 (v:Int):cC [2,3] v=some (nd2 v):=by
 unfold cC eS nd2
 cases h:v == 2 with
 |true=>rw [fJ (r:=.inr 0) (by simp only [dE,show ix ([2,3]:List Int) 0=some 2 from rfl,aA,h];rfl)];rfl
 |false=>
  rw [oF (s':=1) (by simp only [dE,show ix ([2,3]:List Int) 0=some 2 from rfl,aA,h];rfl)]
  cases h3:v == 3 with
  |true=>rw [fJ (r:=.inr 1) (by simp only [dE,show ix ([2,3]:List Int) 1=some 3 from rfl,aA,h3];rfl)];rfl
  |false=>rw [oF (s':=2) (by simp only [dE,show ix ([2,3]:List Int) 1=some 3 from rfl,aA,h3];rfl),fJ (r:=.inl ()) rfl];rfl
theorem formT_I:∀ (t:GTr bI) (m:Nat),t.flat.length<=m->t.flat.length<=30->t.WF arF->(∀ n∈t.flat,NdP n)->eA m (trN t)=some (jK t):=by
 have hc1:∀ (rec_:Tr bI->Option aL) (a:GTr bI) (ks:List Int) (b:Bool),(jK a).length<=10000000000->rec_ (trN a)=some (jK a)->cC ks (kQ a)=some b->eJ rec_ (trN a) ks=some (wrp b (jK a)):=by
  intro rec_ a ks b hl hr hc
  unfold eJ
  rw [trN_val,hc,aA,hr]
  cases b with
  |true=>rw [if_pos rfl,aA];exact aNx (by omega)
  |false=>rw [if_neg (by simp)];rfl
 intro t
 induction t with
 |nul n=>
  intro m hm hl hw ho
  match m with
  |0=>simp [GTr.flat] at hm
  |m+1=>
   have hn:=ho n (by simp [GTr.flat])
   have hv:=aHr hn.bnd
   have hil:=fH hv.1 (by omega)
   show gC (eA m) (.mk n [])=_
   unfold gC
   simp only [Tr.val,jK,enF]
   rcases (aBH hn.loc).2.2.1 hw with h|h|h
   ·simp [h]
   ·simp [h]
   ·simp only [h,show ((6:Int) == 0)=false from rfl,show ((6:Int) == 1)=false from rfl,show ((6:Int) == 2)=false from rfl,show ((6:Int) == 3)=false from rfl,show ((6:Int) == 4)=false from rfl,show ((6:Int) == 5)=false from rfl,show ((6:Int) == 7)=false from rfl,show ((6:Int) == 8)=false from rfl,Bool.false_eq_true,if_false]
    rw [(kG hv.1 (by omega)).1,aA,cY (n:=100000000000) (by simp only [List.length_cons,List.length_nil];omega) (by omega),aA]
 |one n a iha=>
  intro m hm hl hw ho
  match m with
  |0=>simp [GTr.flat] at hm
  |m+1=>
   have hn:=ho n (by simp [GTr.flat])
   have hv:=aHr hn.bnd
   have hil:=fH hv.1 (by omega)
   have hoa:∀ q∈a.flat,NdP q:=fun q hq=>ho q (by simp [GTr.flat,hq])
   have hla:a.flat.length<=29:=by simp [GTr.flat] at hl;omega
   have ra:=iha m (by simp [GTr.flat] at hm;omega) (by omega) hw.2 hoa
   have hxl:=aAe a hoa
   have hwl:=gE (nd2 (kQ a)) (jK a)
   have htl:=aPG n.B n.Not
   have hnl:=hn.len
   have hhl:=he_len hn
   have hc:=hc1 (eA m) a [2,3] (nd2 (kQ a)) (by omega) ra (cont_2 _)
   have ht:=test_I n.Not hn.len
   have hd:=(kG hv.1 (show n.Variable < 4611686018427387904 by omega)).1
   show gC (eA m) (.mk n [trN a])=_
   unfold gC
   simp only [Tr.val,Tr.kids,show ix [trN a] 0=some (trN a) from rfl,aA,hc,ht,hd,jK]
   have fin:∀ X:aL,X.length<=200000000->eK X (wrp (nd2 (kQ a)) (jK a))=some (X++wrp (nd2 (kQ a)) (jK a)):=fun X hX=>cY (n:=100000000000) (by omega) (by omega)
   unfold heF at hhl ⊢
   rcases (aBH hn.loc).2.2.2.1 hw.1 with h|h|h|h
   ·simp only [h,show ((4:Int) == 0)=false from rfl,show ((4:Int) == 1)=false from rfl,show ((4:Int) == 2)=false from rfl,show ((4:Int) == 3)=false from rfl,show ((4:Int) == 4)=true from rfl,Bool.false_eq_true,if_false,if_true] at hhl ⊢
    rw [cY (n:=100000000000) (by simp only [List.length_cons,List.length_nil];omega) (by omega),aA,cY (n:=100000000000) (by simp only [List.length_cons,List.length_append,List.length_nil];omega) (by omega),aA,fin _ (by omega),aA]
    rfl
   ·simp only [h,show ((5:Int) == 0)=false from rfl,show ((5:Int) == 1)=false from rfl,show ((5:Int) == 2)=false from rfl,show ((5:Int) == 3)=false from rfl,show ((5:Int) == 4)=false from rfl,show ((5:Int) == 5)=true from rfl,Bool.false_eq_true,if_false,if_true] at hhl ⊢
    rw [cY (n:=100000000000) (by simp only [List.length_cons,List.length_nil];omega) (by omega),aA,cY (n:=100000000000) (by simp only [List.length_cons,List.length_append,List.length_nil];omega) (by omega),aA,fin _ (by omega),aA]
    rfl
   ·simp only [h,show ((7:Int) == 0)=false from rfl,show ((7:Int) == 1)=false from rfl,show ((7:Int) == 2)=false from rfl,show ((7:Int) == 3)=false from rfl,show ((7:Int) == 4)=false from rfl,show ((7:Int) == 5)=false from rfl,show ((7:Int) == 7)=true from rfl,Bool.false_eq_true,if_false,if_true] at hhl ⊢
    rw [cY (n:=100000000000) (by simp only [List.length_cons,List.length_nil];omega) (by omega),aA,cY (n:=100000000000) (by simp only [List.length_cons,List.length_append,List.length_nil];omega) (by omega),aA,fin _ (by omega),aA]
    rfl
   ·simp only [h,show ((8:Int) == 0)=false from rfl,show ((8:Int) == 1)=false from rfl,show ((8:Int) == 2)=false from rfl,show ((8:Int) == 3)=false from rfl,show ((8:Int) == 4)=false from rfl,show ((8:Int) == 5)=false from rfl,show ((8:Int) == 7)=false from rfl,show ((8:Int) == 8)=true from rfl,Bool.false_eq_true,if_false,if_true] at hhl ⊢
    rw [cY (n:=100000000000) (by simp only [List.length_cons,List.length_nil];omega) (by omega),aA,cY (n:=100000000000) (by simp only [List.length_cons,List.length_append,List.length_nil];omega) (by omega),aA,fin _ (by omega),aA]
    rfl
 |two n a b iha ihb=>
  intro m hm hl hw ho
  match m with
  |0=>simp [GTr.flat] at hm
  |m+1=>
   have hn:=ho n (by simp [GTr.flat])
   have hoa:∀ q∈a.flat,NdP q:=fun q hq=>ho q (by simp [GTr.flat,hq])
   have hob:∀ q∈b.flat,NdP q:=fun q hq=>ho q (by simp [GTr.flat,hq])
   have hla:a.flat.length+b.flat.length<=29:=by simp [GTr.flat] at hl;omega
   have ra:=iha m (by simp [GTr.flat] at hm;omega) (by omega) hw.2.1 hoa
   have rb:=ihb m (by simp [GTr.flat] at hm;omega) (by omega) hw.2.2 hob
   have hxa:=aAe a hoa
   have hxb:=aAe b hob
   have w1:=gE (nd2 (kQ a)) (jK a)
   have w2:=gE (kQ a == 3) (jK a)
   have w3:=gE (kQ b == 3) (jK b)
   have ca2:=hc1 (eA m) a [2,3] (nd2 (kQ a)) (by omega) ra (cont_2 _)
   have ca1:=hc1 (eA m) a [3] (kQ a == 3) (by omega) ra (cont_1 _)
   have cb1:=hc1 (eA m) b [3] (kQ b == 3) (by omega) rb (cont_1 _)
   have cb0:=hc1 (eA m) b [] false (by omega) rb (cont_0 _)
   show gC (eA m) (.mk n [trN a,trN b])=_
   unfold gC
   simp only [Tr.val,Tr.kids,show ix [trN a,trN b] 0=some (trN a) from rfl,show ix [trN a,trN b] 1=some (trN b) from rfl,aA,ca2,ca1,cb1,cb0,jK]
   rcases (aBH hn.loc).2.2.2.2 hw.1 with h|h
   ·simp only [h,show ((2:Int) == 0)=false from rfl,show ((2:Int) == 1)=false from rfl,show ((2:Int) == 2)=true from rfl,Bool.false_eq_true,if_false,if_true]
    rw [cY (n:=100000000000) (by simp only [List.length_cons,List.length_nil];omega) (by omega),aA,cY (n:=100000000000) (by simp only [List.length_cons,List.length_append,List.length_nil];omega) (by omega),aA]
    rfl
   ·simp only [h,show ((3:Int) == 0)=false from rfl,show ((3:Int) == 1)=false from rfl,show ((3:Int) == 2)=false from rfl,show ((3:Int) == 3)=true from rfl,Bool.false_eq_true,if_false,if_true]
    rw [cY (n:=100000000000) (by simp only [List.length_cons,List.length_nil];omega) (by omega),aA,show wrp false (jK b)=jK b from rfl,cY (n:=100000000000) (by simp only [List.length_cons,List.length_append,List.length_nil];omega) (by omega),aA]
theorem aPI {α:Type} (S:List α) (y:List α):slc (S++y) 0 (S.length:Int)=some S:=by
 rw [aOJ (by simp)];simp
section
variable {t:GTr bI} (hl:t.flat.length<=30) (ho:∀ n∈t.flat,NdP n)
include hl ho
theorem formS0 (pre:List bI) (x:bI) (post:List bI) (S:List (aL × Int)) (he:t.flat=pre++x::post) (hS:S.length<=post.length) (hw:(GTr.nul x).WF arF):eX t.flat ((S).map (·.1)) ((S).map (·.2)) (pre.length:Int)=some (.inl ((S++[(jK (.nul x),kQ (.nul x))]).map (·.1),(S++[(jK (.nul x),kQ (.nul x))]).map (·.2),(pre.length:Int) - 1)):=by
 have hsl:=@aPI
 have hn:=ho x (by rw [he];simp)
 have hv:=aHr hn.bnd
 have hil:=fH hv.1 (by omega)
 have hf:arF x=0:=hw
 have hk:=aBH hn.loc
 have hlen:t.flat.length=pre.length+(post.length+1):=by rw [he];simp
 have hi:ix t.flat (pre.length:Int)=some x:=by rw [dQ,he];simp
 have w:wr ((pre.length:Int) - 1)=(pre.length:Int) - 1:=dW (by omega) (by omega)
 have t1:wr ((((S.map (·.1)).length:Nat):Int) - 0)=((S.map (·.1)).length:Int):=by rw [List.length_map,dW (by omega) (by omega)];omega
 have t2:wr ((((S.map (·.2)).length:Nat):Int) - 0)=((S.map (·.2)).length:Int):=by rw [List.length_map,dW (by omega) (by omega)];omega
 have s1:slc (S.map (·.1)) 0 ((S.map (·.1)).length:Int)=some (S.map (·.1)):=by have:=hsl (S.map (·.1)) [];rw [List.append_nil] at this;exact this
 have s2:slc (S.map (·.2)) 0 ((S.map (·.2)).length:Int)=some (S.map (·.2)):=by have:=hsl (S.map (·.2)) [];rw [List.append_nil] at this;exact this
 have a1:∀ y,oH (S.map (·.1)) ([y]:List aL)=some (S.map (·.1)++[y]):=fun y=>fB (by unfold iK;simp;omega)
 have a2:∀ y,oH (S.map (·.2)) ([y]:List Int)=some (S.map (·.2)++[y]):=fun y=>fB (by unfold iK;simp;omega)
 have hj2:∀ y:aL,cZ (S.map (·.1)) (S.map (·.2)) (pre.length:Int) x 0 y=some (.inl (S.map (·.1)++[y],S.map (·.2)++[x.Kind],(pre.length:Int) - 1)):=fun y=>by
  unfold cZ
  rw [t1,s1,aA,a1,aA,t2,s2,aA,a2,aA,w]
 simp only [eX]
 rw [if_pos (by simp),hi,aA,aNA hk.1 hk.2.1,aA,hf,show (((0:Nat):Int))=0 from rfl,if_neg (by decide)]
 unfold gT
 simp only [hj2,jK,enF,rtK_nul]
 rcases hk.2.2.1 hw with h|h|h
 ·simp [h]
 ·simp [h]
 ·simp only [h,show ((6:Int) == 0)=false from rfl,show ((6:Int) == 1)=false from rfl,show ((6:Int) == 6)=true from rfl,Bool.false_eq_true,if_false,if_true]
  rw [(kG hv.1 (by omega)).2,aA,cY (n:=100000000000) (by simp only [List.length_cons,List.length_nil];omega) (by omega),aA]
  simp
theorem formS1 (pre:List bI) (x:bI) (a:GTr bI) (post:List bI) (S:List (aL × Int)) (he:t.flat=pre++x::(a.flat++post)) (hS:S.length<=post.length) (hw:(GTr.one x a).WF arF):eX t.flat ((S++[(jK a,kQ a)]).map (·.1)) ((S++[(jK a,kQ a)]).map (·.2)) (pre.length:Int)=some (.inl ((S++[(jK (.one x a),kQ (.one x a))]).map (·.1),(S++[(jK (.one x a),kQ (.one x a))]).map (·.2),(pre.length:Int) - 1)):=by
 have hsl:=@aPI
 have hn:=ho x (by rw [he];simp)
 have hv:=aHr hn.bnd
 have hil:=fH hv.1 (by omega)
 have hf:arF x=1:=hw.1
 have hk:=aBH hn.loc
 have hoa:∀ q∈a.flat,NdP q:=fun q hq=>ho q (by rw [he];simp [hq])
 have hlen:t.flat.length=pre.length+(a.flat.length+post.length+1):=by rw [he];simp
 have hxl:=aAe a hoa
 have hwl:=gE (nd2 (kQ a)) (jK a)
 have htl:=aPG x.B x.Not
 have hnl:=hn.len
 have hhl:=he_len hn
 have hi:ix t.flat (pre.length:Int)=some x:=by rw [dQ,he];simp
 have w:wr ((pre.length:Int) - 1)=(pre.length:Int) - 1:=dW (by omega) (by omega)
 have t1:wr (((((S++[(jK a,kQ a)]).map (·.1)).length:Nat):Int) - 1)=(S.length:Int):=by
  rw [List.length_map,List.length_append,List.length_singleton,dW (by omega) (by omega)];omega
 have t2:wr (((((S++[(jK a,kQ a)]).map (·.2)).length:Nat):Int) - 1)=(S.length:Int):=by
  rw [List.length_map,List.length_append,List.length_singleton,dW (by omega) (by omega)];omega
 have g1:ix ((S++[(jK a,kQ a)]).map (·.1)) (S.length:Int)=some (jK a):=by rw [dQ,List.map_append];simp
 have g2:ix ((S++[(jK a,kQ a)]).map (·.2)) (S.length:Int)=some (kQ a):=by rw [dQ,List.map_append];simp
 have s1:slc ((S++[(jK a,kQ a)]).map (·.1)) 0 (S.length:Int)=some (S.map (·.1)):=by rw [List.map_append,show (S.length:Int)=((S.map (·.1)).length:Int) by simp,hsl]
 have s2:slc ((S++[(jK a,kQ a)]).map (·.2)) 0 (S.length:Int)=some (S.map (·.2)):=by rw [List.map_append,show (S.length:Int)=((S.map (·.2)).length:Int) by simp,hsl]
 have a1:∀ y,oH (S.map (·.1)) ([y]:List aL)=some (S.map (·.1)++[y]):=fun y=>fB (by unfold iK;simp;omega)
 have a2:∀ y,oH (S.map (·.2)) ([y]:List Int)=some (S.map (·.2)++[y]):=fun y=>fB (by unfold iK;simp;omega)
 have hj2:∀ y:aL,cZ ((S++[(jK a,kQ a)]).map (·.1)) ((S++[(jK a,kQ a)]).map (·.2)) (pre.length:Int) x 1 y=some (.inl (S.map (·.1)++[y],S.map (·.2)++[x.Kind],(pre.length:Int) - 1)):=fun y=>by
  unfold cZ
  rw [t1,s1,aA,a1,aA,t2,s2,aA,a2,aA,w]
 simp only [eX]
 rw [if_pos (by simp),hi,aA,aNA hk.1 hk.2.1,aA,hf,if_pos (by rfl),t1,g1,aA,g2,aA]
 have hj5:∀ y:aL,jV ((S++[(jK a,kQ a)]).map (·.1)) ((S++[(jK a,kQ a)]).map (·.2)) (pre.length:Int) x 1 y=gT ((S++[(jK a,kQ a)]).map (·.1)) ((S++[(jK a,kQ a)]).map (·.2)) (pre.length:Int) x 1 y:=fun y=>rfl
 have hwr:(if (kQ a == 2)=true then ob (iM (jK a) true) fun r265=>jV ((S++[(jK a,kQ a)]).map (·.1)) ((S++[(jK a,kQ a)]).map (·.2)) (pre.length:Int) x 1 r265 else ob (iM (jK a) (kQ a == 3)) fun r271=>jV ((S++[(jK a,kQ a)]).map (·.1)) ((S++[(jK a,kQ a)]).map (·.2)) (pre.length:Int) x 1 r271)=gT ((S++[(jK a,kQ a)]).map (·.1)) ((S++[(jK a,kQ a)]).map (·.2)) (pre.length:Int) x 1 (wrp (nd2 (kQ a)) (jK a)):=by
  unfold nd2
  cases h2:kQ a == 2 with
  |true=>rw [if_pos rfl,aFt true (by omega),aA,hj5];rfl
  |false=>rw [if_neg (by simp),aFt (kQ a == 3) (by omega),aA,hj5];rfl
 refine Eq.trans hwr ?_
 have ht:=test_S x.Not hn.len
 have hd:=(kG hv.1 (show x.Variable < 4611686018427387904 by omega)).2
 have fin:∀ X:aL,X.length<=200000000->eK X (wrp (nd2 (kQ a)) (jK a))=some (X++wrp (nd2 (kQ a)) (jK a)):=fun X hX=>cY (n:=100000000000) (by omega) (by omega)
 unfold gT
 simp only [hj2,ht,hd,aA,jK,rtK_one]
 unfold heF at hhl ⊢
 rcases hk.2.2.2.1 hw.1 with h|h|h|h
 ·simp only [h,show ((4:Int) == 0)=false from rfl,show ((4:Int) == 1)=false from rfl,show ((4:Int) == 6)=false from rfl,show ((4:Int) == 4)=true from rfl,Bool.false_eq_true,if_false,if_true] at hhl ⊢
  rw [cY (n:=100000000000) (by simp only [List.length_cons,List.length_nil];omega) (by omega),aA,cY (n:=100000000000) (by simp only [List.length_cons,List.length_append,List.length_nil];omega) (by omega),aA,fin _ (by omega),aA]
  simp
 ·simp only [h,show ((5:Int) == 0)=false from rfl,show ((5:Int) == 1)=false from rfl,show ((5:Int) == 6)=false from rfl,show ((5:Int) == 4)=false from rfl,show ((5:Int) == 5)=true from rfl,Bool.false_eq_true,if_false,if_true] at hhl ⊢
  rw [cY (n:=100000000000) (by simp only [List.length_cons,List.length_nil];omega) (by omega),aA,cY (n:=100000000000) (by simp only [List.length_cons,List.length_append,List.length_nil];omega) (by omega),aA,fin _ (by omega),aA]
  simp
 ·simp only [h,show ((7:Int) == 0)=false from rfl,show ((7:Int) == 1)=false from rfl,show ((7:Int) == 6)=false from rfl,show ((7:Int) == 4)=false from rfl,show ((7:Int) == 5)=false from rfl,show ((7:Int) == 7)=true from rfl,Bool.false_eq_true,if_false,if_true] at hhl ⊢
  rw [cY (n:=100000000000) (by simp only [List.length_cons,List.length_nil];omega) (by omega),aA,cY (n:=100000000000) (by simp only [List.length_cons,List.length_append,List.length_nil];omega) (by omega),aA,fin _ (by omega),aA]
  simp
 ·simp only [h,show ((8:Int) == 0)=false from rfl,show ((8:Int) == 1)=false from rfl,show ((8:Int) == 6)=false from rfl,show ((8:Int) == 4)=false from rfl,show ((8:Int) == 5)=false from rfl,show ((8:Int) == 7)=false from rfl,show ((8:Int) == 8)=true from rfl,Bool.false_eq_true,if_false,if_true] at hhl ⊢
  rw [cY (n:=100000000000) (by simp only [List.length_cons,List.length_nil];omega) (by omega),aA,cY (n:=100000000000) (by simp only [List.length_cons,List.length_append,List.length_nil];omega) (by omega),aA,fin _ (by omega),aA]
  simp
theorem formS2 (pre:List bI) (x:bI) (a b:GTr bI) (post:List bI) (S:List (aL × Int)) (he:t.flat=pre++x::(a.flat++(b.flat++post))) (hS:S.length<=post.length) (hw:(GTr.two x a b).WF arF):eX t.flat ((S++[(jK b,kQ b),(jK a,kQ a)]).map (·.1)) ((S++[(jK b,kQ b),(jK a,kQ a)]).map (·.2)) (pre.length:Int)=some (.inl ((S++[(jK (.two x a b),kQ (.two x a b))]).map (·.1),(S++[(jK (.two x a b),kQ (.two x a b))]).map (·.2),(pre.length:Int) - 1)):=by
 have hsl:=@aPI
 have hn:=ho x (by rw [he];simp)
 have hf:arF x=2:=hw.1
 have hk:=aBH hn.loc
 have hoa:∀ q∈a.flat,NdP q:=fun q hq=>ho q (by rw [he];simp [hq])
 have hob:∀ q∈b.flat,NdP q:=fun q hq=>ho q (by rw [he];simp [hq])
 have hlen:t.flat.length=pre.length+(a.flat.length+(b.flat.length+post.length)+1):=by rw [he];simp
 have hxa:=aAe a hoa
 have hxb:=aAe b hob
 have w1:=gE (nd2 (kQ a)) (jK a)
 have w2:=gE (kQ a == 3) (jK a)
 have w3:=gE (kQ b == 3) (jK b)
 have hi:ix t.flat (pre.length:Int)=some x:=by rw [dQ,he];simp
 have w:wr ((pre.length:Int) - 1)=(pre.length:Int) - 1:=dW (by omega) (by omega)
 have t1:wr (((((S++[(jK b,kQ b),(jK a,kQ a)]).map (·.1)).length:Nat):Int) - 1)=((S.length+1:Nat):Int):=by
  rw [List.length_map,List.length_append,dW (by simp;omega) (by simp;omega)];simp;omega
 have t2:wr (((S.length+1:Nat):Int) - 1)=(S.length:Int):=by rw [dW (by omega) (by omega)];omega
 have t3:wr (((((S++[(jK b,kQ b),(jK a,kQ a)]).map (·.1)).length:Nat):Int) - 2)=(S.length:Int):=by
  rw [List.length_map,List.length_append,dW (by simp only [List.length_cons,List.length_nil];omega) (by simp only [List.length_cons,List.length_nil];omega)];simp
 have t4:wr (((((S++[(jK b,kQ b),(jK a,kQ a)]).map (·.2)).length:Nat):Int) - 2)=(S.length:Int):=by
  rw [List.length_map,List.length_append,dW (by simp only [List.length_cons,List.length_nil];omega) (by simp only [List.length_cons,List.length_nil];omega)];simp
 have g1:ix ((S++[(jK b,kQ b),(jK a,kQ a)]).map (·.1)) ((S.length+1:Nat):Int)=some (jK a):=by rw [dQ,List.map_append,List.getElem?_append_right (by simp)];simp
 have g2:ix ((S++[(jK b,kQ b),(jK a,kQ a)]).map (·.2)) ((S.length+1:Nat):Int)=some (kQ a):=by rw [dQ,List.map_append,List.getElem?_append_right (by simp)];simp
 have g3:ix ((S++[(jK b,kQ b),(jK a,kQ a)]).map (·.1)) (S.length:Int)=some (jK b):=by rw [dQ,List.map_append,List.getElem?_append_right (by simp)];simp
 have g4:ix ((S++[(jK b,kQ b),(jK a,kQ a)]).map (·.2)) (S.length:Int)=some (kQ b):=by rw [dQ,List.map_append,List.getElem?_append_right (by simp)];simp
 have s1:slc ((S++[(jK b,kQ b),(jK a,kQ a)]).map (·.1)) 0 (S.length:Int)=some (S.map (·.1)):=by rw [List.map_append,show (S.length:Int)=((S.map (·.1)).length:Int) by simp,hsl]
 have s2:slc ((S++[(jK b,kQ b),(jK a,kQ a)]).map (·.2)) 0 (S.length:Int)=some (S.map (·.2)):=by rw [List.map_append,show (S.length:Int)=((S.map (·.2)).length:Int) by simp,hsl]
 have a1:∀ y,oH (S.map (·.1)) ([y]:List aL)=some (S.map (·.1)++[y]):=fun y=>fB (by unfold iK;simp;omega)
 have a2:∀ y,oH (S.map (·.2)) ([y]:List Int)=some (S.map (·.2)++[y]):=fun y=>fB (by unfold iK;simp;omega)
 have hj2:∀ y:aL,cZ ((S++[(jK b,kQ b),(jK a,kQ a)]).map (·.1)) ((S++[(jK b,kQ b),(jK a,kQ a)]).map (·.2)) (pre.length:Int) x 2 y=some (.inl (S.map (·.1)++[y],S.map (·.2)++[x.Kind],(pre.length:Int) - 1)):=fun y=>by
  unfold cZ
  rw [t3,s1,aA,a1,aA,t4,s2,aA,a2,aA,w]
 simp only [eX]
 rw [if_pos (by simp),hi,aA,aNA hk.1 hk.2.1,aA,hf,show (((2:Nat):Int))=2 from rfl,if_neg (by decide)]
 unfold gT tY
 simp only [hj2,t1,t2,g1,g2,g3,g4,aA,jK,rtK_two,aFt true (show (jK a).length<=100000000000 by omega),aFt (kQ a == 3) (show (jK a).length<=100000000000 by omega),aFt (kQ b == 3) (show (jK b).length<=100000000000 by omega)]
 rcases hk.2.2.2.2 hw.1 with h|h
 ·simp only [h,show ((2:Int) == 0)=false from rfl,show ((2:Int) == 1)=false from rfl,show ((2:Int) == 6)=false from rfl,show ((2:Int) == 4)=false from rfl,show ((2:Int) == 5)=false from rfl,show ((2:Int) == 7)=false from rfl,show ((2:Int) == 8)=false from rfl,show ((2:Int) == 2)=true from rfl,Bool.false_eq_true,if_false,if_true]
  unfold nd2 at w1 ⊢
  cases h2:kQ a == 2 with
  |true=>
   rw [h2] at w1
   rw [if_pos rfl,cY (n:=100000000000) (by simp only [List.length_cons,List.length_nil,Bool.true_or] at w1 ⊢;omega) (by omega),aA,cY (n:=100000000000) (by simp only [List.length_cons,List.length_append,List.length_nil,Bool.true_or] at w1 ⊢;omega) (by omega),aA]
   simp
  |false=>
   rw [if_neg (by simp),cY (n:=100000000000) (by simp only [List.length_cons,List.length_nil];omega) (by omega),aA,cY (n:=100000000000) (by simp only [List.length_cons,List.length_append,List.length_nil];omega) (by omega),aA]
   simp
 ·simp only [h,show ((3:Int) == 0)=false from rfl,show ((3:Int) == 1)=false from rfl,show ((3:Int) == 6)=false from rfl,show ((3:Int) == 4)=false from rfl,show ((3:Int) == 5)=false from rfl,show ((3:Int) == 7)=false from rfl,show ((3:Int) == 8)=false from rfl,show ((3:Int) == 2)=false from rfl,show ((3:Int) == 3)=true from rfl,Bool.false_eq_true,if_false,if_true]
  rw [cY (n:=100000000000) (by simp only [List.length_cons,List.length_nil];omega) (by omega),aA,cY (n:=100000000000) (by simp only [List.length_cons,List.length_append,List.length_nil];omega) (by omega),aA]
  simp
theorem formT_S (hw:t.WF arF):kK t.flat=some (jK t):=by
 have key:=aKR (step:=fun (s:(List aL × List Int × Int))=>eX t.flat s.1 s.2.1 s.2.2) (mk:=fun (S:List (aL × Int)) i=>(S.map (·.1),S.map (·.2),i)) (val:=fun t=>(jK t,kQ t)) (ar:=arF) (e:=t.flat)
  (fun pre x post S he hS hw=>by
   show eX t.flat (S.map (·.1)) (S.map (·.2)) (pre.length:Int)=_
   rw [formS0 hl ho pre x post S he hS hw]) (fun pre x a post S he hS hw=>by
   show eX t.flat ((S++[(jK a,kQ a)]).map (·.1)) ((S++[(jK a,kQ a)]).map (·.2)) (pre.length:Int)=_
   rw [formS1 hl ho pre x a post S he hS hw]) (fun pre x a b post S he hS hw=>by
   show eX t.flat ((S++[(jK b,kQ b),(jK a,kQ a)]).map (·.1)) ((S++[(jK b,kQ b),(jK a,kQ a)]).map (·.2)) (pre.length:Int)=_
   rw [formS2 hl ho pre x a b post S he hS hw])
  rfl hw (by omega) (r:=[jK t]) (by simp only [eX];rfl)
 unfold kK
 simp only [List.map_nil] at key
 rw [key,aA]
 rfl
end
noncomputable def frT (f:List bI):aL:=(kK f).getD []
theorem aEw {f:List bI} (h:FrmD f) (hl:∀ n∈f,n.B.length < 100000000) (hv:gQ f=some true):pG f=some (frT f)/\kK f=some (frT f)/\(frT f).length<=6000000000:=by
 obtain ⟨T,he,hw⟩:=h.tree
 have ho:∀ n∈T.flat,NdP n:=fun n hn=>by rw [←he] at hn;exact ⟨h.loc n hn,h.bnd n hn,hl n hn⟩
 have h30:T.flat.length<=30:=by rw [←he];exact h.len
 have hS:=formT_S h30 ho hw
 have hI:=formT_I T 100000 (by omega) h30 hw ho
 have hF:=fromD T 100000 [] (by omega) (by rw [List.append_nil];omega) hw
 have hlen:=aAe T ho
 rw [List.append_nil] at hF
 have e:frT f=jK T:=by unfold frT;rw [he,hS];rfl
 rw [e]
 refine ⟨?_,by rw [he,hS],by omega⟩
 unfold pG
 rw [hv,aA,if_neg (by simp)]
 unfold aGs aDG
 rw [he,hF,aA,aA]
 unfold aCt
 rw [hI,aA]
end Gv
namespace Gv
open Go
theorem szSystemL {s:bM} {left:Int} (h0:0<=left) (hl:left<=sz) (h:aHk 9223372036854775807 s):∃ r,aEL s left=some r/\(0<=r->r<=left/\zSys s<=sz):=by
 obtain ⟨p1,p2,p3,p4,p5,p6,p7,p8,p9,p10⟩:=h
 obtain ⟨r,hr,h1⟩:=aIK (a:=s.Definitions) (left:=left) h0 hl (by omega) p2
 unfold aEL zSys
 rw [hr,aA]
 by_cases n1:r < 0
 ·exact ⟨-1,by rw [if_pos (by simpa using n1)],by omega⟩
 rw [if_neg (by simpa using n1)]
 have i1:=h1 (by omega)
 obtain ⟨r2,hr2,h2⟩:=aKi (a:=s.Components) (left:=r) (by omega) (by omega) (by omega) (fun c hc=>by have:=p4 c hc;omega)
 rw [hr2,aA]
 by_cases n2:r2 < 0
 ·exact ⟨-1,by rw [if_pos (by simpa using n2)],by omega⟩
 rw [if_neg (by simpa using n2)]
 have i2:=h2 (by omega)
 obtain ⟨r3,hr3,h3⟩:=aPx (a:=s.Meetings) (left:=r2) (by omega) (by omega) (by omega) p6
 rw [hr3,aA]
 by_cases n3:r3 < 0
 ·exact ⟨-1,by rw [if_pos (by simpa using n3)],by omega⟩
 rw [if_neg (by simpa using n3)]
 have i3:=h3 (by omega)
 obtain ⟨r4,hr4,h4⟩:=aLn (a:=s.Allowed) (left:=r3) (by omega) (by omega) (by omega) (fun s hs=>by have:=p8 s hs;omega)
 rw [hr4,aA]
 by_cases n4:r4 < 0
 ·exact ⟨-1,by rw [if_pos (by simpa using n4)],by omega⟩
 rw [if_neg (by simpa using n4)]
 have i4:=h4 (by omega)
 obtain ⟨r5,hr5,h5⟩:=aLn (a:=s.Hidden) (left:=r4) (by omega) (by omega) (by omega) (fun s hs=>by have:=p10 s hs;omega)
 rw [hr5,aA]
 by_cases n5:r5 < 0
 ·exact ⟨-1,by rw [if_pos (by simpa using n5)],by omega⟩
 rw [if_neg (by simpa using n5)]
 have i5:=h5 (by omega)
 exact ⟨_,rfl,fun _=>⟨by omega,by omega⟩⟩
theorem aPJ {a:List bI} {left:Int} (h0:0<=left) (hl:left<=sz) (ha:a.length<=9223372036854775807) (hp:∀ n∈a,n.B.length<=9223372036854775807):
  ∃ r,aGV a left=some r/\(0<=r->r<=left/\(a.length:Int)<=left/\∀ n∈a,n.B.length<=sz):=by
 refine szList (f:=aJg) (ok:=fun (n:bI)=>n.B.length<=sz) (step:=fun s=>aBa a s.1 s.2) h0 hl (by omega) (fun t ht l g0 g1=>?_) (fun k l x hk hz hx=>?_) (fun l=>?_)
 ·have:=hp t ht
  have e:wr (l - (t.B.length:Int))=l - t.B.length:=by unfold sz at g1;unfold wr;omega
  unfold aJg
  rw [e]
  by_cases hn:l - (t.B.length:Int) < 0
  ·exact ⟨-1,by rw [if_pos (by simpa using hn)],by omega⟩
  ·exact ⟨_,by rw [if_neg (by simpa using hn)],by omega⟩
 ·simp only [aBa,bV hk,if_true,hx,aA,bO hk (show a.length < 4611686018427387904 by unfold sz at hz;omega)]
 ·simp only [aBa,bL];rfl
structure aQL (n:Nat) (k:pL):Prop where
 name:k.Name.length<=n
 sys:mC n k.S
 nodes:k.Formula.length<=n
 node:∀ x∈k.Formula,x.B.length<=n
 src:aHk n k.Source
structure aNG (k:pL):Prop where
 name:k.Name.length<=sz
 sys:mC sz k.S
 nodes:k.Formula.length<=sz
 node:∀ x∈k.Formula,x.B.length<=sz
 src:zSys k.Source<=sz
theorem aQM {k:pL} {left:Int} (h0:0<=left) (hl:left<=sz) (h:aQL 9223372036854775807 k):∃ r,aJj k left=some r/\(0<=r->r<=left/\aNG k):=by
 have hn:=h.name
 have e1:wr (left - (k.Name.length:Int))=left - (k.Name.length:Int):=by unfold sz at hl;unfold wr;omega
 unfold aJj
 rw [e1]
 by_cases n1:left - (k.Name.length:Int) < 0
 ·exact ⟨-1,by rw [if_pos (by simpa using n1)],by omega⟩
 rw [if_neg (by simpa using n1)]
 obtain ⟨r2,hr2,h2⟩:=aRl (t:=k.S) (left:=left - (k.Name.length:Int)) (by omega) (by omega) h.sys
 rw [hr2,aA]
 by_cases n2:r2 < 0
 ·exact ⟨-1,by rw [if_pos (by simpa using n2)],by omega⟩
 rw [if_neg (by simpa using n2)]
 obtain ⟨i2,j2⟩:=h2 (by omega)
 obtain ⟨r3,hr3,h3⟩:=aPJ (a:=k.Formula) (left:=r2) (by omega) (by omega) h.nodes h.node
 rw [hr3,aA]
 by_cases n3:r3 < 0
 ·exact ⟨-1,by rw [if_pos (by simpa using n3)],by omega⟩
 rw [if_neg (by simpa using n3)]
 obtain ⟨i3,j3,l3⟩:=h3 (by omega)
 obtain ⟨r4,hr4,h4⟩:=szSystemL (s:=k.Source) (left:=r3) (by omega) (by omega) h.src
 rw [hr4,aA]
 by_cases n4:r4 < 0
 ·exact ⟨-1,by rw [if_pos (by simpa using n4)],by omega⟩
 rw [if_neg (by simpa using n4)]
 obtain ⟨i4,j4⟩:=h4 (by omega)
 exact ⟨_,rfl,fun _=>⟨by omega,⟨by omega,j2,by omega,l3,j4⟩⟩⟩
theorem aNH {t:gM} {m n:Nat} (h:m<=n) (ht:mC m t):mC n t:=⟨Nat.le_trans ht.1 h,fun s hs=>Nat.le_trans (ht.2.1 s hs) h,Nat.le_trans ht.2.2 h⟩
theorem aRS {a:List bI} (h:a.length<=iK):aHa a=some a:=by
 have h2:a.length < 4611686018427387904:=by unfold iK at h;omega
 refine toL (step:=fun s=>wN a s.1 s.2) h (fun k out x hk ho hx _=>?_) (fun out=>?_)
 ·simp only [wN,bV hk,if_true,hx,aA,aMx,bY (xs:=out) (k:=k) (by omega),aDu (xs:=out) (k:=k) _ (show k < out.length by omega),bO hk h2]
 ·simp only [wN,bL];rfl
theorem toKept_eq {k:pL} (h:aNG k):aCr k=some k:=by
 unfold aCr
 rw [toLts_eq (aNH sz_lim h.sys),aA,aRS (Nat.le_trans h.nodes sz_lim),aA,aQC (aGO (Nat.le_trans h.src sz_lim)),aA]
theorem eqNode_eq (a b:bI):aJD a b=some (decide (a=b)):=by
 obtain ⟨a1,a2,a3,a4⟩:=a;obtain ⟨b1,b2,b3,b4⟩:=b
 simp only [aJD,bI.mk.injEq]
 by_cases e1:a1=b1<;>by_cases e2:a2=b2<;>by_cases e3:a3=b3<;>by_cases e4:a4=b4<;>simp [e1,e2,e3,e4]
theorem aRT (a b:List bI) (h:a.length < 4611686018427387904):aHd a b=some (decide (a=b)):=by
 refine eqLG (step:=fun s=>aBw a b s) h (fun k x y hk hx hy hm=>?_) ?_
 ·simp only [aBw,bV hk,if_true,hx,hy,aA,eqNode_eq x y]
  by_cases e:x=y<;>simp [e]
 ·simp only [aBw,bL];rfl
theorem eqKept_eq (a b:pL) (h:aNG a):aJJ a b=some (decide (a=b)):=by
 obtain ⟨a1,a2,a3,a4,a5⟩:=a;obtain ⟨b1,b2,b3,b4,b5⟩:=b
 have g3:=eqLts_eq a3 b3 (aNH (by unfold sz;omega) h.sys)
 have g4:=aRT a4 b4 (by have:=h.nodes;unfold sz at this;simp only at this;omega)
 have g5:=aQE a5 b5 (aGO h.src)
 simp only [aJJ,pL.mk.injEq,g3,g4,g5,aA]
 by_cases e1:a1=b1<;>by_cases e2:a2=b2<;>by_cases e3:a3=b3<;>by_cases e4:a4=b4<;>by_cases e5:a5=b5<;>simp [e1,e2,e3,e4,e5]
theorem aPK (a:List aL):dG a []=some (a.length == 0):=by
 unfold dG
 cases a with
 |nil=>rw [if_neg (by simp),fJ (r:=.inl ()) rfl];rfl
 |cons x l=>rw [if_pos (by simp;omega)];simp
theorem eqNil_e (a:List Edge):dZ a []=some (a.length == 0):=by
 unfold dZ
 cases a with
 |nil=>rw [if_neg (by simp),fJ (r:=.inl ()) rfl];rfl
 |cons x l=>rw [if_pos (by simp;omega)];simp
theorem eqNil_m (a:List bB):dA a []=some (a.length == 0):=by
 unfold dA
 cases a with
 |nil=>rw [if_neg (by simp),fJ (r:=.inl ()) rfl];rfl
 |cons x l=>rw [if_pos (by simp;omega)];simp
theorem eqNil_d (a:List Definition):bA a []=some (a.length == 0):=by
 unfold bA
 cases a with
 |nil=>rw [if_neg (by simp),fJ (r:=.inl ()) rfl];rfl
 |cons x l=>rw [if_pos (by simp;omega)];simp
theorem eqNil_c (a:List aY):bF a []=some (a.length == 0):=by
 unfold bF
 cases a with
 |nil=>rw [if_neg (by simp),fJ (r:=.inl ()) rfl];rfl
 |cons x l=>rw [if_pos (by simp;omega)];simp
def nilL (t:gM):Bool:=t.N == 0&&(t.I == 0&&(t.L.length == 0&&t.E.length == 0))
def nilS (s:bM):Bool:=s.Definitions.length == 0&&(s.Components.length == 0&&(s.Meetings.length == 0&&(s.Allowed.length == 0&&s.Hidden.length == 0)))
theorem len0 (n:Nat):((n:Int) == 0)=(n == 0):=by cases n with
 |zero=>rfl
 |succ n=>rw [show (n+1 == 0)=false from rfl];simp;omega
theorem aLp (t:gM):aEg t ⟨0,0,[],[]⟩=some (nilL t):=by
 unfold aEg rT nilL
 rw [aPK,eqNil_e]
 cases t.N == 0<;>cases t.I == 0<;>cases t.L.length == 0<;>cases t.E.length == 0<;>rfl
theorem aQN (t:gM):yE t=some (nilL t):=by
 unfold yE pB nilL
 rw [len0,len0]
 cases t.N == 0<;>cases t.I == 0<;>cases t.L.length == 0<;>cases t.E.length == 0<;>rfl
theorem aGP (s:bM):wS s ⟨[],[],[],[],[]⟩=some (nilS s):=by
 unfold wS jW nilS
 rw [eqNil_d,eqNil_c,eqNil_m,aPK,aPK]
 cases s.Definitions.length == 0<;>cases s.Components.length == 0<;>cases s.Meetings.length == 0<;>cases s.Allowed.length == 0<;>cases s.Hidden.length == 0<;>rfl
theorem aRU {s:bM} (h:aHk sz s):aDW s=some (nilS s):=by
 obtain ⟨p1,p2,p3,p4,p5,p6,p7,p8,p9,p10⟩:=h
 unfold sz at p1 p3 p5 p7 p9
 unfold aDW nilS
 have e:wr ((wr ((wr ((wr ((s.Definitions.length:Int)+(s.Components.length:Int)))+(s.Meetings.length:Int)))+(s.Allowed.length:Int)))+(s.Hidden.length:Int))=((s.Definitions.length+s.Components.length+s.Meetings.length+s.Allowed.length+s.Hidden.length:Nat):Int):=by unfold wr;omega
 rw [e,len0]
 refine congrArg some ?_
 cases h1:s.Definitions.length with
 |succ n=>simp
 |zero=>
  cases h2:s.Components.length with
  |succ n=>simp
  |zero=>
   cases h3:s.Meetings.length with
   |succ n=>simp
   |zero=>
    cases h4:s.Allowed.length with
    |succ n=>simp
    |zero=>simp
theorem kept_both {k:pL} (h:aNG k):∃ B,mB k=some B/\aEW k=some B:=by
 have hsz:sz=1048576:=rfl
 have hn:=h.name
 have hF:=aNH (n:=999999999) (by omega) h.sys
 obtain ⟨vs,v1,v2,v3⟩:=aNv h.src
 obtain ⟨vf,f1,f2,f3⟩:=aKn (f:=k.Formula) (fun n hn=>by have:=h.node n hn;omega) (by have:=h.nodes;omega)
 have hsf:=aGO h.src
 unfold mB aEW
 rw [aHg _ (by omega),aCG,aA,aA]
 cases oE k.Name with
 |false=>exact ⟨false,rfl,rfl⟩
 |true=>
  rw [if_neg (by simp),if_neg (by simp),aLp,aA,aGP,aA]
  simp only [aQN,aRU hsf,aA,len0]
  by_cases k1:(k.Kind == 1)=true
  ·rw [if_pos k1,if_pos k1,aGM _ hF,aA,l11Is_eq _ hF,aA]
   unfold rB aCm
   cases cl (iP k.S)<;>cases k.Formula.length == 0<;>exact ⟨_,rfl,rfl⟩
  rw [if_neg k1,if_neg k1]
  by_cases k2:(k.Kind == 2)=true
  ·rw [if_pos k2,if_pos k2,f1,aA,f2,aA]
   unfold nF yM
   cases vf with
   |false=>exact ⟨false,rfl,rfl⟩
   |true=>
    obtain ⟨t1,t2,t3⟩:=aEw (f3 rfl) (fun n hn=>by have:=h.node n hn;omega) f1
    rw [if_pos rfl,if_pos rfl,t1,aA,t2,aA]
    cases decide (((frT k.Formula).length:Int)<=400)<;>cases nilL k.S<;>cases nilS k.Source<;>exact ⟨_,rfl,rfl⟩
  rw [if_neg k2,if_neg k2]
  by_cases k3:(k.Kind == 3)=true
  ·rw [if_pos k3,if_pos k3,v1,aA,v2,aA]
   unfold nG yN
   cases vs with
   |false=>exact ⟨false,rfl,rfl⟩
   |true=>
    obtain ⟨t1,t2,t3⟩:=aKm (v3 rfl) (by have:=hsf.meets;omega) v1
    rw [if_pos rfl,if_pos rfl,t1,aA,t2,aA]
    cases decide (((sysT k.Source).length:Int)<=16000)<;>cases nilL k.S<;>cases k.Formula.length == 0<;>exact ⟨_,rfl,rfl⟩
  rw [if_neg k3,if_neg k3]
  exact ⟨false,rfl,rfl⟩
noncomputable def kpB (k:pL):Bool:=(aEW k).getD false
theorem kp_eq {k:pL} (h:aNG k):mB k=some (kpB k)/\aEW k=some (kpB k):=by
 obtain ⟨B,h1,h2⟩:=kept_both h
 have:kpB k=B:=by unfold kpB;rw [h2];rfl
 rw [this];exact ⟨h1,h2⟩
end Gv
namespace Gv
open Go
theorem index_hd (a:UInt8) (l:aL):Lib.index (a::l) [a]=0:=by simp [Lib.index,List.isPrefixOf]
theorem index_tl {a b:UInt8} (l:aL) (h:b≠a):Lib.index (b::l) [a]=if Lib.index l [a] == -1 then -1 else Lib.index l [a]+1:=by
 have:([a]:List UInt8).isPrefixOf (b::l)=false:=by simp [List.isPrefixOf,Ne.symm h]
 rw [Lib.index,this];simp
theorem replK_tl {a b c:UInt8} (l:aL) (k:Nat) (h:b≠a):Lib.replaceK [a] [c] k (b::l)=b::Lib.replaceK [a] [c] k l:=by
 cases k with
 |zero=>rfl
 |succ k=>
  have hge:=Lib.index_ge l [a]
  rw [Lib.replaceK,Lib.replaceK,index_tl l h]
  by_cases hm:Lib.index l [a]=-1
  ·rw [hm];rfl
  ·have e1:(Lib.index l [a] == -1)=false:=by simpa using hm
   have e3:(Lib.index l [a]+1 == -1)=false:=by
    rw [beq_eq_false_iff_ne];omega
   simp only [e1,e3,Bool.false_eq_true,if_false]
   have e2:(Lib.index l [a]+1).toNat=(Lib.index l [a]).toNat+1:=by omega
   rw [e2,List.take_succ_cons,Nat.add_right_comm,List.drop_succ_cons]
   rfl
theorem aKX (a c:UInt8):∀ (l:aL) (k:Nat),l.count a<=k->Lib.replaceK [a] [c] k l=l.map fun x=>if x=a then c else x
 |[],k,_=>by cases k with
  |zero=>rfl
  |succ k=>simp [Lib.replaceK,Lib.index]
 |b::l,k,h=>by
  by_cases e:b=a
  ·subst e
   rw [List.count_cons_self] at h
   cases k with
   |zero=>omega
   |succ k=>
    rw [Lib.replaceK_hit [b] [c] k (b::l) 0 (index_hd b l),List.map_cons,if_pos rfl,←aKX b c l k (by omega)]
    rfl
  ·rw [List.count_cons_of_ne (by simpa using e)] at h
   rw [replK_tl l k e,aKX a c l k h,List.map_cons,if_neg e]
theorem aQO (s:aL) {a c:UInt8} (h:a≠c):Lib.replaceAll s [a] [c]=s.map fun x=>if x=a then c else x:=by
 unfold Lib.replaceAll Lib.replace Lib.replaceNum
 rw [if_neg (by simpa using h),if_pos (Or.inl (by omega)),Lib.count_one]
 exact aKX a c s _ (Nat.le_refl _)
def edT (e:Edge):aL:=Lib.itoa e.F++[58]++Lib.itoa e.B++[58]++Lib.itoa e.To
def wdT (l:List aL):aL:=if l=[] then [45] else Lib.join l [32]
def ltT (t:gM):aL:=Lib.itoa t.N++[32]++Lib.itoa t.I++[124]++wdT (t.L.drop 1)++[124]++wdT (t.E.map edT)
theorem join3 (a b c sep:aL):Lib.join [a,b,c] sep=a++sep++b++sep++c:=by
 rw [Lib.join_cons];simp [Lib.joinTail]
theorem aRV {l:List aL} {k:Nat} (hk:k+1 < l.length):(l.drop 1).take (k+1)=(l.drop 1).take k++[l[k+1]]:=by
 rw [List.take_add_one,List.getElem?_drop,Nat.add_comm 1 k,List.getElem?_eq_getElem hk];rfl
section
variable {t:gM} (ht:iP t) (hf:mC sz t)
include ht
theorem aNI {e:Edge} (he:e∈t.E):(0<=e.F/\e.F < 1000)/\(0<=e.B/\e.B < 1000)/\(0<=e.To/\e.To < 1000):=by
 obtain ⟨k,hk,rfl⟩:=List.mem_iff_getElem.1 he
 obtain ⟨⟨p1,p2⟩,q⟩:=(ht.2.2.2.2 k hk).1
 have:=ht.1
 have:=ht.2.2.1.2.1
 omega
theorem edT_len {e:Edge} (he:e∈t.E):(edT e).length<=100:=by
 obtain ⟨a,b,c⟩:=aNI ht he
 have:=fH (n:=e.F) (by omega) (by omega)
 have:=fH (n:=e.B) (by omega) (by omega)
 have:=fH (n:=e.To) (by omega) (by omega)
 unfold edT
 simp only [List.length_append,List.length_cons,List.length_nil];omega
theorem aOM (k:Nat):(Lib.join ((t.E.take k).map edT) [32]).length<=101 * 300:=by
 have h1:=aKU [32] ((t.E.take k).map edT)
 have h2:=aFv (M:=100) ((t.E.take k).map edT) (fun s hs=>by
  obtain ⟨e,he,rfl⟩:=List.mem_map.1 hs
  exact edT_len ht (List.mem_of_mem_take he))
 have h3:=ht.2.2.2.1
 have h4:((t.E.take k).map edT).length<=300:=by simp;omega
 simp only [List.length_cons,List.length_nil] at h1
 omega
theorem aQP (hf:mC sz t) (k:Nat):(Lib.join ((t.L.drop 1).take k) [32]).length<=1048577 * 12:=by
 have h1:=aKU [32] ((t.L.drop 1).take k)
 have h2:=aFv (M:=1048576) ((t.L.drop 1).take k) (fun s hs=>hf.2.1 s (List.mem_of_mem_drop (List.mem_of_mem_take hs)))
 have h3:=ht.2.2.1.2.1
 have h4:((t.L.drop 1).take k).length<=12:=by simp;omega
 simp only [List.length_cons,List.length_nil] at h1
 omega
theorem ltT_I (hf:mC sz t):aEi t=some (ltT t)/\(ltT t).length<=100000000:=by
 have hsz:sz=1048576:=rfl
 have hv:=aGM t (aNH (n:=999999999) (by omega) hf)
 rw [xJ ht] at hv
 have hE:=ht.2.2.2.1
 have h1:=ht.1
 have h2:=ht.2.1
 have hL:=ht.2.2.1
 have el:(t.E.map edT).length=t.E.length:=by simp
 have je:=aOM ht t.E.length
 rw [List.take_length] at je
 have jl:=aQP ht hf (t.L.drop 1).length
 rw [List.take_length] at jl
 have w1:aFb (t.L.drop 1)=some (wdT (t.L.drop 1))/\(wdT (t.L.drop 1)).length<=20000000:=by
  unfold aFb wdT
  by_cases h0:t.L.drop 1=[]
  ·rw [h0];exact ⟨rfl,by simp⟩
  ·have hne:¬ (((t.L.drop 1).length:Int) == 0)=true:=fun e=>h0 (List.length_eq_zero_iff.1 (by have:=eq_of_beq e;omega))
   rw [if_neg hne,if_neg h0,aFw (by rw [List.length_drop];have:=hL.2.1;omega) (by omega),aA]
   exact ⟨rfl,by omega⟩
 have w2:aFb (t.E.map edT)=some (wdT (t.E.map edT))/\(wdT (t.E.map edT)).length<=100000:=by
  unfold aFb wdT
  by_cases h0:t.E.map edT=[]
  ·rw [h0];exact ⟨rfl,by simp⟩
  ·have hne:¬ (((t.E.map edT).length:Int) == 0)=true:=fun e=>h0 (List.length_eq_zero_iff.1 (by have:=eq_of_beq e;omega))
   rw [if_neg hne,if_neg h0,aFw (by omega) (by omega),aA]
   exact ⟨rfl,by omega⟩
 have d1:=kG (n:=t.N) (by omega) (by omega)
 have d2:=kG (n:=t.I) (by omega) (by omega)
 have n1:=fH (n:=t.N) (by omega) (by omega)
 have n2:=fH (n:=t.I) (by omega) (by omega)
 have hs:slc t.L 1 (t.L.length:Int)=some (t.L.drop 1):=slc_from (w:=1) hL.1
 refine ⟨?_,?_⟩
 ·unfold aEi
  rw [hv,aA,if_neg (by simp),uR (step:=fun (q:(List aL × Int))=>xA t q.1 q.2) (xs:=t.E) (f:=edT) (pre:=[]) (fun k hk=>by
   obtain ⟨a,b,c⟩:=aNI ht (List.getElem_mem hk)
   have hl:=edT_len ht (List.getElem_mem hk)
   have e:Lib.join ([t.E[k].F,t.E[k].B,t.E[k].To].map Lib.itoa) [58]=edT t.E[k]:=join3 _ _ _ _
   have hj:=aKK [t.E[k].F,t.E[k].B,t.E[k].To] [58] (by simp) (fun x hx=>by
    simp only [List.mem_cons,List.not_mem_nil,or_false] at hx
    rcases hx with rfl|rfl|rfl<;>omega) (by rw [e];unfold iK;omega)
   rw [e] at hj
   simp only [xA,bV hk,if_true,bY hk,aA,hj,List.nil_append]
   rw [fB (by unfold iK;simp;omega),aA,bO hk (by omega)]) (fun out=>by simp only [xA,bL];rfl),aA,List.nil_append]
  unfold aBu
  rw [d1.1,aA,cY (n:=100000000000) (by simp only [List.length_cons,List.length_nil];omega) (by omega),aA,d2.1,aA]
  rw [cY (n:=100000000000) (by simp only [List.length_append,List.length_cons,List.length_nil];omega) (by omega),aA,cY (n:=100000000000) (by simp only [List.length_append,List.length_cons,List.length_nil];omega) (by omega),aA,hs,aA,w1.1,aA]
  rw [cY (n:=100000000000) (by simp only [List.length_append,List.length_cons,List.length_nil];omega) (by omega),aA,cY (n:=100000000000) (by simp only [List.length_append,List.length_cons,List.length_nil];omega) (by omega),aA,w2.1,aA]
  rw [cY (n:=100000000000) (by simp only [List.length_append,List.length_cons,List.length_nil];omega) (by omega),aA]
  rfl
 ·unfold ltT
  simp only [List.length_append,List.length_cons,List.length_nil];omega
theorem ltT_S (hf:mC sz t):aEd t=some (ltT t):=by
 have hsz:sz=1048576:=rfl
 have hE:=ht.2.2.2.1
 have h1:=ht.1
 have h2:=ht.2.1
 have hL:=ht.2.2.1
 have d1:=kG (n:=t.N) (by omega) (by omega)
 have d2:=kG (n:=t.I) (by omega) (by omega)
 have n1:=fH (n:=t.N) (by omega) (by omega)
 have n2:=fH (n:=t.I) (by omega) (by omega)
 have jl:=aQP ht hf
 have je:=aOM ht
 have hl1:=hL.1
 have hl2:=hL.2.1
 generalize hP:Lib.itoa t.N++[32]++Lib.itoa t.I++[124]=P
 have hPl:P.length<=100:=by rw [←hP];simp only [List.length_append,List.length_cons,List.length_nil];omega
 have aux:∀ n k,n+k+1=t.L.length->loop (fun (s:(aL × Int))=>rS t s.1 s.2) (P++Lib.join ((t.L.drop 1).take k) [32],((k+1:Nat):Int))=some (P++Lib.join (t.L.drop 1) [32]):=by
  intro n
  induction n with
  |zero=>
   intro k hk
   have hk:k+1=t.L.length:=by omega
   rw [List.take_of_length_le (by simp;omega),hk]
   exact fJ (by simp only [rS,bL];rfl)
  |succ n ih=>
   intro k hk
   have hk':k+1 < t.L.length:=by omega
   have b1:=jl k
   have b2:t.L[k+1].length<=1048576:=hf.2.1 _ (List.getElem_mem hk')
   have hst:rS t (P++Lib.join ((t.L.drop 1).take k) [32]) ((k+1:Nat):Int)=some (.inl (P++Lib.join ((t.L.drop 1).take (k+1)) [32],((k+1+1:Nat):Int))):=by
    rw [aRV hk',aKT]
    simp only [rS,bV hk',if_true]
    by_cases h0:k=0
    ·subst h0
     rw [if_neg (by simp),if_pos (by simp)]
     simp only [wL,bY hk',aA,List.take_zero,Lib.join_nil]
     rw [cY (n:=100000000000) (by simp only [List.length_append,List.length_nil];omega) (by omega),aA,bO hk' (by omega)]
     simp
    ·rw [if_pos (by simp;omega),if_neg (fun e=>by
      have:=congrArg List.length e
      simp at this;omega),cY (n:=100000000000) (by simp only [List.length_append,List.length_cons,List.length_nil];omega) (by omega),aA]
     simp only [wL,bY hk',aA]
     rw [cY (n:=100000000000) (by simp only [List.length_append,List.length_cons,List.length_nil];omega) (by omega),aA,bO hk' (by omega)]
     simp
   rw [oF hst]
   exact ih (k+1) (by omega)
 have a0:=aux (t.L.length - 1) 0 (by omega)
 rw [List.take_zero,Lib.join_nil,List.append_nil] at a0
 have edg:∀ Q:aL,Q.length<=100000000->loop (fun (s:(aL × Int))=>wK t s.1 s.2) (Q,0)=some (Q++Lib.join (t.E.map edT) [32]):=fun Q hQ=>by
  refine aKk (xs:=t.E) (f:=edT) (sep:=[32]) (fun k hk=>?_) (fun out=>by simp only [wK,bL];rfl)
  have hb:=je k
  obtain ⟨a,b,c⟩:=aNI ht (List.getElem_mem hk)
  have m1:=fH (n:=t.E[k].F) (by omega) (by omega)
  have m2:=fH (n:=t.E[k].B) (by omega) (by omega)
  have m3:=fH (n:=t.E[k].To) (by omega) (by omega)
  have hj:∀ o:aL,o.length<=200000000->rQ t (k:Int) o=some (.inl (o++edT t.E[k],((k+1:Nat):Int))):=fun o ho=>by
   unfold rQ
   rw [bY hk,aA,(kG a.1 (by omega)).2,aA,cY (n:=100000000000) (by simp only [List.length_append,List.length_cons,List.length_nil];omega) (by omega),aA,(kG b.1 (by omega)).2,aA]
   rw [cY (n:=100000000000) (by simp only [List.length_append,List.length_cons,List.length_nil];omega) (by omega),aA,cY (n:=100000000000) (by simp only [List.length_append,List.length_cons,List.length_nil];omega) (by omega),aA,(kG c.1 (by omega)).2,aA]
   rw [cY (n:=100000000000) (by simp only [List.length_append,List.length_cons,List.length_nil];omega) (by omega),aA,cY (n:=100000000000) (by simp only [List.length_append,List.length_cons,List.length_nil];omega) (by omega),aA,bO hk (by omega)]
   rfl
  simp only [wK,bV hk,if_true]
  by_cases h0:k=0
  ·subst h0
   rw [if_neg (by simp),if_pos rfl,hj _ (by simp [Lib.join_nil];omega)]
   simp [Lib.join_nil]
  ·rw [if_pos (by simp;omega),if_neg h0,cY (n:=100000000000) (by simp only [List.length_append,List.length_cons,List.length_nil];omega) (by omega),aA,hj _ (by simp only [List.length_append,List.length_cons,List.length_nil];omega)]
   simp
 have jl':=jl (t.L.drop 1).length
 rw [List.take_length] at jl'
 have je':=je t.E.length
 rw [List.take_length] at je'
 have j5:∀ W:aL,W.length<=20000000->rR t (P++W)=some (P++W++[124]++wdT (t.E.map edT)):=fun W hW=>by
  unfold rR
  rw [cY (n:=100000000000) (by simp only [List.length_append,List.length_cons,List.length_nil];omega) (by omega),aA,edg _ (by simp only [List.length_append,List.length_cons,List.length_nil];omega),aA]
  unfold aBn wdT
  by_cases h0:t.E.length=0
  ·have e:t.E=[]:=List.length_eq_zero_iff.1 h0
   rw [e]
   rw [if_pos (by simp),List.map_nil,if_pos rfl,Lib.join_nil,List.append_nil,cY (n:=100000000000) (by simp only [List.length_append,List.length_cons,List.length_nil];omega) (by omega),aA]
   rfl
  ·rw [if_neg (by simpa using h0),if_neg (fun e=>h0 (by have:=congrArg List.length e;simpa using this))]
   rfl
 unfold aEd
 rw [d1.2,aA,cY (n:=100000000000) (by simp only [List.length_append,List.length_cons,List.length_nil];omega) (by omega),aA,d2.2,aA,cY (n:=100000000000) (by simp only [List.length_append,List.length_cons,List.length_nil];omega) (by omega),aA]
 rw [cY (n:=100000000000) (by simp only [List.length_append,List.length_cons,List.length_nil];omega) (by omega),aA,hP,show (1:Int)=((0+1:Nat):Int) from rfl,a0,aA]
 unfold aBo ltT wdT
 rw [hP]
 by_cases h0:t.L.length=1
 ·have e:t.L.drop 1=[]:=List.length_eq_zero_iff.1 (by simp;omega)
  rw [if_pos (by simp [h0]),e,Lib.join_nil,List.append_nil,if_pos rfl,cY (n:=100000000000) (by simp only [List.length_append,List.length_cons,List.length_nil];omega) (by omega),aA,j5 _ (by simp)]
  rfl
 ·rw [if_neg (by simp;omega),if_neg (fun e=>h0 (by have:=congrArg List.length e;simp at this;omega)),j5 _ (by omega)]
  rfl
end
noncomputable def kpT (k:pL):aL:=if k.Kind=1 then ltT k.S else if k.Kind=2 then frT k.Formula else (sysT k.Source).map fun x=>if x=10 then 59 else x
theorem aRW {k:pL} (h:aNG k) (hv:mB k=some true):oE k.Name=true/\((k.Kind=1/\iP k.S)\/(k.Kind=2/\pG k.Formula=some (frT k.Formula)/\kK k.Formula=some (frT k.Formula)/\(frT k.Formula).length<=400)\/(k.Kind=3/\rW k.Source=some (sysT k.Source)/\yL k.Source=some (sysT k.Source)/\(sysT k.Source).length<=16000)):=by
 have hsz:sz=1048576:=rfl
 have hn:=h.name
 have hF:=aNH (n:=999999999) (by omega) h.sys
 have hsf:=aGO h.src
 obtain ⟨vs,v1,v2,v3⟩:=aNv h.src
 obtain ⟨vf,f1,f2,f3⟩:=aKn (f:=k.Formula) (fun n hn=>by have:=h.node n hn;omega) (by have:=h.nodes;omega)
 unfold mB at hv
 rw [aHg _ (by omega),aA] at hv
 cases hN:oE k.Name with
 |false=>rw [hN,if_pos (by simp)] at hv;cases hv
 |true=>
  rw [hN,if_neg (by simp),aLp,aA,aGP,aA] at hv
  refine ⟨rfl,?_⟩
  by_cases k1:k.Kind=1
  ·rw [if_pos (by simpa using k1),aGM _ hF,aA] at hv
   refine .inl ⟨k1,?_⟩
   by_cases hl:iP k.S
   ·exact hl
   ·rw [kP hl,if_neg (by simp)] at hv;cases hv
  rw [if_neg (by simpa using k1)] at hv
  by_cases k2:k.Kind=2
  ·rw [if_pos (by simpa using k2),f1,aA] at hv
   refine .inr (.inl ⟨k2,?_⟩)
   cases vf with
   |false=>rw [if_neg (by simp)] at hv;cases hv
   |true=>
    obtain ⟨t1,t2,t3⟩:=aEw (f3 rfl) (fun n hn=>by have:=h.node n hn;omega) f1
    rw [if_pos rfl,t1,aA] at hv
    refine ⟨t1,t2,?_⟩
    by_cases hl:((frT k.Formula).length:Int)<=400
    ·omega
    ·rw [if_neg (by simpa using hl)] at hv;cases hv
  rw [if_neg (by simpa using k2)] at hv
  by_cases k3:k.Kind=3
  ·rw [if_pos (by simpa using k3),v1,aA] at hv
   refine .inr (.inr ⟨k3,?_⟩)
   cases vs with
   |false=>rw [if_neg (by simp)] at hv;cases hv
   |true=>
    obtain ⟨t1,t2,t3⟩:=aKm (v3 rfl) (by have:=hsf.meets;omega) v1
    rw [if_pos rfl,t1,aA] at hv
    refine ⟨t1,t2,?_⟩
    by_cases hl:((sysT k.Source).length:Int)<=16000
    ·omega
    ·rw [if_neg (by simpa using hl)] at hv;cases hv
  rw [if_neg (by simpa using k3)] at hv
  cases hv
theorem aRX {k:pL} (h:aNG k) (hv:mB k=some true):aFc k=some (kpT k)/\aEe k=some (kpT k)/\(kpT k).length<=100000000/\k.Name.length<=10/\(k.Kind=1\/k.Kind=2\/k.Kind=3):=by
 obtain ⟨hN,hk⟩:=aRW h hv
 have hn:=(aEt hN).1
 unfold aFc aEe kpT
 rcases hk with ⟨e,hl⟩|⟨e,t1,t2,t3⟩|⟨e,t1,t2,t3⟩
 ·obtain ⟨g1,g2⟩:=ltT_I hl h.sys
  simp only [e,show ((1:Int) == 1)=true from rfl,if_true,if_pos (rfl:(1:Int)=1),g1,ltT_S hl h.sys,aA]
  exact ⟨trivial,trivial,g2,hn,.inl trivial⟩
 ·simp only [e,show ((2:Int) == 1)=false from rfl,show ((2:Int) == 2)=true from rfl,Bool.false_eq_true,if_true,if_false,if_neg (show ¬ (2:Int)=1 by omega),if_pos (rfl:(2:Int)=2),t1,t2,aA]
  exact ⟨trivial,trivial,by omega,hn,.inr (.inl trivial)⟩
 ·simp only [e,show ((3:Int) == 1)=false from rfl,show ((3:Int) == 2)=false from rfl,Bool.false_eq_true,if_false,if_neg (show ¬ (3:Int)=1 by omega),if_neg (show ¬ (3:Int)=2 by omega),t1,t2,aA]
  refine ⟨?_,?_,by rw [List.length_map];omega,hn,.inr (.inr trivial)⟩
  ·unfold aAY
   rw [if_pos ⟨by omega,rfl,rfl⟩,aQO _ (by decide),aA]
  ·unfold aOY iK
   rw [if_pos (by omega),aA]
end Gv
namespace Gv
open Go
theorem lawKpT (aK:pL) (h:aQL 9223372036854775807 aK):qB aK=some true:=by
 obtain ⟨r,hr,h1⟩:=aQM (left:=1048576) (by omega) (by unfold sz;omega) h
 unfold qB
 rw [hr,aA]
 by_cases hn:r < 0
 ·rw [if_pos (by simpa using hn)]
 rw [if_neg (by simpa using hn)]
 have hz:=(h1 (by omega)).2
 obtain ⟨b1,b2⟩:=kp_eq hz
 have e1:=eqKept_eq aK aK hz
 rw [decide_eq_true rfl] at e1
 have key:∃ T,aCn aK=some T/\aCu aK=some T:=by
  unfold aCn aCu
  rw [b1,b2,aA,aA]
  cases hB:kpB aK with
  |false=>exact ⟨[],rfl,rfl⟩
  |true=>
   rw [hB] at b1
   obtain ⟨c1,c2,_⟩:=aRX hz b1
   exact ⟨kpT aK,by rw [if_neg (by simp),c2,aA],by rw [if_neg (by simp),c1,aA]⟩
 obtain ⟨T,t1,t2⟩:=key
 rw [toKept_eq hz,aA,t1,aA,aA,t2,aA,if_neg (by simp),aA,e1,aA,if_neg (by simp)]
end Gv
