/- Lists of nodes that are trees, written from the root on; expressions of both sides. -/
import Derived.Test.YtiipffjapfalhaaGreatDoorJP220
set_option linter.all false
namespace Gv
theorem iV {σ ρ:Type} {step:σ->Option (σ ⊕ ρ)} {s s':σ} (h:step s=some (.inl s')):loop step s=loop step s':=by rw [bF,h]
theorem cQ {σ ρ:Type} {step:σ->Option (σ ⊕ ρ)} {s:σ} {r:ρ} (h:step s=some (.inr r)):loop step s=some r:=by rw [bF,h]
section
variable {β:Type}
inductive GTr (β:Type) where
 |nul (x:β)
 |one (x:β) (a:GTr β)
 |two (x:β) (a b:GTr β)
def GTr.flat:GTr β->List β
 |.nul x=>[x]
 |.one x a=>x::a.flat
 |.two x a b=>x::(a.flat++b.flat)
def GTr.WF (ar:β->Nat):GTr β->Prop
 |.nul x=>ar x=0
 |.one x a=>ar x=1/\a.WF ar
 |.two x a b=>ar x=2/\a.WF ar/\b.WF ar
def qP (ok:β->Bool) (ar:β->Nat):Nat->List β->Bool
 |n,[]=>n == 0
 |0,_::_=>false
 |n+1,x::l=>ok x&&qP ok ar (n+ar x) l
theorem GTr.flat_pos:∀ t:GTr β,0 < t.flat.length
 |.nul _=>by simp [GTr.flat]
 |.one _ _=>by simp [GTr.flat]
 |.two _ _ _=>by simp [GTr.flat]
theorem aUW {ok:β->Bool} {ar:β->Nat}:∀ {l:List β} {n:Nat},qP ok ar n l=true->∀ x∈l,ok x=true
 |[],_,_,x,hx=>by cases hx
 |y::l,0,h,_,_=>by simp [qP] at h
 |y::l,n+1,h,x,hx=>by
  simp only [qP,Bool.and_eq_true] at h
  rcases List.mem_cons.1 hx with rfl|hx
  ·exact h.1
  ·exact aUW h.2 x hx
theorem aLN {ok:β->Bool} {ar:β->Nat} (har:∀ x,ar x<=2):∀ {l:List β} {n:Nat},qP ok ar n l=true->∃ ts:List (GTr β),ts.length=n/\l=ts.flatMap GTr.flat/\∀ t∈ts,t.WF ar
 |[],n,h=>by
  simp only [qP,beq_iff_eq] at h
  subst h
  exact ⟨[],rfl,rfl,by simp⟩
 |x::l,0,h=>by simp [qP] at h
 |x::l,n+1,h=>by
  simp only [qP,Bool.and_eq_true] at h
  obtain ⟨ts,h1,h2,h3⟩:=aLN har h.2
  have hx:=har x
  by_cases e0:ar x=0
  ·refine ⟨.nul x::ts,by rw [List.length_cons,h1,e0],by rw [List.flatMap_cons,h2];rfl,fun t ht=>?_⟩
   rcases List.mem_cons.1 ht with rfl|ht
   ·exact e0
   ·exact h3 t ht
  by_cases e1:ar x=1
  ·match ts,h1,h2,h3 with
   |a::ts,h1,h2,h3=>
    refine ⟨.one x a::ts,by rw [List.length_cons] at h1 ⊢;omega,by rw [h2];simp [GTr.flat],fun t ht=>?_⟩
    rcases List.mem_cons.1 ht with rfl|ht
    ·exact ⟨e1,h3 a (by simp)⟩
    ·exact h3 t (List.mem_cons_of_mem _ ht)
   |[],h1,_,_=>simp at h1;omega
  have e2:ar x=2:=by omega
  match ts,h1,h2,h3 with
  |a::b::ts,h1,h2,h3=>
   refine ⟨.two x a b::ts,by rw [List.length_cons,List.length_cons] at h1;rw [List.length_cons];omega,by rw [h2];simp [GTr.flat],fun t ht=>?_⟩
   rcases List.mem_cons.1 ht with rfl|ht
   ·exact ⟨e2,h3 a (by simp),h3 b (by simp)⟩
   ·exact h3 t (List.mem_cons_of_mem _ (List.mem_cons_of_mem _ ht))
  |[a],h1,_,_=>simp at h1;omega
  |[],h1,_,_=>simp at h1;omega
theorem aKr {ok:β->Bool} {ar:β->Nat}:∀ (t:GTr β) (n:Nat) (l:List β),t.WF ar->(∀ x∈t.flat,ok x=true)->qP ok ar (n+1) (t.flat++l)=qP ok ar n l
 |.nul x,n,l,h,ho=>by
  have h:ar x=0:=h
  simp [GTr.flat,qP,h,ho x (by simp [GTr.flat])]
 |.one x a,n,l,h,ho=>by
  have h1:ar x=1:=h.1
  have:=aKr a n l h.2 (fun y hy=>ho y (by simp [GTr.flat,hy]))
  simp only [GTr.flat,List.cons_append,qP,h1,this,ho x (by simp [GTr.flat]),Bool.true_and]
 |.two x a b,n,l,h,ho=>by
  have h1:ar x=2:=h.1
  have e1:=aKr a (n+1) (b.flat++l) h.2.1 (fun y hy=>ho y (by simp [GTr.flat,hy]))
  have e2:=aKr b n l h.2.2 (fun y hy=>ho y (by simp [GTr.flat,hy]))
  simp only [GTr.flat,List.cons_append,qP,h1,ho x (by simp [GTr.flat]),Bool.true_and,List.append_assoc]
  rw [show n+2=n+1+1 from rfl,e1,e2]
theorem aOe {step:Int × Int->Option ((Int × Int) ⊕ (Int ⊕ Bool))} {e:List β} {ok:β->Bool} {ar:β->Nat} (har:∀ x,ar x<=2)
  (hs:∀ pre x post (n:Nat),e=pre++x::post->n<=2 * pre.length+1->step ((n:Int),(pre.length:Int))=if n=0 then some (.inr (.inr false)) else if ok x=true then some (.inl (((n - 1+ar x:Nat):Int),((pre.length+1:Nat):Int))) else some (.inr (.inr false)))
  (hs':∀ n,step (n,(e.length:Int))=some (.inr (.inl n))):∃ r,loop step (1,0)=some r/\(match r with|.inl r=>some (r == 0)|.inr b=>some b)=some (qP ok ar 1 e):=by
 have aux:∀ (l pre:List β) (n:Nat),e=pre++l->n<=2 * pre.length+1->∃ r,loop step ((n:Int),(pre.length:Int))=some r/\(match r with|.inl r=>some (r == 0)|.inr b=>some b)=some (qP ok ar n l):=by
  intro l
  induction l with
  |nil=>
   intro pre n he hn
   have:pre.length=e.length:=by rw [he];simp
   rw [bF,this,hs']
   refine ⟨_,rfl,?_⟩
   simp only [qP,Option.some.injEq]
   by_cases h:n=0
   ·subst h;rfl
   ·have h1:((n:Int) == 0)=false:=by simp;omega
    have h2:(n == 0)=false:=by simp;omega
    rw [h1,h2]
  |cons x l ih=>
   intro pre n he hn
   rw [bF,hs pre x l n he hn]
   match n with
   |0=>exact ⟨_,rfl,rfl⟩
   |n+1=>
    rw [if_neg (by omega)]
    have hx:=har x
    by_cases ho:ok x=true
    ·rw [if_pos ho]
     obtain ⟨r,h1,h2⟩:=ih (pre++[x]) (n+ar x) (by rw [he];simp) (by simp;omega)
     refine ⟨r,?_,?_⟩
     ·rw [show ((pre++[x]).length:Int)=((pre.length+1:Nat):Int) by simp] at h1
      exact h1
     ·rw [h2];simp only [qP,ho,Bool.true_and]
    ·rw [if_neg ho]
     refine ⟨_,rfl,?_⟩
     have:ok x=false:=by simpa using ho
     simp [qP,this]
 exact aux e [] 1 rfl (by simp)
theorem aQS {ρ:Type} {step:Int × Int->Option ((Int × Int) ⊕ ρ)} {e:List β} {ar:β->Nat} (fin:Int->ρ)
  (hs:∀ pre x post (n:Nat),e=pre++x::post->n<=e.length->step ((pre.length:Int),((n+1:Nat):Int))=some (.inl (((pre.length+1:Nat):Int),((n+ar x:Nat):Int))))
  (hs':∀ k,step (k,0)=some (.inr (fin k))):∀ (m:Nat) (ts:List (GTr β)) (pre post:List β),(ts.flatMap GTr.flat).length=m->e=pre++ts.flatMap GTr.flat++post->(∀ t∈ts,t.WF ar)->loop step ((pre.length:Int),(ts.length:Int))=some (fin ((pre.length+(ts.flatMap GTr.flat).length:Nat):Int)):=by
 intro m
 have hN:∀ (x:β) (ts:List (GTr β)),((GTr.nul x::ts).flatMap GTr.flat).length=(ts.flatMap GTr.flat).length+1:=fun x ts=>by rw [List.flatMap_cons,List.length_append];simp only [GTr.flat,List.length_singleton];omega
 have hO:∀ (x:β) (a:GTr β) (ts:List (GTr β)),((GTr.one x a::ts).flatMap GTr.flat).length=((a::ts).flatMap GTr.flat).length+1:=fun x a ts=>by simp only [List.flatMap_cons,List.length_append,GTr.flat,List.length_cons];omega
 have hT:∀ (x:β) (a b:GTr β) (ts:List (GTr β)),((GTr.two x a b::ts).flatMap GTr.flat).length=((a::b::ts).flatMap GTr.flat).length+1:=fun x a b ts=>by simp only [List.flatMap_cons,List.length_append,GTr.flat,List.length_cons];omega
 have hlen:∀ ts:List (GTr β),ts.length<=(ts.flatMap GTr.flat).length:=by
  intro ts
  induction ts with
  |nil=>simp
  |cons t ts ih=>have:=t.flat_pos;rw [List.flatMap_cons,List.length_append,List.length_cons];omega
 induction m with
 |zero=>
  intro ts pre post hm he hw
  match ts with
  |[]=>rw [bF,show ((([]:List (GTr β)).length:Nat):Int)=0 from rfl,hs'];simp
  |t::ts=>have:=t.flat_pos;rw [List.flatMap_cons,List.length_append] at hm;omega
 |succ m ih=>
  intro ts pre post hm he hw
  match ts with
  |[]=>simp at hm
  |t::ts=>
   have hln:=hlen ts
   have htw:=hw t (by simp)
   have e0:∀ x:β,((pre++[x]).length:Int)=((pre.length+1:Nat):Int):=fun x=>by simp
   have e1:∀ x:β,(pre++[x]).length=pre.length+1:=fun x=>by simp
   match t with
   |.nul x=>
    have ha:ar x=0:=htw
    have hx:e=pre++x::(ts.flatMap GTr.flat++post):=by rw [he];simp [GTr.flat]
    have hle:ts.length<=e.length:=by rw [hx,List.length_append,List.length_cons,List.length_append];omega
    rw [hN] at hm ⊢
    have:=ih ts (pre++[x]) post (by omega) (by rw [hx];simp) (fun t ht=>hw t (List.mem_cons_of_mem _ ht))
    rw [e0,e1] at this
    rw [bF,List.length_cons,hs pre x _ ts.length hx hle,ha]
    show loop step (((pre.length+1:Nat):Int),(ts.length:Int))=_
    rw [this]
    congr 2;omega
   |.one x a=>
    have ha:ar x=1:=htw.1
    have hx:e=pre++x::((a::ts).flatMap GTr.flat++post):=by rw [he];simp [GTr.flat]
    have hle:ts.length<=e.length:=by rw [hx,List.length_append,List.length_cons,List.length_append,List.flatMap_cons,List.length_append];omega
    rw [hO] at hm ⊢
    have:=ih (a::ts) (pre++[x]) post (by omega) (by rw [hx];simp) (fun t ht=>by
     rcases List.mem_cons.1 ht with rfl|ht
     ·exact htw.2
     ·exact hw t (List.mem_cons_of_mem _ ht))
    rw [e0,e1,List.length_cons] at this
    rw [bF,List.length_cons,hs pre x _ ts.length hx hle,ha]
    show loop step _=_
    rw [this]
    congr 2;omega
   |.two x a b=>
    have ha:ar x=2:=htw.1
    have hx:e=pre++x::((a::b::ts).flatMap GTr.flat++post):=by rw [he];simp [GTr.flat]
    have hle:ts.length<=e.length:=by rw [hx,List.length_append,List.length_cons,List.length_append,List.flatMap_cons,List.length_append,List.flatMap_cons,List.length_append];omega
    rw [hT] at hm ⊢
    have:=ih (a::b::ts) (pre++[x]) post (by omega) (by rw [hx];simp) (fun t ht=>by
     rcases List.mem_cons.1 ht with rfl|ht
     ·exact htw.2.1
     ·rcases List.mem_cons.1 ht with rfl|ht
      ·exact htw.2.2
      ·exact hw t (List.mem_cons_of_mem _ ht))
    rw [e0,e1,List.length_cons,List.length_cons] at this
    rw [bF,List.length_cons,hs pre x _ ts.length hx hle,ha]
    show loop step _=_
    rw [show ts.length+2=ts.length+1+1 from rfl,this]
    congr 2;omega
end
def aCG (v:Int) (t:aW):Bool:=if t.Kind == 0 then pB t.Value else if t.Kind == 1 then decide (0<=t.Value)&&decide (t.Value<=v - 1) else if t.Kind == 2 then decide (0<=t.Value)&&decide (t.Value<=8) else t.Kind == 3&&t.Value == 0
def arT (t:aW):Nat:=if t.Kind == 2 then 2 else if t.Kind == 3 then 1 else 0
theorem aOf (t:aW):arT t<=2:=by unfold arT;split<;>(try split)<;>omega
theorem aWs (t:aW) {v:Int} (hv:wr (v - 1)=v - 1):aKf t v=some (aCG v t):=by
 unfold aKf aCG pB
 simp only [aEY,hv,aA]
 by_cases h0:(t.Kind == 0)=true
 ·simp [h0]
 by_cases h1:(t.Kind == 1)=true
 ·simp [h0,h1]
 by_cases h2:(t.Kind == 2)=true
 ·simp [h0,h1,h2]
 by_cases h3:(t.Kind == 3)=true
 ·simp [h0,h1,h2,h3]
 ·simp [h0,h1,h2,h3]
theorem aWt (n:Int):aDZ n=some (pB n):=by unfold aDZ pB;rw [iD,aA]
theorem aRz (t:aW) {v:Int} (hv:wr (v - 1)=v - 1):aDS t v=some (aCG v t):=by
 unfold aDS aCG
 simp only [iD,aWt,hv,aA]
 by_cases h0:(t.Kind == 0)=true
 ·simp [h0]
 by_cases h1:(t.Kind == 1)=true
 ·simp [h0,h1]
 by_cases h2:(t.Kind == 2)=true
 ·simp [h0,h1,h2]
 by_cases h3:(t.Kind == 3)=true
 ·simp [h0,h1,h2,h3]
 ·simp [h0,h1,h2,h3]
theorem aJO (t:aW):aEB t=some (arT t:Int):=by
 unfold aEB arT
 split
 ·rfl
 ·split<;>rfl
theorem aDW (t:aW):xX t=some (arT t:Int):=aJO t
theorem aTw {n a:Nat} (h:n≠0) (hn:n < 4611686018427387904) (ha:a<=2):wr ((n:Int)+wr ((a:Int) - 1))=((n - 1+a:Nat):Int):=by unfold wr;omega
theorem l03Is_eq (e:List aW) {v m:Int} (hv:wr (v - 1)=v - 1) (hl:e.length < 1000000000):aMs e v m=some (decide ((e.length:Int)<=m)&&qP (aCG v) arT 1 e):=by
 unfold aMs
 by_cases h:m < (e.length:Int)
 ·rw [if_pos (by simpa using h)]
  have:decide ((e.length:Int)<=m)=false:=by simp;omega
  simp [this]
 ·rw [if_neg (by simpa using h)]
  have hm:decide ((e.length:Int)<=m)=true:=by simp;omega
  have key:=aOe (step:=fun s=>aEC e v s.1 s.2) (e:=e) (ok:=aCG v) (ar:=arT) aOf (fun pre x post n he hn=>?_) (fun n=>?_)
  ·obtain ⟨r,h1,h2⟩:=key
   rw [h1,aA,hm,Bool.true_and,←h2]
   first|done|(cases r<;>rfl)
  ·have hp:pre.length < e.length:=by rw [he];simp
   have hi:ix e (pre.length:Int)=some x:=by rw [iA,he];simp
   have ha:=aOf x
   simp only [aEC,aHm,bL hp,if_true,hi,aA,aWs x hv,aJO]
   by_cases h0:n=0
   ·subst h0;rfl
   ·have h0':((n:Int) == 0)=false:=by simp;omega
    rw [if_neg (by simp [h0']),if_neg h0,aTw h0 (by omega) ha,bI hp (by omega)]
    cases aCG v x<;>rfl
  ·simp only [aEC,bO];rfl
theorem aRA (e:List aW) {v m:Int} (hv:0<=v) (hv2:v<=29) (hm:1<=m) (hm2:m<=60) (hl:e.length < 1000000000):aAK e v m=some (decide ((e.length:Int)<=m)&&qP (aCG v) arT 1 e):=by
 have hw:wr (v - 1)=v - 1:=eV (by omega) (by omega)
 unfold aAK
 rw [iD,aA,if_neg (by simp;omega),iD,aA,if_neg (by simp;omega),iD,aA]
 unfold oB
 by_cases hb:(1<=(e.length:Int))/\(e.length:Int)<=m
 ·rw [if_neg (by simp;omega)]
  have hd:decide ((e.length:Int)<=m)=true:=by simp;omega
  have key:=aOe (step:=fun s=>sH e v s.1 s.2) (e:=e) (ok:=aCG v) (ar:=arT) aOf (fun pre x post n he hn=>?_) (fun n=>?_)
  ·obtain ⟨r,h1,h2⟩:=key
   rw [h1,aA,hd,Bool.true_and,←h2]
   first|done|(cases r<;>rfl)
  ·have hp:pre.length < e.length:=by rw [he];simp
   have hi:ix e (pre.length:Int)=some x:=by rw [iA,he];simp
   have ha:=aOf x
   simp only [sH,xY,bL hp,if_true,hi,aA,aRz x hw,aDW]
   by_cases h0:n=0
   ·subst h0;rfl
   ·have h0':((n:Int) == 0)=false:=by simp;omega
    rw [if_neg (by simp [h0']),if_neg h0,aTw h0 (by omega) ha,bI hp (by omega)]
    cases aCG v x<;>rfl
  ·simp only [sH,bO];rfl
 ·rw [if_pos (by simp;omega)]
  by_cases h2:(e.length:Int)<=m
  ·have:e=[]:=List.length_eq_zero_iff.1 (by omega)
   subst this
   simp [qP]
  ·simp [h2]
noncomputable def opV (op a b:Int):Int:=(aFx op a b).getD 0
theorem aWu (op a b:Int):aKl op a b=aFx op a b:=rfl
theorem aCH (b:Bool):∃ v,lX b=some v/\0<=v/\v<=63:=by cases b<;>exact ⟨_,rfl,by omega,by omega⟩
theorem op_eq (op:Int) {a b:Int} (ha:pB a=true) (hb:pB b=true):aFx op a b=some (opV op a b)/\pB (opV op a b)=true:=by
 simp only [pB,Bool.and_eq_true,decide_eq_true_eq] at ha hb
 have key:∃ v,aFx op a b=some v/\0<=v/\v<=63:=by
  have hm:0<=a * b/\a * b<=63 * 63:=⟨Int.mul_nonneg ha.1 hb.1,Int.mul_le_mul ha.2 hb.2 hb.1 (by omega)⟩
  have rmI:∀ x:Int,0<=x->∃ v,rm x 64=some v/\0<=v/\v<=63:=fun x hx=>⟨x.tmod 64,rfl,Int.tmod_nonneg _ hx,by have:=Int.tmod_lt_of_pos x (show (0:Int) < 64 by omega);omega⟩
  unfold aFx
  split
  ·rw [eV (by omega) (by omega)]
   obtain ⟨v,h1,h2⟩:=rmI (a+b) (by omega)
   exact ⟨v,by rw [h1];rfl,h2⟩
  split
  ·rw [eV (x:=a - b) (by omega) (by omega),eV (by omega) (by omega)]
   obtain ⟨v,h1,h2⟩:=rmI (a - b+64) (by omega)
   exact ⟨v,by rw [h1];rfl,h2⟩
  split
  ·rw [eV (by omega) (by omega)]
   obtain ⟨v,h1,h2⟩:=rmI (a * b) (by omega)
   exact ⟨v,by rw [h1];rfl,h2⟩
  split
  ·obtain ⟨v,h1,h2⟩:=aCH (a == b);exact ⟨v,by rw [h1];rfl,h2⟩
  split
  ·obtain ⟨v,h1,h2⟩:=aCH (a != b);exact ⟨v,by rw [h1];rfl,h2⟩
  split
  ·obtain ⟨v,h1,h2⟩:=aCH (decide (a < b));exact ⟨v,by rw [h1];rfl,h2⟩
  split
  ·obtain ⟨v,h1,h2⟩:=aCH (decide (a<=b));exact ⟨v,by rw [h1];rfl,h2⟩
  split
  ·split
   ·obtain ⟨v,h1,h2⟩:=aCH (b != 0);exact ⟨v,by rw [h1];rfl,h2⟩
   ·obtain ⟨v,h1,h2⟩:=aCH false;exact ⟨v,by rw [h1];rfl,h2⟩
  ·split
   ·obtain ⟨v,h1,h2⟩:=aCH true;exact ⟨v,by rw [h1];rfl,h2⟩
   ·obtain ⟨v,h1,h2⟩:=aCH (b != 0);exact ⟨v,by rw [h1];rfl,h2⟩
 obtain ⟨v,h1,h2,h3⟩:=key
 unfold opV
 rw [h1]
 exact ⟨rfl,by simp [pB,h2,h3]⟩
def trV (b:Bool):Int:=if b then 1 else 0
theorem truthG (b:Bool):lX b=some (trV b):=by cases b<;>rfl
theorem truth_eqI (b:Bool):aAN b=some (trV b):=by cases b<;>rfl
noncomputable def aGM (vs:List Int):GTr aW->Int
 |.nul t=>if t.Kind == 0 then t.Value else vs.getD t.Value.toNat 0
 |.one _ a=>trV (aGM vs a == 0)
 |.two t a b=>opV t.Value (aGM vs a) (aGM vs b)
def trT:GTr aW->Tr aW
 |.nul t=>.mk t []
 |.one t a=>.mk t [trT a]
 |.two t a b=>.mk t [trT a,trT b]
section
variable {vs:List Int} (hvs:vs.all pB=true)
include hvs
theorem var_ix {t:aW} (h1:(t.Kind == 1)=true) (ht:aCG (vs.length:Int) t=true):ix vs t.Value=some (vs.getD t.Value.toNat 0)/\pB (vs.getD t.Value.toNat 0)=true:=by
 have h0:(t.Kind == 0)=false:=by simp at h1 ⊢;omega
 simp only [aCG,h0,h1,Bool.false_eq_true,if_false,if_true,Bool.and_eq_true,decide_eq_true_eq] at ht
 have hlt:t.Value.toNat < vs.length:=by omega
 have e:vs.getD t.Value.toNat 0=vs[t.Value.toNat]:=by simp [List.getD,hlt]
 rw [e]
 refine ⟨?_,List.all_eq_true.1 hvs _ (List.getElem_mem hlt)⟩
 unfold ix
 rw [if_pos ht.1]
 simp [hlt]
theorem aHN:∀ (t:GTr aW),t.WF arT->(∀ x∈t.flat,aCG (vs.length:Int) x=true)->pB (aGM vs t)=true
 |.nul t,hw,ho=>by
  have ht:=ho t (by simp [GTr.flat])
  have hw:arT t=0:=hw
  by_cases h0:(t.Kind == 0)=true
  ·simp only [aGM,h0,if_true]
   simp only [aCG,h0,if_true] at ht
   exact ht
  ·simp only [aGM,h0,Bool.false_eq_true,if_false]
   have h1:(t.Kind == 1)=true:=by
    unfold arT at hw
    by_cases h2:(t.Kind == 2)=true
    ·simp [h2] at hw
    by_cases h3:(t.Kind == 3)=true
    ·simp [h2,h3] at hw
    by_cases h1:(t.Kind == 1)=true
    ·exact h1
    ·simp [aCG,h0,h1,h2,h3] at ht
   exact (var_ix hvs h1 ht).2
 |.one _ a,_,_=>by
  simp only [aGM]
  cases aGM vs a == 0<;>rfl
 |.two t a b,hw,ho=>by
  simp only [aGM]
  exact (op_eq _ (aHN a hw.2.1 (fun x hx=>ho x (by simp [GTr.flat,hx]))) (aHN b hw.2.2 (fun x hx=>ho x (by simp [GTr.flat,hx])))).2
theorem aSl {t:aW} {v:Int} (ht:aCG v t=true):(arT t=0->t.Kind=0\/t.Kind=1)/\(arT t=1->t.Kind=3)/\(arT t=2->t.Kind=2):=by
 unfold aCG at ht
 unfold arT
 by_cases h0:t.Kind=0
 ·simp [h0]
 by_cases h1:t.Kind=1
 ·simp [h1]
 by_cases h2:t.Kind=2
 ·simp [h2]
 by_cases h3:t.Kind=3
 ·simp [h3]
 ·simp [h0,h1,h2,h3] at ht
theorem aUX:∀ (t:GTr aW) (m:Nat) (post:List aW),t.flat.length<=m->(t.flat++post).length < 1000000000->t.WF arT->(∀ x∈t.flat,aCG (vs.length:Int) x=true)->mQ m (t.flat++post)=some (trT t,post):=by
 intro t
 induction t with
 |nul t=>
  intro m post hm hl hw ho
  match m with
  |0=>simp [GTr.flat] at hm
  |m+1=>
   have hw:arT t=0:=hw
   have hs:slc (t::post) 1 ((t::post).length:Int)=some post:=by
    unfold slc
    rw [if_pos ⟨by omega,by simp;omega,by simp⟩]
    simp
   show mP (mQ m) ([t]++post)=_
   unfold mP
   rw [List.singleton_append,show ix (t::post) 0=some t from rfl,aA,hs,aA,aDW,aA,hw,bF]
   rfl
 |one t a iha=>
  intro m post hm hl hw ho
  match m with
  |0=>simp [GTr.flat] at hm
  |m+1=>
   have h1:arT t=1:=hw.1
   have hs:slc (t::(a.flat++post)) 1 ((t::(a.flat++post)).length:Int)=some (a.flat++post):=by
    unfold slc
    rw [if_pos ⟨by omega,by simp;omega,by simp⟩,show ((1:Int)).toNat=1 from rfl,List.drop_succ_cons,List.drop_zero,List.take_of_length_le (by simp;omega)]
   have hl2:(a.flat++post).length < 1000000000:=by simp [GTr.flat] at hl ⊢;omega
   have ra:=iha m post (by simp [GTr.flat] at hm;omega) hl2 hw.2 (fun x hx=>ho x (by simp [GTr.flat,hx]))
   show mP (mQ m) (t::a.flat++post)=_
   unfold mP
   rw [List.cons_append,show ix (t::(a.flat++post)) 0=some t from rfl,aA,hs,aA,aDW,aA,h1,bF]
   simp only [xB,ra,aA,eO (xs:=([]:List (Tr aW))) (ys:=[trT a]) (by unfold gN;simp),show decide ((0:Int) < ((1:Nat):Int))=true from rfl,if_true,show wr (0+1)=1 from rfl]
   rw [bF]
   rfl
 |two t a b iha ihb=>
  intro m post hm hl hw ho
  match m with
  |0=>simp [GTr.flat] at hm
  |m+1=>
   have h1:arT t=2:=hw.1
   have hs:slc (t::(a.flat++(b.flat++post))) 1 ((t::(a.flat++(b.flat++post))).length:Int)=some (a.flat++(b.flat++post)):=by
    unfold slc
    rw [if_pos ⟨by omega,by simp;omega,by simp⟩,show ((1:Int)).toNat=1 from rfl,List.drop_succ_cons,List.drop_zero,List.take_of_length_le (by simp;omega)]
   have hl2:(a.flat++(b.flat++post)).length < 1000000000:=by simp [GTr.flat] at hl ⊢;omega
   have ra:=iha m (b.flat++post) (by simp [GTr.flat] at hm;omega) hl2 hw.2.1 (fun x hx=>ho x (by simp [GTr.flat,hx]))
   have rb:=ihb m post (by simp [GTr.flat] at hm;omega) (by simp at hl2 ⊢;omega) hw.2.2 (fun x hx=>ho x (by simp [GTr.flat,hx]))
   show mP (mQ m) (t::(a.flat++b.flat)++post)=_
   unfold mP
   rw [List.cons_append,List.append_assoc,show ix (t::(a.flat++(b.flat++post))) 0=some t from rfl,aA,hs,aA,aDW,aA,h1,bF]
   simp only [xB,ra,aA,eO (xs:=([]:List (Tr aW))) (ys:=[trT a]) (by unfold gN;simp),show decide ((0:Int) < ((2:Nat):Int))=true from rfl,if_true,show wr (0+1)=1 from rfl,List.nil_append]
   rw [bF]
   simp only [xB,rb,aA,eO (xs:=[trT a]) (ys:=[trT b]) (by unfold gN;simp),show decide ((1:Int) < ((2:Nat):Int))=true from rfl,if_true,show wr (1+1)=2 from rfl]
   rw [bF]
   rfl
theorem value_eq:∀ (t:GTr aW) (m:Nat),t.flat.length<=m->t.WF arT->(∀ x∈t.flat,aCG (vs.length:Int) x=true)->jW m (trT t) vs=some (aGM vs t):=by
 intro t
 induction t with
 |nul t=>
  intro m hm hw ho
  match m with
  |0=>simp [GTr.flat] at hm
  |m+1=>
   have ht:=ho t (by simp [GTr.flat])
   have hw:arT t=0:=hw
   show jV (jW m) (.mk t []) vs=_
   unfold jV
   simp only [Tr.val,aGM]
   rcases (aSl hvs ht).1 hw with h|h
   ·simp [h]
   ·have h1:(t.Kind == 1)=true:=by simp [h]
    have h0:(t.Kind == 0)=false:=by simp [h]
    simp only [h0,h1,Bool.false_eq_true,if_false,if_true,(var_ix hvs h1 ht).1,aA]
 |one t a iha=>
  intro m hm hw ho
  match m with
  |0=>simp [GTr.flat] at hm
  |m+1=>
   have ht:=ho t (by simp [GTr.flat])
   have ra:=iha m (by simp [GTr.flat] at hm;omega) hw.2 (fun x hx=>ho x (by simp [GTr.flat,hx]))
   have hk:=(aSl hvs ht).2.1 hw.1
   show jV (jW m) (.mk t [trT a]) vs=_
   unfold jV
   simp only [Tr.val,Tr.kids,aGM,hk]
   simp [ix,ra,truth_eqI]
 |two t a b iha ihb=>
  intro m hm hw ho
  match m with
  |0=>simp [GTr.flat] at hm
  |m+1=>
   have ht:=ho t (by simp [GTr.flat])
   have hoa:∀ x∈a.flat,aCG (vs.length:Int) x=true:=fun x hx=>ho x (by simp [GTr.flat,hx])
   have hob:∀ x∈b.flat,aCG (vs.length:Int) x=true:=fun x hx=>ho x (by simp [GTr.flat,hx])
   have ra:=iha m (by simp [GTr.flat] at hm;omega) hw.2.1 hoa
   have rb:=ihb m (by simp [GTr.flat] at hm;omega) hw.2.2 hob
   have hk:=(aSl hvs ht).2.2 hw.1
   have ho:=(op_eq t.Value (aHN hvs a hw.2.1 hoa) (aHN hvs b hw.2.2 hob)).1
   show jV (jW m) (.mk t [trT a,trT b]) vs=_
   unfold jV
   simp only [Tr.val,Tr.kids,aGM,hk]
   simp [ix,ra,rb,aWu,ho]
theorem l03End_eq {e:List aW} (hl:e.length < 1000000000) (t:GTr aW) (pre post:List aW) (he:e=pre++t.flat++post) (hw:t.WF arT):aIX e (pre.length:Int)=some ((pre.length+t.flat.length:Nat):Int):=by
 unfold aIX
 have:=aQS (step:=fun s=>aIW e s.1 s.2) (e:=e) (ar:=arT) (fun k=>k) (fun pre x post n he hn=>?_) (fun k=>?_) _ [t] pre post rfl (by simpa using he) (by simpa using hw)
 ·simp only [List.length_singleton,Int.natCast_one] at this
  rw [this]
  simp [aIV]
 ·have hp:pre.length < e.length:=by rw [he];simp
  have hi:ix e (pre.length:Int)=some x:=by rw [iA,he];simp
  have h2:wr (((n+1:Nat):Int)+wr ((arT x:Int) - 1))=((n+arT x:Nat):Int):=by have:=aOf x;unfold wr;omega
  simp only [aIW,hi,aA,aJO,h2,bI hp (show e.length < 4611686018427387904 by omega)]
  rw [if_pos (by simp<;>omega)]
 ·rfl
theorem l03At_eq {e:List aW} (hl:e.length < 1000000000):∀ (t:GTr aW) (m:Nat) (pre post:List aW),e=pre++t.flat++post->t.flat.length<=m->t.WF arT->(∀ x∈t.flat,aCG (vs.length:Int) x=true)->vC m e vs (pre.length:Int)=some (aGM vs t):=by
 intro t
 induction t with
 |nul t=>
  intro m pre post he hm hw ho
  match m with
  |0=>simp [GTr.flat] at hm
  |m+1=>
   have ht:=ho t (by simp [GTr.flat])
   have hw:arT t=0:=hw
   have hi:ix e (pre.length:Int)=some t:=by rw [iA,he];simp [GTr.flat]
   show vB (vC m) e vs (pre.length:Int)=_
   unfold vB
   simp only [hi,aA,aGM]
   rcases (aSl hvs ht).1 hw with h|h
   ·simp [h]
   ·have h1:(t.Kind == 1)=true:=by simp [h]
    have h0:(t.Kind == 0)=false:=by simp [h]
    simp only [h0,h1,Bool.false_eq_true,if_false,if_true,(var_ix hvs h1 ht).1,aA]
 |one t a iha=>
  intro m pre post he hm hw ho
  match m with
  |0=>simp [GTr.flat] at hm
  |m+1=>
   have ht:=ho t (by simp [GTr.flat])
   have hi:ix e (pre.length:Int)=some t:=by rw [iA,he];simp [GTr.flat]
   have hp:pre.length < e.length:=by rw [he];simp [GTr.flat]
   have ra:=iha m (pre++[t]) post (by rw [he];simp [GTr.flat]) (by simp [GTr.flat] at hm;omega) hw.2 (fun x hx=>ho x (by simp [GTr.flat,hx]))
   rw [show ((pre++[t]).length:Int)=((pre.length+1:Nat):Int) by simp] at ra
   have hk:=(aSl hvs ht).2.1 hw.1
   show vB (vC m) e vs (pre.length:Int)=_
   unfold vB
   simp only [hi,aA,aGM,hk,bI hp (show e.length < 4611686018427387904 by omega),ra]
   simp [truthG]
 |two t a b iha ihb=>
  intro m pre post he hm hw ho
  match m with
  |0=>simp [GTr.flat] at hm
  |m+1=>
   have ht:=ho t (by simp [GTr.flat])
   have hoa:∀ x∈a.flat,aCG (vs.length:Int) x=true:=fun x hx=>ho x (by simp [GTr.flat,hx])
   have hob:∀ x∈b.flat,aCG (vs.length:Int) x=true:=fun x hx=>ho x (by simp [GTr.flat,hx])
   have hi:ix e (pre.length:Int)=some t:=by rw [iA,he];simp [GTr.flat]
   have hp:pre.length < e.length:=by rw [he];simp [GTr.flat]
   have hea:e=(pre++[t])++a.flat++(b.flat++post):=by rw [he];simp [GTr.flat]
   have heb:e=(pre++[t]++a.flat)++b.flat++post:=by rw [he];simp [GTr.flat]
   have ra:=iha m (pre++[t]) _ hea (by simp [GTr.flat] at hm;omega) hw.2.1 hoa
   have rb:=ihb m (pre++[t]++a.flat) _ heb (by simp [GTr.flat] at hm;omega) hw.2.2 hob
   have re:=l03End_eq hvs hl a (pre++[t]) _ hea hw.2.1
   rw [show ((pre++[t]++a.flat).length:Int)=(((pre++[t]).length+a.flat.length:Nat):Int) by rw [List.length_append]] at rb
   have e1:((pre++[t]).length:Int)=((pre.length+1:Nat):Int):=by simp
   rw [e1] at ra re
   have hk:=(aSl hvs ht).2.2 hw.1
   have hop:=(op_eq t.Value (aHN hvs a hw.2.1 hoa) (aHN hvs b hw.2.2 hob)).1
   show vB (vC m) e vs (pre.length:Int)=_
   unfold vB
   simp only [hi,aA,aGM,hk,bI hp (show e.length < 4611686018427387904 by omega),ra,re,rb]
   simp [hop]
end
noncomputable def aHO (vs:List Int) (e:List aW):Int:=(aBu e vs).getD 0
def okE (v:Int) (e:List aW):Bool:=decide ((e.length:Int)<=15)&&qP (aCG v) arT 1 e
theorem aGN {e:List aW} {vs:List Int} (hvs:vs.all pB=true) (h:okE (vs.length:Int) e=true):aBu e vs=some (aHO vs e)/\aBB e vs=some (aHO vs e)/\pB (aHO vs e)=true:=by
 unfold okE at h
 simp only [Bool.and_eq_true,decide_eq_true_eq] at h
 obtain ⟨hl,hn⟩:=h
 obtain ⟨ts,h1,h2,h3⟩:=aLN aOf hn
 have hall:=aUW hn
 match ts,h1 with
 |[t],_=>
  have e1:e=t.flat:=by rw [h2];simp
  have hw:=h3 t (by simp)
  have ho:∀ x∈t.flat,aCG (vs.length:Int) x=true:=fun x hx=>hall x (by rw [e1];exact hx)
  have hlen:t.flat.length<=15:=by rw [←e1];omega
  have a1:=l03At_eq hvs (e:=e) (by omega) t 100000 [] [] (by simp [e1]) (by omega) hw ho
  have a2:=aUX hvs t 100000 [] (by omega) (by simp;omega) hw ho
  have a3:=value_eq hvs t 100000 (by omega) hw ho
  rw [List.append_nil,←e1] at a2
  have s1:aBu e vs=some (aGM vs t):=by unfold aBu aTe;rw [show (0:Int)=(([]:List aW).length:Int) from rfl,a1];rfl
  have s2:aBB e vs=some (aGM vs t):=by unfold aBB i_tree aLv aHx;rw [a2];simp only [aA];rw [a3];rfl
  have s3:aHO vs e=aGM vs t:=by unfold aHO;rw [s1];rfl
  rw [s3]
  exact ⟨s1,s2,aHN hvs t hw ho⟩
theorem aSm {l:List (List aW)} {vs:List Int} (hvs:vs.all pB=true) (h:∀ e∈l,okE (vs.length:Int) e=true) (hl:l.length<=1000):aEc l vs=some (l.map (aHO vs))/\sV l vs=some (l.map (aHO vs)):=by
 constructor
 ·unfold aEc
  rw [qO (step:=fun s=>aDG l vs s.1 s.2) l (aHO vs) (fun x=>x) (fun k out x hk ho hx=>?_) (fun out=>?_)]
  ·rfl
  ·have hm:x∈l:=by rw [bH hk] at hx;cases hx;exact List.getElem_mem hk
   simp only [aDG,bL hk,if_true,hx,aA,(aGN hvs (h x hm)).1,eO (xs:=out) (ys:=[aHO vs x]) (by unfold gN;simp;omega),bI hk (show l.length < 4611686018427387904 by omega)]
  ·simp only [aDG,bO];rfl
 ·unfold sV
  rw [qO (step:=fun s=>vJ l vs s.1 s.2) l (aHO vs) (fun x=>x) (fun k out x hk ho hx=>?_) (fun out=>?_)]
  ·rfl
  ·have hm:x∈l:=by rw [bH hk] at hx;cases hx;exact List.getElem_mem hk
   simp only [vJ,bL hk,if_true,hx,aA,(aGN hvs (h x hm)).2.1,eO (xs:=out) (ys:=[aHO vs x]) (by unfold gN;simp;omega),bI hk (show l.length < 4611686018427387904 by omega)]
  ·simp only [vJ,bO];rfl
end Gv
namespace Gv
def iW (p:Part):Nat:=if p.Kind == 1||p.Kind == 3||p.Kind == 4 then 1 else if p.Kind == 2 then 2 else 0
theorem aNi (p:Part):iW p<=2:=by unfold iW;split<;>(try split)<;>omega
theorem aHP (p:Part):yV p=some (iW p:Int):=by
 unfold yV tR iW
 by_cases h1:(p.Kind == 1)=true
 ·simp [h1]
 by_cases h3:(p.Kind == 3)=true
 ·simp [h1,h3]
 by_cases h4:(p.Kind == 4)=true
 ·simp [h1,h3,h4]
 by_cases h2:(p.Kind == 2)=true
 ·simp [h1,h3,h4,h2]
 ·simp [h1,h3,h4,h2]
theorem aFa (p:Part):wU p=some (iW p:Int):=aHP p
def tt (_:Part):Bool:=true
theorem aUY {α:Type} {ok:α->Bool} {ar:α->Nat}:∀ {l:List α} {n:Nat},qP ok ar n l=true->n<=l.length
 |[],n,h=>by simp [qP] at h;omega
 |x::l,0,_=>Nat.zero_le _
 |x::l,n+1,h=>by
  simp only [qP,Bool.and_eq_true] at h
  have:=aUY h.2
  rw [List.length_cons];omega
theorem aSn (b:List Part) (hl:b.length < 1000000000):aEA b=some (decide (b.length<=20)&&qP tt iW 1 b):=by
 unfold aEA
 by_cases h0:b=[]
 ·subst h0;rfl
 have hb:0 < b.length:=by cases b with|nil=>exact absurd rfl h0|cons _ _=>simp
 rw [if_neg (by simp;exact h0)]
 unfold wG
 by_cases h20:20 < b.length
 ·rw [if_pos (by simp;omega)]
  have:decide (b.length<=20)=false:=by simp;omega
  rw [this];rfl
 ·rw [if_neg (by simp;omega)]
  have hd:decide (b.length<=20)=true:=by simp;omega
  have key:=aOe (step:=fun s=>aBP b s.1 s.2) (e:=b) (ok:=tt) (ar:=iW) aNi (fun pre x post n he hn=>?_) (fun n=>?_)
  ·obtain ⟨r,h1,h2⟩:=key
   rw [h1,aA,hd,Bool.true_and,←h2]
   first|done|(cases r<;>rfl)
  ·have hp:pre.length < b.length:=by rw [he];simp
   have hi:ix b (pre.length:Int)=some x:=by rw [iA,he];simp
   have ha:=aNi x
   simp only [aBP,bL hp,if_true,hi,aA,aHP,tt]
   by_cases h0:n=0
   ·subst h0;rfl
   ·have h0':((n:Int) == 0)=false:=by simp;omega
    rw [if_neg (by simp [h0']),if_neg h0,aTw h0 (by omega) ha,bI hp (by omega)]
  ·simp only [aBP,bO];rfl
def aNj:Nat->List Part->Option Nat
 |0,_=>some 0
 |_+1,[]=>none
 |n+1,p::l=>(aNj (n+iW p) l).map (·+1)
theorem aSo:∀ (l:List Part) (n:Nat),qP tt iW n l=decide (aNj n l=some l.length)
 |[],0=>by simp [qP,aNj]
 |[],n+1=>by simp [qP,aNj]
 |x::l,0=>by simp [qP,aNj]
 |x::l,n+1=>by
  rw [show qP tt iW (n+1) (x::l)=qP tt iW (n+iW x) l from rfl,aSo l (n+iW x),show aNj (n+1) (x::l)=(aNj (n+iW x) l).map (·+1) from rfl]
  generalize aNj (n+iW x) l=o
  cases o with
  |none=>simp
  |some k=>simp
theorem end_any {d:Definition} (hl:d.Body.length < 1000000000):∀ (l pre:List Part) (n:Nat),d.Body=pre++l->n<=2 * pre.length+1->
  (ob (loop (fun s=>iU d s.1 s.2) ((pre.length:Int),(n:Int))) fun r=>match r with|.inl r=>pM r|.inr r=>some r)=some (match aNj n l with|some k=>((pre.length+k:Nat):Int)|none=>-1):=by
 intro l
 induction l with
 |nil=>
  intro pre n he hn
  rw [bF]
  match n with
  |0=>rfl
  |n+1=>
   have hp:pre.length=d.Body.length:=by rw [he];simp
   simp only [iU,aNj,hp]
   rw [if_pos (by simp<;>omega),if_pos (by simp)]
   rfl
 |cons x l ih=>
  intro pre n he hn
  match n with
  |0=>rw [cQ (r:=.inl (pre.length:Int)) rfl];rfl
  |n+1=>
   have hp:pre.length < d.Body.length:=by rw [he];simp
   have hi:ix d.Body (pre.length:Int)=some x:=by rw [iA,he];simp
   have ha:=aNi x
   have h2:wr (((n+1:Nat):Int)+wr ((iW x:Int) - 1))=((n+iW x:Nat):Int):=by unfold wr;omega
   have h3:decide ((d.Body.length:Int)<=(pre.length:Int))=false:=by simp;omega
   have h4:decide ((0:Int) < ((n+1:Nat):Int))=true:=by simp<;>omega
   have hst:iU d (pre.length:Int) ((n+1:Nat):Int)=some (.inl (((pre.length+1:Nat):Int),((n+iW x:Nat):Int))):=by
    simp only [iU,h3,h4,if_true,Bool.false_eq_true,if_false,hi,aA,aFa,h2,bI hp (show d.Body.length < 4611686018427387904 by omega)]
   have:=ih (pre++[x]) (n+iW x) (by rw [he];simp) (by simp;omega)
   rw [show ((pre++[x]).length:Int)=((pre.length+1:Nat):Int) by simp,show (pre++[x]).length=pre.length+1 by simp] at this
   rw [iV hst,this,show aNj (n+1) (x::l)=(aNj (n+iW x) l).map (·+1) from rfl]
   generalize aNj (n+iW x) l=o
   cases o with
   |none=>rfl
   |some k=>simp only [Option.map_some];congr 2;omega
theorem aUZ {d:Definition} (hl:d.Body.length < 1000000000):∃ r,kR d 0=some r/\(r != (d.Body.length:Int))=!qP tt iW 1 d.Body:=by
 have:=end_any hl d.Body [] 1 rfl (by simp)
 refine ⟨_,this,?_⟩
 rw [aSo]
 generalize aNj 1 d.Body=o
 cases o with
 |none=>simp<;>omega
 |some k=>
  simp only [Nat.zero_add,List.length_nil,Option.some.injEq]
  by_cases hk:k=d.Body.length
  ·simp [hk]
  ·have h1:((k:Int) != (d.Body.length:Int))=true:=by simp;omega
   rw [h1];simp [hk]
theorem end_at {d:Definition} (hl:d.Body.length < 1000000000) (t:GTr Part) (pre post:List Part) (he:d.Body=pre++t.flat++post) (hw:t.WF iW):kR d (pre.length:Int)=some ((pre.length+t.flat.length:Nat):Int)/\aGq d.Body (pre.length:Int)=some ((pre.length+t.flat.length:Nat):Int):=by
 have hwr:∀ (n:Nat) (x:Part),n<=d.Body.length->wr (((n+1:Nat):Int)+wr ((iW x:Int) - 1))=((n+iW x:Nat):Int):=fun n x h=>by have:=aNi x;unfold wr;omega
 constructor
 ·unfold kR
  have:=aQS (step:=fun s=>iU d s.1 s.2) (e:=d.Body) (ar:=iW) (fun k=>(.inl k:Int ⊕ Int)) (fun pre x post n he hn=>?_) (fun k=>?_) _ [t] pre post rfl (by simpa using he) (by simpa using hw)
  ·simp only [List.length_singleton,Int.natCast_one] at this
   rw [this]
   simp [pM]
  ·have hp:pre.length < d.Body.length:=by rw [he];simp
   have hi:ix d.Body (pre.length:Int)=some x:=by rw [iA,he];simp
   have h3:decide ((d.Body.length:Int)<=(pre.length:Int))=false:=by simp;omega
   simp only [iU,hi,aA,aFa,hwr n x hn,bI hp (show d.Body.length < 4611686018427387904 by omega)]
   rw [if_pos (by simp<;>omega),h3]
   rfl
  ·rfl
 ·unfold aGq
  have:=aQS (step:=fun s=>aIS d.Body s.1 s.2) (e:=d.Body) (ar:=iW) (fun k=>k) (fun pre x post n he hn=>?_) (fun k=>?_) _ [t] pre post rfl (by simpa using he) (by simpa using hw)
  ·simp only [List.length_singleton,Int.natCast_one] at this
   rw [this]
   simp [aIR]
  ·have hp:pre.length < d.Body.length:=by rw [he];simp
   have hi:ix d.Body (pre.length:Int)=some x:=by rw [iA,he];simp
   simp only [aIS,hi,aA,aHP,hwr n x hn,bI hp (show d.Body.length < 4611686018427387904 by omega)]
   rw [if_pos (by simp<;>omega)]
  ·rfl
def bel (s:Int) (p:Part):Int:=if p.Kind == 4 then s+1 else s
def plT (s:Int) (b:Bool):GTr Part->List dV
 |.nul _=>[⟨s,b⟩]
 |.one p a=>⟨s,b⟩::plT (bel s p) (p.Kind == 1) a
 |.two p a c=>⟨s,b⟩::(plT (bel s p) (p.Kind == 1) a++plT (bel s p) (p.Kind == 1) c)
theorem pS:∀ (t:GTr Part) (s:Int) (b:Bool),(plT s b t).length=t.flat.length
 |.nul _,_,_=>rfl
 |.one p a,s,b=>by simp only [plT,GTr.flat,List.length_cons,pS a]
 |.two p a c,s,b=>by simp only [plT,GTr.flat,List.length_cons,List.length_append,pS a,pS c]
theorem aOg (s:Int) (p:Part):s<=bel s p/\bel s p<=s+1:=by unfold bel;split<;>omega
theorem fill_eq {d:Definition} (hl:d.Body.length < 1000000000):∀ (t:GTr Part) (m:Nat) (s:Int) (b:Bool) (pre post:List Part) (X old Y:List dV),d.Body=pre++t.flat++post->X.length=pre.length->old.length=t.flat.length->t.flat.length<=m->t.WF iW->0<=s->s<=1000000000 - t.flat.length->
  cW m (pre.length:Int) ⟨s,b⟩ (X++old++Y) d d=some (((pre.length+t.flat.length:Nat):Int),X++plT s b t++Y):=by
 intro t
 induction t with
 |nul p=>
  intro m s b pre post X old Y he hX ho hm hw h0 hs
  match m with
  |0=>simp [GTr.flat] at hm
  |m+1=>
   have hw:iW p=0:=hw
   match old,ho with
   |[o],_=>
    have hi:ix d.Body (pre.length:Int)=some p:=by rw [iA,he];simp [GTr.flat]
    have hix:ix (X++[o]++Y) (pre.length:Int)=some o:=by rw [iA,←hX];simp
    have hst:st (X++[o]++Y) (pre.length:Int) (⟨s,b⟩:dV)=some (X++[⟨s,b⟩]++Y):=by rw [←hX,mL _ (by simp)];simp
    have hp:pre.length < d.Body.length:=by rw [he];simp [GTr.flat]
    show eA (cW m) _ _ _ _ _=_
    unfold eA
    simp only [hix,aA,hst,hi]
    have hj:∀ z:Int,dG (cW m) (pre.length:Int) d (X++[⟨s,b⟩]++Y) p z=some (((pre.length+1:Nat):Int),X++[⟨s,b⟩]++Y):=fun z=>by
     unfold dG
     rw [aFa,aA,hw,bI hp (by omega),bF]
     rfl
    split
    ·exact hj _
    ·exact hj _
 |one p a iha=>
  intro m s b pre post X old Y he hX ho hm hw h0 hs
  match m with
  |0=>simp [GTr.flat] at hm
  |m+1=>
   have hw1:iW p=1:=hw.1
   simp only [GTr.flat,List.length_cons] at ho hm hs
   match old,ho with
   |o::old,ho=>
    simp only [List.length_cons] at ho
    have hb:=aOg s p
    have hi:ix d.Body (pre.length:Int)=some p:=by rw [iA,he];simp [GTr.flat]
    have hix:ix (X++(o::old)++Y) (pre.length:Int)=some o:=by rw [iA,←hX];simp
    have hst:st (X++(o::old)++Y) (pre.length:Int) (⟨s,b⟩:dV)=some ((X++[⟨s,b⟩])++old++Y):=by rw [←hX,mL _ (by simp)];simp
    have hp:pre.length < d.Body.length:=by rw [he];simp [GTr.flat]
    have ra:=iha m (bel s p) (p.Kind == 1) (pre++[p]) post (X++[⟨s,b⟩]) old Y (by rw [he];simp [GTr.flat]) (by simp [hX]) (by omega) (by omega) hw.2 (by omega) (by omega)
    rw [show ((pre++[p]).length:Int)=((pre.length+1:Nat):Int) by simp,show (pre++[p]).length=pre.length+1 by simp] at ra
    show eA (cW m) _ _ _ _ _=_
    unfold eA
    simp only [hix,aA,hst,hi]
    have hj:dG (cW m) (pre.length:Int) d ((X++[⟨s,b⟩])++old++Y) p (bel s p)=some (((pre.length+(GTr.one p a).flat.length:Nat):Int),X++plT s b (.one p a)++Y):=by
     unfold dG
     rw [aFa,aA,hw1,bI hp (by omega),bF]
     simp only [eZ,show decide ((0:Int) < ((1:Nat):Int))=true from rfl,if_true,ra,aA,show wr (0+1)=1 from rfl]
     rw [bF]
     simp only [eZ,show decide ((1:Int) < ((1:Nat):Int))=false from rfl,Bool.false_eq_true,if_false,aA,kL,plT,GTr.flat,List.length_cons]
     simp;omega
    split
    ·rename_i h4
     rw [eV (by omega) (by omega),show s+1=bel s p by simp [bel,h4]]
     exact hj
    ·rename_i h4
     have:bel s p=s:=by unfold bel;rw [if_neg h4]
     rw [this] at hj
     exact hj
 |two p a c iha ihc=>
  intro m s b pre post X old Y he hX ho hm hw h0 hs
  match m with
  |0=>simp [GTr.flat] at hm
  |m+1=>
   have hw1:iW p=2:=hw.1
   simp only [GTr.flat,List.length_cons,List.length_append] at ho hm hs
   match old,ho with
   |o::old,ho=>
    simp only [List.length_cons] at ho
    have hb:=aOg s p
    have ho1:old=old.take a.flat.length++old.drop a.flat.length:=(List.take_append_drop _ _).symm
    have hi:ix d.Body (pre.length:Int)=some p:=by rw [iA,he];simp [GTr.flat]
    have hix:ix (X++(o::old)++Y) (pre.length:Int)=some o:=by rw [iA,←hX];simp
    have hst:st (X++(o::old)++Y) (pre.length:Int) (⟨s,b⟩:dV)=some ((X++[⟨s,b⟩])++old++Y):=by rw [←hX,mL _ (by simp)];simp
    have hp:pre.length < d.Body.length:=by rw [he];simp [GTr.flat]
    have ra:=iha m (bel s p) (p.Kind == 1) (pre++[p]) (c.flat++post) (X++[⟨s,b⟩]) (old.take a.flat.length) (old.drop a.flat.length++Y) (by rw [he];simp [GTr.flat]) (by simp [hX]) (by rw [List.length_take];omega) (by omega) hw.2.1 (by omega) (by omega)
    have rc:=ihc m (bel s p) (p.Kind == 1) (pre++[p]++a.flat) post (X++[⟨s,b⟩]++plT (bel s p) (p.Kind == 1) a) (old.drop a.flat.length) Y (by rw [he];simp [GTr.flat]) (by simp [hX,pS]) (by rw [List.length_drop];omega) (by omega) hw.2.2 (by omega) (by omega)
    rw [show ((pre++[p]).length:Int)=((pre.length+1:Nat):Int) by simp,show (pre++[p]).length=pre.length+1 by simp] at ra
    rw [show (pre++[p]++a.flat).length=pre.length+1+a.flat.length by simp;omega] at rc
    have hold:(X++[⟨s,b⟩])++old++Y=(X++[⟨s,b⟩])++old.take a.flat.length++(old.drop a.flat.length++Y):=by
     have:old++Y=old.take a.flat.length++(old.drop a.flat.length++Y):=by rw [←List.append_assoc,List.take_append_drop]
     rw [List.append_assoc,this,List.append_assoc]
     simp
    rw [←List.append_assoc] at ra
    show eA (cW m) _ _ _ _ _=_
    unfold eA
    simp only [hix,aA,hst,hi]
    have hj:dG (cW m) (pre.length:Int) d ((X++[⟨s,b⟩])++old++Y) p (bel s p)=some (((pre.length+(GTr.two p a c).flat.length:Nat):Int),X++plT s b (.two p a c)++Y):=by
     unfold dG
     rw [aFa,aA,hw1,bI hp (by omega),bF,hold]
     simp only [eZ,show decide ((0:Int) < ((2:Nat):Int))=true from rfl,if_true]
     rw [←List.append_assoc,ra,aA]
     simp only [show wr (0+1)=1 from rfl]
     rw [bF]
     simp only [eZ,show decide ((1:Int) < ((2:Nat):Int))=true from rfl,if_true]
     rw [←List.append_assoc,rc,aA]
     simp only [show wr (1+1)=2 from rfl]
     rw [bF]
     simp only [eZ,show decide ((2:Int) < ((2:Nat):Int))=false from rfl,Bool.false_eq_true,if_false,aA,kL,plT,GTr.flat,List.length_cons,List.length_append]
     simp;omega
    split
    ·rename_i h4
     rw [eV (by omega) (by omega),show s+1=bel s p by simp [bel,h4]]
     exact hj
    ·rename_i h4
     have:bel s p=s:=by unfold bel;rw [if_neg h4]
     rw [this] at hj
     exact hj
theorem placesG {d:Definition} {t:GTr Part} (he:d.Body=t.flat) (hw:t.WF iW) (hl:d.Body.length<=20) (h0:0<=d.Parameters) (h1:d.Parameters<=3):mD d=some (plT d.Parameters false t):=by
 unfold mD rP
 rw [aNW _ (by unfold gN;omega),aA]
 have:=fill_eq (d:=d) (by omega) t 100000 d.Parameters false [] [] [] (List.replicate d.Body.length ⟨0,false⟩) [] (by rw [he];simp) rfl (by rw [List.length_replicate,he]) (by rw [←he];omega) hw h0 (by rw [←he];omega)
 simp only [List.length_nil,List.nil_append,List.append_nil] at this
 rw [show ((0:Nat):Int)=0 from rfl] at this
 rw [this,aA]
section
variable {d:Definition} {part:Int} (hl:d.Body.length < 1000000000)
include hl
theorem aFb (t:GTr Part) (p:Part) (rest pre post:List Part) (out:Int) (he:d.Body=pre++t.flat++post) (hp:t.flat=p::rest) (hw:t.WF iW) (hlt:(pre.length:Int) < part) (ho:wr (out+1)=out+1):
  lB d part out (pre.length:Int)=some (.inl (if p.Kind == 4&&decide (part < ((pre.length+t.flat.length:Nat):Int)) then out+1 else out,((pre.length+1:Nat):Int))):=by
 have hi:ix d.Body (pre.length:Int)=some p:=by rw [iA,he,hp];simp
 have hpl:pre.length < d.Body.length:=by rw [he,hp];simp
 unfold lB
 rw [if_pos (by simpa using hlt),hi,aA]
 unfold aBQ wH
 rw [bI hpl (by omega)]
 by_cases h4:(p.Kind == 4)=true
 ·rw [if_pos h4,(end_at hl t pre post he hw).2,aA,h4,Bool.true_and,ho]
  split<;>rfl
 ·rw [if_neg h4]
  have:(p.Kind == 4)=false:=by simpa using h4
  rw [this]
  rfl
theorem scope_seg:∀ (t:GTr Part) (pre post:List Part) (out:Int),d.Body=pre++t.flat++post->t.WF iW->((pre.length+t.flat.length:Nat):Int)<=part->wr (out+1)=out+1->
  loop (fun s=>lB d part s.1 s.2) (out,(pre.length:Int))=loop (fun s=>lB d part s.1 s.2) (out,((pre.length+t.flat.length:Nat):Int)):=by
 intro t
 induction t with
 |nul p=>
  intro pre post out he hw hle ho
  rw [iV (aFb hl (.nul p) p [] pre post out he rfl hw (by simp [GTr.flat] at hle;omega) ho),if_neg (by simp only [Bool.and_eq_true,decide_eq_true_eq];omega)]
  rfl
 |one p a iha=>
  intro pre post out he hw hle ho
  rw [iV (aFb hl (.one p a) p a.flat pre post out he rfl hw (by simp [GTr.flat] at hle;omega) ho),if_neg (by simp only [Bool.and_eq_true,decide_eq_true_eq];omega)]
  have:=iha (pre++[p]) post out (by rw [he];simp [GTr.flat]) hw.2 (by simp [GTr.flat] at hle ⊢;omega) ho
  rw [show ((pre++[p]).length:Int)=((pre.length+1:Nat):Int) by simp,show (pre++[p]).length=pre.length+1 by simp] at this
  rw [this]
  congr 2
  simp [GTr.flat];omega
 |two p a c iha ihc=>
  intro pre post out he hw hle ho
  rw [iV (aFb hl (.two p a c) p (a.flat++c.flat) pre post out he rfl hw (by simp [GTr.flat] at hle;omega) ho),if_neg (by simp only [Bool.and_eq_true,decide_eq_true_eq];omega)]
  have h1:=iha (pre++[p]) (c.flat++post) out (by rw [he];simp [GTr.flat]) hw.2.1 (by simp [GTr.flat] at hle ⊢;omega) ho
  have h2:=ihc (pre++[p]++a.flat) post out (by rw [he];simp [GTr.flat]) hw.2.2 (by simp [GTr.flat] at hle ⊢;omega) ho
  rw [show ((pre++[p]).length:Int)=((pre.length+1:Nat):Int) by simp,show (pre++[p]).length=pre.length+1 by simp] at h1
  rw [show (pre++[p]++a.flat).length=pre.length+1+a.flat.length by simp;omega] at h2
  rw [h1,h2]
  congr 2
  simp [GTr.flat];omega
theorem scope_at:∀ (t:GTr Part) (pre post:List Part) (s:Int) (b:Bool) (i:Nat) (pl:dV),d.Body=pre++t.flat++post->t.WF iW->0<=s->s<=1000000000 - t.flat.length->(plT s b t)[i]?=some pl->part=((pre.length+i:Nat):Int)->
  loop (fun s=>lB d part s.1 s.2) (s,(pre.length:Int))=some pl.scope:=by
 intro t
 have stop:∀ s:Int,loop (fun s=>lB d part s.1 s.2) (s,part)=some s:=fun s=>by
  rw [bF]
  unfold lB
  rw [if_neg (by simp)]
 induction t with
 |nul p=>
  intro pre post s b i pl he hw h0 hs hpl hpt
  match i with
  |0=>
   simp only [plT,List.getElem?_cons_zero,Option.some.injEq] at hpl
   subst hpl
   rw [Nat.add_zero] at hpt
   rw [←hpt];exact stop s
  |i+1=>simp [plT] at hpl
 |one p a iha=>
  intro pre post s b i pl he hw h0 hs hpl hpt
  match i with
  |0=>
   simp only [plT,List.getElem?_cons_zero,Option.some.injEq] at hpl
   subst hpl
   rw [Nat.add_zero] at hpt
   rw [←hpt];exact stop s
  |i+1=>
   simp only [plT,List.getElem?_cons_succ] at hpl
   have hi:i < a.flat.length:=by have:=(List.getElem?_eq_some_iff.1 hpl).1;rwa [pS] at this
   have hsz:(GTr.one p a).flat.length=a.flat.length+1:=rfl
   have hb:=aOg s p
   rw [iV (aFb hl (.one p a) p a.flat pre post s he rfl hw (by omega) (eV (by omega) (by omega)))]
   have e:(if (p.Kind == 4&&decide (part < ((pre.length+(GTr.one p a).flat.length:Nat):Int)))=true then s+1 else s)=bel s p:=by
    have:decide (part < ((pre.length+(GTr.one p a).flat.length:Nat):Int))=true:=by rw [hsz];simp;omega
    rw [this,Bool.and_true];rfl
   rw [e]
   have:=iha (pre++[p]) post (bel s p) (p.Kind == 1) i pl (by rw [he];simp [GTr.flat]) hw.2 (by omega) (by omega) hpl (by rw [hpt];simp;omega)
   rw [show ((pre++[p]).length:Int)=((pre.length+1:Nat):Int) by simp] at this
   exact this
 |two p a c iha ihc=>
  intro pre post s b i pl he hw h0 hs hpl hpt
  match i with
  |0=>
   simp only [plT,List.getElem?_cons_zero,Option.some.injEq] at hpl
   subst hpl
   rw [Nat.add_zero] at hpt
   rw [←hpt];exact stop s
  |i+1=>
   simp only [plT,List.getElem?_cons_succ] at hpl
   have hi:i < a.flat.length+c.flat.length:=by have:=(List.getElem?_eq_some_iff.1 hpl).1;rwa [List.length_append,pS,pS] at this
   have hsz:(GTr.two p a c).flat.length=a.flat.length+c.flat.length+1:=by simp [GTr.flat]
   have hb:=aOg s p
   rw [iV (aFb hl (.two p a c) p (a.flat++c.flat) pre post s he rfl hw (by omega) (eV (by omega) (by omega)))]
   have e:(if (p.Kind == 4&&decide (part < ((pre.length+(GTr.two p a c).flat.length:Nat):Int)))=true then s+1 else s)=bel s p:=by
    have:decide (part < ((pre.length+(GTr.two p a c).flat.length:Nat):Int))=true:=by rw [hsz];simp;omega
    rw [this,Bool.and_true];rfl
   rw [e]
   by_cases hia:i < a.flat.length
   ·rw [List.getElem?_append_left (by rw [pS];exact hia)] at hpl
    have:=iha (pre++[p]) (c.flat++post) (bel s p) (p.Kind == 1) i pl (by rw [he];simp [GTr.flat]) hw.2.1 (by omega) (by omega) hpl (by rw [hpt];simp;omega)
    rw [show ((pre++[p]).length:Int)=((pre.length+1:Nat):Int) by simp] at this
    exact this
   ·rw [List.getElem?_append_right (by rw [pS];omega),pS] at hpl
    have h1:=scope_seg hl (part:=part) a (pre++[p]) (c.flat++post) (bel s p) (by rw [he];simp [GTr.flat]) hw.2.1 (by rw [hpt];simp;omega) (eV (by omega) (by omega))
    have h2:=ihc (pre++[p]++a.flat) post (bel s p) (p.Kind == 1) (i - a.flat.length) pl (by rw [he];simp [GTr.flat]) hw.2.2 (by omega) (by omega) hpl (by rw [hpt];simp;omega)
    rw [show ((pre++[p]).length:Int)=((pre.length+1:Nat):Int) by simp,show (pre++[p]).length=pre.length+1 by simp] at h1
    rw [show (pre++[p]++a.flat).length=pre.length+1+a.flat.length by simp;omega] at h2
    rw [h1];exact h2
end
theorem scope_eq {d:Definition} {t:GTr Part} (he:d.Body=t.flat) (hw:t.WF iW) (hl:d.Body.length<=20) (h0:0<=d.Parameters) (h1:d.Parameters<=3) {i:Nat} {pl:dV} (hpl:(plT d.Parameters false t)[i]?=some pl):aBp d (i:Int)=some pl.scope:=by
 unfold aBp
 have:=scope_at (d:=d) (part:=(i:Int)) (by omega) t [] [] d.Parameters false i pl (by rw [he];simp) hw h0 (by rw [←he];omega) hpl (by simp)
 simp only [List.length_nil] at this
 rw [show ((0:Nat):Int)=0 from rfl] at this
 rw [this];rfl
theorem aOh:∀ (t:GTr Part),t.WF iW->∃ l x,t.flat=l++[x]/\iW x=0
 |.nul p,hw=>⟨[],p,rfl,hw⟩
 |.one p a,hw=>by
  obtain ⟨l,x,h1,h2⟩:=aOh a hw.2
  exact ⟨p::l,x,by simp [GTr.flat,h1],h2⟩
 |.two p a c,hw=>by
  obtain ⟨l,x,h1,h2⟩:=aOh c hw.2.2
  exact ⟨p::(a.flat++l),x,by simp [GTr.flat,h1],h2⟩
theorem aOi {p:Part}:(p.Kind=1->iW p=1)/\(iW p=2->p.Kind=2):=by
 unfold iW
 constructor
 ·intro h;simp [h]
 ·intro h
  by_cases h1:(p.Kind == 1||p.Kind == 3||p.Kind == 4)=true
  ·rw [if_pos h1] at h;omega
  ·rw [if_neg h1] at h
   by_cases h2:(p.Kind == 2)=true
   ·simpa using h2
   ·rw [if_neg h2] at h;omega
theorem behind_eq:∀ (t:GTr Part) (s:Int) (b:Bool) (i:Nat) (pl:dV),t.WF iW->(plT s b t)[i]?=some pl->pl.behind=if i=0 then b else match t.flat[i - 1]? with|some q=>q.Kind == 1|none=>false:=by
 intro t
 induction t with
 |nul p=>
  intro s b i pl hw h
  match i with
  |0=>simp only [plT,List.getElem?_cons_zero,Option.some.injEq] at h;subst h;rfl
  |i+1=>simp [plT] at h
 |one p a iha=>
  intro s b i pl hw h
  match i with
  |0=>simp only [plT,List.getElem?_cons_zero,Option.some.injEq] at h;subst h;rfl
  |i+1=>
   simp only [plT,List.getElem?_cons_succ] at h
   have:=iha _ _ i pl hw.2 h
   rw [this,if_neg (Nat.succ_ne_zero i),Nat.add_sub_cancel]
   match i with
   |0=>simp [GTr.flat]
   |i+1=>simp [GTr.flat]
 |two p a c iha ihc=>
  intro s b i pl hw h
  match i with
  |0=>simp only [plT,List.getElem?_cons_zero,Option.some.injEq] at h;subst h;rfl
  |i+1=>
   simp only [plT,List.getElem?_cons_succ] at h
   rw [if_neg (by omega),Nat.add_sub_cancel]
   by_cases hia:i < a.flat.length
   ·rw [List.getElem?_append_left (by rw [pS];exact hia)] at h
    have:=iha _ _ i pl hw.2.1 h
    rw [this]
    match i with
    |0=>simp [GTr.flat]
    |i+1=>
     have:(GTr.two p a c).flat[i+1]?=a.flat[i]?:=by
      simp only [GTr.flat,List.getElem?_cons_succ]
      rw [List.getElem?_append_left (by omega)]
     rw [this];simp
   ·rw [List.getElem?_append_right (by rw [pS];omega),pS] at h
    have:=ihc _ _ _ pl hw.2.2 h
    rw [this]
    by_cases hz:i - a.flat.length=0
    ·rw [if_pos hz]
     have hi:i=a.flat.length:=by omega
     have hk2:=aOi.2 hw.1
     obtain ⟨l,x,h1,h2⟩:=aOh a hw.2.1
     have:(GTr.two p a c).flat[i]?=some x:=by
      simp only [GTr.flat]
      rw [hi,h1]
      simp
     rw [this,hk2]
     have hx:(x.Kind == 1)=false:=by
      by_cases h:x.Kind=1
      ·have:=aOi.1 h;omega
      ·simpa using h
     simp [hx]
    ·rw [if_neg hz]
     have:(GTr.two p a c).flat[i]?=c.flat[i - a.flat.length - 1]?:=by
      obtain ⟨j,rfl⟩:∃ j,i=j+1:=⟨i - 1,by omega⟩
      simp only [GTr.flat,List.getElem?_cons_succ]
      rw [List.getElem?_append_right (by omega)]
      congr 1;omega
     rw [this]
end Gv
namespace Gv
def zL {β:Type} (z:β->Nat) (a:List β):Nat:=a.length+(a.map z).sum
theorem sum_mem {n:Nat}:∀ {l:List Nat},n∈l->n<=l.sum
 |a::l,h=>by
  rw [List.sum_cons]
  rcases List.mem_cons.1 h with rfl|h
  ·omega
  ·have:=sum_mem h;omega
theorem aLO {β:Type} {z:β->Nat} {a:List β} {x:β} (h:x∈a):z x<=zL z a:=by
 unfold zL
 have:z x<=(a.map z).sum:=sum_mem (List.mem_map.2 ⟨x,h,rfl⟩)
 omega
theorem aGg {β:Type} {z:β->Nat} {a:List β}:a.length<=zL z a:=by unfold zL;omega
theorem szL {β:Type} {f:β->Int->Option Int} {z:β->Nat} {step:(Int × Int)->Option ((Int × Int) ⊕ (Int ⊕ Int))} {a:List β} {left:Int} (h0:0<=left) (hl:left<=sz) (ha:a.length < 9223372036854775808)
  (hf:∀ x∈a,∀ l:Int,0<=l->l<=sz->∃ r,f x l=some r/\(0<=r->r=l - z x))
  (hs:∀ (k:Nat) (l:Int) x,k < a.length->a.length<=sz->ix a (k:Int)=some x->step (l,(k:Int))=ob (f x l) fun r=>if decide (r < 0)=true then some (.inr (.inr (-1))) else some (.inl (r,((k+1:Nat):Int))))
  (hs':∀ l,step (l,(a.length:Int))=some (.inr (.inl l))):
  ∃ r,(if (decide (wr (left - (a.length:Int)) < 0)) then (some (-1)) else (ob (loop step (wr (left - (a.length:Int)),0)) fun r=>match r with|.inl r=>some r|.inr r=>some r))=some r/\(0<=r->r=left - zL z a):=by
 have e1:wr (left - (a.length:Int))=left - (a.length:Int):=by unfold wr;unfold sz at hl;omega
 rw [e1]
 by_cases hneg:left - (a.length:Int) < 0
 ·exact ⟨-1,by rw [if_pos (by simpa using hneg)],by omega⟩
 rw [if_neg (by simpa using hneg)]
 have hal:a.length<=sz:=by omega
 have hL:=vX (step:=step) (fun s=>0<=s.1/\0<=s.2/\s.2<=a.length/\s.1=left - a.length - ((a.take s.2.toNat).map z).sum) (fun s=>a.length - s.2.toNat) (fun r=>r=.inr (-1)\/∃ l,r=.inl l/\l=left - zL z a) (fun s hI=>?_) (s:=(left - (a.length:Int),0)) ⟨by simp only;omega,by simp,by simp,by simp⟩
 ·obtain ⟨r,hr,hR⟩:=hL
  rw [hr,aA]
  rcases hR with rfl|⟨l,rfl,h1⟩
  ·exact ⟨-1,rfl,by omega⟩
  ·exact ⟨l,rfl,fun _=>h1⟩
 ·obtain ⟨l,i⟩:=s
  obtain ⟨h1,h3,h4,h5⟩:=hI
  simp only at h1 h3 h4 h5 ⊢
  obtain ⟨k,rfl⟩:∃ k:Nat,i=(k:Int):=⟨i.toNat,by omega⟩
  by_cases hk:k < a.length
  ·have hx:ix a (k:Int)=some a[k]:=by rw [iA];simp [hk]
   obtain ⟨r,hr,hok⟩:=hf a[k] (List.getElem_mem hk) l h1 (by omega)
   rw [hs k l _ hk hal hx,hr,aA]
   by_cases hn:r < 0
   ·right;rw [if_pos (by simpa using hn)];exact ⟨_,rfl,.inl rfl⟩
   ·left
    rw [if_neg (by simpa using hn)]
    have g1:=hok (by omega)
    refine ⟨_,rfl,⟨by simp only;omega,by simp only;omega,by simp only;omega,?_⟩,by simp only;omega⟩
    simp only [Int.toNat_natCast] at h5 ⊢
    rw [List.take_add_one,List.map_append,List.sum_append]
    rw [List.map_take] at h5
    simp [hk]
    omega
  ·obtain rfl:k=a.length:=by omega
   right
   rw [hs' l]
   refine ⟨_,rfl,.inr ⟨l,rfl,?_⟩⟩
   simp at h5
   unfold zL
   omega
def aLe (p:Part):Nat:=p.Name.length+zL List.length p.Arguments
def zDef (d:Definition):Nat:=d.Name.length+zL aLe d.Body
def aOL (m:bB):Nat:=m.Left.length+m.Right.length+m.Result.length
def aNk (c:aY):Nat:=c.Values.length
def zSys (s:bE):Nat:=zL zDef s.Definitions+zL aNk s.Components+zL aOL s.Meetings+zL List.length s.Allowed+zL List.length s.Hidden
def aCI (n:Nat) (p:Part):Prop:=p.Name.length<=n/\p.Arguments.length<=n/\∀ e∈p.Arguments,e.length<=n
def aCc (n:Nat) (d:Definition):Prop:=d.Name.length<=n/\d.Body.length<=n/\∀ p∈d.Body,aCI n p
def aTy (n:Nat) (m:bB):Prop:=m.Left.length<=n/\m.Right.length<=n/\m.Result.length<=n
structure aNl (n:Nat) (s:bE):Prop where
 defs:s.Definitions.length<=n
 dfn:∀ d∈s.Definitions,aCc n d
 comps:s.Components.length<=n
 comp:∀ c∈s.Components,c.Values.length<=n
 meets:s.Meetings.length<=n
 meet:∀ m∈s.Meetings,aTy n m
 alls:s.Allowed.length<=n
 all:∀ t∈s.Allowed,t.length<=n
 hids:s.Hidden.length<=n
 hid:∀ t∈s.Hidden,t.length<=n
theorem aTz {a:List aW} {left:Int} (h0:0<=left) (hl:left<=sz) (ha:a.length < 9223372036854775808):∃ r,aGo a left=some r/\(0<=r->r=left - a.length):=by
 unfold aGo
 have e1:wr (left - (a.length:Int))=left - (a.length:Int):=by unfold wr;unfold sz at hl;omega
 rw [e1]
 by_cases n1:left - (a.length:Int) < 0
 ·exact ⟨-1,by rw [if_pos (by simpa using n1)],by omega⟩
 ·exact ⟨_,by rw [if_neg (by simpa using n1)],fun _=>rfl⟩
theorem aRC {a:List (List aW)} {left:Int} (h0:0<=left) (hl:left<=sz) (ha:a.length < 9223372036854775808) (hx:∀ e∈a,e.length < 9223372036854775808):∃ r,aHj a left=some r/\(0<=r->r=left - zL List.length a):=by
 refine szL (f:=aGo) (step:=fun s=>aBO a s.1 s.2) h0 hl ha (fun x hm l g0 g1=>aTz g0 g1 (hx x hm)) (fun k l x hk hz hx=>?_) (fun l=>?_)
 ·simp only [aBO,bL hk,if_true,hx,aA,bI hk (show a.length < 4611686018427387904 by unfold sz at hz;omega)]
 ·simp only [aBO,bO];rfl
theorem aVa {p:Part} {left:Int} (h0:0<=left) (hl:left<=sz) (hp:aCI 9223372036854775807 p):∃ r,aIP p left=some r/\(0<=r->r=left - aLe p):=by
 obtain ⟨g1,g2,g3⟩:=hp
 have hl':=hl
 unfold sz at hl'
 unfold aIP aLe
 have e1:wr (left - (p.Name.length:Int))=left - (p.Name.length:Int):=by unfold wr;omega
 rw [e1]
 by_cases n1:left - (p.Name.length:Int) < 0
 ·exact ⟨-1,by rw [if_pos (by simpa using n1)],by omega⟩
 rw [if_neg (by simpa using n1)]
 obtain ⟨r,hr,h1⟩:=aRC (a:=p.Arguments) (left:=left - p.Name.length) (by omega) (by omega) (by omega) (fun e he=>by have:=g3 e he;omega)
 rw [hr,aA]
 by_cases n2:r < 0
 ·exact ⟨-1,by rw [if_pos (by simpa using n2)],by omega⟩
 ·refine ⟨r,by rw [if_neg (by simpa using n2)],fun h=>?_⟩
  have:=h1 h
  omega
theorem aTA {a:List Part} {left:Int} (h0:0<=left) (hl:left<=sz) (ha:a.length < 9223372036854775808) (hx:∀ p∈a,aCI 9223372036854775807 p):∃ r,aKe a left=some r/\(0<=r->r=left - zL aLe a):=by
 refine szL (f:=aIP) (step:=fun s=>aDs a s.1 s.2) h0 hl ha (fun x hm l g0 g1=>aVa g0 g1 (hx x hm)) (fun k l x hk hz hx=>?_) (fun l=>?_)
 ·simp only [aDs,bL hk,if_true,hx,aA,bI hk (show a.length < 4611686018427387904 by unfold sz at hz;omega)]
 ·simp only [aDs,bO];rfl
theorem aNm {p:Definition} {left:Int} (h0:0<=left) (hl:left<=sz) (hp:aCc 9223372036854775807 p):∃ r,tQ p left=some r/\(0<=r->r=left - zDef p):=by
 obtain ⟨g1,g2,g3⟩:=hp
 have hl':=hl
 unfold sz at hl'
 unfold tQ zDef
 have e1:wr (left - (p.Name.length:Int))=left - (p.Name.length:Int):=by unfold wr;omega
 rw [e1]
 by_cases n1:left - (p.Name.length:Int) < 0
 ·exact ⟨-1,by rw [if_pos (by simpa using n1)],by omega⟩
 rw [if_neg (by simpa using n1)]
 obtain ⟨r,hr,h1⟩:=aTA (a:=p.Body) (left:=left - p.Name.length) (by omega) (by omega) (by omega) g3
 rw [hr,aA]
 by_cases n2:r < 0
 ·exact ⟨-1,by rw [if_pos (by simpa using n2)],by omega⟩
 ·refine ⟨r,by rw [if_neg (by simpa using n2)],fun h=>?_⟩
  have:=h1 h
  omega
theorem aLP {a:List Definition} {left:Int} (h0:0<=left) (hl:left<=sz) (ha:a.length < 9223372036854775808) (hx:∀ p∈a,aCc 9223372036854775807 p):∃ r,xQ a left=some r/\(0<=r->r=left - zL zDef a):=by
 refine szL (f:=tQ) (step:=fun s=>rE a s.1 s.2) h0 hl ha (fun x hm l g0 g1=>aNm g0 g1 (hx x hm)) (fun k l x hk hz hx=>?_) (fun l=>?_)
 ·simp only [rE,bL hk,if_true,hx,aA,bI hk (show a.length < 4611686018427387904 by unfold sz at hz;omega)]
 ·simp only [rE,bO];rfl
theorem aOj {c:aY} {left:Int} (h0:0<=left) (hl:left<=sz) (ha:c.Values.length < 9223372036854775808):∃ r,wF c left=some r/\(0<=r->r=left - aNk c):=by
 unfold wF aLr aNk
 have e1:wr (left - (c.Values.length:Int))=left - (c.Values.length:Int):=by unfold wr;unfold sz at hl;omega
 rw [e1]
 by_cases n1:left - (c.Values.length:Int) < 0
 ·rw [if_pos (by simpa using n1),aA]
  exact ⟨-1,by simp,by omega⟩
 ·rw [if_neg (by simpa using n1),aA,if_neg (by simpa using n1)]
  exact ⟨_,rfl,fun _=>rfl⟩
theorem aNn {a:List aY} {left:Int} (h0:0<=left) (hl:left<=sz) (ha:a.length < 9223372036854775808) (hx:∀ c∈a,c.Values.length < 9223372036854775808):∃ r,aAf a left=some r/\(0<=r->r=left - zL aNk a):=by
 refine szL (f:=wF) (step:=fun s=>tE a s.1 s.2) h0 hl ha (fun x hm l g0 g1=>aOj g0 g1 (hx x hm)) (fun k l x hk hz hx=>?_) (fun l=>?_)
 ·simp only [tE,bL hk,if_true,hx,aA,bI hk (show a.length < 4611686018427387904 by unfold sz at hz;omega)]
 ·simp only [tE,bO];rfl
theorem aVb {m:bB} {left:Int} (h0:0<=left) (hl:left<=sz) (hm:aTy 9223372036854775807 m):∃ r,aCo m left=some r/\(0<=r->r=left - aOL m):=by
 obtain ⟨g1,g2,g3⟩:=hm
 unfold sz at hl
 unfold aCo aOL
 have e1:wr (left - (m.Left.length:Int))=left - (m.Left.length:Int):=by unfold wr;omega
 rw [e1]
 by_cases n1:left - (m.Left.length:Int) < 0
 ·exact ⟨-1,by rw [if_pos (by simpa using n1)],by omega⟩
 rw [if_neg (by simpa using n1)]
 have e2:wr (left - (m.Left.length:Int) - (m.Right.length:Int))=left - (m.Left.length:Int) - (m.Right.length:Int):=by unfold wr;omega
 rw [e2]
 by_cases n2:left - (m.Left.length:Int) - (m.Right.length:Int) < 0
 ·exact ⟨-1,by rw [if_pos (by simpa using n2)],by omega⟩
 rw [if_neg (by simpa using n2)]
 have e3:wr (left - (m.Left.length:Int) - (m.Right.length:Int) - (m.Result.length:Int))=left - (m.Left.length:Int) - (m.Right.length:Int) - (m.Result.length:Int):=by unfold wr;omega
 rw [e3]
 by_cases n3:left - (m.Left.length:Int) - (m.Right.length:Int) - (m.Result.length:Int) < 0
 ·exact ⟨-1,by rw [if_pos (by simpa using n3)],by omega⟩
 rw [if_neg (by simpa using n3)]
 exact ⟨_,rfl,fun _=>by omega⟩
theorem aTB {a:List bB} {left:Int} (h0:0<=left) (hl:left<=sz) (ha:a.length < 9223372036854775808) (hp:∀ m∈a,aTy 9223372036854775807 m):
  ∃ r,aDt a left=some r/\(0<=r->r=left - zL aOL a):=by
 refine szL (f:=aCo) (step:=fun s=>xR a s.1 s.2) h0 hl (by omega) (fun t ht l g0 g1=>aVb g0 g1 (hp t ht)) (fun k l x hk hz hx=>?_) (fun l=>?_)
 ·simp only [xR,bL hk,if_true,hx,aA,bI hk (show a.length < 4611686018427387904 by unfold sz at hz;omega)]
 ·simp only [xR,bO];rfl
theorem aOM {a:List aO} {left:Int} (h0:0<=left) (hl:left<=sz) (ha:a.length < 9223372036854775808) (hp:∀ m∈a,m.length < 9223372036854775808):
  ∃ r,aCp a left=some r/\(0<=r->r=left - zL List.length a):=by
 refine szL (f:=fun (x:aO) l=>some (if decide (wr (l - (x.length:Int)) < 0)=true then -1 else wr (l - (x.length:Int)))) (z:=List.length) (step:=fun s=>aAg a s.1 s.2) h0 hl (by omega) (fun t ht l g0 g1=>⟨_,rfl,fun h=>?_⟩) (fun k l x hk hz hx=>?_) (fun l=>?_)
 ·have:=hp t ht
  have e:wr (l - (t.length:Int))=l - t.length:=by unfold sz at g1;unfold wr;omega
  rw [e] at h ⊢
  split at h
  ·omega
  ·rename_i h2;rw [if_neg h2]
 ·simp only [aAg,bL hk,if_true,hx,aA,bI hk (show a.length < 4611686018427387904 by unfold sz at hz;omega)]
  by_cases hn:wr (l - (x.length:Int)) < 0
  ·simp [hn]
  ·simp [hn]
 ·simp only [aAg,bO];rfl
theorem aRD {s:bE} (h:aNl 9223372036854775807 s):∃ r,aHk s 1048576=some r/\(0<=r->zSys s<=sz):=by
 obtain ⟨p1,p2,p3,p4,p5,p6,p7,p8,p9,p10⟩:=h
 obtain ⟨r,hr,h1⟩:=aLP (a:=s.Definitions) (left:=1048576) (by omega) (by unfold sz;omega) (by omega) p2
 unfold aHk zSys
 rw [hr,aA]
 by_cases n1:r < 0
 ·exact ⟨-1,by rw [if_pos (by simpa using n1)],by omega⟩
 rw [if_neg (by simpa using n1)]
 have i1:=h1 (by omega)
 obtain ⟨r2,hr2,h2⟩:=aNn (a:=s.Components) (left:=r) (by omega) (by unfold sz;omega) (by omega) (fun c hc=>by have:=p4 c hc;omega)
 rw [hr2,aA]
 by_cases n2:r2 < 0
 ·exact ⟨-1,by rw [if_pos (by simpa using n2)],by omega⟩
 rw [if_neg (by simpa using n2)]
 have i2:=h2 (by omega)
 obtain ⟨r3,hr3,h3⟩:=aTB (a:=s.Meetings) (left:=r2) (by omega) (by unfold sz;omega) (by omega) p6
 rw [hr3,aA]
 by_cases n3:r3 < 0
 ·exact ⟨-1,by rw [if_pos (by simpa using n3)],by omega⟩
 rw [if_neg (by simpa using n3)]
 have i3:=h3 (by omega)
 obtain ⟨r4,hr4,h4⟩:=aOM (a:=s.Allowed) (left:=r3) (by omega) (by unfold sz;omega) (by omega) (fun s hs=>by have:=p8 s hs;omega)
 rw [hr4,aA]
 by_cases n4:r4 < 0
 ·exact ⟨-1,by rw [if_pos (by simpa using n4)],by omega⟩
 rw [if_neg (by simpa using n4)]
 have i4:=h4 (by omega)
 obtain ⟨r5,hr5,h5⟩:=aOM (a:=s.Hidden) (left:=r4) (by omega) (by unfold sz;omega) (by omega) (fun s hs=>by have:=p10 s hs;omega)
 rw [hr5,aA]
 by_cases n5:r5 < 0
 ·exact ⟨-1,by rw [if_pos (by simpa using n5)],by omega⟩
 rw [if_neg (by simpa using n5)]
 have i5:=h5 (by omega)
 refine ⟨_,rfl,fun _=>?_⟩
 unfold sz
 omega
theorem part_fits {p:Part} {n:Nat} (h:aLe p<=n):aCI n p:=by
 unfold aLe at h
 refine ⟨by omega,by have:=aGg (z:=List.length) (a:=p.Arguments);omega,fun e he=>?_⟩
 have:=aLO (z:=List.length) he
 omega
theorem def_fits {d:Definition} {n:Nat} (h:zDef d<=n):aCc n d:=by
 unfold zDef at h
 refine ⟨by omega,by have:=aGg (z:=aLe) (a:=d.Body);omega,fun e he=>part_fits ?_⟩
 have:=aLO (z:=aLe) he
 omega
theorem aJP {s:bE} {n:Nat} (h:zSys s<=n):aNl n s:=by
 unfold zSys at h
 have h1:=aGg (z:=zDef) (a:=s.Definitions)
 have h2:=aGg (z:=aNk) (a:=s.Components)
 have h3:=aGg (z:=aOL) (a:=s.Meetings)
 have h4:=aGg (z:=List.length) (a:=s.Allowed)
 have h5:=aGg (z:=List.length) (a:=s.Hidden)
 refine ⟨by omega,fun d hd=>def_fits (by have:=aLO (z:=zDef) hd;omega),by omega,fun c hc=>by have:c.Values.length<=zL aNk s.Components:=aLO (z:=aNk) hc;omega,by omega,fun m hm=>?_,by omega,fun t ht=>by have:=aLO (z:=List.length) ht;omega,by omega,fun t ht=>by have:=aLO (z:=List.length) ht;omega⟩
 have:m.Left.length+m.Right.length+m.Result.length<=zL aOL s.Meetings:=aLO (z:=aOL) hm
 exact ⟨by omega,by omega,by omega⟩
theorem toL {β:Type} {z:β} {step:(List β × Int)->Option ((List β × Int) ⊕ List β)} {a:List β} (h:a.length<=gN)
  (hs:∀ (k:Nat) (out:List β) x,k < a.length->out.length=a.length->ix a (k:Int)=some x->x∈a->step (out,(k:Int))=some (.inl (out.set k x,((k+1:Nat):Int)))) (hs':∀ out,step (out,(a.length:Int))=some (.inr out)):
  (ob (mkz (a.length:Int) z) fun xs=>ob (loop step (xs,0)) fun r=>some r)=some a:=by
 rw [aNW _ h,aA,aEW (a:=a) (z:=z)]
 ·rfl
 ·intro k out x hk ho hx
  exact hs k out x hk ho hx (by rw [bH hk] at hx;cases hx;exact List.getElem_mem hk)
 ·exact hs'
theorem aWw {a:List aW} (h:a.length<=gN):aKj a=some a:=by
 have h2:a.length < 4611686018427387904:=by unfold gN at h;omega
 refine toL (step:=fun s=>aAE a s.1 s.2) h (fun k out x hk ho hx _=>?_) (fun out=>?_)
 ·simp only [aAE,bL hk,if_true,hx,aA,aQf,bH (xs:=out) (k:=k) (by omega),mL (xs:=out) (k:=k) _ (show k < out.length by omega),bI hk h2]
 ·simp only [aAE,bO];rfl
theorem aVc {a:List (List aW)} (h:a.length<=gN) (hx:∀ e∈a,e.length<=gN):aHr a=some a:=by
 have h2:a.length < 4611686018427387904:=by unfold gN at h;omega
 refine toL (step:=fun s=>wS a s.1 s.2) h (fun k out x hk ho hix hm=>?_) (fun out=>?_)
 ·simp only [wS,bL hk,if_true,hix,aA,aWw (hx x hm),bH (xs:=out) (k:=k) (by omega),mL (xs:=out) (k:=k) _ (show k < out.length by omega),bI hk h2]
 ·simp only [wS,bO];rfl
theorem aWx {a:List Part} (h:a.length<=gN) (hx:∀ p∈a,aCI gN p):aKk a=some a:=by
 have h2:a.length < 4611686018427387904:=by unfold gN at h;omega
 refine toL (step:=fun s=>aAF a s.1 s.2) h (fun k out x hk ho hix hm=>?_) (fun out=>?_)
 ·simp only [aAF,bL hk,if_true,hix,aA,aQg,aVc (hx x hm).2.1 (hx x hm).2.2,bH (xs:=out) (k:=k) (by omega),mL (xs:=out) (k:=k) _ (show k < out.length by omega),bI hk h2]
 ·simp only [aAF,bO];rfl
theorem aOk {a:List Definition} (h:a.length<=gN) (hx:∀ p∈a,aCc gN p):xW a=some a:=by
 have h2:a.length < 4611686018427387904:=by unfold gN at h;omega
 refine toL (step:=fun s=>nM a s.1 s.2) h (fun k out x hk ho hix hm=>?_) (fun out=>?_)
 ·simp only [nM,bL hk,if_true,hix,aA,aEI,aWx (hx x hm).2.1 (hx x hm).2.2,bH (xs:=out) (k:=k) (by omega),mL (xs:=out) (k:=k) _ (show k < out.length by omega),bI hk h2]
 ·simp only [nM,bO];rfl
theorem toIntsG {a:List Int} (h:a.length<=gN):aHs a=some a:=by
 have h2:a.length < 4611686018427387904:=by unfold gN at h;omega
 refine toL (step:=fun s=>wT a s.1 s.2) h (fun k out x hk ho hix hm=>?_) (fun out=>?_)
 ·simp only [wT,bL hk,if_true,hix,aA,bH (xs:=out) (k:=k) (by omega),mL (xs:=out) (k:=k) _ (show k < out.length by omega),bI hk h2]
 ·simp only [wT,bO];rfl
theorem aPk {a:List aY} (h:a.length<=gN) (hx:∀ c∈a,c.Values.length<=gN):aAG a=some a:=by
 have h2:a.length < 4611686018427387904:=by unfold gN at h;omega
 refine toL (step:=fun s=>oO a s.1 s.2) h (fun k out x hk ho hix hm=>?_) (fun out=>?_)
 ·simp only [oO,bL hk,if_true,hix,aA,aGb,toIntsG (hx x hm),bH (xs:=out) (k:=k) (by omega),mL (xs:=out) (k:=k) _ (show k < out.length by omega),bI hk h2]
 ·simp only [oO,bO];rfl
theorem aWy {a:List bB} (h:a.length<=gN):aDQ a=some a:=by
 have h2:a.length < 4611686018427387904:=by unfold gN at h;omega
 refine toL (step:=fun s=>sG a s.1 s.2) h (fun k out x hk ho hix hm=>?_) (fun out=>?_)
 ·simp only [sG,bL hk,if_true,hix,aA,aJa,bH (xs:=out) (k:=k) (by omega),mL (xs:=out) (k:=k) _ (show k < out.length by omega),bI hk h2]
 ·simp only [sG,bO];rfl
theorem aVd {s:bE} (h:aNl gN s):rO s=some s:=by
 unfold rO
 rw [aOk h.1 h.2,aA,aPk h.3 h.4,aA,aWy h.5,aA,aMZ h.7,aA,aMZ h.9,aA]
theorem eqLG {β:Type} [DecidableEq β] {step:Int->Option (Int ⊕ (Unit ⊕ Bool))} {a b:List β} (hlen:a.length < 4611686018427387904)
  (h:∀ (k:Nat) x y,k < a.length->ix a (k:Int)=some x->ix b (k:Int)=some y->x∈a->step (k:Int)=if x=y then some (.inl (wr ((k:Int)+1))) else some (.inr (.inr false)))
  (h':step (a.length:Int)=some (.inr (.inl ()))):(if ((a.length:Int) != (b.length:Int)) then (some false) else (ob (loop step 0) fun r=>match r with|.inl _=>some true|.inr r=>some r))=some (decide (a=b)):=by
 by_cases e:a.length=b.length
 ·rw [if_neg (by simp [e])]
  refine aJE e (fun k x y hk hx hy=>?_) h'
  rw [h k x y hk hx hy (by rw [bH hk] at hx;cases hx;exact List.getElem_mem hk),bI hk hlen]
 ·rw [if_pos (by simp only [bne_iff_ne,ne_eq];omega)]
  have:¬ a=b:=fun h=>e (by rw [h])
  simp [this]
theorem eqTerm_eq (a b:aW):aMJ a b=some (decide (a=b)):=by
 obtain ⟨a1,a2⟩:=a;obtain ⟨b1,b2⟩:=b
 simp only [aMJ,aW.mk.injEq]
 by_cases h1:a1=b1<;>by_cases h2:a2=b2<;>simp [h1,h2]
theorem aWz (a b:List aW) (h:a.length < 4611686018427387904):aKm a b=some (decide (a=b)):=by
 refine eqLG (step:=fun s=>aDT a b s) h (fun k x y hk hx hy hm=>?_) ?_
 ·simp only [aDT,bL hk,if_true,hx,hy,aA,eqTerm_eq]
  by_cases e:x=y<;>simp [e]
 ·simp only [aDT,bO];rfl
theorem aVe (a b:List (List aW)) (h:a.length < 4611686018427387904) (h2:∀ e∈a,e.length < 4611686018427387904):aHz a b=some (decide (a=b)):=by
 refine eqLG (step:=fun s=>aBZ a b s) h (fun k x y hk hx hy hm=>?_) ?_
 ·simp only [aBZ,bL hk,if_true,hx,hy,aA,aWz x y (h2 x hm)]
  by_cases e:x=y<;>simp [e]
 ·simp only [aBZ,bO];rfl
theorem eqPart_eq (a b:Part) (h:aCI 4611686018427387903 a):aML a b=some (decide (a=b)):=by
 obtain ⟨a1,a2,a3,a4⟩:=a;obtain ⟨b1,b2,b3,b4⟩:=b
 obtain ⟨g1,g2,g3⟩:=h
 simp only at g1 g2 g3
 simp only [aML,Part.mk.injEq,aVe a4 b4 (by omega) (fun e he=>by have:=g3 e he;omega),aA]
 by_cases h1:a1=b1<;>by_cases h2:a2=b2<;>by_cases h3:a3=b3<;>by_cases h4:a4=b4<;>simp [h1,h2,h3,h4]
theorem aWA (a b:List Part) (h:a.length < 4611686018427387904) (h2:∀ p∈a,aCI 4611686018427387903 p):aKn a b=some (decide (a=b)):=by
 refine eqLG (step:=fun s=>aDU a b s) h (fun k x y hk hx hy hm=>?_) ?_
 ·simp only [aDU,bL hk,if_true,hx,hy,aA,eqPart_eq x y (h2 x hm)]
  by_cases e:x=y<;>simp [e]
 ·simp only [aDU,bO];rfl
theorem aPl (a b:Definition) (h:aCc 4611686018427387903 a):aAQ a b=some (decide (a=b)):=by
 obtain ⟨a1,a2,a3⟩:=a;obtain ⟨b1,b2,b3⟩:=b
 obtain ⟨g1,g2,g3⟩:=h
 simp only at g1 g2 g3
 simp only [aAQ,Definition.mk.injEq,aWA a3 b3 (by omega) g3,aA]
 by_cases h1:a1=b1<;>by_cases h2:a2=b2<;>by_cases h3:a3=b3<;>simp [h1,h2,h3]
theorem aOl (a b:List Definition) (h:a.length < 4611686018427387904) (h2:∀ p∈a,aCc 4611686018427387903 p):yB a b=some (decide (a=b)):=by
 refine eqLG (step:=fun s=>rU a b s) h (fun k x y hk hx hy hm=>?_) ?_
 ·simp only [rU,bL hk,if_true,hx,hy,aA,aPl x y (h2 x hm)]
  by_cases e:x=y<;>simp [e]
 ·simp only [rU,bO];rfl
theorem aQT (a b:aY) (h:a.Values.length < 4611686018427387904):aCa a b=some (decide (a=b)):=by
 obtain ⟨a1,a2⟩:=a;obtain ⟨b1,b2⟩:=b
 simp only at h
 simp only [aCa,aY.mk.injEq,aOF a2 b2 h,aA]
 by_cases h1:a1=b1<;>by_cases h2:a2=b2<;>simp [h1,h2]
theorem aPm (a b:List aY) (h:a.length < 4611686018427387904) (h2:∀ p∈a,p.Values.length < 4611686018427387904):aAR a b=some (decide (a=b)):=by
 refine eqLG (step:=fun s=>tJ a b s) h (fun k x y hk hx hy hm=>?_) ?_
 ·simp only [tJ,bL hk,if_true,hx,hy,aA,aQT x y (h2 x hm)]
  by_cases e:x=y<;>simp [e]
 ·simp only [tJ,bO];rfl
theorem eqMeet_eq (a b:bB):aFD a b=some (decide (a=b)):=by
 obtain ⟨a1,a2,a3⟩:=a;obtain ⟨b1,b2,b3⟩:=b
 simp only [aFD,bB.mk.injEq]
 by_cases h1:a1=b1<;>by_cases h2:a2=b2<;>by_cases h3:a3=b3<;>simp [h1,h2,h3]
theorem aWB (a b:List bB) (h:a.length < 4611686018427387904):aDV a b=some (decide (a=b)):=by
 refine eqLG (step:=fun s=>yC a b s) h (fun k x y hk hx hy hm=>?_) ?_
 ·simp only [yC,bL hk,if_true,hx,hy,aA,eqMeet_eq x y]
  by_cases e:x=y<;>simp [e]
 ·simp only [yC,bO];rfl
theorem aVf (a b:bE) (h:aNl sz a):aHA a b=some (decide (a=b)):=by
 obtain ⟨a1,a2,a3,a4,a5⟩:=a;obtain ⟨b1,b2,b3,b4,b5⟩:=b
 have g1:=h.1;have g2:=h.2;have g3:=h.3;have g4:=h.4;have g5:=h.5;have g7:=h.7;have g9:=h.9
 simp only [sz] at g1 g2 g3 g4 g5 g7 g9
 have hd:∀ d∈a1,aCc 4611686018427387903 d:=fun d hd=>by
  obtain ⟨x,y,z⟩:=g2 d hd
  exact ⟨by omega,by omega,fun p hp=>let ⟨u,v,q⟩:=z p hp;⟨by omega,by omega,fun e he=>by have:=q e he;omega⟩⟩
 simp only [aHA,bE.mk.injEq,aOl a1 b1 (by omega) hd,aPm a2 b2 (by omega) (fun c hc=>by have:=g4 c hc;omega),aWB a3 b3 (by omega),aNa a4 b4 (by omega),aNa a5 b5 (by omega),aA]
 by_cases e1:a1=b1<;>by_cases e2:a2=b2<;>by_cases e3:a3=b3<;>by_cases e4:a4=b4<;>by_cases e5:a5=b5<;>simp [e1,e2,e3,e4,e5]
end Gv
namespace Gv
theorem aSp (i n:Int) (h:-4611686018427387904 < n) (h2:n < 4611686018427387904):aDR i n=some (decide (0<=i)&&decide (i<=n - 1)):=by
 unfold aDR
 rw [iD,eV (by omega) (by omega),aA]
theorem aNo {β:Type} {step:Int->Option (Int ⊕ (Unit ⊕ Int))} (xs:List β) (p:β->Bool) (hl:xs.length < 4611686018427387904)
  (h:∀ (k:Nat) x,k < xs.length->ix xs (k:Int)=some x->x∈xs->step (k:Int)=if p x=true then some (.inr (.inr (k:Int))) else some (.inl (wr ((k:Int)+1))))
  (h':step (xs.length:Int)=some (.inr (.inl ()))):(ob (ob (loop step 0) fun r=>match r with|.inl _=>some (-1)|.inr r=>some r) fun r=>some (decide (0<=r)))=some (xs.any p):=by
 rw [aBF (step:=step) xs p (fun k x hk hx=>by rw [h k x hk hx (by rw [bH hk] at hx;cases hx;exact List.getElem_mem hk),bI hk hl]) h',aA,←aJH]
 cases xs.findIdx? p with
 |none=>rfl
 |some i=>simp
def aNp (p:Part):Bool:=
 if p.Kind == 0||p.Kind == 2 then p.Number == 0&&p.Name == []&&p.Arguments.length == 0
 else if p.Kind == 1 then p.Number == 0
 else if p.Kind == 3 then p.Number == 0&&p.Name == []
 else if p.Kind == 4 then p.Name == []&&p.Arguments.length == 0
 else p.Kind == 5&&p.Name == []
def aLQ (l:List Definition) (p:Part):Bool:=
 if p.Kind == 1 then decide (p.Arguments.length<=2)&&(p.Arguments.length == 0||!(p.Name == cF))
 else if p.Kind == 3 then p.Arguments.length == 1
 else if p.Kind == 5 then (p.Arguments.length:Int) == (l.getD p.Number.toNat ⟨[],0,[]⟩).Parameters
 else true
def aBJ (n:Nat) (p:Part):Bool:=(!(p.Kind == 4)||(decide (1<=p.Number)&&decide (p.Number<=7)))&&(!(p.Kind == 5)||(decide (0<=p.Number)&&decide (p.Number < (n:Int))))
def tB (l:List Definition) (pl:dV) (p:Part):Bool:=
 aNp p&&(!(p.Kind == 1)||qT p.Name)&&aBJ l.length p&&aLQ l p&&(!(p.Kind == 5)||pl.behind)&&(!(p.Kind == 4)||decide (pl.scope < 6))&&p.Arguments.all (okE pl.scope)
theorem kindOk_eq (p:Part):wV p=some (aNp p):=by
 have hl:((p.Arguments.length:Int) == 0)=(p.Arguments.length == 0):=by
  cases h:p.Arguments.length == 0<;>simp at h ⊢<;>exact h
 unfold wV qJ nB eC aNp
 rw [iD,aA,hl]
 generalize (p.Arguments.length == 0)=A
 generalize (p.Number == 0)=B
 generalize (p.Name == ([]:aO))=C
 generalize p.Kind=k
 by_cases h0:k=0
 ·subst h0;cases A<;>cases B<;>cases C<;>rfl
 by_cases h1:k=1
 ·subst h1;cases A<;>cases B<;>cases C<;>rfl
 by_cases h2:k=2
 ·subst h2;cases A<;>cases B<;>cases C<;>rfl
 by_cases h3:k=3
 ·subst h3;cases A<;>cases B<;>cases C<;>rfl
 by_cases h4:k=4
 ·subst h4;cases A<;>cases B<;>cases C<;>rfl
 by_cases h5:k=5
 ·subst h5;cases A<;>cases B<;>cases C<;>rfl
 ·have e0:(k == 0)=false:=by simpa using h0
  have e1:(k == 1)=false:=by simpa using h1
  have e2:(k == 2)=false:=by simpa using h2
  have e3:(k == 3)=false:=by simpa using h3
  have e4:(k == 4)=false:=by simpa using h4
  have e5:(k == 5)=false:=by simpa using h5
  have e6:(decide (0<=k)&&decide (k<=5))=false:=by
   rw [Bool.and_eq_false_iff]
   by_cases h:0<=k
   ·right;simp;omega
   ·left;simpa using h
  simp [e0,e1,e2,e3,e4,e5,e6]
theorem aWC (p:Part):aGp p=some (aNp p):=by
 have hl:((p.Arguments.length:Int) == 0)=(p.Arguments.length == 0):=by
  cases h:p.Arguments.length == 0<;>simp at h ⊢<;>exact h
 unfold aGp aAj aDw aDv aAi aNp
 rw [hl]
 generalize (p.Arguments.length == 0)=A
 generalize (p.Number == 0)=B
 generalize (p.Name == ([]:aO))=C
 generalize p.Kind=k
 by_cases h0:k=0
 ·subst h0;cases A<;>cases B<;>cases C<;>rfl
 by_cases h1:k=1
 ·subst h1;cases A<;>cases B<;>cases C<;>rfl
 by_cases h2:k=2
 ·subst h2;cases A<;>cases B<;>cases C<;>rfl
 by_cases h3:k=3
 ·subst h3;cases A<;>cases B<;>cases C<;>rfl
 by_cases h4:k=4
 ·subst h4;cases A<;>cases B<;>cases C<;>rfl
 by_cases h5:k=5
 ·subst h5;cases A<;>cases B<;>cases C<;>rfl
 ·have e0:(k == 0)=false:=by simpa using h0
  have e1:(k == 1)=false:=by simpa using h1
  have e2:(k == 2)=false:=by simpa using h2
  have e3:(k == 3)=false:=by simpa using h3
  have e4:(k == 4)=false:=by simpa using h4
  have e5:(k == 5)=false:=by simpa using h5
  simp [e0,e1,e2,e3,e4,e5]
theorem tau_nm:qT cF=true:=by decide
section
variable {l:List Definition} {p:Part} {pl:dV}
theorem args_bad (hs:0<=pl.scope) (hs2:pl.scope<=29) (ha:p.Arguments.length < 1000000000) (hx:∀ e∈p.Arguments,e.length < 1000000000):dR p.Arguments pl=some (!p.Arguments.all (okE pl.scope)):=by
 unfold dR eB
 have:=aNo (step:=fun s=>cY p.Arguments pl s) p.Arguments (fun e=>!okE pl.scope e) (by omega) (fun k x hk hix hm=>?_) ?_
 ·have e:(p.Arguments.any fun e=>!okE pl.scope e)=!p.Arguments.all (okE pl.scope):=by simp [List.any_eq_not_all_not]
  rw [←e,←this];rfl
 ·simp only [cY,bL hk,if_true,hix,aA,aBw,aRA x hs hs2 (show (1:Int)<=15 by omega) (by omega) (hx x hm)]
  rfl
 ·simp only [cY,bO];rfl
theorem aQU (hs:0<=pl.scope) (hs2:pl.scope<=29) (ha:p.Arguments.length < 1000000000) (hx:∀ e∈p.Arguments,e.length < 1000000000) (b c:Bool):∃ r,(if c then some 6 else nC p pl b)=some r/\(r != 0)=!(!c&&!b&&p.Arguments.all (okE pl.scope)):=by
 cases c
 ·cases b
  ·unfold nC
   rw [args_bad hs hs2 ha hx]
   cases p.Arguments.all (okE pl.scope)<;>exact ⟨_,rfl,rfl⟩
  ·exact ⟨7,rfl,rfl⟩
 ·exact ⟨6,rfl,rfl⟩
theorem aSq (hs:0<=pl.scope) (hs2:pl.scope<=29) (ha:p.Arguments.length < 1000000000) (hx:∀ e∈p.Arguments,e.length < 1000000000) (c:Bool):∃ r,nD p pl c=some r/\(r != 0)=!(!c&&(!(p.Kind == 4)||decide (pl.scope < 6))&&p.Arguments.all (okE pl.scope)):=by
 unfold nD
 by_cases h4:(p.Kind == 4)=true
 ·obtain ⟨r,h1,h2⟩:=aQU (p:=p) hs hs2 ha hx (decide (6<=pl.scope)) c
  refine ⟨r,by rw [if_pos h4];exact h1,?_⟩
  rw [h2,h4]
  have:(!decide (6<=pl.scope))=decide (pl.scope < 6):=by
   by_cases h:6<=pl.scope
   ·simp [h]
   ·have h':pl.scope < 6:=by omega
    simp [h']
  rw [this];simp
 ·obtain ⟨r,h1,h2⟩:=aQU (p:=p) hs hs2 ha hx false c
  refine ⟨r,by rw [if_neg h4];exact h1,?_⟩
  have:(p.Kind == 4)=false:=by simpa using h4
  rw [h2,this];simp
theorem aWD (hn:aBJ l.length p=true):uI p l=some (aLQ l p):=by
 have h2:decide ((p.Arguments.length:Int)<=2)=decide (p.Arguments.length<=2):=by simp;omega
 have h0:((p.Arguments.length:Int) == 0)=(p.Arguments.length == 0):=by cases h:p.Arguments.length == 0<;>simp at h ⊢<;>exact h
 have h1:((p.Arguments.length:Int) == 1)=(p.Arguments.length == 1):=by cases h:p.Arguments.length == 1<;>simp at h ⊢<;>omega
 unfold uI oQ aLQ
 rw [h2,h0,h1]
 by_cases k1:(p.Kind == 1)=true
 ·rw [if_pos k1,if_pos k1]
  show (if (p.Arguments.length == 0)=true then some true else if (!(p.Name == cF))=true then some (decide (p.Arguments.length<=2)) else some false)=_
  by_cases z:p.Arguments.length=0
  ·simp [z]
  ·have z':(p.Arguments.length == 0)=false:=by simpa using z
   rw [z']
   cases (p.Name == cF)<;>simp
 rw [if_neg k1,if_neg k1]
 by_cases k3:(p.Kind == 3)=true
 ·rw [if_pos k3,if_pos k3]
 rw [if_neg k3,if_neg k3]
 by_cases k5:(p.Kind == 5)=true
 ·rw [if_pos k5,if_pos k5]
  simp only [aBJ,k5,Bool.not_true,Bool.false_or,Bool.and_eq_true,decide_eq_true_eq] at hn
  have hlt:p.Number.toNat < l.length:=by omega
  have hi:ix l p.Number=some (l[p.Number.toNat]'hlt):=by unfold ix;rw [if_pos hn.2.1];simp [hlt]
  rw [hi,aA]
  simp [List.getD,hlt]
 ·rw [if_neg k5,if_neg k5]
theorem reason_I (hs:0<=pl.scope) (hs2:pl.scope<=29) (hl:l.length<=1000000) (hn:p.Name.length < 1000000000) (ha:p.Arguments.length < 1000000000) (hx:∀ e∈p.Arguments,e.length < 1000000000):∃ r,sQ p l pl=some r/\(r != 0)=!tB l pl p:=by
 have j3:∀ b,∃ r,iO p l pl b=some r/\(r != 0)=(if b then true else if aBJ l.length p then !(aLQ l p&&(!(p.Kind == 5)||pl.behind)&&(!(p.Kind == 4)||decide (pl.scope < 6))&&p.Arguments.all (okE pl.scope)) else (r != 0))\/(b=false/\aBJ l.length p=false):=by
  intro b
  cases b
  ·by_cases hnb:aBJ l.length p=true
   ·unfold iO
    rw [if_neg (by simp),aWD hnb,aA]
    by_cases hc:aLQ l p=true
    ·rw [if_neg (by simp [hc])]
     by_cases k5:(p.Kind == 5)=true
     ·obtain ⟨r,h1,h2⟩:=aSq (p:=p) hs hs2 ha hx (!pl.behind)
      refine ⟨r,.inl ⟨by rw [if_pos k5];exact h1,?_⟩⟩
      rw [h2,hnb,hc,k5];simp
     ·obtain ⟨r,h1,h2⟩:=aSq (p:=p) hs hs2 ha hx false
      refine ⟨r,.inl ⟨by rw [if_neg k5];exact h1,?_⟩⟩
      have k5':(p.Kind == 5)=false:=by simpa using k5
      rw [h2,hnb,hc,k5'];simp
    ·have hc':aLQ l p=false:=by simpa using hc
     refine ⟨5,.inl ⟨by rw [if_pos (by simp [hc'])],?_⟩⟩
     rw [hnb,hc'];rfl
   ·exact ⟨0,.inr ⟨rfl,by simpa using hnb⟩⟩
  ·exact ⟨4,.inl ⟨rfl,rfl⟩⟩
 have j4:∃ r,kS p l pl false=some r/\(r != 0)=!(aBJ l.length p&&(aLQ l p&&(!(p.Kind == 5)||pl.behind)&&(!(p.Kind == 4)||decide (pl.scope < 6))&&p.Arguments.all (okE pl.scope))):=by
  unfold kS
  rw [if_neg (by simp)]
  have hix:=aSp p.Number (l.length:Int) (by omega) (by omega)
  have hle:(decide (0<=p.Number)&&decide (p.Number<=(l.length:Int) - 1))=(decide (0<=p.Number)&&decide (p.Number < (l.length:Int))):=by
   congr 1;by_cases h:p.Number < (l.length:Int)
   ·simp [h];omega
   ·simp [h];omega
  by_cases k4:(p.Kind == 4)=true
  ·have k5:(p.Kind == 5)=false:=by simp at k4 ⊢;omega
   rw [if_pos k4,iD,aA]
   have hnb:aBJ l.length p=(decide (1<=p.Number)&&decide (p.Number<=7)):=by simp [aBJ,k4,k5]
   by_cases hN:(decide (1<=p.Number)&&decide (p.Number<=7))=true
   ·rw [if_neg (by simp [hN]),if_neg (by simp [k5])]
    obtain ⟨r,h|h⟩:=j3 false
    ·refine ⟨r,h.1,?_⟩
     rw [h.2,hnb,hN];rfl
    ·rw [hnb,hN] at h;cases h.2
   ·have hN':(decide (1<=p.Number)&&decide (p.Number<=7))=false:=by simpa using hN
    rw [if_pos (by simp [hN'])]
    exact ⟨4,rfl,by rw [hnb,hN'];rfl⟩
  rw [if_neg k4]
  have k4':(p.Kind == 4)=false:=by simpa using k4
  by_cases k5:(p.Kind == 5)=true
  ·rw [if_pos k5,hix,aA,hle]
   have hnb:aBJ l.length p=(decide (0<=p.Number)&&decide (p.Number < (l.length:Int))):=by simp [aBJ,k4',k5]
   by_cases hN:(decide (0<=p.Number)&&decide (p.Number < (l.length:Int)))=true
   ·rw [hN]
    obtain ⟨r,h|h⟩:=j3 false
    ·refine ⟨r,h.1,?_⟩
     rw [h.2,hnb,hN];rfl
    ·rw [hnb,hN] at h;cases h.2
   ·have hN':(decide (0<=p.Number)&&decide (p.Number < (l.length:Int)))=false:=by simpa using hN
    rw [hN']
    exact ⟨4,rfl,by rw [hnb,hN'];rfl⟩
  ·rw [if_neg k5]
   have k5':(p.Kind == 5)=false:=by simpa using k5
   have hnb:aBJ l.length p=true:=by simp [aBJ,k4',k5']
   obtain ⟨r,h|h⟩:=j3 false
   ·refine ⟨r,h.1,?_⟩
    rw [h.2,hnb];rfl
   ·rw [hnb] at h;cases h.2
 unfold sQ tB
 rw [kindOk_eq,aA]
 by_cases hk:aNp p=true
 ·rw [if_neg (by simp [hk]),hk]
  obtain ⟨r,h1,h2⟩:=j4
  have hand:(true&&(!(p.Kind == 1)||qT p.Name)&&aBJ l.length p&&aLQ l p&&(!(p.Kind == 5)||pl.behind)&&(!(p.Kind == 4)||decide (pl.scope < 6))&&p.Arguments.all (okE pl.scope))=((!(p.Kind == 1)||qT p.Name)&&(aBJ l.length p&&(aLQ l p&&(!(p.Kind == 5)||pl.behind)&&(!(p.Kind == 4)||decide (pl.scope < 6))&&p.Arguments.all (okE pl.scope)))):=by
   simp only [Bool.true_and,Bool.and_assoc]
  rw [hand]
  by_cases k1:(p.Kind == 1)=true
  ·rw [if_pos k1,k1]
   by_cases ht:(p.Name == cF)=true
   ·have ht':p.Name=cF:=by simpa using ht
    rw [if_neg (by show ¬ (!(p.Name == cF))=true;simp [ht])]
    refine ⟨r,h1,?_⟩
    rw [h2,ht',tau_nm];simp
   ·have ht':(p.Name == cF)=false:=by simpa using ht
    rw [if_pos (by show (!(p.Name == cF))=true;simp [ht']),zU _ (by omega),aA]
    have hact:iJ p.Name=qT p.Name:=by unfold iJ;rw [ht'];simp
    rw [hact]
    by_cases hnm:qT p.Name=true
    ·rw [hnm]
     exact ⟨r,h1,by rw [h2];simp⟩
    ·have hnm':qT p.Name=false:=by simpa using hnm
     rw [hnm']
     exact ⟨3,rfl,by simp⟩
  ·rw [if_neg k1]
   have k1':(p.Kind == 1)=false:=by simpa using k1
   rw [k1']
   exact ⟨r,h1,by rw [h2];simp⟩
 ·have hk':aNp p=false:=by simpa using hk
  rw [if_pos (by simp [hk']),hk']
  exact ⟨2,rfl,by simp⟩
end
end Gv
namespace Gv
section
variable {l:List Definition} {d:Definition} {p:Part} {pl:dV} {t:GTr Part} {i:Nat}
theorem args_badS (hs:0<=pl.scope) (hs2:pl.scope<=29) (ha:p.Arguments.length < 1000000000) (hx:∀ e∈p.Arguments,e.length < 1000000000):(ob (loop (fun (s:Int)=>tS p pl.scope s) 0) fun r=>match r with|.inl r=>aED|.inr r=>some r)=some (if p.Arguments.all (okE pl.scope)=true then 0 else 8):=by
 rw [aBc (step:=fun s=>tS p pl.scope s) p.Arguments (okE pl.scope) (.inr 8) (.inl ()) (fun k x hk hix=>?_) (by simp only [tS,bO];rfl)]
 ·cases p.Arguments.all (okE pl.scope)<;>rfl
 ·have hm:x∈p.Arguments:=by rw [bH hk] at hix;cases hix;exact List.getElem_mem hk
  simp only [tS,bL hk,if_true,hix,aA,l03Is_eq x (v:=pl.scope) (m:=15) (eV (by omega) (by omega)) (hx x hm),bI hk (show p.Arguments.length < 4611686018427387904 by omega)]
  show (if (!okE pl.scope x)=true then _ else _)=_
  cases okE pl.scope x<;>rfl
theorem len_gt2 (n:Nat):decide (2 < (n:Int))=!decide (n<=2):=by
 by_cases h:n<=2
 ·simp [h];omega
 ·simp [h];omega
theorem len_gt0 (n:Nat):decide (0 < (n:Int))=!(n == 0):=by
 by_cases h:n=0
 ·subst h;rfl
 ·have:(n == 0)=false:=by simpa using h
  rw [this];simp;omega
theorem len_ne1 (n:Nat):((n:Int) != 1)=!(n == 1):=by
 by_cases h:n=1
 ·subst h;rfl
 ·have h1:(n == 1)=false:=by simpa using h
  have h2:((n:Int) != 1)=true:=by simp;omega
  rw [h1,h2];rfl
theorem reason_S (hl:l.length<=1000000) (hb:d.Body.length<=20) (hi:d.Body[i]?=some p) (hsc:aBp d (i:Int)=some pl.scope) (hbh:pl.behind=if i=0 then false else match d.Body[i - 1]? with|some q=>q.Kind == 1|none=>false)
  (hs:0<=pl.scope) (hs2:pl.scope<=29) (ha:p.Arguments.length < 1000000000) (hx:∀ e∈p.Arguments,e.length < 1000000000):∃ r,yW l d (i:Int)=some r/\0<=r/\(r != 0)=!tB l pl p:=by
 have hil:i < d.Body.length:=(List.getElem?_eq_some_iff.1 hi).1
 have j3:∀ b,∃ r,pX p pl.scope b=some r/\0<=r/\(r != 0)=!(!b&&p.Arguments.all (okE pl.scope)):=by
  intro b
  cases b
  ·unfold pX
   rw [if_neg (by simp)]
   refine ⟨_,args_badS (p:=p) hs hs2 ha hx,?_⟩
   cases p.Arguments.all (okE pl.scope)
   ·exact ⟨by simp,rfl⟩
   ·exact ⟨by simp,rfl⟩
  ·exact ⟨7,rfl,by omega,rfl⟩
 have j4:∀ c,∃ r,nH d (i:Int) p c=some r/\0<=r/\(r != 0)=!(!c&&(!(p.Kind == 4)||decide (pl.scope < 6))&&p.Arguments.all (okE pl.scope)):=by
  intro c
  cases c
  ·unfold nH
   rw [if_neg (by simp),hsc,aA]
   by_cases h4:(p.Kind == 4)=true
   ·obtain ⟨r,h1,h0,h2⟩:=j3 (decide (6<=pl.scope))
    refine ⟨r,by rw [if_pos h4];exact h1,h0,?_⟩
    have:(!decide (6<=pl.scope))=decide (pl.scope < 6):=by
     by_cases h:6<=pl.scope
     ·simp [h]
     ·have h':pl.scope < 6:=by omega
      simp [h']
    rw [h2,h4,this];simp
   ·obtain ⟨r,h1,h0,h2⟩:=j3 false
    refine ⟨r,by rw [if_neg h4];exact h1,h0,?_⟩
    have:(p.Kind == 4)=false:=by simpa using h4
    rw [h2,this];simp
  ·exact ⟨6,rfl,by omega,rfl⟩
 have j5:∃ r,jP d (i:Int) p=some r/\0<=r/\(r != 0)=!((!(p.Kind == 5)||pl.behind)&&(!(p.Kind == 4)||decide (pl.scope < 6))&&p.Arguments.all (okE pl.scope)):=by
  unfold jP
  by_cases h5:(p.Kind == 5)=true
  ·rw [if_pos h5]
   by_cases h0:i=0
   ·subst h0
    rw [if_pos (by rfl)]
    obtain ⟨r,h1,h0,h2⟩:=j4 true
    refine ⟨r,h1,h0,?_⟩
    rw [h2,hbh,h5];simp
   ·have hp:i - 1 < d.Body.length:=by omega
    have hw:wr ((i:Int) - 1)=((i - 1:Nat):Int):=by rw [eV (by omega) (by omega)];omega
    rw [if_neg (by simp;exact h0),hw,bH hp,aA]
    have hb':pl.behind=(d.Body[i - 1].Kind == 1):=by rw [hbh,if_neg h0,List.getElem?_eq_getElem hp]
    obtain ⟨r,h1,h0,h2⟩:=j4 (d.Body[i - 1].Kind != 1)
    refine ⟨r,h1,h0,?_⟩
    rw [h2,h5,hb']
    simp [bne]
  ·obtain ⟨r,h1,h0,h2⟩:=j4 false
   refine ⟨r,by rw [if_neg h5];exact h1,h0,?_⟩
   have:(p.Kind == 5)=false:=by simpa using h5
   rw [h2,this];simp
 have h2':=len_gt2 p.Arguments.length
 have h0':=len_gt0 p.Arguments.length
 have h1':=len_ne1 p.Arguments.length
 have j7:aBJ l.length p=true->∃ r,jQ l d (i:Int) p false=some r/\0<=r/\(r != 0)=!(aLQ l p&&((!(p.Kind == 5)||pl.behind)&&(!(p.Kind == 4)||decide (pl.scope < 6))&&p.Arguments.all (okE pl.scope))):=by
  intro hn
  obtain ⟨r5,e5,z5,n5⟩:=j5
  unfold jQ
  rw [if_neg (by simp),h2',h0',h1']
  unfold tT aLQ
  by_cases k1:(p.Kind == 1)=true
  ·rw [if_pos k1,if_pos k1]
   by_cases a2:p.Arguments.length<=2
   ·rw [if_neg (by simp [a2])]
    by_cases a0:p.Arguments.length=0
    ·rw [if_neg (by simp [a0]),if_neg (by simp)]
     refine ⟨r5,e5,z5,?_⟩
     rw [n5,a0];simp
    ·rw [if_pos (by simp [a0])]
     have a0':(p.Arguments.length == 0)=false:=by simpa using a0
     show ∃ r,(if (p.Name == cF)=true then some 5 else jP d (i:Int) p)=some r/\_
     by_cases ht:(p.Name == cF)=true
     ·rw [if_pos ht]
      refine ⟨5,rfl,by omega,?_⟩
      rw [a0',ht];simp
     ·have ht':(p.Name == cF)=false:=by simpa using ht
      rw [if_neg ht]
      refine ⟨r5,e5,z5,?_⟩
      rw [n5,a0',ht'];simp [a2]
   ·rw [if_pos (by simp [a2]),if_pos rfl]
    refine ⟨5,rfl,by omega,?_⟩
    simp [a2]
  rw [if_neg k1,if_neg k1]
  by_cases k3:(p.Kind == 3)=true
  ·rw [if_pos k3,if_pos k3]
   by_cases a1:p.Arguments.length=1
   ·rw [if_neg (by simp [a1])]
    refine ⟨r5,e5,z5,?_⟩
    rw [n5,a1];simp
   ·rw [if_pos (by simp [a1])]
    refine ⟨5,rfl,by omega,?_⟩
    have a1':(p.Arguments.length == 1)=false:=by simpa using a1
    rw [a1'];rfl
  rw [if_neg k3,if_neg k3]
  by_cases k5:(p.Kind == 5)=true
  ·rw [if_pos k5,if_pos k5]
   simp only [aBJ,k5,Bool.not_true,Bool.false_or,Bool.and_eq_true,decide_eq_true_eq] at hn
   have hlt:p.Number.toNat < l.length:=by omega
   have hix:ix l p.Number=some (l[p.Number.toNat]'hlt):=by unfold ix;rw [if_pos hn.2.1];simp [hlt]
   have hg:l.getD p.Number.toNat ⟨[],0,[]⟩=l[p.Number.toNat]:=by simp [List.getD,hlt]
   rw [hix,aA,hg]
   by_cases a5:(p.Arguments.length:Int)=l[p.Number.toNat].Parameters
   ·rw [if_neg (by simp [a5])]
    refine ⟨r5,e5,z5,?_⟩
    rw [n5,a5];simp
   ·rw [if_pos (by simp [a5])]
    refine ⟨5,rfl,by omega,?_⟩
    have a5':((p.Arguments.length:Int) == l[p.Number.toNat].Parameters)=false:=by simpa using a5
    rw [a5'];rfl
  ·rw [if_neg k5,if_neg k5]
   refine ⟨r5,e5,z5,?_⟩
   rw [n5];simp
 have j8:∃ r,pY l d (i:Int) p false=some r/\0<=r/\(r != 0)=!(aBJ l.length p&&(aLQ l p&&((!(p.Kind == 5)||pl.behind)&&(!(p.Kind == 4)||decide (pl.scope < 6))&&p.Arguments.all (okE pl.scope)))):=by
  unfold pY
  rw [if_neg (by simp)]
  have hw:wr ((l.length:Int) - 1)=(l.length:Int) - 1:=eV (by omega) (by omega)
  have hle:(decide (0<=p.Number)&&decide (p.Number<=(l.length:Int) - 1))=(decide (0<=p.Number)&&decide (p.Number < (l.length:Int))):=by
   congr 1;by_cases h:p.Number < (l.length:Int)
   ·simp [h];omega
   ·simp [h];omega
  by_cases k4:(p.Kind == 4)=true
  ·have k5:(p.Kind == 5)=false:=by simp at k4 ⊢;omega
   have hnb:aBJ l.length p=(decide (1<=p.Number)&&decide (p.Number<=7)):=by simp [aBJ,k4,k5]
   rw [if_pos k4,aEY,aA]
   by_cases hN:(decide (1<=p.Number)&&decide (p.Number<=7))=true
   ·rw [if_neg (by simp [hN]),if_neg (by simp [k5])]
    obtain ⟨r,h1,h0,h2⟩:=j7 (by rw [hnb,hN])
    exact ⟨r,h1,h0,by rw [h2,hnb,hN];rfl⟩
   ·have hN':(decide (1<=p.Number)&&decide (p.Number<=7))=false:=by simpa using hN
    rw [if_pos (by simp [hN'])]
    exact ⟨4,rfl,by omega,by rw [hnb,hN'];rfl⟩
  rw [if_neg k4]
  have k4':(p.Kind == 4)=false:=by simpa using k4
  by_cases k5:(p.Kind == 5)=true
  ·have hnb:aBJ l.length p=(decide (0<=p.Number)&&decide (p.Number < (l.length:Int))):=by simp [aBJ,k4',k5]
   rw [if_pos k5,hw,aEY,aA,hle]
   by_cases hN:(decide (0<=p.Number)&&decide (p.Number < (l.length:Int)))=true
   ·rw [hN]
    obtain ⟨r,h1,h0,h2⟩:=j7 (by rw [hnb,hN])
    exact ⟨r,h1,h0,by rw [h2,hnb,hN];rfl⟩
   ·have hN':(decide (0<=p.Number)&&decide (p.Number < (l.length:Int)))=false:=by simpa using hN
    rw [hN']
    exact ⟨4,rfl,by omega,by rw [hnb,hN'];rfl⟩
  ·have k5':(p.Kind == 5)=false:=by simpa using k5
   have hnb:aBJ l.length p=true:=by simp [aBJ,k4',k5']
   rw [if_neg k5]
   obtain ⟨r,h1,h0,h2⟩:=j7 hnb
   exact ⟨r,h1,h0,by rw [h2,hnb];rfl⟩
 unfold yW tB
 have hix:ix d.Body (i:Int)=some p:=by rw [iA];exact hi
 rw [hix,aA,aWC,aA]
 by_cases hk:aNp p=true
 ·rw [if_neg (by simp [hk]),hk]
  obtain ⟨r,h1,h0,h2⟩:=j8
  have hand:(true&&(!(p.Kind == 1)||qT p.Name)&&aBJ l.length p&&aLQ l p&&(!(p.Kind == 5)||pl.behind)&&(!(p.Kind == 4)||decide (pl.scope < 6))&&p.Arguments.all (okE pl.scope))=((!(p.Kind == 1)||qT p.Name)&&(aBJ l.length p&&(aLQ l p&&((!(p.Kind == 5)||pl.behind)&&(!(p.Kind == 4)||decide (pl.scope < 6))&&p.Arguments.all (okE pl.scope))))):=by
   simp only [Bool.true_and,Bool.and_assoc]
  rw [hand]
  by_cases k1:(p.Kind == 1)=true
  ·rw [if_pos k1,k1,aHG,aA]
   by_cases hnm:qT p.Name=true
   ·rw [hnm]
    exact ⟨r,h1,h0,by rw [h2];simp⟩
   ·have hnm':qT p.Name=false:=by simpa using hnm
    rw [hnm']
    exact ⟨3,rfl,by omega,by simp⟩
  ·have k1':(p.Kind == 1)=false:=by simpa using k1
   rw [if_neg k1,k1']
   exact ⟨r,h1,h0,by rw [h2];simp⟩
 ·have hk':aNp p=false:=by simpa using hk
  rw [if_pos (by simp [hk']),hk']
  exact ⟨2,rfl,by omega,by simp⟩
end
noncomputable def aCJ (l:List Definition) (d:Definition):Bool:=open Classical in decide (d.Body.length<=20/\∃ t:GTr Part,d.Body=t.flat/\t.WF iW/\∀ (i:Nat) p pl,d.Body[i]?=some p->(plT d.Parameters false t)[i]?=some pl->tB l pl p=true)
theorem aKs:∀ (t:GTr Part) (s:Int) (b:Bool) (pl:dV),pl∈plT s b t->s<=pl.scope/\pl.scope<=s+t.flat.length
 |.nul p,s,b,pl,h=>by simp [plT] at h;subst h;simp;omega
 |.one p a,s,b,pl,h=>by
  have hb:=aOg s p
  simp only [plT,List.mem_cons] at h
  simp only [GTr.flat,List.length_cons]
  rcases h with rfl|h
  ·simp only;omega
  ·have:=aKs a _ _ pl h;omega
 |.two p a c,s,b,pl,h=>by
  have hb:=aOg s p
  simp only [plT,List.mem_cons,List.mem_append] at h
  simp only [GTr.flat,List.length_cons,List.length_append]
  rcases h with rfl|h|h
  ·simp only;omega
  ·have:=aKs a _ _ pl h;omega
  ·have:=aKs c _ _ pl h;omega
theorem tree_of {d:Definition} (h:qP tt iW 1 d.Body=true):∃ t:GTr Part,d.Body=t.flat/\t.WF iW:=by
 obtain ⟨ts,h1,h2,h3⟩:=aLN aNi h
 match ts,h1 with
 |[t],_=>exact ⟨t,by rw [h2];simp,h3 t (by simp)⟩
theorem need_tree {d:Definition} {t:GTr Part} (h:d.Body=t.flat) (hw:t.WF iW):qP tt iW 1 d.Body=true:=by
 have:=aKr (ok:=tt) t 0 [] hw (fun _ _=>rfl)
 rw [List.append_nil,←h] at this
 rw [this];rfl
theorem aVg:∀ (t u:GTr Part) (x y:List Part),t.WF iW->u.WF iW->t.flat++x=u.flat++y->t=u/\x=y:=by
 intro t
 induction t with
 |nul p=>
  intro u x y hw hu h
  cases u with
  |nul q=>simp [GTr.flat] at h;exact ⟨by rw [h.1],h.2⟩
  |one q a=>simp only [GTr.flat,List.cons_append,List.nil_append,List.cons.injEq] at h;rw [h.1] at hw;have h1:iW q=0:=hw;have h2:=hu.1;omega
  |two q a c=>simp only [GTr.flat,List.cons_append,List.nil_append,List.cons.injEq] at h;rw [h.1] at hw;have h1:iW q=0:=hw;have h2:=hu.1;omega
 |one p a iha=>
  intro u x y hw hu h
  cases u with
  |nul q=>simp only [GTr.flat,List.cons_append,List.nil_append,List.cons.injEq] at h;have h1:iW q=0:=hu;have h2:=hw.1;rw [h.1] at h2;omega
  |one q b=>
   simp only [GTr.flat,List.cons_append,List.cons.injEq] at h
   obtain ⟨e1,e2⟩:=iha b x y hw.2 hu.2 h.2
   exact ⟨by rw [h.1,e1],e2⟩
  |two q b c=>simp only [GTr.flat,List.cons_append,List.cons.injEq] at h;have h1:=hu.1;have h2:=hw.1;rw [h.1] at h2;omega
 |two p a c iha ihc=>
  intro u x y hw hu h
  cases u with
  |nul q=>simp only [GTr.flat,List.cons_append,List.nil_append,List.cons.injEq] at h;have h1:iW q=0:=hu;have h2:=hw.1;rw [h.1] at h2;omega
  |one q b=>simp only [GTr.flat,List.cons_append,List.cons.injEq] at h;have h1:=hu.1;have h2:=hw.1;rw [h.1] at h2;omega
  |two q b e=>
   simp only [GTr.flat,List.cons_append,List.cons.injEq,List.append_assoc] at h
   obtain ⟨e1,e2⟩:=iha b _ _ hw.2.1 hu.2.1 h.2
   obtain ⟨e3,e4⟩:=ihc e x y hw.2.2 hu.2.2 e2
   exact ⟨by rw [h.1,e1,e3],e4⟩
def PartFit (p:Part):Prop:=p.Name.length < 1000000000/\p.Arguments.length < 1000000000/\∀ e∈p.Arguments,e.length < 1000000000
theorem aSr {l:List Definition} {d:Definition} (hl:l.length<=1000000) (hb:d.Body.length < 1000000000) (hf:∀ p∈d.Body,PartFit p) (h0:0<=d.Parameters) (h3:d.Parameters<=3):
  (∃ r,zJ l d=some r/\(r.2 != 0)=!aCJ l d)/\(∃ r,aEa l d=some r/\decide (0 < r.2)=!aCJ l d):=by
 classical
 have hbF:¬ (d.Body.length<=20/\qP tt iW 1 d.Body=true)->aCJ l d=false:=by
  intro h
  unfold aCJ
  rw [decide_eq_false_iff_not]
  rintro ⟨g1,t,g2,g3,_⟩
  exact h ⟨g1,need_tree g2 g3⟩
 by_cases hsh:d.Body.length<=20/\qP tt iW 1 d.Body=true
 ·obtain ⟨h20,hnd⟩:=hsh
  obtain ⟨t,ht,hw⟩:=tree_of hnd
  have hlen:(plT d.Parameters false t).length=d.Body.length:=by rw [pS,←ht]
  have hne:1<=d.Body.length:=by have:=aUY hnd;omega
  have hB:aCJ l d=decide (∀ (i:Nat) p pl,d.Body[i]?=some p->(plT d.Parameters false t)[i]?=some pl->tB l pl p=true):=by
   unfold aCJ
   by_cases h:∀ (i:Nat) p pl,d.Body[i]?=some p->(plT d.Parameters false t)[i]?=some pl->tB l pl p=true
   ·rw [decide_eq_true h,decide_eq_true_iff];exact ⟨h20,t,ht,hw,h⟩
   ·rw [decide_eq_false h,decide_eq_false_iff_not]
    rintro ⟨_,u,hu,hwu,hx⟩
    have:t=u:=(aVg t u [] [] hw hwu (by rw [List.append_nil,List.append_nil,←ht,←hu])).1
    subst this
    exact h hx
  have hsc:∀ (i:Nat) pl,(plT d.Parameters false t)[i]?=some pl->0<=pl.scope/\pl.scope<=29:=by
   intro i pl hp
   have:=aKs t _ _ pl (List.mem_of_getElem? hp)
   rw [←ht] at this
   omega
  have hall:∀ (k:Nat),k < d.Body.length->∃ p pl,d.Body[k]?=some p/\(plT d.Parameters false t)[k]?=some pl:=fun k hk=>⟨_,_,List.getElem?_eq_getElem hk,List.getElem?_eq_getElem (by omega)⟩
  let q:Nat->Bool:=fun k=>match d.Body[k]?,(plT d.Parameters false t)[k]? with|some p,some pl=>tB l pl p|_,_=>true
  have hq:∀ k p pl,d.Body[k]?=some p->(plT d.Parameters false t)[k]?=some pl->q k=tB l pl p:=fun k p pl h1 h2=>by show (match d.Body[k]?,(plT d.Parameters false t)[k]? with|some p,some pl=>tB l pl p|_,_=>true)=_;rw [h1,h2]
  have hqB:∀ b:Bool,(b=true<->∀ k,0<=k->k < d.Body.length->q k=true)->b=aCJ l d:=by
   intro b hbq
   rw [hB]
   by_cases h:∀ (i:Nat) p pl,d.Body[i]?=some p->(plT d.Parameters false t)[i]?=some pl->tB l pl p=true
   ·rw [decide_eq_true h]
    exact hbq.2 (fun k _ hk=>by obtain ⟨p,pl,h1,h2⟩:=hall k hk;rw [hq k p pl h1 h2];exact h k p pl h1 h2)
   ·rw [decide_eq_false h]
    cases hb2:b
    ·rfl
    ·exact absurd (fun i p pl h1 h2=>by rw [←hq i p pl h1 h2];exact hbq.1 hb2 i (Nat.zero_le _) ((List.getElem?_eq_some_iff.1 h1).1)) h
  constructor
  ·unfold zJ
   rw [iD,aA,if_neg (by simp;omega)]
   obtain ⟨re,hre,hre2⟩:=aUZ (d:=d) hb
   rw [hre,aA,hre2,hnd]
   unfold uK
   rw [if_neg (by simp),placesG ht hw h20 h0 h3,aA]
   have key:∀ k,k < d.Body.length->∃ r,sQ (d.Body.getD k ⟨0,0,[],[]⟩) l ((plT d.Parameters false t).getD k ⟨0,false⟩)=some r/\(r != 0)=!q k:=by
    intro k hk
    obtain ⟨p,pl,h1,h2⟩:=hall k hk
    obtain ⟨s1,s2⟩:=hsc k pl h2
    obtain ⟨f1,f2,f3⟩:=hf p (List.mem_of_getElem? h1)
    obtain ⟨r,e1,e2⟩:=reason_I (l:=l) (p:=p) (pl:=pl) s1 s2 hl f1 f2 f3
    refine ⟨r,?_,by rw [e2,hq k p pl h1 h2]⟩
    simp only [List.getD,h1,h2,Option.getD_some];exact e1
   have hloop:=vX (step:=fun s=>uJ l d (plT d.Parameters false t) s) (fun s=>0<=s/\s<=d.Body.length/\∀ j:Nat,(j:Int) < s->q j=true) (fun s=>d.Body.length - s.toNat) (fun r=>(∃ x,r=.inr x/\x.2≠0/\∃ j,j < d.Body.length/\q j=false)\/(r=.inl ()/\∀ j,j < d.Body.length->q j=true)) (fun s hI=>?_) (s:=0) ⟨by omega,by omega,fun j hj=>by omega⟩
   ·obtain ⟨r,hr,hR⟩:=hloop
    rw [hr,aA]
    rcases hR with ⟨x,rfl,hx,j,hj,hqj⟩|⟨rfl,hqa⟩
    ·refine ⟨x,rfl,?_⟩
     have:aCJ l d=false:=by
      rw [←hqB false ⟨fun h=>(by cases h),fun h=>by rw [h j (Nat.zero_le _) hj] at hqj;cases hqj⟩]
     rw [this];simp [hx]
    ·refine ⟨(0,0),rfl,?_⟩
     rw [←hqB true ⟨fun _ k _ hk=>hqa k hk,fun _=>rfl⟩];rfl
   ·obtain ⟨h1,h2,h3'⟩:=hI
    obtain ⟨k,rfl⟩:∃ k:Nat,s=(k:Int):=⟨s.toNat,by omega⟩
    by_cases hk:k < d.Body.length
    ·obtain ⟨r,e1,e2⟩:=key k hk
     have g1:d.Body.getD k ⟨0,0,[],[]⟩=d.Body[k]:=by simp [List.getD,hk]
     have g2:(plT d.Parameters false t).getD k ⟨0,false⟩=(plT d.Parameters false t)[k]'(by omega):=by simp [List.getD,hlen,hk]
     rw [g1,g2] at e1
     have hst:uJ l d (plT d.Parameters false t) (k:Int)=if (r != 0)=true then some (.inr (.inr ((k:Int),r))) else some (.inl ((k+1:Nat):Int)):=by
      unfold uJ
      rw [if_pos (bL hk),bH hk,aA,bH (show k < (plT d.Parameters false t).length by omega),aA,e1,aA,bI hk (by omega)]
     rw [hst]
     by_cases hr:(r != 0)=true
     ·right;rw [if_pos hr]
      refine ⟨_,rfl,.inl ⟨_,rfl,by simpa using hr,k,hk,?_⟩⟩
      rw [hr] at e2;simpa using e2.symm
     ·left;rw [if_neg hr]
      have hr':(r != 0)=false:=by simpa using hr
      rw [hr'] at e2
      refine ⟨_,rfl,⟨by omega,by omega,fun j hj=>?_⟩,by omega⟩
      by_cases e:j=k
      ·subst e;simpa using e2.symm
      ·exact h3' j (by omega)
    ·obtain rfl:k=d.Body.length:=by omega
     right
     refine ⟨.inl (),?_,.inr ⟨rfl,fun j hj=>h3' j (by omega)⟩⟩
     unfold uJ
     rw [if_neg (by simp)]
  ·unfold aEa
   rw [aSn _ hb,aA,hnd,if_neg (by simp;exact h20)]
   have key:∀ k,k < d.Body.length->∃ r,yW l d (k:Int)=some r/\0<=r/\(r != 0)=!q k:=by
    intro k hk
    obtain ⟨p,pl,h1,h2⟩:=hall k hk
    obtain ⟨s1,s2⟩:=hsc k pl h2
    obtain ⟨f1,f2,f3⟩:=hf p (List.mem_of_getElem? h1)
    have hbe:=behind_eq t d.Parameters false k pl hw h2
    rw [←ht] at hbe
    obtain ⟨r,e1,e0,e2⟩:=reason_S (l:=l) (p:=p) (pl:=pl) hl h20 h1 (scope_eq ht hw h20 h0 h3 h2) hbe s1 s2 f2 f3
    exact ⟨r,e1,e0,by rw [e2,hq k p pl h1 h2]⟩
   have hloop:=vX (step:=fun s=>aAk l d s) (fun s=>0<=s/\s<=d.Body.length/\∀ j:Nat,(j:Int) < s->q j=true) (fun s=>d.Body.length - s.toNat) (fun r=>(∃ x,r=.inr x/\0 < x.2/\∃ j,j < d.Body.length/\q j=false)\/(r=.inl ()/\∀ j,j < d.Body.length->q j=true)) (fun s hI=>?_) (s:=0) ⟨by omega,by omega,fun j hj=>by omega⟩
   ·obtain ⟨r,hr,hR⟩:=hloop
    rw [hr,aA]
    rcases hR with ⟨x,rfl,hx,j,hj,hqj⟩|⟨rfl,hqa⟩
    ·refine ⟨x,rfl,?_⟩
     have:aCJ l d=false:=by
      rw [←hqB false ⟨fun h=>(by cases h),fun h=>by rw [h j (Nat.zero_le _) hj] at hqj;cases hqj⟩]
     rw [this];simp [hx]
    ·refine ⟨(0,0),rfl,?_⟩
     rw [←hqB true ⟨fun _ k _ hk=>hqa k hk,fun _=>rfl⟩];rfl
   ·obtain ⟨h1,h2,h3'⟩:=hI
    obtain ⟨k,rfl⟩:∃ k:Nat,s=(k:Int):=⟨s.toNat,by omega⟩
    by_cases hk:k < d.Body.length
    ·obtain ⟨r,e1,e0,e2⟩:=key k hk
     have hst:aAk l d (k:Int)=if decide (0 < r)=true then some (.inr (.inr ((k:Int),r))) else some (.inl ((k+1:Nat):Int)):=by
      unfold aAk
      rw [if_pos (bL hk),e1,aA,bI hk (by omega)]
     have hr2:decide (0 < r)=(r != 0):=by
      by_cases h:r=0
      ·simp [h]
      ·have:0 < r:=by omega
       simp [h,this]
     rw [hst,hr2]
     by_cases hr:(r != 0)=true
     ·right;rw [if_pos hr]
      refine ⟨_,rfl,.inl ⟨_,rfl,by rw [hr] at hr2;simpa using hr2,k,hk,?_⟩⟩
      rw [hr] at e2;simpa using e2.symm
     ·left;rw [if_neg hr]
      have hr':(r != 0)=false:=by simpa using hr
      rw [hr'] at e2
      refine ⟨_,rfl,⟨by omega,by omega,fun j hj=>?_⟩,by omega⟩
      by_cases e:j=k
      ·subst e;simpa using e2.symm
      ·exact h3' j (by omega)
    ·obtain rfl:k=d.Body.length:=by omega
     right
     refine ⟨.inl (),?_,.inr ⟨rfl,fun j hj=>h3' j (by omega)⟩⟩
     unfold aAk
     rw [if_neg (by simp)]
 ·rw [hbF hsh]
  constructor
  ·unfold zJ
   rw [iD,aA]
   by_cases hz:(decide (1<=(d.Body.length:Int))&&decide ((d.Body.length:Int)<=20))=true
   ·rw [if_neg (by rw [hz];simp)]
    simp only [Bool.and_eq_true,decide_eq_true_eq] at hz
    obtain ⟨re,hre,hre2⟩:=aUZ (d:=d) hb
    have hnd:qP tt iW 1 d.Body=false:=by
     cases h:qP tt iW 1 d.Body
     ·rfl
     ·exact absurd ⟨by omega,h⟩ hsh
    rw [hre,aA,hre2,hnd]
    exact ⟨(0,1),rfl,rfl⟩
   ·have hz':(decide (1<=(d.Body.length:Int))&&decide ((d.Body.length:Int)<=20))=false:=by simpa using hz
    rw [hz']
    exact ⟨(0,1),rfl,rfl⟩
  ·unfold aEa
   have hz:(decide (d.Body.length<=20)&&qP tt iW 1 d.Body)=false:=by
    rw [Bool.and_eq_false_iff]
    by_cases h:d.Body.length<=20
    ·right
     cases h2:qP tt iW 1 d.Body
     ·rfl
     ·exact absurd ⟨h,h2⟩ hsh
    ·left;simpa using h
   rw [aSn _ hb,aA,hz]
   exact ⟨(0,1),rfl,rfl⟩
end Gv
namespace Gv
def aKD (d:Definition):Bool:=decide (0<=d.Parameters)&&decide (d.Parameters<=3)
theorem aWE (l:List Definition) (hl:l.length < 1000000000):cZ l=some (!l.all aKD):=by
 unfold cZ dF
 have:=aNo (step:=fun s=>cH l s) l (fun d=>!aKD d) (by omega) (fun k x hk hix hm=>?_) ?_
 ·have e:(l.any fun d=>!aKD d)=!l.all aKD:=by simp [List.any_eq_not_all_not]
  rw [←e,←this];rfl
 ·simp only [cH,bL hk,if_true,hix,aA,aAI,iD]
  rfl
 ·simp only [cH,bO];rfl
theorem params_eq (l:List Definition) (hl:l.length < 1000000000):aAJ l=some (l.all aKD):=by
 unfold aAJ
 rw [aWE l hl,aA,Bool.not_not]
theorem named_eq (l:List Definition) (n:aO) (hl:l.length < 1000000000):∃ r,oP l n=some r/\decide (0<=r)=l.any (fun d=>d.Name == n):=by
 unfold oP dA
 rw [aBF (step:=fun s=>cB l n s) l (fun d=>d.Name == n) (fun k x hk hx=>by simp only [cB,bL hk,if_true,hx,aA,uH,bI hk (show l.length < 4611686018427387904 by omega)]) (by simp only [cB,bO];rfl),aA,←aJH]
 cases l.findIdx? (fun d=>d.Name == n) with
 |none=>exact ⟨-1,rfl,rfl⟩
 |some i=>exact ⟨i,rfl,by simp⟩
def lQ (l:List Definition):Prop:=1<=l.length/\l.length<=4/\(∀ d∈l,aKD d=true)/\(∀ d∈l,aCJ l d=true)/\∀ k (hk:k < l.length),qT l[k].Name=true/\(l.take k).any (fun d=>d.Name == l[k].Name)=false
def DefFit (d:Definition):Prop:=d.Name.length < 1000000000/\d.Body.length < 1000000000/\∀ p∈d.Body,PartFit p
theorem slcTk {α:Type} {xs:List α} {k:Nat} (h:k<=xs.length):slc xs 0 (k:Int)=some (xs.take k):=by
 unfold slc
 rw [if_pos ⟨by omega,by omega,by simpa using h⟩]
 simp
theorem defs_I (l:List Definition) (hl:l.length<=1000000) (hf:∀ d∈l,DefFit d):jG l=some (cl (lQ l)):=by
 unfold jG
 rw [iD,aA]
 by_cases hz:1<=l.length/\l.length<=4
 ·rw [if_neg (by simp;omega),params_eq l (by omega),aA]
  unfold kN
  cases hp:l.all aKD with
  |false=>
   rw [if_pos (by rfl),vQ]
   intro h
   have:=List.all_eq_true.2 h.2.2.1
   rw [hp] at this;cases this
  |true=>
   have hp':=List.all_eq_true.1 hp
   rw [if_neg (by simp)]
   have:=zV (step:=fun s=>kM l s) l.length 0 (fun k=>∀ hk:k < l.length,(qT l[k].Name=true/\(l.take k).any (fun d=>d.Name == l[k].Name)=false)/\aCJ l l[k]=true) (.inr false) (.inl ()) (Nat.zero_le _) (fun k h0 hk=>?_) (by simp only [kM,bO];rfl)
   ·rw [show (0:Int)=((0:Nat):Int) from rfl,this,aA]
    by_cases hs:∀ k,0<=k->k < l.length->∀ hk:k < l.length,(qT l[k].Name=true/\(l.take k).any (fun d=>d.Name == l[k].Name)=false)/\aCJ l l[k]=true
    ·rw [if_pos (aFg hs),aFg]
     ·rfl
     ·refine ⟨hz.1,hz.2,hp',fun d hd=>?_,fun k hk=>(hs k (Nat.zero_le _) hk hk).1⟩
      obtain ⟨k,hk,rfl⟩:=List.getElem_of_mem hd
      exact (hs k (Nat.zero_le _) hk hk).2
    ·rw [if_neg (by rw [aBG];exact hs),vQ]
     intro h
     exact hs fun k _ hk _=>⟨h.2.2.2.2 k hk,h.2.2.2.1 _ (List.getElem_mem hk)⟩
   ·obtain ⟨f1,f2,f3⟩:=hf _ (List.getElem_mem hk)
    have hpk:=hp' _ (List.getElem_mem hk)
    simp only [aKD,Bool.and_eq_true,decide_eq_true_eq] at hpk
    have htk:(l.take k).length < 1000000000:=by rw [List.length_take];omega
    obtain ⟨r,hr1,hr2⟩:=named_eq (l.take k) l[k].Name htk
    obtain ⟨⟨r2,hb1,hb2⟩,_⟩:=aSr (l:=l) (d:=l[k]) hl f2 f3 hpk.1 hpk.2
    unfold kM nS
    rw [if_pos (bL hk),bH hk,aA,aSa _ (by omega),aA,slcTk (by omega),aA,hr1,aA,hr2,hb1,aA,hb2,bI hk (by omega)]
    cases hn:qT l[k].Name with
    |false=>rw [vQ (fun h=>by have:=(h hk).1.1;rw [hn] at this;cases this)];rfl
    |true=>
     cases ha:(l.take k).any (fun d=>d.Name == l[k].Name) with
     |true=>rw [vQ (fun h=>by have:=(h hk).1.2;rw [ha] at this;cases this)];rfl
     |false=>
      cases hb:aCJ l l[k] with
      |false=>rw [vQ (fun h=>by have:=(h hk).2;rw [hb] at this;cases this)];rfl
      |true=>rw [aFg (fun _=>⟨⟨hn,ha⟩,hb⟩)];rfl
 ·have:(decide (1<=(l.length:Int))&&decide ((l.length:Int)<=4))=false:=by
   rw [Bool.and_eq_false_iff]
   by_cases h:1<=l.length
   ·right;simp;omega
   ·left;simp;omega
  rw [this,vQ (fun h=>hz ⟨h.1,h.2.1⟩)];rfl
theorem defs_S (l:List Definition) (hl:l.length<=1000000) (hf:∀ d∈l,DefFit d):aBq l=some (cl (lQ l)):=by
 unfold aBq
 by_cases h0:l.length=0
 ·rw [if_pos (by simp [h0]),vQ (fun h:lQ l=>by have:=h.1;omega)];rfl
 rw [if_neg (by simp;intro h;simp [h] at h0)]
 unfold uY
 by_cases h4:4 < l.length
 ·rw [if_pos (by simp;omega),vQ (fun h:lQ l=>by have:=h.2.1;omega)]
 rw [if_neg (by simp;omega)]
 have key:=zV (step:=fun s=>aAn l s) l.length 0 (fun k=>∀ hk:k < l.length,(qT l[k].Name=true/\(l.take k).any (fun d=>d.Name == l[k].Name)=false)/\aKD l[k]=true) (.inr false) (.inl ()) (Nat.zero_le _) (fun k h0 hk=>?_) (by simp only [aAn,bO];rfl)
 ·rw [show (0:Int)=((0:Nat):Int) from rfl,key,aA]
  by_cases hs:∀ k,0<=k->k < l.length->∀ hk:k < l.length,(qT l[k].Name=true/\(l.take k).any (fun d=>d.Name == l[k].Name)=false)/\aKD l[k]=true
  ·rw [if_pos (aFg hs)]
   show aAl l=_
   have hp':∀ d∈l,aKD d=true:=fun d hd=>by obtain ⟨k,hk,rfl⟩:=List.getElem_of_mem hd;exact (hs k (Nat.zero_le _) hk hk).2
   unfold aAl
   have key2:=zV (step:=fun s=>aDx l s) l.length 0 (fun k=>∀ hk:k < l.length,aCJ l l[k]=true) (.inr false) (.inl ()) (Nat.zero_le _) (fun k h0 hk=>?_) (by simp only [aDx,bO];rfl)
   ·rw [show (0:Int)=((0:Nat):Int) from rfl,key2,aA]
    by_cases hb:∀ k,0<=k->k < l.length->∀ hk:k < l.length,aCJ l l[k]=true
    ·rw [if_pos (aFg hb),aFg (P:=lQ l)]
     ·rfl
     ·exact ⟨by omega,by omega,hp',fun d hd=>by obtain ⟨k,hk,rfl⟩:=List.getElem_of_mem hd;exact hb k (Nat.zero_le _) hk hk,fun k hk=>(hs k (Nat.zero_le _) hk hk).1⟩
    ·rw [if_neg (by rw [aBG];exact hb),vQ (P:=lQ l) (fun h=>hb fun k _ hk _=>h.2.2.2.1 _ (List.getElem_mem hk))]
   ·obtain ⟨f1,f2,f3⟩:=hf _ (List.getElem_mem hk)
    have hpk:=hp' _ (List.getElem_mem hk)
    simp only [aKD,Bool.and_eq_true,decide_eq_true_eq] at hpk
    obtain ⟨_,r2,hb1,hb2⟩:=aSr (l:=l) (d:=l[k]) hl f2 f3 hpk.1 hpk.2
    unfold aDx
    rw [if_pos (bL hk),bH hk,aA,hb1,aA,hb2,bI hk (by omega)]
    cases hb:aCJ l l[k] with
    |false=>rw [vQ (fun h=>by have:=h hk;rw [hb] at this;cases this)];rfl
    |true=>rw [aFg (fun _=>hb)];rfl
  ·rw [if_neg (by rw [aBG];exact hs),vQ (P:=lQ l) (fun h=>hs fun k _ hk _=>⟨h.2.2.2.2 k hk,h.2.2.1 _ (List.getElem_mem hk)⟩)]
 ·unfold aAn
  rw [if_pos (bL hk),bH hk,aA,aHG,aA,aEY,aA]
  unfold aAm
  have inner:=zV (step:=fun s=>aDA l (k:Int) s) k 0 (fun j=>∀ hj:j < l.length,¬ (l[j].Name == l[k].Name)=true) (.inr false) (.inl ()) (Nat.zero_le _) (fun j _ hj=>?_) (by unfold aDA;rw [if_neg (by simp)])
  ·rw [show (0:Int)=((0:Nat):Int) from rfl,inner,aA]
   have hpar:(decide ((((0:Nat):Int))<=l[k].Parameters)&&decide (l[k].Parameters<=3))=aKD l[k]:=rfl
   have hany:cl (∀ j,0<=j->j < k->∀ hj:j < l.length,¬ (l[j].Name == l[k].Name)=true)=!(l.take k).any (fun d=>d.Name == l[k].Name):=by
    cases ha:(l.take k).any (fun d=>d.Name == l[k].Name) with
    |true=>
     rw [vQ];· rfl
     intro h
     obtain ⟨d,hd,hdn⟩:=List.any_eq_true.1 ha
     obtain ⟨j,hj,rfl⟩:=List.getElem_of_mem hd
     rw [List.length_take] at hj
     rw [List.getElem_take] at hdn
     exact h j (Nat.zero_le _) (by omega) (by omega) hdn
    |false=>
     rw [aFg];· rfl
     intro j _ hj hjl hn
     have:=List.any_eq_false.1 ha l[j] (by rw [List.mem_iff_getElem];exact ⟨j,by rw [List.length_take];omega,by rw [List.getElem_take]⟩)
     exact this hn
   rw [hany]
   cases hn:qT l[k].Name with
   |false=>rw [vQ (fun h=>by have:=(h hk).1.1;rw [hn] at this;cases this)];rfl
   |true=>
    cases hpb:aKD l[k] with
    |false=>
     rw [vQ (fun h=>by have:=(h hk).2;rw [hpb] at this;cases this)]
     have:(decide (0<=l[k].Parameters)&&decide (l[k].Parameters<=3))=false:=hpb
     rw [show ((0:Nat):Int)=0 from rfl,this];rfl
    |true=>
     have:(decide (0<=l[k].Parameters)&&decide (l[k].Parameters<=3))=true:=hpb
     rw [show ((0:Nat):Int)=0 from rfl,this]
     cases ha:(l.take k).any (fun d=>d.Name == l[k].Name) with
     |true=>rw [vQ (fun h=>by have:=(h hk).1.2;rw [ha] at this;cases this)];rfl
     |false=>
      rw [aFg (fun _=>⟨⟨hn,ha⟩,hpb⟩)]
      show aDz (k:Int)=_
      unfold aDz aDy
      rw [bI hk (by omega)];rfl
  ·unfold aDA
   rw [if_pos (bL hj),bH (show j < l.length by omega),aA,bH hk,aA,bI (show j < l.length by omega) (by omega)]
   cases he:(l[j].Name == l[k].Name) with
   |true=>rw [vQ (fun h=>h (by omega) he)];rfl
   |false=>rw [aFg (fun _=>by rw [he];simp)];rfl
def aCK (l:List Definition) (c:aY):Bool:=decide (0<=c.Definition)&&decide (c.Definition < (l.length:Int))&&(c.Values.length:Int) == (l.getD c.Definition.toNat ⟨[],0,[]⟩).Parameters&&c.Values.all pB
theorem aWG (xs:List Int) (h:xs.length < 4611686018427387904):aGr xs=some (xs.all pB):=by
 unfold aGr
 rw [aBc (step:=fun s=>aDB xs s) xs pB (.inr false) (.inl ()) (fun k x hk hx=>by
  simp only [aDB,bL hk,if_pos,hx,aA,aEY,bI hk h]
  show (if (!pB x)=true then _ else _)=_
  cases pB x<;>rfl) (by simp only [aDB,bO];rfl),aA]
 cases xs.all pB<;>rfl
theorem comp_I {l:List Definition} {c:aY} (hl:l.length<=1000000) (hc:c.Values.length < 1000000000):wW l c=some (aCK l c):=by
 unfold wW qK aCK
 rw [aSp _ _ (by omega) (by omega),aA]
 have hle:(decide (0<=c.Definition)&&decide (c.Definition<=(l.length:Int) - 1))=(decide (0<=c.Definition)&&decide (c.Definition < (l.length:Int))):=by
  congr 1;by_cases h:c.Definition < (l.length:Int)
  ·simp [h];omega
  ·simp [h];omega
 rw [hle]
 by_cases hb:(decide (0<=c.Definition)&&decide (c.Definition < (l.length:Int)))=true
 ·have hb2:=hb
  simp only [Bool.and_eq_true,decide_eq_true_eq] at hb2
  have hlt:c.Definition.toNat < l.length:=by omega
  have hix:ix l c.Definition=some (l[c.Definition.toNat]'hlt):=by unfold ix;rw [if_pos hb2.1];simp [hlt]
  have hg:l.getD c.Definition.toNat ⟨[],0,[]⟩=l[c.Definition.toNat]:=by simp [List.getD,hlt]
  rw [hb,if_pos rfl,hix,aA,hg,Bool.true_and]
  cases h:(c.Values.length:Int) == l[c.Definition.toNat].Parameters with
  |true=>rw [if_pos rfl,aNb _ (by omega)];rfl
  |false=>rfl
 ·have hb':(decide (0<=c.Definition)&&decide (c.Definition < (l.length:Int)))=false:=by simpa using hb
  rw [hb'];rfl
theorem comps_I {s:bE} (hl:s.Definitions.length<=1000000) (hn:s.Components.length < 1000000000) (hc:∀ c∈s.Components,c.Values.length < 1000000000):dE s.Components s=some (!s.Components.all (aCK s.Definitions)):=by
 unfold dE dI
 have:=aNo (step:=fun x=>cI s.Components s x) s.Components (fun c=>!aCK s.Definitions c) (by omega) (fun k x hk hix hm=>?_) ?_
 ·have e:(s.Components.any fun c=>!aCK s.Definitions c)=!s.Components.all (aCK s.Definitions):=by simp [List.any_eq_not_all_not]
  rw [←e,←this];rfl
 ·simp only [cI,bL hk,if_true,hix,aA,aBx,comp_I hl (hc x hm)]
 ·simp only [cI,bO];rfl
theorem comps_S {s:bE} (hl:s.Definitions.length<=1000000) (hn:s.Components.length < 1000000000) (hc:∀ c∈s.Components,c.Values.length < 1000000000):sD s=some (decide (1<=s.Components.length)&&decide (s.Components.length<=3)&&s.Components.all (aCK s.Definitions)):=by
 unfold sD
 by_cases h0:s.Components.length=0
 ·rw [if_pos (by simp [h0]),h0];rfl
 rw [if_neg (by simp;intro h;simp [h] at h0)]
 unfold nJ
 by_cases h4:3 < s.Components.length
 ·rw [if_pos (by simp;omega)]
  have:decide (s.Components.length<=3)=false:=by simp;omega
  rw [this];simp
 rw [if_neg (by simp;omega)]
 have e1:decide (1<=s.Components.length)=true:=by simp;omega
 have e2:decide (s.Components.length<=3)=true:=by simp;omega
 rw [e1,e2,aBc (step:=fun x=>nI s x) s.Components (aCK s.Definitions) (.inr false) (.inl ()) (fun k x hk hix=>?_) (by simp only [nI,bO];rfl),aA]
 ·cases s.Components.all (aCK s.Definitions)<;>rfl
 ·have hm:x∈s.Components:=by rw [bH hk] at hix;cases hix;exact List.getElem_mem hk
  have hw:wr ((s.Definitions.length:Int) - 1)=(s.Definitions.length:Int) - 1:=eV (by omega) (by omega)
  have hle:(decide (0<=x.Definition)&&decide (x.Definition<=(s.Definitions.length:Int) - 1))=(decide (0<=x.Definition)&&decide (x.Definition < (s.Definitions.length:Int))):=by
   congr 1;by_cases h:x.Definition < (s.Definitions.length:Int)
   ·simp [h];omega
   ·simp [h];omega
  unfold nI rG aCK
  rw [if_pos (bL hk),hix,aA,hw,aEY,aA,hle,bI hk (by omega)]
  by_cases hb:(decide (0<=x.Definition)&&decide (x.Definition < (s.Definitions.length:Int)))=true
  ·have hb2:=hb
   simp only [Bool.and_eq_true,decide_eq_true_eq] at hb2
   have hlt:x.Definition.toNat < s.Definitions.length:=by omega
   have hdx:ix s.Definitions x.Definition=some (s.Definitions[x.Definition.toNat]'hlt):=by unfold ix;rw [if_pos hb2.1];simp [hlt]
   have hg:s.Definitions.getD x.Definition.toNat ⟨[],0,[]⟩=s.Definitions[x.Definition.toNat]:=by simp [List.getD,hlt]
   rw [hb,if_neg (by simp),hdx,aA,hg,Bool.true_and,aWG _ (by have:=hc x hm;omega),aA,bne]
   cases (x.Values.length:Int) == s.Definitions[x.Definition.toNat].Parameters<;>cases x.Values.all pB<;>rfl
  ·have hb':(decide (0<=x.Definition)&&decide (x.Definition < (s.Definitions.length:Int)))=false:=by simpa using hb
   rw [hb'];rfl
structure SysOk (s:bE):Prop where
 defs:lQ s.Definitions
 n1:1<=s.Components.length
 n3:s.Components.length<=3
 comp:∀ c∈s.Components,aCK s.Definitions c=true
 meet:∀ m∈s.Meetings,iJ m.Left=true/\iJ m.Right=true/\iJ m.Result=true
 alw:vU s.Allowed
 hid:vU s.Hidden
theorem aVi {ms:List bB} (hl:ms.length<=sz) (hm:∀ m∈ms,aNf sz m) (h:rR ms=some true):∀ m∈ms,iJ m.Left=true/\iJ m.Right=true/\iJ m.Result=true:=by
 have hget:∀ {k:Nat} (hk:k < ms.length),ms.getD k ⟨[],[],[]⟩=ms[k]:=fun hk=>by rw [List.getD_eq_getElem?_getD,List.getElem?_eq_getElem hk];rfl
 obtain ⟨b,hb,hi⟩:=aEh (step:=fun s=>kI ms s) ms.length 0 (fun k=>mtB ms k (ms.getD k ⟨[],[],[]⟩)) (.inr false) (.inl ()) (Nat.zero_le _) (fun k _ hk=>by rw [hget hk];exact meet_i ms hl hm hk) (by simp only [kI,bO];rfl)
 unfold rR at h
 rw [show (0:Int)=((0:Nat):Int) from rfl,hi,aA] at h
 cases b with
 |false=>cases h
 |true=>
  intro m hmem
  obtain ⟨k,hk,rfl⟩:=List.getElem_of_mem hmem
  have:=hb.1 rfl k (Nat.zero_le _) hk
  rw [hget hk] at this
  simp only [mtB,Bool.and_eq_true] at this
  exact ⟨this.1.1.1.1.1,this.1.1.1.1.2,this.1.1.1.2⟩
theorem aWH {s:bE} (hz:zSys s<=sz):∃ B,wY s=some B/\aMw s=some B/\(B=true->SysOk s):=by
 have hf:=aJP hz
 obtain ⟨g1,g2,g3,g4,g5,g6,g7,g8,g9,g10⟩:=hf
 have hsz:sz=1048576:=rfl
 have hd1:s.Definitions.length<=1000000\/1000000 < s.Definitions.length:=by omega
 have hdf:∀ d∈s.Definitions,DefFit d:=fun d hd=>by
  obtain ⟨x,y,z⟩:=g2 d hd
  exact ⟨by omega,by omega,fun p hp=>let ⟨u,v,q⟩:=z p hp;⟨by omega,by omega,fun e he=>by have:=q e he;omega⟩⟩
 have hm:∀ m∈s.Meetings,aNf sz m:=g6
 obtain ⟨B,m1,m2⟩:=aWr s.Meetings g5 hm
 have a1:=aQL s.Allowed (by omega) (fun t ht=>by have:=g8 t ht;omega)
 have a2:=aOJ s.Allowed (by omega)
 have b1:=aQL s.Hidden (by omega) (fun t ht=>by have:=g10 t ht;omega)
 have b2:=aOJ s.Hidden (by omega)
 have hbig:1000000 < s.Definitions.length->jG s.Definitions=some false/\aBq s.Definitions=some false:=by
  intro h
  constructor
  ·unfold jG
   rw [iD,aA]
   have:(decide (1<=(s.Definitions.length:Int))&&decide ((s.Definitions.length:Int)<=4))=false:=by
    rw [Bool.and_eq_false_iff];right;simp;omega
   rw [this];rfl
  ·unfold aBq uY
   have h1:((s.Definitions.length:Int) == 0)=false:=by simp;intro h2;simp [h2] at h
   have h2:decide (4 < (s.Definitions.length:Int))=true:=by simp;omega
   rw [h1,h2];rfl
 rcases hd1 with hd1|hd1
 ·have d1:=defs_I _ hd1 hdf
  have d2:=defs_S _ hd1 hdf
  have c1:=comps_I (s:=s) hd1 (by omega) (fun c hc=>by have:=g4 c hc;omega)
  have c2:=comps_S (s:=s) hd1 (by omega) (fun c hc=>by have:=g4 c hc;omega)
  let C:=decide (1<=s.Components.length)&&decide (s.Components.length<=3)&&s.Components.all (aCK s.Definitions)
  refine ⟨cl (lQ s.Definitions)&&C&&B&&cl (vU s.Allowed)&&cl (vU s.Hidden),?_,?_,?_⟩
  ·unfold wY wX
   rw [d1,aA,iD,aA,c1,aA]
   have hC:(decide (1<=(s.Components.length:Int))&&decide ((s.Components.length:Int)<=3))=(decide (1<=s.Components.length)&&decide (s.Components.length<=3)):=by
    have e1:decide (1<=(s.Components.length:Int))=decide (1<=s.Components.length):=by simp;omega
    have e2:decide ((s.Components.length:Int)<=3)=decide (s.Components.length<=3):=by simp;omega
    rw [e1,e2]
   rw [hC]
   unfold vI
   rw [m1,a1,b1]
   show _=some (cl (lQ s.Definitions)&&(decide (1<=s.Components.length)&&decide (s.Components.length<=3)&&s.Components.all (aCK s.Definitions))&&B&&cl (vU s.Allowed)&&cl (vU s.Hidden))
   cases cl (lQ s.Definitions)<;>cases (decide (1<=s.Components.length)&&decide (s.Components.length<=3))<;>cases s.Components.all (aCK s.Definitions)<;>cases B<;>cases cl (vU s.Allowed)<;>cases cl (vU s.Hidden)<;>rfl
  ·unfold aMw aHn
   rw [d2,aA,c2,aA,m2,aA,a2,aA,b2,aA]
   show _=some (cl (lQ s.Definitions)&&(decide (1<=s.Components.length)&&decide (s.Components.length<=3)&&s.Components.all (aCK s.Definitions))&&B&&cl (vU s.Allowed)&&cl (vU s.Hidden))
   cases cl (lQ s.Definitions)<;>cases (decide (1<=s.Components.length)&&decide (s.Components.length<=3)&&s.Components.all (aCK s.Definitions))<;>cases B<;>cases cl (vU s.Allowed)<;>cases cl (vU s.Hidden)<;>rfl
  ·intro h
   simp only [Bool.and_eq_true,C] at h
   obtain ⟨⟨⟨⟨h1,⟨⟨h2,h3⟩,h4⟩⟩,h5⟩,h6⟩,h7⟩:=h
   subst h5
   exact ⟨(aBG).1 h1,by simpa using h2,by simpa using h3,List.all_eq_true.1 h4,aVi g5 hm m1,(aBG).1 h6,(aBG).1 h7⟩
 ·obtain ⟨e1,e2⟩:=hbig hd1
  refine ⟨false,?_,?_,fun h=>by cases h⟩
  ·unfold wY wX
   rw [e1];rfl
  ·unfold aMw aHn
   rw [e2];rfl
end Gv
namespace Gv
section
variable {β:Type}
theorem aOm (pre:List β) (x:β) (post:List β):ix (pre++x::post) (pre.length:Int)=some x:=by rw [iA];simp
theorem aOn (pre:List β) (x y:β) (post:List β):st (pre++x::post) (pre.length:Int) y=some (pre++y::post):=by rw [mL y (by simp)];simp
theorem aOo (pre:List β) (x:β) (post:List β):decide ((pre.length:Int) < ((pre++x::post).length:Int))=true:=by simp;omega
noncomputable def mkL (w:β->Nat) (m:Int->β->β):Int->List β->List β
 |_,[]=>[]
 |k,x::xs=>m k x::mkL w m (k+w x) xs
theorem aSs {w:β->Nat} {m:Int->β->β} {step:(List β × Int × Int)->Option ((List β × Int × Int) ⊕ (Int × List β))} {a:List β} {B k:Int} (h0:0<=k) (hB:k+((a.map w).sum:Nat)<=B) (hl:a.length < 4611686018427387904)
  (hs:∀ pre x post kk,x∈a->0<=kk->kk+w x<=B->step (pre++x::post,kk,(pre.length:Int))=some (.inl (pre++m kk x::post,kk+w x,wr ((pre.length:Int)+1))))
  (hs':∀ b kk,step (b,kk,(b.length:Int))=some (.inr (kk,b))):loop step (a,k,0)=some (k+((a.map w).sum:Nat),mkL w m k a):=by
 have aux:∀ (rest pre:List β) (kk:Int),(∀ x∈rest,x∈a)->pre.length+rest.length=a.length->0<=kk->kk+((rest.map w).sum:Nat)<=B->loop step (pre++rest,kk,(pre.length:Int))=some (kk+((rest.map w).sum:Nat),pre++mkL w m kk rest):=by
  intro rest
  induction rest with
  |nil=>
   intro pre kk _ _ _ _
   rw [List.append_nil,bF,hs']
   simp [mkL]
  |cons x rest ih=>
   intro pre kk hm hlen hk hb
   simp only [List.map_cons,List.sum_cons,Int.natCast_add] at hb
   rw [bF,hs pre x rest kk (hm x (by simp)) hk (by omega)]
   have e1:wr ((pre.length:Int)+1)=((pre++[m kk x]).length:Int):=by
    rw [List.length_append,List.length_singleton]
    simp only [List.length_cons] at hlen
    exact bI (n:=a.length) (by omega) hl
   have e2:pre++m kk x::rest=(pre++[m kk x])++rest:=by simp
   rw [e1,e2]
   show loop step _=_
   rw [ih (pre++[m kk x]) (kk+w x) (fun y hy=>hm y (List.mem_cons_of_mem _ hy)) (by simp at hlen ⊢;omega) (by omega) (by omega)]
   simp only [List.map_cons,List.sum_cons,Int.natCast_add,mkL,List.append_assoc,List.singleton_append]
   rw [Int.add_assoc]
 have:=aux a [] k (fun x h=>h) (by simp) h0 hB
 simpa using this
end
def BM:Int:=1099511627776
noncomputable def mTm (k:Int) (_:aW):aW:=⟨k,k+1⟩
def wTs (e:List aW):Nat:=(e.map fun _=>2).sum
noncomputable def mTs (k:Int) (e:List aW):List aW:=mkL (fun _=>2) mTm k e
def wTss (e:List (List aW)):Nat:=(e.map wTs).sum
noncomputable def mTss (k:Int) (e:List (List aW)):List (List aW):=mkL wTs mTs k e
def wPt (p:Part):Nat:=3+wTss p.Arguments
noncomputable def mPt (k:Int) (p:Part):Part:=⟨k,k+1,mt (k+2),mTss (k+3) p.Arguments⟩
def wPts (a:List Part):Nat:=(a.map wPt).sum
noncomputable def mPts (k:Int) (a:List Part):List Part:=mkL wPt mPt k a
def wDf (d:Definition):Nat:=2+wPts d.Body
noncomputable def mDf (k:Int) (d:Definition):Definition:=⟨mt k,k+1,mPts (k+2) d.Body⟩
def wDfs (a:List Definition):Nat:=(a.map wDf).sum
def wCm (c:aY):Nat:=1+c.Values.length
noncomputable def mCm (k:Int) (c:aY):aY:=⟨k,mI (k+1) c.Values.length⟩
def wCms (a:List aY):Nat:=(a.map wCm).sum
noncomputable def mMt (k:Int) (_:bB):bB:=⟨mt k,mt (k+1),mt (k+2)⟩
theorem sumC {β:Type} (c:Nat):∀ (a:List β),(a.map fun _=>c).sum=c * a.length
 |[]=>by simp
 |x::a=>by rw [List.map_cons,List.sum_cons,sumC c a,List.length_cons,Nat.mul_succ];omega
theorem aQV {β:Type} {f g:β->Nat} (c:Nat):∀ {a:List β},(∀ x∈a,f x<=c * g x+c)->(a.map f).sum<=c * (a.length+(a.map g).sum)
 |[],_=>by simp
 |x::a,h=>by
  have h1:=h x (by simp)
  have h2:=aQV c (f:=f) (g:=g) (a:=a) (fun y hy=>h y (List.mem_cons_of_mem _ hy))
  simp only [List.map_cons,List.sum_cons,List.length_cons]
  rw [Nat.mul_add] at h2 ⊢
  rw [Nat.mul_add,Nat.mul_add]
  omega
theorem wTss_le {a:List (List aW)}:wTss a<=3 * zL List.length a:=by
 unfold wTss zL
 exact aQV 3 (fun x _=>by unfold wTs;rw [sumC];omega)
theorem wPts_le {a:List Part}:wPts a<=3 * zL aLe a:=by
 unfold wPts
 exact aQV 3 (fun x _=>by have:=wTss_le (a:=x.Arguments);unfold wPt aLe;omega)
theorem wDfs_le {a:List Definition}:wDfs a<=3 * zL zDef a:=by
 unfold wDfs
 exact aQV 3 (fun x _=>by have:=wPts_le (a:=x.Body);unfold wDf zDef;omega)
theorem wCms_le {a:List aY}:wCms a<=3 * zL aNk a:=by
 unfold wCms
 exact aQV 3 (fun x _=>by unfold wCm aNk;omega)
theorem wr1 {k:Int} (h:0<=k) (h2:k<=BM):wr (k+1)=k+1:=by unfold BM at h2;exact eV (by omega) (by omega)
theorem aTC {a:List aW} {k:Int} (h0:0<=k) (hB:k+wTs a<=BM) (hl:a.length < 4611686018427387904):aCy a k=some (k+wTs a,mTs k a):=by
 unfold aCy
 rw [aSs (w:=fun _=>2) (m:=mTm) (step:=fun s=>uO s.1 s.2.1 s.2.2) h0 hB hl (fun pre x post kk _ g0 gB=>?_) (fun b kk=>?_)]
 ·rfl
 ·simp only [uO,aOo,if_true,aOm,aOn,aA,wr1 g0 (by omega),wr1 (k:=kk+1) (by omega) (by omega)]
  simp only [mTm,Int.add_assoc];rfl
 ·simp only [uO,bO];rfl
theorem aRE {a:List (List aW)} {k:Int} (h0:0<=k) (hB:k+wTss a<=BM) (hl:a.length < 4611686018427387904) (hx:∀ e∈a,e.length < 4611686018427387904):aAT a k=some (k+wTss a,mTss k a):=by
 unfold aAT
 rw [aSs (w:=wTs) (m:=mTs) (step:=fun s=>sJ s.1 s.2.1 s.2.2) h0 hB hl (fun pre x post kk hm g0 gB=>?_) (fun b kk=>?_)]
 ·rfl
 ·simp only [sJ,aOo,if_true,aOm,aA,aTC g0 gB (hx x hm),aOn]
 ·simp only [sJ,bO];rfl
theorem aTD {a:List Part} {k:Int} (h0:0<=k) (hB:k+wPts a<=BM) (hl:a.length < 4611686018427387904) (hx:∀ p∈a,aCI 4611686018427387903 p):aCz a k=some (k+wPts a,mPts k a):=by
 unfold aCz
 rw [aSs (w:=wPt) (m:=mPt) (step:=fun s=>uP s.1 s.2.1 s.2.2) h0 hB hl (fun pre x post kk hm g0 gB=>?_) (fun b kk=>?_)]
 ·rfl
 ·obtain ⟨p1,p2,p3⟩:=hx x hm
  have gB':kk+(3+wTss x.Arguments:Nat)<=BM:=gB
  have hb2:kk<=1099511627776:=by unfold BM at gB';omega
  have w1:=wr1 g0 (by omega)
  have w2:=wr1 (k:=kk+1) (by omega) (by omega)
  have w3:=wr1 (k:=kk+1+1) (by omega) (by omega)
  simp only [uP,aOo,if_true,aOm,aOn,aA,w1,w2,w3]
  rw [show kk+1+1+1=kk+3 by omega,show kk+1+1=kk+2 by omega,aRY (by omega),aA]
  rw [aRE (by omega) (by omega) (by omega) (fun e he=>by have:=p3 e he;omega),aA]
  refine congrArg some (congrArg Sum.inl (Prod.ext rfl (Prod.ext ?_ rfl)))
  simp only [wPt]
  omega
 ·simp only [uP,bO];rfl
theorem aLR {a:List Definition} {k:Int} (h0:0<=k) (hB:k+wDfs a<=BM) (hl:a.length < 4611686018427387904) (hx:∀ p∈a,aCc 4611686018427387903 p):oY a k=some (k+wDfs a,mkL wDf mDf k a):=by
 unfold oY
 rw [aSs (w:=wDf) (m:=mDf) (step:=fun s=>lN s.1 s.2.1 s.2.2) h0 hB hl (fun pre x post kk hm g0 gB=>?_) (fun b kk=>?_)]
 ·rfl
 ·obtain ⟨p1,p2,p3⟩:=hx x hm
  have gB':kk+(2+wPts x.Body:Nat)<=BM:=gB
  have hb2:kk<=1099511627776:=by unfold BM at gB';omega
  have w1:=wr1 g0 (by omega)
  have w2:=wr1 (k:=kk+1) (by omega) (by omega)
  simp only [lN,aOo,if_true,aOm,aOn,aA,w1,w2]
  rw [show kk+1+1=kk+2 by omega,aRY (by omega),aA]
  rw [aTD (by omega) (by omega) (by omega) p3,aA]
  refine congrArg some (congrArg Sum.inl (Prod.ext rfl (Prod.ext ?_ rfl)))
  simp only [wDf]
  omega
 ·simp only [lN,bO];rfl
theorem aNq {a:List aY} {k:Int} (h0:0<=k) (hB:k+wCms a<=BM) (hl:a.length < 4611686018427387904) (hx:∀ c∈a,c.Values.length<=1099511627776):qL a k=some (k+wCms a,mkL wCm mCm k a):=by
 unfold qL
 rw [aSs (w:=wCm) (m:=mCm) (step:=fun s=>mH s.1 s.2.1 s.2.2) h0 hB hl (fun pre x post kk hm g0 gB=>?_) (fun b kk=>?_)]
 ·rfl
 ·have gB':kk+(1+x.Values.length:Nat)<=BM:=gB
  have hb2:kk+1<=1099511627776:=by unfold BM at gB';omega
  have w1:=wr1 g0 (by omega)
  simp only [mH,aOo,if_true,aOm,aOn,aA,w1]
  rw [aLa (by omega) hb2 (hx x hm),aA]
  refine congrArg some (congrArg Sum.inl (Prod.ext rfl (Prod.ext ?_ rfl)))
  simp only [wCm]
  omega
 ·simp only [mH,bO];rfl
theorem aTE {a:List bB} {k:Int} (h0:0<=k) (hB:k+(3 * a.length:Nat)<=BM) (hl:a.length < 4611686018427387904):uQ a k=some (k+(3 * a.length:Nat),mkL (fun _=>3) mMt k a):=by
 unfold uQ
 rw [←sumC 3 a] at hB ⊢
 rw [aSs (w:=fun _=>3) (m:=mMt) (step:=fun s=>oZ s.1 s.2.1 s.2.2) h0 hB hl (fun pre x post kk hm g0 gB=>?_) (fun b kk=>?_)]
 ·rfl
 ·have hb2:kk+3<=1099511627776:=gB
  have w1:=wr1 g0 (by omega)
  have w2:=wr1 (k:=kk+1) (by omega) (by unfold BM;omega)
  have w3:=wr1 (k:=kk+1+1) (by omega) (by unfold BM;omega)
  simp only [oZ,aOo,if_true,aOm,aOn,aA,w1,w2,w3,aRY (k:=kk) (by omega),aRY (k:=kk+1) (by omega),aRY (k:=kk+1+1) (by omega)]
  simp only [mMt,Int.add_assoc];rfl
 ·simp only [oZ,bO];rfl
theorem aRF {s:bE} (h:zSys s<=sz):∃ r,aAU s.Definitions s.Components s.Meetings s.Allowed s.Hidden 1=some r/\0<=r.1:=by
 have hf:=aJP h
 unfold zSys sz at h
 have b1:=wDfs_le (a:=s.Definitions)
 have b2:=wCms_le (a:=s.Components)
 have b3:=aGg (z:=aOL) (a:=s.Meetings)
 have b4:=aGg (z:=List.length) (a:=s.Allowed)
 have b5:=aGg (z:=List.length) (a:=s.Hidden)
 obtain ⟨g1,g2,g3,g4,g5,g6,g7,g8,g9,g10⟩:=hf
 simp only [sz] at g1 g2 g3 g4 g5 g7 g9
 have hd:∀ d∈s.Definitions,aCc 4611686018427387903 d:=fun d hd=>by
  obtain ⟨x,y,z⟩:=g2 d hd
  exact ⟨by omega,by omega,fun p hp=>let ⟨u,v,q⟩:=z p hp;⟨by omega,by omega,fun e he=>by have:=q e he;omega⟩⟩
 unfold aAU
 rw [aLR (by omega) (by unfold BM;omega) (by omega) hd,aA]
 simp only
 rw [aNq (by omega) (by unfold BM;omega) (by omega) (fun c hc=>by have:=g4 c hc;omega),aA]
 simp only
 rw [aTE (by omega) (by unfold BM;omega) (by omega),aA]
 simp only
 rw [aJF (by omega) (by omega) (by omega),aA]
 simp only
 rw [aJF (by omega) (by omega) (by omega),aA]
 exact ⟨_,rfl,by simp only;omega⟩
end Gv
