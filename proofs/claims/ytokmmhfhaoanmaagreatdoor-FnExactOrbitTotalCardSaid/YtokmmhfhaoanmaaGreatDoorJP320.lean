/- Lists of nodes that are trees, written from the root on; expressions of both sides. -/
import Derived.Test.YtokmmhfhaoanmaaGreatDoorJP220
set_option linter.all false
namespace Gv
theorem fD {σ ρ:Type} {step:σ->Option (σ ⊕ ρ)} {s s':σ} (h:step s=some (.inl s')):loop step s=loop step s':=by rw [aQ,h]
theorem bA {σ ρ:Type} {step:σ->Option (σ ⊕ ρ)} {s:σ} {r:ρ} (h:step s=some (.inr r)):loop step s=some r:=by rw [aQ,h]
section
variable {β:Type}
inductive GTr (β:Type) where
 |nul (x:β)
 |one (x:β) (a:GTr β)
 |two (x:β) (a b:GTr β)
def GTr.flat:GTr β->List β
 |.nul x=>[x]
 |.one x a=>x::a.flat
 |.two x a b=>x::(a.flat++b.flat)
def GTr.WF (ar:β->Nat):GTr β->Prop
 |.nul x=>ar x=0
 |.one x a=>ar x=1/\a.WF ar
 |.two x a b=>ar x=2/\a.WF ar/\b.WF ar
def qH (ok:β->Bool) (ar:β->Nat):Nat->List β->Bool
 |n,[]=>n == 0
 |0,_::_=>false
 |n+1,x::l=>ok x&&qH ok ar (n+ar x) l
theorem GTr.flat_pos:∀ t:GTr β,0 < t.flat.length
 |.nul _=>by simp [GTr.flat]
 |.one _ _=>by simp [GTr.flat]
 |.two _ _ _=>by simp [GTr.flat]
theorem aTU {ok:β->Bool} {ar:β->Nat}:∀ {l:List β} {n:Nat},qH ok ar n l=true->∀ x∈l,ok x=true
 |[],_,_,x,hx=>by cases hx
 |y::l,0,h,_,_=>by simp [qH] at h
 |y::l,n+1,h,x,hx=>by
  simp only [qH,Bool.and_eq_true] at h
  rcases List.mem_cons.1 hx with rfl|hx
  ·exact h.1
  ·exact aTU h.2 x hx
theorem aLh {ok:β->Bool} {ar:β->Nat} (har:∀ x,ar x<=2):∀ {l:List β} {n:Nat},qH ok ar n l=true->∃ ts:List (GTr β),ts.length=n/\l=ts.flatMap GTr.flat/\∀ t∈ts,t.WF ar
 |[],n,h=>by
  simp only [qH,beq_iff_eq] at h
  subst h
  exact ⟨[],rfl,rfl,by simp⟩
 |x::l,0,h=>by simp [qH] at h
 |x::l,n+1,h=>by
  simp only [qH,Bool.and_eq_true] at h
  obtain ⟨ts,h1,h2,h3⟩:=aLh har h.2
  have hx:=har x
  by_cases e0:ar x=0
  ·refine ⟨.nul x::ts,by rw [List.length_cons,h1,e0],by rw [List.flatMap_cons,h2];rfl,fun t ht=>?_⟩
   rcases List.mem_cons.1 ht with rfl|ht
   ·exact e0
   ·exact h3 t ht
  by_cases e1:ar x=1
  ·match ts,h1,h2,h3 with
   |a::ts,h1,h2,h3=>
    refine ⟨.one x a::ts,by rw [List.length_cons] at h1 ⊢;omega,by rw [h2];simp [GTr.flat],fun t ht=>?_⟩
    rcases List.mem_cons.1 ht with rfl|ht
    ·exact ⟨e1,h3 a (by simp)⟩
    ·exact h3 t (List.mem_cons_of_mem _ ht)
   |[],h1,_,_=>simp at h1;omega
  have e2:ar x=2:=by omega
  match ts,h1,h2,h3 with
  |a::b::ts,h1,h2,h3=>
   refine ⟨.two x a b::ts,by rw [List.length_cons,List.length_cons] at h1;rw [List.length_cons];omega,by rw [h2];simp [GTr.flat],fun t ht=>?_⟩
   rcases List.mem_cons.1 ht with rfl|ht
   ·exact ⟨e2,h3 a (by simp),h3 b (by simp)⟩
   ·exact h3 t (List.mem_cons_of_mem _ (List.mem_cons_of_mem _ ht))
  |[a],h1,_,_=>simp at h1;omega
  |[],h1,_,_=>simp at h1;omega
theorem aJM {ok:β->Bool} {ar:β->Nat}:∀ (t:GTr β) (n:Nat) (l:List β),t.WF ar->(∀ x∈t.flat,ok x=true)->qH ok ar (n+1) (t.flat++l)=qH ok ar n l
 |.nul x,n,l,h,ho=>by
  have h:ar x=0:=h
  simp [GTr.flat,qH,h,ho x (by simp [GTr.flat])]
 |.one x a,n,l,h,ho=>by
  have h1:ar x=1:=h.1
  have:=aJM a n l h.2 (fun y hy=>ho y (by simp [GTr.flat,hy]))
  simp only [GTr.flat,List.cons_append,qH,h1,this,ho x (by simp [GTr.flat]),Bool.true_and]
 |.two x a b,n,l,h,ho=>by
  have h1:ar x=2:=h.1
  have e1:=aJM a (n+1) (b.flat++l) h.2.1 (fun y hy=>ho y (by simp [GTr.flat,hy]))
  have e2:=aJM b n l h.2.2 (fun y hy=>ho y (by simp [GTr.flat,hy]))
  simp only [GTr.flat,List.cons_append,qH,h1,ho x (by simp [GTr.flat]),Bool.true_and,List.append_assoc]
  rw [show n+2=n+1+1 from rfl,e1,e2]
theorem aNx {step:Int × Int->Option ((Int × Int) ⊕ (Int ⊕ Bool))} {e:List β} {ok:β->Bool} {ar:β->Nat} (har:∀ x,ar x<=2)
  (hs:∀ pre x post (n:Nat),e=pre++x::post->n<=2 * pre.length+1->step ((n:Int),(pre.length:Int))=if n=0 then some (.inr (.inr false)) else if ok x=true then some (.inl (((n - 1+ar x:Nat):Int),((pre.length+1:Nat):Int))) else some (.inr (.inr false)))
  (hs':∀ n,step (n,(e.length:Int))=some (.inr (.inl n))):∃ r,loop step (1,0)=some r/\(match r with|.inl r=>some (r == 0)|.inr b=>some b)=some (qH ok ar 1 e):=by
 have aux:∀ (l pre:List β) (n:Nat),e=pre++l->n<=2 * pre.length+1->∃ r,loop step ((n:Int),(pre.length:Int))=some r/\(match r with|.inl r=>some (r == 0)|.inr b=>some b)=some (qH ok ar n l):=by
  intro l
  induction l with
  |nil=>
   intro pre n he hn
   have:pre.length=e.length:=by rw [he];simp
   rw [aQ,this,hs']
   refine ⟨_,rfl,?_⟩
   simp only [qH,Option.some.injEq]
   by_cases h:n=0
   ·subst h;rfl
   ·have h1:((n:Int) == 0)=false:=by simp;omega
    have h2:(n == 0)=false:=by simp;omega
    rw [h1,h2]
  |cons x l ih=>
   intro pre n he hn
   rw [aQ,hs pre x l n he hn]
   match n with
   |0=>exact ⟨_,rfl,rfl⟩
   |n+1=>
    rw [if_neg (by omega)]
    have hx:=har x
    by_cases ho:ok x=true
    ·rw [if_pos ho]
     obtain ⟨r,h1,h2⟩:=ih (pre++[x]) (n+ar x) (by rw [he];simp) (by simp;omega)
     refine ⟨r,?_,?_⟩
     ·rw [show ((pre++[x]).length:Int)=((pre.length+1:Nat):Int) by simp] at h1
      exact h1
     ·rw [h2];simp only [qH,ho,Bool.true_and]
    ·rw [if_neg ho]
     refine ⟨_,rfl,?_⟩
     have:ok x=false:=by simpa using ho
     simp [qH,this]
 exact aux e [] 1 rfl (by simp)
theorem aPZ {ρ:Type} {step:Int × Int->Option ((Int × Int) ⊕ ρ)} {e:List β} {ar:β->Nat} (fin:Int->ρ)
  (hs:∀ pre x post (n:Nat),e=pre++x::post->n<=e.length->step ((pre.length:Int),((n+1:Nat):Int))=some (.inl (((pre.length+1:Nat):Int),((n+ar x:Nat):Int))))
  (hs':∀ k,step (k,0)=some (.inr (fin k))):∀ (m:Nat) (ts:List (GTr β)) (pre post:List β),(ts.flatMap GTr.flat).length=m->e=pre++ts.flatMap GTr.flat++post->(∀ t∈ts,t.WF ar)->loop step ((pre.length:Int),(ts.length:Int))=some (fin ((pre.length+(ts.flatMap GTr.flat).length:Nat):Int)):=by
 intro m
 have hN:∀ (x:β) (ts:List (GTr β)),((GTr.nul x::ts).flatMap GTr.flat).length=(ts.flatMap GTr.flat).length+1:=fun x ts=>by rw [List.flatMap_cons,List.length_append];simp only [GTr.flat,List.length_singleton];omega
 have hO:∀ (x:β) (a:GTr β) (ts:List (GTr β)),((GTr.one x a::ts).flatMap GTr.flat).length=((a::ts).flatMap GTr.flat).length+1:=fun x a ts=>by simp only [List.flatMap_cons,List.length_append,GTr.flat,List.length_cons];omega
 have hT:∀ (x:β) (a b:GTr β) (ts:List (GTr β)),((GTr.two x a b::ts).flatMap GTr.flat).length=((a::b::ts).flatMap GTr.flat).length+1:=fun x a b ts=>by simp only [List.flatMap_cons,List.length_append,GTr.flat,List.length_cons];omega
 have hlen:∀ ts:List (GTr β),ts.length<=(ts.flatMap GTr.flat).length:=by
  intro ts
  induction ts with
  |nil=>simp
  |cons t ts ih=>have:=t.flat_pos;rw [List.flatMap_cons,List.length_append,List.length_cons];omega
 induction m with
 |zero=>
  intro ts pre post hm he hw
  match ts with
  |[]=>rw [aQ,show ((([]:List (GTr β)).length:Nat):Int)=0 from rfl,hs'];simp
  |t::ts=>have:=t.flat_pos;rw [List.flatMap_cons,List.length_append] at hm;omega
 |succ m ih=>
  intro ts pre post hm he hw
  match ts with
  |[]=>simp at hm
  |t::ts=>
   have hln:=hlen ts
   have htw:=hw t (by simp)
   have e0:∀ x:β,((pre++[x]).length:Int)=((pre.length+1:Nat):Int):=fun x=>by simp
   have e1:∀ x:β,(pre++[x]).length=pre.length+1:=fun x=>by simp
   match t with
   |.nul x=>
    have ha:ar x=0:=htw
    have hx:e=pre++x::(ts.flatMap GTr.flat++post):=by rw [he];simp [GTr.flat]
    have hle:ts.length<=e.length:=by rw [hx,List.length_append,List.length_cons,List.length_append];omega
    rw [hN] at hm ⊢
    have:=ih ts (pre++[x]) post (by omega) (by rw [hx];simp) (fun t ht=>hw t (List.mem_cons_of_mem _ ht))
    rw [e0,e1] at this
    rw [aQ,List.length_cons,hs pre x _ ts.length hx hle,ha]
    show loop step (((pre.length+1:Nat):Int),(ts.length:Int))=_
    rw [this]
    congr 2;omega
   |.one x a=>
    have ha:ar x=1:=htw.1
    have hx:e=pre++x::((a::ts).flatMap GTr.flat++post):=by rw [he];simp [GTr.flat]
    have hle:ts.length<=e.length:=by rw [hx,List.length_append,List.length_cons,List.length_append,List.flatMap_cons,List.length_append];omega
    rw [hO] at hm ⊢
    have:=ih (a::ts) (pre++[x]) post (by omega) (by rw [hx];simp) (fun t ht=>by
     rcases List.mem_cons.1 ht with rfl|ht
     ·exact htw.2
     ·exact hw t (List.mem_cons_of_mem _ ht))
    rw [e0,e1,List.length_cons] at this
    rw [aQ,List.length_cons,hs pre x _ ts.length hx hle,ha]
    show loop step _=_
    rw [this]
    congr 2;omega
   |.two x a b=>
    have ha:ar x=2:=htw.1
    have hx:e=pre++x::((a::b::ts).flatMap GTr.flat++post):=by rw [he];simp [GTr.flat]
    have hle:ts.length<=e.length:=by rw [hx,List.length_append,List.length_cons,List.length_append,List.flatMap_cons,List.length_append,List.flatMap_cons,List.length_append];omega
    rw [hT] at hm ⊢
    have:=ih (a::b::ts) (pre++[x]) post (by omega) (by rw [hx];simp) (fun t ht=>by
     rcases List.mem_cons.1 ht with rfl|ht
     ·exact htw.2.1
     ·rcases List.mem_cons.1 ht with rfl|ht
      ·exact htw.2.2
      ·exact hw t (List.mem_cons_of_mem _ ht))
    rw [e0,e1,List.length_cons,List.length_cons] at this
    rw [aQ,List.length_cons,hs pre x _ ts.length hx hle,ha]
    show loop step _=_
    rw [show ts.length+2=ts.length+1+1 from rfl,this]
    congr 2;omega
end
def aBZ (v:Int) (t:aP):Bool:=if t.Kind == 0 then oP t.Value else if t.Kind == 1 then decide (0<=t.Value)&&decide (t.Value<=v - 1) else if t.Kind == 2 then decide (0<=t.Value)&&decide (t.Value<=8) else t.Kind == 3&&t.Value == 0
def arT (t:aP):Nat:=if t.Kind == 2 then 2 else if t.Kind == 3 then 1 else 0
theorem aNy (t:aP):arT t<=2:=by unfold arT;split<;>(try split)<;>omega
theorem aVy (t:aP) {v:Int} (hv:wr (v - 1)=v - 1):aJB t v=some (aBZ v t):=by
 unfold aJB aBZ oP
 simp only [aEt,hv,aA]
 by_cases h0:(t.Kind == 0)=true
 ·simp [h0]
 by_cases h1:(t.Kind == 1)=true
 ·simp [h0,h1]
 by_cases h2:(t.Kind == 2)=true
 ·simp [h0,h1,h2]
 by_cases h3:(t.Kind == 3)=true
 ·simp [h0,h1,h2,h3]
 ·simp [h0,h1,h2,h3]
theorem aVz (n:Int):aDp n=some (oP n):=by unfold aDp oP;rw [gV,aA]
theorem aQK (t:aP) {v:Int} (hv:wr (v - 1)=v - 1):aDf t v=some (aBZ v t):=by
 unfold aDf aBZ
 simp only [gV,aVz,hv,aA]
 by_cases h0:(t.Kind == 0)=true
 ·simp [h0]
 by_cases h1:(t.Kind == 1)=true
 ·simp [h0,h1]
 by_cases h2:(t.Kind == 2)=true
 ·simp [h0,h1,h2]
 by_cases h3:(t.Kind == 3)=true
 ·simp [h0,h1,h2,h3]
 ·simp [h0,h1,h2,h3]
theorem aJl (t:aP):aDQ t=some (arT t:Int):=by
 unfold aDQ arT
 split
 ·rfl
 ·split<;>rfl
theorem aDk (t:aP):xE t=some (arT t:Int):=aJl t
theorem aSA {n a:Nat} (h:n≠0) (hn:n < 4611686018427387904) (ha:a<=2):wr ((n:Int)+wr ((a:Int) - 1))=((n - 1+a:Nat):Int):=by unfold wr;omega
theorem l03Is_eq (e:List aP) {v m:Int} (hv:wr (v - 1)=v - 1) (hl:e.length < 1000000000):aLJ e v m=some (decide ((e.length:Int)<=m)&&qH (aBZ v) arT 1 e):=by
 unfold aLJ
 by_cases h:m < (e.length:Int)
 ·rw [if_pos (by simpa using h)]
  have:decide ((e.length:Int)<=m)=false:=by simp;omega
  simp [this]
 ·rw [if_neg (by simpa using h)]
  have hm:decide ((e.length:Int)<=m)=true:=by simp;omega
  have key:=aNx (step:=fun s=>aDR e v s.1 s.2) (e:=e) (ok:=aBZ v) (ar:=arT) aNy (fun pre x post n he hn=>?_) (fun n=>?_)
  ·obtain ⟨r,h1,h2⟩:=key
   rw [h1,aA,hm,Bool.true_and,←h2]
   first|done|(cases r<;>rfl)
  ·have hp:pre.length < e.length:=by rw [he];simp
   have hi:ix e (pre.length:Int)=some x:=by rw [gK,he];simp
   have ha:=aNy x
   simp only [aDR,aGL,aY hp,if_true,hi,aA,aVy x hv,aJl]
   by_cases h0:n=0
   ·subst h0;rfl
   ·have h0':((n:Int) == 0)=false:=by simp;omega
    rw [if_neg (by simp [h0']),if_neg h0,aSA h0 (by omega) ha,aV hp (by omega)]
    cases aBZ v x<;>rfl
  ·simp only [aDR,bE];rfl
theorem aQL (e:List aP) {v m:Int} (hv:0<=v) (hv2:v<=29) (hm:1<=m) (hm2:m<=60) (hl:e.length < 1000000000):aAr e v m=some (decide ((e.length:Int)<=m)&&qH (aBZ v) arT 1 e):=by
 have hw:wr (v - 1)=v - 1:=eG (by omega) (by omega)
 unfold aAr
 rw [gV,aA,if_neg (by simp;omega),gV,aA,if_neg (by simp;omega),gV,aA]
 unfold nK
 by_cases hb:(1<=(e.length:Int))/\(e.length:Int)<=m
 ·rw [if_neg (by simp;omega)]
  have hd:decide ((e.length:Int)<=m)=true:=by simp;omega
  have key:=aNx (step:=fun s=>rU e v s.1 s.2) (e:=e) (ok:=aBZ v) (ar:=arT) aNy (fun pre x post n he hn=>?_) (fun n=>?_)
  ·obtain ⟨r,h1,h2⟩:=key
   rw [h1,aA,hd,Bool.true_and,←h2]
   first|done|(cases r<;>rfl)
  ·have hp:pre.length < e.length:=by rw [he];simp
   have hi:ix e (pre.length:Int)=some x:=by rw [gK,he];simp
   have ha:=aNy x
   simp only [rU,xF,aY hp,if_true,hi,aA,aQK x hw,aDk]
   by_cases h0:n=0
   ·subst h0;rfl
   ·have h0':((n:Int) == 0)=false:=by simp;omega
    rw [if_neg (by simp [h0']),if_neg h0,aSA h0 (by omega) ha,aV hp (by omega)]
    cases aBZ v x<;>rfl
  ·simp only [rU,bE];rfl
 ·rw [if_pos (by simp;omega)]
  by_cases h2:(e.length:Int)<=m
  ·have:e=[]:=List.length_eq_zero_iff.1 (by omega)
   subst this
   simp [qH]
  ·simp [h2]
noncomputable def opV (op a b:Int):Int:=(aET op a b).getD 0
theorem aVA (op a b:Int):aJH op a b=aET op a b:=rfl
theorem aCa (b:Bool):∃ v,lJ b=some v/\0<=v/\v<=63:=by cases b<;>exact ⟨_,rfl,by omega,by omega⟩
theorem op_eq (op:Int) {a b:Int} (ha:oP a=true) (hb:oP b=true):aET op a b=some (opV op a b)/\oP (opV op a b)=true:=by
 simp only [oP,Bool.and_eq_true,decide_eq_true_eq] at ha hb
 have key:∃ v,aET op a b=some v/\0<=v/\v<=63:=by
  have hm:0<=a * b/\a * b<=63 * 63:=⟨Int.mul_nonneg ha.1 hb.1,Int.mul_le_mul ha.2 hb.2 hb.1 (by omega)⟩
  have rmI:∀ x:Int,0<=x->∃ v,rm x 64=some v/\0<=v/\v<=63:=fun x hx=>⟨x.tmod 64,rfl,Int.tmod_nonneg _ hx,by have:=Int.tmod_lt_of_pos x (show (0:Int) < 64 by omega);omega⟩
  unfold aET
  split
  ·rw [eG (by omega) (by omega)]
   obtain ⟨v,h1,h2⟩:=rmI (a+b) (by omega)
   exact ⟨v,by rw [h1];rfl,h2⟩
  split
  ·rw [eG (x:=a - b) (by omega) (by omega),eG (by omega) (by omega)]
   obtain ⟨v,h1,h2⟩:=rmI (a - b+64) (by omega)
   exact ⟨v,by rw [h1];rfl,h2⟩
  split
  ·rw [eG (by omega) (by omega)]
   obtain ⟨v,h1,h2⟩:=rmI (a * b) (by omega)
   exact ⟨v,by rw [h1];rfl,h2⟩
  split
  ·obtain ⟨v,h1,h2⟩:=aCa (a == b);exact ⟨v,by rw [h1];rfl,h2⟩
  split
  ·obtain ⟨v,h1,h2⟩:=aCa (a != b);exact ⟨v,by rw [h1];rfl,h2⟩
  split
  ·obtain ⟨v,h1,h2⟩:=aCa (decide (a < b));exact ⟨v,by rw [h1];rfl,h2⟩
  split
  ·obtain ⟨v,h1,h2⟩:=aCa (decide (a<=b));exact ⟨v,by rw [h1];rfl,h2⟩
  split
  ·split
   ·obtain ⟨v,h1,h2⟩:=aCa (b != 0);exact ⟨v,by rw [h1];rfl,h2⟩
   ·obtain ⟨v,h1,h2⟩:=aCa false;exact ⟨v,by rw [h1];rfl,h2⟩
  ·split
   ·obtain ⟨v,h1,h2⟩:=aCa true;exact ⟨v,by rw [h1];rfl,h2⟩
   ·obtain ⟨v,h1,h2⟩:=aCa (b != 0);exact ⟨v,by rw [h1];rfl,h2⟩
 obtain ⟨v,h1,h2,h3⟩:=key
 unfold opV
 rw [h1]
 exact ⟨rfl,by simp [oP,h2,h3]⟩
def trV (b:Bool):Int:=if b then 1 else 0
theorem truthG (b:Bool):lJ b=some (trV b):=by cases b<;>rfl
theorem truth_eqI (b:Bool):aAu b=some (trV b):=by cases b<;>rfl
noncomputable def aGo (vs:List Int):GTr aP->Int
 |.nul t=>if t.Kind == 0 then t.Value else vs.getD t.Value.toNat 0
 |.one _ a=>trV (aGo vs a == 0)
 |.two t a b=>opV t.Value (aGo vs a) (aGo vs b)
def trT:GTr aP->Tr aP
 |.nul t=>.mk t []
 |.one t a=>.mk t [trT a]
 |.two t a b=>.mk t [trT a,trT b]
section
variable {vs:List Int} (hvs:vs.all oP=true)
include hvs
theorem var_ix {t:aP} (h1:(t.Kind == 1)=true) (ht:aBZ (vs.length:Int) t=true):ix vs t.Value=some (vs.getD t.Value.toNat 0)/\oP (vs.getD t.Value.toNat 0)=true:=by
 have h0:(t.Kind == 0)=false:=by simp at h1 ⊢;omega
 simp only [aBZ,h0,h1,Bool.false_eq_true,if_false,if_true,Bool.and_eq_true,decide_eq_true_eq] at ht
 have hlt:t.Value.toNat < vs.length:=by omega
 have e:vs.getD t.Value.toNat 0=vs[t.Value.toNat]:=by simp [List.getD,hlt]
 rw [e]
 refine ⟨?_,List.all_eq_true.1 hvs _ (List.getElem_mem hlt)⟩
 unfold ix
 rw [if_pos ht.1]
 simp [hlt]
theorem aHr:∀ (t:GTr aP),t.WF arT->(∀ x∈t.flat,aBZ (vs.length:Int) x=true)->oP (aGo vs t)=true
 |.nul t,hw,ho=>by
  have ht:=ho t (by simp [GTr.flat])
  have hw:arT t=0:=hw
  by_cases h0:(t.Kind == 0)=true
  ·simp only [aGo,h0,if_true]
   simp only [aBZ,h0,if_true] at ht
   exact ht
  ·simp only [aGo,h0,Bool.false_eq_true,if_false]
   have h1:(t.Kind == 1)=true:=by
    unfold arT at hw
    by_cases h2:(t.Kind == 2)=true
    ·simp [h2] at hw
    by_cases h3:(t.Kind == 3)=true
    ·simp [h2,h3] at hw
    by_cases h1:(t.Kind == 1)=true
    ·exact h1
    ·simp [aBZ,h0,h1,h2,h3] at ht
   exact (var_ix hvs h1 ht).2
 |.one _ a,_,_=>by
  simp only [aGo]
  cases aGo vs a == 0<;>rfl
 |.two t a b,hw,ho=>by
  simp only [aGo]
  exact (op_eq _ (aHr a hw.2.1 (fun x hx=>ho x (by simp [GTr.flat,hx]))) (aHr b hw.2.2 (fun x hx=>ho x (by simp [GTr.flat,hx])))).2
theorem aRq {t:aP} {v:Int} (ht:aBZ v t=true):(arT t=0->t.Kind=0\/t.Kind=1)/\(arT t=1->t.Kind=3)/\(arT t=2->t.Kind=2):=by
 unfold aBZ at ht
 unfold arT
 by_cases h0:t.Kind=0
 ·simp [h0]
 by_cases h1:t.Kind=1
 ·simp [h1]
 by_cases h2:t.Kind=2
 ·simp [h2]
 by_cases h3:t.Kind=3
 ·simp [h3]
 ·simp [h0,h1,h2,h3] at ht
theorem aTV:∀ (t:GTr aP) (m:Nat) (post:List aP),t.flat.length<=m->(t.flat++post).length < 1000000000->t.WF arT->(∀ x∈t.flat,aBZ (vs.length:Int) x=true)->lW m (t.flat++post)=some (trT t,post):=by
 intro t
 induction t with
 |nul t=>
  intro m post hm hl hw ho
  match m with
  |0=>simp [GTr.flat] at hm
  |m+1=>
   have hw:arT t=0:=hw
   have hs:slc (t::post) 1 ((t::post).length:Int)=some post:=by
    unfold slc
    rw [if_pos ⟨by omega,by simp;omega,by simp⟩]
    simp
   show lV (lW m) ([t]++post)=_
   unfold lV
   rw [List.singleton_append,show ix (t::post) 0=some t from rfl,aA,hs,aA,aDk,aA,hw,aQ]
   rfl
 |one t a iha=>
  intro m post hm hl hw ho
  match m with
  |0=>simp [GTr.flat] at hm
  |m+1=>
   have h1:arT t=1:=hw.1
   have hs:slc (t::(a.flat++post)) 1 ((t::(a.flat++post)).length:Int)=some (a.flat++post):=by
    unfold slc
    rw [if_pos ⟨by omega,by simp;omega,by simp⟩,show ((1:Int)).toNat=1 from rfl,List.drop_succ_cons,List.drop_zero,List.take_of_length_le (by simp;omega)]
   have hl2:(a.flat++post).length < 1000000000:=by simp [GTr.flat] at hl ⊢;omega
   have ra:=iha m post (by simp [GTr.flat] at hm;omega) hl2 hw.2 (fun x hx=>ho x (by simp [GTr.flat,hx]))
   show lV (lW m) (t::a.flat++post)=_
   unfold lV
   rw [List.cons_append,show ix (t::(a.flat++post)) 0=some t from rfl,aA,hs,aA,aDk,aA,h1,aQ]
   simp only [wH,ra,aA,dM (xs:=([]:List (Tr aP))) (ys:=[trT a]) (by unfold fG;simp),show decide ((0:Int) < ((1:Nat):Int))=true from rfl,if_true,show wr (0+1)=1 from rfl]
   rw [aQ]
   rfl
 |two t a b iha ihb=>
  intro m post hm hl hw ho
  match m with
  |0=>simp [GTr.flat] at hm
  |m+1=>
   have h1:arT t=2:=hw.1
   have hs:slc (t::(a.flat++(b.flat++post))) 1 ((t::(a.flat++(b.flat++post))).length:Int)=some (a.flat++(b.flat++post)):=by
    unfold slc
    rw [if_pos ⟨by omega,by simp;omega,by simp⟩,show ((1:Int)).toNat=1 from rfl,List.drop_succ_cons,List.drop_zero,List.take_of_length_le (by simp;omega)]
   have hl2:(a.flat++(b.flat++post)).length < 1000000000:=by simp [GTr.flat] at hl ⊢;omega
   have ra:=iha m (b.flat++post) (by simp [GTr.flat] at hm;omega) hl2 hw.2.1 (fun x hx=>ho x (by simp [GTr.flat,hx]))
   have rb:=ihb m post (by simp [GTr.flat] at hm;omega) (by simp at hl2 ⊢;omega) hw.2.2 (fun x hx=>ho x (by simp [GTr.flat,hx]))
   show lV (lW m) (t::(a.flat++b.flat)++post)=_
   unfold lV
   rw [List.cons_append,List.append_assoc,show ix (t::(a.flat++(b.flat++post))) 0=some t from rfl,aA,hs,aA,aDk,aA,h1,aQ]
   simp only [wH,ra,aA,dM (xs:=([]:List (Tr aP))) (ys:=[trT a]) (by unfold fG;simp),show decide ((0:Int) < ((2:Nat):Int))=true from rfl,if_true,show wr (0+1)=1 from rfl,List.nil_append]
   rw [aQ]
   simp only [wH,rb,aA,dM (xs:=[trT a]) (ys:=[trT b]) (by unfold fG;simp),show decide ((1:Int) < ((2:Nat):Int))=true from rfl,if_true,show wr (1+1)=2 from rfl]
   rw [aQ]
   rfl
theorem value_eq:∀ (t:GTr aP) (m:Nat),t.flat.length<=m->t.WF arT->(∀ x∈t.flat,aBZ (vs.length:Int) x=true)->jK m (trT t) vs=some (aGo vs t):=by
 intro t
 induction t with
 |nul t=>
  intro m hm hw ho
  match m with
  |0=>simp [GTr.flat] at hm
  |m+1=>
   have ht:=ho t (by simp [GTr.flat])
   have hw:arT t=0:=hw
   show jJ (jK m) (.mk t []) vs=_
   unfold jJ
   simp only [Tr.val,aGo]
   rcases (aRq hvs ht).1 hw with h|h
   ·simp [h]
   ·have h1:(t.Kind == 1)=true:=by simp [h]
    have h0:(t.Kind == 0)=false:=by simp [h]
    simp only [h0,h1,Bool.false_eq_true,if_false,if_true,(var_ix hvs h1 ht).1,aA]
 |one t a iha=>
  intro m hm hw ho
  match m with
  |0=>simp [GTr.flat] at hm
  |m+1=>
   have ht:=ho t (by simp [GTr.flat])
   have ra:=iha m (by simp [GTr.flat] at hm;omega) hw.2 (fun x hx=>ho x (by simp [GTr.flat,hx]))
   have hk:=(aRq hvs ht).2.1 hw.1
   show jJ (jK m) (.mk t [trT a]) vs=_
   unfold jJ
   simp only [Tr.val,Tr.kids,aGo,hk]
   simp [ix,ra,truth_eqI]
 |two t a b iha ihb=>
  intro m hm hw ho
  match m with
  |0=>simp [GTr.flat] at hm
  |m+1=>
   have ht:=ho t (by simp [GTr.flat])
   have hoa:∀ x∈a.flat,aBZ (vs.length:Int) x=true:=fun x hx=>ho x (by simp [GTr.flat,hx])
   have hob:∀ x∈b.flat,aBZ (vs.length:Int) x=true:=fun x hx=>ho x (by simp [GTr.flat,hx])
   have ra:=iha m (by simp [GTr.flat] at hm;omega) hw.2.1 hoa
   have rb:=ihb m (by simp [GTr.flat] at hm;omega) hw.2.2 hob
   have hk:=(aRq hvs ht).2.2 hw.1
   have ho:=(op_eq t.Value (aHr hvs a hw.2.1 hoa) (aHr hvs b hw.2.2 hob)).1
   show jJ (jK m) (.mk t [trT a,trT b]) vs=_
   unfold jJ
   simp only [Tr.val,Tr.kids,aGo,hk]
   simp [ix,ra,rb,aVA,ho]
theorem l03End_eq {e:List aP} (hl:e.length < 1000000000) (t:GTr aP) (pre post:List aP) (he:e=pre++t.flat++post) (hw:t.WF arT):aIw e (pre.length:Int)=some ((pre.length+t.flat.length:Nat):Int):=by
 unfold aIw
 have:=aPZ (step:=fun s=>aIv e s.1 s.2) (e:=e) (ar:=arT) (fun k=>k) (fun pre x post n he hn=>?_) (fun k=>?_) _ [t] pre post rfl (by simpa using he) (by simpa using hw)
 ·simp only [List.length_singleton,Int.natCast_one] at this
  rw [this]
  simp [aIu]
 ·have hp:pre.length < e.length:=by rw [he];simp
  have hi:ix e (pre.length:Int)=some x:=by rw [gK,he];simp
  have h2:wr (((n+1:Nat):Int)+wr ((arT x:Int) - 1))=((n+arT x:Nat):Int):=by have:=aNy x;unfold wr;omega
  simp only [aIv,hi,aA,aJl,h2,aV hp (show e.length < 4611686018427387904 by omega)]
  rw [if_pos (by simp<;>omega)]
 ·rfl
theorem l03At_eq {e:List aP} (hl:e.length < 1000000000):∀ (t:GTr aP) (m:Nat) (pre post:List aP),e=pre++t.flat++post->t.flat.length<=m->t.WF arT->(∀ x∈t.flat,aBZ (vs.length:Int) x=true)->uL m e vs (pre.length:Int)=some (aGo vs t):=by
 intro t
 induction t with
 |nul t=>
  intro m pre post he hm hw ho
  match m with
  |0=>simp [GTr.flat] at hm
  |m+1=>
   have ht:=ho t (by simp [GTr.flat])
   have hw:arT t=0:=hw
   have hi:ix e (pre.length:Int)=some t:=by rw [gK,he];simp [GTr.flat]
   show uK (uL m) e vs (pre.length:Int)=_
   unfold uK
   simp only [hi,aA,aGo]
   rcases (aRq hvs ht).1 hw with h|h
   ·simp [h]
   ·have h1:(t.Kind == 1)=true:=by simp [h]
    have h0:(t.Kind == 0)=false:=by simp [h]
    simp only [h0,h1,Bool.false_eq_true,if_false,if_true,(var_ix hvs h1 ht).1,aA]
 |one t a iha=>
  intro m pre post he hm hw ho
  match m with
  |0=>simp [GTr.flat] at hm
  |m+1=>
   have ht:=ho t (by simp [GTr.flat])
   have hi:ix e (pre.length:Int)=some t:=by rw [gK,he];simp [GTr.flat]
   have hp:pre.length < e.length:=by rw [he];simp [GTr.flat]
   have ra:=iha m (pre++[t]) post (by rw [he];simp [GTr.flat]) (by simp [GTr.flat] at hm;omega) hw.2 (fun x hx=>ho x (by simp [GTr.flat,hx]))
   rw [show ((pre++[t]).length:Int)=((pre.length+1:Nat):Int) by simp] at ra
   have hk:=(aRq hvs ht).2.1 hw.1
   show uK (uL m) e vs (pre.length:Int)=_
   unfold uK
   simp only [hi,aA,aGo,hk,aV hp (show e.length < 4611686018427387904 by omega),ra]
   simp [truthG]
 |two t a b iha ihb=>
  intro m pre post he hm hw ho
  match m with
  |0=>simp [GTr.flat] at hm
  |m+1=>
   have ht:=ho t (by simp [GTr.flat])
   have hoa:∀ x∈a.flat,aBZ (vs.length:Int) x=true:=fun x hx=>ho x (by simp [GTr.flat,hx])
   have hob:∀ x∈b.flat,aBZ (vs.length:Int) x=true:=fun x hx=>ho x (by simp [GTr.flat,hx])
   have hi:ix e (pre.length:Int)=some t:=by rw [gK,he];simp [GTr.flat]
   have hp:pre.length < e.length:=by rw [he];simp [GTr.flat]
   have hea:e=(pre++[t])++a.flat++(b.flat++post):=by rw [he];simp [GTr.flat]
   have heb:e=(pre++[t]++a.flat)++b.flat++post:=by rw [he];simp [GTr.flat]
   have ra:=iha m (pre++[t]) _ hea (by simp [GTr.flat] at hm;omega) hw.2.1 hoa
   have rb:=ihb m (pre++[t]++a.flat) _ heb (by simp [GTr.flat] at hm;omega) hw.2.2 hob
   have re:=l03End_eq hvs hl a (pre++[t]) _ hea hw.2.1
   rw [show ((pre++[t]++a.flat).length:Int)=(((pre++[t]).length+a.flat.length:Nat):Int) by rw [List.length_append]] at rb
   have e1:((pre++[t]).length:Int)=((pre.length+1:Nat):Int):=by simp
   rw [e1] at ra re
   have hk:=(aRq hvs ht).2.2 hw.1
   have hop:=(op_eq t.Value (aHr hvs a hw.2.1 hoa) (aHr hvs b hw.2.2 hob)).1
   show uK (uL m) e vs (pre.length:Int)=_
   unfold uK
   simp only [hi,aA,aGo,hk,aV hp (show e.length < 4611686018427387904 by omega),ra,re,rb]
   simp [hop]
end
noncomputable def aHs (vs:List Int) (e:List aP):Int:=(aAV e vs).getD 0
def okE (v:Int) (e:List aP):Bool:=decide ((e.length:Int)<=15)&&qH (aBZ v) arT 1 e
theorem aGp {e:List aP} {vs:List Int} (hvs:vs.all oP=true) (h:okE (vs.length:Int) e=true):aAV e vs=some (aHs vs e)/\aBe e vs=some (aHs vs e)/\oP (aHs vs e)=true:=by
 unfold okE at h
 simp only [Bool.and_eq_true,decide_eq_true_eq] at h
 obtain ⟨hl,hn⟩:=h
 obtain ⟨ts,h1,h2,h3⟩:=aLh aNy hn
 have hall:=aTU hn
 match ts,h1 with
 |[t],_=>
  have e1:e=t.flat:=by rw [h2];simp
  have hw:=h3 t (by simp)
  have ho:∀ x∈t.flat,aBZ (vs.length:Int) x=true:=fun x hx=>hall x (by rw [e1];exact hx)
  have hlen:t.flat.length<=15:=by rw [←e1];omega
  have a1:=l03At_eq hvs (e:=e) (by omega) t 100000 [] [] (by simp [e1]) (by omega) hw ho
  have a2:=aTV hvs t 100000 [] (by omega) (by simp;omega) hw ho
  have a3:=value_eq hvs t 100000 (by omega) hw ho
  rw [List.append_nil,←e1] at a2
  have s1:aAV e vs=some (aGo vs t):=by unfold aAV aSk;rw [show (0:Int)=(([]:List aP).length:Int) from rfl,a1];rfl
  have s2:aBe e vs=some (aGo vs t):=by unfold aBe i_tree aKO aHb;rw [a2];simp only [aA];rw [a3];rfl
  have s3:aHs vs e=aGo vs t:=by unfold aHs;rw [s1];rfl
  rw [s3]
  exact ⟨s1,s2,aHr hvs t hw ho⟩
theorem aRr {l:List (List aP)} {vs:List Int} (hvs:vs.all oP=true) (h:∀ e∈l,okE (vs.length:Int) e=true) (hl:l.length<=1000):aDs l vs=some (l.map (aHs vs))/\sD l vs=some (l.map (aHs vs)):=by
 constructor
 ·unfold aDs
  rw [lH (step:=fun s=>aCS l vs s.1 s.2) l (aHs vs) (fun x=>x) (fun k out x hk ho hx=>?_) (fun out=>?_)]
  ·rfl
  ·have hm:x∈l:=by rw [aU hk] at hx;cases hx;exact List.getElem_mem hk
   simp only [aCS,aY hk,if_true,hx,aA,(aGp hvs (h x hm)).1,dM (xs:=out) (ys:=[aHs vs x]) (by unfold fG;simp;omega),aV hk (show l.length < 4611686018427387904 by omega)]
  ·simp only [aCS,bE];rfl
 ·unfold sD
  rw [lH (step:=fun s=>uS l vs s.1 s.2) l (aHs vs) (fun x=>x) (fun k out x hk ho hx=>?_) (fun out=>?_)]
  ·rfl
  ·have hm:x∈l:=by rw [aU hk] at hx;cases hx;exact List.getElem_mem hk
   simp only [uS,aY hk,if_true,hx,aA,(aGp hvs (h x hm)).2.1,dM (xs:=out) (ys:=[aHs vs x]) (by unfold fG;simp;omega),aV hk (show l.length < 4611686018427387904 by omega)]
  ·simp only [uS,bE];rfl
end Gv
namespace Gv
def iJ (p:Part):Nat:=if p.Kind == 1||p.Kind == 3||p.Kind == 4 then 1 else if p.Kind == 2 then 2 else 0
theorem aMD (p:Part):iJ p<=2:=by unfold iJ;split<;>(try split)<;>omega
theorem aHt (p:Part):xY p=some (iJ p:Int):=by
 unfold xY tD iJ
 by_cases h1:(p.Kind == 1)=true
 ·simp [h1]
 by_cases h3:(p.Kind == 3)=true
 ·simp [h1,h3]
 by_cases h4:(p.Kind == 4)=true
 ·simp [h1,h3,h4]
 by_cases h2:(p.Kind == 2)=true
 ·simp [h1,h3,h4,h2]
 ·simp [h1,h3,h4,h2]
theorem aEx (p:Part):wA p=some (iJ p:Int):=aHt p
def tt (_:Part):Bool:=true
theorem aTW {α:Type} {ok:α->Bool} {ar:α->Nat}:∀ {l:List α} {n:Nat},qH ok ar n l=true->n<=l.length
 |[],n,h=>by simp [qH] at h;omega
 |x::l,0,_=>Nat.zero_le _
 |x::l,n+1,h=>by
  simp only [qH,Bool.and_eq_true] at h
  have:=aTW h.2
  rw [List.length_cons];omega
theorem aRs (b:List Part) (hl:b.length < 1000000000):aDP b=some (decide (b.length<=20)&&qH tt iJ 1 b):=by
 unfold aDP
 by_cases h0:b=[]
 ·subst h0;rfl
 have hb:0 < b.length:=by cases b with|nil=>exact absurd rfl h0|cons _ _=>simp
 rw [if_neg (by simp;exact h0)]
 unfold vM
 by_cases h20:20 < b.length
 ·rw [if_pos (by simp;omega)]
  have:decide (b.length<=20)=false:=by simp;omega
  rw [this];rfl
 ·rw [if_neg (by simp;omega)]
  have hd:decide (b.length<=20)=true:=by simp;omega
  have key:=aNx (step:=fun s=>aBr b s.1 s.2) (e:=b) (ok:=tt) (ar:=iJ) aMD (fun pre x post n he hn=>?_) (fun n=>?_)
  ·obtain ⟨r,h1,h2⟩:=key
   rw [h1,aA,hd,Bool.true_and,←h2]
   first|done|(cases r<;>rfl)
  ·have hp:pre.length < b.length:=by rw [he];simp
   have hi:ix b (pre.length:Int)=some x:=by rw [gK,he];simp
   have ha:=aMD x
   simp only [aBr,aY hp,if_true,hi,aA,aHt,tt]
   by_cases h0:n=0
   ·subst h0;rfl
   ·have h0':((n:Int) == 0)=false:=by simp;omega
    rw [if_neg (by simp [h0']),if_neg h0,aSA h0 (by omega) ha,aV hp (by omega)]
  ·simp only [aBr,bE];rfl
def aME:Nat->List Part->Option Nat
 |0,_=>some 0
 |_+1,[]=>none
 |n+1,p::l=>(aME (n+iJ p) l).map (·+1)
theorem aRt:∀ (l:List Part) (n:Nat),qH tt iJ n l=decide (aME n l=some l.length)
 |[],0=>by simp [qH,aME]
 |[],n+1=>by simp [qH,aME]
 |x::l,0=>by simp [qH,aME]
 |x::l,n+1=>by
  rw [show qH tt iJ (n+1) (x::l)=qH tt iJ (n+iJ x) l from rfl,aRt l (n+iJ x),show aME (n+1) (x::l)=(aME (n+iJ x) l).map (·+1) from rfl]
  generalize aME (n+iJ x) l=o
  cases o with
  |none=>simp
  |some k=>simp
theorem end_any {d:Definition} (hl:d.Body.length < 1000000000):∀ (l pre:List Part) (n:Nat),d.Body=pre++l->n<=2 * pre.length+1->
  (ob (loop (fun s=>iI d s.1 s.2) ((pre.length:Int),(n:Int))) fun r=>match r with|.inl r=>pD r|.inr r=>some r)=some (match aME n l with|some k=>((pre.length+k:Nat):Int)|none=>-1):=by
 intro l
 induction l with
 |nil=>
  intro pre n he hn
  rw [aQ]
  match n with
  |0=>rfl
  |n+1=>
   have hp:pre.length=d.Body.length:=by rw [he];simp
   simp only [iI,aME,hp]
   rw [if_pos (by simp<;>omega),if_pos (by simp)]
   rfl
 |cons x l ih=>
  intro pre n he hn
  match n with
  |0=>rw [bA (r:=.inl (pre.length:Int)) rfl];rfl
  |n+1=>
   have hp:pre.length < d.Body.length:=by rw [he];simp
   have hi:ix d.Body (pre.length:Int)=some x:=by rw [gK,he];simp
   have ha:=aMD x
   have h2:wr (((n+1:Nat):Int)+wr ((iJ x:Int) - 1))=((n+iJ x:Nat):Int):=by unfold wr;omega
   have h3:decide ((d.Body.length:Int)<=(pre.length:Int))=false:=by simp;omega
   have h4:decide ((0:Int) < ((n+1:Nat):Int))=true:=by simp<;>omega
   have hst:iI d (pre.length:Int) ((n+1:Nat):Int)=some (.inl (((pre.length+1:Nat):Int),((n+iJ x:Nat):Int))):=by
    simp only [iI,h3,h4,if_true,Bool.false_eq_true,if_false,hi,aA,aEx,h2,aV hp (show d.Body.length < 4611686018427387904 by omega)]
   have:=ih (pre++[x]) (n+iJ x) (by rw [he];simp) (by simp;omega)
   rw [show ((pre++[x]).length:Int)=((pre.length+1:Nat):Int) by simp,show (pre++[x]).length=pre.length+1 by simp] at this
   rw [fD hst,this,show aME (n+1) (x::l)=(aME (n+iJ x) l).map (·+1) from rfl]
   generalize aME (n+iJ x) l=o
   cases o with
   |none=>rfl
   |some k=>simp only [Option.map_some];congr 2;omega
theorem aTX {d:Definition} (hl:d.Body.length < 1000000000):∃ r,kI d 0=some r/\(r != (d.Body.length:Int))=!qH tt iJ 1 d.Body:=by
 have:=end_any hl d.Body [] 1 rfl (by simp)
 refine ⟨_,this,?_⟩
 rw [aRt]
 generalize aME 1 d.Body=o
 cases o with
 |none=>simp<;>omega
 |some k=>
  simp only [Nat.zero_add,List.length_nil,Option.some.injEq]
  by_cases hk:k=d.Body.length
  ·simp [hk]
  ·have h1:((k:Int) != (d.Body.length:Int))=true:=by simp;omega
   rw [h1];simp [hk]
theorem end_at {d:Definition} (hl:d.Body.length < 1000000000) (t:GTr Part) (pre post:List Part) (he:d.Body=pre++t.flat++post) (hw:t.WF iJ):kI d (pre.length:Int)=some ((pre.length+t.flat.length:Nat):Int)/\aFT d.Body (pre.length:Int)=some ((pre.length+t.flat.length:Nat):Int):=by
 have hwr:∀ (n:Nat) (x:Part),n<=d.Body.length->wr (((n+1:Nat):Int)+wr ((iJ x:Int) - 1))=((n+iJ x:Nat):Int):=fun n x h=>by have:=aMD x;unfold wr;omega
 constructor
 ·unfold kI
  have:=aPZ (step:=fun s=>iI d s.1 s.2) (e:=d.Body) (ar:=iJ) (fun k=>(.inl k:Int ⊕ Int)) (fun pre x post n he hn=>?_) (fun k=>?_) _ [t] pre post rfl (by simpa using he) (by simpa using hw)
  ·simp only [List.length_singleton,Int.natCast_one] at this
   rw [this]
   simp [pD]
  ·have hp:pre.length < d.Body.length:=by rw [he];simp
   have hi:ix d.Body (pre.length:Int)=some x:=by rw [gK,he];simp
   have h3:decide ((d.Body.length:Int)<=(pre.length:Int))=false:=by simp;omega
   simp only [iI,hi,aA,aEx,hwr n x hn,aV hp (show d.Body.length < 4611686018427387904 by omega)]
   rw [if_pos (by simp<;>omega),h3]
   rfl
  ·rfl
 ·unfold aFT
  have:=aPZ (step:=fun s=>aIr d.Body s.1 s.2) (e:=d.Body) (ar:=iJ) (fun k=>k) (fun pre x post n he hn=>?_) (fun k=>?_) _ [t] pre post rfl (by simpa using he) (by simpa using hw)
  ·simp only [List.length_singleton,Int.natCast_one] at this
   rw [this]
   simp [aIq]
  ·have hp:pre.length < d.Body.length:=by rw [he];simp
   have hi:ix d.Body (pre.length:Int)=some x:=by rw [gK,he];simp
   simp only [aIr,hi,aA,aHt,hwr n x hn,aV hp (show d.Body.length < 4611686018427387904 by omega)]
   rw [if_pos (by simp<;>omega)]
  ·rfl
def bel (s:Int) (p:Part):Int:=if p.Kind == 4 then s+1 else s
def plT (s:Int) (b:Bool):GTr Part->List dJ
 |.nul _=>[⟨s,b⟩]
 |.one p a=>⟨s,b⟩::plT (bel s p) (p.Kind == 1) a
 |.two p a c=>⟨s,b⟩::(plT (bel s p) (p.Kind == 1) a++plT (bel s p) (p.Kind == 1) c)
theorem pK:∀ (t:GTr Part) (s:Int) (b:Bool),(plT s b t).length=t.flat.length
 |.nul _,_,_=>rfl
 |.one p a,s,b=>by simp only [plT,GTr.flat,List.length_cons,pK a]
 |.two p a c,s,b=>by simp only [plT,GTr.flat,List.length_cons,List.length_append,pK a,pK c]
theorem aNz (s:Int) (p:Part):s<=bel s p/\bel s p<=s+1:=by unfold bel;split<;>omega
theorem fill_eq {d:Definition} (hl:d.Body.length < 1000000000):∀ (t:GTr Part) (m:Nat) (s:Int) (b:Bool) (pre post:List Part) (X old Y:List dJ),d.Body=pre++t.flat++post->X.length=pre.length->old.length=t.flat.length->t.flat.length<=m->t.WF iJ->0<=s->s<=1000000000 - t.flat.length->
  cF m (pre.length:Int) ⟨s,b⟩ (X++old++Y) d d=some (((pre.length+t.flat.length:Nat):Int),X++plT s b t++Y):=by
 intro t
 induction t with
 |nul p=>
  intro m s b pre post X old Y he hX ho hm hw h0 hs
  match m with
  |0=>simp [GTr.flat] at hm
  |m+1=>
   have hw:iJ p=0:=hw
   match old,ho with
   |[o],_=>
    have hi:ix d.Body (pre.length:Int)=some p:=by rw [gK,he];simp [GTr.flat]
    have hix:ix (X++[o]++Y) (pre.length:Int)=some o:=by rw [gK,←hX];simp
    have hst:st (X++[o]++Y) (pre.length:Int) (⟨s,b⟩:dJ)=some (X++[⟨s,b⟩]++Y):=by rw [←hX,oO _ (by simp)];simp
    have hp:pre.length < d.Body.length:=by rw [he];simp [GTr.flat]
    show dP (cF m) _ _ _ _ _=_
    unfold dP
    simp only [hix,aA,hst,hi]
    have hj:∀ z:Int,cR (cF m) (pre.length:Int) d (X++[⟨s,b⟩]++Y) p z=some (((pre.length+1:Nat):Int),X++[⟨s,b⟩]++Y):=fun z=>by
     unfold cR
     rw [aEx,aA,hw,aV hp (by omega),aQ]
     rfl
    split
    ·exact hj _
    ·exact hj _
 |one p a iha=>
  intro m s b pre post X old Y he hX ho hm hw h0 hs
  match m with
  |0=>simp [GTr.flat] at hm
  |m+1=>
   have hw1:iJ p=1:=hw.1
   simp only [GTr.flat,List.length_cons] at ho hm hs
   match old,ho with
   |o::old,ho=>
    simp only [List.length_cons] at ho
    have hb:=aNz s p
    have hi:ix d.Body (pre.length:Int)=some p:=by rw [gK,he];simp [GTr.flat]
    have hix:ix (X++(o::old)++Y) (pre.length:Int)=some o:=by rw [gK,←hX];simp
    have hst:st (X++(o::old)++Y) (pre.length:Int) (⟨s,b⟩:dJ)=some ((X++[⟨s,b⟩])++old++Y):=by rw [←hX,oO _ (by simp)];simp
    have hp:pre.length < d.Body.length:=by rw [he];simp [GTr.flat]
    have ra:=iha m (bel s p) (p.Kind == 1) (pre++[p]) post (X++[⟨s,b⟩]) old Y (by rw [he];simp [GTr.flat]) (by simp [hX]) (by omega) (by omega) hw.2 (by omega) (by omega)
    rw [show ((pre++[p]).length:Int)=((pre.length+1:Nat):Int) by simp,show (pre++[p]).length=pre.length+1 by simp] at ra
    show dP (cF m) _ _ _ _ _=_
    unfold dP
    simp only [hix,aA,hst,hi]
    have hj:cR (cF m) (pre.length:Int) d ((X++[⟨s,b⟩])++old++Y) p (bel s p)=some (((pre.length+(GTr.one p a).flat.length:Nat):Int),X++plT s b (.one p a)++Y):=by
     unfold cR
     rw [aEx,aA,hw1,aV hp (by omega),aQ]
     simp only [eT,show decide ((0:Int) < ((1:Nat):Int))=true from rfl,if_true,ra,aA,show wr (0+1)=1 from rfl]
     rw [aQ]
     simp only [eT,show decide ((1:Int) < ((1:Nat):Int))=false from rfl,Bool.false_eq_true,if_false,aA,kD,plT,GTr.flat,List.length_cons]
     simp;omega
    split
    ·rename_i h4
     rw [eG (by omega) (by omega),show s+1=bel s p by simp [bel,h4]]
     exact hj
    ·rename_i h4
     have:bel s p=s:=by unfold bel;rw [if_neg h4]
     rw [this] at hj
     exact hj
 |two p a c iha ihc=>
  intro m s b pre post X old Y he hX ho hm hw h0 hs
  match m with
  |0=>simp [GTr.flat] at hm
  |m+1=>
   have hw1:iJ p=2:=hw.1
   simp only [GTr.flat,List.length_cons,List.length_append] at ho hm hs
   match old,ho with
   |o::old,ho=>
    simp only [List.length_cons] at ho
    have hb:=aNz s p
    have ho1:old=old.take a.flat.length++old.drop a.flat.length:=(List.take_append_drop _ _).symm
    have hi:ix d.Body (pre.length:Int)=some p:=by rw [gK,he];simp [GTr.flat]
    have hix:ix (X++(o::old)++Y) (pre.length:Int)=some o:=by rw [gK,←hX];simp
    have hst:st (X++(o::old)++Y) (pre.length:Int) (⟨s,b⟩:dJ)=some ((X++[⟨s,b⟩])++old++Y):=by rw [←hX,oO _ (by simp)];simp
    have hp:pre.length < d.Body.length:=by rw [he];simp [GTr.flat]
    have ra:=iha m (bel s p) (p.Kind == 1) (pre++[p]) (c.flat++post) (X++[⟨s,b⟩]) (old.take a.flat.length) (old.drop a.flat.length++Y) (by rw [he];simp [GTr.flat]) (by simp [hX]) (by rw [List.length_take];omega) (by omega) hw.2.1 (by omega) (by omega)
    have rc:=ihc m (bel s p) (p.Kind == 1) (pre++[p]++a.flat) post (X++[⟨s,b⟩]++plT (bel s p) (p.Kind == 1) a) (old.drop a.flat.length) Y (by rw [he];simp [GTr.flat]) (by simp [hX,pK]) (by rw [List.length_drop];omega) (by omega) hw.2.2 (by omega) (by omega)
    rw [show ((pre++[p]).length:Int)=((pre.length+1:Nat):Int) by simp,show (pre++[p]).length=pre.length+1 by simp] at ra
    rw [show (pre++[p]++a.flat).length=pre.length+1+a.flat.length by simp;omega] at rc
    have hold:(X++[⟨s,b⟩])++old++Y=(X++[⟨s,b⟩])++old.take a.flat.length++(old.drop a.flat.length++Y):=by
     have:old++Y=old.take a.flat.length++(old.drop a.flat.length++Y):=by rw [←List.append_assoc,List.take_append_drop]
     rw [List.append_assoc,this,List.append_assoc]
     simp
    rw [←List.append_assoc] at ra
    show dP (cF m) _ _ _ _ _=_
    unfold dP
    simp only [hix,aA,hst,hi]
    have hj:cR (cF m) (pre.length:Int) d ((X++[⟨s,b⟩])++old++Y) p (bel s p)=some (((pre.length+(GTr.two p a c).flat.length:Nat):Int),X++plT s b (.two p a c)++Y):=by
     unfold cR
     rw [aEx,aA,hw1,aV hp (by omega),aQ,hold]
     simp only [eT,show decide ((0:Int) < ((2:Nat):Int))=true from rfl,if_true]
     rw [←List.append_assoc,ra,aA]
     simp only [show wr (0+1)=1 from rfl]
     rw [aQ]
     simp only [eT,show decide ((1:Int) < ((2:Nat):Int))=true from rfl,if_true]
     rw [←List.append_assoc,rc,aA]
     simp only [show wr (1+1)=2 from rfl]
     rw [aQ]
     simp only [eT,show decide ((2:Int) < ((2:Nat):Int))=false from rfl,Bool.false_eq_true,if_false,aA,kD,plT,GTr.flat,List.length_cons,List.length_append]
     simp;omega
    split
    ·rename_i h4
     rw [eG (by omega) (by omega),show s+1=bel s p by simp [bel,h4]]
     exact hj
    ·rename_i h4
     have:bel s p=s:=by unfold bel;rw [if_neg h4]
     rw [this] at hj
     exact hj
theorem placesG {d:Definition} {t:GTr Part} (he:d.Body=t.flat) (hw:t.WF iJ) (hl:d.Body.length<=20) (h0:0<=d.Parameters) (h1:d.Parameters<=3):lP d=some (plT d.Parameters false t):=by
 unfold lP rI
 rw [aSq _ (by unfold fG;omega),aA]
 have:=fill_eq (d:=d) (by omega) t 100000 d.Parameters false [] [] [] (List.replicate d.Body.length ⟨0,false⟩) [] (by rw [he];simp) rfl (by rw [List.length_replicate,he]) (by rw [←he];omega) hw h0 (by rw [←he];omega)
 simp only [List.length_nil,List.nil_append,List.append_nil] at this
 rw [show ((0:Nat):Int)=0 from rfl] at this
 rw [this,aA]
section
variable {d:Definition} {part:Int} (hl:d.Body.length < 1000000000)
include hl
theorem aEy (t:GTr Part) (p:Part) (rest pre post:List Part) (out:Int) (he:d.Body=pre++t.flat++post) (hp:t.flat=p::rest) (hw:t.WF iJ) (hlt:(pre.length:Int) < part) (ho:wr (out+1)=out+1):
  kR d part out (pre.length:Int)=some (.inl (if p.Kind == 4&&decide (part < ((pre.length+t.flat.length:Nat):Int)) then out+1 else out,((pre.length+1:Nat):Int))):=by
 have hi:ix d.Body (pre.length:Int)=some p:=by rw [gK,he,hp];simp
 have hpl:pre.length < d.Body.length:=by rw [he,hp];simp
 unfold kR
 rw [if_pos (by simpa using hlt),hi,aA]
 unfold aBs vN
 rw [aV hpl (by omega)]
 by_cases h4:(p.Kind == 4)=true
 ·rw [if_pos h4,(end_at hl t pre post he hw).2,aA,h4,Bool.true_and,ho]
  split<;>rfl
 ·rw [if_neg h4]
  have:(p.Kind == 4)=false:=by simpa using h4
  rw [this]
  rfl
theorem scope_seg:∀ (t:GTr Part) (pre post:List Part) (out:Int),d.Body=pre++t.flat++post->t.WF iJ->((pre.length+t.flat.length:Nat):Int)<=part->wr (out+1)=out+1->
  loop (fun s=>kR d part s.1 s.2) (out,(pre.length:Int))=loop (fun s=>kR d part s.1 s.2) (out,((pre.length+t.flat.length:Nat):Int)):=by
 intro t
 induction t with
 |nul p=>
  intro pre post out he hw hle ho
  rw [fD (aEy hl (.nul p) p [] pre post out he rfl hw (by simp [GTr.flat] at hle;omega) ho),if_neg (by simp only [Bool.and_eq_true,decide_eq_true_eq];omega)]
  rfl
 |one p a iha=>
  intro pre post out he hw hle ho
  rw [fD (aEy hl (.one p a) p a.flat pre post out he rfl hw (by simp [GTr.flat] at hle;omega) ho),if_neg (by simp only [Bool.and_eq_true,decide_eq_true_eq];omega)]
  have:=iha (pre++[p]) post out (by rw [he];simp [GTr.flat]) hw.2 (by simp [GTr.flat] at hle ⊢;omega) ho
  rw [show ((pre++[p]).length:Int)=((pre.length+1:Nat):Int) by simp,show (pre++[p]).length=pre.length+1 by simp] at this
  rw [this]
  congr 2
  simp [GTr.flat];omega
 |two p a c iha ihc=>
  intro pre post out he hw hle ho
  rw [fD (aEy hl (.two p a c) p (a.flat++c.flat) pre post out he rfl hw (by simp [GTr.flat] at hle;omega) ho),if_neg (by simp only [Bool.and_eq_true,decide_eq_true_eq];omega)]
  have h1:=iha (pre++[p]) (c.flat++post) out (by rw [he];simp [GTr.flat]) hw.2.1 (by simp [GTr.flat] at hle ⊢;omega) ho
  have h2:=ihc (pre++[p]++a.flat) post out (by rw [he];simp [GTr.flat]) hw.2.2 (by simp [GTr.flat] at hle ⊢;omega) ho
  rw [show ((pre++[p]).length:Int)=((pre.length+1:Nat):Int) by simp,show (pre++[p]).length=pre.length+1 by simp] at h1
  rw [show (pre++[p]++a.flat).length=pre.length+1+a.flat.length by simp;omega] at h2
  rw [h1,h2]
  congr 2
  simp [GTr.flat];omega
theorem scope_at:∀ (t:GTr Part) (pre post:List Part) (s:Int) (b:Bool) (i:Nat) (pl:dJ),d.Body=pre++t.flat++post->t.WF iJ->0<=s->s<=1000000000 - t.flat.length->(plT s b t)[i]?=some pl->part=((pre.length+i:Nat):Int)->
  loop (fun s=>kR d part s.1 s.2) (s,(pre.length:Int))=some pl.scope:=by
 intro t
 have stop:∀ s:Int,loop (fun s=>kR d part s.1 s.2) (s,part)=some s:=fun s=>by
  rw [aQ]
  unfold kR
  rw [if_neg (by simp)]
 induction t with
 |nul p=>
  intro pre post s b i pl he hw h0 hs hpl hpt
  match i with
  |0=>
   simp only [plT,List.getElem?_cons_zero,Option.some.injEq] at hpl
   subst hpl
   rw [Nat.add_zero] at hpt
   rw [←hpt];exact stop s
  |i+1=>simp [plT] at hpl
 |one p a iha=>
  intro pre post s b i pl he hw h0 hs hpl hpt
  match i with
  |0=>
   simp only [plT,List.getElem?_cons_zero,Option.some.injEq] at hpl
   subst hpl
   rw [Nat.add_zero] at hpt
   rw [←hpt];exact stop s
  |i+1=>
   simp only [plT,List.getElem?_cons_succ] at hpl
   have hi:i < a.flat.length:=by have:=(List.getElem?_eq_some_iff.1 hpl).1;rwa [pK] at this
   have hsz:(GTr.one p a).flat.length=a.flat.length+1:=rfl
   have hb:=aNz s p
   rw [fD (aEy hl (.one p a) p a.flat pre post s he rfl hw (by omega) (eG (by omega) (by omega)))]
   have e:(if (p.Kind == 4&&decide (part < ((pre.length+(GTr.one p a).flat.length:Nat):Int)))=true then s+1 else s)=bel s p:=by
    have:decide (part < ((pre.length+(GTr.one p a).flat.length:Nat):Int))=true:=by rw [hsz];simp;omega
    rw [this,Bool.and_true];rfl
   rw [e]
   have:=iha (pre++[p]) post (bel s p) (p.Kind == 1) i pl (by rw [he];simp [GTr.flat]) hw.2 (by omega) (by omega) hpl (by rw [hpt];simp;omega)
   rw [show ((pre++[p]).length:Int)=((pre.length+1:Nat):Int) by simp] at this
   exact this
 |two p a c iha ihc=>
  intro pre post s b i pl he hw h0 hs hpl hpt
  match i with
  |0=>
   simp only [plT,List.getElem?_cons_zero,Option.some.injEq] at hpl
   subst hpl
   rw [Nat.add_zero] at hpt
   rw [←hpt];exact stop s
  |i+1=>
   simp only [plT,List.getElem?_cons_succ] at hpl
   have hi:i < a.flat.length+c.flat.length:=by have:=(List.getElem?_eq_some_iff.1 hpl).1;rwa [List.length_append,pK,pK] at this
   have hsz:(GTr.two p a c).flat.length=a.flat.length+c.flat.length+1:=by simp [GTr.flat]
   have hb:=aNz s p
   rw [fD (aEy hl (.two p a c) p (a.flat++c.flat) pre post s he rfl hw (by omega) (eG (by omega) (by omega)))]
   have e:(if (p.Kind == 4&&decide (part < ((pre.length+(GTr.two p a c).flat.length:Nat):Int)))=true then s+1 else s)=bel s p:=by
    have:decide (part < ((pre.length+(GTr.two p a c).flat.length:Nat):Int))=true:=by rw [hsz];simp;omega
    rw [this,Bool.and_true];rfl
   rw [e]
   by_cases hia:i < a.flat.length
   ·rw [List.getElem?_append_left (by rw [pK];exact hia)] at hpl
    have:=iha (pre++[p]) (c.flat++post) (bel s p) (p.Kind == 1) i pl (by rw [he];simp [GTr.flat]) hw.2.1 (by omega) (by omega) hpl (by rw [hpt];simp;omega)
    rw [show ((pre++[p]).length:Int)=((pre.length+1:Nat):Int) by simp] at this
    exact this
   ·rw [List.getElem?_append_right (by rw [pK];omega),pK] at hpl
    have h1:=scope_seg hl (part:=part) a (pre++[p]) (c.flat++post) (bel s p) (by rw [he];simp [GTr.flat]) hw.2.1 (by rw [hpt];simp;omega) (eG (by omega) (by omega))
    have h2:=ihc (pre++[p]++a.flat) post (bel s p) (p.Kind == 1) (i - a.flat.length) pl (by rw [he];simp [GTr.flat]) hw.2.2 (by omega) (by omega) hpl (by rw [hpt];simp;omega)
    rw [show ((pre++[p]).length:Int)=((pre.length+1:Nat):Int) by simp,show (pre++[p]).length=pre.length+1 by simp] at h1
    rw [show (pre++[p]++a.flat).length=pre.length+1+a.flat.length by simp;omega] at h2
    rw [h1];exact h2
end
theorem scope_eq {d:Definition} {t:GTr Part} (he:d.Body=t.flat) (hw:t.WF iJ) (hl:d.Body.length<=20) (h0:0<=d.Parameters) (h1:d.Parameters<=3) {i:Nat} {pl:dJ} (hpl:(plT d.Parameters false t)[i]?=some pl):aAR d (i:Int)=some pl.scope:=by
 unfold aAR
 have:=scope_at (d:=d) (part:=(i:Int)) (by omega) t [] [] d.Parameters false i pl (by rw [he];simp) hw h0 (by rw [←he];omega) hpl (by simp)
 simp only [List.length_nil] at this
 rw [show ((0:Nat):Int)=0 from rfl] at this
 rw [this];rfl
theorem aNA:∀ (t:GTr Part),t.WF iJ->∃ l x,t.flat=l++[x]/\iJ x=0
 |.nul p,hw=>⟨[],p,rfl,hw⟩
 |.one p a,hw=>by
  obtain ⟨l,x,h1,h2⟩:=aNA a hw.2
  exact ⟨p::l,x,by simp [GTr.flat,h1],h2⟩
 |.two p a c,hw=>by
  obtain ⟨l,x,h1,h2⟩:=aNA c hw.2.2
  exact ⟨p::(a.flat++l),x,by simp [GTr.flat,h1],h2⟩
theorem aNB {p:Part}:(p.Kind=1->iJ p=1)/\(iJ p=2->p.Kind=2):=by
 unfold iJ
 constructor
 ·intro h;simp [h]
 ·intro h
  by_cases h1:(p.Kind == 1||p.Kind == 3||p.Kind == 4)=true
  ·rw [if_pos h1] at h;omega
  ·rw [if_neg h1] at h
   by_cases h2:(p.Kind == 2)=true
   ·simpa using h2
   ·rw [if_neg h2] at h;omega
theorem behind_eq:∀ (t:GTr Part) (s:Int) (b:Bool) (i:Nat) (pl:dJ),t.WF iJ->(plT s b t)[i]?=some pl->pl.behind=if i=0 then b else match t.flat[i - 1]? with|some q=>q.Kind == 1|none=>false:=by
 intro t
 induction t with
 |nul p=>
  intro s b i pl hw h
  match i with
  |0=>simp only [plT,List.getElem?_cons_zero,Option.some.injEq] at h;subst h;rfl
  |i+1=>simp [plT] at h
 |one p a iha=>
  intro s b i pl hw h
  match i with
  |0=>simp only [plT,List.getElem?_cons_zero,Option.some.injEq] at h;subst h;rfl
  |i+1=>
   simp only [plT,List.getElem?_cons_succ] at h
   have:=iha _ _ i pl hw.2 h
   rw [this,if_neg (Nat.succ_ne_zero i),Nat.add_sub_cancel]
   match i with
   |0=>simp [GTr.flat]
   |i+1=>simp [GTr.flat]
 |two p a c iha ihc=>
  intro s b i pl hw h
  match i with
  |0=>simp only [plT,List.getElem?_cons_zero,Option.some.injEq] at h;subst h;rfl
  |i+1=>
   simp only [plT,List.getElem?_cons_succ] at h
   rw [if_neg (by omega),Nat.add_sub_cancel]
   by_cases hia:i < a.flat.length
   ·rw [List.getElem?_append_left (by rw [pK];exact hia)] at h
    have:=iha _ _ i pl hw.2.1 h
    rw [this]
    match i with
    |0=>simp [GTr.flat]
    |i+1=>
     have:(GTr.two p a c).flat[i+1]?=a.flat[i]?:=by
      simp only [GTr.flat,List.getElem?_cons_succ]
      rw [List.getElem?_append_left (by omega)]
     rw [this];simp
   ·rw [List.getElem?_append_right (by rw [pK];omega),pK] at h
    have:=ihc _ _ _ pl hw.2.2 h
    rw [this]
    by_cases hz:i - a.flat.length=0
    ·rw [if_pos hz]
     have hi:i=a.flat.length:=by omega
     have hk2:=aNB.2 hw.1
     obtain ⟨l,x,h1,h2⟩:=aNA a hw.2.1
     have:(GTr.two p a c).flat[i]?=some x:=by
      simp only [GTr.flat]
      rw [hi,h1]
      simp
     rw [this,hk2]
     have hx:(x.Kind == 1)=false:=by
      by_cases h:x.Kind=1
      ·have:=aNB.1 h;omega
      ·simpa using h
     simp [hx]
    ·rw [if_neg hz]
     have:(GTr.two p a c).flat[i]?=c.flat[i - a.flat.length - 1]?:=by
      obtain ⟨j,rfl⟩:∃ j,i=j+1:=⟨i - 1,by omega⟩
      simp only [GTr.flat,List.getElem?_cons_succ]
      rw [List.getElem?_append_right (by omega)]
      congr 1;omega
     rw [this]
end Gv
namespace Gv
def zL {β:Type} (z:β->Nat) (a:List β):Nat:=a.length+(a.map z).sum
theorem sum_mem {n:Nat}:∀ {l:List Nat},n∈l->n<=l.sum
 |a::l,h=>by
  rw [List.sum_cons]
  rcases List.mem_cons.1 h with rfl|h
  ·omega
  ·have:=sum_mem h;omega
theorem aLi {β:Type} {z:β->Nat} {a:List β} {x:β} (h:x∈a):z x<=zL z a:=by
 unfold zL
 have:z x<=(a.map z).sum:=sum_mem (List.mem_map.2 ⟨x,h,rfl⟩)
 omega
theorem aLj {β:Type} {z:β->Nat} {a:List β}:a.length<=zL z a:=by unfold zL;omega
theorem szL {β:Type} {f:β->Int->Option Int} {z:β->Nat} {step:(Int × Int)->Option ((Int × Int) ⊕ (Int ⊕ Int))} {a:List β} {left:Int} (h0:0<=left) (hl:left<=sz) (ha:a.length < 9223372036854775808)
  (hf:∀ x∈a,∀ l:Int,0<=l->l<=sz->∃ r,f x l=some r/\(0<=r->r=l - z x))
  (hs:∀ (k:Nat) (l:Int) x,k < a.length->a.length<=sz->ix a (k:Int)=some x->step (l,(k:Int))=ob (f x l) fun r=>if decide (r < 0)=true then some (.inr (.inr (-1))) else some (.inl (r,((k+1:Nat):Int))))
  (hs':∀ l,step (l,(a.length:Int))=some (.inr (.inl l))):
  ∃ r,(if (decide (wr (left - (a.length:Int)) < 0)) then (some (-1)) else (ob (loop step (wr (left - (a.length:Int)),0)) fun r=>match r with|.inl r=>some r|.inr r=>some r))=some r/\(0<=r->r=left - zL z a):=by
 have e1:wr (left - (a.length:Int))=left - (a.length:Int):=by unfold wr;unfold sz at hl;omega
 rw [e1]
 by_cases hneg:left - (a.length:Int) < 0
 ·exact ⟨-1,by rw [if_pos (by simpa using hneg)],by omega⟩
 rw [if_neg (by simpa using hneg)]
 have hal:a.length<=sz:=by omega
 have hL:=yU (step:=step) (fun s=>0<=s.1/\0<=s.2/\s.2<=a.length/\s.1=left - a.length - ((a.take s.2.toNat).map z).sum) (fun s=>a.length - s.2.toNat) (fun r=>r=.inr (-1)\/∃ l,r=.inl l/\l=left - zL z a) (fun s hI=>?_) (s:=(left - (a.length:Int),0)) ⟨by simp only;omega,by simp,by simp,by simp⟩
 ·obtain ⟨r,hr,hR⟩:=hL
  rw [hr,aA]
  rcases hR with rfl|⟨l,rfl,h1⟩
  ·exact ⟨-1,rfl,by omega⟩
  ·exact ⟨l,rfl,fun _=>h1⟩
 ·obtain ⟨l,i⟩:=s
  obtain ⟨h1,h3,h4,h5⟩:=hI
  simp only at h1 h3 h4 h5 ⊢
  obtain ⟨k,rfl⟩:∃ k:Nat,i=(k:Int):=⟨i.toNat,by omega⟩
  by_cases hk:k < a.length
  ·have hx:ix a (k:Int)=some a[k]:=by rw [gK];simp [hk]
   obtain ⟨r,hr,hok⟩:=hf a[k] (List.getElem_mem hk) l h1 (by omega)
   rw [hs k l _ hk hal hx,hr,aA]
   by_cases hn:r < 0
   ·right;rw [if_pos (by simpa using hn)];exact ⟨_,rfl,.inl rfl⟩
   ·left
    rw [if_neg (by simpa using hn)]
    have g1:=hok (by omega)
    refine ⟨_,rfl,⟨by simp only;omega,by simp only;omega,by simp only;omega,?_⟩,by simp only;omega⟩
    simp only [Int.toNat_natCast] at h5 ⊢
    rw [List.take_add_one,List.map_append,List.sum_append]
    rw [List.map_take] at h5
    simp [hk]
    omega
  ·obtain rfl:k=a.length:=by omega
   right
   rw [hs' l]
   refine ⟨_,rfl,.inr ⟨l,rfl,?_⟩⟩
   simp at h5
   unfold zL
   omega
def aOb (p:Part):Nat:=p.Name.length+zL List.length p.Arguments
def zDef (d:Definition):Nat:=d.Name.length+zL aOb d.Body
def aQa (m:aT):Nat:=m.Left.length+m.Right.length+m.Result.length
def aQb (c:aZ):Nat:=c.Values.length
def zSys (s:aR):Nat:=zL zDef s.Definitions+zL aQb s.Components+zL aQa s.Meetings+zL List.length s.Allowed+zL List.length s.Hidden
def aEz (n:Nat) (p:Part):Prop:=p.Name.length<=n/\p.Arguments.length<=n/\∀ e∈p.Arguments,e.length<=n
def aFm (n:Nat) (d:Definition):Prop:=d.Name.length<=n/\d.Body.length<=n/\∀ p∈d.Body,aEz n p
def aSB (n:Nat) (m:aT):Prop:=m.Left.length<=n/\m.Right.length<=n/\m.Result.length<=n
structure aMF (n:Nat) (s:aR):Prop where
 defs:s.Definitions.length<=n
 dfn:∀ d∈s.Definitions,aFm n d
 comps:s.Components.length<=n
 comp:∀ c∈s.Components,c.Values.length<=n
 meets:s.Meetings.length<=n
 meet:∀ m∈s.Meetings,aSB n m
 alls:s.Allowed.length<=n
 all:∀ t∈s.Allowed,t.length<=n
 hids:s.Hidden.length<=n
 hid:∀ t∈s.Hidden,t.length<=n
theorem aSC {a:List aP} {left:Int} (h0:0<=left) (hl:left<=sz) (ha:a.length < 9223372036854775808):∃ r,aFR a left=some r/\(0<=r->r=left - a.length):=by
 unfold aFR
 have e1:wr (left - (a.length:Int))=left - (a.length:Int):=by unfold wr;unfold sz at hl;omega
 rw [e1]
 by_cases n1:left - (a.length:Int) < 0
 ·exact ⟨-1,by rw [if_pos (by simpa using n1)],by omega⟩
 ·exact ⟨_,by rw [if_neg (by simpa using n1)],fun _=>rfl⟩
theorem aQM {a:List (List aP)} {left:Int} (h0:0<=left) (hl:left<=sz) (ha:a.length < 9223372036854775808) (hx:∀ e∈a,e.length < 9223372036854775808):∃ r,aGI a left=some r/\(0<=r->r=left - zL List.length a):=by
 refine szL (f:=aFR) (step:=fun s=>aBq a s.1 s.2) h0 hl ha (fun x hm l g0 g1=>aSC g0 g1 (hx x hm)) (fun k l x hk hz hx=>?_) (fun l=>?_)
 ·simp only [aBq,aY hk,if_true,hx,aA,aV hk (show a.length < 4611686018427387904 by unfold sz at hz;omega)]
 ·simp only [aBq,bE];rfl
theorem aTZ {p:Part} {left:Int} (h0:0<=left) (hl:left<=sz) (hp:aEz 9223372036854775807 p):∃ r,aIo p left=some r/\(0<=r->r=left - aOb p):=by
 obtain ⟨g1,g2,g3⟩:=hp
 have hl':=hl
 unfold sz at hl'
 unfold aIo aOb
 have e1:wr (left - (p.Name.length:Int))=left - (p.Name.length:Int):=by unfold wr;omega
 rw [e1]
 by_cases n1:left - (p.Name.length:Int) < 0
 ·exact ⟨-1,by rw [if_pos (by simpa using n1)],by omega⟩
 rw [if_neg (by simpa using n1)]
 obtain ⟨r,hr,h1⟩:=aQM (a:=p.Arguments) (left:=left - p.Name.length) (by omega) (by omega) (by omega) (fun e he=>by have:=g3 e he;omega)
 rw [hr,aA]
 by_cases n2:r < 0
 ·exact ⟨-1,by rw [if_pos (by simpa using n2)],by omega⟩
 ·refine ⟨r,by rw [if_neg (by simpa using n2)],fun h=>?_⟩
  have:=h1 h
  omega
theorem aSD {a:List Part} {left:Int} (h0:0<=left) (hl:left<=sz) (ha:a.length < 9223372036854775808) (hx:∀ p∈a,aEz 9223372036854775807 p):∃ r,aJA a left=some r/\(0<=r->r=left - zL aOb a):=by
 refine szL (f:=aIo) (step:=fun s=>aCD a s.1 s.2) h0 hl ha (fun x hm l g0 g1=>aTZ g0 g1 (hx x hm)) (fun k l x hk hz hx=>?_) (fun l=>?_)
 ·simp only [aCD,aY hk,if_true,hx,aA,aV hk (show a.length < 4611686018427387904 by unfold sz at hz;omega)]
 ·simp only [aCD,bE];rfl
theorem aMG {p:Definition} {left:Int} (h0:0<=left) (hl:left<=sz) (hp:aFm 9223372036854775807 p):∃ r,tC p left=some r/\(0<=r->r=left - zDef p):=by
 obtain ⟨g1,g2,g3⟩:=hp
 have hl':=hl
 unfold sz at hl'
 unfold tC zDef
 have e1:wr (left - (p.Name.length:Int))=left - (p.Name.length:Int):=by unfold wr;omega
 rw [e1]
 by_cases n1:left - (p.Name.length:Int) < 0
 ·exact ⟨-1,by rw [if_pos (by simpa using n1)],by omega⟩
 rw [if_neg (by simpa using n1)]
 obtain ⟨r,hr,h1⟩:=aSD (a:=p.Body) (left:=left - p.Name.length) (by omega) (by omega) (by omega) g3
 rw [hr,aA]
 by_cases n2:r < 0
 ·exact ⟨-1,by rw [if_pos (by simpa using n2)],by omega⟩
 ·refine ⟨r,by rw [if_neg (by simpa using n2)],fun h=>?_⟩
  have:=h1 h
  omega
theorem aLk {a:List Definition} {left:Int} (h0:0<=left) (hl:left<=sz) (ha:a.length < 9223372036854775808) (hx:∀ p∈a,aFm 9223372036854775807 p):∃ r,wU a left=some r/\(0<=r->r=left - zL zDef a):=by
 refine szL (f:=tC) (step:=fun s=>qX a s.1 s.2) h0 hl ha (fun x hm l g0 g1=>aMG g0 g1 (hx x hm)) (fun k l x hk hz hx=>?_) (fun l=>?_)
 ·simp only [qX,aY hk,if_true,hx,aA,aV hk (show a.length < 4611686018427387904 by unfold sz at hz;omega)]
 ·simp only [qX,bE];rfl
theorem aNC {c:aZ} {left:Int} (h0:0<=left) (hl:left<=sz) (ha:c.Values.length < 9223372036854775808):∃ r,vL c left=some r/\(0<=r->r=left - aQb c):=by
 unfold vL aKK aQb
 have e1:wr (left - (c.Values.length:Int))=left - (c.Values.length:Int):=by unfold wr;unfold sz at hl;omega
 rw [e1]
 by_cases n1:left - (c.Values.length:Int) < 0
 ·rw [if_pos (by simpa using n1),aA]
  exact ⟨-1,by simp,by omega⟩
 ·rw [if_neg (by simpa using n1),aA,if_neg (by simpa using n1)]
  exact ⟨_,rfl,fun _=>rfl⟩
theorem aMH {a:List aZ} {left:Int} (h0:0<=left) (hl:left<=sz) (ha:a.length < 9223372036854775808) (hx:∀ c∈a,c.Values.length < 9223372036854775808):∃ r,zF a left=some r/\(0<=r->r=left - zL aQb a):=by
 refine szL (f:=vL) (step:=fun s=>sQ a s.1 s.2) h0 hl ha (fun x hm l g0 g1=>aNC g0 g1 (hx x hm)) (fun k l x hk hz hx=>?_) (fun l=>?_)
 ·simp only [sQ,aY hk,if_true,hx,aA,aV hk (show a.length < 4611686018427387904 by unfold sz at hz;omega)]
 ·simp only [sQ,bE];rfl
theorem aUa {m:aT} {left:Int} (h0:0<=left) (hl:left<=sz) (hm:aSB 9223372036854775807 m):∃ r,aBM m left=some r/\(0<=r->r=left - aQa m):=by
 obtain ⟨g1,g2,g3⟩:=hm
 unfold sz at hl
 unfold aBM aQa
 have e1:wr (left - (m.Left.length:Int))=left - (m.Left.length:Int):=by unfold wr;omega
 rw [e1]
 by_cases n1:left - (m.Left.length:Int) < 0
 ·exact ⟨-1,by rw [if_pos (by simpa using n1)],by omega⟩
 rw [if_neg (by simpa using n1)]
 have e2:wr (left - (m.Left.length:Int) - (m.Right.length:Int))=left - (m.Left.length:Int) - (m.Right.length:Int):=by unfold wr;omega
 rw [e2]
 by_cases n2:left - (m.Left.length:Int) - (m.Right.length:Int) < 0
 ·exact ⟨-1,by rw [if_pos (by simpa using n2)],by omega⟩
 rw [if_neg (by simpa using n2)]
 have e3:wr (left - (m.Left.length:Int) - (m.Right.length:Int) - (m.Result.length:Int))=left - (m.Left.length:Int) - (m.Right.length:Int) - (m.Result.length:Int):=by unfold wr;omega
 rw [e3]
 by_cases n3:left - (m.Left.length:Int) - (m.Right.length:Int) - (m.Result.length:Int) < 0
 ·exact ⟨-1,by rw [if_pos (by simpa using n3)],by omega⟩
 rw [if_neg (by simpa using n3)]
 exact ⟨_,rfl,fun _=>by omega⟩
theorem aSE {a:List aT} {left:Int} (h0:0<=left) (hl:left<=sz) (ha:a.length < 9223372036854775808) (hp:∀ m∈a,aSB 9223372036854775807 m):
  ∃ r,aCE a left=some r/\(0<=r->r=left - zL aQa a):=by
 refine szL (f:=aBM) (step:=fun s=>wV a s.1 s.2) h0 hl (by omega) (fun t ht l g0 g1=>aUa g0 g1 (hp t ht)) (fun k l x hk hz hx=>?_) (fun l=>?_)
 ·simp only [wV,aY hk,if_true,hx,aA,aV hk (show a.length < 4611686018427387904 by unfold sz at hz;omega)]
 ·simp only [wV,bE];rfl
theorem aOc {a:List aH} {left:Int} (h0:0<=left) (hl:left<=sz) (ha:a.length < 9223372036854775808) (hp:∀ m∈a,m.length < 9223372036854775808):
  ∃ r,aBN a left=some r/\(0<=r->r=left - zL List.length a):=by
 refine szL (f:=fun (x:aH) l=>some (if decide (wr (l - (x.length:Int)) < 0)=true then -1 else wr (l - (x.length:Int)))) (z:=List.length) (step:=fun s=>zH a s.1 s.2) h0 hl (by omega) (fun t ht l g0 g1=>⟨_,rfl,fun h=>?_⟩) (fun k l x hk hz hx=>?_) (fun l=>?_)
 ·have:=hp t ht
  have e:wr (l - (t.length:Int))=l - t.length:=by unfold sz at g1;unfold wr;omega
  rw [e] at h ⊢
  split at h
  ·omega
  ·rename_i h2;rw [if_neg h2]
 ·simp only [zH,aY hk,if_true,hx,aA,aV hk (show a.length < 4611686018427387904 by unfold sz at hz;omega)]
  by_cases hn:wr (l - (x.length:Int)) < 0
  ·simp [hn]
  ·simp [hn]
 ·simp only [zH,bE];rfl
theorem aQN {s:aR} (h:aMF 9223372036854775807 s):∃ r,aGJ s 1048576=some r/\(0<=r->zSys s<=sz):=by
 obtain ⟨p1,p2,p3,p4,p5,p6,p7,p8,p9,p10⟩:=h
 obtain ⟨r,hr,h1⟩:=aLk (a:=s.Definitions) (left:=1048576) (by omega) (by unfold sz;omega) (by omega) p2
 unfold aGJ zSys
 rw [hr,aA]
 by_cases n1:r < 0
 ·exact ⟨-1,by rw [if_pos (by simpa using n1)],by omega⟩
 rw [if_neg (by simpa using n1)]
 have i1:=h1 (by omega)
 obtain ⟨r2,hr2,h2⟩:=aMH (a:=s.Components) (left:=r) (by omega) (by unfold sz;omega) (by omega) (fun c hc=>by have:=p4 c hc;omega)
 rw [hr2,aA]
 by_cases n2:r2 < 0
 ·exact ⟨-1,by rw [if_pos (by simpa using n2)],by omega⟩
 rw [if_neg (by simpa using n2)]
 have i2:=h2 (by omega)
 obtain ⟨r3,hr3,h3⟩:=aSE (a:=s.Meetings) (left:=r2) (by omega) (by unfold sz;omega) (by omega) p6
 rw [hr3,aA]
 by_cases n3:r3 < 0
 ·exact ⟨-1,by rw [if_pos (by simpa using n3)],by omega⟩
 rw [if_neg (by simpa using n3)]
 have i3:=h3 (by omega)
 obtain ⟨r4,hr4,h4⟩:=aOc (a:=s.Allowed) (left:=r3) (by omega) (by unfold sz;omega) (by omega) (fun s hs=>by have:=p8 s hs;omega)
 rw [hr4,aA]
 by_cases n4:r4 < 0
 ·exact ⟨-1,by rw [if_pos (by simpa using n4)],by omega⟩
 rw [if_neg (by simpa using n4)]
 have i4:=h4 (by omega)
 obtain ⟨r5,hr5,h5⟩:=aOc (a:=s.Hidden) (left:=r4) (by omega) (by unfold sz;omega) (by omega) (fun s hs=>by have:=p10 s hs;omega)
 rw [hr5,aA]
 by_cases n5:r5 < 0
 ·exact ⟨-1,by rw [if_pos (by simpa using n5)],by omega⟩
 rw [if_neg (by simpa using n5)]
 have i5:=h5 (by omega)
 refine ⟨_,rfl,fun _=>?_⟩
 unfold sz
 omega
theorem part_fits {p:Part} {n:Nat} (h:aOb p<=n):aEz n p:=by
 unfold aOb at h
 refine ⟨by omega,by have:=aLj (z:=List.length) (a:=p.Arguments);omega,fun e he=>?_⟩
 have:=aLi (z:=List.length) he
 omega
theorem def_fits {d:Definition} {n:Nat} (h:zDef d<=n):aFm n d:=by
 unfold zDef at h
 refine ⟨by omega,by have:=aLj (z:=aOb) (a:=d.Body);omega,fun e he=>part_fits ?_⟩
 have:=aLi (z:=aOb) he
 omega
theorem aMI {s:aR} {n:Nat} (h:zSys s<=n):aMF n s:=by
 unfold zSys at h
 have h1:=aLj (z:=zDef) (a:=s.Definitions)
 have h2:=aLj (z:=aQb) (a:=s.Components)
 have h3:=aLj (z:=aQa) (a:=s.Meetings)
 have h4:=aLj (z:=List.length) (a:=s.Allowed)
 have h5:=aLj (z:=List.length) (a:=s.Hidden)
 refine ⟨by omega,fun d hd=>def_fits (by have:=aLi (z:=zDef) hd;omega),by omega,fun c hc=>by have:c.Values.length<=zL aQb s.Components:=aLi (z:=aQb) hc;omega,by omega,fun m hm=>?_,by omega,fun t ht=>by have:=aLi (z:=List.length) ht;omega,by omega,fun t ht=>by have:=aLi (z:=List.length) ht;omega⟩
 have:m.Left.length+m.Right.length+m.Result.length<=zL aQa s.Meetings:=aLi (z:=aQa) hm
 exact ⟨by omega,by omega,by omega⟩
theorem toL {β:Type} {z:β} {step:(List β × Int)->Option ((List β × Int) ⊕ List β)} {a:List β} (h:a.length<=fG)
  (hs:∀ (k:Nat) (out:List β) x,k < a.length->out.length=a.length->ix a (k:Int)=some x->x∈a->step (out,(k:Int))=some (.inl (out.set k x,((k+1:Nat):Int)))) (hs':∀ out,step (out,(a.length:Int))=some (.inr out)):
  (ob (mkz (a.length:Int) z) fun xs=>ob (loop step (xs,0)) fun r=>some r)=some a:=by
 rw [aSq _ h,aA,aEr (a:=a) (z:=z)]
 ·rfl
 ·intro k out x hk ho hx
  exact hs k out x hk ho hx (by rw [aU hk] at hx;cases hx;exact List.getElem_mem hk)
 ·exact hs'
theorem aVD {a:List aP} (h:a.length<=fG):aJF a=some a:=by
 have h2:a.length < 4611686018427387904:=by unfold fG at h;omega
 refine toL (step:=fun s=>aAl a s.1 s.2) h (fun k out x hk ho hx _=>?_) (fun out=>?_)
 ·simp only [aAl,aY hk,if_true,hx,aA,aPr,aU (xs:=out) (k:=k) (by omega),oO (xs:=out) (k:=k) _ (show k < out.length by omega),aV hk h2]
 ·simp only [aAl,bE];rfl
theorem aUb {a:List (List aP)} (h:a.length<=fG) (hx:∀ e∈a,e.length<=fG):aGV a=some a:=by
 have h2:a.length < 4611686018427387904:=by unfold fG at h;omega
 refine toL (step:=fun s=>vY a s.1 s.2) h (fun k out x hk ho hix hm=>?_) (fun out=>?_)
 ·simp only [vY,aY hk,if_true,hix,aA,aVD (hx x hm),aU (xs:=out) (k:=k) (by omega),oO (xs:=out) (k:=k) _ (show k < out.length by omega),aV hk h2]
 ·simp only [vY,bE];rfl
theorem aVE {a:List Part} (h:a.length<=fG) (hx:∀ p∈a,aEz fG p):aJG a=some a:=by
 have h2:a.length < 4611686018427387904:=by unfold fG at h;omega
 refine toL (step:=fun s=>aAm a s.1 s.2) h (fun k out x hk ho hix hm=>?_) (fun out=>?_)
 ·simp only [aAm,aY hk,if_true,hix,aA,aPs,aUb (hx x hm).2.1 (hx x hm).2.2,aU (xs:=out) (k:=k) (by omega),oO (xs:=out) (k:=k) _ (show k < out.length by omega),aV hk h2]
 ·simp only [aAm,bE];rfl
theorem aND {a:List Definition} (h:a.length<=fG) (hx:∀ p∈a,aFm fG p):xD a=some a:=by
 have h2:a.length < 4611686018427387904:=by unfold fG at h;omega
 refine toL (step:=fun s=>mS a s.1 s.2) h (fun k out x hk ho hix hm=>?_) (fun out=>?_)
 ·simp only [mS,aY hk,if_true,hix,aA,aDY,aVE (hx x hm).2.1 (hx x hm).2.2,aU (xs:=out) (k:=k) (by omega),oO (xs:=out) (k:=k) _ (show k < out.length by omega),aV hk h2]
 ·simp only [mS,bE];rfl
theorem toIntsG {a:List Int} (h:a.length<=fG):aGW a=some a:=by
 have h2:a.length < 4611686018427387904:=by unfold fG at h;omega
 refine toL (step:=fun s=>vZ a s.1 s.2) h (fun k out x hk ho hix hm=>?_) (fun out=>?_)
 ·simp only [vZ,aY hk,if_true,hix,aA,aU (xs:=out) (k:=k) (by omega),oO (xs:=out) (k:=k) _ (show k < out.length by omega),aV hk h2]
 ·simp only [vZ,bE];rfl
theorem aOA {a:List aZ} (h:a.length<=fG) (hx:∀ c∈a,c.Values.length<=fG):aAn a=some a:=by
 have h2:a.length < 4611686018427387904:=by unfold fG at h;omega
 refine toL (step:=fun s=>nZ a s.1 s.2) h (fun k out x hk ho hix hm=>?_) (fun out=>?_)
 ·simp only [nZ,aY hk,if_true,hix,aA,aFB,toIntsG (hx x hm),aU (xs:=out) (k:=k) (by omega),oO (xs:=out) (k:=k) _ (show k < out.length by omega),aV hk h2]
 ·simp only [nZ,bE];rfl
theorem aVF {a:List aT} (h:a.length<=fG):aDd a=some a:=by
 have h2:a.length < 4611686018427387904:=by unfold fG at h;omega
 refine toL (step:=fun s=>rT a s.1 s.2) h (fun k out x hk ho hix hm=>?_) (fun out=>?_)
 ·simp only [rT,aY hk,if_true,hix,aA,aIz,aU (xs:=out) (k:=k) (by omega),oO (xs:=out) (k:=k) _ (show k < out.length by omega),aV hk h2]
 ·simp only [rT,bE];rfl
theorem aUc {s:aR} (h:aMF fG s):tP s=some s:=by
 unfold tP
 rw [aND h.1 h.2,aA,aOA h.3 h.4,aA,aVF h.5,aA,aMr h.7,aA,aMr h.9,aA]
theorem eqLG {β:Type} [DecidableEq β] {step:Int->Option (Int ⊕ (Unit ⊕ Bool))} {a b:List β} (hlen:a.length < 4611686018427387904)
  (h:∀ (k:Nat) x y,k < a.length->ix a (k:Int)=some x->ix b (k:Int)=some y->x∈a->step (k:Int)=if x=y then some (.inl (wr ((k:Int)+1))) else some (.inr (.inr false)))
  (h':step (a.length:Int)=some (.inr (.inl ()))):(if ((a.length:Int) != (b.length:Int)) then (some false) else (ob (loop step 0) fun r=>match r with|.inl _=>some true|.inr r=>some r))=some (decide (a=b)):=by
 by_cases e:a.length=b.length
 ·rw [if_neg (by simp [e])]
  refine aJf e (fun k x y hk hx hy=>?_) h'
  rw [h k x y hk hx hy (by rw [aU hk] at hx;cases hx;exact List.getElem_mem hk),aV hk hlen]
 ·rw [if_pos (by simp only [bne_iff_ne,ne_eq];omega)]
  have:¬ a=b:=fun h=>e (by rw [h])
  simp [this]
theorem eqTerm_eq (a b:aP):aMa a b=some (decide (a=b)):=by
 obtain ⟨a1,a2⟩:=a;obtain ⟨b1,b2⟩:=b
 simp only [aMa,aP.mk.injEq]
 by_cases h1:a1=b1<;>by_cases h2:a2=b2<;>simp [h1,h2]
theorem aVG (a b:List aP) (h:a.length < 4611686018427387904):aJI a b=some (decide (a=b)):=by
 refine eqLG (step:=fun s=>aDg a b s) h (fun k x y hk hx hy hm=>?_) ?_
 ·simp only [aDg,aY hk,if_true,hx,hy,aA,eqTerm_eq]
  by_cases e:x=y<;>simp [e]
 ·simp only [aDg,bE];rfl
theorem aUd (a b:List (List aP)) (h:a.length < 4611686018427387904) (h2:∀ e∈a,e.length < 4611686018427387904):aHd a b=some (decide (a=b)):=by
 refine eqLG (step:=fun s=>aBC a b s) h (fun k x y hk hx hy hm=>?_) ?_
 ·simp only [aBC,aY hk,if_true,hx,hy,aA,aVG x y (h2 x hm)]
  by_cases e:x=y<;>simp [e]
 ·simp only [aBC,bE];rfl
theorem eqPart_eq (a b:Part) (h:aEz 4611686018427387903 a):aMc a b=some (decide (a=b)):=by
 obtain ⟨a1,a2,a3,a4⟩:=a;obtain ⟨b1,b2,b3,b4⟩:=b
 obtain ⟨g1,g2,g3⟩:=h
 simp only at g1 g2 g3
 simp only [aMc,Part.mk.injEq,aUd a4 b4 (by omega) (fun e he=>by have:=g3 e he;omega),aA]
 by_cases h1:a1=b1<;>by_cases h2:a2=b2<;>by_cases h3:a3=b3<;>by_cases h4:a4=b4<;>simp [h1,h2,h3,h4]
theorem aVH (a b:List Part) (h:a.length < 4611686018427387904) (h2:∀ p∈a,aEz 4611686018427387903 p):aJJ a b=some (decide (a=b)):=by
 refine eqLG (step:=fun s=>aDh a b s) h (fun k x y hk hx hy hm=>?_) ?_
 ·simp only [aDh,aY hk,if_true,hx,hy,aA,eqPart_eq x y (h2 x hm)]
  by_cases e:x=y<;>simp [e]
 ·simp only [aDh,bE];rfl
theorem aOB (a b:Definition) (h:aFm 4611686018427387903 a):aAy a b=some (decide (a=b)):=by
 obtain ⟨a1,a2,a3⟩:=a;obtain ⟨b1,b2,b3⟩:=b
 obtain ⟨g1,g2,g3⟩:=h
 simp only at g1 g2 g3
 simp only [aAy,Definition.mk.injEq,aVH a3 b3 (by omega) g3,aA]
 by_cases h1:a1=b1<;>by_cases h2:a2=b2<;>by_cases h3:a3=b3<;>simp [h1,h2,h3]
theorem aNE (a b:List Definition) (h:a.length < 4611686018427387904) (h2:∀ p∈a,aFm 4611686018427387903 p):xI a b=some (decide (a=b)):=by
 refine eqLG (step:=fun s=>rL a b s) h (fun k x y hk hx hy hm=>?_) ?_
 ·simp only [rL,aY hk,if_true,hx,hy,aA,aOB x y (h2 x hm)]
  by_cases e:x=y<;>simp [e]
 ·simp only [rL,bE];rfl
theorem aQc (a b:aZ) (h:a.Values.length < 4611686018427387904):aBE a b=some (decide (a=b)):=by
 obtain ⟨a1,a2⟩:=a;obtain ⟨b1,b2⟩:=b
 simp only at h
 simp only [aBE,aZ.mk.injEq,aTD a2 b2 h,aA]
 by_cases h1:a1=b1<;>by_cases h2:a2=b2<;>simp [h1,h2]
theorem aOC (a b:List aZ) (h:a.length < 4611686018427387904) (h2:∀ p∈a,p.Values.length < 4611686018427387904):aAz a b=some (decide (a=b)):=by
 refine eqLG (step:=fun s=>sX a b s) h (fun k x y hk hx hy hm=>?_) ?_
 ·simp only [sX,aY hk,if_true,hx,hy,aA,aQc x y (h2 x hm)]
  by_cases e:x=y<;>simp [e]
 ·simp only [sX,bE];rfl
theorem eqMeet_eq (a b:aT):aFb a b=some (decide (a=b)):=by
 obtain ⟨a1,a2,a3⟩:=a;obtain ⟨b1,b2,b3⟩:=b
 simp only [aFb,aT.mk.injEq]
 by_cases h1:a1=b1<;>by_cases h2:a2=b2<;>by_cases h3:a3=b3<;>simp [h1,h2,h3]
theorem aVI (a b:List aT) (h:a.length < 4611686018427387904):aDi a b=some (decide (a=b)):=by
 refine eqLG (step:=fun s=>xJ a b s) h (fun k x y hk hx hy hm=>?_) ?_
 ·simp only [xJ,aY hk,if_true,hx,hy,aA,eqMeet_eq x y]
  by_cases e:x=y<;>simp [e]
 ·simp only [xJ,bE];rfl
theorem aUe (a b:aR) (h:aMF sz a):aHe a b=some (decide (a=b)):=by
 obtain ⟨a1,a2,a3,a4,a5⟩:=a;obtain ⟨b1,b2,b3,b4,b5⟩:=b
 have g1:=h.1;have g2:=h.2;have g3:=h.3;have g4:=h.4;have g5:=h.5;have g7:=h.7;have g9:=h.9
 simp only [sz] at g1 g2 g3 g4 g5 g7 g9
 have hd:∀ d∈a1,aFm 4611686018427387903 d:=fun d hd=>by
  obtain ⟨x,y,z⟩:=g2 d hd
  exact ⟨by omega,by omega,fun p hp=>let ⟨u,v,q⟩:=z p hp;⟨by omega,by omega,fun e he=>by have:=q e he;omega⟩⟩
 simp only [aHe,aR.mk.injEq,aNE a1 b1 (by omega) hd,aOC a2 b2 (by omega) (fun c hc=>by have:=g4 c hc;omega),aVI a3 b3 (by omega),aMs a4 b4 (by omega),aMs a5 b5 (by omega),aA]
 by_cases e1:a1=b1<;>by_cases e2:a2=b2<;>by_cases e3:a3=b3<;>by_cases e4:a4=b4<;>by_cases e5:a5=b5<;>simp [e1,e2,e3,e4,e5]
end Gv
namespace Gv
theorem aRu (i n:Int) (h:-4611686018427387904 < n) (h2:n < 4611686018427387904):aDe i n=some (decide (0<=i)&&decide (i<=n - 1)):=by
 unfold aDe
 rw [gV,eG (by omega) (by omega),aA]
theorem aMJ {β:Type} {step:Int->Option (Int ⊕ (Unit ⊕ Int))} (xs:List β) (p:β->Bool) (hl:xs.length < 4611686018427387904)
  (h:∀ (k:Nat) x,k < xs.length->ix xs (k:Int)=some x->x∈xs->step (k:Int)=if p x=true then some (.inr (.inr (k:Int))) else some (.inl (wr ((k:Int)+1))))
  (h':step (xs.length:Int)=some (.inr (.inl ()))):(ob (ob (loop step 0) fun r=>match r with|.inl _=>some (-1)|.inr r=>some r) fun r=>some (decide (0<=r)))=some (xs.any p):=by
 rw [yO (step:=step) xs p (fun k x hk hx=>by rw [h k x hk hx (by rw [aU hk] at hx;cases hx;exact List.getElem_mem hk),aV hk hl]) h',aA,←aJh]
 cases xs.findIdx? p with
 |none=>rfl
 |some i=>simp
def aMK (p:Part):Bool:=
 if p.Kind == 0||p.Kind == 2 then p.Number == 0&&p.Name == []&&p.Arguments.length == 0
 else if p.Kind == 1 then p.Number == 0
 else if p.Kind == 3 then p.Number == 0&&p.Name == []
 else if p.Kind == 4 then p.Name == []&&p.Arguments.length == 0
 else p.Kind == 5&&p.Name == []
def aLl (l:List Definition) (p:Part):Bool:=
 if p.Kind == 1 then decide (p.Arguments.length<=2)&&(p.Arguments.length == 0||!(p.Name == bS))
 else if p.Kind == 3 then p.Arguments.length == 1
 else if p.Kind == 5 then (p.Arguments.length:Int) == (l.getD p.Number.toNat ⟨[],0,[]⟩).Parameters
 else true
def aBn (n:Nat) (p:Part):Bool:=(!(p.Kind == 4)||(decide (1<=p.Number)&&decide (p.Number<=7)))&&(!(p.Kind == 5)||(decide (0<=p.Number)&&decide (p.Number < (n:Int))))
def sM (l:List Definition) (pl:dJ) (p:Part):Bool:=
 aMK p&&(!(p.Kind == 1)||qM p.Name)&&aBn l.length p&&aLl l p&&(!(p.Kind == 5)||pl.behind)&&(!(p.Kind == 4)||decide (pl.scope < 6))&&p.Arguments.all (okE pl.scope)
theorem kindOk_eq (p:Part):wB p=some (aMK p):=by
 have hl:((p.Arguments.length:Int) == 0)=(p.Arguments.length == 0):=by
  cases h:p.Arguments.length == 0<;>simp at h ⊢<;>exact h
 unfold wB qD mH dU aMK
 rw [gV,aA,hl]
 generalize (p.Arguments.length == 0)=A
 generalize (p.Number == 0)=B
 generalize (p.Name == ([]:aH))=C
 generalize p.Kind=k
 by_cases h0:k=0
 ·subst h0;cases A<;>cases B<;>cases C<;>rfl
 by_cases h1:k=1
 ·subst h1;cases A<;>cases B<;>cases C<;>rfl
 by_cases h2:k=2
 ·subst h2;cases A<;>cases B<;>cases C<;>rfl
 by_cases h3:k=3
 ·subst h3;cases A<;>cases B<;>cases C<;>rfl
 by_cases h4:k=4
 ·subst h4;cases A<;>cases B<;>cases C<;>rfl
 by_cases h5:k=5
 ·subst h5;cases A<;>cases B<;>cases C<;>rfl
 ·have e0:(k == 0)=false:=by simpa using h0
  have e1:(k == 1)=false:=by simpa using h1
  have e2:(k == 2)=false:=by simpa using h2
  have e3:(k == 3)=false:=by simpa using h3
  have e4:(k == 4)=false:=by simpa using h4
  have e5:(k == 5)=false:=by simpa using h5
  have e6:(decide (0<=k)&&decide (k<=5))=false:=by
   rw [Bool.and_eq_false_iff]
   by_cases h:0<=k
   ·right;simp;omega
   ·left;simpa using h
  simp [e0,e1,e2,e3,e4,e5,e6]
theorem aVJ (p:Part):aFS p=some (aMK p):=by
 have hl:((p.Arguments.length:Int) == 0)=(p.Arguments.length == 0):=by
  cases h:p.Arguments.length == 0<;>simp at h ⊢<;>exact h
 unfold aFS zO aCH aCG zN aMK
 rw [hl]
 generalize (p.Arguments.length == 0)=A
 generalize (p.Number == 0)=B
 generalize (p.Name == ([]:aH))=C
 generalize p.Kind=k
 by_cases h0:k=0
 ·subst h0;cases A<;>cases B<;>cases C<;>rfl
 by_cases h1:k=1
 ·subst h1;cases A<;>cases B<;>cases C<;>rfl
 by_cases h2:k=2
 ·subst h2;cases A<;>cases B<;>cases C<;>rfl
 by_cases h3:k=3
 ·subst h3;cases A<;>cases B<;>cases C<;>rfl
 by_cases h4:k=4
 ·subst h4;cases A<;>cases B<;>cases C<;>rfl
 by_cases h5:k=5
 ·subst h5;cases A<;>cases B<;>cases C<;>rfl
 ·have e0:(k == 0)=false:=by simpa using h0
  have e1:(k == 1)=false:=by simpa using h1
  have e2:(k == 2)=false:=by simpa using h2
  have e3:(k == 3)=false:=by simpa using h3
  have e4:(k == 4)=false:=by simpa using h4
  have e5:(k == 5)=false:=by simpa using h5
  simp [e0,e1,e2,e3,e4,e5]
theorem tau_nm:qM bS=true:=by decide
section
variable {l:List Definition} {p:Part} {pl:dJ}
theorem args_bad (hs:0<=pl.scope) (hs2:pl.scope<=29) (ha:p.Arguments.length < 1000000000) (hx:∀ e∈p.Arguments,e.length < 1000000000):dI p.Arguments pl=some (!p.Arguments.all (okE pl.scope)):=by
 unfold dI dT
 have:=aMJ (step:=fun s=>cJ p.Arguments pl s) p.Arguments (fun e=>!okE pl.scope e) (by omega) (fun k x hk hix hm=>?_) ?_
 ·have e:(p.Arguments.any fun e=>!okE pl.scope e)=!p.Arguments.all (okE pl.scope):=by simp [List.any_eq_not_all_not]
  rw [←e,←this];rfl
 ·simp only [cJ,aY hk,if_true,hix,aA,aAY,aQL x hs hs2 (show (1:Int)<=15 by omega) (by omega) (hx x hm)]
  rfl
 ·simp only [cJ,bE];rfl
theorem aQd (hs:0<=pl.scope) (hs2:pl.scope<=29) (ha:p.Arguments.length < 1000000000) (hx:∀ e∈p.Arguments,e.length < 1000000000) (b c:Bool):∃ r,(if c then some 6 else mI p pl b)=some r/\(r != 0)=!(!c&&!b&&p.Arguments.all (okE pl.scope)):=by
 cases c
 ·cases b
  ·unfold mI
   rw [args_bad hs hs2 ha hx]
   cases p.Arguments.all (okE pl.scope)<;>exact ⟨_,rfl,rfl⟩
  ·exact ⟨7,rfl,rfl⟩
 ·exact ⟨6,rfl,rfl⟩
theorem aRv (hs:0<=pl.scope) (hs2:pl.scope<=29) (ha:p.Arguments.length < 1000000000) (hx:∀ e∈p.Arguments,e.length < 1000000000) (c:Bool):∃ r,mJ p pl c=some r/\(r != 0)=!(!c&&(!(p.Kind == 4)||decide (pl.scope < 6))&&p.Arguments.all (okE pl.scope)):=by
 unfold mJ
 by_cases h4:(p.Kind == 4)=true
 ·obtain ⟨r,h1,h2⟩:=aQd (p:=p) hs hs2 ha hx (decide (6<=pl.scope)) c
  refine ⟨r,by rw [if_pos h4];exact h1,?_⟩
  rw [h2,h4]
  have:(!decide (6<=pl.scope))=decide (pl.scope < 6):=by
   by_cases h:6<=pl.scope
   ·simp [h]
   ·have h':pl.scope < 6:=by omega
    simp [h']
  rw [this];simp
 ·obtain ⟨r,h1,h2⟩:=aQd (p:=p) hs hs2 ha hx false c
  refine ⟨r,by rw [if_neg h4];exact h1,?_⟩
  have:(p.Kind == 4)=false:=by simpa using h4
  rw [h2,this];simp
theorem aVK (hn:aBn l.length p=true):tR p l=some (aLl l p):=by
 have h2:decide ((p.Arguments.length:Int)<=2)=decide (p.Arguments.length<=2):=by simp;omega
 have h0:((p.Arguments.length:Int) == 0)=(p.Arguments.length == 0):=by cases h:p.Arguments.length == 0<;>simp at h ⊢<;>exact h
 have h1:((p.Arguments.length:Int) == 1)=(p.Arguments.length == 1):=by cases h:p.Arguments.length == 1<;>simp at h ⊢<;>omega
 unfold tR oB aLl
 rw [h2,h0,h1]
 by_cases k1:(p.Kind == 1)=true
 ·rw [if_pos k1,if_pos k1]
  show (if (p.Arguments.length == 0)=true then some true else if (!(p.Name == bS))=true then some (decide (p.Arguments.length<=2)) else some false)=_
  by_cases z:p.Arguments.length=0
  ·simp [z]
  ·have z':(p.Arguments.length == 0)=false:=by simpa using z
   rw [z']
   cases (p.Name == bS)<;>simp
 rw [if_neg k1,if_neg k1]
 by_cases k3:(p.Kind == 3)=true
 ·rw [if_pos k3,if_pos k3]
 rw [if_neg k3,if_neg k3]
 by_cases k5:(p.Kind == 5)=true
 ·rw [if_pos k5,if_pos k5]
  simp only [aBn,k5,Bool.not_true,Bool.false_or,Bool.and_eq_true,decide_eq_true_eq] at hn
  have hlt:p.Number.toNat < l.length:=by omega
  have hi:ix l p.Number=some (l[p.Number.toNat]'hlt):=by unfold ix;rw [if_pos hn.2.1];simp [hlt]
  rw [hi,aA]
  simp [List.getD,hlt]
 ·rw [if_neg k5,if_neg k5]
theorem reason_I (hs:0<=pl.scope) (hs2:pl.scope<=29) (hl:l.length<=1000000) (hn:p.Name.length < 1000000000) (ha:p.Arguments.length < 1000000000) (hx:∀ e∈p.Arguments,e.length < 1000000000):∃ r,sA p l pl=some r/\(r != 0)=!sM l pl p:=by
 have j3:∀ b,∃ r,iE p l pl b=some r/\(r != 0)=(if b then true else if aBn l.length p then !(aLl l p&&(!(p.Kind == 5)||pl.behind)&&(!(p.Kind == 4)||decide (pl.scope < 6))&&p.Arguments.all (okE pl.scope)) else (r != 0))\/(b=false/\aBn l.length p=false):=by
  intro b
  cases b
  ·by_cases hnb:aBn l.length p=true
   ·unfold iE
    rw [if_neg (by simp),aVK hnb,aA]
    by_cases hc:aLl l p=true
    ·rw [if_neg (by simp [hc])]
     by_cases k5:(p.Kind == 5)=true
     ·obtain ⟨r,h1,h2⟩:=aRv (p:=p) hs hs2 ha hx (!pl.behind)
      refine ⟨r,.inl ⟨by rw [if_pos k5];exact h1,?_⟩⟩
      rw [h2,hnb,hc,k5];simp
     ·obtain ⟨r,h1,h2⟩:=aRv (p:=p) hs hs2 ha hx false
      refine ⟨r,.inl ⟨by rw [if_neg k5];exact h1,?_⟩⟩
      have k5':(p.Kind == 5)=false:=by simpa using k5
      rw [h2,hnb,hc,k5'];simp
    ·have hc':aLl l p=false:=by simpa using hc
     refine ⟨5,.inl ⟨by rw [if_pos (by simp [hc'])],?_⟩⟩
     rw [hnb,hc'];rfl
   ·exact ⟨0,.inr ⟨rfl,by simpa using hnb⟩⟩
  ·exact ⟨4,.inl ⟨rfl,rfl⟩⟩
 have j4:∃ r,kJ p l pl false=some r/\(r != 0)=!(aBn l.length p&&(aLl l p&&(!(p.Kind == 5)||pl.behind)&&(!(p.Kind == 4)||decide (pl.scope < 6))&&p.Arguments.all (okE pl.scope))):=by
  unfold kJ
  rw [if_neg (by simp)]
  have hix:=aRu p.Number (l.length:Int) (by omega) (by omega)
  have hle:(decide (0<=p.Number)&&decide (p.Number<=(l.length:Int) - 1))=(decide (0<=p.Number)&&decide (p.Number < (l.length:Int))):=by
   congr 1;by_cases h:p.Number < (l.length:Int)
   ·simp [h];omega
   ·simp [h];omega
  by_cases k4:(p.Kind == 4)=true
  ·have k5:(p.Kind == 5)=false:=by simp at k4 ⊢;omega
   rw [if_pos k4,gV,aA]
   have hnb:aBn l.length p=(decide (1<=p.Number)&&decide (p.Number<=7)):=by simp [aBn,k4,k5]
   by_cases hN:(decide (1<=p.Number)&&decide (p.Number<=7))=true
   ·rw [if_neg (by simp [hN]),if_neg (by simp [k5])]
    obtain ⟨r,h|h⟩:=j3 false
    ·refine ⟨r,h.1,?_⟩
     rw [h.2,hnb,hN];rfl
    ·rw [hnb,hN] at h;cases h.2
   ·have hN':(decide (1<=p.Number)&&decide (p.Number<=7))=false:=by simpa using hN
    rw [if_pos (by simp [hN'])]
    exact ⟨4,rfl,by rw [hnb,hN'];rfl⟩
  rw [if_neg k4]
  have k4':(p.Kind == 4)=false:=by simpa using k4
  by_cases k5:(p.Kind == 5)=true
  ·rw [if_pos k5,hix,aA,hle]
   have hnb:aBn l.length p=(decide (0<=p.Number)&&decide (p.Number < (l.length:Int))):=by simp [aBn,k4',k5]
   by_cases hN:(decide (0<=p.Number)&&decide (p.Number < (l.length:Int)))=true
   ·rw [hN]
    obtain ⟨r,h|h⟩:=j3 false
    ·refine ⟨r,h.1,?_⟩
     rw [h.2,hnb,hN];rfl
    ·rw [hnb,hN] at h;cases h.2
   ·have hN':(decide (0<=p.Number)&&decide (p.Number < (l.length:Int)))=false:=by simpa using hN
    rw [hN']
    exact ⟨4,rfl,by rw [hnb,hN'];rfl⟩
  ·rw [if_neg k5]
   have k5':(p.Kind == 5)=false:=by simpa using k5
   have hnb:aBn l.length p=true:=by simp [aBn,k4',k5']
   obtain ⟨r,h|h⟩:=j3 false
   ·refine ⟨r,h.1,?_⟩
    rw [h.2,hnb];rfl
   ·rw [hnb] at h;cases h.2
 unfold sA sM
 rw [kindOk_eq,aA]
 by_cases hk:aMK p=true
 ·rw [if_neg (by simp [hk]),hk]
  obtain ⟨r,h1,h2⟩:=j4
  have hand:(true&&(!(p.Kind == 1)||qM p.Name)&&aBn l.length p&&aLl l p&&(!(p.Kind == 5)||pl.behind)&&(!(p.Kind == 4)||decide (pl.scope < 6))&&p.Arguments.all (okE pl.scope))=((!(p.Kind == 1)||qM p.Name)&&(aBn l.length p&&(aLl l p&&(!(p.Kind == 5)||pl.behind)&&(!(p.Kind == 4)||decide (pl.scope < 6))&&p.Arguments.all (okE pl.scope)))):=by
   simp only [Bool.true_and,Bool.and_assoc]
  rw [hand]
  by_cases k1:(p.Kind == 1)=true
  ·rw [if_pos k1,k1]
   by_cases ht:(p.Name == bS)=true
   ·have ht':p.Name=bS:=by simpa using ht
    rw [if_neg (by show ¬ (!(p.Name == bS))=true;simp [ht])]
    refine ⟨r,h1,?_⟩
    rw [h2,ht',tau_nm];simp
   ·have ht':(p.Name == bS)=false:=by simpa using ht
    rw [if_pos (by show (!(p.Name == bS))=true;simp [ht']),yN _ (by omega),aA]
    have hact:iB p.Name=qM p.Name:=by unfold iB;rw [ht'];simp
    rw [hact]
    by_cases hnm:qM p.Name=true
    ·rw [hnm]
     exact ⟨r,h1,by rw [h2];simp⟩
    ·have hnm':qM p.Name=false:=by simpa using hnm
     rw [hnm']
     exact ⟨3,rfl,by simp⟩
  ·rw [if_neg k1]
   have k1':(p.Kind == 1)=false:=by simpa using k1
   rw [k1']
   exact ⟨r,h1,by rw [h2];simp⟩
 ·have hk':aMK p=false:=by simpa using hk
  rw [if_pos (by simp [hk']),hk']
  exact ⟨2,rfl,by simp⟩
end
end Gv
namespace Gv
section
variable {l:List Definition} {d:Definition} {p:Part} {pl:dJ} {t:GTr Part} {i:Nat}
theorem args_badS (hs:0<=pl.scope) (hs2:pl.scope<=29) (ha:p.Arguments.length < 1000000000) (hx:∀ e∈p.Arguments,e.length < 1000000000):(ob (loop (fun (s:Int)=>tE p pl.scope s) 0) fun r=>match r with|.inl r=>aDS|.inr r=>some r)=some (if p.Arguments.all (okE pl.scope)=true then 0 else 8):=by
 rw [aAH (step:=fun s=>tE p pl.scope s) p.Arguments (okE pl.scope) (.inr 8) (.inl ()) (fun k x hk hix=>?_) (by simp only [tE,bE];rfl)]
 ·cases p.Arguments.all (okE pl.scope)<;>rfl
 ·have hm:x∈p.Arguments:=by rw [aU hk] at hix;cases hix;exact List.getElem_mem hk
  simp only [tE,aY hk,if_true,hix,aA,l03Is_eq x (v:=pl.scope) (m:=15) (eG (by omega) (by omega)) (hx x hm),aV hk (show p.Arguments.length < 4611686018427387904 by omega)]
  show (if (!okE pl.scope x)=true then _ else _)=_
  cases okE pl.scope x<;>rfl
theorem len_gt2 (n:Nat):decide (2 < (n:Int))=!decide (n<=2):=by
 by_cases h:n<=2
 ·simp [h];omega
 ·simp [h];omega
theorem len_gt0 (n:Nat):decide (0 < (n:Int))=!(n == 0):=by
 by_cases h:n=0
 ·subst h;rfl
 ·have:(n == 0)=false:=by simpa using h
  rw [this];simp;omega
theorem len_ne1 (n:Nat):((n:Int) != 1)=!(n == 1):=by
 by_cases h:n=1
 ·subst h;rfl
 ·have h1:(n == 1)=false:=by simpa using h
  have h2:((n:Int) != 1)=true:=by simp;omega
  rw [h1,h2];rfl
theorem reason_S (hl:l.length<=1000000) (hb:d.Body.length<=20) (hi:d.Body[i]?=some p) (hsc:aAR d (i:Int)=some pl.scope) (hbh:pl.behind=if i=0 then false else match d.Body[i - 1]? with|some q=>q.Kind == 1|none=>false)
  (hs:0<=pl.scope) (hs2:pl.scope<=29) (ha:p.Arguments.length < 1000000000) (hx:∀ e∈p.Arguments,e.length < 1000000000):∃ r,xZ l d (i:Int)=some r/\0<=r/\(r != 0)=!sM l pl p:=by
 have hil:i < d.Body.length:=(List.getElem?_eq_some_iff.1 hi).1
 have j3:∀ b,∃ r,pQ p pl.scope b=some r/\0<=r/\(r != 0)=!(!b&&p.Arguments.all (okE pl.scope)):=by
  intro b
  cases b
  ·unfold pQ
   rw [if_neg (by simp)]
   refine ⟨_,args_badS (p:=p) hs hs2 ha hx,?_⟩
   cases p.Arguments.all (okE pl.scope)
   ·exact ⟨by simp,rfl⟩
   ·exact ⟨by simp,rfl⟩
  ·exact ⟨7,rfl,by omega,rfl⟩
 have j4:∀ c,∃ r,mN d (i:Int) p c=some r/\0<=r/\(r != 0)=!(!c&&(!(p.Kind == 4)||decide (pl.scope < 6))&&p.Arguments.all (okE pl.scope)):=by
  intro c
  cases c
  ·unfold mN
   rw [if_neg (by simp),hsc,aA]
   by_cases h4:(p.Kind == 4)=true
   ·obtain ⟨r,h1,h0,h2⟩:=j3 (decide (6<=pl.scope))
    refine ⟨r,by rw [if_pos h4];exact h1,h0,?_⟩
    have:(!decide (6<=pl.scope))=decide (pl.scope < 6):=by
     by_cases h:6<=pl.scope
     ·simp [h]
     ·have h':pl.scope < 6:=by omega
      simp [h']
    rw [h2,h4,this];simp
   ·obtain ⟨r,h1,h0,h2⟩:=j3 false
    refine ⟨r,by rw [if_neg h4];exact h1,h0,?_⟩
    have:(p.Kind == 4)=false:=by simpa using h4
    rw [h2,this];simp
  ·exact ⟨6,rfl,by omega,rfl⟩
 have j5:∃ r,jE d (i:Int) p=some r/\0<=r/\(r != 0)=!((!(p.Kind == 5)||pl.behind)&&(!(p.Kind == 4)||decide (pl.scope < 6))&&p.Arguments.all (okE pl.scope)):=by
  unfold jE
  by_cases h5:(p.Kind == 5)=true
  ·rw [if_pos h5]
   by_cases h0:i=0
   ·subst h0
    rw [if_pos (by rfl)]
    obtain ⟨r,h1,h0,h2⟩:=j4 true
    refine ⟨r,h1,h0,?_⟩
    rw [h2,hbh,h5];simp
   ·have hp:i - 1 < d.Body.length:=by omega
    have hw:wr ((i:Int) - 1)=((i - 1:Nat):Int):=by rw [eG (by omega) (by omega)];omega
    rw [if_neg (by simp;exact h0),hw,aU hp,aA]
    have hb':pl.behind=(d.Body[i - 1].Kind == 1):=by rw [hbh,if_neg h0,List.getElem?_eq_getElem hp]
    obtain ⟨r,h1,h0,h2⟩:=j4 (d.Body[i - 1].Kind != 1)
    refine ⟨r,h1,h0,?_⟩
    rw [h2,h5,hb']
    simp [bne]
  ·obtain ⟨r,h1,h0,h2⟩:=j4 false
   refine ⟨r,by rw [if_neg h5];exact h1,h0,?_⟩
   have:(p.Kind == 5)=false:=by simpa using h5
   rw [h2,this];simp
 have h2':=len_gt2 p.Arguments.length
 have h0':=len_gt0 p.Arguments.length
 have h1':=len_ne1 p.Arguments.length
 have j7:aBn l.length p=true->∃ r,jF l d (i:Int) p false=some r/\0<=r/\(r != 0)=!(aLl l p&&((!(p.Kind == 5)||pl.behind)&&(!(p.Kind == 4)||decide (pl.scope < 6))&&p.Arguments.all (okE pl.scope))):=by
  intro hn
  obtain ⟨r5,e5,z5,n5⟩:=j5
  unfold jF
  rw [if_neg (by simp),h2',h0',h1']
  unfold tF aLl
  by_cases k1:(p.Kind == 1)=true
  ·rw [if_pos k1,if_pos k1]
   by_cases a2:p.Arguments.length<=2
   ·rw [if_neg (by simp [a2])]
    by_cases a0:p.Arguments.length=0
    ·rw [if_neg (by simp [a0]),if_neg (by simp)]
     refine ⟨r5,e5,z5,?_⟩
     rw [n5,a0];simp
    ·rw [if_pos (by simp [a0])]
     have a0':(p.Arguments.length == 0)=false:=by simpa using a0
     show ∃ r,(if (p.Name == bS)=true then some 5 else jE d (i:Int) p)=some r/\_
     by_cases ht:(p.Name == bS)=true
     ·rw [if_pos ht]
      refine ⟨5,rfl,by omega,?_⟩
      rw [a0',ht];simp
     ·have ht':(p.Name == bS)=false:=by simpa using ht
      rw [if_neg ht]
      refine ⟨r5,e5,z5,?_⟩
      rw [n5,a0',ht'];simp [a2]
   ·rw [if_pos (by simp [a2]),if_pos rfl]
    refine ⟨5,rfl,by omega,?_⟩
    simp [a2]
  rw [if_neg k1,if_neg k1]
  by_cases k3:(p.Kind == 3)=true
  ·rw [if_pos k3,if_pos k3]
   by_cases a1:p.Arguments.length=1
   ·rw [if_neg (by simp [a1])]
    refine ⟨r5,e5,z5,?_⟩
    rw [n5,a1];simp
   ·rw [if_pos (by simp [a1])]
    refine ⟨5,rfl,by omega,?_⟩
    have a1':(p.Arguments.length == 1)=false:=by simpa using a1
    rw [a1'];rfl
  rw [if_neg k3,if_neg k3]
  by_cases k5:(p.Kind == 5)=true
  ·rw [if_pos k5,if_pos k5]
   simp only [aBn,k5,Bool.not_true,Bool.false_or,Bool.and_eq_true,decide_eq_true_eq] at hn
   have hlt:p.Number.toNat < l.length:=by omega
   have hix:ix l p.Number=some (l[p.Number.toNat]'hlt):=by unfold ix;rw [if_pos hn.2.1];simp [hlt]
   have hg:l.getD p.Number.toNat ⟨[],0,[]⟩=l[p.Number.toNat]:=by simp [List.getD,hlt]
   rw [hix,aA,hg]
   by_cases a5:(p.Arguments.length:Int)=l[p.Number.toNat].Parameters
   ·rw [if_neg (by simp [a5])]
    refine ⟨r5,e5,z5,?_⟩
    rw [n5,a5];simp
   ·rw [if_pos (by simp [a5])]
    refine ⟨5,rfl,by omega,?_⟩
    have a5':((p.Arguments.length:Int) == l[p.Number.toNat].Parameters)=false:=by simpa using a5
    rw [a5'];rfl
  ·rw [if_neg k5,if_neg k5]
   refine ⟨r5,e5,z5,?_⟩
   rw [n5];simp
 have j8:∃ r,pR l d (i:Int) p false=some r/\0<=r/\(r != 0)=!(aBn l.length p&&(aLl l p&&((!(p.Kind == 5)||pl.behind)&&(!(p.Kind == 4)||decide (pl.scope < 6))&&p.Arguments.all (okE pl.scope)))):=by
  unfold pR
  rw [if_neg (by simp)]
  have hw:wr ((l.length:Int) - 1)=(l.length:Int) - 1:=eG (by omega) (by omega)
  have hle:(decide (0<=p.Number)&&decide (p.Number<=(l.length:Int) - 1))=(decide (0<=p.Number)&&decide (p.Number < (l.length:Int))):=by
   congr 1;by_cases h:p.Number < (l.length:Int)
   ·simp [h];omega
   ·simp [h];omega
  by_cases k4:(p.Kind == 4)=true
  ·have k5:(p.Kind == 5)=false:=by simp at k4 ⊢;omega
   have hnb:aBn l.length p=(decide (1<=p.Number)&&decide (p.Number<=7)):=by simp [aBn,k4,k5]
   rw [if_pos k4,aEt,aA]
   by_cases hN:(decide (1<=p.Number)&&decide (p.Number<=7))=true
   ·rw [if_neg (by simp [hN]),if_neg (by simp [k5])]
    obtain ⟨r,h1,h0,h2⟩:=j7 (by rw [hnb,hN])
    exact ⟨r,h1,h0,by rw [h2,hnb,hN];rfl⟩
   ·have hN':(decide (1<=p.Number)&&decide (p.Number<=7))=false:=by simpa using hN
    rw [if_pos (by simp [hN'])]
    exact ⟨4,rfl,by omega,by rw [hnb,hN'];rfl⟩
  rw [if_neg k4]
  have k4':(p.Kind == 4)=false:=by simpa using k4
  by_cases k5:(p.Kind == 5)=true
  ·have hnb:aBn l.length p=(decide (0<=p.Number)&&decide (p.Number < (l.length:Int))):=by simp [aBn,k4',k5]
   rw [if_pos k5,hw,aEt,aA,hle]
   by_cases hN:(decide (0<=p.Number)&&decide (p.Number < (l.length:Int)))=true
   ·rw [hN]
    obtain ⟨r,h1,h0,h2⟩:=j7 (by rw [hnb,hN])
    exact ⟨r,h1,h0,by rw [h2,hnb,hN];rfl⟩
   ·have hN':(decide (0<=p.Number)&&decide (p.Number < (l.length:Int)))=false:=by simpa using hN
    rw [hN']
    exact ⟨4,rfl,by omega,by rw [hnb,hN'];rfl⟩
  ·have k5':(p.Kind == 5)=false:=by simpa using k5
   have hnb:aBn l.length p=true:=by simp [aBn,k4',k5']
   rw [if_neg k5]
   obtain ⟨r,h1,h0,h2⟩:=j7 hnb
   exact ⟨r,h1,h0,by rw [h2,hnb];rfl⟩
 unfold xZ sM
 have hix:ix d.Body (i:Int)=some p:=by rw [gK];exact hi
 rw [hix,aA,aVJ,aA]
 by_cases hk:aMK p=true
 ·rw [if_neg (by simp [hk]),hk]
  obtain ⟨r,h1,h0,h2⟩:=j8
  have hand:(true&&(!(p.Kind == 1)||qM p.Name)&&aBn l.length p&&aLl l p&&(!(p.Kind == 5)||pl.behind)&&(!(p.Kind == 4)||decide (pl.scope < 6))&&p.Arguments.all (okE pl.scope))=((!(p.Kind == 1)||qM p.Name)&&(aBn l.length p&&(aLl l p&&((!(p.Kind == 5)||pl.behind)&&(!(p.Kind == 4)||decide (pl.scope < 6))&&p.Arguments.all (okE pl.scope))))):=by
   simp only [Bool.true_and,Bool.and_assoc]
  rw [hand]
  by_cases k1:(p.Kind == 1)=true
  ·rw [if_pos k1,k1,aHk,aA]
   by_cases hnm:qM p.Name=true
   ·rw [hnm]
    exact ⟨r,h1,h0,by rw [h2];simp⟩
   ·have hnm':qM p.Name=false:=by simpa using hnm
    rw [hnm']
    exact ⟨3,rfl,by omega,by simp⟩
  ·have k1':(p.Kind == 1)=false:=by simpa using k1
   rw [if_neg k1,k1']
   exact ⟨r,h1,h0,by rw [h2];simp⟩
 ·have hk':aMK p=false:=by simpa using hk
  rw [if_pos (by simp [hk']),hk']
  exact ⟨2,rfl,by omega,by simp⟩
end
noncomputable def aCb (l:List Definition) (d:Definition):Bool:=open Classical in decide (d.Body.length<=20/\∃ t:GTr Part,d.Body=t.flat/\t.WF iJ/\∀ (i:Nat) p pl,d.Body[i]?=some p->(plT d.Parameters false t)[i]?=some pl->sM l pl p=true)
theorem aJN:∀ (t:GTr Part) (s:Int) (b:Bool) (pl:dJ),pl∈plT s b t->s<=pl.scope/\pl.scope<=s+t.flat.length
 |.nul p,s,b,pl,h=>by simp [plT] at h;subst h;simp;omega
 |.one p a,s,b,pl,h=>by
  have hb:=aNz s p
  simp only [plT,List.mem_cons] at h
  simp only [GTr.flat,List.length_cons]
  rcases h with rfl|h
  ·simp only;omega
  ·have:=aJN a _ _ pl h;omega
 |.two p a c,s,b,pl,h=>by
  have hb:=aNz s p
  simp only [plT,List.mem_cons,List.mem_append] at h
  simp only [GTr.flat,List.length_cons,List.length_append]
  rcases h with rfl|h|h
  ·simp only;omega
  ·have:=aJN a _ _ pl h;omega
  ·have:=aJN c _ _ pl h;omega
theorem tree_of {d:Definition} (h:qH tt iJ 1 d.Body=true):∃ t:GTr Part,d.Body=t.flat/\t.WF iJ:=by
 obtain ⟨ts,h1,h2,h3⟩:=aLh aMD h
 match ts,h1 with
 |[t],_=>exact ⟨t,by rw [h2];simp,h3 t (by simp)⟩
theorem need_tree {d:Definition} {t:GTr Part} (h:d.Body=t.flat) (hw:t.WF iJ):qH tt iJ 1 d.Body=true:=by
 have:=aJM (ok:=tt) t 0 [] hw (fun _ _=>rfl)
 rw [List.append_nil,←h] at this
 rw [this];rfl
theorem aUf:∀ (t u:GTr Part) (x y:List Part),t.WF iJ->u.WF iJ->t.flat++x=u.flat++y->t=u/\x=y:=by
 intro t
 induction t with
 |nul p=>
  intro u x y hw hu h
  cases u with
  |nul q=>simp [GTr.flat] at h;exact ⟨by rw [h.1],h.2⟩
  |one q a=>simp only [GTr.flat,List.cons_append,List.nil_append,List.cons.injEq] at h;rw [h.1] at hw;have h1:iJ q=0:=hw;have h2:=hu.1;omega
  |two q a c=>simp only [GTr.flat,List.cons_append,List.nil_append,List.cons.injEq] at h;rw [h.1] at hw;have h1:iJ q=0:=hw;have h2:=hu.1;omega
 |one p a iha=>
  intro u x y hw hu h
  cases u with
  |nul q=>simp only [GTr.flat,List.cons_append,List.nil_append,List.cons.injEq] at h;have h1:iJ q=0:=hu;have h2:=hw.1;rw [h.1] at h2;omega
  |one q b=>
   simp only [GTr.flat,List.cons_append,List.cons.injEq] at h
   obtain ⟨e1,e2⟩:=iha b x y hw.2 hu.2 h.2
   exact ⟨by rw [h.1,e1],e2⟩
  |two q b c=>simp only [GTr.flat,List.cons_append,List.cons.injEq] at h;have h1:=hu.1;have h2:=hw.1;rw [h.1] at h2;omega
 |two p a c iha ihc=>
  intro u x y hw hu h
  cases u with
  |nul q=>simp only [GTr.flat,List.cons_append,List.nil_append,List.cons.injEq] at h;have h1:iJ q=0:=hu;have h2:=hw.1;rw [h.1] at h2;omega
  |one q b=>simp only [GTr.flat,List.cons_append,List.cons.injEq] at h;have h1:=hu.1;have h2:=hw.1;rw [h.1] at h2;omega
  |two q b e=>
   simp only [GTr.flat,List.cons_append,List.cons.injEq,List.append_assoc] at h
   obtain ⟨e1,e2⟩:=iha b _ _ hw.2.1 hu.2.1 h.2
   obtain ⟨e3,e4⟩:=ihc e x y hw.2.2 hu.2.2 e2
   exact ⟨by rw [h.1,e1,e3],e4⟩
def PartFit (p:Part):Prop:=p.Name.length < 1000000000/\p.Arguments.length < 1000000000/\∀ e∈p.Arguments,e.length < 1000000000
theorem aRw {l:List Definition} {d:Definition} (hl:l.length<=1000000) (hb:d.Body.length < 1000000000) (hf:∀ p∈d.Body,PartFit p) (h0:0<=d.Parameters) (h3:d.Parameters<=3):
  (∃ r,yG l d=some r/\(r.2 != 0)=!aCb l d)/\(∃ r,aDq l d=some r/\decide (0 < r.2)=!aCb l d):=by
 classical
 have hbF:¬ (d.Body.length<=20/\qH tt iJ 1 d.Body=true)->aCb l d=false:=by
  intro h
  unfold aCb
  rw [decide_eq_false_iff_not]
  rintro ⟨g1,t,g2,g3,_⟩
  exact h ⟨g1,need_tree g2 g3⟩
 by_cases hsh:d.Body.length<=20/\qH tt iJ 1 d.Body=true
 ·obtain ⟨h20,hnd⟩:=hsh
  obtain ⟨t,ht,hw⟩:=tree_of hnd
  have hlen:(plT d.Parameters false t).length=d.Body.length:=by rw [pK,←ht]
  have hne:1<=d.Body.length:=by have:=aTW hnd;omega
  have hB:aCb l d=decide (∀ (i:Nat) p pl,d.Body[i]?=some p->(plT d.Parameters false t)[i]?=some pl->sM l pl p=true):=by
   unfold aCb
   by_cases h:∀ (i:Nat) p pl,d.Body[i]?=some p->(plT d.Parameters false t)[i]?=some pl->sM l pl p=true
   ·rw [decide_eq_true h,decide_eq_true_iff];exact ⟨h20,t,ht,hw,h⟩
   ·rw [decide_eq_false h,decide_eq_false_iff_not]
    rintro ⟨_,u,hu,hwu,hx⟩
    have:t=u:=(aUf t u [] [] hw hwu (by rw [List.append_nil,List.append_nil,←ht,←hu])).1
    subst this
    exact h hx
  have hsc:∀ (i:Nat) pl,(plT d.Parameters false t)[i]?=some pl->0<=pl.scope/\pl.scope<=29:=by
   intro i pl hp
   have:=aJN t _ _ pl (List.mem_of_getElem? hp)
   rw [←ht] at this
   omega
  have hall:∀ (k:Nat),k < d.Body.length->∃ p pl,d.Body[k]?=some p/\(plT d.Parameters false t)[k]?=some pl:=fun k hk=>⟨_,_,List.getElem?_eq_getElem hk,List.getElem?_eq_getElem (by omega)⟩
  let q:Nat->Bool:=fun k=>match d.Body[k]?,(plT d.Parameters false t)[k]? with|some p,some pl=>sM l pl p|_,_=>true
  have hq:∀ k p pl,d.Body[k]?=some p->(plT d.Parameters false t)[k]?=some pl->q k=sM l pl p:=fun k p pl h1 h2=>by show (match d.Body[k]?,(plT d.Parameters false t)[k]? with|some p,some pl=>sM l pl p|_,_=>true)=_;rw [h1,h2]
  have hqB:∀ b:Bool,(b=true<->∀ k,0<=k->k < d.Body.length->q k=true)->b=aCb l d:=by
   intro b hbq
   rw [hB]
   by_cases h:∀ (i:Nat) p pl,d.Body[i]?=some p->(plT d.Parameters false t)[i]?=some pl->sM l pl p=true
   ·rw [decide_eq_true h]
    exact hbq.2 (fun k _ hk=>by obtain ⟨p,pl,h1,h2⟩:=hall k hk;rw [hq k p pl h1 h2];exact h k p pl h1 h2)
   ·rw [decide_eq_false h]
    cases hb2:b
    ·rfl
    ·exact absurd (fun i p pl h1 h2=>by rw [←hq i p pl h1 h2];exact hbq.1 hb2 i (Nat.zero_le _) ((List.getElem?_eq_some_iff.1 h1).1)) h
  constructor
  ·unfold yG
   rw [gV,aA,if_neg (by simp;omega)]
   obtain ⟨re,hre,hre2⟩:=aTX (d:=d) hb
   rw [hre,aA,hre2,hnd]
   unfold tT
   rw [if_neg (by simp),placesG ht hw h20 h0 h3,aA]
   have key:∀ k,k < d.Body.length->∃ r,sA (d.Body.getD k ⟨0,0,[],[]⟩) l ((plT d.Parameters false t).getD k ⟨0,false⟩)=some r/\(r != 0)=!q k:=by
    intro k hk
    obtain ⟨p,pl,h1,h2⟩:=hall k hk
    obtain ⟨s1,s2⟩:=hsc k pl h2
    obtain ⟨f1,f2,f3⟩:=hf p (List.mem_of_getElem? h1)
    obtain ⟨r,e1,e2⟩:=reason_I (l:=l) (p:=p) (pl:=pl) s1 s2 hl f1 f2 f3
    refine ⟨r,?_,by rw [e2,hq k p pl h1 h2]⟩
    simp only [List.getD,h1,h2,Option.getD_some];exact e1
   have hloop:=yU (step:=fun s=>tS l d (plT d.Parameters false t) s) (fun s=>0<=s/\s<=d.Body.length/\∀ j:Nat,(j:Int) < s->q j=true) (fun s=>d.Body.length - s.toNat) (fun r=>(∃ x,r=.inr x/\x.2≠0/\∃ j,j < d.Body.length/\q j=false)\/(r=.inl ()/\∀ j,j < d.Body.length->q j=true)) (fun s hI=>?_) (s:=0) ⟨by omega,by omega,fun j hj=>by omega⟩
   ·obtain ⟨r,hr,hR⟩:=hloop
    rw [hr,aA]
    rcases hR with ⟨x,rfl,hx,j,hj,hqj⟩|⟨rfl,hqa⟩
    ·refine ⟨x,rfl,?_⟩
     have:aCb l d=false:=by
      rw [←hqB false ⟨fun h=>(by cases h),fun h=>by rw [h j (Nat.zero_le _) hj] at hqj;cases hqj⟩]
     rw [this];simp [hx]
    ·refine ⟨(0,0),rfl,?_⟩
     rw [←hqB true ⟨fun _ k _ hk=>hqa k hk,fun _=>rfl⟩];rfl
   ·obtain ⟨h1,h2,h3'⟩:=hI
    obtain ⟨k,rfl⟩:∃ k:Nat,s=(k:Int):=⟨s.toNat,by omega⟩
    by_cases hk:k < d.Body.length
    ·obtain ⟨r,e1,e2⟩:=key k hk
     have g1:d.Body.getD k ⟨0,0,[],[]⟩=d.Body[k]:=by simp [List.getD,hk]
     have g2:(plT d.Parameters false t).getD k ⟨0,false⟩=(plT d.Parameters false t)[k]'(by omega):=by simp [List.getD,hlen,hk]
     rw [g1,g2] at e1
     have hst:tS l d (plT d.Parameters false t) (k:Int)=if (r != 0)=true then some (.inr (.inr ((k:Int),r))) else some (.inl ((k+1:Nat):Int)):=by
      unfold tS
      rw [if_pos (aY hk),aU hk,aA,aU (show k < (plT d.Parameters false t).length by omega),aA,e1,aA,aV hk (by omega)]
     rw [hst]
     by_cases hr:(r != 0)=true
     ·right;rw [if_pos hr]
      refine ⟨_,rfl,.inl ⟨_,rfl,by simpa using hr,k,hk,?_⟩⟩
      rw [hr] at e2;simpa using e2.symm
     ·left;rw [if_neg hr]
      have hr':(r != 0)=false:=by simpa using hr
      rw [hr'] at e2
      refine ⟨_,rfl,⟨by omega,by omega,fun j hj=>?_⟩,by omega⟩
      by_cases e:j=k
      ·subst e;simpa using e2.symm
      ·exact h3' j (by omega)
    ·obtain rfl:k=d.Body.length:=by omega
     right
     refine ⟨.inl (),?_,.inr ⟨rfl,fun j hj=>h3' j (by omega)⟩⟩
     unfold tS
     rw [if_neg (by simp)]
  ·unfold aDq
   rw [aRs _ hb,aA,hnd,if_neg (by simp;exact h20)]
   have key:∀ k,k < d.Body.length->∃ r,xZ l d (k:Int)=some r/\0<=r/\(r != 0)=!q k:=by
    intro k hk
    obtain ⟨p,pl,h1,h2⟩:=hall k hk
    obtain ⟨s1,s2⟩:=hsc k pl h2
    obtain ⟨f1,f2,f3⟩:=hf p (List.mem_of_getElem? h1)
    have hbe:=behind_eq t d.Parameters false k pl hw h2
    rw [←ht] at hbe
    obtain ⟨r,e1,e0,e2⟩:=reason_S (l:=l) (p:=p) (pl:=pl) hl h20 h1 (scope_eq ht hw h20 h0 h3 h2) hbe s1 s2 f2 f3
    exact ⟨r,e1,e0,by rw [e2,hq k p pl h1 h2]⟩
   have hloop:=yU (step:=fun s=>zQ l d s) (fun s=>0<=s/\s<=d.Body.length/\∀ j:Nat,(j:Int) < s->q j=true) (fun s=>d.Body.length - s.toNat) (fun r=>(∃ x,r=.inr x/\0 < x.2/\∃ j,j < d.Body.length/\q j=false)\/(r=.inl ()/\∀ j,j < d.Body.length->q j=true)) (fun s hI=>?_) (s:=0) ⟨by omega,by omega,fun j hj=>by omega⟩
   ·obtain ⟨r,hr,hR⟩:=hloop
    rw [hr,aA]
    rcases hR with ⟨x,rfl,hx,j,hj,hqj⟩|⟨rfl,hqa⟩
    ·refine ⟨x,rfl,?_⟩
     have:aCb l d=false:=by
      rw [←hqB false ⟨fun h=>(by cases h),fun h=>by rw [h j (Nat.zero_le _) hj] at hqj;cases hqj⟩]
     rw [this];simp [hx]
    ·refine ⟨(0,0),rfl,?_⟩
     rw [←hqB true ⟨fun _ k _ hk=>hqa k hk,fun _=>rfl⟩];rfl
   ·obtain ⟨h1,h2,h3'⟩:=hI
    obtain ⟨k,rfl⟩:∃ k:Nat,s=(k:Int):=⟨s.toNat,by omega⟩
    by_cases hk:k < d.Body.length
    ·obtain ⟨r,e1,e0,e2⟩:=key k hk
     have hst:zQ l d (k:Int)=if decide (0 < r)=true then some (.inr (.inr ((k:Int),r))) else some (.inl ((k+1:Nat):Int)):=by
      unfold zQ
      rw [if_pos (aY hk),e1,aA,aV hk (by omega)]
     have hr2:decide (0 < r)=(r != 0):=by
      by_cases h:r=0
      ·simp [h]
      ·have:0 < r:=by omega
       simp [h,this]
     rw [hst,hr2]
     by_cases hr:(r != 0)=true
     ·right;rw [if_pos hr]
      refine ⟨_,rfl,.inl ⟨_,rfl,by rw [hr] at hr2;simpa using hr2,k,hk,?_⟩⟩
      rw [hr] at e2;simpa using e2.symm
     ·left;rw [if_neg hr]
      have hr':(r != 0)=false:=by simpa using hr
      rw [hr'] at e2
      refine ⟨_,rfl,⟨by omega,by omega,fun j hj=>?_⟩,by omega⟩
      by_cases e:j=k
      ·subst e;simpa using e2.symm
      ·exact h3' j (by omega)
    ·obtain rfl:k=d.Body.length:=by omega
     right
     refine ⟨.inl (),?_,.inr ⟨rfl,fun j hj=>h3' j (by omega)⟩⟩
     unfold zQ
     rw [if_neg (by simp)]
 ·rw [hbF hsh]
  constructor
  ·unfold yG
   rw [gV,aA]
   by_cases hz:(decide (1<=(d.Body.length:Int))&&decide ((d.Body.length:Int)<=20))=true
   ·rw [if_neg (by rw [hz];simp)]
    simp only [Bool.and_eq_true,decide_eq_true_eq] at hz
    obtain ⟨re,hre,hre2⟩:=aTX (d:=d) hb
    have hnd:qH tt iJ 1 d.Body=false:=by
     cases h:qH tt iJ 1 d.Body
     ·rfl
     ·exact absurd ⟨by omega,h⟩ hsh
    rw [hre,aA,hre2,hnd]
    exact ⟨(0,1),rfl,rfl⟩
   ·have hz':(decide (1<=(d.Body.length:Int))&&decide ((d.Body.length:Int)<=20))=false:=by simpa using hz
    rw [hz']
    exact ⟨(0,1),rfl,rfl⟩
  ·unfold aDq
   have hz:(decide (d.Body.length<=20)&&qH tt iJ 1 d.Body)=false:=by
    rw [Bool.and_eq_false_iff]
    by_cases h:d.Body.length<=20
    ·right
     cases h2:qH tt iJ 1 d.Body
     ·rfl
     ·exact absurd ⟨h,h2⟩ hsh
    ·left;simpa using h
   rw [aRs _ hb,aA,hz]
   exact ⟨(0,1),rfl,rfl⟩
end Gv
namespace Gv
def aJY (d:Definition):Bool:=decide (0<=d.Parameters)&&decide (d.Parameters<=3)
theorem aVL (l:List Definition) (hl:l.length < 1000000000):cK l=some (!l.all aJY):=by
 unfold cK cQ
 have:=aMJ (step:=fun s=>bU l s) l (fun d=>!aJY d) (by omega) (fun k x hk hix hm=>?_) ?_
 ·have e:(l.any fun d=>!aJY d)=!l.all aJY:=by simp [List.any_eq_not_all_not]
  rw [←e,←this];rfl
 ·simp only [bU,aY hk,if_true,hix,aA,aAp,gV]
  rfl
 ·simp only [bU,bE];rfl
theorem params_eq (l:List Definition) (hl:l.length < 1000000000):aAq l=some (l.all aJY):=by
 unfold aAq
 rw [aVL l hl,aA,Bool.not_not]
theorem named_eq (l:List Definition) (n:aH) (hl:l.length < 1000000000):∃ r,oA l n=some r/\decide (0<=r)=l.any (fun d=>d.Name == n):=by
 unfold oA cL
 rw [yO (step:=fun s=>bP l n s) l (fun d=>d.Name == n) (fun k x hk hx=>by simp only [bP,aY hk,if_true,hx,aA,tQ,aV hk (show l.length < 4611686018427387904 by omega)]) (by simp only [bP,bE];rfl),aA,←aJh]
 cases l.findIdx? (fun d=>d.Name == n) with
 |none=>exact ⟨-1,rfl,rfl⟩
 |some i=>exact ⟨i,rfl,by simp⟩
def lK (l:List Definition):Prop:=1<=l.length/\l.length<=4/\(∀ d∈l,aJY d=true)/\(∀ d∈l,aCb l d=true)/\∀ k (hk:k < l.length),qM l[k].Name=true/\(l.take k).any (fun d=>d.Name == l[k].Name)=false
def DefFit (d:Definition):Prop:=d.Name.length < 1000000000/\d.Body.length < 1000000000/\∀ p∈d.Body,PartFit p
theorem slcTk {α:Type} {xs:List α} {k:Nat} (h:k<=xs.length):slc xs 0 (k:Int)=some (xs.take k):=by
 unfold slc
 rw [if_pos ⟨by omega,by omega,by simpa using h⟩]
 simp
theorem defs_I (l:List Definition) (hl:l.length<=1000000) (hf:∀ d∈l,DefFit d):iT l=some (cl (lK l)):=by
 unfold iT
 rw [gV,aA]
 by_cases hz:1<=l.length/\l.length<=4
 ·rw [if_neg (by simp;omega),params_eq l (by omega),aA]
  unfold kF
  cases hp:l.all aJY with
  |false=>
   rw [if_pos (by rfl),uW]
   intro h
   have:=List.all_eq_true.2 h.2.2.1
   rw [hp] at this;cases this
  |true=>
   have hp':=List.all_eq_true.1 hp
   rw [if_neg (by simp)]
   have:=yP (step:=fun s=>kE l s) l.length 0 (fun k=>∀ hk:k < l.length,(qM l[k].Name=true/\(l.take k).any (fun d=>d.Name == l[k].Name)=false)/\aCb l l[k]=true) (.inr false) (.inl ()) (Nat.zero_le _) (fun k h0 hk=>?_) (by simp only [kE,bE];rfl)
   ·rw [show (0:Int)=((0:Nat):Int) from rfl,this,aA]
    by_cases hs:∀ k,0<=k->k < l.length->∀ hk:k < l.length,(qM l[k].Name=true/\(l.take k).any (fun d=>d.Name == l[k].Name)=false)/\aCb l l[k]=true
    ·rw [if_pos (aEF hs),aEF]
     ·rfl
     ·refine ⟨hz.1,hz.2,hp',fun d hd=>?_,fun k hk=>(hs k (Nat.zero_le _) hk hk).1⟩
      obtain ⟨k,hk,rfl⟩:=List.getElem_of_mem hd
      exact (hs k (Nat.zero_le _) hk hk).2
    ·rw [if_neg (by rw [aBi];exact hs),uW]
     intro h
     exact hs fun k _ hk _=>⟨h.2.2.2.2 k hk,h.2.2.2.1 _ (List.getElem_mem hk)⟩
   ·obtain ⟨f1,f2,f3⟩:=hf _ (List.getElem_mem hk)
    have hpk:=hp' _ (List.getElem_mem hk)
    simp only [aJY,Bool.and_eq_true,decide_eq_true_eq] at hpk
    have htk:(l.take k).length < 1000000000:=by rw [List.length_take];omega
    obtain ⟨r,hr1,hr2⟩:=named_eq (l.take k) l[k].Name htk
    obtain ⟨⟨r2,hb1,hb2⟩,_⟩:=aRw (l:=l) (d:=l[k]) hl f2 f3 hpk.1 hpk.2
    unfold kE mX
    rw [if_pos (aY hk),aU hk,aA,aRe _ (by omega),aA,slcTk (by omega),aA,hr1,aA,hr2,hb1,aA,hb2,aV hk (by omega)]
    cases hn:qM l[k].Name with
    |false=>rw [uW (fun h=>by have:=(h hk).1.1;rw [hn] at this;cases this)];rfl
    |true=>
     cases ha:(l.take k).any (fun d=>d.Name == l[k].Name) with
     |true=>rw [uW (fun h=>by have:=(h hk).1.2;rw [ha] at this;cases this)];rfl
     |false=>
      cases hb:aCb l l[k] with
      |false=>rw [uW (fun h=>by have:=(h hk).2;rw [hb] at this;cases this)];rfl
      |true=>rw [aEF (fun _=>⟨⟨hn,ha⟩,hb⟩)];rfl
 ·have:(decide (1<=(l.length:Int))&&decide ((l.length:Int)<=4))=false:=by
   rw [Bool.and_eq_false_iff]
   by_cases h:1<=l.length
   ·right;simp;omega
   ·left;simp;omega
  rw [this,uW (fun h=>hz ⟨h.1,h.2.1⟩)];rfl
theorem defs_S (l:List Definition) (hl:l.length<=1000000) (hf:∀ d∈l,DefFit d):aAS l=some (cl (lK l)):=by
 unfold aAS
 by_cases h0:l.length=0
 ·rw [if_pos (by simp [h0]),uW (fun h:lK l=>by have:=h.1;omega)];rfl
 rw [if_neg (by simp;intro h;simp [h] at h0)]
 unfold uF
 by_cases h4:4 < l.length
 ·rw [if_pos (by simp;omega),uW (fun h:lK l=>by have:=h.2.1;omega)]
 rw [if_neg (by simp;omega)]
 have key:=yP (step:=fun s=>zW l s) l.length 0 (fun k=>∀ hk:k < l.length,(qM l[k].Name=true/\(l.take k).any (fun d=>d.Name == l[k].Name)=false)/\aJY l[k]=true) (.inr false) (.inl ()) (Nat.zero_le _) (fun k h0 hk=>?_) (by simp only [zW,bE];rfl)
 ·rw [show (0:Int)=((0:Nat):Int) from rfl,key,aA]
  by_cases hs:∀ k,0<=k->k < l.length->∀ hk:k < l.length,(qM l[k].Name=true/\(l.take k).any (fun d=>d.Name == l[k].Name)=false)/\aJY l[k]=true
  ·rw [if_pos (aEF hs)]
   show zU l=_
   have hp':∀ d∈l,aJY d=true:=fun d hd=>by obtain ⟨k,hk,rfl⟩:=List.getElem_of_mem hd;exact (hs k (Nat.zero_le _) hk hk).2
   unfold zU
   have key2:=yP (step:=fun s=>aCI l s) l.length 0 (fun k=>∀ hk:k < l.length,aCb l l[k]=true) (.inr false) (.inl ()) (Nat.zero_le _) (fun k h0 hk=>?_) (by simp only [aCI,bE];rfl)
   ·rw [show (0:Int)=((0:Nat):Int) from rfl,key2,aA]
    by_cases hb:∀ k,0<=k->k < l.length->∀ hk:k < l.length,aCb l l[k]=true
    ·rw [if_pos (aEF hb),aEF (P:=lK l)]
     ·rfl
     ·exact ⟨by omega,by omega,hp',fun d hd=>by obtain ⟨k,hk,rfl⟩:=List.getElem_of_mem hd;exact hb k (Nat.zero_le _) hk hk,fun k hk=>(hs k (Nat.zero_le _) hk hk).1⟩
    ·rw [if_neg (by rw [aBi];exact hb),uW (P:=lK l) (fun h=>hb fun k _ hk _=>h.2.2.2.1 _ (List.getElem_mem hk))]
   ·obtain ⟨f1,f2,f3⟩:=hf _ (List.getElem_mem hk)
    have hpk:=hp' _ (List.getElem_mem hk)
    simp only [aJY,Bool.and_eq_true,decide_eq_true_eq] at hpk
    obtain ⟨_,r2,hb1,hb2⟩:=aRw (l:=l) (d:=l[k]) hl f2 f3 hpk.1 hpk.2
    unfold aCI
    rw [if_pos (aY hk),aU hk,aA,hb1,aA,hb2,aV hk (by omega)]
    cases hb:aCb l l[k] with
    |false=>rw [uW (fun h=>by have:=h hk;rw [hb] at this;cases this)];rfl
    |true=>rw [aEF (fun _=>hb)];rfl
  ·rw [if_neg (by rw [aBi];exact hs),uW (P:=lK l) (fun h=>hs fun k _ hk _=>⟨h.2.2.2.2 k hk,h.2.2.1 _ (List.getElem_mem hk)⟩)]
 ·unfold zW
  rw [if_pos (aY hk),aU hk,aA,aHk,aA,aEt,aA]
  unfold zV
  have inner:=yP (step:=fun s=>aCL l (k:Int) s) k 0 (fun j=>∀ hj:j < l.length,¬ (l[j].Name == l[k].Name)=true) (.inr false) (.inl ()) (Nat.zero_le _) (fun j _ hj=>?_) (by unfold aCL;rw [if_neg (by simp)])
  ·rw [show (0:Int)=((0:Nat):Int) from rfl,inner,aA]
   have hpar:(decide ((((0:Nat):Int))<=l[k].Parameters)&&decide (l[k].Parameters<=3))=aJY l[k]:=rfl
   have hany:cl (∀ j,0<=j->j < k->∀ hj:j < l.length,¬ (l[j].Name == l[k].Name)=true)=!(l.take k).any (fun d=>d.Name == l[k].Name):=by
    cases ha:(l.take k).any (fun d=>d.Name == l[k].Name) with
    |true=>
     rw [uW];· rfl
     intro h
     obtain ⟨d,hd,hdn⟩:=List.any_eq_true.1 ha
     obtain ⟨j,hj,rfl⟩:=List.getElem_of_mem hd
     rw [List.length_take] at hj
     rw [List.getElem_take] at hdn
     exact h j (Nat.zero_le _) (by omega) (by omega) hdn
    |false=>
     rw [aEF];· rfl
     intro j _ hj hjl hn
     have:=List.any_eq_false.1 ha l[j] (by rw [List.mem_iff_getElem];exact ⟨j,by rw [List.length_take];omega,by rw [List.getElem_take]⟩)
     exact this hn
   rw [hany]
   cases hn:qM l[k].Name with
   |false=>rw [uW (fun h=>by have:=(h hk).1.1;rw [hn] at this;cases this)];rfl
   |true=>
    cases hpb:aJY l[k] with
    |false=>
     rw [uW (fun h=>by have:=(h hk).2;rw [hpb] at this;cases this)]
     have:(decide (0<=l[k].Parameters)&&decide (l[k].Parameters<=3))=false:=hpb
     rw [show ((0:Nat):Int)=0 from rfl,this];rfl
    |true=>
     have:(decide (0<=l[k].Parameters)&&decide (l[k].Parameters<=3))=true:=hpb
     rw [show ((0:Nat):Int)=0 from rfl,this]
     cases ha:(l.take k).any (fun d=>d.Name == l[k].Name) with
     |true=>rw [uW (fun h=>by have:=(h hk).1.2;rw [ha] at this;cases this)];rfl
     |false=>
      rw [aEF (fun _=>⟨⟨hn,ha⟩,hpb⟩)]
      show aCK (k:Int)=_
      unfold aCK aCJ
      rw [aV hk (by omega)];rfl
  ·unfold aCL
   rw [if_pos (aY hj),aU (show j < l.length by omega),aA,aU hk,aA,aV (show j < l.length by omega) (by omega)]
   cases he:(l[j].Name == l[k].Name) with
   |true=>rw [uW (fun h=>h (by omega) he)];rfl
   |false=>rw [aEF (fun _=>by rw [he];simp)];rfl
def aCc (l:List Definition) (c:aZ):Bool:=decide (0<=c.Definition)&&decide (c.Definition < (l.length:Int))&&(c.Values.length:Int) == (l.getD c.Definition.toNat ⟨[],0,[]⟩).Parameters&&c.Values.all oP
theorem aVN (xs:List Int) (h:xs.length < 4611686018427387904):aFU xs=some (xs.all oP):=by
 unfold aFU
 rw [aAH (step:=fun s=>aCM xs s) xs oP (.inr false) (.inl ()) (fun k x hk hx=>by
  simp only [aCM,aY hk,if_pos,hx,aA,aEt,aV hk h]
  show (if (!oP x)=true then _ else _)=_
  cases oP x<;>rfl) (by simp only [aCM,bE];rfl),aA]
 cases xs.all oP<;>rfl
theorem comp_I {l:List Definition} {c:aZ} (hl:l.length<=1000000) (hc:c.Values.length < 1000000000):wC l c=some (aCc l c):=by
 unfold wC qE aCc
 rw [aRu _ _ (by omega) (by omega),aA]
 have hle:(decide (0<=c.Definition)&&decide (c.Definition<=(l.length:Int) - 1))=(decide (0<=c.Definition)&&decide (c.Definition < (l.length:Int))):=by
  congr 1;by_cases h:c.Definition < (l.length:Int)
  ·simp [h];omega
  ·simp [h];omega
 rw [hle]
 by_cases hb:(decide (0<=c.Definition)&&decide (c.Definition < (l.length:Int)))=true
 ·have hb2:=hb
  simp only [Bool.and_eq_true,decide_eq_true_eq] at hb2
  have hlt:c.Definition.toNat < l.length:=by omega
  have hix:ix l c.Definition=some (l[c.Definition.toNat]'hlt):=by unfold ix;rw [if_pos hb2.1];simp [hlt]
  have hg:l.getD c.Definition.toNat ⟨[],0,[]⟩=l[c.Definition.toNat]:=by simp [List.getD,hlt]
  rw [hb,if_pos rfl,hix,aA,hg,Bool.true_and]
  cases h:(c.Values.length:Int) == l[c.Definition.toNat].Parameters with
  |true=>rw [if_pos rfl,aMt _ (by omega)];rfl
  |false=>rfl
 ·have hb':(decide (0<=c.Definition)&&decide (c.Definition < (l.length:Int)))=false:=by simpa using hb
  rw [hb'];rfl
theorem comps_I {s:aR} (hl:s.Definitions.length<=1000000) (hn:s.Components.length < 1000000000) (hc:∀ c∈s.Components,c.Values.length < 1000000000):cP s.Components s=some (!s.Components.all (aCc s.Definitions)):=by
 unfold cP cY
 have:=aMJ (step:=fun x=>bV s.Components s x) s.Components (fun c=>!aCc s.Definitions c) (by omega) (fun k x hk hix hm=>?_) ?_
 ·have e:(s.Components.any fun c=>!aCc s.Definitions c)=!s.Components.all (aCc s.Definitions):=by simp [List.any_eq_not_all_not]
  rw [←e,←this];rfl
 ·simp only [bV,aY hk,if_true,hix,aA,aAZ,comp_I hl (hc x hm)]
 ·simp only [bV,bE];rfl
theorem comps_S {s:aR} (hl:s.Definitions.length<=1000000) (hn:s.Components.length < 1000000000) (hc:∀ c∈s.Components,c.Values.length < 1000000000):rQ s=some (decide (1<=s.Components.length)&&decide (s.Components.length<=3)&&s.Components.all (aCc s.Definitions)):=by
 unfold rQ
 by_cases h0:s.Components.length=0
 ·rw [if_pos (by simp [h0]),h0];rfl
 rw [if_neg (by simp;intro h;simp [h] at h0)]
 unfold mP
 by_cases h4:3 < s.Components.length
 ·rw [if_pos (by simp;omega)]
  have:decide (s.Components.length<=3)=false:=by simp;omega
  rw [this];simp
 rw [if_neg (by simp;omega)]
 have e1:decide (1<=s.Components.length)=true:=by simp;omega
 have e2:decide (s.Components.length<=3)=true:=by simp;omega
 rw [e1,e2,aAH (step:=fun x=>mO s x) s.Components (aCc s.Definitions) (.inr false) (.inl ()) (fun k x hk hix=>?_) (by simp only [mO,bE];rfl),aA]
 ·cases s.Components.all (aCc s.Definitions)<;>rfl
 ·have hm:x∈s.Components:=by rw [aU hk] at hix;cases hix;exact List.getElem_mem hk
  have hw:wr ((s.Definitions.length:Int) - 1)=(s.Definitions.length:Int) - 1:=eG (by omega) (by omega)
  have hle:(decide (0<=x.Definition)&&decide (x.Definition<=(s.Definitions.length:Int) - 1))=(decide (0<=x.Definition)&&decide (x.Definition < (s.Definitions.length:Int))):=by
   congr 1;by_cases h:x.Definition < (s.Definitions.length:Int)
   ·simp [h];omega
   ·simp [h];omega
  unfold mO qZ aCc
  rw [if_pos (aY hk),hix,aA,hw,aEt,aA,hle,aV hk (by omega)]
  by_cases hb:(decide (0<=x.Definition)&&decide (x.Definition < (s.Definitions.length:Int)))=true
  ·have hb2:=hb
   simp only [Bool.and_eq_true,decide_eq_true_eq] at hb2
   have hlt:x.Definition.toNat < s.Definitions.length:=by omega
   have hdx:ix s.Definitions x.Definition=some (s.Definitions[x.Definition.toNat]'hlt):=by unfold ix;rw [if_pos hb2.1];simp [hlt]
   have hg:s.Definitions.getD x.Definition.toNat ⟨[],0,[]⟩=s.Definitions[x.Definition.toNat]:=by simp [List.getD,hlt]
   rw [hb,if_neg (by simp),hdx,aA,hg,Bool.true_and,aVN _ (by have:=hc x hm;omega),aA,bne]
   cases (x.Values.length:Int) == s.Definitions[x.Definition.toNat].Parameters<;>cases x.Values.all oP<;>rfl
  ·have hb':(decide (0<=x.Definition)&&decide (x.Definition < (s.Definitions.length:Int)))=false:=by simpa using hb
   rw [hb'];rfl
structure SysOk (s:aR):Prop where
 defs:lK s.Definitions
 n1:1<=s.Components.length
 n3:s.Components.length<=3
 comp:∀ c∈s.Components,aCc s.Definitions c=true
 meet:∀ m∈s.Meetings,iB m.Left=true/\iB m.Right=true/\iB m.Result=true
 alw:uZ s.Allowed
 hid:uZ s.Hidden
theorem aUh {ms:List aT} (hl:ms.length<=sz) (hm:∀ m∈ms,aMA sz m) (h:rK ms=some true):∀ m∈ms,iB m.Left=true/\iB m.Right=true/\iB m.Result=true:=by
 have hget:∀ {k:Nat} (hk:k < ms.length),ms.getD k ⟨[],[],[]⟩=ms[k]:=fun hk=>by rw [List.getD_eq_getElem?_getD,List.getElem?_eq_getElem hk];rfl
 obtain ⟨b,hb,hi⟩:=aDx (step:=fun s=>jW ms s) ms.length 0 (fun k=>mtB ms k (ms.getD k ⟨[],[],[]⟩)) (.inr false) (.inl ()) (Nat.zero_le _) (fun k _ hk=>by rw [hget hk];exact meet_i ms hl hm hk) (by simp only [jW,bE];rfl)
 unfold rK at h
 rw [show (0:Int)=((0:Nat):Int) from rfl,hi,aA] at h
 cases b with
 |false=>cases h
 |true=>
  intro m hmem
  obtain ⟨k,hk,rfl⟩:=List.getElem_of_mem hmem
  have:=hb.1 rfl k (Nat.zero_le _) hk
  rw [hget hk] at this
  simp only [mtB,Bool.and_eq_true] at this
  exact ⟨this.1.1.1.1.1,this.1.1.1.1.2,this.1.1.1.2⟩
theorem aVO {s:aR} (hz:zSys s<=sz):∃ B,wE s=some B/\aLN s=some B/\(B=true->SysOk s):=by
 have hf:=aMI hz
 obtain ⟨g1,g2,g3,g4,g5,g6,g7,g8,g9,g10⟩:=hf
 have hsz:sz=1048576:=rfl
 have hd1:s.Definitions.length<=1000000\/1000000 < s.Definitions.length:=by omega
 have hdf:∀ d∈s.Definitions,DefFit d:=fun d hd=>by
  obtain ⟨x,y,z⟩:=g2 d hd
  exact ⟨by omega,by omega,fun p hp=>let ⟨u,v,q⟩:=z p hp;⟨by omega,by omega,fun e he=>by have:=q e he;omega⟩⟩
 have hm:∀ m∈s.Meetings,aMA sz m:=g6
 obtain ⟨B,m1,m2⟩:=aVx s.Meetings g5 hm
 have a1:=aPV s.Allowed (by omega) (fun t ht=>by have:=g8 t ht;omega)
 have a2:=aNZ s.Allowed (by omega)
 have b1:=aPV s.Hidden (by omega) (fun t ht=>by have:=g10 t ht;omega)
 have b2:=aNZ s.Hidden (by omega)
 have hbig:1000000 < s.Definitions.length->iT s.Definitions=some false/\aAS s.Definitions=some false:=by
  intro h
  constructor
  ·unfold iT
   rw [gV,aA]
   have:(decide (1<=(s.Definitions.length:Int))&&decide ((s.Definitions.length:Int)<=4))=false:=by
    rw [Bool.and_eq_false_iff];right;simp;omega
   rw [this];rfl
  ·unfold aAS uF
   have h1:((s.Definitions.length:Int) == 0)=false:=by simp;intro h2;simp [h2] at h
   have h2:decide (4 < (s.Definitions.length:Int))=true:=by simp;omega
   rw [h1,h2];rfl
 rcases hd1 with hd1|hd1
 ·have d1:=defs_I _ hd1 hdf
  have d2:=defs_S _ hd1 hdf
  have c1:=comps_I (s:=s) hd1 (by omega) (fun c hc=>by have:=g4 c hc;omega)
  have c2:=comps_S (s:=s) hd1 (by omega) (fun c hc=>by have:=g4 c hc;omega)
  let C:=decide (1<=s.Components.length)&&decide (s.Components.length<=3)&&s.Components.all (aCc s.Definitions)
  refine ⟨cl (lK s.Definitions)&&C&&B&&cl (uZ s.Allowed)&&cl (uZ s.Hidden),?_,?_,?_⟩
  ·unfold wE wD
   rw [d1,aA,gV,aA,c1,aA]
   have hC:(decide (1<=(s.Components.length:Int))&&decide ((s.Components.length:Int)<=3))=(decide (1<=s.Components.length)&&decide (s.Components.length<=3)):=by
    have e1:decide (1<=(s.Components.length:Int))=decide (1<=s.Components.length):=by simp;omega
    have e2:decide ((s.Components.length:Int)<=3)=decide (s.Components.length<=3):=by simp;omega
    rw [e1,e2]
   rw [hC]
   unfold uR
   rw [m1,a1,b1]
   show _=some (cl (lK s.Definitions)&&(decide (1<=s.Components.length)&&decide (s.Components.length<=3)&&s.Components.all (aCc s.Definitions))&&B&&cl (uZ s.Allowed)&&cl (uZ s.Hidden))
   cases cl (lK s.Definitions)<;>cases (decide (1<=s.Components.length)&&decide (s.Components.length<=3))<;>cases s.Components.all (aCc s.Definitions)<;>cases B<;>cases cl (uZ s.Allowed)<;>cases cl (uZ s.Hidden)<;>rfl
  ·unfold aLN aGM
   rw [d2,aA,c2,aA,m2,aA,a2,aA,b2,aA]
   show _=some (cl (lK s.Definitions)&&(decide (1<=s.Components.length)&&decide (s.Components.length<=3)&&s.Components.all (aCc s.Definitions))&&B&&cl (uZ s.Allowed)&&cl (uZ s.Hidden))
   cases cl (lK s.Definitions)<;>cases (decide (1<=s.Components.length)&&decide (s.Components.length<=3)&&s.Components.all (aCc s.Definitions))<;>cases B<;>cases cl (uZ s.Allowed)<;>cases cl (uZ s.Hidden)<;>rfl
  ·intro h
   simp only [Bool.and_eq_true,C] at h
   obtain ⟨⟨⟨⟨h1,⟨⟨h2,h3⟩,h4⟩⟩,h5⟩,h6⟩,h7⟩:=h
   subst h5
   exact ⟨(aBi).1 h1,by simpa using h2,by simpa using h3,List.all_eq_true.1 h4,aUh g5 hm m1,(aBi).1 h6,(aBi).1 h7⟩
 ·obtain ⟨e1,e2⟩:=hbig hd1
  refine ⟨false,?_,?_,fun h=>by cases h⟩
  ·unfold wE wD
   rw [e1];rfl
  ·unfold aLN aGM
   rw [e2];rfl
end Gv
namespace Gv
section
variable {β:Type}
end
end Gv
