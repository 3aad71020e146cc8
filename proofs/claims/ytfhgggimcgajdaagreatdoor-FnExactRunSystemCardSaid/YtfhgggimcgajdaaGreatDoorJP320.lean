/- Lists of nodes that are trees, written from the root on; expressions of both sides. -/
import Derived.Test.YtfhgggimcgajdaaGreatDoorJP220
set_option linter.all false
namespace Gv
theorem fF {σ ρ:Type} {step:σ->Option (σ ⊕ ρ)} {s s':σ} (h:step s=some (.inl s')):loop step s=loop step s':=by rw [cX,h]
theorem fP {σ ρ:Type} {step:σ->Option (σ ⊕ ρ)} {s:σ} {r:ρ} (h:step s=some (.inr r)):loop step s=some r:=by rw [cX,h]
section
variable {β:Type}
inductive GT (β:Type) where
 |nul (x:β)
 |one (x:β) (a:GT β)
 |two (x:β) (a b:GT β)
def GT.flat:GT β->List β
 |.nul x=>[x]
 |.one x a=>x::a.flat
 |.two x a b=>x::(a.flat++b.flat)
def GT.WF (ar:β->Nat):GT β->Prop
 |.nul x=>ar x=0
 |.one x a=>ar x=1/\a.WF ar
 |.two x a b=>ar x=2/\a.WF ar/\b.WF ar
def qD (ok:β->Bool) (ar:β->Nat):Nat->List β->Bool
 |n,[]=>n == 0
 |0,_::_=>false
 |n+1,x::l=>ok x&&qD ok ar (n+ar x) l
theorem GT.flat_pos:∀ t:GT β,0 < t.flat.length
 |.nul _=>by simp [GT.flat]
 |.one _ _=>by simp [GT.flat]
 |.two _ _ _=>by simp [GT.flat]
theorem aPP {ok:β->Bool} {ar:β->Nat}:∀ {l:List β} {n:Nat},qD ok ar n l=true->∀ x∈l,ok x=true
 |[],_,_,x,hx=>by cases hx
 |y::l,0,h,_,_=>by simp [qD] at h
 |y::l,n+1,h,x,hx=>by
  simp only [qD,Bool.and_eq_true] at h
  rcases List.mem_cons.1 hx with rfl|hx
  ·exact h.1
  ·exact aPP h.2 x hx
theorem aIK {ok:β->Bool} {ar:β->Nat} (har:∀ x,ar x<=2):∀ {l:List β} {n:Nat},qD ok ar n l=true->∃ ts:List (GT β),ts.length=n/\l=ts.flatMap GT.flat/\∀ t∈ts,t.WF ar
 |[],n,h=>by
  simp only [qD,beq_iff_eq] at h
  subst h
  exact ⟨[],rfl,rfl,by simp⟩
 |x::l,0,h=>by simp [qD] at h
 |x::l,n+1,h=>by
  simp only [qD,Bool.and_eq_true] at h
  obtain ⟨ts,h1,h2,h3⟩:=aIK har h.2
  have hx:=har x
  by_cases e0:ar x=0
  ·refine ⟨.nul x::ts,by rw [List.length_cons,h1,e0],by rw [List.flatMap_cons,h2];rfl,fun t ht=>?_⟩
   rcases List.mem_cons.1 ht with rfl|ht
   ·exact e0
   ·exact h3 t ht
  by_cases e1:ar x=1
  ·match ts,h1,h2,h3 with
   |a::ts,h1,h2,h3=>
    refine ⟨.one x a::ts,by rw [List.length_cons] at h1 ⊢;omega,by rw [h2];simp [GT.flat],fun t ht=>?_⟩
    rcases List.mem_cons.1 ht with rfl|ht
    ·exact ⟨e1,h3 a (by simp)⟩
    ·exact h3 t (List.mem_cons_of_mem _ ht)
   |[],h1,_,_=>simp at h1;omega
  have e2:ar x=2:=by omega
  match ts,h1,h2,h3 with
  |a::b::ts,h1,h2,h3=>
   refine ⟨.two x a b::ts,by rw [List.length_cons,List.length_cons] at h1;rw [List.length_cons];omega,by rw [h2];simp [GT.flat],fun t ht=>?_⟩
   rcases List.mem_cons.1 ht with rfl|ht
   ·exact ⟨e2,h3 a (by simp),h3 b (by simp)⟩
   ·exact h3 t (List.mem_cons_of_mem _ (List.mem_cons_of_mem _ ht))
  |[a],h1,_,_=>simp at h1;omega
  |[],h1,_,_=>simp at h1;omega
theorem aHL {ok:β->Bool} {ar:β->Nat}:∀ (t:GT β) (n:Nat) (l:List β),t.WF ar->(∀ x∈t.flat,ok x=true)->qD ok ar (n+1) (t.flat++l)=qD ok ar n l
 |.nul x,n,l,h,ho=>by
  have h:ar x=0:=h
  simp [GT.flat,qD,h,ho x (by simp [GT.flat])]
 |.one x a,n,l,h,ho=>by
  have h1:ar x=1:=h.1
  have:=aHL a n l h.2 (fun y hy=>ho y (by simp [GT.flat,hy]))
  simp only [GT.flat,List.cons_append,qD,h1,this,ho x (by simp [GT.flat]),Bool.true_and]
 |.two x a b,n,l,h,ho=>by
  have h1:ar x=2:=h.1
  have e1:=aHL a (n+1) (b.flat++l) h.2.1 (fun y hy=>ho y (by simp [GT.flat,hy]))
  have e2:=aHL b n l h.2.2 (fun y hy=>ho y (by simp [GT.flat,hy]))
  simp only [GT.flat,List.cons_append,qD,h1,ho x (by simp [GT.flat]),Bool.true_and,List.append_assoc]
  rw [show n+2=n+1+1 from rfl,e1,e2]
theorem aKo {step:Int × Int->Option ((Int × Int) ⊕ (Int ⊕ Bool))} {e:List β} {ok:β->Bool} {ar:β->Nat} (har:∀ x,ar x<=2)
  (hs:∀ pre x post (n:Nat),e=pre++x::post->n<=2 * pre.length+1->step ((n:Int),(pre.length:Int))=if n=0 then some (.inr (.inr false)) else if ok x=true then some (.inl (((n - 1+ar x:Nat):Int),((pre.length+1:Nat):Int))) else some (.inr (.inr false)))
  (hs':∀ n,step (n,(e.length:Int))=some (.inr (.inl n))):∃ r,loop step (1,0)=some r/\(match r with|.inl r=>some (r == 0)|.inr b=>some b)=some (qD ok ar 1 e):=by
 have aux:∀ (l pre:List β) (n:Nat),e=pre++l->n<=2 * pre.length+1->∃ r,loop step ((n:Int),(pre.length:Int))=some r/\(match r with|.inl r=>some (r == 0)|.inr b=>some b)=some (qD ok ar n l):=by
  intro l
  induction l with
  |nil=>
   intro pre n he hn
   have:pre.length=e.length:=by rw [he];simp
   rw [cX,this,hs']
   refine ⟨_,rfl,?_⟩
   simp only [qD,Option.some.injEq]
   by_cases h:n=0
   ·subst h;rfl
   ·have h1:((n:Int) == 0)=false:=by simp;omega
    have h2:(n == 0)=false:=by simp;omega
    rw [h1,h2]
  |cons x l ih=>
   intro pre n he hn
   rw [cX,hs pre x l n he hn]
   match n with
   |0=>exact ⟨_,rfl,rfl⟩
   |n+1=>
    rw [if_neg (by omega)]
    have hx:=har x
    by_cases ho:ok x=true
    ·rw [if_pos ho]
     obtain ⟨r,h1,h2⟩:=ih (pre++[x]) (n+ar x) (by rw [he];simp) (by simp;omega)
     refine ⟨r,?_,?_⟩
     ·rw [show ((pre++[x]).length:Int)=((pre.length+1:Nat):Int) by simp] at h1
      exact h1
     ·rw [h2];simp only [qD,ho,Bool.true_and]
    ·rw [if_neg ho]
     refine ⟨_,rfl,?_⟩
     have:ok x=false:=by simpa using ho
     simp [qD,this]
 exact aux e [] 1 rfl (by simp)
theorem aMG {ρ:Type} {step:Int × Int->Option ((Int × Int) ⊕ ρ)} {e:List β} {ar:β->Nat} (fin:Int->ρ)
  (hs:∀ pre x post (n:Nat),e=pre++x::post->n<=e.length->step ((pre.length:Int),((n+1:Nat):Int))=some (.inl (((pre.length+1:Nat):Int),((n+ar x:Nat):Int))))
  (hs':∀ k,step (k,0)=some (.inr (fin k))):∀ (m:Nat) (ts:List (GT β)) (pre post:List β),(ts.flatMap GT.flat).length=m->e=pre++ts.flatMap GT.flat++post->(∀ t∈ts,t.WF ar)->loop step ((pre.length:Int),(ts.length:Int))=some (fin ((pre.length+(ts.flatMap GT.flat).length:Nat):Int)):=by
 intro m
 have hN:∀ (x:β) (ts:List (GT β)),((GT.nul x::ts).flatMap GT.flat).length=(ts.flatMap GT.flat).length+1:=fun x ts=>by rw [List.flatMap_cons,List.length_append];simp only [GT.flat,List.length_singleton];omega
 have hO:∀ (x:β) (a:GT β) (ts:List (GT β)),((GT.one x a::ts).flatMap GT.flat).length=((a::ts).flatMap GT.flat).length+1:=fun x a ts=>by simp only [List.flatMap_cons,List.length_append,GT.flat,List.length_cons];omega
 have hT:∀ (x:β) (a b:GT β) (ts:List (GT β)),((GT.two x a b::ts).flatMap GT.flat).length=((a::b::ts).flatMap GT.flat).length+1:=fun x a b ts=>by simp only [List.flatMap_cons,List.length_append,GT.flat,List.length_cons];omega
 have hlen:∀ ts:List (GT β),ts.length<=(ts.flatMap GT.flat).length:=by
  intro ts
  induction ts with
  |nil=>simp
  |cons t ts ih=>have:=t.flat_pos;rw [List.flatMap_cons,List.length_append,List.length_cons];omega
 induction m with
 |zero=>
  intro ts pre post hm he hw
  match ts with
  |[]=>rw [cX,show ((([]:List (GT β)).length:Nat):Int)=0 from rfl,hs'];simp
  |t::ts=>have:=t.flat_pos;rw [List.flatMap_cons,List.length_append] at hm;omega
 |succ m ih=>
  intro ts pre post hm he hw
  match ts with
  |[]=>simp at hm
  |t::ts=>
   have hln:=hlen ts
   have htw:=hw t (by simp)
   have e0:∀ x:β,((pre++[x]).length:Int)=((pre.length+1:Nat):Int):=fun x=>by simp
   have e1:∀ x:β,(pre++[x]).length=pre.length+1:=fun x=>by simp
   match t with
   |.nul x=>
    have ha:ar x=0:=htw
    have hx:e=pre++x::(ts.flatMap GT.flat++post):=by rw [he];simp [GT.flat]
    have hle:ts.length<=e.length:=by rw [hx,List.length_append,List.length_cons,List.length_append];omega
    rw [hN] at hm ⊢
    have:=ih ts (pre++[x]) post (by omega) (by rw [hx];simp) (fun t ht=>hw t (List.mem_cons_of_mem _ ht))
    rw [e0,e1] at this
    rw [cX,List.length_cons,hs pre x _ ts.length hx hle,ha]
    show loop step (((pre.length+1:Nat):Int),(ts.length:Int))=_
    rw [this]
    congr 2;omega
   |.one x a=>
    have ha:ar x=1:=htw.1
    have hx:e=pre++x::((a::ts).flatMap GT.flat++post):=by rw [he];simp [GT.flat]
    have hle:ts.length<=e.length:=by rw [hx,List.length_append,List.length_cons,List.length_append,List.flatMap_cons,List.length_append];omega
    rw [hO] at hm ⊢
    have:=ih (a::ts) (pre++[x]) post (by omega) (by rw [hx];simp) (fun t ht=>by
     rcases List.mem_cons.1 ht with rfl|ht
     ·exact htw.2
     ·exact hw t (List.mem_cons_of_mem _ ht))
    rw [e0,e1,List.length_cons] at this
    rw [cX,List.length_cons,hs pre x _ ts.length hx hle,ha]
    show loop step _=_
    rw [this]
    congr 2;omega
   |.two x a b=>
    have ha:ar x=2:=htw.1
    have hx:e=pre++x::((a::b::ts).flatMap GT.flat++post):=by rw [he];simp [GT.flat]
    have hle:ts.length<=e.length:=by rw [hx,List.length_append,List.length_cons,List.length_append,List.flatMap_cons,List.length_append,List.flatMap_cons,List.length_append];omega
    rw [hT] at hm ⊢
    have:=ih (a::b::ts) (pre++[x]) post (by omega) (by rw [hx];simp) (fun t ht=>by
     rcases List.mem_cons.1 ht with rfl|ht
     ·exact htw.2.1
     ·rcases List.mem_cons.1 ht with rfl|ht
      ·exact htw.2.2
      ·exact hw t (List.mem_cons_of_mem _ ht))
    rw [e0,e1,List.length_cons,List.length_cons] at this
    rw [cX,List.length_cons,hs pre x _ ts.length hx hle,ha]
    show loop step _=_
    rw [show ts.length+2=ts.length+1+1 from rfl,this]
    congr 2;omega
end
def aCB (v:Int) (t:bS):Bool:=if t.Kind == 0 then oQ t.Value else if t.Kind == 1 then decide (0<=t.Value)&&decide (t.Value<=v - 1) else if t.Kind == 2 then decide (0<=t.Value)&&decide (t.Value<=8) else t.Kind == 3&&t.Value == 0
def arT (t:bS):Nat:=if t.Kind == 2 then 2 else if t.Kind == 3 then 1 else 0
theorem aKp (t:bS):arT t<=2:=by unfold arT;split<;>(try split)<;>omega
theorem aQY (t:bS) {v:Int} (hv:wr (v - 1)=v - 1):aFj t v=some (aCB v t):=by
 unfold aFj aCB oQ
 simp only [aCA,hv,aE]
 by_cases h0:(t.Kind == 0)=true
 ·simp [h0]
 by_cases h1:(t.Kind == 1)=true
 ·simp [h0,h1]
 by_cases h2:(t.Kind == 2)=true
 ·simp [h0,h1,h2]
 by_cases h3:(t.Kind == 3)=true
 ·simp [h0,h1,h2,h3]
 ·simp [h0,h1,h2,h3]
theorem aQZ (n:Int):aBl n=some (oQ n):=by unfold aBl oQ;rw [iS,aE]
theorem aNj (t:bS) {v:Int} (hv:wr (v - 1)=v - 1):aAF t v=some (aCB v t):=by
 unfold aAF aCB
 simp only [iS,aQZ,hv,aE]
 by_cases h0:(t.Kind == 0)=true
 ·simp [h0]
 by_cases h1:(t.Kind == 1)=true
 ·simp [h0,h1]
 by_cases h2:(t.Kind == 2)=true
 ·simp [h0,h1,h2]
 by_cases h3:(t.Kind == 3)=true
 ·simp [h0,h1,h2,h3]
 ·simp [h0,h1,h2,h3]
theorem aHr (t:bS):aBi t=some (arT t:Int):=by
 unfold aBi arT
 split
 ·rfl
 ·split<;>rfl
theorem aDp (t:bS):rL t=some (arT t:Int):=aHr t
theorem aOQ {n a:Nat} (h:n≠0) (hn:n < 4611686018427387904) (ha:a<=2):wr ((n:Int)+wr ((a:Int) - 1))=((n - 1+a:Nat):Int):=by unfold wr;omega
theorem l03Is_eq (e:List bS) {v m:Int} (hv:wr (v - 1)=v - 1) (hl:e.length < 1000000000):aIY e v m=some (decide ((e.length:Int)<=m)&&qD (aCB v) arT 1 e):=by
 unfold aIY
 by_cases h:m < (e.length:Int)
 ·rw [if_pos (by simpa using h)]
  have:decide ((e.length:Int)<=m)=false:=by simp;omega
  simp [this]
 ·rw [if_neg (by simpa using h)]
  have hm:decide ((e.length:Int)<=m)=true:=by simp;omega
  have key:=aKo (step:=fun s=>aDN e v s.1 s.2) (e:=e) (ok:=aCB v) (ar:=arT) aKp (fun pre x post n he hn=>?_) (fun n=>?_)
  ·obtain ⟨r,h1,h2⟩:=key
   rw [h1,aE,hm,Bool.true_and,←h2]
   first|done|(cases r<;>rfl)
  ·have hp:pre.length < e.length:=by rw [he];simp
   have hi:ix e (pre.length:Int)=some x:=by rw [iL,he];simp
   have ha:=aKp x
   simp only [aDN,aDM,cR hp,if_true,hi,aE,aQY x hv,aHr]
   by_cases h0:n=0
   ·subst h0;rfl
   ·have h0':((n:Int) == 0)=false:=by simp;omega
    rw [if_neg (by simp [h0']),if_neg h0,aOQ h0 (by omega) ha,cO hp (by omega)]
    cases aCB v x<;>rfl
  ·simp only [aDN,cN];rfl
theorem aNk (e:List bS) {v m:Int} (hv:0<=v) (hv2:v<=29) (hm:1<=m) (hm2:m<=60) (hl:e.length < 1000000000):aAG e v m=some (decide ((e.length:Int)<=m)&&qD (aCB v) arT 1 e):=by
 have hw:wr (v - 1)=v - 1:=iC (by omega) (by omega)
 unfold aAG
 rw [iS,aE,if_neg (by simp;omega),iS,aE,if_neg (by simp;omega),iS,aE]
 unfold nR
 by_cases hb:(1<=(e.length:Int))/\(e.length:Int)<=m
 ·rw [if_neg (by simp;omega)]
  have hd:decide ((e.length:Int)<=m)=true:=by simp;omega
  have key:=aKo (step:=fun s=>rN e v s.1 s.2) (e:=e) (ok:=aCB v) (ar:=arT) aKp (fun pre x post n he hn=>?_) (fun n=>?_)
  ·obtain ⟨r,h1,h2⟩:=key
   rw [h1,aE,hd,Bool.true_and,←h2]
   first|done|(cases r<;>rfl)
  ·have hp:pre.length < e.length:=by rw [he];simp
   have hi:ix e (pre.length:Int)=some x:=by rw [iL,he];simp
   have ha:=aKp x
   simp only [rN,rM,cR hp,if_true,hi,aE,aNj x hw,aDp]
   by_cases h0:n=0
   ·subst h0;rfl
   ·have h0':((n:Int) == 0)=false:=by simp;omega
    rw [if_neg (by simp [h0']),if_neg h0,aOQ h0 (by omega) ha,cO hp (by omega)]
    cases aCB v x<;>rfl
  ·simp only [rN,cN];rfl
 ·rw [if_pos (by simp;omega)]
  by_cases h2:(e.length:Int)<=m
  ·have:e=[]:=List.length_eq_zero_iff.1 (by omega)
   subst this
   simp [qD]
  ·simp [h2]
noncomputable def opV (op a b:Int):Int:=(aEz op a b).getD 0
theorem aRa (op a b:Int):aHH op a b=aEz op a b:=rfl
theorem aCC (b:Bool):∃ v,kU b=some v/\0<=v/\v<=63:=by cases b<;>exact ⟨_,rfl,by omega,by omega⟩
theorem op_eq (op:Int) {a b:Int} (ha:oQ a=true) (hb:oQ b=true):aEz op a b=some (opV op a b)/\oQ (opV op a b)=true:=by
 simp only [oQ,Bool.and_eq_true,decide_eq_true_eq] at ha hb
 have key:∃ v,aEz op a b=some v/\0<=v/\v<=63:=by
  have hm:0<=a * b/\a * b<=63 * 63:=⟨Int.mul_nonneg ha.1 hb.1,Int.mul_le_mul ha.2 hb.2 hb.1 (by omega)⟩
  have rmI:∀ x:Int,0<=x->∃ v,rm x 64=some v/\0<=v/\v<=63:=fun x hx=>⟨x.tmod 64,rfl,Int.tmod_nonneg _ hx,by have:=Int.tmod_lt_of_pos x (show (0:Int) < 64 by omega);omega⟩
  unfold aEz
  split
  ·rw [iC (by omega) (by omega)]
   obtain ⟨v,h1,h2⟩:=rmI (a+b) (by omega)
   exact ⟨v,by rw [h1];rfl,h2⟩
  split
  ·rw [iC (x:=a - b) (by omega) (by omega),iC (by omega) (by omega)]
   obtain ⟨v,h1,h2⟩:=rmI (a - b+64) (by omega)
   exact ⟨v,by rw [h1];rfl,h2⟩
  split
  ·rw [iC (by omega) (by omega)]
   obtain ⟨v,h1,h2⟩:=rmI (a * b) (by omega)
   exact ⟨v,by rw [h1];rfl,h2⟩
  split
  ·obtain ⟨v,h1,h2⟩:=aCC (a == b);exact ⟨v,by rw [h1];rfl,h2⟩
  split
  ·obtain ⟨v,h1,h2⟩:=aCC (a != b);exact ⟨v,by rw [h1];rfl,h2⟩
  split
  ·obtain ⟨v,h1,h2⟩:=aCC (decide (a < b));exact ⟨v,by rw [h1];rfl,h2⟩
  split
  ·obtain ⟨v,h1,h2⟩:=aCC (decide (a<=b));exact ⟨v,by rw [h1];rfl,h2⟩
  split
  ·split
   ·obtain ⟨v,h1,h2⟩:=aCC (b != 0);exact ⟨v,by rw [h1];rfl,h2⟩
   ·obtain ⟨v,h1,h2⟩:=aCC false;exact ⟨v,by rw [h1];rfl,h2⟩
  ·split
   ·obtain ⟨v,h1,h2⟩:=aCC true;exact ⟨v,by rw [h1];rfl,h2⟩
   ·obtain ⟨v,h1,h2⟩:=aCC (b != 0);exact ⟨v,by rw [h1];rfl,h2⟩
 obtain ⟨v,h1,h2,h3⟩:=key
 unfold opV
 rw [h1]
 exact ⟨rfl,by simp [oQ,h2,h3]⟩
def trV (b:Bool):Int:=if b then 1 else 0
theorem truth_eq (b:Bool):kU b=some (trV b):=by cases b<;>rfl
theorem truth_eqI (b:Bool):xN b=some (trV b):=by cases b<;>rfl
noncomputable def aFD (vs:List Int):GT bS->Int
 |.nul t=>if t.Kind == 0 then t.Value else vs.getD t.Value.toNat 0
 |.one _ a=>trV (aFD vs a == 0)
 |.two t a b=>opV t.Value (aFD vs a) (aFD vs b)
def trT:GT bS->Tr bS
 |.nul t=>.mk t []
 |.one t a=>.mk t [trT a]
 |.two t a b=>.mk t [trT a,trT b]
section
variable {vs:List Int} (hvs:vs.all oQ=true)
include hvs
theorem var_ix {t:bS} (h1:(t.Kind == 1)=true) (ht:aCB (vs.length:Int) t=true):ix vs t.Value=some (vs.getD t.Value.toNat 0)/\oQ (vs.getD t.Value.toNat 0)=true:=by
 have h0:(t.Kind == 0)=false:=by simp at h1 ⊢;omega
 simp only [aCB,h0,h1,Bool.false_eq_true,if_false,if_true,Bool.and_eq_true,decide_eq_true_eq] at ht
 have hlt:t.Value.toNat < vs.length:=by omega
 have e:vs.getD t.Value.toNat 0=vs[t.Value.toNat]:=by simp [List.getD,hlt]
 rw [e]
 refine ⟨?_,List.all_eq_true.1 hvs _ (List.getElem_mem hlt)⟩
 unfold ix
 rw [if_pos ht.1]
 simp [hlt]
theorem aGp:∀ (t:GT bS),t.WF arT->(∀ x∈t.flat,aCB (vs.length:Int) x=true)->oQ (aFD vs t)=true
 |.nul t,hw,ho=>by
  have ht:=ho t (by simp [GT.flat])
  have hw:arT t=0:=hw
  by_cases h0:(t.Kind == 0)=true
  ·simp only [aFD,h0,if_true]
   simp only [aCB,h0,if_true] at ht
   exact ht
  ·simp only [aFD,h0,Bool.false_eq_true,if_false]
   have h1:(t.Kind == 1)=true:=by
    unfold arT at hw
    by_cases h2:(t.Kind == 2)=true
    ·simp [h2] at hw
    by_cases h3:(t.Kind == 3)=true
    ·simp [h2,h3] at hw
    by_cases h1:(t.Kind == 1)=true
    ·exact h1
    ·simp [aCB,h0,h1,h2,h3] at ht
   exact (var_ix hvs h1 ht).2
 |.one _ a,_,_=>by
  simp only [aFD]
  cases aFD vs a == 0<;>rfl
 |.two t a b,hw,ho=>by
  simp only [aFD]
  exact (op_eq _ (aGp a hw.2.1 (fun x hx=>ho x (by simp [GT.flat,hx]))) (aGp b hw.2.2 (fun x hx=>ho x (by simp [GT.flat,hx])))).2
theorem aNV {t:bS} {v:Int} (ht:aCB v t=true):(arT t=0->t.Kind=0\/t.Kind=1)/\(arT t=1->t.Kind=3)/\(arT t=2->t.Kind=2):=by
 unfold aCB at ht
 unfold arT
 by_cases h0:t.Kind=0
 ·simp [h0]
 by_cases h1:t.Kind=1
 ·simp [h1]
 by_cases h2:t.Kind=2
 ·simp [h2]
 by_cases h3:t.Kind=3
 ·simp [h3]
 ·simp [h0,h1,h2,h3] at ht
theorem aPQ:∀ (t:GT bS) (m:Nat) (post:List bS),t.flat.length<=m->(t.flat++post).length < 1000000000->t.WF arT->(∀ x∈t.flat,aCB (vs.length:Int) x=true)->mJ m (t.flat++post)=some (trT t,post):=by
 intro t
 induction t with
 |nul t=>
  intro m post hm hl hw ho
  match m with
  |0=>simp [GT.flat] at hm
  |m+1=>
   have hw:arT t=0:=hw
   have hs:slc (t::post) 1 ((t::post).length:Int)=some post:=by
    unfold slc
    rw [if_pos ⟨by omega,by simp;omega,by simp⟩]
    simp
   show mH (mJ m) ([t]++post)=_
   unfold mH
   rw [List.singleton_append,show ix (t::post) 0=some t from rfl,aE,hs,aE,aDp,aE,hw,cX]
   rfl
 |one t a iha=>
  intro m post hm hl hw ho
  match m with
  |0=>simp [GT.flat] at hm
  |m+1=>
   have h1:arT t=1:=hw.1
   have hs:slc (t::(a.flat++post)) 1 ((t::(a.flat++post)).length:Int)=some (a.flat++post):=by
    unfold slc
    rw [if_pos ⟨by omega,by simp;omega,by simp⟩,show ((1:Int)).toNat=1 from rfl,List.drop_succ_cons,List.drop_zero,List.take_of_length_le (by simp;omega)]
   have hl2:(a.flat++post).length < 1000000000:=by simp [GT.flat] at hl ⊢;omega
   have ra:=iha m post (by simp [GT.flat] at hm;omega) hl2 hw.2 (fun x hx=>ho x (by simp [GT.flat,hx]))
   show mH (mJ m) (t::a.flat++post)=_
   unfold mH
   rw [List.cons_append,show ix (t::(a.flat++post)) 0=some t from rfl,aE,hs,aE,aDp,aE,h1,cX]
   simp only [wR,ra,aE,iR (xs:=([]:List (Tr bS))) (ys:=[trT a]) (by unfold jN;simp),show decide ((0:Int) < ((1:Nat):Int))=true from rfl,if_true,show wr (0+1)=1 from rfl]
   rw [cX]
   rfl
 |two t a b iha ihb=>
  intro m post hm hl hw ho
  match m with
  |0=>simp [GT.flat] at hm
  |m+1=>
   have h1:arT t=2:=hw.1
   have hs:slc (t::(a.flat++(b.flat++post))) 1 ((t::(a.flat++(b.flat++post))).length:Int)=some (a.flat++(b.flat++post)):=by
    unfold slc
    rw [if_pos ⟨by omega,by simp;omega,by simp⟩,show ((1:Int)).toNat=1 from rfl,List.drop_succ_cons,List.drop_zero,List.take_of_length_le (by simp;omega)]
   have hl2:(a.flat++(b.flat++post)).length < 1000000000:=by simp [GT.flat] at hl ⊢;omega
   have ra:=iha m (b.flat++post) (by simp [GT.flat] at hm;omega) hl2 hw.2.1 (fun x hx=>ho x (by simp [GT.flat,hx]))
   have rb:=ihb m post (by simp [GT.flat] at hm;omega) (by simp at hl2 ⊢;omega) hw.2.2 (fun x hx=>ho x (by simp [GT.flat,hx]))
   show mH (mJ m) (t::(a.flat++b.flat)++post)=_
   unfold mH
   rw [List.cons_append,List.append_assoc,show ix (t::(a.flat++(b.flat++post))) 0=some t from rfl,aE,hs,aE,aDp,aE,h1,cX]
   simp only [wR,ra,aE,iR (xs:=([]:List (Tr bS))) (ys:=[trT a]) (by unfold jN;simp),show decide ((0:Int) < ((2:Nat):Int))=true from rfl,if_true,show wr (0+1)=1 from rfl,List.nil_append]
   rw [cX]
   simp only [wR,rb,aE,iR (xs:=[trT a]) (ys:=[trT b]) (by unfold jN;simp),show decide ((1:Int) < ((2:Nat):Int))=true from rfl,if_true,show wr (1+1)=2 from rfl]
   rw [cX]
   rfl
theorem value_eq:∀ (t:GT bS) (m:Nat),t.flat.length<=m->t.WF arT->(∀ x∈t.flat,aCB (vs.length:Int) x=true)->jX m (trT t) vs=some (aFD vs t):=by
 intro t
 induction t with
 |nul t=>
  intro m hm hw ho
  match m with
  |0=>simp [GT.flat] at hm
  |m+1=>
   have ht:=ho t (by simp [GT.flat])
   have hw:arT t=0:=hw
   show jW (jX m) (.mk t []) vs=_
   unfold jW
   simp only [Tr.val,aFD]
   rcases (aNV hvs ht).1 hw with h|h
   ·simp [h]
   ·have h1:(t.Kind == 1)=true:=by simp [h]
    have h0:(t.Kind == 0)=false:=by simp [h]
    simp only [h0,h1,Bool.false_eq_true,if_false,if_true,(var_ix hvs h1 ht).1,aE]
 |one t a iha=>
  intro m hm hw ho
  match m with
  |0=>simp [GT.flat] at hm
  |m+1=>
   have ht:=ho t (by simp [GT.flat])
   have ra:=iha m (by simp [GT.flat] at hm;omega) hw.2 (fun x hx=>ho x (by simp [GT.flat,hx]))
   have hk:=(aNV hvs ht).2.1 hw.1
   show jW (jX m) (.mk t [trT a]) vs=_
   unfold jW
   simp only [Tr.val,Tr.kids,aFD,hk]
   simp [ix,ra,truth_eqI]
 |two t a b iha ihb=>
  intro m hm hw ho
  match m with
  |0=>simp [GT.flat] at hm
  |m+1=>
   have ht:=ho t (by simp [GT.flat])
   have hoa:∀ x∈a.flat,aCB (vs.length:Int) x=true:=fun x hx=>ho x (by simp [GT.flat,hx])
   have hob:∀ x∈b.flat,aCB (vs.length:Int) x=true:=fun x hx=>ho x (by simp [GT.flat,hx])
   have ra:=iha m (by simp [GT.flat] at hm;omega) hw.2.1 hoa
   have rb:=ihb m (by simp [GT.flat] at hm;omega) hw.2.2 hob
   have hk:=(aNV hvs ht).2.2 hw.1
   have ho:=(op_eq t.Value (aGp hvs a hw.2.1 hoa) (aGp hvs b hw.2.2 hob)).1
   show jW (jX m) (.mk t [trT a,trT b]) vs=_
   unfold jW
   simp only [Tr.val,Tr.kids,aFD,hk]
   simp [ix,ra,rb,aRa,ho]
theorem l03End_eq {e:List bS} (hl:e.length < 1000000000) (t:GT bS) (pre post:List bS) (he:e=pre++t.flat++post) (hw:t.WF arT):aGU e (pre.length:Int)=some ((pre.length+t.flat.length:Nat):Int):=by
 unfold aGU
 have:=aMG (step:=fun s=>aEy e s.1 s.2) (e:=e) (ar:=arT) (fun k=>k) (fun pre x post n he hn=>?_) (fun k=>?_) _ [t] pre post rfl (by simpa using he) (by simpa using hw)
 ·simp only [List.length_singleton,Int.natCast_one] at this
  rw [this]
  simp [aCi]
 ·have hp:pre.length < e.length:=by rw [he];simp
  have hi:ix e (pre.length:Int)=some x:=by rw [iL,he];simp
  have h2:wr (((n+1:Nat):Int)+wr ((arT x:Int) - 1))=((n+arT x:Nat):Int):=by have:=aKp x;unfold wr;omega
  simp only [aEy,hi,aE,aHr,h2,cO hp (show e.length < 4611686018427387904 by omega)]
  rw [if_pos (by simp<;>omega)]
 ·rfl
theorem l03At_eq {e:List bS} (hl:e.length < 1000000000):∀ (t:GT bS) (m:Nat) (pre post:List bS),e=pre++t.flat++post->t.flat.length<=m->t.WF arT->(∀ x∈t.flat,aCB (vs.length:Int) x=true)->uV m e vs (pre.length:Int)=some (aFD vs t):=by
 intro t
 induction t with
 |nul t=>
  intro m pre post he hm hw ho
  match m with
  |0=>simp [GT.flat] at hm
  |m+1=>
   have ht:=ho t (by simp [GT.flat])
   have hw:arT t=0:=hw
   have hi:ix e (pre.length:Int)=some t:=by rw [iL,he];simp [GT.flat]
   show uU (uV m) e vs (pre.length:Int)=_
   unfold uU
   simp only [hi,aE,aFD]
   rcases (aNV hvs ht).1 hw with h|h
   ·simp [h]
   ·have h1:(t.Kind == 1)=true:=by simp [h]
    have h0:(t.Kind == 0)=false:=by simp [h]
    simp only [h0,h1,Bool.false_eq_true,if_false,if_true,(var_ix hvs h1 ht).1,aE]
 |one t a iha=>
  intro m pre post he hm hw ho
  match m with
  |0=>simp [GT.flat] at hm
  |m+1=>
   have ht:=ho t (by simp [GT.flat])
   have hi:ix e (pre.length:Int)=some t:=by rw [iL,he];simp [GT.flat]
   have hp:pre.length < e.length:=by rw [he];simp [GT.flat]
   have ra:=iha m (pre++[t]) post (by rw [he];simp [GT.flat]) (by simp [GT.flat] at hm;omega) hw.2 (fun x hx=>ho x (by simp [GT.flat,hx]))
   rw [show ((pre++[t]).length:Int)=((pre.length+1:Nat):Int) by simp] at ra
   have hk:=(aNV hvs ht).2.1 hw.1
   show uU (uV m) e vs (pre.length:Int)=_
   unfold uU
   simp only [hi,aE,aFD,hk,cO hp (show e.length < 4611686018427387904 by omega),ra]
   simp [truth_eq]
 |two t a b iha ihb=>
  intro m pre post he hm hw ho
  match m with
  |0=>simp [GT.flat] at hm
  |m+1=>
   have ht:=ho t (by simp [GT.flat])
   have hoa:∀ x∈a.flat,aCB (vs.length:Int) x=true:=fun x hx=>ho x (by simp [GT.flat,hx])
   have hob:∀ x∈b.flat,aCB (vs.length:Int) x=true:=fun x hx=>ho x (by simp [GT.flat,hx])
   have hi:ix e (pre.length:Int)=some t:=by rw [iL,he];simp [GT.flat]
   have hp:pre.length < e.length:=by rw [he];simp [GT.flat]
   have hea:e=(pre++[t])++a.flat++(b.flat++post):=by rw [he];simp [GT.flat]
   have heb:e=(pre++[t]++a.flat)++b.flat++post:=by rw [he];simp [GT.flat]
   have ra:=iha m (pre++[t]) _ hea (by simp [GT.flat] at hm;omega) hw.2.1 hoa
   have rb:=ihb m (pre++[t]++a.flat) _ heb (by simp [GT.flat] at hm;omega) hw.2.2 hob
   have re:=l03End_eq hvs hl a (pre++[t]) _ hea hw.2.1
   rw [show ((pre++[t]++a.flat).length:Int)=(((pre++[t]).length+a.flat.length:Nat):Int) by rw [List.length_append]] at rb
   have e1:((pre++[t]).length:Int)=((pre.length+1:Nat):Int):=by simp
   rw [e1] at ra re
   have hk:=(aNV hvs ht).2.2 hw.1
   have hop:=(op_eq t.Value (aGp hvs a hw.2.1 hoa) (aGp hvs b hw.2.2 hob)).1
   show uU (uV m) e vs (pre.length:Int)=_
   unfold uU
   simp only [hi,aE,aFD,hk,cO hp (show e.length < 4611686018427387904 by omega),ra,re,rb]
   simp [hop]
end
noncomputable def aGq (vs:List Int) (e:List bS):Int:=(yQ e vs).getD 0
def okE (v:Int) (e:List bS):Bool:=decide ((e.length:Int)<=15)&&qD (aCB v) arT 1 e
theorem aFE {e:List bS} {vs:List Int} (hvs:vs.all oQ=true) (h:okE (vs.length:Int) e=true):yQ e vs=some (aGq vs e)/\yG e vs=some (aGq vs e)/\oQ (aGq vs e)=true:=by
 unfold okE at h
 simp only [Bool.and_eq_true,decide_eq_true_eq] at h
 obtain ⟨hl,hn⟩:=h
 obtain ⟨ts,h1,h2,h3⟩:=aIK aKp hn
 have hall:=aPP hn
 match ts,h1 with
 |[t],_=>
  have e1:e=t.flat:=by rw [h2];simp
  have hw:=h3 t (by simp)
  have ho:∀ x∈t.flat,aCB (vs.length:Int) x=true:=fun x hx=>hall x (by rw [e1];exact hx)
  have hlen:t.flat.length<=15:=by rw [←e1];omega
  have a1:=l03At_eq hvs (e:=e) (by omega) t 100000 [] [] (by simp [e1]) (by omega) hw ho
  have a2:=aPQ hvs t 100000 [] (by omega) (by simp;omega) hw ho
  have a3:=value_eq hvs t 100000 (by omega) hw ho
  rw [List.append_nil,←e1] at a2
  have s1:yQ e vs=some (aFD vs t):=by unfold yQ aOD;rw [show (0:Int)=(([]:List bS).length:Int) from rfl,a1];rfl
  have s2:yG e vs=some (aFD vs t):=by unfold yG aOE aIy aGc;rw [a2];simp only [aE];rw [a3];rfl
  have s3:aGq vs e=aFD vs t:=by unfold aGq;rw [s1];rfl
  rw [s3]
  exact ⟨s1,s2,aGp hvs t hw ho⟩
theorem aNW {l:List (List bS)} {vs:List Int} (hvs:vs.all oQ=true) (h:∀ e∈l,okE (vs.length:Int) e=true) (hl:l.length<=1000):aDt l vs=some (l.map (aGq vs))/\sJ l vs=some (l.map (aGq vs)):=by
 constructor
 ·unfold aDt
  rw [zJ (step:=fun s=>aAo l vs s.1 s.2) l (aGq vs) (fun x=>x) (fun k out x hk ho hx=>?_) (fun out=>?_)]
  ·rfl
  ·have hm:x∈l:=by rw [cZ hk] at hx;cases hx;exact List.getElem_mem hk
   simp only [aAo,cR hk,if_true,hx,aE,(aFE hvs (h x hm)).1,iR (xs:=out) (ys:=[aGq vs x]) (by unfold jN;simp;omega),cO hk (show l.length < 4611686018427387904 by omega)]
  ·simp only [aAo,cN];rfl
 ·unfold sJ
  rw [zJ (step:=fun s=>pW l vs s.1 s.2) l (aGq vs) (fun x=>x) (fun k out x hk ho hx=>?_) (fun out=>?_)]
  ·rfl
  ·have hm:x∈l:=by rw [cZ hk] at hx;cases hx;exact List.getElem_mem hk
   simp only [pW,cR hk,if_true,hx,aE,(aFE hvs (h x hm)).2.1,iR (xs:=out) (ys:=[aGq vs x]) (by unfold jN;simp;omega),cO hk (show l.length < 4611686018427387904 by omega)]
  ·simp only [pW,cN];rfl
end Gv
namespace Gv
def iV (p:Part):Nat:=if p.Kind == 1||p.Kind == 3||p.Kind == 4 then 1 else if p.Kind == 2 then 2 else 0
theorem aJB (p:Part):iV p<=2:=by unfold iV;split<;>(try split)<;>omega
theorem aGr (p:Part):yO p=some (iV p:Int):=by
 unfold yO pB iV
 by_cases h1:(p.Kind == 1)=true
 ·simp [h1]
 by_cases h3:(p.Kind == 3)=true
 ·simp [h1,h3]
 by_cases h4:(p.Kind == 4)=true
 ·simp [h1,h3,h4]
 by_cases h2:(p.Kind == 2)=true
 ·simp [h1,h3,h4,h2]
 ·simp [h1,h3,h4,h2]
theorem aEh (p:Part):wM p=some (iV p:Int):=aGr p
def tt (_:Part):Bool:=true
theorem aPR {α:Type} {ok:α->Bool} {ar:α->Nat}:∀ {l:List α} {n:Nat},qD ok ar n l=true->n<=l.length
 |[],n,h=>by simp [qD] at h;omega
 |x::l,0,_=>Nat.zero_le _
 |x::l,n+1,h=>by
  simp only [qD,Bool.and_eq_true] at h
  have:=aPR h.2
  rw [List.length_cons];omega
theorem aNX (b:List Part) (hl:b.length < 1000000000):aDL b=some (decide (b.length<=20)&&qD tt iV 1 b):=by
 unfold aDL
 by_cases h0:b=[]
 ·subst h0;rfl
 have hb:0 < b.length:=by cases b with|nil=>exact absurd rfl h0|cons _ _=>simp
 rw [if_neg (by simp;exact h0)]
 unfold wA
 by_cases h20:20 < b.length
 ·rw [if_pos (by simp;omega)]
  have:decide (b.length<=20)=false:=by simp;omega
  rw [this];rfl
 ·rw [if_neg (by simp;omega)]
  have hd:decide (b.length<=20)=true:=by simp;omega
  have key:=aKo (step:=fun s=>vZ b s.1 s.2) (e:=b) (ok:=tt) (ar:=iV) aJB (fun pre x post n he hn=>?_) (fun n=>?_)
  ·obtain ⟨r,h1,h2⟩:=key
   rw [h1,aE,hd,Bool.true_and,←h2]
   first|done|(cases r<;>rfl)
  ·have hp:pre.length < b.length:=by rw [he];simp
   have hi:ix b (pre.length:Int)=some x:=by rw [iL,he];simp
   have ha:=aJB x
   simp only [vZ,cR hp,if_true,hi,aE,aGr,tt]
   by_cases h0:n=0
   ·subst h0;rfl
   ·have h0':((n:Int) == 0)=false:=by simp;omega
    rw [if_neg (by simp [h0']),if_neg h0,aOQ h0 (by omega) ha,cO hp (by omega)]
  ·simp only [vZ,cN];rfl
def aJC:Nat->List Part->Option Nat
 |0,_=>some 0
 |_+1,[]=>none
 |n+1,p::l=>(aJC (n+iV p) l).map (·+1)
theorem aNY:∀ (l:List Part) (n:Nat),qD tt iV n l=decide (aJC n l=some l.length)
 |[],0=>by simp [qD,aJC]
 |[],n+1=>by simp [qD,aJC]
 |x::l,0=>by simp [qD,aJC]
 |x::l,n+1=>by
  rw [show qD tt iV (n+1) (x::l)=qD tt iV (n+iV x) l from rfl,aNY l (n+iV x),show aJC (n+1) (x::l)=(aJC (n+iV x) l).map (·+1) from rfl]
  generalize aJC (n+iV x) l=o
  cases o with
  |none=>simp
  |some k=>simp
theorem end_any {d:Definition} (hl:d.Body.length < 1000000000):∀ (l pre:List Part) (n:Nat),d.Body=pre++l->n<=2 * pre.length+1->
  (ob (loop (fun s=>hQ d s.1 s.2) ((pre.length:Int),(n:Int))) fun r=>match r with|.inl r=>kB r|.inr r=>some r)=some (match aJC n l with|some k=>((pre.length+k:Nat):Int)|none=>-1):=by
 intro l
 induction l with
 |nil=>
  intro pre n he hn
  rw [cX]
  match n with
  |0=>rfl
  |n+1=>
   have hp:pre.length=d.Body.length:=by rw [he];simp
   simp only [hQ,aJC,hp]
   rw [if_pos (by simp<;>omega),if_pos (by simp)]
   rfl
 |cons x l ih=>
  intro pre n he hn
  match n with
  |0=>rw [fP (r:=.inl (pre.length:Int)) rfl];rfl
  |n+1=>
   have hp:pre.length < d.Body.length:=by rw [he];simp
   have hi:ix d.Body (pre.length:Int)=some x:=by rw [iL,he];simp
   have ha:=aJB x
   have h2:wr (((n+1:Nat):Int)+wr ((iV x:Int) - 1))=((n+iV x:Nat):Int):=by unfold wr;omega
   have h3:decide ((d.Body.length:Int)<=(pre.length:Int))=false:=by simp;omega
   have h4:decide ((0:Int) < ((n+1:Nat):Int))=true:=by simp<;>omega
   have hst:hQ d (pre.length:Int) ((n+1:Nat):Int)=some (.inl (((pre.length+1:Nat):Int),((n+iV x:Nat):Int))):=by
    simp only [hQ,h3,h4,if_true,Bool.false_eq_true,if_false,hi,aE,aEh,h2,cO hp (show d.Body.length < 4611686018427387904 by omega)]
   have:=ih (pre++[x]) (n+iV x) (by rw [he];simp) (by simp;omega)
   rw [show ((pre++[x]).length:Int)=((pre.length+1:Nat):Int) by simp,show (pre++[x]).length=pre.length+1 by simp] at this
   rw [fF hst,this,show aJC (n+1) (x::l)=(aJC (n+iV x) l).map (·+1) from rfl]
   generalize aJC (n+iV x) l=o
   cases o with
   |none=>rfl
   |some k=>simp only [Option.map_some];congr 2;omega
theorem aPS {d:Definition} (hl:d.Body.length < 1000000000):∃ r,kV d 0=some r/\(r != (d.Body.length:Int))=!qD tt iV 1 d.Body:=by
 have:=end_any hl d.Body [] 1 rfl (by simp)
 refine ⟨_,this,?_⟩
 rw [aNY]
 generalize aJC 1 d.Body=o
 cases o with
 |none=>simp<;>omega
 |some k=>
  simp only [Nat.zero_add,List.length_nil,Option.some.injEq]
  by_cases hk:k=d.Body.length
  ·simp [hk]
  ·have h1:((k:Int) != (d.Body.length:Int))=true:=by simp;omega
   rw [h1];simp [hk]
theorem end_at {d:Definition} (hl:d.Body.length < 1000000000) (t:GT Part) (pre post:List Part) (he:d.Body=pre++t.flat++post) (hw:t.WF iV):kV d (pre.length:Int)=some ((pre.length+t.flat.length:Nat):Int)/\aFi d.Body (pre.length:Int)=some ((pre.length+t.flat.length:Nat):Int):=by
 have hwr:∀ (n:Nat) (x:Part),n<=d.Body.length->wr (((n+1:Nat):Int)+wr ((iV x:Int) - 1))=((n+iV x:Nat):Int):=fun n x h=>by have:=aJB x;unfold wr;omega
 constructor
 ·unfold kV
  have:=aMG (step:=fun s=>hQ d s.1 s.2) (e:=d.Body) (ar:=iV) (fun k=>(.inl k:Int ⊕ Int)) (fun pre x post n he hn=>?_) (fun k=>?_) _ [t] pre post rfl (by simpa using he) (by simpa using hw)
  ·simp only [List.length_singleton,Int.natCast_one] at this
   rw [this]
   simp [kB]
  ·have hp:pre.length < d.Body.length:=by rw [he];simp
   have hi:ix d.Body (pre.length:Int)=some x:=by rw [iL,he];simp
   have h3:decide ((d.Body.length:Int)<=(pre.length:Int))=false:=by simp;omega
   simp only [hQ,hi,aE,aEh,hwr n x hn,cO hp (show d.Body.length < 4611686018427387904 by omega)]
   rw [if_pos (by simp<;>omega),h3]
   rfl
  ·rfl
 ·unfold aFi
  have:=aMG (step:=fun s=>aEv d.Body s.1 s.2) (e:=d.Body) (ar:=iV) (fun k=>k) (fun pre x post n he hn=>?_) (fun k=>?_) _ [t] pre post rfl (by simpa using he) (by simpa using hw)
  ·simp only [List.length_singleton,Int.natCast_one] at this
   rw [this]
   simp [aCa]
  ·have hp:pre.length < d.Body.length:=by rw [he];simp
   have hi:ix d.Body (pre.length:Int)=some x:=by rw [iL,he];simp
   simp only [aEv,hi,aE,aGr,hwr n x hn,cO hp (show d.Body.length < 4611686018427387904 by omega)]
   rw [if_pos (by simp<;>omega)]
  ·rfl
def bel (s:Int) (p:Part):Int:=if p.Kind == 4 then s+1 else s
def plT (s:Int) (b:Bool):GT Part->List eX
 |.nul _=>[⟨s,b⟩]
 |.one p a=>⟨s,b⟩::plT (bel s p) (p.Kind == 1) a
 |.two p a c=>⟨s,b⟩::(plT (bel s p) (p.Kind == 1) a++plT (bel s p) (p.Kind == 1) c)
theorem oY:∀ (t:GT Part) (s:Int) (b:Bool),(plT s b t).length=t.flat.length
 |.nul _,_,_=>rfl
 |.one p a,s,b=>by simp only [plT,GT.flat,List.length_cons,oY a]
 |.two p a c,s,b=>by simp only [plT,GT.flat,List.length_cons,List.length_append,oY a,oY c]
theorem aKq (s:Int) (p:Part):s<=bel s p/\bel s p<=s+1:=by unfold bel;split<;>omega
theorem fill_eq {d:Definition} (hl:d.Body.length < 1000000000):∀ (t:GT Part) (m:Nat) (s:Int) (b:Bool) (pre post:List Part) (X old Y:List eX),d.Body=pre++t.flat++post->X.length=pre.length->old.length=t.flat.length->t.flat.length<=m->t.WF iV->0<=s->s<=1000000000 - t.flat.length->
  dS m (pre.length:Int) ⟨s,b⟩ (X++old++Y) d d=some (((pre.length+t.flat.length:Nat):Int),X++plT s b t++Y):=by
 intro t
 induction t with
 |nul p=>
  intro m s b pre post X old Y he hX ho hm hw h0 hs
  match m with
  |0=>simp [GT.flat] at hm
  |m+1=>
   have hw:iV p=0:=hw
   match old,ho with
   |[o],_=>
    have hi:ix d.Body (pre.length:Int)=some p:=by rw [iL,he];simp [GT.flat]
    have hix:ix (X++[o]++Y) (pre.length:Int)=some o:=by rw [iL,←hX];simp
    have hst:st (X++[o]++Y) (pre.length:Int) (⟨s,b⟩:eX)=some (X++[⟨s,b⟩]++Y):=by rw [←hX,xC _ (by simp)];simp
    have hp:pre.length < d.Body.length:=by rw [he];simp [GT.flat]
    show fE (dS m) _ _ _ _ _=_
    unfold fE
    simp only [hix,aE,hst,hi]
    have hj:∀ z:Int,eG (dS m) (pre.length:Int) d (X++[⟨s,b⟩]++Y) p z=some (((pre.length+1:Nat):Int),X++[⟨s,b⟩]++Y):=fun z=>by
     unfold eG
     rw [aEh,aE,hw,cO hp (by omega),cX]
     rfl
    split
    ·exact hj _
    ·exact hj _
 |one p a iha=>
  intro m s b pre post X old Y he hX ho hm hw h0 hs
  match m with
  |0=>simp [GT.flat] at hm
  |m+1=>
   have hw1:iV p=1:=hw.1
   simp only [GT.flat,List.length_cons] at ho hm hs
   match old,ho with
   |o::old,ho=>
    simp only [List.length_cons] at ho
    have hb:=aKq s p
    have hi:ix d.Body (pre.length:Int)=some p:=by rw [iL,he];simp [GT.flat]
    have hix:ix (X++(o::old)++Y) (pre.length:Int)=some o:=by rw [iL,←hX];simp
    have hst:st (X++(o::old)++Y) (pre.length:Int) (⟨s,b⟩:eX)=some ((X++[⟨s,b⟩])++old++Y):=by rw [←hX,xC _ (by simp)];simp
    have hp:pre.length < d.Body.length:=by rw [he];simp [GT.flat]
    have ra:=iha m (bel s p) (p.Kind == 1) (pre++[p]) post (X++[⟨s,b⟩]) old Y (by rw [he];simp [GT.flat]) (by simp [hX]) (by omega) (by omega) hw.2 (by omega) (by omega)
    rw [show ((pre++[p]).length:Int)=((pre.length+1:Nat):Int) by simp,show (pre++[p]).length=pre.length+1 by simp] at ra
    show fE (dS m) _ _ _ _ _=_
    unfold fE
    simp only [hix,aE,hst,hi]
    have hj:eG (dS m) (pre.length:Int) d ((X++[⟨s,b⟩])++old++Y) p (bel s p)=some (((pre.length+(GT.one p a).flat.length:Nat):Int),X++plT s b (.one p a)++Y):=by
     unfold eG
     rw [aEh,aE,hw1,cO hp (by omega),cX]
     simp only [fZ,show decide ((0:Int) < ((1:Nat):Int))=true from rfl,if_true,ra,aE,show wr (0+1)=1 from rfl]
     rw [cX]
     simp only [fZ,show decide ((1:Int) < ((1:Nat):Int))=false from rfl,Bool.false_eq_true,if_false,aE,gR,plT,GT.flat,List.length_cons]
     simp;omega
    split
    ·rename_i h4
     rw [iC (by omega) (by omega),show s+1=bel s p by simp [bel,h4]]
     exact hj
    ·rename_i h4
     have:bel s p=s:=by unfold bel;rw [if_neg h4]
     rw [this] at hj
     exact hj
 |two p a c iha ihc=>
  intro m s b pre post X old Y he hX ho hm hw h0 hs
  match m with
  |0=>simp [GT.flat] at hm
  |m+1=>
   have hw1:iV p=2:=hw.1
   simp only [GT.flat,List.length_cons,List.length_append] at ho hm hs
   match old,ho with
   |o::old,ho=>
    simp only [List.length_cons] at ho
    have hb:=aKq s p
    have ho1:old=old.take a.flat.length++old.drop a.flat.length:=(List.take_append_drop _ _).symm
    have hi:ix d.Body (pre.length:Int)=some p:=by rw [iL,he];simp [GT.flat]
    have hix:ix (X++(o::old)++Y) (pre.length:Int)=some o:=by rw [iL,←hX];simp
    have hst:st (X++(o::old)++Y) (pre.length:Int) (⟨s,b⟩:eX)=some ((X++[⟨s,b⟩])++old++Y):=by rw [←hX,xC _ (by simp)];simp
    have hp:pre.length < d.Body.length:=by rw [he];simp [GT.flat]
    have ra:=iha m (bel s p) (p.Kind == 1) (pre++[p]) (c.flat++post) (X++[⟨s,b⟩]) (old.take a.flat.length) (old.drop a.flat.length++Y) (by rw [he];simp [GT.flat]) (by simp [hX]) (by rw [List.length_take];omega) (by omega) hw.2.1 (by omega) (by omega)
    have rc:=ihc m (bel s p) (p.Kind == 1) (pre++[p]++a.flat) post (X++[⟨s,b⟩]++plT (bel s p) (p.Kind == 1) a) (old.drop a.flat.length) Y (by rw [he];simp [GT.flat]) (by simp [hX,oY]) (by rw [List.length_drop];omega) (by omega) hw.2.2 (by omega) (by omega)
    rw [show ((pre++[p]).length:Int)=((pre.length+1:Nat):Int) by simp,show (pre++[p]).length=pre.length+1 by simp] at ra
    rw [show (pre++[p]++a.flat).length=pre.length+1+a.flat.length by simp;omega] at rc
    have hold:(X++[⟨s,b⟩])++old++Y=(X++[⟨s,b⟩])++old.take a.flat.length++(old.drop a.flat.length++Y):=by
     have:old++Y=old.take a.flat.length++(old.drop a.flat.length++Y):=by rw [←List.append_assoc,List.take_append_drop]
     rw [List.append_assoc,this,List.append_assoc]
     simp
    rw [←List.append_assoc] at ra
    show fE (dS m) _ _ _ _ _=_
    unfold fE
    simp only [hix,aE,hst,hi]
    have hj:eG (dS m) (pre.length:Int) d ((X++[⟨s,b⟩])++old++Y) p (bel s p)=some (((pre.length+(GT.two p a c).flat.length:Nat):Int),X++plT s b (.two p a c)++Y):=by
     unfold eG
     rw [aEh,aE,hw1,cO hp (by omega),cX,hold]
     simp only [fZ,show decide ((0:Int) < ((2:Nat):Int))=true from rfl,if_true]
     rw [←List.append_assoc,ra,aE]
     simp only [show wr (0+1)=1 from rfl]
     rw [cX]
     simp only [fZ,show decide ((1:Int) < ((2:Nat):Int))=true from rfl,if_true]
     rw [←List.append_assoc,rc,aE]
     simp only [show wr (1+1)=2 from rfl]
     rw [cX]
     simp only [fZ,show decide ((2:Int) < ((2:Nat):Int))=false from rfl,Bool.false_eq_true,if_false,aE,gR,plT,GT.flat,List.length_cons,List.length_append]
     simp;omega
    split
    ·rename_i h4
     rw [iC (by omega) (by omega),show s+1=bel s p by simp [bel,h4]]
     exact hj
    ·rename_i h4
     have:bel s p=s:=by unfold bel;rw [if_neg h4]
     rw [this] at hj
     exact hj
theorem places_eq {d:Definition} {t:GT Part} (he:d.Body=t.flat) (hw:t.WF iV) (hl:d.Body.length<=20) (h0:0<=d.Parameters) (h1:d.Parameters<=3):mD d=some (plT d.Parameters false t):=by
 unfold mD qW
 rw [aOM _ (by unfold jN;omega),aE]
 have:=fill_eq (d:=d) (by omega) t 100000 d.Parameters false [] [] [] (List.replicate d.Body.length ⟨0,false⟩) [] (by rw [he];simp) rfl (by rw [List.length_replicate,he]) (by rw [←he];omega) hw h0 (by rw [←he];omega)
 simp only [List.length_nil,List.nil_append,List.append_nil] at this
 rw [show ((0:Nat):Int)=0 from rfl] at this
 rw [this,aE]
section
variable {d:Definition} {part:Int} (hl:d.Body.length < 1000000000)
include hl
theorem aEi (t:GT Part) (p:Part) (rest pre post:List Part) (out:Int) (he:d.Body=pre++t.flat++post) (hp:t.flat=p::rest) (hw:t.WF iV) (hlt:(pre.length:Int) < part) (ho:wr (out+1)=out+1):
  lC d part out (pre.length:Int)=some (.inl (if p.Kind == 4&&decide (part < ((pre.length+t.flat.length:Nat):Int)) then out+1 else out,((pre.length+1:Nat):Int))):=by
 have hi:ix d.Body (pre.length:Int)=some p:=by rw [iL,he,hp];simp
 have hpl:pre.length < d.Body.length:=by rw [he,hp];simp
 unfold lC
 rw [if_pos (by simpa using hlt),hi,aE]
 unfold wC wB
 rw [cO hpl (by omega)]
 by_cases h4:(p.Kind == 4)=true
 ·rw [if_pos h4,(end_at hl t pre post he hw).2,aE,h4,Bool.true_and,ho]
  split<;>rfl
 ·rw [if_neg h4]
  have:(p.Kind == 4)=false:=by simpa using h4
  rw [this]
  rfl
theorem scope_seg:∀ (t:GT Part) (pre post:List Part) (out:Int),d.Body=pre++t.flat++post->t.WF iV->((pre.length+t.flat.length:Nat):Int)<=part->wr (out+1)=out+1->
  loop (fun s=>lC d part s.1 s.2) (out,(pre.length:Int))=loop (fun s=>lC d part s.1 s.2) (out,((pre.length+t.flat.length:Nat):Int)):=by
 intro t
 induction t with
 |nul p=>
  intro pre post out he hw hle ho
  rw [fF (aEi hl (.nul p) p [] pre post out he rfl hw (by simp [GT.flat] at hle;omega) ho),if_neg (by simp only [Bool.and_eq_true,decide_eq_true_eq];omega)]
  rfl
 |one p a iha=>
  intro pre post out he hw hle ho
  rw [fF (aEi hl (.one p a) p a.flat pre post out he rfl hw (by simp [GT.flat] at hle;omega) ho),if_neg (by simp only [Bool.and_eq_true,decide_eq_true_eq];omega)]
  have:=iha (pre++[p]) post out (by rw [he];simp [GT.flat]) hw.2 (by simp [GT.flat] at hle ⊢;omega) ho
  rw [show ((pre++[p]).length:Int)=((pre.length+1:Nat):Int) by simp,show (pre++[p]).length=pre.length+1 by simp] at this
  rw [this]
  congr 2
  simp [GT.flat];omega
 |two p a c iha ihc=>
  intro pre post out he hw hle ho
  rw [fF (aEi hl (.two p a c) p (a.flat++c.flat) pre post out he rfl hw (by simp [GT.flat] at hle;omega) ho),if_neg (by simp only [Bool.and_eq_true,decide_eq_true_eq];omega)]
  have h1:=iha (pre++[p]) (c.flat++post) out (by rw [he];simp [GT.flat]) hw.2.1 (by simp [GT.flat] at hle ⊢;omega) ho
  have h2:=ihc (pre++[p]++a.flat) post out (by rw [he];simp [GT.flat]) hw.2.2 (by simp [GT.flat] at hle ⊢;omega) ho
  rw [show ((pre++[p]).length:Int)=((pre.length+1:Nat):Int) by simp,show (pre++[p]).length=pre.length+1 by simp] at h1
  rw [show (pre++[p]++a.flat).length=pre.length+1+a.flat.length by simp;omega] at h2
  rw [h1,h2]
  congr 2
  simp [GT.flat];omega
theorem scope_at:∀ (t:GT Part) (pre post:List Part) (s:Int) (b:Bool) (i:Nat) (pl:eX),d.Body=pre++t.flat++post->t.WF iV->0<=s->s<=1000000000 - t.flat.length->(plT s b t)[i]?=some pl->part=((pre.length+i:Nat):Int)->
  loop (fun s=>lC d part s.1 s.2) (s,(pre.length:Int))=some pl.scope:=by
 intro t
 have stop:∀ s:Int,loop (fun s=>lC d part s.1 s.2) (s,part)=some s:=fun s=>by
  rw [cX]
  unfold lC
  rw [if_neg (by simp)]
 induction t with
 |nul p=>
  intro pre post s b i pl he hw h0 hs hpl hpt
  match i with
  |0=>
   simp only [plT,List.getElem?_cons_zero,Option.some.injEq] at hpl
   subst hpl
   rw [Nat.add_zero] at hpt
   rw [←hpt];exact stop s
  |i+1=>simp [plT] at hpl
 |one p a iha=>
  intro pre post s b i pl he hw h0 hs hpl hpt
  match i with
  |0=>
   simp only [plT,List.getElem?_cons_zero,Option.some.injEq] at hpl
   subst hpl
   rw [Nat.add_zero] at hpt
   rw [←hpt];exact stop s
  |i+1=>
   simp only [plT,List.getElem?_cons_succ] at hpl
   have hi:i < a.flat.length:=by have:=(List.getElem?_eq_some_iff.1 hpl).1;rwa [oY] at this
   have hsz:(GT.one p a).flat.length=a.flat.length+1:=rfl
   have hb:=aKq s p
   rw [fF (aEi hl (.one p a) p a.flat pre post s he rfl hw (by omega) (iC (by omega) (by omega)))]
   have e:(if (p.Kind == 4&&decide (part < ((pre.length+(GT.one p a).flat.length:Nat):Int)))=true then s+1 else s)=bel s p:=by
    have:decide (part < ((pre.length+(GT.one p a).flat.length:Nat):Int))=true:=by rw [hsz];simp;omega
    rw [this,Bool.and_true];rfl
   rw [e]
   have:=iha (pre++[p]) post (bel s p) (p.Kind == 1) i pl (by rw [he];simp [GT.flat]) hw.2 (by omega) (by omega) hpl (by rw [hpt];simp;omega)
   rw [show ((pre++[p]).length:Int)=((pre.length+1:Nat):Int) by simp] at this
   exact this
 |two p a c iha ihc=>
  intro pre post s b i pl he hw h0 hs hpl hpt
  match i with
  |0=>
   simp only [plT,List.getElem?_cons_zero,Option.some.injEq] at hpl
   subst hpl
   rw [Nat.add_zero] at hpt
   rw [←hpt];exact stop s
  |i+1=>
   simp only [plT,List.getElem?_cons_succ] at hpl
   have hi:i < a.flat.length+c.flat.length:=by have:=(List.getElem?_eq_some_iff.1 hpl).1;rwa [List.length_append,oY,oY] at this
   have hsz:(GT.two p a c).flat.length=a.flat.length+c.flat.length+1:=by simp [GT.flat]
   have hb:=aKq s p
   rw [fF (aEi hl (.two p a c) p (a.flat++c.flat) pre post s he rfl hw (by omega) (iC (by omega) (by omega)))]
   have e:(if (p.Kind == 4&&decide (part < ((pre.length+(GT.two p a c).flat.length:Nat):Int)))=true then s+1 else s)=bel s p:=by
    have:decide (part < ((pre.length+(GT.two p a c).flat.length:Nat):Int))=true:=by rw [hsz];simp;omega
    rw [this,Bool.and_true];rfl
   rw [e]
   by_cases hia:i < a.flat.length
   ·rw [List.getElem?_append_left (by rw [oY];exact hia)] at hpl
    have:=iha (pre++[p]) (c.flat++post) (bel s p) (p.Kind == 1) i pl (by rw [he];simp [GT.flat]) hw.2.1 (by omega) (by omega) hpl (by rw [hpt];simp;omega)
    rw [show ((pre++[p]).length:Int)=((pre.length+1:Nat):Int) by simp] at this
    exact this
   ·rw [List.getElem?_append_right (by rw [oY];omega),oY] at hpl
    have h1:=scope_seg hl (part:=part) a (pre++[p]) (c.flat++post) (bel s p) (by rw [he];simp [GT.flat]) hw.2.1 (by rw [hpt];simp;omega) (iC (by omega) (by omega))
    have h2:=ihc (pre++[p]++a.flat) post (bel s p) (p.Kind == 1) (i - a.flat.length) pl (by rw [he];simp [GT.flat]) hw.2.2 (by omega) (by omega) hpl (by rw [hpt];simp;omega)
    rw [show ((pre++[p]).length:Int)=((pre.length+1:Nat):Int) by simp,show (pre++[p]).length=pre.length+1 by simp] at h1
    rw [show (pre++[p]++a.flat).length=pre.length+1+a.flat.length by simp;omega] at h2
    rw [h1];exact h2
end
theorem scope_eq {d:Definition} {t:GT Part} (he:d.Body=t.flat) (hw:t.WF iV) (hl:d.Body.length<=20) (h0:0<=d.Parameters) (h1:d.Parameters<=3) {i:Nat} {pl:eX} (hpl:(plT d.Parameters false t)[i]?=some pl):aBh d (i:Int)=some pl.scope:=by
 unfold aBh
 have:=scope_at (d:=d) (part:=(i:Int)) (by omega) t [] [] d.Parameters false i pl (by rw [he];simp) hw h0 (by rw [←he];omega) hpl (by simp)
 simp only [List.length_nil] at this
 rw [show ((0:Nat):Int)=0 from rfl] at this
 rw [this];rfl
theorem aKr:∀ (t:GT Part),t.WF iV->∃ l x,t.flat=l++[x]/\iV x=0
 |.nul p,hw=>⟨[],p,rfl,hw⟩
 |.one p a,hw=>by
  obtain ⟨l,x,h1,h2⟩:=aKr a hw.2
  exact ⟨p::l,x,by simp [GT.flat,h1],h2⟩
 |.two p a c,hw=>by
  obtain ⟨l,x,h1,h2⟩:=aKr c hw.2.2
  exact ⟨p::(a.flat++l),x,by simp [GT.flat,h1],h2⟩
theorem aKs {p:Part}:(p.Kind=1->iV p=1)/\(iV p=2->p.Kind=2):=by
 unfold iV
 constructor
 ·intro h;simp [h]
 ·intro h
  by_cases h1:(p.Kind == 1||p.Kind == 3||p.Kind == 4)=true
  ·rw [if_pos h1] at h;omega
  ·rw [if_neg h1] at h
   by_cases h2:(p.Kind == 2)=true
   ·simpa using h2
   ·rw [if_neg h2] at h;omega
theorem behind_eq:∀ (t:GT Part) (s:Int) (b:Bool) (i:Nat) (pl:eX),t.WF iV->(plT s b t)[i]?=some pl->pl.behind=if i=0 then b else match t.flat[i - 1]? with|some q=>q.Kind == 1|none=>false:=by
 intro t
 induction t with
 |nul p=>
  intro s b i pl hw h
  match i with
  |0=>simp only [plT,List.getElem?_cons_zero,Option.some.injEq] at h;subst h;rfl
  |i+1=>simp [plT] at h
 |one p a iha=>
  intro s b i pl hw h
  match i with
  |0=>simp only [plT,List.getElem?_cons_zero,Option.some.injEq] at h;subst h;rfl
  |i+1=>
   simp only [plT,List.getElem?_cons_succ] at h
   have:=iha _ _ i pl hw.2 h
   rw [this,if_neg (Nat.succ_ne_zero i),Nat.add_sub_cancel]
   match i with
   |0=>simp [GT.flat]
   |i+1=>simp [GT.flat]
 |two p a c iha ihc=>
  intro s b i pl hw h
  match i with
  |0=>simp only [plT,List.getElem?_cons_zero,Option.some.injEq] at h;subst h;rfl
  |i+1=>
   simp only [plT,List.getElem?_cons_succ] at h
   rw [if_neg (by omega),Nat.add_sub_cancel]
   by_cases hia:i < a.flat.length
   ·rw [List.getElem?_append_left (by rw [oY];exact hia)] at h
    have:=iha _ _ i pl hw.2.1 h
    rw [this]
    match i with
    |0=>simp [GT.flat]
    |i+1=>
     have:(GT.two p a c).flat[i+1]?=a.flat[i]?:=by
      simp only [GT.flat,List.getElem?_cons_succ]
      rw [List.getElem?_append_left (by omega)]
     rw [this];simp
   ·rw [List.getElem?_append_right (by rw [oY];omega),oY] at h
    have:=ihc _ _ _ pl hw.2.2 h
    rw [this]
    by_cases hz:i - a.flat.length=0
    ·rw [if_pos hz]
     have hi:i=a.flat.length:=by omega
     have hk2:=aKs.2 hw.1
     obtain ⟨l,x,h1,h2⟩:=aKr a hw.2.1
     have:(GT.two p a c).flat[i]?=some x:=by
      simp only [GT.flat]
      rw [hi,h1]
      simp
     rw [this,hk2]
     have hx:(x.Kind == 1)=false:=by
      by_cases h:x.Kind=1
      ·have:=aKs.1 h;omega
      ·simpa using h
     simp [hx]
    ·rw [if_neg hz]
     have:(GT.two p a c).flat[i]?=c.flat[i - a.flat.length - 1]?:=by
      obtain ⟨j,rfl⟩:∃ j,i=j+1:=⟨i - 1,by omega⟩
      simp only [GT.flat,List.getElem?_cons_succ]
      rw [List.getElem?_append_right (by omega)]
      congr 1;omega
     rw [this]
end Gv
namespace Gv
def zL {β:Type} (z:β->Nat) (a:List β):Nat:=a.length+(a.map z).sum
theorem sum_mem {n:Nat}:∀ {l:List Nat},n∈l->n<=l.sum
 |a::l,h=>by
  rw [List.sum_cons]
  rcases List.mem_cons.1 h with rfl|h
  ·omega
  ·have:=sum_mem h;omega
theorem aIL {β:Type} {z:β->Nat} {a:List β} {x:β} (h:x∈a):z x<=zL z a:=by
 unfold zL
 have:z x<=(a.map z).sum:=sum_mem (List.mem_map.2 ⟨x,h,rfl⟩)
 omega
theorem aEW {β:Type} {z:β->Nat} {a:List β}:a.length<=zL z a:=by unfold zL;omega
theorem szL {β:Type} {f:β->Int->Option Int} {z:β->Nat} {step:(Int × Int)->Option ((Int × Int) ⊕ (Int ⊕ Int))} {a:List β} {left:Int} (h0:0<=left) (hl:left<=sz) (ha:a.length < 9223372036854775808)
  (hf:∀ x∈a,∀ l:Int,0<=l->l<=sz->∃ r,f x l=some r/\(0<=r->r=l - z x))
  (hs:∀ (k:Nat) (l:Int) x,k < a.length->a.length<=sz->ix a (k:Int)=some x->step (l,(k:Int))=ob (f x l) fun r=>if decide (r < 0)=true then some (.inr (.inr (-1))) else some (.inl (r,((k+1:Nat):Int))))
  (hs':∀ l,step (l,(a.length:Int))=some (.inr (.inl l))):
  ∃ r,(if (decide (wr (left - (a.length:Int)) < 0)) then (some (-1)) else (ob (loop step (wr (left - (a.length:Int)),0)) fun r=>match r with|.inl r=>some r|.inr r=>some r))=some r/\(0<=r->r=left - zL z a):=by
 have e1:wr (left - (a.length:Int))=left - (a.length:Int):=by unfold wr;unfold sz at hl;omega
 rw [e1]
 by_cases hneg:left - (a.length:Int) < 0
 ·exact ⟨-1,by rw [if_pos (by simpa using hneg)],by omega⟩
 rw [if_neg (by simpa using hneg)]
 have hal:a.length<=sz:=by omega
 have hL:=aGH (step:=step) (fun s=>0<=s.1/\0<=s.2/\s.2<=a.length/\s.1=left - a.length - ((a.take s.2.toNat).map z).sum) (fun s=>a.length - s.2.toNat) (fun r=>r=.inr (-1)\/∃ l,r=.inl l/\l=left - zL z a) (fun s hI=>?_) (s:=(left - (a.length:Int),0)) ⟨by simp only;omega,by simp,by simp,by simp⟩
 ·obtain ⟨r,hr,hR⟩:=hL
  rw [hr,aE]
  rcases hR with rfl|⟨l,rfl,h1⟩
  ·exact ⟨-1,rfl,by omega⟩
  ·exact ⟨l,rfl,fun _=>h1⟩
 ·obtain ⟨l,i⟩:=s
  obtain ⟨h1,h3,h4,h5⟩:=hI
  simp only at h1 h3 h4 h5 ⊢
  obtain ⟨k,rfl⟩:∃ k:Nat,i=(k:Int):=⟨i.toNat,by omega⟩
  by_cases hk:k < a.length
  ·have hx:ix a (k:Int)=some a[k]:=by rw [iL];simp [hk]
   obtain ⟨r,hr,hok⟩:=hf a[k] (List.getElem_mem hk) l h1 (by omega)
   rw [hs k l _ hk hal hx,hr,aE]
   by_cases hn:r < 0
   ·right;rw [if_pos (by simpa using hn)];exact ⟨_,rfl,.inl rfl⟩
   ·left
    rw [if_neg (by simpa using hn)]
    have g1:=hok (by omega)
    refine ⟨_,rfl,⟨by simp only;omega,by simp only;omega,by simp only;omega,?_⟩,by simp only;omega⟩
    simp only [Int.toNat_natCast] at h5 ⊢
    rw [List.take_add_one,List.map_append,List.sum_append]
    rw [List.map_take] at h5
    simp [hk]
    omega
  ·obtain rfl:k=a.length:=by omega
   right
   rw [hs' l]
   refine ⟨_,rfl,.inr ⟨l,rfl,?_⟩⟩
   simp at h5
   unfold zL
   omega
def aIs (p:Part):Nat:=p.Name.length+zL List.length p.Arguments
def zDef (d:Definition):Nat:=d.Name.length+zL aIs d.Body
def aKM (m:bU):Nat:=m.Left.length+m.Right.length+m.Result.length
def aJD (c:bT):Nat:=c.Values.length
def zSys (s:bZ):Nat:=zL zDef s.Definitions+zL aJD s.Components+zL aKM s.Meetings+zL List.length s.Allowed+zL List.length s.Hidden
def aCD (n:Nat) (p:Part):Prop:=p.Name.length<=n/\p.Arguments.length<=n/\∀ e∈p.Arguments,e.length<=n
def aBU (n:Nat) (d:Definition):Prop:=d.Name.length<=n/\d.Body.length<=n/\∀ p∈d.Body,aCD n p
def aOR (n:Nat) (m:bU):Prop:=m.Left.length<=n/\m.Right.length<=n/\m.Result.length<=n
structure aJE (n:Nat) (s:bZ):Prop where
 defs:s.Definitions.length<=n
 dfn:∀ d∈s.Definitions,aBU n d
 comps:s.Components.length<=n
 comp:∀ c∈s.Components,c.Values.length<=n
 meets:s.Meetings.length<=n
 meet:∀ m∈s.Meetings,aOR n m
 alls:s.Allowed.length<=n
 all:∀ t∈s.Allowed,t.length<=n
 hids:s.Hidden.length<=n
 hid:∀ t∈s.Hidden,t.length<=n
theorem aOS {a:List bS} {left:Int} (h0:0<=left) (hl:left<=sz) (ha:a.length < 9223372036854775808):∃ r,aDq a left=some r/\(0<=r->r=left - a.length):=by
 unfold aDq
 have e1:wr (left - (a.length:Int))=left - (a.length:Int):=by unfold wr;unfold sz at hl;omega
 rw [e1]
 by_cases n1:left - (a.length:Int) < 0
 ·exact ⟨-1,by rw [if_pos (by simpa using n1)],by omega⟩
 ·exact ⟨_,by rw [if_neg (by simpa using n1)],fun _=>rfl⟩
theorem aNm {a:List (List bS)} {left:Int} (h0:0<=left) (hl:left<=sz) (ha:a.length < 9223372036854775808) (hx:∀ e∈a,e.length < 9223372036854775808):∃ r,aFS a left=some r/\(0<=r->r=left - zL List.length a):=by
 refine szL (f:=aDq) (step:=fun s=>vY a s.1 s.2) h0 hl ha (fun x hm l g0 g1=>aOS g0 g1 (hx x hm)) (fun k l x hk hz hx=>?_) (fun l=>?_)
 ·simp only [vY,cR hk,if_true,hx,aE,cO hk (show a.length < 4611686018427387904 by unfold sz at hz;omega)]
 ·simp only [vY,cN];rfl
theorem aPU {p:Part} {left:Int} (h0:0<=left) (hl:left<=sz) (hp:aCD 9223372036854775807 p):∃ r,aFg p left=some r/\(0<=r->r=left - aIs p):=by
 obtain ⟨g1,g2,g3⟩:=hp
 have hl':=hl
 unfold sz at hl'
 unfold aFg aIs
 have e1:wr (left - (p.Name.length:Int))=left - (p.Name.length:Int):=by unfold wr;omega
 rw [e1]
 by_cases n1:left - (p.Name.length:Int) < 0
 ·exact ⟨-1,by rw [if_pos (by simpa using n1)],by omega⟩
 rw [if_neg (by simpa using n1)]
 obtain ⟨r,hr,h1⟩:=aNm (a:=p.Arguments) (left:=left - p.Name.length) (by omega) (by omega) (by omega) (fun e he=>by have:=g3 e he;omega)
 rw [hr,aE]
 by_cases n2:r < 0
 ·exact ⟨-1,by rw [if_pos (by simpa using n2)],by omega⟩
 ·refine ⟨r,by rw [if_neg (by simpa using n2)],fun h=>?_⟩
  have:=h1 h
  omega
theorem aOT {a:List Part} {left:Int} (h0:0<=left) (hl:left<=sz) (ha:a.length < 9223372036854775808) (hx:∀ p∈a,aCD 9223372036854775807 p):∃ r,aHA a left=some r/\(0<=r->r=left - zL aIs a):=by
 refine szL (f:=aFg) (step:=fun s=>zY a s.1 s.2) h0 hl ha (fun x hm l g0 g1=>aPU g0 g1 (hx x hm)) (fun k l x hk hz hx=>?_) (fun l=>?_)
 ·simp only [zY,cR hk,if_true,hx,aE,cO hk (show a.length < 4611686018427387904 by unfold sz at hz;omega)]
 ·simp only [zY,cN];rfl
theorem aJF {p:Definition} {left:Int} (h0:0<=left) (hl:left<=sz) (hp:aBU 9223372036854775807 p):∃ r,pA p left=some r/\(0<=r->r=left - zDef p):=by
 obtain ⟨g1,g2,g3⟩:=hp
 have hl':=hl
 unfold sz at hl'
 unfold pA zDef
 have e1:wr (left - (p.Name.length:Int))=left - (p.Name.length:Int):=by unfold wr;omega
 rw [e1]
 by_cases n1:left - (p.Name.length:Int) < 0
 ·exact ⟨-1,by rw [if_pos (by simpa using n1)],by omega⟩
 rw [if_neg (by simpa using n1)]
 obtain ⟨r,hr,h1⟩:=aOT (a:=p.Body) (left:=left - p.Name.length) (by omega) (by omega) (by omega) g3
 rw [hr,aE]
 by_cases n2:r < 0
 ·exact ⟨-1,by rw [if_pos (by simpa using n2)],by omega⟩
 ·refine ⟨r,by rw [if_neg (by simpa using n2)],fun h=>?_⟩
  have:=h1 h
  omega
theorem aIM {a:List Definition} {left:Int} (h0:0<=left) (hl:left<=sz) (ha:a.length < 9223372036854775808) (hx:∀ p∈a,aBU 9223372036854775807 p):∃ r,xE a left=some r/\(0<=r->r=left - zL zDef a):=by
 refine szL (f:=pA) (step:=fun s=>mY a s.1 s.2) h0 hl ha (fun x hm l g0 g1=>aJF g0 g1 (hx x hm)) (fun k l x hk hz hx=>?_) (fun l=>?_)
 ·simp only [mY,cR hk,if_true,hx,aE,cO hk (show a.length < 4611686018427387904 by unfold sz at hz;omega)]
 ·simp only [mY,cN];rfl
theorem aKt {c:bT} {left:Int} (h0:0<=left) (hl:left<=sz) (ha:c.Values.length < 9223372036854775808):∃ r,sA c left=some r/\(0<=r->r=left - aJD c):=by
 unfold sA aFT aJD
 have e1:wr (left - (c.Values.length:Int))=left - (c.Values.length:Int):=by unfold wr;unfold sz at hl;omega
 rw [e1]
 by_cases n1:left - (c.Values.length:Int) < 0
 ·rw [if_pos (by simpa using n1),aE]
  exact ⟨-1,by simp,by omega⟩
 ·rw [if_neg (by simpa using n1),aE,if_neg (by simpa using n1)]
  exact ⟨_,rfl,fun _=>rfl⟩
theorem aJG {a:List bT} {left:Int} (h0:0<=left) (hl:left<=sz) (ha:a.length < 9223372036854775808) (hx:∀ c∈a,c.Values.length < 9223372036854775808):∃ r,zZ a left=some r/\(0<=r->r=left - zL aJD a):=by
 refine szL (f:=sA) (step:=fun s=>nU a s.1 s.2) h0 hl ha (fun x hm l g0 g1=>aKt g0 g1 (hx x hm)) (fun k l x hk hz hx=>?_) (fun l=>?_)
 ·simp only [nU,cR hk,if_true,hx,aE,cO hk (show a.length < 4611686018427387904 by unfold sz at hz;omega)]
 ·simp only [nU,cN];rfl
theorem aPV {m:bU} {left:Int} (h0:0<=left) (hl:left<=sz) (hm:aOR 9223372036854775807 m):∃ r,yM m left=some r/\(0<=r->r=left - aKM m):=by
 obtain ⟨g1,g2,g3⟩:=hm
 unfold sz at hl
 unfold yM aKM
 have e1:wr (left - (m.Left.length:Int))=left - (m.Left.length:Int):=by unfold wr;omega
 rw [e1]
 by_cases n1:left - (m.Left.length:Int) < 0
 ·exact ⟨-1,by rw [if_pos (by simpa using n1)],by omega⟩
 rw [if_neg (by simpa using n1)]
 have e2:wr (left - (m.Left.length:Int) - (m.Right.length:Int))=left - (m.Left.length:Int) - (m.Right.length:Int):=by unfold wr;omega
 rw [e2]
 by_cases n2:left - (m.Left.length:Int) - (m.Right.length:Int) < 0
 ·exact ⟨-1,by rw [if_pos (by simpa using n2)],by omega⟩
 rw [if_neg (by simpa using n2)]
 have e3:wr (left - (m.Left.length:Int) - (m.Right.length:Int) - (m.Result.length:Int))=left - (m.Left.length:Int) - (m.Right.length:Int) - (m.Result.length:Int):=by unfold wr;omega
 rw [e3]
 by_cases n3:left - (m.Left.length:Int) - (m.Right.length:Int) - (m.Result.length:Int) < 0
 ·exact ⟨-1,by rw [if_pos (by simpa using n3)],by omega⟩
 rw [if_neg (by simpa using n3)]
 exact ⟨_,rfl,fun _=>by omega⟩
theorem aOU {a:List bU} {left:Int} (h0:0<=left) (hl:left<=sz) (ha:a.length < 9223372036854775808) (hp:∀ m∈a,aOR 9223372036854775807 m):
  ∃ r,aCU a left=some r/\(0<=r->r=left - zL aKM a):=by
 refine szL (f:=yM) (step:=fun s=>rG a s.1 s.2) h0 hl (by omega) (fun t ht l g0 g1=>aPV g0 g1 (hp t ht)) (fun k l x hk hz hx=>?_) (fun l=>?_)
 ·simp only [rG,cR hk,if_true,hx,aE,cO hk (show a.length < 4611686018427387904 by unfold sz at hz;omega)]
 ·simp only [rG,cN];rfl
theorem aKN {a:List bJ} {left:Int} (h0:0<=left) (hl:left<=sz) (ha:a.length < 9223372036854775808) (hp:∀ m∈a,m.length < 9223372036854775808):
  ∃ r,aBZ a left=some r/\(0<=r->r=left - zL List.length a):=by
 refine szL (f:=fun (x:bJ) l=>some (if decide (wr (l - (x.length:Int)) < 0)=true then -1 else wr (l - (x.length:Int)))) (z:=List.length) (step:=fun s=>tB a s.1 s.2) h0 hl (by omega) (fun t ht l g0 g1=>⟨_,rfl,fun h=>?_⟩) (fun k l x hk hz hx=>?_) (fun l=>?_)
 ·have:=hp t ht
  have e:wr (l - (t.length:Int))=l - t.length:=by unfold sz at g1;unfold wr;omega
  rw [e] at h ⊢
  split at h
  ·omega
  ·rename_i h2;rw [if_neg h2]
 ·simp only [tB,cR hk,if_true,hx,aE,cO hk (show a.length < 4611686018427387904 by unfold sz at hz;omega)]
  by_cases hn:wr (l - (x.length:Int)) < 0
  ·simp [hn]
  ·simp [hn]
 ·simp only [tB,cN];rfl
theorem aNn {s:bZ} (h:aJE 9223372036854775807 s):∃ r,aDI s 1048576=some r/\(0<=r->zSys s<=sz):=by
 obtain ⟨p1,p2,p3,p4,p5,p6,p7,p8,p9,p10⟩:=h
 obtain ⟨r,hr,h1⟩:=aIM (a:=s.Definitions) (left:=1048576) (by omega) (by unfold sz;omega) (by omega) p2
 unfold aDI zSys
 rw [hr,aE]
 by_cases n1:r < 0
 ·exact ⟨-1,by rw [if_pos (by simpa using n1)],by omega⟩
 rw [if_neg (by simpa using n1)]
 have i1:=h1 (by omega)
 obtain ⟨r2,hr2,h2⟩:=aJG (a:=s.Components) (left:=r) (by omega) (by unfold sz;omega) (by omega) (fun c hc=>by have:=p4 c hc;omega)
 rw [hr2,aE]
 by_cases n2:r2 < 0
 ·exact ⟨-1,by rw [if_pos (by simpa using n2)],by omega⟩
 rw [if_neg (by simpa using n2)]
 have i2:=h2 (by omega)
 obtain ⟨r3,hr3,h3⟩:=aOU (a:=s.Meetings) (left:=r2) (by omega) (by unfold sz;omega) (by omega) p6
 rw [hr3,aE]
 by_cases n3:r3 < 0
 ·exact ⟨-1,by rw [if_pos (by simpa using n3)],by omega⟩
 rw [if_neg (by simpa using n3)]
 have i3:=h3 (by omega)
 obtain ⟨r4,hr4,h4⟩:=aKN (a:=s.Allowed) (left:=r3) (by omega) (by unfold sz;omega) (by omega) (fun s hs=>by have:=p8 s hs;omega)
 rw [hr4,aE]
 by_cases n4:r4 < 0
 ·exact ⟨-1,by rw [if_pos (by simpa using n4)],by omega⟩
 rw [if_neg (by simpa using n4)]
 have i4:=h4 (by omega)
 obtain ⟨r5,hr5,h5⟩:=aKN (a:=s.Hidden) (left:=r4) (by omega) (by unfold sz;omega) (by omega) (fun s hs=>by have:=p10 s hs;omega)
 rw [hr5,aE]
 by_cases n5:r5 < 0
 ·exact ⟨-1,by rw [if_pos (by simpa using n5)],by omega⟩
 rw [if_neg (by simpa using n5)]
 have i5:=h5 (by omega)
 refine ⟨_,rfl,fun _=>?_⟩
 unfold sz
 omega
theorem part_fits {p:Part} {n:Nat} (h:aIs p<=n):aCD n p:=by
 unfold aIs at h
 refine ⟨by omega,by have:=aEW (z:=List.length) (a:=p.Arguments);omega,fun e he=>?_⟩
 have:=aIL (z:=List.length) he
 omega
theorem def_fits {d:Definition} {n:Nat} (h:zDef d<=n):aBU n d:=by
 unfold zDef at h
 refine ⟨by omega,by have:=aEW (z:=aIs) (a:=d.Body);omega,fun e he=>part_fits ?_⟩
 have:=aIL (z:=aIs) he
 omega
theorem aHs {s:bZ} {n:Nat} (h:zSys s<=n):aJE n s:=by
 unfold zSys at h
 have h1:=aEW (z:=zDef) (a:=s.Definitions)
 have h2:=aEW (z:=aJD) (a:=s.Components)
 have h3:=aEW (z:=aKM) (a:=s.Meetings)
 have h4:=aEW (z:=List.length) (a:=s.Allowed)
 have h5:=aEW (z:=List.length) (a:=s.Hidden)
 refine ⟨by omega,fun d hd=>def_fits (by have:=aIL (z:=zDef) hd;omega),by omega,fun c hc=>by have:c.Values.length<=zL aJD s.Components:=aIL (z:=aJD) hc;omega,by omega,fun m hm=>?_,by omega,fun t ht=>by have:=aIL (z:=List.length) ht;omega,by omega,fun t ht=>by have:=aIL (z:=List.length) ht;omega⟩
 have:m.Left.length+m.Right.length+m.Result.length<=zL aKM s.Meetings:=aIL (z:=aKM) hm
 exact ⟨by omega,by omega,by omega⟩
theorem toL {β:Type} {z:β} {step:(List β × Int)->Option ((List β × Int) ⊕ List β)} {a:List β} (h:a.length<=jN)
  (hs:∀ (k:Nat) (out:List β) x,k < a.length->out.length=a.length->ix a (k:Int)=some x->x∈a->step (out,(k:Int))=some (.inl (out.set k x,((k+1:Nat):Int)))) (hs':∀ out,step (out,(a.length:Int))=some (.inr out)):
  (ob (mkz (a.length:Int) z) fun xs=>ob (loop step (xs,0)) fun r=>some r)=some a:=by
 rw [aOM _ h,aE,aEf (a:=a) (z:=z)]
 ·rfl
 ·intro k out x hk ho hx
  exact hs k out x hk ho hx (by rw [cZ hk] at hx;cases hx;exact List.getElem_mem hk)
 ·exact hs'
theorem aRc {a:List bS} (h:a.length<=jN):aHD a=some a:=by
 have h2:a.length < 4611686018427387904:=by unfold jN at h;omega
 refine toL (step:=fun s=>aAz a s.1 s.2) h (fun k out x hk ho hx _=>?_) (fun out=>?_)
 ·simp only [aAz,cR hk,if_true,hx,aE,aJa,cZ (xs:=out) (k:=k) (by omega),xC (xs:=out) (k:=k) _ (show k < out.length by omega),cO hk h2]
 ·simp only [aAz,cN];rfl
theorem aPW {a:List (List bS)} (h:a.length<=jN) (hx:∀ e∈a,e.length<=jN):aFZ a=some a:=by
 have h2:a.length < 4611686018427387904:=by unfold jN at h;omega
 refine toL (step:=fun s=>wK a s.1 s.2) h (fun k out x hk ho hix hm=>?_) (fun out=>?_)
 ·simp only [wK,cR hk,if_true,hix,aE,aRc (hx x hm),cZ (xs:=out) (k:=k) (by omega),xC (xs:=out) (k:=k) _ (show k < out.length by omega),cO hk h2]
 ·simp only [wK,cN];rfl
theorem aRd {a:List Part} (h:a.length<=jN) (hx:∀ p∈a,aCD jN p):aHE a=some a:=by
 have h2:a.length < 4611686018427387904:=by unfold jN at h;omega
 refine toL (step:=fun s=>aAA a s.1 s.2) h (fun k out x hk ho hix hm=>?_) (fun out=>?_)
 ·simp only [aAA,cR hk,if_true,hix,aE,aJb,aPW (hx x hm).2.1 (hx x hm).2.2,cZ (xs:=out) (k:=k) (by omega),xC (xs:=out) (k:=k) _ (show k < out.length by omega),cO hk h2]
 ·simp only [aAA,cN];rfl
theorem aKu {a:List Definition} (h:a.length<=jN) (hx:∀ p∈a,aBU jN p):xI a=some a:=by
 have h2:a.length < 4611686018427387904:=by unfold jN at h;omega
 refine toL (step:=fun s=>nG a s.1 s.2) h (fun k out x hk ho hix hm=>?_) (fun out=>?_)
 ·simp only [nG,cR hk,if_true,hix,aE,aAB,aRd (hx x hm).2.1 (hx x hm).2.2,cZ (xs:=out) (k:=k) (by omega),xC (xs:=out) (k:=k) _ (show k < out.length by omega),cO hk h2]
 ·simp only [nG,cN];rfl
theorem aPX {a:List Int} (h:a.length<=jN):aGa a=some a:=by
 have h2:a.length < 4611686018427387904:=by unfold jN at h;omega
 refine toL (step:=fun s=>wL a s.1 s.2) h (fun k out x hk ho hix hm=>?_) (fun out=>?_)
 ·simp only [wL,cR hk,if_true,hix,aE,cZ (xs:=out) (k:=k) (by omega),xC (xs:=out) (k:=k) _ (show k < out.length by omega),cO hk h2]
 ·simp only [wL,cN];rfl
theorem aLl {a:List bT} (h:a.length<=jN) (hx:∀ c∈a,c.Values.length<=jN):aAC a=some a:=by
 have h2:a.length < 4611686018427387904:=by unfold jN at h;omega
 refine toL (step:=fun s=>nX a s.1 s.2) h (fun k out x hk ho hix hm=>?_) (fun out=>?_)
 ·simp only [nX,cR hk,if_true,hix,aE,aBM,aPX (hx x hm),cZ (xs:=out) (k:=k) (by omega),xC (xs:=out) (k:=k) _ (show k < out.length by omega),cO hk h2]
 ·simp only [nX,cN];rfl
theorem aRe {a:List bU} (h:a.length<=jN):aDh a=some a:=by
 have h2:a.length < 4611686018427387904:=by unfold jN at h;omega
 refine toL (step:=fun s=>rK a s.1 s.2) h (fun k out x hk ho hix hm=>?_) (fun out=>?_)
 ·simp only [rK,cR hk,if_true,hix,aE,aEB,cZ (xs:=out) (k:=k) (by omega),xC (xs:=out) (k:=k) _ (show k < out.length by omega),cO hk h2]
 ·simp only [rK,cN];rfl
theorem aPY {s:bZ} (h:aJE jN s):qV s=some s:=by
 unfold qV
 rw [aKu h.1 h.2,aE,aLl h.3 h.4,aE,aRe h.5,aE,aJv h.7,aE,aJv h.9,aE]
theorem eqL {β:Type} [DecidableEq β] {step:Int->Option (Int ⊕ (Unit ⊕ Bool))} {a b:List β} (hlen:a.length < 4611686018427387904)
  (h:∀ (k:Nat) x y,k < a.length->ix a (k:Int)=some x->ix b (k:Int)=some y->x∈a->step (k:Int)=if x=y then some (.inl (wr ((k:Int)+1))) else some (.inr (.inr false)))
  (h':step (a.length:Int)=some (.inr (.inl ()))):(if ((a.length:Int) != (b.length:Int)) then (some false) else (ob (loop step 0) fun r=>match r with|.inl _=>some true|.inr r=>some r))=some (decide (a=b)):=by
 by_cases e:a.length=b.length
 ·rw [if_neg (by simp [e])]
  refine aHn e (fun k x y hk hx hy=>?_) h'
  rw [h k x y hk hx hy (by rw [cZ hk] at hx;cases hx;exact List.getElem_mem hk),cO hk hlen]
 ·rw [if_pos (by simp only [bne_iff_ne,ne_eq];omega)]
  have:¬ a=b:=fun h=>e (by rw [h])
  simp [this]
theorem eqTerm_eq (a b:bS):aGX a b=some (decide (a=b)):=by
 obtain ⟨a1,a2⟩:=a;obtain ⟨b1,b2⟩:=b
 simp only [aGX,bS.mk.injEq]
 by_cases h1:a1=b1<;>by_cases h2:a2=b2<;>simp [h1,h2]
theorem aRf (a b:List bS) (h:a.length < 4611686018427387904):aHI a b=some (decide (a=b)):=by
 refine eqL (step:=fun s=>aAN a b s) h (fun k x y hk hx hy hm=>?_) ?_
 ·simp only [aAN,cR hk,if_true,hx,hy,aE,eqTerm_eq]
  by_cases e:x=y<;>simp [e]
 ·simp only [aAN,cN];rfl
theorem aPZ (a b:List (List bS)) (h:a.length < 4611686018427387904) (h2:∀ e∈a,e.length < 4611686018427387904):aGe a b=some (decide (a=b)):=by
 refine eqL (step:=fun s=>wY a b s) h (fun k x y hk hx hy hm=>?_) ?_
 ·simp only [wY,cR hk,if_true,hx,hy,aE,aRf x y (h2 x hm)]
  by_cases e:x=y<;>simp [e]
 ·simp only [wY,cN];rfl
theorem eqPart_eq (a b:Part) (h:aCD 4611686018427387903 a):aGY a b=some (decide (a=b)):=by
 obtain ⟨a1,a2,a3,a4⟩:=a;obtain ⟨b1,b2,b3,b4⟩:=b
 obtain ⟨g1,g2,g3⟩:=h
 simp only at g1 g2 g3
 simp only [aGY,Part.mk.injEq,aPZ a4 b4 (by omega) (fun e he=>by have:=g3 e he;omega),aE]
 by_cases h1:a1=b1<;>by_cases h2:a2=b2<;>by_cases h3:a3=b3<;>by_cases h4:a4=b4<;>simp [h1,h2,h3,h4]
theorem aRg (a b:List Part) (h:a.length < 4611686018427387904) (h2:∀ p∈a,aCD 4611686018427387903 p):aHJ a b=some (decide (a=b)):=by
 refine eqL (step:=fun s=>aAO a b s) h (fun k x y hk hx hy hm=>?_) ?_
 ·simp only [aAO,cR hk,if_true,hx,hy,aE,eqPart_eq x y (h2 x hm)]
  by_cases e:x=y<;>simp [e]
 ·simp only [aAO,cN];rfl
theorem aLm (a b:Definition) (h:aBU 4611686018427387903 a):uB a b=some (decide (a=b)):=by
 obtain ⟨a1,a2,a3⟩:=a;obtain ⟨b1,b2,b3⟩:=b
 obtain ⟨g1,g2,g3⟩:=h
 simp only at g1 g2 g3
 simp only [uB,Definition.mk.injEq,aRg a3 b3 (by omega) g3,aE]
 by_cases h1:a1=b1<;>by_cases h2:a2=b2<;>by_cases h3:a3=b3<;>simp [h1,h2,h3]
theorem aKv (a b:List Definition) (h:a.length < 4611686018427387904) (h2:∀ p∈a,aBU 4611686018427387903 p):xQ a b=some (decide (a=b)):=by
 refine eqL (step:=fun s=>nI a b s) h (fun k x y hk hx hy hm=>?_) ?_
 ·simp only [nI,cR hk,if_true,hx,hy,aE,aLm x y (h2 x hm)]
  by_cases e:x=y<;>simp [e]
 ·simp only [nI,cN];rfl
theorem aMH (a b:bT) (h:a.Values.length < 4611686018427387904):wZ a b=some (decide (a=b)):=by
 obtain ⟨a1,a2⟩:=a;obtain ⟨b1,b2⟩:=b
 simp only at h
 simp only [wZ,bT.mk.injEq,aKH a2 b2 h,aE]
 by_cases h1:a1=b1<;>by_cases h2:a2=b2<;>simp [h1,h2]
theorem aLn (a b:List bT) (h:a.length < 4611686018427387904) (h2:∀ p∈a,p.Values.length < 4611686018427387904):aAP a b=some (decide (a=b)):=by
 refine eqL (step:=fun s=>oG a b s) h (fun k x y hk hx hy hm=>?_) ?_
 ·simp only [oG,cR hk,if_true,hx,hy,aE,aMH x y (h2 x hm)]
  by_cases e:x=y<;>simp [e]
 ·simp only [oG,cN];rfl
theorem eqMeet_eq (a b:bU):aCt a b=some (decide (a=b)):=by
 obtain ⟨a1,a2,a3⟩:=a;obtain ⟨b1,b2,b3⟩:=b
 simp only [aCt,bU.mk.injEq]
 by_cases h1:a1=b1<;>by_cases h2:a2=b2<;>by_cases h3:a3=b3<;>simp [h1,h2,h3]
theorem aRh (a b:List bU) (h:a.length < 4611686018427387904):aDn a b=some (decide (a=b)):=by
 refine eqL (step:=fun s=>rP a b s) h (fun k x y hk hx hy hm=>?_) ?_
 ·simp only [rP,cR hk,if_true,hx,hy,aE,eqMeet_eq x y]
  by_cases e:x=y<;>simp [e]
 ·simp only [rP,cN];rfl
theorem aQa (a b:bZ) (h:aJE sz a):aDX a b=some (decide (a=b)):=by
 obtain ⟨a1,a2,a3,a4,a5⟩:=a;obtain ⟨b1,b2,b3,b4,b5⟩:=b
 have g1:=h.1;have g2:=h.2;have g3:=h.3;have g4:=h.4;have g5:=h.5;have g7:=h.7;have g9:=h.9
 simp only [sz] at g1 g2 g3 g4 g5 g7 g9
 have hd:∀ d∈a1,aBU 4611686018427387903 d:=fun d hd=>by
  obtain ⟨x,y,z⟩:=g2 d hd
  exact ⟨by omega,by omega,fun p hp=>let ⟨u,v,q⟩:=z p hp;⟨by omega,by omega,fun e he=>by have:=q e he;omega⟩⟩
 simp only [aDX,bZ.mk.injEq,aKv a1 b1 (by omega) hd,aLn a2 b2 (by omega) (fun c hc=>by have:=g4 c hc;omega),aRh a3 b3 (by omega),aJw a4 b4 (by omega),aJw a5 b5 (by omega),aE]
 by_cases e1:a1=b1<;>by_cases e2:a2=b2<;>by_cases e3:a3=b3<;>by_cases e4:a4=b4<;>by_cases e5:a5=b5<;>simp [e1,e2,e3,e4,e5]
end Gv
namespace Gv
theorem aNZ (i n:Int) (h:-4611686018427387904 < n) (h2:n < 4611686018427387904):aGb i n=some (decide (0<=i)&&decide (i<=n - 1)):=by
 unfold aGb
 rw [iS,iC (by omega) (by omega),aE]
theorem aJH {β:Type} {step:Int->Option (Int ⊕ (Unit ⊕ Int))} (xs:List β) (p:β->Bool) (hl:xs.length < 4611686018427387904)
  (h:∀ (k:Nat) x,k < xs.length->ix xs (k:Int)=some x->x∈xs->step (k:Int)=if p x=true then some (.inr (.inr (k:Int))) else some (.inl (wr ((k:Int)+1))))
  (h':step (xs.length:Int)=some (.inr (.inl ()))):(ob (ob (loop step 0) fun r=>match r with|.inl _=>some (-1)|.inr r=>some r) fun r=>some (decide (0<=r)))=some (xs.any p):=by
 rw [vJ (step:=step) xs p (fun k x hk hx=>by rw [h k x hk hx (by rw [cZ hk] at hx;cases hx;exact List.getElem_mem hk),cO hk hl]) h',aE,←aHq]
 cases xs.findIdx? p with
 |none=>rfl
 |some i=>simp
def aJI (p:Part):Bool:=
 if p.Kind == 0||p.Kind == 2 then p.Number == 0&&p.Name == []&&p.Arguments.length == 0
 else if p.Kind == 1 then p.Number == 0
 else if p.Kind == 3 then p.Number == 0&&p.Name == []
 else if p.Kind == 4 then p.Name == []&&p.Arguments.length == 0
 else p.Kind == 5&&p.Name == []
def aIN (l:List Definition) (p:Part):Bool:=
 if p.Kind == 1 then decide (p.Arguments.length<=2)&&(p.Arguments.length == 0||!(p.Name == iT))
 else if p.Kind == 3 then p.Arguments.length == 1
 else if p.Kind == 5 then (p.Arguments.length:Int) == (l.getD p.Number.toNat ⟨[],0,[]⟩).Parameters
 else true
def aBs (n:Nat) (p:Part):Bool:=(!(p.Kind == 4)||(decide (1<=p.Number)&&decide (p.Number<=7)))&&(!(p.Kind == 5)||(decide (0<=p.Number)&&decide (p.Number < (n:Int))))
def sN (l:List Definition) (pl:eX) (p:Part):Bool:=
 aJI p&&(!(p.Kind == 1)||rD p.Name)&&aBs l.length p&&aIN l p&&(!(p.Kind == 5)||pl.behind)&&(!(p.Kind == 4)||decide (pl.scope < 6))&&p.Arguments.all (okE pl.scope)
theorem kindOk_eq (p:Part):wO p=some (aJI p):=by
 have hl:((p.Arguments.length:Int) == 0)=(p.Arguments.length == 0):=by
  cases h:p.Arguments.length == 0<;>simp at h ⊢<;>exact h
 unfold wO pT mQ fB aJI
 rw [iS,aE,hl]
 generalize (p.Arguments.length == 0)=A
 generalize (p.Number == 0)=B
 generalize (p.Name == ([]:bJ))=C
 generalize p.Kind=k
 by_cases h0:k=0
 ·subst h0;cases A<;>cases B<;>cases C<;>rfl
 by_cases h1:k=1
 ·subst h1;cases A<;>cases B<;>cases C<;>rfl
 by_cases h2:k=2
 ·subst h2;cases A<;>cases B<;>cases C<;>rfl
 by_cases h3:k=3
 ·subst h3;cases A<;>cases B<;>cases C<;>rfl
 by_cases h4:k=4
 ·subst h4;cases A<;>cases B<;>cases C<;>rfl
 by_cases h5:k=5
 ·subst h5;cases A<;>cases B<;>cases C<;>rfl
 ·have e0:(k == 0)=false:=by simpa using h0
  have e1:(k == 1)=false:=by simpa using h1
  have e2:(k == 2)=false:=by simpa using h2
  have e3:(k == 3)=false:=by simpa using h3
  have e4:(k == 4)=false:=by simpa using h4
  have e5:(k == 5)=false:=by simpa using h5
  have e6:(decide (0<=k)&&decide (k<=5))=false:=by
   rw [Bool.and_eq_false_iff]
   by_cases h:0<=k
   ·right;simp;omega
   ·left;simpa using h
  simp [e0,e1,e2,e3,e4,e5,e6]
theorem aRi (p:Part):aFh p=some (aJI p):=by
 have hl:((p.Arguments.length:Int) == 0)=(p.Arguments.length == 0):=by
  cases h:p.Arguments.length == 0<;>simp at h ⊢<;>exact h
 unfold aFh aAg aAf aAe uN aJI
 rw [hl]
 generalize (p.Arguments.length == 0)=A
 generalize (p.Number == 0)=B
 generalize (p.Name == ([]:bJ))=C
 generalize p.Kind=k
 by_cases h0:k=0
 ·subst h0;cases A<;>cases B<;>cases C<;>rfl
 by_cases h1:k=1
 ·subst h1;cases A<;>cases B<;>cases C<;>rfl
 by_cases h2:k=2
 ·subst h2;cases A<;>cases B<;>cases C<;>rfl
 by_cases h3:k=3
 ·subst h3;cases A<;>cases B<;>cases C<;>rfl
 by_cases h4:k=4
 ·subst h4;cases A<;>cases B<;>cases C<;>rfl
 by_cases h5:k=5
 ·subst h5;cases A<;>cases B<;>cases C<;>rfl
 ·have e0:(k == 0)=false:=by simpa using h0
  have e1:(k == 1)=false:=by simpa using h1
  have e2:(k == 2)=false:=by simpa using h2
  have e3:(k == 3)=false:=by simpa using h3
  have e4:(k == 4)=false:=by simpa using h4
  have e5:(k == 5)=false:=by simpa using h5
  simp [e0,e1,e2,e3,e4,e5]
theorem tau_nm:rD iT=true:=by decide
section
variable {l:List Definition} {p:Part} {pl:eX}
theorem args_bad (hs:0<=pl.scope) (hs2:pl.scope<=29) (ha:p.Arguments.length < 1000000000) (hx:∀ e∈p.Arguments,e.length < 1000000000):dW p.Arguments pl=some (!p.Arguments.all (okE pl.scope)):=by
 unfold dW fH
 have:=aJH (step:=fun s=>dV p.Arguments pl s) p.Arguments (fun e=>!okE pl.scope e) (by omega) (fun k x hk hix hm=>?_) ?_
 ·have e:(p.Arguments.any fun e=>!okE pl.scope e)=!p.Arguments.all (okE pl.scope):=by simp [List.any_eq_not_all_not]
  rw [←e,←this];rfl
 ·simp only [dV,cR hk,if_true,hix,aE,uX,aNk x hs hs2 (show (1:Int)<=15 by omega) (by omega) (hx x hm)]
  rfl
 ·simp only [dV,cN];rfl
theorem aMI (hs:0<=pl.scope) (hs2:pl.scope<=29) (ha:p.Arguments.length < 1000000000) (hx:∀ e∈p.Arguments,e.length < 1000000000) (b c:Bool):∃ r,(if c then some 6 else mR p pl b)=some r/\(r != 0)=!(!c&&!b&&p.Arguments.all (okE pl.scope)):=by
 cases c
 ·cases b
  ·unfold mR
   rw [args_bad hs hs2 ha hx]
   cases p.Arguments.all (okE pl.scope)<;>exact ⟨_,rfl,rfl⟩
  ·exact ⟨7,rfl,rfl⟩
 ·exact ⟨6,rfl,rfl⟩
theorem aOa (hs:0<=pl.scope) (hs2:pl.scope<=29) (ha:p.Arguments.length < 1000000000) (hx:∀ e∈p.Arguments,e.length < 1000000000) (c:Bool):∃ r,mT p pl c=some r/\(r != 0)=!(!c&&(!(p.Kind == 4)||decide (pl.scope < 6))&&p.Arguments.all (okE pl.scope)):=by
 unfold mT
 by_cases h4:(p.Kind == 4)=true
 ·obtain ⟨r,h1,h2⟩:=aMI (p:=p) hs hs2 ha hx (decide (6<=pl.scope)) c
  refine ⟨r,by rw [if_pos h4];exact h1,?_⟩
  rw [h2,h4]
  have:(!decide (6<=pl.scope))=decide (pl.scope < 6):=by
   by_cases h:6<=pl.scope
   ·simp [h]
   ·have h':pl.scope < 6:=by omega
    simp [h']
  rw [this];simp
 ·obtain ⟨r,h1,h2⟩:=aMI (p:=p) hs hs2 ha hx false c
  refine ⟨r,by rw [if_neg h4];exact h1,?_⟩
  have:(p.Kind == 4)=false:=by simpa using h4
  rw [h2,this];simp
theorem aRj (hn:aBs l.length p=true):tW p l=some (aIN l p):=by
 have h2:decide ((p.Arguments.length:Int)<=2)=decide (p.Arguments.length<=2):=by simp;omega
 have h0:((p.Arguments.length:Int) == 0)=(p.Arguments.length == 0):=by cases h:p.Arguments.length == 0<;>simp at h ⊢<;>exact h
 have h1:((p.Arguments.length:Int) == 1)=(p.Arguments.length == 1):=by cases h:p.Arguments.length == 1<;>simp at h ⊢<;>omega
 unfold tW lS aIN
 rw [h2,h0,h1]
 by_cases k1:(p.Kind == 1)=true
 ·rw [if_pos k1,if_pos k1]
  show (if (p.Arguments.length == 0)=true then some true else if (!(p.Name == iT))=true then some (decide (p.Arguments.length<=2)) else some false)=_
  by_cases z:p.Arguments.length=0
  ·simp [z]
  ·have z':(p.Arguments.length == 0)=false:=by simpa using z
   rw [z']
   cases (p.Name == iT)<;>simp
 rw [if_neg k1,if_neg k1]
 by_cases k3:(p.Kind == 3)=true
 ·rw [if_pos k3,if_pos k3]
 rw [if_neg k3,if_neg k3]
 by_cases k5:(p.Kind == 5)=true
 ·rw [if_pos k5,if_pos k5]
  simp only [aBs,k5,Bool.not_true,Bool.false_or,Bool.and_eq_true,decide_eq_true_eq] at hn
  have hlt:p.Number.toNat < l.length:=by omega
  have hi:ix l p.Number=some (l[p.Number.toNat]'hlt):=by unfold ix;rw [if_pos hn.2.1];simp [hlt]
  rw [hi,aE]
  simp [List.getD,hlt]
 ·rw [if_neg k5,if_neg k5]
theorem reason_I (hs:0<=pl.scope) (hs2:pl.scope<=29) (hl:l.length<=1000000) (hn:p.Name.length < 1000000000) (ha:p.Arguments.length < 1000000000) (hx:∀ e∈p.Arguments,e.length < 1000000000):∃ r,sG p l pl=some r/\(r != 0)=!sN l pl p:=by
 have j3:∀ b,∃ r,iM p l pl b=some r/\(r != 0)=(if b then true else if aBs l.length p then !(aIN l p&&(!(p.Kind == 5)||pl.behind)&&(!(p.Kind == 4)||decide (pl.scope < 6))&&p.Arguments.all (okE pl.scope)) else (r != 0))\/(b=false/\aBs l.length p=false):=by
  intro b
  cases b
  ·by_cases hnb:aBs l.length p=true
   ·unfold iM
    rw [if_neg (by simp),aRj hnb,aE]
    by_cases hc:aIN l p=true
    ·rw [if_neg (by simp [hc])]
     by_cases k5:(p.Kind == 5)=true
     ·obtain ⟨r,h1,h2⟩:=aOa (p:=p) hs hs2 ha hx (!pl.behind)
      refine ⟨r,.inl ⟨by rw [if_pos k5];exact h1,?_⟩⟩
      rw [h2,hnb,hc,k5];simp
     ·obtain ⟨r,h1,h2⟩:=aOa (p:=p) hs hs2 ha hx false
      refine ⟨r,.inl ⟨by rw [if_neg k5];exact h1,?_⟩⟩
      have k5':(p.Kind == 5)=false:=by simpa using k5
      rw [h2,hnb,hc,k5'];simp
    ·have hc':aIN l p=false:=by simpa using hc
     refine ⟨5,.inl ⟨by rw [if_pos (by simp [hc'])],?_⟩⟩
     rw [hnb,hc'];rfl
   ·exact ⟨0,.inr ⟨rfl,by simpa using hnb⟩⟩
  ·exact ⟨4,.inl ⟨rfl,rfl⟩⟩
 have j4:∃ r,kW p l pl false=some r/\(r != 0)=!(aBs l.length p&&(aIN l p&&(!(p.Kind == 5)||pl.behind)&&(!(p.Kind == 4)||decide (pl.scope < 6))&&p.Arguments.all (okE pl.scope))):=by
  unfold kW
  rw [if_neg (by simp)]
  have hix:=aNZ p.Number (l.length:Int) (by omega) (by omega)
  have hle:(decide (0<=p.Number)&&decide (p.Number<=(l.length:Int) - 1))=(decide (0<=p.Number)&&decide (p.Number < (l.length:Int))):=by
   congr 1;by_cases h:p.Number < (l.length:Int)
   ·simp [h];omega
   ·simp [h];omega
  by_cases k4:(p.Kind == 4)=true
  ·have k5:(p.Kind == 5)=false:=by simp at k4 ⊢;omega
   rw [if_pos k4,iS,aE]
   have hnb:aBs l.length p=(decide (1<=p.Number)&&decide (p.Number<=7)):=by simp [aBs,k4,k5]
   by_cases hN:(decide (1<=p.Number)&&decide (p.Number<=7))=true
   ·rw [if_neg (by simp [hN]),if_neg (by simp [k5])]
    obtain ⟨r,h|h⟩:=j3 false
    ·refine ⟨r,h.1,?_⟩
     rw [h.2,hnb,hN];rfl
    ·rw [hnb,hN] at h;cases h.2
   ·have hN':(decide (1<=p.Number)&&decide (p.Number<=7))=false:=by simpa using hN
    rw [if_pos (by simp [hN'])]
    exact ⟨4,rfl,by rw [hnb,hN'];rfl⟩
  rw [if_neg k4]
  have k4':(p.Kind == 4)=false:=by simpa using k4
  by_cases k5:(p.Kind == 5)=true
  ·rw [if_pos k5,hix,aE,hle]
   have hnb:aBs l.length p=(decide (0<=p.Number)&&decide (p.Number < (l.length:Int))):=by simp [aBs,k4',k5]
   by_cases hN:(decide (0<=p.Number)&&decide (p.Number < (l.length:Int)))=true
   ·rw [hN]
    obtain ⟨r,h|h⟩:=j3 false
    ·refine ⟨r,h.1,?_⟩
     rw [h.2,hnb,hN];rfl
    ·rw [hnb,hN] at h;cases h.2
   ·have hN':(decide (0<=p.Number)&&decide (p.Number < (l.length:Int)))=false:=by simpa using hN
    rw [hN']
    exact ⟨4,rfl,by rw [hnb,hN'];rfl⟩
  ·rw [if_neg k5]
   have k5':(p.Kind == 5)=false:=by simpa using k5
   have hnb:aBs l.length p=true:=by simp [aBs,k4',k5']
   obtain ⟨r,h|h⟩:=j3 false
   ·refine ⟨r,h.1,?_⟩
    rw [h.2,hnb];rfl
   ·rw [hnb] at h;cases h.2
 unfold sG sN
 rw [kindOk_eq,aE]
 by_cases hk:aJI p=true
 ·rw [if_neg (by simp [hk]),hk]
  obtain ⟨r,h1,h2⟩:=j4
  have hand:(true&&(!(p.Kind == 1)||rD p.Name)&&aBs l.length p&&aIN l p&&(!(p.Kind == 5)||pl.behind)&&(!(p.Kind == 4)||decide (pl.scope < 6))&&p.Arguments.all (okE pl.scope))=((!(p.Kind == 1)||rD p.Name)&&(aBs l.length p&&(aIN l p&&(!(p.Kind == 5)||pl.behind)&&(!(p.Kind == 4)||decide (pl.scope < 6))&&p.Arguments.all (okE pl.scope)))):=by
   simp only [Bool.true_and,Bool.and_assoc]
  rw [hand]
  by_cases k1:(p.Kind == 1)=true
  ·rw [if_pos k1,k1]
   by_cases ht:(p.Name == iT)=true
   ·have ht':p.Name=iT:=by simpa using ht
    rw [if_neg (by show ¬ (!(p.Name == iT))=true;simp [ht])]
    refine ⟨r,h1,?_⟩
    rw [h2,ht',tau_nm];simp
   ·have ht':(p.Name == iT)=false:=by simpa using ht
    rw [if_pos (by show (!(p.Name == iT))=true;simp [ht']),zH _ (by omega),aE]
    have hact:kI p.Name=rD p.Name:=by unfold kI;rw [ht'];simp
    rw [hact]
    by_cases hnm:rD p.Name=true
    ·rw [hnm]
     exact ⟨r,h1,by rw [h2];simp⟩
    ·have hnm':rD p.Name=false:=by simpa using hnm
     rw [hnm']
     exact ⟨3,rfl,by simp⟩
  ·rw [if_neg k1]
   have k1':(p.Kind == 1)=false:=by simpa using k1
   rw [k1']
   exact ⟨r,h1,by rw [h2];simp⟩
 ·have hk':aJI p=false:=by simpa using hk
  rw [if_pos (by simp [hk']),hk']
  exact ⟨2,rfl,by simp⟩
end
end Gv
namespace Gv
section
variable {l:List Definition} {d:Definition} {p:Part} {pl:eX} {t:GT Part} {i:Nat}
theorem args_badS (hs:0<=pl.scope) (hs2:pl.scope<=29) (ha:p.Arguments.length < 1000000000) (hx:∀ e∈p.Arguments,e.length < 1000000000):(ob (loop (fun (s:Int)=>pC p pl.scope s) 0) fun r=>match r with|.inl r=>tC|.inr r=>some r)=some (if p.Arguments.all (okE pl.scope)=true then 0 else 8):=by
 rw [aBb (step:=fun s=>pC p pl.scope s) p.Arguments (okE pl.scope) (.inr 8) (.inl ()) (fun k x hk hix=>?_) (by simp only [pC,cN];rfl)]
 ·cases p.Arguments.all (okE pl.scope)<;>rfl
 ·have hm:x∈p.Arguments:=by rw [cZ hk] at hix;cases hix;exact List.getElem_mem hk
  simp only [pC,cR hk,if_true,hix,aE,l03Is_eq x (v:=pl.scope) (m:=15) (iC (by omega) (by omega)) (hx x hm),cO hk (show p.Arguments.length < 4611686018427387904 by omega)]
  show (if (!okE pl.scope x)=true then _ else _)=_
  cases okE pl.scope x<;>rfl
theorem len_gt2 (n:Nat):decide (2 < (n:Int))=!decide (n<=2):=by
 by_cases h:n<=2
 ·simp [h];omega
 ·simp [h];omega
theorem len_gt0 (n:Nat):decide (0 < (n:Int))=!(n == 0):=by
 by_cases h:n=0
 ·subst h;rfl
 ·have:(n == 0)=false:=by simpa using h
  rw [this];simp;omega
theorem len_ne1 (n:Nat):((n:Int) != 1)=!(n == 1):=by
 by_cases h:n=1
 ·subst h;rfl
 ·have h1:(n == 1)=false:=by simpa using h
  have h2:((n:Int) != 1)=true:=by simp;omega
  rw [h1,h2];rfl
theorem reason_S (hl:l.length<=1000000) (hb:d.Body.length<=20) (hi:d.Body[i]?=some p) (hsc:aBh d (i:Int)=some pl.scope) (hbh:pl.behind=if i=0 then false else match d.Body[i - 1]? with|some q=>q.Kind == 1|none=>false)
  (hs:0<=pl.scope) (hs2:pl.scope<=29) (ha:p.Arguments.length < 1000000000) (hx:∀ e∈p.Arguments,e.length < 1000000000):∃ r,yP l d (i:Int)=some r/\0<=r/\(r != 0)=!sN l pl p:=by
 have hil:i < d.Body.length:=(List.getElem?_eq_some_iff.1 hi).1
 have j3:∀ b,∃ r,pD p pl.scope b=some r/\0<=r/\(r != 0)=!(!b&&p.Arguments.all (okE pl.scope)):=by
  intro b
  cases b
  ·unfold pD
   rw [if_neg (by simp)]
   refine ⟨_,args_badS (p:=p) hs hs2 ha hx,?_⟩
   cases p.Arguments.all (okE pl.scope)
   ·exact ⟨by simp,rfl⟩
   ·exact ⟨by simp,rfl⟩
  ·exact ⟨7,rfl,by omega,rfl⟩
 have j4:∀ c,∃ r,mZ d (i:Int) p c=some r/\0<=r/\(r != 0)=!(!c&&(!(p.Kind == 4)||decide (pl.scope < 6))&&p.Arguments.all (okE pl.scope)):=by
  intro c
  cases c
  ·unfold mZ
   rw [if_neg (by simp),hsc,aE]
   by_cases h4:(p.Kind == 4)=true
   ·obtain ⟨r,h1,h0,h2⟩:=j3 (decide (6<=pl.scope))
    refine ⟨r,by rw [if_pos h4];exact h1,h0,?_⟩
    have:(!decide (6<=pl.scope))=decide (pl.scope < 6):=by
     by_cases h:6<=pl.scope
     ·simp [h]
     ·have h':pl.scope < 6:=by omega
      simp [h']
    rw [h2,h4,this];simp
   ·obtain ⟨r,h1,h0,h2⟩:=j3 false
    refine ⟨r,by rw [if_neg h4];exact h1,h0,?_⟩
    have:(p.Kind == 4)=false:=by simpa using h4
    rw [h2,this];simp
  ·exact ⟨6,rfl,by omega,rfl⟩
 have j5:∃ r,jR d (i:Int) p=some r/\0<=r/\(r != 0)=!((!(p.Kind == 5)||pl.behind)&&(!(p.Kind == 4)||decide (pl.scope < 6))&&p.Arguments.all (okE pl.scope)):=by
  unfold jR
  by_cases h5:(p.Kind == 5)=true
  ·rw [if_pos h5]
   by_cases h0:i=0
   ·subst h0
    rw [if_pos (by rfl)]
    obtain ⟨r,h1,h0,h2⟩:=j4 true
    refine ⟨r,h1,h0,?_⟩
    rw [h2,hbh,h5];simp
   ·have hp:i - 1 < d.Body.length:=by omega
    have hw:wr ((i:Int) - 1)=((i - 1:Nat):Int):=by rw [iC (by omega) (by omega)];omega
    rw [if_neg (by simp;exact h0),hw,cZ hp,aE]
    have hb':pl.behind=(d.Body[i - 1].Kind == 1):=by rw [hbh,if_neg h0,List.getElem?_eq_getElem hp]
    obtain ⟨r,h1,h0,h2⟩:=j4 (d.Body[i - 1].Kind != 1)
    refine ⟨r,h1,h0,?_⟩
    rw [h2,h5,hb']
    simp [bne]
  ·obtain ⟨r,h1,h0,h2⟩:=j4 false
   refine ⟨r,by rw [if_neg h5];exact h1,h0,?_⟩
   have:(p.Kind == 5)=false:=by simpa using h5
   rw [h2,this];simp
 have h2':=len_gt2 p.Arguments.length
 have h0':=len_gt0 p.Arguments.length
 have h1':=len_ne1 p.Arguments.length
 have j7:aBs l.length p=true->∃ r,jS l d (i:Int) p false=some r/\0<=r/\(r != 0)=!(aIN l p&&((!(p.Kind == 5)||pl.behind)&&(!(p.Kind == 4)||decide (pl.scope < 6))&&p.Arguments.all (okE pl.scope))):=by
  intro hn
  obtain ⟨r5,e5,z5,n5⟩:=j5
  unfold jS
  rw [if_neg (by simp),h2',h0',h1']
  unfold pE aIN
  by_cases k1:(p.Kind == 1)=true
  ·rw [if_pos k1,if_pos k1]
   by_cases a2:p.Arguments.length<=2
   ·rw [if_neg (by simp [a2])]
    by_cases a0:p.Arguments.length=0
    ·rw [if_neg (by simp [a0]),if_neg (by simp)]
     refine ⟨r5,e5,z5,?_⟩
     rw [n5,a0];simp
    ·rw [if_pos (by simp [a0])]
     have a0':(p.Arguments.length == 0)=false:=by simpa using a0
     show ∃ r,(if (p.Name == iT)=true then some 5 else jR d (i:Int) p)=some r/\_
     by_cases ht:(p.Name == iT)=true
     ·rw [if_pos ht]
      refine ⟨5,rfl,by omega,?_⟩
      rw [a0',ht];simp
     ·have ht':(p.Name == iT)=false:=by simpa using ht
      rw [if_neg ht]
      refine ⟨r5,e5,z5,?_⟩
      rw [n5,a0',ht'];simp [a2]
   ·rw [if_pos (by simp [a2]),if_pos rfl]
    refine ⟨5,rfl,by omega,?_⟩
    simp [a2]
  rw [if_neg k1,if_neg k1]
  by_cases k3:(p.Kind == 3)=true
  ·rw [if_pos k3,if_pos k3]
   by_cases a1:p.Arguments.length=1
   ·rw [if_neg (by simp [a1])]
    refine ⟨r5,e5,z5,?_⟩
    rw [n5,a1];simp
   ·rw [if_pos (by simp [a1])]
    refine ⟨5,rfl,by omega,?_⟩
    have a1':(p.Arguments.length == 1)=false:=by simpa using a1
    rw [a1'];rfl
  rw [if_neg k3,if_neg k3]
  by_cases k5:(p.Kind == 5)=true
  ·rw [if_pos k5,if_pos k5]
   simp only [aBs,k5,Bool.not_true,Bool.false_or,Bool.and_eq_true,decide_eq_true_eq] at hn
   have hlt:p.Number.toNat < l.length:=by omega
   have hix:ix l p.Number=some (l[p.Number.toNat]'hlt):=by unfold ix;rw [if_pos hn.2.1];simp [hlt]
   have hg:l.getD p.Number.toNat ⟨[],0,[]⟩=l[p.Number.toNat]:=by simp [List.getD,hlt]
   rw [hix,aE,hg]
   by_cases a5:(p.Arguments.length:Int)=l[p.Number.toNat].Parameters
   ·rw [if_neg (by simp [a5])]
    refine ⟨r5,e5,z5,?_⟩
    rw [n5,a5];simp
   ·rw [if_pos (by simp [a5])]
    refine ⟨5,rfl,by omega,?_⟩
    have a5':((p.Arguments.length:Int) == l[p.Number.toNat].Parameters)=false:=by simpa using a5
    rw [a5'];rfl
  ·rw [if_neg k5,if_neg k5]
   refine ⟨r5,e5,z5,?_⟩
   rw [n5];simp
 have j8:∃ r,pF l d (i:Int) p false=some r/\0<=r/\(r != 0)=!(aBs l.length p&&(aIN l p&&((!(p.Kind == 5)||pl.behind)&&(!(p.Kind == 4)||decide (pl.scope < 6))&&p.Arguments.all (okE pl.scope)))):=by
  unfold pF
  rw [if_neg (by simp)]
  have hw:wr ((l.length:Int) - 1)=(l.length:Int) - 1:=iC (by omega) (by omega)
  have hle:(decide (0<=p.Number)&&decide (p.Number<=(l.length:Int) - 1))=(decide (0<=p.Number)&&decide (p.Number < (l.length:Int))):=by
   congr 1;by_cases h:p.Number < (l.length:Int)
   ·simp [h];omega
   ·simp [h];omega
  by_cases k4:(p.Kind == 4)=true
  ·have k5:(p.Kind == 5)=false:=by simp at k4 ⊢;omega
   have hnb:aBs l.length p=(decide (1<=p.Number)&&decide (p.Number<=7)):=by simp [aBs,k4,k5]
   rw [if_pos k4,aCA,aE]
   by_cases hN:(decide (1<=p.Number)&&decide (p.Number<=7))=true
   ·rw [if_neg (by simp [hN]),if_neg (by simp [k5])]
    obtain ⟨r,h1,h0,h2⟩:=j7 (by rw [hnb,hN])
    exact ⟨r,h1,h0,by rw [h2,hnb,hN];rfl⟩
   ·have hN':(decide (1<=p.Number)&&decide (p.Number<=7))=false:=by simpa using hN
    rw [if_pos (by simp [hN'])]
    exact ⟨4,rfl,by omega,by rw [hnb,hN'];rfl⟩
  rw [if_neg k4]
  have k4':(p.Kind == 4)=false:=by simpa using k4
  by_cases k5:(p.Kind == 5)=true
  ·have hnb:aBs l.length p=(decide (0<=p.Number)&&decide (p.Number < (l.length:Int))):=by simp [aBs,k4',k5]
   rw [if_pos k5,hw,aCA,aE,hle]
   by_cases hN:(decide (0<=p.Number)&&decide (p.Number < (l.length:Int)))=true
   ·rw [hN]
    obtain ⟨r,h1,h0,h2⟩:=j7 (by rw [hnb,hN])
    exact ⟨r,h1,h0,by rw [h2,hnb,hN];rfl⟩
   ·have hN':(decide (0<=p.Number)&&decide (p.Number < (l.length:Int)))=false:=by simpa using hN
    rw [hN']
    exact ⟨4,rfl,by omega,by rw [hnb,hN'];rfl⟩
  ·have k5':(p.Kind == 5)=false:=by simpa using k5
   have hnb:aBs l.length p=true:=by simp [aBs,k4',k5']
   rw [if_neg k5]
   obtain ⟨r,h1,h0,h2⟩:=j7 hnb
   exact ⟨r,h1,h0,by rw [h2,hnb];rfl⟩
 unfold yP sN
 have hix:ix d.Body (i:Int)=some p:=by rw [iL];exact hi
 rw [hix,aE,aRi,aE]
 by_cases hk:aJI p=true
 ·rw [if_neg (by simp [hk]),hk]
  obtain ⟨r,h1,h0,h2⟩:=j8
  have hand:(true&&(!(p.Kind == 1)||rD p.Name)&&aBs l.length p&&aIN l p&&(!(p.Kind == 5)||pl.behind)&&(!(p.Kind == 4)||decide (pl.scope < 6))&&p.Arguments.all (okE pl.scope))=((!(p.Kind == 1)||rD p.Name)&&(aBs l.length p&&(aIN l p&&((!(p.Kind == 5)||pl.behind)&&(!(p.Kind == 4)||decide (pl.scope < 6))&&p.Arguments.all (okE pl.scope))))):=by
   simp only [Bool.true_and,Bool.and_assoc]
  rw [hand]
  by_cases k1:(p.Kind == 1)=true
  ·rw [if_pos k1,k1,aGn,aE]
   by_cases hnm:rD p.Name=true
   ·rw [hnm]
    exact ⟨r,h1,h0,by rw [h2];simp⟩
   ·have hnm':rD p.Name=false:=by simpa using hnm
    rw [hnm']
    exact ⟨3,rfl,by omega,by simp⟩
  ·have k1':(p.Kind == 1)=false:=by simpa using k1
   rw [if_neg k1,k1']
   exact ⟨r,h1,h0,by rw [h2];simp⟩
 ·have hk':aJI p=false:=by simpa using hk
  rw [if_pos (by simp [hk']),hk']
  exact ⟨2,rfl,by omega,by simp⟩
end
noncomputable def aCE (l:List Definition) (d:Definition):Bool:=open Classical in decide (d.Body.length<=20/\∃ t:GT Part,d.Body=t.flat/\t.WF iV/\∀ (i:Nat) p pl,d.Body[i]?=some p->(plT d.Parameters false t)[i]?=some pl->sN l pl p=true)
theorem aHM:∀ (t:GT Part) (s:Int) (b:Bool) (pl:eX),pl∈plT s b t->s<=pl.scope/\pl.scope<=s+t.flat.length
 |.nul p,s,b,pl,h=>by simp [plT] at h;subst h;simp;omega
 |.one p a,s,b,pl,h=>by
  have hb:=aKq s p
  simp only [plT,List.mem_cons] at h
  simp only [GT.flat,List.length_cons]
  rcases h with rfl|h
  ·simp only;omega
  ·have:=aHM a _ _ pl h;omega
 |.two p a c,s,b,pl,h=>by
  have hb:=aKq s p
  simp only [plT,List.mem_cons,List.mem_append] at h
  simp only [GT.flat,List.length_cons,List.length_append]
  rcases h with rfl|h|h
  ·simp only;omega
  ·have:=aHM a _ _ pl h;omega
  ·have:=aHM c _ _ pl h;omega
theorem tree_of {d:Definition} (h:qD tt iV 1 d.Body=true):∃ t:GT Part,d.Body=t.flat/\t.WF iV:=by
 obtain ⟨ts,h1,h2,h3⟩:=aIK aJB h
 match ts,h1 with
 |[t],_=>exact ⟨t,by rw [h2];simp,h3 t (by simp)⟩
theorem need_tree {d:Definition} {t:GT Part} (h:d.Body=t.flat) (hw:t.WF iV):qD tt iV 1 d.Body=true:=by
 have:=aHL (ok:=tt) t 0 [] hw (fun _ _=>rfl)
 rw [List.append_nil,←h] at this
 rw [this];rfl
theorem aQb:∀ (t u:GT Part) (x y:List Part),t.WF iV->u.WF iV->t.flat++x=u.flat++y->t=u/\x=y:=by
 intro t
 induction t with
 |nul p=>
  intro u x y hw hu h
  cases u with
  |nul q=>simp [GT.flat] at h;exact ⟨by rw [h.1],h.2⟩
  |one q a=>simp only [GT.flat,List.cons_append,List.nil_append,List.cons.injEq] at h;rw [h.1] at hw;have h1:iV q=0:=hw;have h2:=hu.1;omega
  |two q a c=>simp only [GT.flat,List.cons_append,List.nil_append,List.cons.injEq] at h;rw [h.1] at hw;have h1:iV q=0:=hw;have h2:=hu.1;omega
 |one p a iha=>
  intro u x y hw hu h
  cases u with
  |nul q=>simp only [GT.flat,List.cons_append,List.nil_append,List.cons.injEq] at h;have h1:iV q=0:=hu;have h2:=hw.1;rw [h.1] at h2;omega
  |one q b=>
   simp only [GT.flat,List.cons_append,List.cons.injEq] at h
   obtain ⟨e1,e2⟩:=iha b x y hw.2 hu.2 h.2
   exact ⟨by rw [h.1,e1],e2⟩
  |two q b c=>simp only [GT.flat,List.cons_append,List.cons.injEq] at h;have h1:=hu.1;have h2:=hw.1;rw [h.1] at h2;omega
 |two p a c iha ihc=>
  intro u x y hw hu h
  cases u with
  |nul q=>simp only [GT.flat,List.cons_append,List.nil_append,List.cons.injEq] at h;have h1:iV q=0:=hu;have h2:=hw.1;rw [h.1] at h2;omega
  |one q b=>simp only [GT.flat,List.cons_append,List.cons.injEq] at h;have h1:=hu.1;have h2:=hw.1;rw [h.1] at h2;omega
  |two q b e=>
   simp only [GT.flat,List.cons_append,List.cons.injEq,List.append_assoc] at h
   obtain ⟨e1,e2⟩:=iha b _ _ hw.2.1 hu.2.1 h.2
   obtain ⟨e3,e4⟩:=ihc e x y hw.2.2 hu.2.2 e2
   exact ⟨by rw [h.1,e1,e3],e4⟩
def PartFit (p:Part):Prop:=p.Name.length < 1000000000/\p.Arguments.length < 1000000000/\∀ e∈p.Arguments,e.length < 1000000000
theorem aOb {l:List Definition} {d:Definition} (hl:l.length<=1000000) (hb:d.Body.length < 1000000000) (hf:∀ p∈d.Body,PartFit p) (h0:0<=d.Parameters) (h3:d.Parameters<=3):
  (∃ r,yY l d=some r/\(r.2 != 0)=!aCE l d)/\(∃ r,aDr l d=some r/\decide (0 < r.2)=!aCE l d):=by
 classical
 have hbF:¬ (d.Body.length<=20/\qD tt iV 1 d.Body=true)->aCE l d=false:=by
  intro h
  unfold aCE
  rw [decide_eq_false_iff_not]
  rintro ⟨g1,t,g2,g3,_⟩
  exact h ⟨g1,need_tree g2 g3⟩
 by_cases hsh:d.Body.length<=20/\qD tt iV 1 d.Body=true
 ·obtain ⟨h20,hnd⟩:=hsh
  obtain ⟨t,ht,hw⟩:=tree_of hnd
  have hlen:(plT d.Parameters false t).length=d.Body.length:=by rw [oY,←ht]
  have hne:1<=d.Body.length:=by have:=aPR hnd;omega
  have hB:aCE l d=decide (∀ (i:Nat) p pl,d.Body[i]?=some p->(plT d.Parameters false t)[i]?=some pl->sN l pl p=true):=by
   unfold aCE
   by_cases h:∀ (i:Nat) p pl,d.Body[i]?=some p->(plT d.Parameters false t)[i]?=some pl->sN l pl p=true
   ·rw [decide_eq_true h,decide_eq_true_iff];exact ⟨h20,t,ht,hw,h⟩
   ·rw [decide_eq_false h,decide_eq_false_iff_not]
    rintro ⟨_,u,hu,hwu,hx⟩
    have:t=u:=(aQb t u [] [] hw hwu (by rw [List.append_nil,List.append_nil,←ht,←hu])).1
    subst this
    exact h hx
  have hsc:∀ (i:Nat) pl,(plT d.Parameters false t)[i]?=some pl->0<=pl.scope/\pl.scope<=29:=by
   intro i pl hp
   have:=aHM t _ _ pl (List.mem_of_getElem? hp)
   rw [←ht] at this
   omega
  have hall:∀ (k:Nat),k < d.Body.length->∃ p pl,d.Body[k]?=some p/\(plT d.Parameters false t)[k]?=some pl:=fun k hk=>⟨_,_,List.getElem?_eq_getElem hk,List.getElem?_eq_getElem (by omega)⟩
  let q:Nat->Bool:=fun k=>match d.Body[k]?,(plT d.Parameters false t)[k]? with|some p,some pl=>sN l pl p|_,_=>true
  have hq:∀ k p pl,d.Body[k]?=some p->(plT d.Parameters false t)[k]?=some pl->q k=sN l pl p:=fun k p pl h1 h2=>by show (match d.Body[k]?,(plT d.Parameters false t)[k]? with|some p,some pl=>sN l pl p|_,_=>true)=_;rw [h1,h2]
  have hqB:∀ b:Bool,(b=true<->∀ k,0<=k->k < d.Body.length->q k=true)->b=aCE l d:=by
   intro b hbq
   rw [hB]
   by_cases h:∀ (i:Nat) p pl,d.Body[i]?=some p->(plT d.Parameters false t)[i]?=some pl->sN l pl p=true
   ·rw [decide_eq_true h]
    exact hbq.2 (fun k _ hk=>by obtain ⟨p,pl,h1,h2⟩:=hall k hk;rw [hq k p pl h1 h2];exact h k p pl h1 h2)
   ·rw [decide_eq_false h]
    cases hb2:b
    ·rfl
    ·exact absurd (fun i p pl h1 h2=>by rw [←hq i p pl h1 h2];exact hbq.1 hb2 i (Nat.zero_le _) ((List.getElem?_eq_some_iff.1 h1).1)) h
  constructor
  ·unfold yY
   rw [iS,aE,if_neg (by simp;omega)]
   obtain ⟨re,hre,hre2⟩:=aPS (d:=d) hb
   rw [hre,aE,hre2,hnd]
   unfold tX
   rw [if_neg (by simp),places_eq ht hw h20 h0 h3,aE]
   have key:∀ k,k < d.Body.length->∃ r,sG (d.Body.getD k ⟨0,0,[],[]⟩) l ((plT d.Parameters false t).getD k ⟨0,false⟩)=some r/\(r != 0)=!q k:=by
    intro k hk
    obtain ⟨p,pl,h1,h2⟩:=hall k hk
    obtain ⟨s1,s2⟩:=hsc k pl h2
    obtain ⟨f1,f2,f3⟩:=hf p (List.mem_of_getElem? h1)
    obtain ⟨r,e1,e2⟩:=reason_I (l:=l) (p:=p) (pl:=pl) s1 s2 hl f1 f2 f3
    refine ⟨r,?_,by rw [e2,hq k p pl h1 h2]⟩
    simp only [List.getD,h1,h2,Option.getD_some];exact e1
   have hloop:=aGH (step:=fun s=>pU l d (plT d.Parameters false t) s) (fun s=>0<=s/\s<=d.Body.length/\∀ j:Nat,(j:Int) < s->q j=true) (fun s=>d.Body.length - s.toNat) (fun r=>(∃ x,r=.inr x/\x.2≠0/\∃ j,j < d.Body.length/\q j=false)\/(r=.inl ()/\∀ j,j < d.Body.length->q j=true)) (fun s hI=>?_) (s:=0) ⟨by omega,by omega,fun j hj=>by omega⟩
   ·obtain ⟨r,hr,hR⟩:=hloop
    rw [hr,aE]
    rcases hR with ⟨x,rfl,hx,j,hj,hqj⟩|⟨rfl,hqa⟩
    ·refine ⟨x,rfl,?_⟩
     have:aCE l d=false:=by
      rw [←hqB false ⟨fun h=>(by cases h),fun h=>by rw [h j (Nat.zero_le _) hj] at hqj;cases hqj⟩]
     rw [this];simp [hx]
    ·refine ⟨(0,0),rfl,?_⟩
     rw [←hqB true ⟨fun _ k _ hk=>hqa k hk,fun _=>rfl⟩];rfl
   ·obtain ⟨h1,h2,h3'⟩:=hI
    obtain ⟨k,rfl⟩:∃ k:Nat,s=(k:Int):=⟨s.toNat,by omega⟩
    by_cases hk:k < d.Body.length
    ·obtain ⟨r,e1,e2⟩:=key k hk
     have g1:d.Body.getD k ⟨0,0,[],[]⟩=d.Body[k]:=by simp [List.getD,hk]
     have g2:(plT d.Parameters false t).getD k ⟨0,false⟩=(plT d.Parameters false t)[k]'(by omega):=by simp [List.getD,hlen,hk]
     rw [g1,g2] at e1
     have hst:pU l d (plT d.Parameters false t) (k:Int)=if (r != 0)=true then some (.inr (.inr ((k:Int),r))) else some (.inl ((k+1:Nat):Int)):=by
      unfold pU
      rw [if_pos (cR hk),cZ hk,aE,cZ (show k < (plT d.Parameters false t).length by omega),aE,e1,aE,cO hk (by omega)]
     rw [hst]
     by_cases hr:(r != 0)=true
     ·right;rw [if_pos hr]
      refine ⟨_,rfl,.inl ⟨_,rfl,by simpa using hr,k,hk,?_⟩⟩
      rw [hr] at e2;simpa using e2.symm
     ·left;rw [if_neg hr]
      have hr':(r != 0)=false:=by simpa using hr
      rw [hr'] at e2
      refine ⟨_,rfl,⟨by omega,by omega,fun j hj=>?_⟩,by omega⟩
      by_cases e:j=k
      ·subst e;simpa using e2.symm
      ·exact h3' j (by omega)
    ·obtain rfl:k=d.Body.length:=by omega
     right
     refine ⟨.inl (),?_,.inr ⟨rfl,fun j hj=>h3' j (by omega)⟩⟩
     unfold pU
     rw [if_neg (by simp)]
  ·unfold aDr
   rw [aNX _ hb,aE,hnd,if_neg (by simp;exact h20)]
   have key:∀ k,k < d.Body.length->∃ r,yP l d (k:Int)=some r/\0<=r/\(r != 0)=!q k:=by
    intro k hk
    obtain ⟨p,pl,h1,h2⟩:=hall k hk
    obtain ⟨s1,s2⟩:=hsc k pl h2
    obtain ⟨f1,f2,f3⟩:=hf p (List.mem_of_getElem? h1)
    have hbe:=behind_eq t d.Parameters false k pl hw h2
    rw [←ht] at hbe
    obtain ⟨r,e1,e0,e2⟩:=reason_S (l:=l) (p:=p) (pl:=pl) hl h20 h1 (scope_eq ht hw h20 h0 h3 h2) hbe s1 s2 f2 f3
    exact ⟨r,e1,e0,by rw [e2,hq k p pl h1 h2]⟩
   have hloop:=aGH (step:=fun s=>uO l d s) (fun s=>0<=s/\s<=d.Body.length/\∀ j:Nat,(j:Int) < s->q j=true) (fun s=>d.Body.length - s.toNat) (fun r=>(∃ x,r=.inr x/\0 < x.2/\∃ j,j < d.Body.length/\q j=false)\/(r=.inl ()/\∀ j,j < d.Body.length->q j=true)) (fun s hI=>?_) (s:=0) ⟨by omega,by omega,fun j hj=>by omega⟩
   ·obtain ⟨r,hr,hR⟩:=hloop
    rw [hr,aE]
    rcases hR with ⟨x,rfl,hx,j,hj,hqj⟩|⟨rfl,hqa⟩
    ·refine ⟨x,rfl,?_⟩
     have:aCE l d=false:=by
      rw [←hqB false ⟨fun h=>(by cases h),fun h=>by rw [h j (Nat.zero_le _) hj] at hqj;cases hqj⟩]
     rw [this];simp [hx]
    ·refine ⟨(0,0),rfl,?_⟩
     rw [←hqB true ⟨fun _ k _ hk=>hqa k hk,fun _=>rfl⟩];rfl
   ·obtain ⟨h1,h2,h3'⟩:=hI
    obtain ⟨k,rfl⟩:∃ k:Nat,s=(k:Int):=⟨s.toNat,by omega⟩
    by_cases hk:k < d.Body.length
    ·obtain ⟨r,e1,e0,e2⟩:=key k hk
     have hst:uO l d (k:Int)=if decide (0 < r)=true then some (.inr (.inr ((k:Int),r))) else some (.inl ((k+1:Nat):Int)):=by
      unfold uO
      rw [if_pos (cR hk),e1,aE,cO hk (by omega)]
     have hr2:decide (0 < r)=(r != 0):=by
      by_cases h:r=0
      ·simp [h]
      ·have:0 < r:=by omega
       simp [h,this]
     rw [hst,hr2]
     by_cases hr:(r != 0)=true
     ·right;rw [if_pos hr]
      refine ⟨_,rfl,.inl ⟨_,rfl,by rw [hr] at hr2;simpa using hr2,k,hk,?_⟩⟩
      rw [hr] at e2;simpa using e2.symm
     ·left;rw [if_neg hr]
      have hr':(r != 0)=false:=by simpa using hr
      rw [hr'] at e2
      refine ⟨_,rfl,⟨by omega,by omega,fun j hj=>?_⟩,by omega⟩
      by_cases e:j=k
      ·subst e;simpa using e2.symm
      ·exact h3' j (by omega)
    ·obtain rfl:k=d.Body.length:=by omega
     right
     refine ⟨.inl (),?_,.inr ⟨rfl,fun j hj=>h3' j (by omega)⟩⟩
     unfold uO
     rw [if_neg (by simp)]
 ·rw [hbF hsh]
  constructor
  ·unfold yY
   rw [iS,aE]
   by_cases hz:(decide (1<=(d.Body.length:Int))&&decide ((d.Body.length:Int)<=20))=true
   ·rw [if_neg (by rw [hz];simp)]
    simp only [Bool.and_eq_true,decide_eq_true_eq] at hz
    obtain ⟨re,hre,hre2⟩:=aPS (d:=d) hb
    have hnd:qD tt iV 1 d.Body=false:=by
     cases h:qD tt iV 1 d.Body
     ·rfl
     ·exact absurd ⟨by omega,h⟩ hsh
    rw [hre,aE,hre2,hnd]
    exact ⟨(0,1),rfl,rfl⟩
   ·have hz':(decide (1<=(d.Body.length:Int))&&decide ((d.Body.length:Int)<=20))=false:=by simpa using hz
    rw [hz']
    exact ⟨(0,1),rfl,rfl⟩
  ·unfold aDr
   have hz:(decide (d.Body.length<=20)&&qD tt iV 1 d.Body)=false:=by
    rw [Bool.and_eq_false_iff]
    by_cases h:d.Body.length<=20
    ·right
     cases h2:qD tt iV 1 d.Body
     ·rfl
     ·exact absurd ⟨h,h2⟩ hsh
    ·left;simpa using h
   rw [aNX _ hb,aE,hz]
   exact ⟨(0,1),rfl,rfl⟩
end Gv
namespace Gv
def aIi (d:Definition):Bool:=decide (0<=d.Parameters)&&decide (d.Parameters<=3)
theorem aRk (l:List Definition) (hl:l.length < 1000000000):dG l=some (!l.all aIi):=by
 unfold dG eE
 have:=aJH (step:=fun s=>dF l s) l (fun d=>!aIi d) (by omega) (fun k x hk hix hm=>?_) ?_
 ·have e:(l.any fun d=>!aIi d)=!l.all aIi:=by simp [List.any_eq_not_all_not]
  rw [←e,←this];rfl
 ·simp only [dF,cR hk,if_true,hix,aE,sR,iS]
  rfl
 ·simp only [dF,cN];rfl
theorem params_eq (l:List Definition) (hl:l.length < 1000000000):tV l=some (l.all aIi):=by
 unfold tV
 rw [aRk l hl,aE,Bool.not_not]
theorem named_eq (l:List Definition) (n:bJ) (hl:l.length < 1000000000):∃ r,nZ l n=some r/\decide (0<=r)=l.any (fun d=>d.Name == n):=by
 unfold nZ dY
 rw [vJ (step:=fun s=>cY l n s) l (fun d=>d.Name == n) (fun k x hk hx=>by simp only [cY,cR hk,if_true,hx,aE,nY,cO hk (show l.length < 4611686018427387904 by omega)]) (by simp only [cY,cN];rfl),aE,←aHq]
 cases l.findIdx? (fun d=>d.Name == n) with
 |none=>exact ⟨-1,rfl,rfl⟩
 |some i=>exact ⟨i,rfl,by simp⟩
def oR (l:List Definition):Prop:=1<=l.length/\l.length<=4/\(∀ d∈l,aIi d=true)/\(∀ d∈l,aCE l d=true)/\∀ k (hk:k < l.length),rD l[k].Name=true/\(l.take k).any (fun d=>d.Name == l[k].Name)=false
def DefFit (d:Definition):Prop:=d.Name.length < 1000000000/\d.Body.length < 1000000000/\∀ p∈d.Body,PartFit p
theorem aMJ {α:Type} {xs:List α} {k:Nat} (h:k<=xs.length):slc xs 0 (k:Int)=some (xs.take k):=by
 unfold slc
 rw [if_pos ⟨by omega,by omega,by simpa using h⟩]
 simp
theorem defs_I (l:List Definition) (hl:l.length<=1000000) (hf:∀ d∈l,DefFit d):jF l=some (cl (oR l)):=by
 unfold jF
 rw [iS,aE]
 by_cases hz:1<=l.length/\l.length<=4
 ·rw [if_neg (by simp;omega),params_eq l (by omega),aE]
  unfold kP
  cases hp:l.all aIi with
  |false=>
   rw [if_pos (by rfl),aEn]
   intro h
   have:=List.all_eq_true.2 h.2.2.1
   rw [hp] at this;cases this
  |true=>
   have hp':=List.all_eq_true.1 hp
   rw [if_neg (by simp)]
   have:=aDz (step:=fun s=>kO l s) l.length 0 (fun k=>∀ hk:k < l.length,(rD l[k].Name=true/\(l.take k).any (fun d=>d.Name == l[k].Name)=false)/\aCE l l[k]=true) (.inr false) (.inl ()) (Nat.zero_le _) (fun k h0 hk=>?_) (by simp only [kO,cN];rfl)
   ·rw [show (0:Int)=((0:Nat):Int) from rfl,this,aE]
    by_cases hs:∀ k,0<=k->k < l.length->∀ hk:k < l.length,(rD l[k].Name=true/\(l.take k).any (fun d=>d.Name == l[k].Name)=false)/\aCE l l[k]=true
    ·rw [if_pos (aIh hs),aIh]
     ·rfl
     ·refine ⟨hz.1,hz.2,hp',fun d hd=>?_,fun k hk=>(hs k (Nat.zero_le _) hk hk).1⟩
      obtain ⟨k,hk,rfl⟩:=List.getElem_of_mem hd
      exact (hs k (Nat.zero_le _) hk hk).2
    ·rw [if_neg (by rw [aEg];exact hs),aEn]
     intro h
     exact hs fun k _ hk _=>⟨h.2.2.2.2 k hk,h.2.2.2.1 _ (List.getElem_mem hk)⟩
   ·obtain ⟨f1,f2,f3⟩:=hf _ (List.getElem_mem hk)
    have hpk:=hp' _ (List.getElem_mem hk)
    simp only [aIi,Bool.and_eq_true,decide_eq_true_eq] at hpk
    have htk:(l.take k).length < 1000000000:=by rw [List.length_take];omega
    obtain ⟨r,hr1,hr2⟩:=named_eq (l.take k) l[k].Name htk
    obtain ⟨⟨r2,hb1,hb2⟩,_⟩:=aOb (l:=l) (d:=l[k]) hl f2 f3 hpk.1 hpk.2
    unfold kO kN
    rw [if_pos (cR hk),cZ hk,aE,aNO _ (by omega),aE,aMJ (by omega),aE,hr1,aE,hr2,hb1,aE,hb2,cO hk (by omega)]
    cases hn:rD l[k].Name with
    |false=>rw [aEn (fun h=>by have:=(h hk).1.1;rw [hn] at this;cases this)];rfl
    |true=>
     cases ha:(l.take k).any (fun d=>d.Name == l[k].Name) with
     |true=>rw [aEn (fun h=>by have:=(h hk).1.2;rw [ha] at this;cases this)];rfl
     |false=>
      cases hb:aCE l l[k] with
      |false=>rw [aEn (fun h=>by have:=(h hk).2;rw [hb] at this;cases this)];rfl
      |true=>rw [aIh (fun _=>⟨⟨hn,ha⟩,hb⟩)];rfl
 ·have:(decide (1<=(l.length:Int))&&decide ((l.length:Int)<=4))=false:=by
   rw [Bool.and_eq_false_iff]
   by_cases h:1<=l.length
   ·right;simp;omega
   ·left;simp;omega
  rw [this,aEn (fun h=>hz ⟨h.1,h.2.1⟩)];rfl
theorem defs_S (l:List Definition) (hl:l.length<=1000000) (hf:∀ d∈l,DefFit d):aBj l=some (cl (oR l)):=by
 unfold aBj
 by_cases h0:l.length=0
 ·rw [if_pos (by simp [h0]),aEn (fun h:oR l=>by have:=h.1;omega)];rfl
 rw [if_neg (by simp;intro h;simp [h] at h0)]
 unfold uR
 by_cases h4:4 < l.length
 ·rw [if_pos (by simp;omega),aEn (fun h:oR l=>by have:=h.2.1;omega)]
 rw [if_neg (by simp;omega)]
 have key:=aDz (step:=fun s=>aAk l s) l.length 0 (fun k=>∀ hk:k < l.length,(rD l[k].Name=true/\(l.take k).any (fun d=>d.Name == l[k].Name)=false)/\aIi l[k]=true) (.inr false) (.inl ()) (Nat.zero_le _) (fun k h0 hk=>?_) (by simp only [aAk,cN];rfl)
 ·rw [show (0:Int)=((0:Nat):Int) from rfl,key,aE]
  by_cases hs:∀ k,0<=k->k < l.length->∀ hk:k < l.length,(rD l[k].Name=true/\(l.take k).any (fun d=>d.Name == l[k].Name)=false)/\aIi l[k]=true
  ·rw [if_pos (aIh hs)]
   show uP l=_
   have hp':∀ d∈l,aIi d=true:=fun d hd=>by obtain ⟨k,hk,rfl⟩:=List.getElem_of_mem hd;exact (hs k (Nat.zero_le _) hk hk).2
   unfold uP
   have key2:=aDz (step:=fun s=>aAh l s) l.length 0 (fun k=>∀ hk:k < l.length,aCE l l[k]=true) (.inr false) (.inl ()) (Nat.zero_le _) (fun k h0 hk=>?_) (by simp only [aAh,cN];rfl)
   ·rw [show (0:Int)=((0:Nat):Int) from rfl,key2,aE]
    by_cases hb:∀ k,0<=k->k < l.length->∀ hk:k < l.length,aCE l l[k]=true
    ·rw [if_pos (aIh hb),aIh (P:=oR l)]
     ·rfl
     ·exact ⟨by omega,by omega,hp',fun d hd=>by obtain ⟨k,hk,rfl⟩:=List.getElem_of_mem hd;exact hb k (Nat.zero_le _) hk hk,fun k hk=>(hs k (Nat.zero_le _) hk hk).1⟩
    ·rw [if_neg (by rw [aEg];exact hb),aEn (P:=oR l) (fun h=>hb fun k _ hk _=>h.2.2.2.1 _ (List.getElem_mem hk))]
   ·obtain ⟨f1,f2,f3⟩:=hf _ (List.getElem_mem hk)
    have hpk:=hp' _ (List.getElem_mem hk)
    simp only [aIi,Bool.and_eq_true,decide_eq_true_eq] at hpk
    obtain ⟨_,r2,hb1,hb2⟩:=aOb (l:=l) (d:=l[k]) hl f2 f3 hpk.1 hpk.2
    unfold aAh
    rw [if_pos (cR hk),cZ hk,aE,hb1,aE,hb2,cO hk (by omega)]
    cases hb:aCE l l[k] with
    |false=>rw [aEn (fun h=>by have:=h hk;rw [hb] at this;cases this)];rfl
    |true=>rw [aIh (fun _=>hb)];rfl
  ·rw [if_neg (by rw [aEg];exact hs),aEn (P:=oR l) (fun h=>hs fun k _ hk _=>⟨h.2.2.2.2 k hk,h.2.2.1 _ (List.getElem_mem hk)⟩)]
 ·unfold aAk
  rw [if_pos (cR hk),cZ hk,aE,aGn,aE,aCA,aE]
  unfold aAj
  have inner:=aDz (step:=fun s=>aAi l (k:Int) s) k 0 (fun j=>∀ hj:j < l.length,¬ (l[j].Name == l[k].Name)=true) (.inr false) (.inl ()) (Nat.zero_le _) (fun j _ hj=>?_) (by unfold aAi;rw [if_neg (by simp)])
  ·rw [show (0:Int)=((0:Nat):Int) from rfl,inner,aE]
   have hpar:(decide ((((0:Nat):Int))<=l[k].Parameters)&&decide (l[k].Parameters<=3))=aIi l[k]:=rfl
   have hany:cl (∀ j,0<=j->j < k->∀ hj:j < l.length,¬ (l[j].Name == l[k].Name)=true)=!(l.take k).any (fun d=>d.Name == l[k].Name):=by
    cases ha:(l.take k).any (fun d=>d.Name == l[k].Name) with
    |true=>
     rw [aEn];· rfl
     intro h
     obtain ⟨d,hd,hdn⟩:=List.any_eq_true.1 ha
     obtain ⟨j,hj,rfl⟩:=List.getElem_of_mem hd
     rw [List.length_take] at hj
     rw [List.getElem_take] at hdn
     exact h j (Nat.zero_le _) (by omega) (by omega) hdn
    |false=>
     rw [aIh];· rfl
     intro j _ hj hjl hn
     have:=List.any_eq_false.1 ha l[j] (by rw [List.mem_iff_getElem];exact ⟨j,by rw [List.length_take];omega,by rw [List.getElem_take]⟩)
     exact this hn
   rw [hany]
   cases hn:rD l[k].Name with
   |false=>rw [aEn (fun h=>by have:=(h hk).1.1;rw [hn] at this;cases this)];rfl
   |true=>
    cases hpb:aIi l[k] with
    |false=>
     rw [aEn (fun h=>by have:=(h hk).2;rw [hpb] at this;cases this)]
     have:(decide (0<=l[k].Parameters)&&decide (l[k].Parameters<=3))=false:=hpb
     rw [show ((0:Nat):Int)=0 from rfl,this];rfl
    |true=>
     have:(decide (0<=l[k].Parameters)&&decide (l[k].Parameters<=3))=true:=hpb
     rw [show ((0:Nat):Int)=0 from rfl,this]
     cases ha:(l.take k).any (fun d=>d.Name == l[k].Name) with
     |true=>rw [aEn (fun h=>by have:=(h hk).1.2;rw [ha] at this;cases this)];rfl
     |false=>
      rw [aIh (fun _=>⟨⟨hn,ha⟩,hpb⟩)]
      show uQ (k:Int)=_
      unfold uQ aCX
      rw [cO hk (by omega)];rfl
  ·unfold aAi
   rw [if_pos (cR hj),cZ (show j < l.length by omega),aE,cZ hk,aE,cO (show j < l.length by omega) (by omega)]
   cases he:(l[j].Name == l[k].Name) with
   |true=>rw [aEn (fun h=>h (by omega) he)];rfl
   |false=>rw [aIh (fun _=>by rw [he];simp)];rfl
def aCF (l:List Definition) (c:bT):Bool:=decide (0<=c.Definition)&&decide (c.Definition < (l.length:Int))&&(c.Values.length:Int) == (l.getD c.Definition.toNat ⟨[],0,[]⟩).Parameters&&c.Values.all oQ
theorem aRm (xs:List Int) (h:xs.length < 4611686018427387904):aFk xs=some (xs.all oQ):=by
 unfold aFk
 rw [aBb (step:=fun s=>aAl xs s) xs oQ (.inr false) (.inl ()) (fun k x hk hx=>by
  simp only [aAl,cR hk,if_pos,hx,aE,aCA,cO hk h]
  show (if (!oQ x)=true then _ else _)=_
  cases oQ x<;>rfl) (by simp only [aAl,cN];rfl),aE]
 cases xs.all oQ<;>rfl
theorem comp_I {l:List Definition} {c:bT} (hl:l.length<=1000000) (hc:c.Values.length < 1000000000):wP l c=some (aCF l c):=by
 unfold wP mU aCF
 rw [aNZ _ _ (by omega) (by omega),aE]
 have hle:(decide (0<=c.Definition)&&decide (c.Definition<=(l.length:Int) - 1))=(decide (0<=c.Definition)&&decide (c.Definition < (l.length:Int))):=by
  congr 1;by_cases h:c.Definition < (l.length:Int)
  ·simp [h];omega
  ·simp [h];omega
 rw [hle]
 by_cases hb:(decide (0<=c.Definition)&&decide (c.Definition < (l.length:Int)))=true
 ·have hb2:=hb
  simp only [Bool.and_eq_true,decide_eq_true_eq] at hb2
  have hlt:c.Definition.toNat < l.length:=by omega
  have hix:ix l c.Definition=some (l[c.Definition.toNat]'hlt):=by unfold ix;rw [if_pos hb2.1];simp [hlt]
  have hg:l.getD c.Definition.toNat ⟨[],0,[]⟩=l[c.Definition.toNat]:=by simp [List.getD,hlt]
  rw [hb,if_pos rfl,hix,aE,hg,Bool.true_and]
  cases h:(c.Values.length:Int) == l[c.Definition.toNat].Parameters with
  |true=>rw [if_pos rfl,aJx _ (by omega)];rfl
  |false=>rfl
 ·have hb':(decide (0<=c.Definition)&&decide (c.Definition < (l.length:Int)))=false:=by simpa using hb
  rw [hb'];rfl
theorem comps_I {s:bZ} (hl:s.Definitions.length<=1000000) (hn:s.Components.length < 1000000000) (hc:∀ c∈s.Components,c.Values.length < 1000000000):dL s.Components s=some (!s.Components.all (aCF s.Definitions)):=by
 unfold dL eL
 have:=aJH (step:=fun x=>dK s.Components s x) s.Components (fun c=>!aCF s.Definitions c) (by omega) (fun k x hk hix hm=>?_) ?_
 ·have e:(s.Components.any fun c=>!aCF s.Definitions c)=!s.Components.all (aCF s.Definitions):=by simp [List.any_eq_not_all_not]
  rw [←e,←this];rfl
 ·simp only [dK,cR hk,if_true,hix,aE,uZ,comp_I hl (hc x hm)]
 ·simp only [dK,cN];rfl
theorem comps_S {s:bZ} (hl:s.Definitions.length<=1000000) (hn:s.Components.length < 1000000000) (hc:∀ c∈s.Components,c.Values.length < 1000000000):rH s=some (decide (1<=s.Components.length)&&decide (s.Components.length<=3)&&s.Components.all (aCF s.Definitions)):=by
 unfold rH
 by_cases h0:s.Components.length=0
 ·rw [if_pos (by simp [h0]),h0];rfl
 rw [if_neg (by simp;intro h;simp [h] at h0)]
 unfold nC
 by_cases h4:3 < s.Components.length
 ·rw [if_pos (by simp;omega)]
  have:decide (s.Components.length<=3)=false:=by simp;omega
  rw [this];simp
 rw [if_neg (by simp;omega)]
 have e1:decide (1<=s.Components.length)=true:=by simp;omega
 have e2:decide (s.Components.length<=3)=true:=by simp;omega
 rw [e1,e2,aBb (step:=fun x=>nB s x) s.Components (aCF s.Definitions) (.inr false) (.inl ()) (fun k x hk hix=>?_) (by simp only [nB,cN];rfl),aE]
 ·cases s.Components.all (aCF s.Definitions)<;>rfl
 ·have hm:x∈s.Components:=by rw [cZ hk] at hix;cases hix;exact List.getElem_mem hk
  have hw:wr ((s.Definitions.length:Int) - 1)=(s.Definitions.length:Int) - 1:=iC (by omega) (by omega)
  have hle:(decide (0<=x.Definition)&&decide (x.Definition<=(s.Definitions.length:Int) - 1))=(decide (0<=x.Definition)&&decide (x.Definition < (s.Definitions.length:Int))):=by
   congr 1;by_cases h:x.Definition < (s.Definitions.length:Int)
   ·simp [h];omega
   ·simp [h];omega
  unfold nB nA aCF
  rw [if_pos (cR hk),hix,aE,hw,aCA,aE,hle,cO hk (by omega)]
  by_cases hb:(decide (0<=x.Definition)&&decide (x.Definition < (s.Definitions.length:Int)))=true
  ·have hb2:=hb
   simp only [Bool.and_eq_true,decide_eq_true_eq] at hb2
   have hlt:x.Definition.toNat < s.Definitions.length:=by omega
   have hdx:ix s.Definitions x.Definition=some (s.Definitions[x.Definition.toNat]'hlt):=by unfold ix;rw [if_pos hb2.1];simp [hlt]
   have hg:s.Definitions.getD x.Definition.toNat ⟨[],0,[]⟩=s.Definitions[x.Definition.toNat]:=by simp [List.getD,hlt]
   rw [hb,if_neg (by simp),hdx,aE,hg,Bool.true_and,aRm _ (by have:=hc x hm;omega),aE,bne]
   cases (x.Values.length:Int) == s.Definitions[x.Definition.toNat].Parameters<;>cases x.Values.all oQ<;>rfl
  ·have hb':(decide (0<=x.Definition)&&decide (x.Definition < (s.Definitions.length:Int)))=false:=by simpa using hb
   rw [hb'];rfl
structure SysOk (s:bZ):Prop where
 defs:oR s.Definitions
 n1:1<=s.Components.length
 n3:s.Components.length<=3
 comp:∀ c∈s.Components,aCF s.Definitions c=true
 meet:∀ m∈s.Meetings,kI m.Left=true/\kI m.Right=true/\kI m.Result=true
 alw:vN s.Allowed
 hid:vN s.Hidden
theorem aQc {ms:List bU} (hl:ms.length<=sz) (hm:∀ m∈ms,aJy sz m) (h:qX ms=some true):∀ m∈ms,kI m.Left=true/\kI m.Right=true/\kI m.Result=true:=by
 have hget:∀ {k:Nat} (hk:k < ms.length),ms.getD k ⟨[],[],[]⟩=ms[k]:=fun hk=>by rw [List.getD_eq_getElem?_getD,List.getElem?_eq_getElem hk];rfl
 obtain ⟨b,hb,hi⟩:=aDy (step:=fun s=>kF ms s) ms.length 0 (fun k=>mtB ms k (ms.getD k ⟨[],[],[]⟩)) (.inr false) (.inl ()) (Nat.zero_le _) (fun k _ hk=>by rw [hget hk];exact meet_i ms hl hm hk) (by simp only [kF,cN];rfl)
 unfold qX at h
 rw [show (0:Int)=((0:Nat):Int) from rfl,hi,aE] at h
 cases b with
 |false=>cases h
 |true=>
  intro m hmem
  obtain ⟨k,hk,rfl⟩:=List.getElem_of_mem hmem
  have:=hb.1 rfl k (Nat.zero_le _) hk
  rw [hget hk] at this
  simp only [mtB,Bool.and_eq_true] at this
  exact ⟨this.1.1.1.1.1,this.1.1.1.1.2,this.1.1.1.2⟩
theorem aRn {s:bZ} (hz:zSys s<=sz):∃ B,sH s=some B/\aHB s=some B/\(B=true->SysOk s):=by
 have hf:=aHs hz
 obtain ⟨g1,g2,g3,g4,g5,g6,g7,g8,g9,g10⟩:=hf
 have hsz:sz=1048576:=rfl
 have hd1:s.Definitions.length<=1000000\/1000000 < s.Definitions.length:=by omega
 have hdf:∀ d∈s.Definitions,DefFit d:=fun d hd=>by
  obtain ⟨x,y,z⟩:=g2 d hd
  exact ⟨by omega,by omega,fun p hp=>let ⟨u,v,q⟩:=z p hp;⟨by omega,by omega,fun e he=>by have:=q e he;omega⟩⟩
 have hm:∀ m∈s.Meetings,aJy sz m:=g6
 obtain ⟨B,m1,m2⟩:=aQX s.Meetings g5 hm
 have a1:=aME s.Allowed (by omega) (fun t ht=>by have:=g8 t ht;omega)
 have a2:=aKL s.Allowed (by omega)
 have b1:=aME s.Hidden (by omega) (fun t ht=>by have:=g10 t ht;omega)
 have b2:=aKL s.Hidden (by omega)
 have hbig:1000000 < s.Definitions.length->jF s.Definitions=some false/\aBj s.Definitions=some false:=by
  intro h
  constructor
  ·unfold jF
   rw [iS,aE]
   have:(decide (1<=(s.Definitions.length:Int))&&decide ((s.Definitions.length:Int)<=4))=false:=by
    rw [Bool.and_eq_false_iff];right;simp;omega
   rw [this];rfl
  ·unfold aBj uR
   have h1:((s.Definitions.length:Int) == 0)=false:=by simp;intro h2;simp [h2] at h
   have h2:decide (4 < (s.Definitions.length:Int))=true:=by simp;omega
   rw [h1,h2];rfl
 rcases hd1 with hd1|hd1
 ·have d1:=defs_I _ hd1 hdf
  have d2:=defs_S _ hd1 hdf
  have c1:=comps_I (s:=s) hd1 (by omega) (fun c hc=>by have:=g4 c hc;omega)
  have c2:=comps_S (s:=s) hd1 (by omega) (fun c hc=>by have:=g4 c hc;omega)
  let C:=decide (1<=s.Components.length)&&decide (s.Components.length<=3)&&s.Components.all (aCF s.Definitions)
  refine ⟨cl (oR s.Definitions)&&C&&B&&cl (vN s.Allowed)&&cl (vN s.Hidden),?_,?_,?_⟩
  ·unfold sH wQ
   rw [d1,aE,iS,aE,c1,aE]
   have hC:(decide (1<=(s.Components.length:Int))&&decide ((s.Components.length:Int)<=3))=(decide (1<=s.Components.length)&&decide (s.Components.length<=3)):=by
    have e1:decide (1<=(s.Components.length:Int))=decide (1<=s.Components.length):=by simp;omega
    have e2:decide ((s.Components.length:Int)<=3)=decide (s.Components.length<=3):=by simp;omega
    rw [e1,e2]
   rw [hC]
   unfold pV
   rw [m1,a1,b1]
   show _=some (cl (oR s.Definitions)&&(decide (1<=s.Components.length)&&decide (s.Components.length<=3)&&s.Components.all (aCF s.Definitions))&&B&&cl (vN s.Allowed)&&cl (vN s.Hidden))
   cases cl (oR s.Definitions)<;>cases (decide (1<=s.Components.length)&&decide (s.Components.length<=3))<;>cases s.Components.all (aCF s.Definitions)<;>cases B<;>cases cl (vN s.Allowed)<;>cases cl (vN s.Hidden)<;>rfl
  ·unfold aHB aDO
   rw [d2,aE,c2,aE,m2,aE,a2,aE,b2,aE]
   show _=some (cl (oR s.Definitions)&&(decide (1<=s.Components.length)&&decide (s.Components.length<=3)&&s.Components.all (aCF s.Definitions))&&B&&cl (vN s.Allowed)&&cl (vN s.Hidden))
   cases cl (oR s.Definitions)<;>cases (decide (1<=s.Components.length)&&decide (s.Components.length<=3)&&s.Components.all (aCF s.Definitions))<;>cases B<;>cases cl (vN s.Allowed)<;>cases cl (vN s.Hidden)<;>rfl
  ·intro h
   simp only [Bool.and_eq_true,C] at h
   obtain ⟨⟨⟨⟨h1,⟨⟨h2,h3⟩,h4⟩⟩,h5⟩,h6⟩,h7⟩:=h
   subst h5
   exact ⟨(aEg).1 h1,by simpa using h2,by simpa using h3,List.all_eq_true.1 h4,aQc g5 hm m1,(aEg).1 h6,(aEg).1 h7⟩
 ·obtain ⟨e1,e2⟩:=hbig hd1
  refine ⟨false,?_,?_,fun h=>by cases h⟩
  ·unfold sH wQ
   rw [e1];rfl
  ·unfold aHB aDO
   rw [e2];rfl
end Gv
namespace Gv
section
variable {β:Type}
theorem aEX (pre:List β) (x:β) (post:List β):ix (pre++x::post) (pre.length:Int)=some x:=by rw [iL];simp
theorem aHt (pre:List β) (x y:β) (post:List β):st (pre++x::post) (pre.length:Int) y=some (pre++y::post):=by rw [xC y (by simp)];simp
theorem aEY (pre:List β) (x:β) (post:List β):decide ((pre.length:Int) < ((pre++x::post).length:Int))=true:=by simp;omega
noncomputable def mkL (w:β->Nat) (m:Int->β->β):Int->List β->List β
 |_,[]=>[]
 |k,x::xs=>m k x::mkL w m (k+w x) xs
theorem aKO {w:β->Nat} {m:Int->β->β} {step:(List β × Int × Int)->Option ((List β × Int × Int) ⊕ (Int × List β))} {a:List β} {B k:Int} (h0:0<=k) (hB:k+((a.map w).sum:Nat)<=B) (hl:a.length < 4611686018427387904)
  (hs:∀ pre x post kk,x∈a->0<=kk->kk+w x<=B->step (pre++x::post,kk,(pre.length:Int))=some (.inl (pre++m kk x::post,kk+w x,wr ((pre.length:Int)+1))))
  (hs':∀ b kk,step (b,kk,(b.length:Int))=some (.inr (kk,b))):loop step (a,k,0)=some (k+((a.map w).sum:Nat),mkL w m k a):=by
 have aux:∀ (rest pre:List β) (kk:Int),(∀ x∈rest,x∈a)->pre.length+rest.length=a.length->0<=kk->kk+((rest.map w).sum:Nat)<=B->loop step (pre++rest,kk,(pre.length:Int))=some (kk+((rest.map w).sum:Nat),pre++mkL w m kk rest):=by
  intro rest
  induction rest with
  |nil=>
   intro pre kk _ _ _ _
   rw [List.append_nil,cX,hs']
   simp [mkL]
  |cons x rest ih=>
   intro pre kk hm hlen hk hb
   simp only [List.map_cons,List.sum_cons,Int.natCast_add] at hb
   rw [cX,hs pre x rest kk (hm x (by simp)) hk (by omega)]
   have e1:wr ((pre.length:Int)+1)=((pre++[m kk x]).length:Int):=by
    rw [List.length_append,List.length_singleton]
    simp only [List.length_cons] at hlen
    exact cO (n:=a.length) (by omega) hl
   have e2:pre++m kk x::rest=(pre++[m kk x])++rest:=by simp
   rw [e1,e2]
   show loop step _=_
   rw [ih (pre++[m kk x]) (kk+w x) (fun y hy=>hm y (List.mem_cons_of_mem _ hy)) (by simp at hlen ⊢;omega) (by omega) (by omega)]
   simp only [List.map_cons,List.sum_cons,Int.natCast_add,mkL,List.append_assoc,List.singleton_append]
   rw [Int.add_assoc]
 have:=aux a [] k (fun x h=>h) (by simp) h0 hB
 simpa using this
theorem heldL {w:β->Nat} {m:Int->β->β} {ρ:Type} {step:(Int × Int)->Option ((Int × Int) ⊕ (Int ⊕ ρ))} {a:List β} {B k:Int} (h0:0<=k) (hB:k+((a.map w).sum:Nat)<=B) (hl:a.length < 4611686018427387904)
  (hs:∀ pre x post kk,x∈a->0<=kk->kk+w x<=B->mkL w m k a=pre++m kk x::post->step (kk,(pre.length:Int))=some (.inl (kk+w x,wr ((pre.length:Int)+1))))
  (hs':∀ kk,step (kk,((mkL w m k a).length:Int))=some (.inr (.inl kk))):loop step (k,0)=some (.inl (k+((a.map w).sum:Nat))):=by
 have aux:∀ (rest pre:List β) (kk:Int),(∀ x∈rest,x∈a)->pre.length+rest.length=a.length->0<=kk->kk+((rest.map w).sum:Nat)<=B->mkL w m k a=pre++mkL w m kk rest->loop step (kk,(pre.length:Int))=some (.inl (kk+((rest.map w).sum:Nat))):=by
  intro rest
  induction rest with
  |nil=>
   intro pre kk _ hlen _ _ he
   rw [cX]
   have:(pre.length:Int)=((mkL w m k a).length:Int):=by rw [he];simp [mkL]
   rw [this,hs']
   simp
  |cons x rest ih=>
   intro pre kk hm hlen hk hb he
   simp only [List.map_cons,List.sum_cons,Int.natCast_add] at hb
   rw [cX,hs pre x _ kk (hm x (by simp)) hk (by omega) he]
   have e1:wr ((pre.length:Int)+1)=((pre++[m kk x]).length:Int):=by
    rw [List.length_append,List.length_singleton]
    simp only [List.length_cons] at hlen
    exact cO (n:=a.length) (by omega) hl
   rw [e1]
   show loop step _=_
   rw [ih (pre++[m kk x]) (kk+w x) (fun y hy=>hm y (List.mem_cons_of_mem _ hy)) (by simp at hlen ⊢;omega) (by omega) (by omega) (by rw [he];simp [mkL])]
   simp only [List.map_cons,List.sum_cons,Int.natCast_add]
   rw [Int.add_assoc]
 have:=aux a [] k (fun x h=>h) (by simp) h0 hB rfl
 simpa using this
end
def BM:Int:=1099511627776
noncomputable def mTm (k:Int) (_:bS):bS:=⟨k,k+1⟩
def wTs (e:List bS):Nat:=(e.map fun _=>2).sum
noncomputable def mTs (k:Int) (e:List bS):List bS:=mkL (fun _=>2) mTm k e
def wTss (e:List (List bS)):Nat:=(e.map wTs).sum
noncomputable def mTss (k:Int) (e:List (List bS)):List (List bS):=mkL wTs mTs k e
def wPt (p:Part):Nat:=3+wTss p.Arguments
noncomputable def mPt (k:Int) (p:Part):Part:=⟨k,k+1,mt (k+2),mTss (k+3) p.Arguments⟩
def wPts (a:List Part):Nat:=(a.map wPt).sum
noncomputable def mPts (k:Int) (a:List Part):List Part:=mkL wPt mPt k a
def wDf (d:Definition):Nat:=2+wPts d.Body
noncomputable def mDf (k:Int) (d:Definition):Definition:=⟨mt k,k+1,mPts (k+2) d.Body⟩
def wDfs (a:List Definition):Nat:=(a.map wDf).sum
def wCm (c:bT):Nat:=1+c.Values.length
noncomputable def mCm (k:Int) (c:bT):bT:=⟨k,mI (k+1) c.Values.length⟩
def wCms (a:List bT):Nat:=(a.map wCm).sum
noncomputable def mMt (k:Int) (_:bU):bU:=⟨mt k,mt (k+1),mt (k+2)⟩
noncomputable def mEn (k:Int) (_:dI):dI:=⟨k,k+1,k+2,mt (k+3)⟩
def wPo (p:aZ):Nat:=2+p.Values.length
noncomputable def mPo (k:Int) (p:aZ):aZ:=⟨k,k+1,mI (k+2) p.Values.length⟩
theorem sumC {β:Type} (c:Nat):∀ (a:List β),(a.map fun _=>c).sum=c * a.length
 |[]=>by simp
 |x::a=>by rw [List.map_cons,List.sum_cons,sumC c a,List.length_cons,Nat.mul_succ];omega
theorem aMK {β:Type} {f g:β->Nat} (c:Nat):∀ {a:List β},(∀ x∈a,f x<=c * g x+c)->(a.map f).sum<=c * (a.length+(a.map g).sum)
 |[],_=>by simp
 |x::a,h=>by
  have h1:=h x (by simp)
  have h2:=aMK c (f:=f) (g:=g) (a:=a) (fun y hy=>h y (List.mem_cons_of_mem _ hy))
  simp only [List.map_cons,List.sum_cons,List.length_cons]
  rw [Nat.mul_add] at h2 ⊢
  rw [Nat.mul_add,Nat.mul_add]
  omega
theorem wTss_le {a:List (List bS)}:wTss a<=3 * zL List.length a:=by
 unfold wTss zL
 exact aMK 3 (fun x _=>by unfold wTs;rw [sumC];omega)
theorem wPts_le {a:List Part}:wPts a<=3 * zL aIs a:=by
 unfold wPts
 exact aMK 3 (fun x _=>by have:=wTss_le (a:=x.Arguments);unfold wPt aIs;omega)
theorem wDfs_le {a:List Definition}:wDfs a<=3 * zL zDef a:=by
 unfold wDfs
 exact aMK 3 (fun x _=>by have:=wPts_le (a:=x.Body);unfold wDf zDef;omega)
theorem wCms_le {a:List bT}:wCms a<=3 * zL aJD a:=by
 unfold wCms
 exact aMK 3 (fun x _=>by unfold wCm aJD;omega)
theorem wr1 {k:Int} (h:0<=k) (h2:k<=BM):wr (k+1)=k+1:=by unfold BM at h2;exact iC (by omega) (by omega)
theorem aOV {a:List bS} {k:Int} (h0:0<=k) (hB:k+wTs a<=BM) (hl:a.length < 4611686018427387904):aCu a k=some (k+wTs a,mTs k a):=by
 unfold aCu
 rw [aKO (w:=fun _=>2) (m:=mTm) (step:=fun s=>uD s.1 s.2.1 s.2.2) h0 hB hl (fun pre x post kk _ g0 gB=>?_) (fun b kk=>?_)]
 ·rfl
 ·simp only [uD,aEY,if_true,aEX,aHt,aE,wr1 g0 (by omega),wr1 (k:=kk+1) (by omega) (by omega)]
  simp only [mTm,Int.add_assoc];rfl
 ·simp only [uD,cN];rfl
theorem aNo {a:List (List bS)} {k:Int} (h0:0<=k) (hB:k+wTss a<=BM) (hl:a.length < 4611686018427387904) (hx:∀ e∈a,e.length < 4611686018427387904):aAS a k=some (k+wTss a,mTss k a):=by
 unfold aAS
 rw [aKO (w:=wTs) (m:=mTs) (step:=fun s=>rQ s.1 s.2.1 s.2.2) h0 hB hl (fun pre x post kk hm g0 gB=>?_) (fun b kk=>?_)]
 ·rfl
 ·simp only [rQ,aEY,if_true,aEX,aE,aOV g0 gB (hx x hm),aHt]
 ·simp only [rQ,cN];rfl
theorem aOW {a:List Part} {k:Int} (h0:0<=k) (hB:k+wPts a<=BM) (hl:a.length < 4611686018427387904) (hx:∀ p∈a,aCD 4611686018427387903 p):aCv a k=some (k+wPts a,mPts k a):=by
 unfold aCv
 rw [aKO (w:=wPt) (m:=mPt) (step:=fun s=>uE s.1 s.2.1 s.2.2) h0 hB hl (fun pre x post kk hm g0 gB=>?_) (fun b kk=>?_)]
 ·rfl
 ·obtain ⟨p1,p2,p3⟩:=hx x hm
  have gB':kk+(3+wTss x.Arguments:Nat)<=BM:=gB
  have hb2:kk<=1099511627776:=by unfold BM at gB';omega
  have w1:=wr1 g0 (by omega)
  have w2:=wr1 (k:=kk+1) (by omega) (by omega)
  have w3:=wr1 (k:=kk+1+1) (by omega) (by omega)
  simp only [uE,aEY,if_true,aEX,aHt,aE,w1,w2,w3]
  rw [show kk+1+1+1=kk+3 by omega,show kk+1+1=kk+2 by omega,aKI (by omega),aE]
  rw [aNo (by omega) (by omega) (by omega) (fun e he=>by have:=p3 e he;omega),aE]
  refine congrArg some (congrArg Sum.inl (Prod.ext rfl (Prod.ext ?_ rfl)))
  simp only [wPt]
  omega
 ·simp only [uE,cN];rfl
theorem aIO {a:List Definition} {k:Int} (h0:0<=k) (hB:k+wDfs a<=BM) (hl:a.length < 4611686018427387904) (hx:∀ p∈a,aBU 4611686018427387903 p):oI a k=some (k+wDfs a,mkL wDf mDf k a):=by
 unfold oI
 rw [aKO (w:=wDf) (m:=mDf) (step:=fun s=>lM s.1 s.2.1 s.2.2) h0 hB hl (fun pre x post kk hm g0 gB=>?_) (fun b kk=>?_)]
 ·rfl
 ·obtain ⟨p1,p2,p3⟩:=hx x hm
  have gB':kk+(2+wPts x.Body:Nat)<=BM:=gB
  have hb2:kk<=1099511627776:=by unfold BM at gB';omega
  have w1:=wr1 g0 (by omega)
  have w2:=wr1 (k:=kk+1) (by omega) (by omega)
  simp only [lM,aEY,if_true,aEX,aHt,aE,w1,w2]
  rw [show kk+1+1=kk+2 by omega,aKI (by omega),aE]
  rw [aOW (by omega) (by omega) (by omega) p3,aE]
  refine congrArg some (congrArg Sum.inl (Prod.ext rfl (Prod.ext ?_ rfl)))
  simp only [wDf]
  omega
 ·simp only [lM,cN];rfl
theorem aJJ {a:List bT} {k:Int} (h0:0<=k) (hB:k+wCms a<=BM) (hl:a.length < 4611686018427387904) (hx:∀ c∈a,c.Values.length<=1099511627776):pZ a k=some (k+wCms a,mkL wCm mCm k a):=by
 unfold pZ
 rw [aKO (w:=wCm) (m:=mCm) (step:=fun s=>mF s.1 s.2.1 s.2.2) h0 hB hl (fun pre x post kk hm g0 gB=>?_) (fun b kk=>?_)]
 ·rfl
 ·have gB':kk+(1+x.Values.length:Nat)<=BM:=gB
  have hb2:kk+1<=1099511627776:=by unfold BM at gB';omega
  have w1:=wr1 g0 (by omega)
  simp only [mF,aEY,if_true,aEX,aHt,aE,w1]
  rw [aIq (by omega) hb2 (hx x hm),aE]
  refine congrArg some (congrArg Sum.inl (Prod.ext rfl (Prod.ext ?_ rfl)))
  simp only [wCm]
  omega
 ·simp only [mF,cN];rfl
theorem aOX {a:List bU} {k:Int} (h0:0<=k) (hB:k+(3 * a.length:Nat)<=BM) (hl:a.length < 4611686018427387904):uF a k=some (k+(3 * a.length:Nat),mkL (fun _=>3) mMt k a):=by
 unfold uF
 rw [←sumC 3 a] at hB ⊢
 rw [aKO (w:=fun _=>3) (m:=mMt) (step:=fun s=>oJ s.1 s.2.1 s.2.2) h0 hB hl (fun pre x post kk hm g0 gB=>?_) (fun b kk=>?_)]
 ·rfl
 ·have hb2:kk+3<=1099511627776:=gB
  have w1:=wr1 g0 (by omega)
  have w2:=wr1 (k:=kk+1) (by omega) (by unfold BM;omega)
  have w3:=wr1 (k:=kk+1+1) (by omega) (by unfold BM;omega)
  simp only [oJ,aEY,if_true,aEX,aHt,aE,w1,w2,w3,aKI (k:=kk) (by omega),aKI (k:=kk+1) (by omega),aKI (k:=kk+1+1) (by omega)]
  simp only [mMt,Int.add_assoc];rfl
 ·simp only [oJ,cN];rfl
theorem aNp {a:List dI} {k:Int} (h0:0<=k) (hB:k+(4 * a.length:Nat)<=BM) (hl:a.length < 4611686018427387904):aAV a k=some (k+(4 * a.length:Nat),mkL (fun _=>4) mEn k a):=by
 unfold aAV
 rw [←sumC 4 a] at hB ⊢
 rw [aKO (w:=fun _=>4) (m:=mEn) (step:=fun s=>rS s.1 s.2.1 s.2.2) h0 hB hl (fun pre x post kk hm g0 gB=>?_) (fun b kk=>?_)]
 ·rfl
 ·have hb2:kk+4<=1099511627776:=gB
  have w1:=wr1 g0 (by omega)
  have w2:=wr1 (k:=kk+1) (by omega) (by unfold BM;omega)
  have w3:=wr1 (k:=kk+1+1) (by omega) (by unfold BM;omega)
  have w4:=wr1 (k:=kk+1+1+1) (by omega) (by unfold BM;omega)
  simp only [rS,aEY,if_true,aEX,aHt,aE,w1,w2,w3,w4,aKI (k:=kk+1+1+1) (by omega)]
  simp only [mEn,Int.add_assoc];rfl
 ·simp only [rS,cN];rfl
theorem aNq {a:List dI} {k:Int} (h0:0<=k) (hB:k+(4 * a.length:Nat)<=BM) (hl:a.length < 4611686018427387904):vF (mkL (fun _=>4) mEn k a) k=some (k+(4 * a.length:Nat)):=by
 unfold vF
 rw [←sumC 4 a] at hB ⊢
 rw [heldL (w:=fun _=>4) (m:=mEn) (step:=fun s=>rU (mkL (fun _=>4) mEn k a) s.1 s.2) h0 hB hl (fun pre x post kk hm g0 gB he=>?_) (fun kk=>?_)]
 ·rfl
 ·have hb2:kk+4<=1099511627776:=gB
  have w1:=wr1 g0 (by omega)
  have w2:=wr1 (k:=kk+1) (by omega) (by unfold BM;omega)
  have w3:=wr1 (k:=kk+1+1) (by omega) (by unfold BM;omega)
  have w4:=wr1 (k:=kk+1+1+1) (by omega) (by unfold BM;omega)
  simp only [he,rU,aEY,if_true,aEX,aE,mEn,w1,w2,w3,w4,aKI (k:=kk+1+1+1) (by omega)]
  simp [Int.add_assoc]
 ·simp only [rU,cN];rfl
theorem aNr {a:List aZ} {k:Int} (h0:0<=k) (hB:k+((a.map wPo).sum:Nat)<=BM) (hl:a.length < 4611686018427387904) (hx:∀ c∈a,c.Values.length<=1099511627776):aAW a k=some (k+((a.map wPo).sum:Nat),mkL wPo mPo k a):=by
 unfold aAW
 rw [aKO (w:=wPo) (m:=mPo) (step:=fun s=>rT s.1 s.2.1 s.2.2) h0 hB hl (fun pre x post kk hm g0 gB=>?_) (fun b kk=>?_)]
 ·rfl
 ·have gB':kk+(2+x.Values.length:Nat)<=BM:=gB
  have hb2:kk+2<=1099511627776:=by unfold BM at gB';omega
  have w1:=wr1 g0 (by omega)
  have w2:=wr1 (k:=kk+1) (by omega) (by unfold BM;omega)
  simp only [rT,aEY,if_true,aEX,aHt,aE,w1,w2]
  rw [show kk+1+1=kk+2 by omega,aIq (by omega) (by omega) (hx x hm),aE]
  refine congrArg some (congrArg Sum.inl (Prod.ext rfl (Prod.ext ?_ rfl)))
  simp only [wPo]
  omega
 ·simp only [rT,cN];rfl
theorem aNs {a:List aZ} {k:Int} (h0:0<=k) (hB:k+((a.map wPo).sum:Nat)<=BM) (hl:a.length < 4611686018427387904) (hx:∀ c∈a,c.Values.length<=1099511627776):vG (mkL wPo mPo k a) k=some (k+((a.map wPo).sum:Nat)):=by
 unfold vG
 rw [heldL (w:=wPo) (m:=mPo) (step:=fun s=>rW (mkL wPo mPo k a) s.1 s.2) h0 hB hl (fun pre x post kk hm g0 gB he=>?_) (fun kk=>?_)]
 ·rfl
 ·have gB':kk+(2+x.Values.length:Nat)<=BM:=gB
  have hb2:kk+2<=1099511627776:=by unfold BM at gB';omega
  have w1:=wr1 g0 (by omega)
  have w2:=wr1 (k:=kk+1) (by omega) (by unfold BM;omega)
  simp only [he,rW,aEY,if_true,aEX,aE,mPo,w1,w2]
  rw [show kk+1+1=kk+2 by omega,aNg (by omega) (by omega) (hx x hm),aE]
  simp only [bne_self_eq_false,Bool.false_eq_true,if_false]
  rw [if_neg (by simp;omega)]
  refine congrArg some (congrArg Sum.inl (Prod.ext ?_ rfl))
  simp only [wPo]
  omega
 ·simp only [rW,cN];rfl
theorem aNt {s:bZ} (h:zSys s<=sz):∃ r,aAU s.Definitions s.Components s.Meetings s.Allowed s.Hidden 1=some r/\0<=r.1:=by
 have hf:=aHs h
 unfold zSys sz at h
 have b1:=wDfs_le (a:=s.Definitions)
 have b2:=wCms_le (a:=s.Components)
 have b3:=aEW (z:=aKM) (a:=s.Meetings)
 have b4:=aEW (z:=List.length) (a:=s.Allowed)
 have b5:=aEW (z:=List.length) (a:=s.Hidden)
 obtain ⟨g1,g2,g3,g4,g5,g6,g7,g8,g9,g10⟩:=hf
 simp only [sz] at g1 g2 g3 g4 g5 g7 g9
 have hd:∀ d∈s.Definitions,aBU 4611686018427387903 d:=fun d hd=>by
  obtain ⟨x,y,z⟩:=g2 d hd
  exact ⟨by omega,by omega,fun p hp=>let ⟨u,v,q⟩:=z p hp;⟨by omega,by omega,fun e he=>by have:=q e he;omega⟩⟩
 unfold aAU
 rw [aIO (by omega) (by unfold BM;omega) (by omega) hd,aE]
 simp only
 rw [aJJ (by omega) (by unfold BM;omega) (by omega) (fun c hc=>by have:=g4 c hc;omega),aE]
 simp only
 rw [aOX (by omega) (by unfold BM;omega) (by omega),aE]
 simp only
 rw [aHo (by omega) (by omega) (by omega),aE]
 simp only
 rw [aHo (by omega) (by omega) (by omega),aE]
 exact ⟨_,rfl,by simp only;omega⟩
end Gv
