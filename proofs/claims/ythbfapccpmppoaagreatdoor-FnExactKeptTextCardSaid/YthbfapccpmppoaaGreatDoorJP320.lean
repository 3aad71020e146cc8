/- Lists of nodes that are trees, written from the root on; expressions of both sides. -/
import Derived.Test.YthbfapccpmppoaaGreatDoorJP220
set_option linter.all false
namespace Gv
theorem oF {σ ρ:Type} {step:σ->Option (σ ⊕ ρ)} {s s':σ} (h:step s=some (.inl s')):loop step s=loop step s':=by rw [bD,h]
theorem fJ {σ ρ:Type} {step:σ->Option (σ ⊕ ρ)} {s:σ} {r:ρ} (h:step s=some (.inr r)):loop step s=some r:=by rw [bD,h]
section
variable {β:Type}
inductive GTr (β:Type) where
 |nul (x:β)
 |one (x:β) (a:GTr β)
 |two (x:β) (a b:GTr β)
def GTr.flat:GTr β->List β
 |.nul x=>[x]
 |.one x a=>x::a.flat
 |.two x a b=>x::(a.flat++b.flat)
def GTr.WF (ar:β->Nat):GTr β->Prop
 |.nul x=>ar x=0
 |.one x a=>ar x=1/\a.WF ar
 |.two x a b=>ar x=2/\a.WF ar/\b.WF ar
def jZ (ok:β->Bool) (ar:β->Nat):Nat->List β->Bool
 |n,[]=>n == 0
 |0,_::_=>false
 |n+1,x::l=>ok x&&jZ ok ar (n+ar x) l
theorem GTr.flat_pos:∀ t:GTr β,0 < t.flat.length
 |.nul _=>by simp [GTr.flat]
 |.one _ _=>by simp [GTr.flat]
 |.two _ _ _=>by simp [GTr.flat]
theorem aQu {ok:β->Bool} {ar:β->Nat}:∀ {l:List β} {n:Nat},jZ ok ar n l=true->∀ x∈l,ok x=true
 |[],_,_,x,hx=>by cases hx
 |y::l,0,h,_,_=>by simp [jZ] at h
 |y::l,n+1,h,x,hx=>by
  simp only [jZ,Bool.and_eq_true] at h
  rcases List.mem_cons.1 hx with rfl|hx
  ·exact h.1
  ·exact aQu h.2 x hx
theorem aFn {ok:β->Bool} {ar:β->Nat} (har:∀ x,ar x<=2):∀ {l:List β} {n:Nat},jZ ok ar n l=true->∃ ts:List (GTr β),ts.length=n/\l=ts.flatMap GTr.flat/\∀ t∈ts,t.WF ar
 |[],n,h=>by
  simp only [jZ,beq_iff_eq] at h
  subst h
  exact ⟨[],rfl,rfl,by simp⟩
 |x::l,0,h=>by simp [jZ] at h
 |x::l,n+1,h=>by
  simp only [jZ,Bool.and_eq_true] at h
  obtain ⟨ts,h1,h2,h3⟩:=aFn har h.2
  have hx:=har x
  by_cases e0:ar x=0
  ·refine ⟨.nul x::ts,by rw [List.length_cons,h1,e0],by rw [List.flatMap_cons,h2];rfl,fun t ht=>?_⟩
   rcases List.mem_cons.1 ht with rfl|ht
   ·exact e0
   ·exact h3 t ht
  by_cases e1:ar x=1
  ·match ts,h1,h2,h3 with
   |a::ts,h1,h2,h3=>
    refine ⟨.one x a::ts,by rw [List.length_cons] at h1 ⊢;omega,by rw [h2];simp [GTr.flat],fun t ht=>?_⟩
    rcases List.mem_cons.1 ht with rfl|ht
    ·exact ⟨e1,h3 a (by simp)⟩
    ·exact h3 t (List.mem_cons_of_mem _ ht)
   |[],h1,_,_=>simp at h1;omega
  have e2:ar x=2:=by omega
  match ts,h1,h2,h3 with
  |a::b::ts,h1,h2,h3=>
   refine ⟨.two x a b::ts,by rw [List.length_cons,List.length_cons] at h1;rw [List.length_cons];omega,by rw [h2];simp [GTr.flat],fun t ht=>?_⟩
   rcases List.mem_cons.1 ht with rfl|ht
   ·exact ⟨e2,h3 a (by simp),h3 b (by simp)⟩
   ·exact h3 t (List.mem_cons_of_mem _ (List.mem_cons_of_mem _ ht))
  |[a],h1,_,_=>simp at h1;omega
  |[],h1,_,_=>simp at h1;omega
theorem aHj {ok:β->Bool} {ar:β->Nat}:∀ (t:GTr β) (n:Nat) (l:List β),t.WF ar->(∀ x∈t.flat,ok x=true)->jZ ok ar (n+1) (t.flat++l)=jZ ok ar n l
 |.nul x,n,l,h,ho=>by
  have h:ar x=0:=h
  simp [GTr.flat,jZ,h,ho x (by simp [GTr.flat])]
 |.one x a,n,l,h,ho=>by
  have h1:ar x=1:=h.1
  have:=aHj a n l h.2 (fun y hy=>ho y (by simp [GTr.flat,hy]))
  simp only [GTr.flat,List.cons_append,jZ,h1,this,ho x (by simp [GTr.flat]),Bool.true_and]
 |.two x a b,n,l,h,ho=>by
  have h1:ar x=2:=h.1
  have e1:=aHj a (n+1) (b.flat++l) h.2.1 (fun y hy=>ho y (by simp [GTr.flat,hy]))
  have e2:=aHj b n l h.2.2 (fun y hy=>ho y (by simp [GTr.flat,hy]))
  simp only [GTr.flat,List.cons_append,jZ,h1,ho x (by simp [GTr.flat]),Bool.true_and,List.append_assoc]
  rw [show n+2=n+1+1 from rfl,e1,e2]
theorem aEq {step:Int × Int->Option ((Int × Int) ⊕ (Int ⊕ Bool))} {e:List β} {ok:β->Bool} {ar:β->Nat} (har:∀ x,ar x<=2)
  (hs:∀ pre x post (n:Nat),e=pre++x::post->n<=2 * pre.length+1->step ((n:Int),(pre.length:Int))=if n=0 then some (.inr (.inr false)) else if ok x=true then some (.inl (((n - 1+ar x:Nat):Int),((pre.length+1:Nat):Int))) else some (.inr (.inr false)))
  (hs':∀ n,step (n,(e.length:Int))=some (.inr (.inl n))):∃ r,loop step (1,0)=some r/\(match r with|.inl r=>some (r == 0)|.inr b=>some b)=some (jZ ok ar 1 e):=by
 have aux:∀ (l pre:List β) (n:Nat),e=pre++l->n<=2 * pre.length+1->∃ r,loop step ((n:Int),(pre.length:Int))=some r/\(match r with|.inl r=>some (r == 0)|.inr b=>some b)=some (jZ ok ar n l):=by
  intro l
  induction l with
  |nil=>
   intro pre n he hn
   have:pre.length=e.length:=by rw [he];simp
   rw [bD,this,hs']
   refine ⟨_,rfl,?_⟩
   simp only [jZ,Option.some.injEq]
   by_cases h:n=0
   ·subst h;rfl
   ·have h1:((n:Int) == 0)=false:=by simp;omega
    have h2:(n == 0)=false:=by simp;omega
    rw [h1,h2]
  |cons x l ih=>
   intro pre n he hn
   rw [bD,hs pre x l n he hn]
   match n with
   |0=>exact ⟨_,rfl,rfl⟩
   |n+1=>
    rw [if_neg (by omega)]
    have hx:=har x
    by_cases ho:ok x=true
    ·rw [if_pos ho]
     obtain ⟨r,h1,h2⟩:=ih (pre++[x]) (n+ar x) (by rw [he];simp) (by simp;omega)
     refine ⟨r,?_,?_⟩
     ·rw [show ((pre++[x]).length:Int)=((pre.length+1:Nat):Int) by simp] at h1
      exact h1
     ·rw [h2];simp only [jZ,ho,Bool.true_and]
    ·rw [if_neg ho]
     refine ⟨_,rfl,?_⟩
     have:ok x=false:=by simpa using ho
     simp [jZ,this]
 exact aux e [] 1 rfl (by simp)
theorem aKe {ρ:Type} {step:Int × Int->Option ((Int × Int) ⊕ ρ)} {e:List β} {ar:β->Nat} (fin:Int->ρ)
  (hs:∀ pre x post (n:Nat),e=pre++x::post->n<=e.length->step ((pre.length:Int),((n+1:Nat):Int))=some (.inl (((pre.length+1:Nat):Int),((n+ar x:Nat):Int))))
  (hs':∀ k,step (k,0)=some (.inr (fin k))):∀ (m:Nat) (ts:List (GTr β)) (pre post:List β),(ts.flatMap GTr.flat).length=m->e=pre++ts.flatMap GTr.flat++post->(∀ t∈ts,t.WF ar)->loop step ((pre.length:Int),(ts.length:Int))=some (fin ((pre.length+(ts.flatMap GTr.flat).length:Nat):Int)):=by
 intro m
 have hN:∀ (x:β) (ts:List (GTr β)),((GTr.nul x::ts).flatMap GTr.flat).length=(ts.flatMap GTr.flat).length+1:=fun x ts=>by rw [List.flatMap_cons,List.length_append];simp only [GTr.flat,List.length_singleton];omega
 have hO:∀ (x:β) (a:GTr β) (ts:List (GTr β)),((GTr.one x a::ts).flatMap GTr.flat).length=((a::ts).flatMap GTr.flat).length+1:=fun x a ts=>by simp only [List.flatMap_cons,List.length_append,GTr.flat,List.length_cons];omega
 have hT:∀ (x:β) (a b:GTr β) (ts:List (GTr β)),((GTr.two x a b::ts).flatMap GTr.flat).length=((a::b::ts).flatMap GTr.flat).length+1:=fun x a b ts=>by simp only [List.flatMap_cons,List.length_append,GTr.flat,List.length_cons];omega
 have hlen:∀ ts:List (GTr β),ts.length<=(ts.flatMap GTr.flat).length:=by
  intro ts
  induction ts with
  |nil=>simp
  |cons t ts ih=>have:=t.flat_pos;rw [List.flatMap_cons,List.length_append,List.length_cons];omega
 induction m with
 |zero=>
  intro ts pre post hm he hw
  match ts with
  |[]=>rw [bD,show ((([]:List (GTr β)).length:Nat):Int)=0 from rfl,hs'];simp
  |t::ts=>have:=t.flat_pos;rw [List.flatMap_cons,List.length_append] at hm;omega
 |succ m ih=>
  intro ts pre post hm he hw
  match ts with
  |[]=>simp at hm
  |t::ts=>
   have hln:=hlen ts
   have htw:=hw t (by simp)
   have e0:∀ x:β,((pre++[x]).length:Int)=((pre.length+1:Nat):Int):=fun x=>by simp
   have e1:∀ x:β,(pre++[x]).length=pre.length+1:=fun x=>by simp
   match t with
   |.nul x=>
    have ha:ar x=0:=htw
    have hx:e=pre++x::(ts.flatMap GTr.flat++post):=by rw [he];simp [GTr.flat]
    have hle:ts.length<=e.length:=by rw [hx,List.length_append,List.length_cons,List.length_append];omega
    rw [hN] at hm ⊢
    have:=ih ts (pre++[x]) post (by omega) (by rw [hx];simp) (fun t ht=>hw t (List.mem_cons_of_mem _ ht))
    rw [e0,e1] at this
    rw [bD,List.length_cons,hs pre x _ ts.length hx hle,ha]
    show loop step (((pre.length+1:Nat):Int),(ts.length:Int))=_
    rw [this]
    congr 2;omega
   |.one x a=>
    have ha:ar x=1:=htw.1
    have hx:e=pre++x::((a::ts).flatMap GTr.flat++post):=by rw [he];simp [GTr.flat]
    have hle:ts.length<=e.length:=by rw [hx,List.length_append,List.length_cons,List.length_append,List.flatMap_cons,List.length_append];omega
    rw [hO] at hm ⊢
    have:=ih (a::ts) (pre++[x]) post (by omega) (by rw [hx];simp) (fun t ht=>by
     rcases List.mem_cons.1 ht with rfl|ht
     ·exact htw.2
     ·exact hw t (List.mem_cons_of_mem _ ht))
    rw [e0,e1,List.length_cons] at this
    rw [bD,List.length_cons,hs pre x _ ts.length hx hle,ha]
    show loop step _=_
    rw [this]
    congr 2;omega
   |.two x a b=>
    have ha:ar x=2:=htw.1
    have hx:e=pre++x::((a::b::ts).flatMap GTr.flat++post):=by rw [he];simp [GTr.flat]
    have hle:ts.length<=e.length:=by rw [hx,List.length_append,List.length_cons,List.length_append,List.flatMap_cons,List.length_append,List.flatMap_cons,List.length_append];omega
    rw [hT] at hm ⊢
    have:=ih (a::b::ts) (pre++[x]) post (by omega) (by rw [hx];simp) (fun t ht=>by
     rcases List.mem_cons.1 ht with rfl|ht
     ·exact htw.2.1
     ·rcases List.mem_cons.1 ht with rfl|ht
      ·exact htw.2.2
      ·exact hw t (List.mem_cons_of_mem _ ht))
    rw [e0,e1,List.length_cons,List.length_cons] at this
    rw [bD,List.length_cons,hs pre x _ ts.length hx hle,ha]
    show loop step _=_
    rw [show ts.length+2=ts.length+1+1 from rfl,this]
    congr 2;omega
end
def sG (v:Int) (t:aR):Bool:=if t.Kind == 0 then vG t.Value else if t.Kind == 1 then decide (0<=t.Value)&&decide (t.Value<=v - 1) else if t.Kind == 2 then decide (0<=t.Value)&&decide (t.Value<=8) else t.Kind == 3&&t.Value == 0
def arT (t:aR):Nat:=if t.Kind == 2 then 2 else if t.Kind == 3 then 1 else 0
theorem aNp (t:aR):arT t<=2:=by unfold arT;split<;>(try split)<;>omega
theorem aRz (t:aR) {v:Int} (hv:wr (v - 1)=v - 1):aGY t v=some (sG v t):=by
 unfold aGY sG vG
 simp only [oU,hv,aA]
 by_cases h0:(t.Kind == 0)=true
 ·simp [h0]
 by_cases h1:(t.Kind == 1)=true
 ·simp [h0,h1]
 by_cases h2:(t.Kind == 2)=true
 ·simp [h0,h1,h2]
 by_cases h3:(t.Kind == 3)=true
 ·simp [h0,h1,h2,h3]
 ·simp [h0,h1,h2,h3]
theorem aRA (n:Int):aBC n=some (vG n):=by unfold aBC vG;rw [fC,aA]
theorem aOd (t:aR) {v:Int} (hv:wr (v - 1)=v - 1):aBt t v=some (sG v t):=by
 unfold aBt sG
 simp only [fC,aRA,hv,aA]
 by_cases h0:(t.Kind == 0)=true
 ·simp [h0]
 by_cases h1:(t.Kind == 1)=true
 ·simp [h0,h1]
 by_cases h2:(t.Kind == 2)=true
 ·simp [h0,h1,h2]
 by_cases h3:(t.Kind == 3)=true
 ·simp [h0,h1,h2,h3]
 ·simp [h0,h1,h2,h3]
theorem aLl (t:aR):aER t=some (arT t:Int):=by
 unfold aER arT
 split
 ·rfl
 ·split<;>rfl
theorem aBA (t:aR):uC t=some (arT t:Int):=aLl t
theorem aFo {n a:Nat} (h:n≠0) (hn:n < 4611686018427387904) (ha:a<=2):wr ((n:Int)+wr ((a:Int) - 1))=((n - 1+a:Nat):Int):=by unfold wr;omega
theorem l03Is_eq (e:List aR) {v m:Int} (hv:wr (v - 1)=v - 1) (hl:e.length < 1000000000):aJm e v m=some (decide ((e.length:Int)<=m)&&jZ (sG v) arT 1 e):=by
 unfold aJm
 by_cases h:m < (e.length:Int)
 ·rw [if_pos (by simpa using h)]
  have:decide ((e.length:Int)<=m)=false:=by simp;omega
  simp [this]
 ·rw [if_neg (by simpa using h)]
  have hm:decide ((e.length:Int)<=m)=true:=by simp;omega
  have key:=aEq (step:=fun s=>aCi e v s.1 s.2) (e:=e) (ok:=sG v) (ar:=arT) aNp (fun pre x post n he hn=>?_) (fun n=>?_)
  ·obtain ⟨r,h1,h2⟩:=key
   rw [h1,aA,hm,Bool.true_and,←h2]
   first|done|(cases r<;>rfl)
  ·have hp:pre.length < e.length:=by rw [he];simp
   have hi:ix e (pre.length:Int)=some x:=by rw [dQ,he];simp
   have ha:=aNp x
   simp only [aCi,aES,bV hp,if_true,hi,aA,aRz x hv,aLl]
   by_cases h0:n=0
   ·subst h0;rfl
   ·have h0':((n:Int) == 0)=false:=by simp;omega
    rw [if_neg (by simp [h0']),if_neg h0,aFo h0 (by omega) ha,bO hp (by omega)]
    cases sG v x<;>rfl
  ·simp only [aCi,bL];rfl
theorem aOe (e:List aR) {v m:Int} (hv:0<=v) (hv2:v<=29) (hm:1<=m) (hm2:m<=60) (hl:e.length < 1000000000):wW e v m=some (decide ((e.length:Int)<=m)&&jZ (sG v) arT 1 e):=by
 have hw:wr (v - 1)=v - 1:=dW (by omega) (by omega)
 unfold wW
 rw [fC,aA,if_neg (by simp;omega),fC,aA,if_neg (by simp;omega),fC,aA]
 unfold lM
 by_cases hb:(1<=(e.length:Int))/\(e.length:Int)<=m
 ·rw [if_neg (by simp;omega)]
  have hd:decide ((e.length:Int)<=m)=true:=by simp;omega
  have key:=aEq (step:=fun s=>oR e v s.1 s.2) (e:=e) (ok:=sG v) (ar:=arT) aNp (fun pre x post n he hn=>?_) (fun n=>?_)
  ·obtain ⟨r,h1,h2⟩:=key
   rw [h1,aA,hd,Bool.true_and,←h2]
   first|done|(cases r<;>rfl)
  ·have hp:pre.length < e.length:=by rw [he];simp
   have hi:ix e (pre.length:Int)=some x:=by rw [dQ,he];simp
   have ha:=aNp x
   simp only [oR,uD,bV hp,if_true,hi,aA,aOd x hw,aBA]
   by_cases h0:n=0
   ·subst h0;rfl
   ·have h0':((n:Int) == 0)=false:=by simp;omega
    rw [if_neg (by simp [h0']),if_neg h0,aFo h0 (by omega) ha,bO hp (by omega)]
    cases sG v x<;>rfl
  ·simp only [oR,bL];rfl
 ·rw [if_pos (by simp;omega)]
  by_cases h2:(e.length:Int)<=m
  ·have:e=[]:=List.length_eq_zero_iff.1 (by omega)
   subst this
   simp [jZ]
  ·simp [h2]
def trT:GTr aR->Tr aR
 |.nul t=>.mk t []
 |.one t a=>.mk t [trT a]
 |.two t a b=>.mk t [trT a,trT b]
section
variable {vs:List Int} (hvs:vs.all vG=true)
include hvs
theorem aQv:∀ (t:GTr aR) (m:Nat) (post:List aR),t.flat.length<=m->(t.flat++post).length < 1000000000->t.WF arT->(∀ x∈t.flat,sG (vs.length:Int) x=true)->kN m (t.flat++post)=some (trT t,post):=by
 intro t
 induction t with
 |nul t=>
  intro m post hm hl hw ho
  match m with
  |0=>simp [GTr.flat] at hm
  |m+1=>
   have hw:arT t=0:=hw
   have hs:slc (t::post) 1 ((t::post).length:Int)=some post:=by
    unfold slc
    rw [if_pos ⟨by omega,by simp;omega,by simp⟩]
    simp
   show kM (kN m) ([t]++post)=_
   unfold kM
   rw [List.singleton_append,show ix (t::post) 0=some t from rfl,aA,hs,aA,aBA,aA,hw,bD]
   rfl
 |one t a iha=>
  intro m post hm hl hw ho
  match m with
  |0=>simp [GTr.flat] at hm
  |m+1=>
   have h1:arT t=1:=hw.1
   have hs:slc (t::(a.flat++post)) 1 ((t::(a.flat++post)).length:Int)=some (a.flat++post):=by
    unfold slc
    rw [if_pos ⟨by omega,by simp;omega,by simp⟩,show ((1:Int)).toNat=1 from rfl,List.drop_succ_cons,List.drop_zero,List.take_of_length_le (by simp;omega)]
   have hl2:(a.flat++post).length < 1000000000:=by simp [GTr.flat] at hl ⊢;omega
   have ra:=iha m post (by simp [GTr.flat] at hm;omega) hl2 hw.2 (fun x hx=>ho x (by simp [GTr.flat,hx]))
   show kM (kN m) (t::a.flat++post)=_
   unfold kM
   rw [List.cons_append,show ix (t::(a.flat++post)) 0=some t from rfl,aA,hs,aA,aBA,aA,h1,bD]
   simp only [tN,ra,aA,fB (xs:=([]:List (Tr aR))) (ys:=[trT a]) (by unfold iK;simp),show decide ((0:Int) < ((1:Nat):Int))=true from rfl,if_true,show wr (0+1)=1 from rfl]
   rw [bD]
   rfl
 |two t a b iha ihb=>
  intro m post hm hl hw ho
  match m with
  |0=>simp [GTr.flat] at hm
  |m+1=>
   have h1:arT t=2:=hw.1
   have hs:slc (t::(a.flat++(b.flat++post))) 1 ((t::(a.flat++(b.flat++post))).length:Int)=some (a.flat++(b.flat++post)):=by
    unfold slc
    rw [if_pos ⟨by omega,by simp;omega,by simp⟩,show ((1:Int)).toNat=1 from rfl,List.drop_succ_cons,List.drop_zero,List.take_of_length_le (by simp;omega)]
   have hl2:(a.flat++(b.flat++post)).length < 1000000000:=by simp [GTr.flat] at hl ⊢;omega
   have ra:=iha m (b.flat++post) (by simp [GTr.flat] at hm;omega) hl2 hw.2.1 (fun x hx=>ho x (by simp [GTr.flat,hx]))
   have rb:=ihb m post (by simp [GTr.flat] at hm;omega) (by simp at hl2 ⊢;omega) hw.2.2 (fun x hx=>ho x (by simp [GTr.flat,hx]))
   show kM (kN m) (t::(a.flat++b.flat)++post)=_
   unfold kM
   rw [List.cons_append,List.append_assoc,show ix (t::(a.flat++(b.flat++post))) 0=some t from rfl,aA,hs,aA,aBA,aA,h1,bD]
   simp only [tN,ra,aA,fB (xs:=([]:List (Tr aR))) (ys:=[trT a]) (by unfold iK;simp),show decide ((0:Int) < ((2:Nat):Int))=true from rfl,if_true,show wr (0+1)=1 from rfl,List.nil_append]
   rw [bD]
   simp only [tN,rb,aA,fB (xs:=[trT a]) (ys:=[trT b]) (by unfold iK;simp),show decide ((1:Int) < ((2:Nat):Int))=true from rfl,if_true,show wr (1+1)=2 from rfl]
   rw [bD]
   rfl
end
def okE (v:Int) (e:List aR):Bool:=decide ((e.length:Int)<=15)&&jZ (sG v) arT 1 e
end Gv
namespace Gv
def fK (p:bG):Nat:=if p.Kind == 1||p.Kind == 3||p.Kind == 4 then 1 else if p.Kind == 2 then 2 else 0
theorem aKf (p:bG):fK p<=2:=by unfold fK;split<;>(try split)<;>omega
theorem aFp (p:bG):uY p=some (fK p:Int):=by
 unfold uY qQ fK
 by_cases h1:(p.Kind == 1)=true
 ·simp [h1]
 by_cases h3:(p.Kind == 3)=true
 ·simp [h1,h3]
 by_cases h4:(p.Kind == 4)=true
 ·simp [h1,h3,h4]
 by_cases h2:(p.Kind == 2)=true
 ·simp [h1,h3,h4,h2]
 ·simp [h1,h3,h4,h2]
theorem aCH (p:bG):tJ p=some (fK p:Int):=aFp p
def tt (_:bG):Bool:=true
theorem aQw {α:Type} {ok:α->Bool} {ar:α->Nat}:∀ {l:List α} {n:Nat},jZ ok ar n l=true->n<=l.length
 |[],n,h=>by simp [jZ] at h;omega
 |x::l,0,_=>Nat.zero_le _
 |x::l,n+1,h=>by
  simp only [jZ,Bool.and_eq_true] at h
  have:=aQw h.2
  rw [List.length_cons];omega
theorem aOE (b:List bG) (hl:b.length < 1000000000):aCh b=some (decide (b.length<=20)&&jZ tt fK 1 b):=by
 unfold aCh
 by_cases h0:b=[]
 ·subst h0;rfl
 have hb:0 < b.length:=by cases b with|nil=>exact absurd rfl h0|cons _ _=>simp
 rw [if_neg (by simp;exact h0)]
 unfold sU
 by_cases h20:20 < b.length
 ·rw [if_pos (by simp;omega)]
  have:decide (b.length<=20)=false:=by simp;omega
  rw [this];rfl
 ·rw [if_neg (by simp;omega)]
  have hd:decide (b.length<=20)=true:=by simp;omega
  have key:=aEq (step:=fun s=>zM b s.1 s.2) (e:=b) (ok:=tt) (ar:=fK) aKf (fun pre x post n he hn=>?_) (fun n=>?_)
  ·obtain ⟨r,h1,h2⟩:=key
   rw [h1,aA,hd,Bool.true_and,←h2]
   first|done|(cases r<;>rfl)
  ·have hp:pre.length < b.length:=by rw [he];simp
   have hi:ix b (pre.length:Int)=some x:=by rw [dQ,he];simp
   have ha:=aKf x
   simp only [zM,bV hp,if_true,hi,aA,aFp,tt]
   by_cases h0:n=0
   ·subst h0;rfl
   ·have h0':((n:Int) == 0)=false:=by simp;omega
    rw [if_neg (by simp [h0']),if_neg h0,aFo h0 (by omega) ha,bO hp (by omega)]
  ·simp only [zM,bL];rfl
def aKg:Nat->List bG->Option Nat
 |0,_=>some 0
 |_+1,[]=>none
 |n+1,p::l=>(aKg (n+fK p) l).map (·+1)
theorem aOF:∀ (l:List bG) (n:Nat),jZ tt fK n l=decide (aKg n l=some l.length)
 |[],0=>by simp [jZ,aKg]
 |[],n+1=>by simp [jZ,aKg]
 |x::l,0=>by simp [jZ,aKg]
 |x::l,n+1=>by
  rw [show jZ tt fK (n+1) (x::l)=jZ tt fK (n+fK x) l from rfl,aOF l (n+fK x),show aKg (n+1) (x::l)=(aKg (n+fK x) l).map (·+1) from rfl]
  generalize aKg (n+fK x) l=o
  cases o with
  |none=>simp
  |some k=>simp
theorem end_any {d:Definition} (hl:d.Body.length < 1000000000):∀ (l pre:List bG) (n:Nat),d.Body=pre++l->n<=2 * pre.length+1->
  (ob (loop (fun s=>gL d s.1 s.2) ((pre.length:Int),(n:Int))) fun r=>match r with|.inl r=>mJ r|.inr r=>some r)=some (match aKg n l with|some k=>((pre.length+k:Nat):Int)|none=>-1):=by
 intro l
 induction l with
 |nil=>
  intro pre n he hn
  rw [bD]
  match n with
  |0=>rfl
  |n+1=>
   have hp:pre.length=d.Body.length:=by rw [he];simp
   simp only [gL,aKg,hp]
   rw [if_pos (by simp<;>omega),if_pos (by simp)]
   rfl
 |cons x l ih=>
  intro pre n he hn
  match n with
  |0=>rw [fJ (r:=.inl (pre.length:Int)) rfl];rfl
  |n+1=>
   have hp:pre.length < d.Body.length:=by rw [he];simp
   have hi:ix d.Body (pre.length:Int)=some x:=by rw [dQ,he];simp
   have ha:=aKf x
   have h2:wr (((n+1:Nat):Int)+wr ((fK x:Int) - 1))=((n+fK x:Nat):Int):=by unfold wr;omega
   have h3:decide ((d.Body.length:Int)<=(pre.length:Int))=false:=by simp;omega
   have h4:decide ((0:Int) < ((n+1:Nat):Int))=true:=by simp<;>omega
   have hst:gL d (pre.length:Int) ((n+1:Nat):Int)=some (.inl (((pre.length+1:Nat):Int),((n+fK x:Nat):Int))):=by
    simp only [gL,h3,h4,if_true,Bool.false_eq_true,if_false,hi,aA,aCH,h2,bO hp (show d.Body.length < 4611686018427387904 by omega)]
   have:=ih (pre++[x]) (n+fK x) (by rw [he];simp) (by simp;omega)
   rw [show ((pre++[x]).length:Int)=((pre.length+1:Nat):Int) by simp,show (pre++[x]).length=pre.length+1 by simp] at this
   rw [oF hst,this,show aKg (n+1) (x::l)=(aKg (n+fK x) l).map (·+1) from rfl]
   generalize aKg (n+fK x) l=o
   cases o with
   |none=>rfl
   |some k=>simp only [Option.map_some];congr 2;omega
theorem aQx {d:Definition} (hl:d.Body.length < 1000000000):∃ r,kV d 0=some r/\(r != (d.Body.length:Int))=!jZ tt fK 1 d.Body:=by
 have:=end_any hl d.Body [] 1 rfl (by simp)
 refine ⟨_,this,?_⟩
 rw [aOF]
 generalize aKg 1 d.Body=o
 cases o with
 |none=>simp<;>omega
 |some k=>
  simp only [Nat.zero_add,List.length_nil,Option.some.injEq]
  by_cases hk:k=d.Body.length
  ·simp [hk]
  ·have h1:((k:Int) != (d.Body.length:Int))=true:=by simp;omega
   rw [h1];simp [hk]
theorem end_at {d:Definition} (hl:d.Body.length < 1000000000) (t:GTr bG) (pre post:List bG) (he:d.Body=pre++t.flat++post) (hw:t.WF fK):kV d (pre.length:Int)=some ((pre.length+t.flat.length:Nat):Int)/\aGo d.Body (pre.length:Int)=some ((pre.length+t.flat.length:Nat):Int):=by
 have hwr:∀ (n:Nat) (x:bG),n<=d.Body.length->wr (((n+1:Nat):Int)+wr ((fK x:Int) - 1))=((n+fK x:Nat):Int):=fun n x h=>by have:=aKf x;unfold wr;omega
 constructor
 ·unfold kV
  have:=aKe (step:=fun s=>gL d s.1 s.2) (e:=d.Body) (ar:=fK) (fun k=>(.inl k:Int ⊕ Int)) (fun pre x post n he hn=>?_) (fun k=>?_) _ [t] pre post rfl (by simpa using he) (by simpa using hw)
  ·simp only [List.length_singleton,Int.natCast_one] at this
   rw [this]
   simp [mJ]
  ·have hp:pre.length < d.Body.length:=by rw [he];simp
   have hi:ix d.Body (pre.length:Int)=some x:=by rw [dQ,he];simp
   have h3:decide ((d.Body.length:Int)<=(pre.length:Int))=false:=by simp;omega
   simp only [gL,hi,aA,aCH,hwr n x hn,bO hp (show d.Body.length < 4611686018427387904 by omega)]
   rw [if_pos (by simp<;>omega),h3]
   rfl
  ·rfl
 ·unfold aGo
  have:=aKe (step:=fun s=>aGn d.Body s.1 s.2) (e:=d.Body) (ar:=fK) (fun k=>k) (fun pre x post n he hn=>?_) (fun k=>?_) _ [t] pre post rfl (by simpa using he) (by simpa using hw)
  ·simp only [List.length_singleton,Int.natCast_one] at this
   rw [this]
   simp [aGm]
  ·have hp:pre.length < d.Body.length:=by rw [he];simp
   have hi:ix d.Body (pre.length:Int)=some x:=by rw [dQ,he];simp
   simp only [aGn,hi,aA,aFp,hwr n x hn,bO hp (show d.Body.length < 4611686018427387904 by omega)]
   rw [if_pos (by simp<;>omega)]
  ·rfl
def bel (s:Int) (p:bG):Int:=if p.Kind == 4 then s+1 else s
def plT (s:Int) (b:Bool):GTr bG->List dH
 |.nul _=>[⟨s,b⟩]
 |.one p a=>⟨s,b⟩::plT (bel s p) (p.Kind == 1) a
 |.two p a c=>⟨s,b⟩::(plT (bel s p) (p.Kind == 1) a++plT (bel s p) (p.Kind == 1) c)
theorem oG:∀ (t:GTr bG) (s:Int) (b:Bool),(plT s b t).length=t.flat.length
 |.nul _,_,_=>rfl
 |.one p a,s,b=>by simp only [plT,GTr.flat,List.length_cons,oG a]
 |.two p a c,s,b=>by simp only [plT,GTr.flat,List.length_cons,List.length_append,oG a,oG c]
theorem aKM (s:Int) (p:bG):s<=bel s p/\bel s p<=s+1:=by unfold bel;split<;>omega
theorem fill_eq {d:Definition} (hl:d.Body.length < 1000000000):∀ (t:GTr bG) (m:Nat) (s:Int) (b:Bool) (pre post:List bG) (X old Y:List dH),d.Body=pre++t.flat++post->X.length=pre.length->old.length=t.flat.length->t.flat.length<=m->t.WF fK->0<=s->s<=1000000000 - t.flat.length->
  cH m (pre.length:Int) ⟨s,b⟩ (X++old++Y) d d=some (((pre.length+t.flat.length:Nat):Int),X++plT s b t++Y):=by
 intro t
 induction t with
 |nul p=>
  intro m s b pre post X old Y he hX ho hm hw h0 hs
  match m with
  |0=>simp [GTr.flat] at hm
  |m+1=>
   have hw:fK p=0:=hw
   match old,ho with
   |[o],_=>
    have hi:ix d.Body (pre.length:Int)=some p:=by rw [dQ,he];simp [GTr.flat]
    have hix:ix (X++[o]++Y) (pre.length:Int)=some o:=by rw [dQ,←hX];simp
    have hst:st (X++[o]++Y) (pre.length:Int) (⟨s,b⟩:dH)=some (X++[⟨s,b⟩]++Y):=by rw [←hX,aDu _ (by simp)];simp
    have hp:pre.length < d.Body.length:=by rw [he];simp [GTr.flat]
    show dP (cH m) _ _ _ _ _=_
    unfold dP
    simp only [hix,aA,hst,hi]
    have hj:∀ z:Int,cV (cH m) (pre.length:Int) d (X++[⟨s,b⟩]++Y) p z=some (((pre.length+1:Nat):Int),X++[⟨s,b⟩]++Y):=fun z=>by
     unfold cV
     rw [aCH,aA,hw,bO hp (by omega),bD]
     rfl
    split
    ·exact hj _
    ·exact hj _
 |one p a iha=>
  intro m s b pre post X old Y he hX ho hm hw h0 hs
  match m with
  |0=>simp [GTr.flat] at hm
  |m+1=>
   have hw1:fK p=1:=hw.1
   simp only [GTr.flat,List.length_cons] at ho hm hs
   match old,ho with
   |o::old,ho=>
    simp only [List.length_cons] at ho
    have hb:=aKM s p
    have hi:ix d.Body (pre.length:Int)=some p:=by rw [dQ,he];simp [GTr.flat]
    have hix:ix (X++(o::old)++Y) (pre.length:Int)=some o:=by rw [dQ,←hX];simp
    have hst:st (X++(o::old)++Y) (pre.length:Int) (⟨s,b⟩:dH)=some ((X++[⟨s,b⟩])++old++Y):=by rw [←hX,aDu _ (by simp)];simp
    have hp:pre.length < d.Body.length:=by rw [he];simp [GTr.flat]
    have ra:=iha m (bel s p) (p.Kind == 1) (pre++[p]) post (X++[⟨s,b⟩]) old Y (by rw [he];simp [GTr.flat]) (by simp [hX]) (by omega) (by omega) hw.2 (by omega) (by omega)
    rw [show ((pre++[p]).length:Int)=((pre.length+1:Nat):Int) by simp,show (pre++[p]).length=pre.length+1 by simp] at ra
    show dP (cH m) _ _ _ _ _=_
    unfold dP
    simp only [hix,aA,hst,hi]
    have hj:cV (cH m) (pre.length:Int) d ((X++[⟨s,b⟩])++old++Y) p (bel s p)=some (((pre.length+(GTr.one p a).flat.length:Nat):Int),X++plT s b (.one p a)++Y):=by
     unfold cV
     rw [aCH,aA,hw1,bO hp (by omega),bD]
     simp only [eV,show decide ((0:Int) < ((1:Nat):Int))=true from rfl,if_true,ra,aA,show wr (0+1)=1 from rfl]
     rw [bD]
     simp only [eV,show decide ((1:Int) < ((1:Nat):Int))=false from rfl,Bool.false_eq_true,if_false,aA,iR,plT,GTr.flat,List.length_cons]
     simp;omega
    split
    ·rename_i h4
     rw [dW (by omega) (by omega),show s+1=bel s p by simp [bel,h4]]
     exact hj
    ·rename_i h4
     have:bel s p=s:=by unfold bel;rw [if_neg h4]
     rw [this] at hj
     exact hj
 |two p a c iha ihc=>
  intro m s b pre post X old Y he hX ho hm hw h0 hs
  match m with
  |0=>simp [GTr.flat] at hm
  |m+1=>
   have hw1:fK p=2:=hw.1
   simp only [GTr.flat,List.length_cons,List.length_append] at ho hm hs
   match old,ho with
   |o::old,ho=>
    simp only [List.length_cons] at ho
    have hb:=aKM s p
    have ho1:old=old.take a.flat.length++old.drop a.flat.length:=(List.take_append_drop _ _).symm
    have hi:ix d.Body (pre.length:Int)=some p:=by rw [dQ,he];simp [GTr.flat]
    have hix:ix (X++(o::old)++Y) (pre.length:Int)=some o:=by rw [dQ,←hX];simp
    have hst:st (X++(o::old)++Y) (pre.length:Int) (⟨s,b⟩:dH)=some ((X++[⟨s,b⟩])++old++Y):=by rw [←hX,aDu _ (by simp)];simp
    have hp:pre.length < d.Body.length:=by rw [he];simp [GTr.flat]
    have ra:=iha m (bel s p) (p.Kind == 1) (pre++[p]) (c.flat++post) (X++[⟨s,b⟩]) (old.take a.flat.length) (old.drop a.flat.length++Y) (by rw [he];simp [GTr.flat]) (by simp [hX]) (by rw [List.length_take];omega) (by omega) hw.2.1 (by omega) (by omega)
    have rc:=ihc m (bel s p) (p.Kind == 1) (pre++[p]++a.flat) post (X++[⟨s,b⟩]++plT (bel s p) (p.Kind == 1) a) (old.drop a.flat.length) Y (by rw [he];simp [GTr.flat]) (by simp [hX,oG]) (by rw [List.length_drop];omega) (by omega) hw.2.2 (by omega) (by omega)
    rw [show ((pre++[p]).length:Int)=((pre.length+1:Nat):Int) by simp,show (pre++[p]).length=pre.length+1 by simp] at ra
    rw [show (pre++[p]++a.flat).length=pre.length+1+a.flat.length by simp;omega] at rc
    have hold:(X++[⟨s,b⟩])++old++Y=(X++[⟨s,b⟩])++old.take a.flat.length++(old.drop a.flat.length++Y):=by
     have:old++Y=old.take a.flat.length++(old.drop a.flat.length++Y):=by rw [←List.append_assoc,List.take_append_drop]
     rw [List.append_assoc,this,List.append_assoc]
     simp
    rw [←List.append_assoc] at ra
    show dP (cH m) _ _ _ _ _=_
    unfold dP
    simp only [hix,aA,hst,hi]
    have hj:cV (cH m) (pre.length:Int) d ((X++[⟨s,b⟩])++old++Y) p (bel s p)=some (((pre.length+(GTr.two p a c).flat.length:Nat):Int),X++plT s b (.two p a c)++Y):=by
     unfold cV
     rw [aCH,aA,hw1,bO hp (by omega),bD,hold]
     simp only [eV,show decide ((0:Int) < ((2:Nat):Int))=true from rfl,if_true]
     rw [←List.append_assoc,ra,aA]
     simp only [show wr (0+1)=1 from rfl]
     rw [bD]
     simp only [eV,show decide ((1:Int) < ((2:Nat):Int))=true from rfl,if_true]
     rw [←List.append_assoc,rc,aA]
     simp only [show wr (1+1)=2 from rfl]
     rw [bD]
     simp only [eV,show decide ((2:Int) < ((2:Nat):Int))=false from rfl,Bool.false_eq_true,if_false,aA,iR,plT,GTr.flat,List.length_cons,List.length_append]
     simp;omega
    split
    ·rename_i h4
     rw [dW (by omega) (by omega),show s+1=bel s p by simp [bel,h4]]
     exact hj
    ·rename_i h4
     have:bel s p=s:=by unfold bel;rw [if_neg h4]
     rw [this] at hj
     exact hj
theorem placesG {d:Definition} {t:GTr bG} (he:d.Body=t.flat) (hw:t.WF fK) (hl:d.Body.length<=20) (h0:0<=d.Parameters) (h1:d.Parameters<=3):kD d=some (plT d.Parameters false t):=by
 unfold kD nZ
 rw [aNa _ (by unfold iK;omega),aA]
 have:=fill_eq (d:=d) (by omega) t 100000 d.Parameters false [] [] [] (List.replicate d.Body.length ⟨0,false⟩) [] (by rw [he];simp) rfl (by rw [List.length_replicate,he]) (by rw [←he];omega) hw h0 (by rw [←he];omega)
 simp only [List.length_nil,List.nil_append,List.append_nil] at this
 rw [show ((0:Nat):Int)=0 from rfl] at this
 rw [this,aA]
section
variable {d:Definition} {part:Int} (hl:d.Body.length < 1000000000)
include hl
theorem aCI (t:GTr bG) (p:bG) (rest pre post:List bG) (out:Int) (he:d.Body=pre++t.flat++post) (hp:t.flat=p::rest) (hw:t.WF fK) (hlt:(pre.length:Int) < part) (ho:wr (out+1)=out+1):
  jG d part out (pre.length:Int)=some (.inl (if p.Kind == 4&&decide (part < ((pre.length+t.flat.length:Nat):Int)) then out+1 else out,((pre.length+1:Nat):Int))):=by
 have hi:ix d.Body (pre.length:Int)=some p:=by rw [dQ,he,hp];simp
 have hpl:pre.length < d.Body.length:=by rw [he,hp];simp
 unfold jG
 rw [if_pos (by simpa using hlt),hi,aA]
 unfold zN sV
 rw [bO hpl (by omega)]
 by_cases h4:(p.Kind == 4)=true
 ·rw [if_pos h4,(end_at hl t pre post he hw).2,aA,h4,Bool.true_and,ho]
  split<;>rfl
 ·rw [if_neg h4]
  have:(p.Kind == 4)=false:=by simpa using h4
  rw [this]
  rfl
theorem scope_seg:∀ (t:GTr bG) (pre post:List bG) (out:Int),d.Body=pre++t.flat++post->t.WF fK->((pre.length+t.flat.length:Nat):Int)<=part->wr (out+1)=out+1->
  loop (fun s=>jG d part s.1 s.2) (out,(pre.length:Int))=loop (fun s=>jG d part s.1 s.2) (out,((pre.length+t.flat.length:Nat):Int)):=by
 intro t
 induction t with
 |nul p=>
  intro pre post out he hw hle ho
  rw [oF (aCI hl (.nul p) p [] pre post out he rfl hw (by simp [GTr.flat] at hle;omega) ho),if_neg (by simp only [Bool.and_eq_true,decide_eq_true_eq];omega)]
  rfl
 |one p a iha=>
  intro pre post out he hw hle ho
  rw [oF (aCI hl (.one p a) p a.flat pre post out he rfl hw (by simp [GTr.flat] at hle;omega) ho),if_neg (by simp only [Bool.and_eq_true,decide_eq_true_eq];omega)]
  have:=iha (pre++[p]) post out (by rw [he];simp [GTr.flat]) hw.2 (by simp [GTr.flat] at hle ⊢;omega) ho
  rw [show ((pre++[p]).length:Int)=((pre.length+1:Nat):Int) by simp,show (pre++[p]).length=pre.length+1 by simp] at this
  rw [this]
  congr 2
  simp [GTr.flat];omega
 |two p a c iha ihc=>
  intro pre post out he hw hle ho
  rw [oF (aCI hl (.two p a c) p (a.flat++c.flat) pre post out he rfl hw (by simp [GTr.flat] at hle;omega) ho),if_neg (by simp only [Bool.and_eq_true,decide_eq_true_eq];omega)]
  have h1:=iha (pre++[p]) (c.flat++post) out (by rw [he];simp [GTr.flat]) hw.2.1 (by simp [GTr.flat] at hle ⊢;omega) ho
  have h2:=ihc (pre++[p]++a.flat) post out (by rw [he];simp [GTr.flat]) hw.2.2 (by simp [GTr.flat] at hle ⊢;omega) ho
  rw [show ((pre++[p]).length:Int)=((pre.length+1:Nat):Int) by simp,show (pre++[p]).length=pre.length+1 by simp] at h1
  rw [show (pre++[p]++a.flat).length=pre.length+1+a.flat.length by simp;omega] at h2
  rw [h1,h2]
  congr 2
  simp [GTr.flat];omega
theorem scope_at:∀ (t:GTr bG) (pre post:List bG) (s:Int) (b:Bool) (i:Nat) (pl:dH),d.Body=pre++t.flat++post->t.WF fK->0<=s->s<=1000000000 - t.flat.length->(plT s b t)[i]?=some pl->part=((pre.length+i:Nat):Int)->
  loop (fun s=>jG d part s.1 s.2) (s,(pre.length:Int))=some pl.scope:=by
 intro t
 have stop:∀ s:Int,loop (fun s=>jG d part s.1 s.2) (s,part)=some s:=fun s=>by
  rw [bD]
  unfold jG
  rw [if_neg (by simp)]
 induction t with
 |nul p=>
  intro pre post s b i pl he hw h0 hs hpl hpt
  match i with
  |0=>
   simp only [plT,List.getElem?_cons_zero,Option.some.injEq] at hpl
   subst hpl
   rw [Nat.add_zero] at hpt
   rw [←hpt];exact stop s
  |i+1=>simp [plT] at hpl
 |one p a iha=>
  intro pre post s b i pl he hw h0 hs hpl hpt
  match i with
  |0=>
   simp only [plT,List.getElem?_cons_zero,Option.some.injEq] at hpl
   subst hpl
   rw [Nat.add_zero] at hpt
   rw [←hpt];exact stop s
  |i+1=>
   simp only [plT,List.getElem?_cons_succ] at hpl
   have hi:i < a.flat.length:=by have:=(List.getElem?_eq_some_iff.1 hpl).1;rwa [oG] at this
   have hsz:(GTr.one p a).flat.length=a.flat.length+1:=rfl
   have hb:=aKM s p
   rw [oF (aCI hl (.one p a) p a.flat pre post s he rfl hw (by omega) (dW (by omega) (by omega)))]
   have e:(if (p.Kind == 4&&decide (part < ((pre.length+(GTr.one p a).flat.length:Nat):Int)))=true then s+1 else s)=bel s p:=by
    have:decide (part < ((pre.length+(GTr.one p a).flat.length:Nat):Int))=true:=by rw [hsz];simp;omega
    rw [this,Bool.and_true];rfl
   rw [e]
   have:=iha (pre++[p]) post (bel s p) (p.Kind == 1) i pl (by rw [he];simp [GTr.flat]) hw.2 (by omega) (by omega) hpl (by rw [hpt];simp;omega)
   rw [show ((pre++[p]).length:Int)=((pre.length+1:Nat):Int) by simp] at this
   exact this
 |two p a c iha ihc=>
  intro pre post s b i pl he hw h0 hs hpl hpt
  match i with
  |0=>
   simp only [plT,List.getElem?_cons_zero,Option.some.injEq] at hpl
   subst hpl
   rw [Nat.add_zero] at hpt
   rw [←hpt];exact stop s
  |i+1=>
   simp only [plT,List.getElem?_cons_succ] at hpl
   have hi:i < a.flat.length+c.flat.length:=by have:=(List.getElem?_eq_some_iff.1 hpl).1;rwa [List.length_append,oG,oG] at this
   have hsz:(GTr.two p a c).flat.length=a.flat.length+c.flat.length+1:=by simp [GTr.flat]
   have hb:=aKM s p
   rw [oF (aCI hl (.two p a c) p (a.flat++c.flat) pre post s he rfl hw (by omega) (dW (by omega) (by omega)))]
   have e:(if (p.Kind == 4&&decide (part < ((pre.length+(GTr.two p a c).flat.length:Nat):Int)))=true then s+1 else s)=bel s p:=by
    have:decide (part < ((pre.length+(GTr.two p a c).flat.length:Nat):Int))=true:=by rw [hsz];simp;omega
    rw [this,Bool.and_true];rfl
   rw [e]
   by_cases hia:i < a.flat.length
   ·rw [List.getElem?_append_left (by rw [oG];exact hia)] at hpl
    have:=iha (pre++[p]) (c.flat++post) (bel s p) (p.Kind == 1) i pl (by rw [he];simp [GTr.flat]) hw.2.1 (by omega) (by omega) hpl (by rw [hpt];simp;omega)
    rw [show ((pre++[p]).length:Int)=((pre.length+1:Nat):Int) by simp] at this
    exact this
   ·rw [List.getElem?_append_right (by rw [oG];omega),oG] at hpl
    have h1:=scope_seg hl (part:=part) a (pre++[p]) (c.flat++post) (bel s p) (by rw [he];simp [GTr.flat]) hw.2.1 (by rw [hpt];simp;omega) (dW (by omega) (by omega))
    have h2:=ihc (pre++[p]++a.flat) post (bel s p) (p.Kind == 1) (i - a.flat.length) pl (by rw [he];simp [GTr.flat]) hw.2.2 (by omega) (by omega) hpl (by rw [hpt];simp;omega)
    rw [show ((pre++[p]).length:Int)=((pre.length+1:Nat):Int) by simp,show (pre++[p]).length=pre.length+1 by simp] at h1
    rw [show (pre++[p]++a.flat).length=pre.length+1+a.flat.length by simp;omega] at h2
    rw [h1];exact h2
end
theorem scope_eq {d:Definition} {t:GTr bG} (he:d.Body=t.flat) (hw:t.WF fK) (hl:d.Body.length<=20) (h0:0<=d.Parameters) (h1:d.Parameters<=3) {i:Nat} {pl:dH} (hpl:(plT d.Parameters false t)[i]?=some pl):yF d (i:Int)=some pl.scope:=by
 unfold yF
 have:=scope_at (d:=d) (part:=(i:Int)) (by omega) t [] [] d.Parameters false i pl (by rw [he];simp) hw h0 (by rw [←he];omega) hpl (by simp)
 simp only [List.length_nil] at this
 rw [show ((0:Nat):Int)=0 from rfl] at this
 rw [this];rfl
theorem aKN:∀ (t:GTr bG),t.WF fK->∃ l x,t.flat=l++[x]/\fK x=0
 |.nul p,hw=>⟨[],p,rfl,hw⟩
 |.one p a,hw=>by
  obtain ⟨l,x,h1,h2⟩:=aKN a hw.2
  exact ⟨p::l,x,by simp [GTr.flat,h1],h2⟩
 |.two p a c,hw=>by
  obtain ⟨l,x,h1,h2⟩:=aKN c hw.2.2
  exact ⟨p::(a.flat++l),x,by simp [GTr.flat,h1],h2⟩
theorem aEr {p:bG}:(p.Kind=1->fK p=1)/\(fK p=2->p.Kind=2):=by
 unfold fK
 constructor
 ·intro h;simp [h]
 ·intro h
  by_cases h1:(p.Kind == 1||p.Kind == 3||p.Kind == 4)=true
  ·rw [if_pos h1] at h;omega
  ·rw [if_neg h1] at h
   by_cases h2:(p.Kind == 2)=true
   ·simpa using h2
   ·rw [if_neg h2] at h;omega
theorem behind_eq:∀ (t:GTr bG) (s:Int) (b:Bool) (i:Nat) (pl:dH),t.WF fK->(plT s b t)[i]?=some pl->pl.behind=if i=0 then b else match t.flat[i - 1]? with|some q=>q.Kind == 1|none=>false:=by
 intro t
 induction t with
 |nul p=>
  intro s b i pl hw h
  match i with
  |0=>simp only [plT,List.getElem?_cons_zero,Option.some.injEq] at h;subst h;rfl
  |i+1=>simp [plT] at h
 |one p a iha=>
  intro s b i pl hw h
  match i with
  |0=>simp only [plT,List.getElem?_cons_zero,Option.some.injEq] at h;subst h;rfl
  |i+1=>
   simp only [plT,List.getElem?_cons_succ] at h
   have:=iha _ _ i pl hw.2 h
   rw [this,if_neg (Nat.succ_ne_zero i),Nat.add_sub_cancel]
   match i with
   |0=>simp [GTr.flat]
   |i+1=>simp [GTr.flat]
 |two p a c iha ihc=>
  intro s b i pl hw h
  match i with
  |0=>simp only [plT,List.getElem?_cons_zero,Option.some.injEq] at h;subst h;rfl
  |i+1=>
   simp only [plT,List.getElem?_cons_succ] at h
   rw [if_neg (by omega),Nat.add_sub_cancel]
   by_cases hia:i < a.flat.length
   ·rw [List.getElem?_append_left (by rw [oG];exact hia)] at h
    have:=iha _ _ i pl hw.2.1 h
    rw [this]
    match i with
    |0=>simp [GTr.flat]
    |i+1=>
     have:(GTr.two p a c).flat[i+1]?=a.flat[i]?:=by
      simp only [GTr.flat,List.getElem?_cons_succ]
      rw [List.getElem?_append_left (by omega)]
     rw [this];simp
   ·rw [List.getElem?_append_right (by rw [oG];omega),oG] at h
    have:=ihc _ _ _ pl hw.2.2 h
    rw [this]
    by_cases hz:i - a.flat.length=0
    ·rw [if_pos hz]
     have hi:i=a.flat.length:=by omega
     have hk2:=aEr.2 hw.1
     obtain ⟨l,x,h1,h2⟩:=aKN a hw.2.1
     have:(GTr.two p a c).flat[i]?=some x:=by
      simp only [GTr.flat]
      rw [hi,h1]
      simp
     rw [this,hk2]
     have hx:(x.Kind == 1)=false:=by
      by_cases h:x.Kind=1
      ·have:=aEr.1 h;omega
      ·simpa using h
     simp [hx]
    ·rw [if_neg hz]
     have:(GTr.two p a c).flat[i]?=c.flat[i - a.flat.length - 1]?:=by
      obtain ⟨j,rfl⟩:∃ j,i=j+1:=⟨i - 1,by omega⟩
      simp only [GTr.flat,List.getElem?_cons_succ]
      rw [List.getElem?_append_right (by omega)]
      congr 1;omega
     rw [this]
end Gv
namespace Gv
def zL {β:Type} (z:β->Nat) (a:List β):Nat:=a.length+(a.map z).sum
theorem sum_mem {n:Nat}:∀ {l:List Nat},n∈l->n<=l.sum
 |a::l,h=>by
  rw [List.sum_cons]
  rcases List.mem_cons.1 h with rfl|h
  ·omega
  ·have:=sum_mem h;omega
theorem aII {β:Type} {z:β->Nat} {a:List β} {x:β} (h:x∈a):z x<=zL z a:=by
 unfold zL
 have:z x<=(a.map z).sum:=sum_mem (List.mem_map.2 ⟨x,h,rfl⟩)
 omega
theorem aIJ {β:Type} {z:β->Nat} {a:List β}:a.length<=zL z a:=by unfold zL;omega
theorem szL {β:Type} {f:β->Int->Option Int} {z:β->Nat} {step:(Int × Int)->Option ((Int × Int) ⊕ (Int ⊕ Int))} {a:List β} {left:Int} (h0:0<=left) (hl:left<=sz) (ha:a.length < 9223372036854775808)
  (hf:∀ x∈a,∀ l:Int,0<=l->l<=sz->∃ r,f x l=some r/\(0<=r->r=l - z x))
  (hs:∀ (k:Nat) (l:Int) x,k < a.length->a.length<=sz->ix a (k:Int)=some x->step (l,(k:Int))=ob (f x l) fun r=>if decide (r < 0)=true then some (.inr (.inr (-1))) else some (.inl (r,((k+1:Nat):Int))))
  (hs':∀ l,step (l,(a.length:Int))=some (.inr (.inl l))):
  ∃ r,(if (decide (wr (left - (a.length:Int)) < 0)) then (some (-1)) else (ob (loop step (wr (left - (a.length:Int)),0)) fun r=>match r with|.inl r=>some r|.inr r=>some r))=some r/\(0<=r->r=left - zL z a):=by
 have e1:wr (left - (a.length:Int))=left - (a.length:Int):=by unfold wr;unfold sz at hl;omega
 rw [e1]
 by_cases hneg:left - (a.length:Int) < 0
 ·exact ⟨-1,by rw [if_pos (by simpa using hneg)],by omega⟩
 rw [if_neg (by simpa using hneg)]
 have hal:a.length<=sz:=by omega
 have hL:=aBJ (step:=step) (fun s=>0<=s.1/\0<=s.2/\s.2<=a.length/\s.1=left - a.length - ((a.take s.2.toNat).map z).sum) (fun s=>a.length - s.2.toNat) (fun r=>r=.inr (-1)\/∃ l,r=.inl l/\l=left - zL z a) (fun s hI=>?_) (s:=(left - (a.length:Int),0)) ⟨by simp only;omega,by simp,by simp,by simp⟩
 ·obtain ⟨r,hr,hR⟩:=hL
  rw [hr,aA]
  rcases hR with rfl|⟨l,rfl,h1⟩
  ·exact ⟨-1,rfl,by omega⟩
  ·exact ⟨l,rfl,fun _=>h1⟩
 ·obtain ⟨l,i⟩:=s
  obtain ⟨h1,h3,h4,h5⟩:=hI
  simp only at h1 h3 h4 h5 ⊢
  obtain ⟨k,rfl⟩:∃ k:Nat,i=(k:Int):=⟨i.toNat,by omega⟩
  by_cases hk:k < a.length
  ·have hx:ix a (k:Int)=some a[k]:=by rw [dQ];simp [hk]
   obtain ⟨r,hr,hok⟩:=hf a[k] (List.getElem_mem hk) l h1 (by omega)
   rw [hs k l _ hk hal hx,hr,aA]
   by_cases hn:r < 0
   ·right;rw [if_pos (by simpa using hn)];exact ⟨_,rfl,.inl rfl⟩
   ·left
    rw [if_neg (by simpa using hn)]
    have g1:=hok (by omega)
    refine ⟨_,rfl,⟨by simp only;omega,by simp only;omega,by simp only;omega,?_⟩,by simp only;omega⟩
    simp only [Int.toNat_natCast] at h5 ⊢
    rw [List.take_add_one,List.map_append,List.sum_append]
    rw [List.map_take] at h5
    simp [hk]
    omega
  ·obtain rfl:k=a.length:=by omega
   right
   rw [hs' l]
   refine ⟨_,rfl,.inr ⟨l,rfl,?_⟩⟩
   simp at h5
   unfold zL
   omega
def aLm (p:bG):Nat:=p.Name.length+zL List.length p.Arguments
def zDef (d:Definition):Nat:=d.Name.length+zL aLm d.Body
def aNq (m:bB):Nat:=m.Left.length+m.Right.length+m.Result.length
def aNr (c:aY):Nat:=c.Values.length
def zSys (s:bM):Nat:=zL zDef s.Definitions+zL aNr s.Components+zL aNq s.Meetings+zL List.length s.Allowed+zL List.length s.Hidden
def aCJ (n:Nat) (p:bG):Prop:=p.Name.length<=n/\p.Arguments.length<=n/\∀ e∈p.Arguments,e.length<=n
def aDw (n:Nat) (d:Definition):Prop:=d.Name.length<=n/\d.Body.length<=n/\∀ p∈d.Body,aCJ n p
def aPu (n:Nat) (m:bB):Prop:=m.Left.length<=n/\m.Right.length<=n/\m.Result.length<=n
structure aHk (n:Nat) (s:bM):Prop where
 defs:s.Definitions.length<=n
 dfn:∀ d∈s.Definitions,aDw n d
 comps:s.Components.length<=n
 comp:∀ c∈s.Components,c.Values.length<=n
 meets:s.Meetings.length<=n
 meet:∀ m∈s.Meetings,aPu n m
 alls:s.Allowed.length<=n
 all:∀ t∈s.Allowed,t.length<=n
 hids:s.Hidden.length<=n
 hid:∀ t∈s.Hidden,t.length<=n
theorem aPv {a:List aR} {left:Int} (h0:0<=left) (hl:left<=sz) (ha:a.length < 9223372036854775808):∃ r,aDU a left=some r/\(0<=r->r=left - a.length):=by
 unfold aDU
 have e1:wr (left - (a.length:Int))=left - (a.length:Int):=by unfold wr;unfold sz at hl;omega
 rw [e1]
 by_cases n1:left - (a.length:Int) < 0
 ·exact ⟨-1,by rw [if_pos (by simpa using n1)],by omega⟩
 ·exact ⟨_,by rw [if_neg (by simpa using n1)],fun _=>rfl⟩
theorem aOf {a:List (List aR)} {left:Int} (h0:0<=left) (hl:left<=sz) (ha:a.length < 9223372036854775808) (hx:∀ e∈a,e.length < 9223372036854775808):∃ r,aEK a left=some r/\(0<=r->r=left - zL List.length a):=by
 refine szL (f:=aDU) (step:=fun s=>zE a s.1 s.2) h0 hl ha (fun x hm l g0 g1=>aPv g0 g1 (hx x hm)) (fun k l x hk hz hx=>?_) (fun l=>?_)
 ·simp only [zE,bV hk,if_true,hx,aA,bO hk (show a.length < 4611686018427387904 by unfold sz at hz;omega)]
 ·simp only [zE,bL];rfl
theorem aQz {p:bG} {left:Int} (h0:0<=left) (hl:left<=sz) (hp:aCJ 9223372036854775807 p):∃ r,aGi p left=some r/\(0<=r->r=left - aLm p):=by
 obtain ⟨g1,g2,g3⟩:=hp
 have hl':=hl
 unfold sz at hl'
 unfold aGi aLm
 have e1:wr (left - (p.Name.length:Int))=left - (p.Name.length:Int):=by unfold wr;omega
 rw [e1]
 by_cases n1:left - (p.Name.length:Int) < 0
 ·exact ⟨-1,by rw [if_pos (by simpa using n1)],by omega⟩
 rw [if_neg (by simpa using n1)]
 obtain ⟨r,hr,h1⟩:=aOf (a:=p.Arguments) (left:=left - p.Name.length) (by omega) (by omega) (by omega) (fun e he=>by have:=g3 e he;omega)
 rw [hr,aA]
 by_cases n2:r < 0
 ·exact ⟨-1,by rw [if_pos (by simpa using n2)],by omega⟩
 ·refine ⟨r,by rw [if_neg (by simpa using n2)],fun h=>?_⟩
  have:=h1 h
  omega
theorem aPw {a:List bG} {left:Int} (h0:0<=left) (hl:left<=sz) (ha:a.length < 9223372036854775808) (hx:∀ p∈a,aCJ 9223372036854775807 p):∃ r,aGW a left=some r/\(0<=r->r=left - zL aLm a):=by
 refine szL (f:=aGi) (step:=fun s=>aBb a s.1 s.2) h0 hl ha (fun x hm l g0 g1=>aQz g0 g1 (hx x hm)) (fun k l x hk hz hx=>?_) (fun l=>?_)
 ·simp only [aBb,bV hk,if_true,hx,aA,bO hk (show a.length < 4611686018427387904 by unfold sz at hz;omega)]
 ·simp only [aBb,bL];rfl
theorem aKh {p:Definition} {left:Int} (h0:0<=left) (hl:left<=sz) (hp:aDw 9223372036854775807 p):∃ r,qL p left=some r/\(0<=r->r=left - zDef p):=by
 obtain ⟨g1,g2,g3⟩:=hp
 have hl':=hl
 unfold sz at hl'
 unfold qL zDef
 have e1:wr (left - (p.Name.length:Int))=left - (p.Name.length:Int):=by unfold wr;omega
 rw [e1]
 by_cases n1:left - (p.Name.length:Int) < 0
 ·exact ⟨-1,by rw [if_pos (by simpa using n1)],by omega⟩
 rw [if_neg (by simpa using n1)]
 obtain ⟨r,hr,h1⟩:=aPw (a:=p.Body) (left:=left - p.Name.length) (by omega) (by omega) (by omega) g3
 rw [hr,aA]
 by_cases n2:r < 0
 ·exact ⟨-1,by rw [if_pos (by simpa using n2)],by omega⟩
 ·refine ⟨r,by rw [if_neg (by simpa using n2)],fun h=>?_⟩
  have:=h1 h
  omega
theorem aIK {a:List Definition} {left:Int} (h0:0<=left) (hl:left<=sz) (ha:a.length < 9223372036854775808) (hx:∀ p∈a,aDw 9223372036854775807 p):∃ r,tV a left=some r/\(0<=r->r=left - zL zDef a):=by
 refine szL (f:=qL) (step:=fun s=>nR a s.1 s.2) h0 hl ha (fun x hm l g0 g1=>aKh g0 g1 (hx x hm)) (fun k l x hk hz hx=>?_) (fun l=>?_)
 ·simp only [nR,bV hk,if_true,hx,aA,bO hk (show a.length < 4611686018427387904 by unfold sz at hz;omega)]
 ·simp only [nR,bL];rfl
theorem aKO {c:aY} {left:Int} (h0:0<=left) (hl:left<=sz) (ha:c.Values.length < 9223372036854775808):∃ r,sO c left=some r/\(0<=r->r=left - aNr c):=by
 unfold sO aIo aNr
 have e1:wr (left - (c.Values.length:Int))=left - (c.Values.length:Int):=by unfold wr;unfold sz at hl;omega
 rw [e1]
 by_cases n1:left - (c.Values.length:Int) < 0
 ·rw [if_pos (by simpa using n1),aA]
  exact ⟨-1,by simp,by omega⟩
 ·rw [if_neg (by simpa using n1),aA,if_neg (by simpa using n1)]
  exact ⟨_,rfl,fun _=>rfl⟩
theorem aKi {a:List aY} {left:Int} (h0:0<=left) (hl:left<=sz) (ha:a.length < 9223372036854775808) (hx:∀ c∈a,c.Values.length < 9223372036854775808):∃ r,vR a left=some r/\(0<=r->r=left - zL aNr a):=by
 refine szL (f:=sO) (step:=fun s=>pO a s.1 s.2) h0 hl ha (fun x hm l g0 g1=>aKO g0 g1 (hx x hm)) (fun k l x hk hz hx=>?_) (fun l=>?_)
 ·simp only [pO,bV hk,if_true,hx,aA,bO hk (show a.length < 4611686018427387904 by unfold sz at hz;omega)]
 ·simp only [pO,bL];rfl
theorem aQA {m:bB} {left:Int} (h0:0<=left) (hl:left<=sz) (hm:aPu 9223372036854775807 m):∃ r,aAl m left=some r/\(0<=r->r=left - aNq m):=by
 obtain ⟨g1,g2,g3⟩:=hm
 unfold sz at hl
 unfold aAl aNq
 have e1:wr (left - (m.Left.length:Int))=left - (m.Left.length:Int):=by unfold wr;omega
 rw [e1]
 by_cases n1:left - (m.Left.length:Int) < 0
 ·exact ⟨-1,by rw [if_pos (by simpa using n1)],by omega⟩
 rw [if_neg (by simpa using n1)]
 have e2:wr (left - (m.Left.length:Int) - (m.Right.length:Int))=left - (m.Left.length:Int) - (m.Right.length:Int):=by unfold wr;omega
 rw [e2]
 by_cases n2:left - (m.Left.length:Int) - (m.Right.length:Int) < 0
 ·exact ⟨-1,by rw [if_pos (by simpa using n2)],by omega⟩
 rw [if_neg (by simpa using n2)]
 have e3:wr (left - (m.Left.length:Int) - (m.Right.length:Int) - (m.Result.length:Int))=left - (m.Left.length:Int) - (m.Right.length:Int) - (m.Result.length:Int):=by unfold wr;omega
 rw [e3]
 by_cases n3:left - (m.Left.length:Int) - (m.Right.length:Int) - (m.Result.length:Int) < 0
 ·exact ⟨-1,by rw [if_pos (by simpa using n3)],by omega⟩
 rw [if_neg (by simpa using n3)]
 exact ⟨_,rfl,fun _=>by omega⟩
theorem aPx {a:List bB} {left:Int} (h0:0<=left) (hl:left<=sz) (ha:a.length < 9223372036854775808) (hp:∀ m∈a,aPu 9223372036854775807 m):
  ∃ r,aBc a left=some r/\(0<=r->r=left - zL aNq a):=by
 refine szL (f:=aAl) (step:=fun s=>tW a s.1 s.2) h0 hl (by omega) (fun t ht l g0 g1=>aQA g0 g1 (hp t ht)) (fun k l x hk hz hx=>?_) (fun l=>?_)
 ·simp only [tW,bV hk,if_true,hx,aA,bO hk (show a.length < 4611686018427387904 by unfold sz at hz;omega)]
 ·simp only [tW,bL];rfl
theorem aLn {a:List aL} {left:Int} (h0:0<=left) (hl:left<=sz) (ha:a.length < 9223372036854775808) (hp:∀ m∈a,m.length < 9223372036854775808):
  ∃ r,nK a left=some r/\(0<=r->r=left - zL List.length a):=by
 refine szL (f:=fun (x:aL) l=>some (if decide (wr (l - (x.length:Int)) < 0)=true then -1 else wr (l - (x.length:Int)))) (z:=List.length) (step:=fun s=>mS a s.1 s.2) h0 hl (by omega) (fun t ht l g0 g1=>⟨_,rfl,fun h=>?_⟩) (fun k l x hk hz hx=>?_) (fun l=>?_)
 ·have:=hp t ht
  have e:wr (l - (t.length:Int))=l - t.length:=by unfold sz at g1;unfold wr;omega
  rw [e] at h ⊢
  split at h
  ·omega
  ·rename_i h2;rw [if_neg h2]
 ·simp only [mS,bV hk,if_true,hx,aA,bO hk (show a.length < 4611686018427387904 by unfold sz at hz;omega)]
  by_cases hn:wr (l - (x.length:Int)) < 0
  ·simp [hn]
  ·simp [hn]
 ·simp only [mS,bL];rfl
theorem part_fits {p:bG} {n:Nat} (h:aLm p<=n):aCJ n p:=by
 unfold aLm at h
 refine ⟨by omega,by have:=aIJ (z:=List.length) (a:=p.Arguments);omega,fun e he=>?_⟩
 have:=aII (z:=List.length) he
 omega
theorem def_fits {d:Definition} {n:Nat} (h:zDef d<=n):aDw n d:=by
 unfold zDef at h
 refine ⟨by omega,by have:=aIJ (z:=aLm) (a:=d.Body);omega,fun e he=>part_fits ?_⟩
 have:=aII (z:=aLm) he
 omega
theorem aGO {s:bM} {n:Nat} (h:zSys s<=n):aHk n s:=by
 unfold zSys at h
 have h1:=aIJ (z:=zDef) (a:=s.Definitions)
 have h2:=aIJ (z:=aNr) (a:=s.Components)
 have h3:=aIJ (z:=aNq) (a:=s.Meetings)
 have h4:=aIJ (z:=List.length) (a:=s.Allowed)
 have h5:=aIJ (z:=List.length) (a:=s.Hidden)
 refine ⟨by omega,fun d hd=>def_fits (by have:=aII (z:=zDef) hd;omega),by omega,fun c hc=>by have:c.Values.length<=zL aNr s.Components:=aII (z:=aNr) hc;omega,by omega,fun m hm=>?_,by omega,fun t ht=>by have:=aII (z:=List.length) ht;omega,by omega,fun t ht=>by have:=aII (z:=List.length) ht;omega⟩
 have:m.Left.length+m.Right.length+m.Result.length<=zL aNq s.Meetings:=aII (z:=aNq) hm
 exact ⟨by omega,by omega,by omega⟩
theorem toL {β:Type} {z:β} {step:(List β × Int)->Option ((List β × Int) ⊕ List β)} {a:List β} (h:a.length<=iK)
  (hs:∀ (k:Nat) (out:List β) x,k < a.length->out.length=a.length->ix a (k:Int)=some x->x∈a->step (out,(k:Int))=some (.inl (out.set k x,((k+1:Nat):Int)))) (hs':∀ out,step (out,(a.length:Int))=some (.inr out)):
  (ob (mkz (a.length:Int) z) fun xs=>ob (loop step (xs,0)) fun r=>some r)=some a:=by
 rw [aNa _ h,aA,xI (a:=a) (z:=z)]
 ·rfl
 ·intro k out x hk ho hx
  exact hs k out x hk ho hx (by rw [bY hk] at hx;cases hx;exact List.getElem_mem hk)
 ·exact hs'
theorem aRB {a:List aR} (h:a.length<=iK):aHb a=some a:=by
 have h2:a.length < 4611686018427387904:=by unfold iK at h;omega
 refine toL (step:=fun s=>wO a s.1 s.2) h (fun k out x hk ho hx _=>?_) (fun out=>?_)
 ·simp only [wO,bV hk,if_true,hx,aA,aMy,bY (xs:=out) (k:=k) (by omega),aDu (xs:=out) (k:=k) _ (show k < out.length by omega),bO hk h2]
 ·simp only [wO,bL];rfl
theorem aQB {a:List (List aR)} (h:a.length<=iK) (hx:∀ e∈a,e.length<=iK):aEY a=some a:=by
 have h2:a.length < 4611686018427387904:=by unfold iK at h;omega
 refine toL (step:=fun s=>tD a s.1 s.2) h (fun k out x hk ho hix hm=>?_) (fun out=>?_)
 ·simp only [tD,bV hk,if_true,hix,aA,aRB (hx x hm),bY (xs:=out) (k:=k) (by omega),aDu (xs:=out) (k:=k) _ (show k < out.length by omega),bO hk h2]
 ·simp only [tD,bL];rfl
theorem aRC {a:List bG} (h:a.length<=iK) (hx:∀ p∈a,aCJ iK p):aHc a=some a:=by
 have h2:a.length < 4611686018427387904:=by unfold iK at h;omega
 refine toL (step:=fun s=>wP a s.1 s.2) h (fun k out x hk ho hix hm=>?_) (fun out=>?_)
 ·simp only [wP,bV hk,if_true,hix,aA,aMz,aQB (hx x hm).2.1 (hx x hm).2.2,bY (xs:=out) (k:=k) (by omega),aDu (xs:=out) (k:=k) _ (show k < out.length by omega),bO hk h2]
 ·simp only [wP,bL];rfl
theorem aKP {a:List Definition} (h:a.length<=iK) (hx:∀ p∈a,aDw iK p):uA a=some a:=by
 have h2:a.length < 4611686018427387904:=by unfold iK at h;omega
 refine toL (step:=fun s=>lD a s.1 s.2) h (fun k out x hk ho hix hm=>?_) (fun out=>?_)
 ·simp only [lD,bV hk,if_true,hix,aA,aCo,aRC (hx x hm).2.1 (hx x hm).2.2,bY (xs:=out) (k:=k) (by omega),aDu (xs:=out) (k:=k) _ (show k < out.length by omega),bO hk h2]
 ·simp only [lD,bL];rfl
theorem toIntsG {a:List Int} (h:a.length<=iK):aEZ a=some a:=by
 have h2:a.length < 4611686018427387904:=by unfold iK at h;omega
 refine toL (step:=fun s=>tE a s.1 s.2) h (fun k out x hk ho hix hm=>?_) (fun out=>?_)
 ·simp only [tE,bV hk,if_true,hix,aA,bY (xs:=out) (k:=k) (by omega),aDu (xs:=out) (k:=k) _ (show k < out.length by omega),bO hk h2]
 ·simp only [tE,bL];rfl
theorem aLO {a:List aY} (h:a.length<=iK) (hx:∀ c∈a,c.Values.length<=iK):wQ a=some a:=by
 have h2:a.length < 4611686018427387904:=by unfold iK at h;omega
 refine toL (step:=fun s=>lR a s.1 s.2) h (fun k out x hk ho hix hm=>?_) (fun out=>?_)
 ·simp only [lR,bV hk,if_true,hix,aA,aDF,toIntsG (hx x hm),bY (xs:=out) (k:=k) (by omega),aDu (xs:=out) (k:=k) _ (show k < out.length by omega),bO hk h2]
 ·simp only [lR,bL];rfl
theorem aRD {a:List bB} (h:a.length<=iK):aBq a=some a:=by
 have h2:a.length < 4611686018427387904:=by unfold iK at h;omega
 refine toL (step:=fun s=>oP a s.1 s.2) h (fun k out x hk ho hix hm=>?_) (fun out=>?_)
 ·simp only [oP,bV hk,if_true,hix,aA,aGr,bY (xs:=out) (k:=k) (by omega),aDu (xs:=out) (k:=k) _ (show k < out.length by omega),bO hk h2]
 ·simp only [oP,bL];rfl
theorem aQC {s:bM} (h:aHk iK s):aCq s=some s:=by
 unfold aCq
 rw [aKP h.1 h.2,aA,aLO h.3 h.4,aA,aRD h.5,aA,aFi h.7,aA,aFi h.9,aA]
theorem eqLG {β:Type} [DecidableEq β] {step:Int->Option (Int ⊕ (Unit ⊕ Bool))} {a b:List β} (hlen:a.length < 4611686018427387904)
  (h:∀ (k:Nat) x y,k < a.length->ix a (k:Int)=some x->ix b (k:Int)=some y->x∈a->step (k:Int)=if x=y then some (.inl (wr ((k:Int)+1))) else some (.inr (.inr false)))
  (h':step (a.length:Int)=some (.inr (.inl ()))):(if ((a.length:Int) != (b.length:Int)) then (some false) else (ob (loop step 0) fun r=>match r with|.inl _=>some true|.inr r=>some r))=some (decide (a=b)):=by
 by_cases e:a.length=b.length
 ·rw [if_neg (by simp [e])]
  refine aJZ e (fun k x y hk hx hy=>?_) h'
  rw [h k x y hk hx hy (by rw [bY hk] at hx;cases hx;exact List.getElem_mem hk),bO hk hlen]
 ·rw [if_pos (by simp only [bne_iff_ne,ne_eq];omega)]
  have:¬ a=b:=fun h=>e (by rw [h])
  simp [this]
theorem eqTerm_eq (a b:aR):aJF a b=some (decide (a=b)):=by
 obtain ⟨a1,a2⟩:=a;obtain ⟨b1,b2⟩:=b
 simp only [aJF,aR.mk.injEq]
 by_cases h1:a1=b1<;>by_cases h2:a2=b2<;>simp [h1,h2]
theorem aRF (a b:List aR) (h:a.length < 4611686018427387904):aHe a b=some (decide (a=b)):=by
 refine eqLG (step:=fun s=>aBx a b s) h (fun k x y hk hx hy hm=>?_) ?_
 ·simp only [aBx,bV hk,if_true,hx,hy,aA,eqTerm_eq]
  by_cases e:x=y<;>simp [e]
 ·simp only [aBx,bL];rfl
theorem aQD (a b:List (List aR)) (h:a.length < 4611686018427387904) (h2:∀ e∈a,e.length < 4611686018427387904):aFd a b=some (decide (a=b)):=by
 refine eqLG (step:=fun s=>zY a b s) h (fun k x y hk hx hy hm=>?_) ?_
 ·simp only [zY,bV hk,if_true,hx,hy,aA,aRF x y (h2 x hm)]
  by_cases e:x=y<;>simp [e]
 ·simp only [zY,bL];rfl
theorem eqPart_eq (a b:bG) (h:aCJ 4611686018427387903 a):aJH a b=some (decide (a=b)):=by
 obtain ⟨a1,a2,a3,a4⟩:=a;obtain ⟨b1,b2,b3,b4⟩:=b
 obtain ⟨g1,g2,g3⟩:=h
 simp only at g1 g2 g3
 simp only [aJH,bG.mk.injEq,aQD a4 b4 (by omega) (fun e he=>by have:=g3 e he;omega),aA]
 by_cases h1:a1=b1<;>by_cases h2:a2=b2<;>by_cases h3:a3=b3<;>by_cases h4:a4=b4<;>simp [h1,h2,h3,h4]
theorem aRG (a b:List bG) (h:a.length < 4611686018427387904) (h2:∀ p∈a,aCJ 4611686018427387903 p):aHf a b=some (decide (a=b)):=by
 refine eqLG (step:=fun s=>aBy a b s) h (fun k x y hk hx hy hm=>?_) ?_
 ·simp only [aBy,bV hk,if_true,hx,hy,aA,eqPart_eq x y (h2 x hm)]
  by_cases e:x=y<;>simp [e]
 ·simp only [aBy,bL];rfl
theorem aLP (a b:Definition) (h:aDw 4611686018427387903 a):xC a b=some (decide (a=b)):=by
 obtain ⟨a1,a2,a3⟩:=a;obtain ⟨b1,b2,b3⟩:=b
 obtain ⟨g1,g2,g3⟩:=h
 simp only at g1 g2 g3
 simp only [xC,Definition.mk.injEq,aRG a3 b3 (by omega) g3,aA]
 by_cases h1:a1=b1<;>by_cases h2:a2=b2<;>by_cases h3:a3=b3<;>simp [h1,h2,h3]
theorem aKQ (a b:List Definition) (h:a.length < 4611686018427387904) (h2:∀ p∈a,aDw 4611686018427387903 p):uF a b=some (decide (a=b)):=by
 refine eqLG (step:=fun s=>oC a b s) h (fun k x y hk hx hy hm=>?_) ?_
 ·simp only [oC,bV hk,if_true,hx,hy,aA,aLP x y (h2 x hm)]
  by_cases e:x=y<;>simp [e]
 ·simp only [oC,bL];rfl
theorem aNs (a b:aY) (h:a.Values.length < 4611686018427387904):aAa a b=some (decide (a=b)):=by
 obtain ⟨a1,a2⟩:=a;obtain ⟨b1,b2⟩:=b
 simp only at h
 simp only [aAa,aY.mk.injEq,aQl a2 b2 h,aA]
 by_cases h1:a1=b1<;>by_cases h2:a2=b2<;>simp [h1,h2]
theorem aLQ (a b:List aY) (h:a.length < 4611686018427387904) (h2:∀ p∈a,p.Values.length < 4611686018427387904):xD a b=some (decide (a=b)):=by
 refine eqLG (step:=fun s=>qA a b s) h (fun k x y hk hx hy hm=>?_) ?_
 ·simp only [qA,bV hk,if_true,hx,hy,aA,aNs x y (h2 x hm)]
  by_cases e:x=y<;>simp [e]
 ·simp only [qA,bL];rfl
theorem eqMeet_eq (a b:bB):aDm a b=some (decide (a=b)):=by
 obtain ⟨a1,a2,a3⟩:=a;obtain ⟨b1,b2,b3⟩:=b
 simp only [aDm,bB.mk.injEq]
 by_cases h1:a1=b1<;>by_cases h2:a2=b2<;>by_cases h3:a3=b3<;>simp [h1,h2,h3]
theorem aRH (a b:List bB) (h:a.length < 4611686018427387904):aBz a b=some (decide (a=b)):=by
 refine eqLG (step:=fun s=>uG a b s) h (fun k x y hk hx hy hm=>?_) ?_
 ·simp only [uG,bV hk,if_true,hx,hy,aA,eqMeet_eq x y]
  by_cases e:x=y<;>simp [e]
 ·simp only [uG,bL];rfl
theorem aQE (a b:bM) (h:aHk sz a):aFe a b=some (decide (a=b)):=by
 obtain ⟨a1,a2,a3,a4,a5⟩:=a;obtain ⟨b1,b2,b3,b4,b5⟩:=b
 have g1:=h.1;have g2:=h.2;have g3:=h.3;have g4:=h.4;have g5:=h.5;have g7:=h.7;have g9:=h.9
 simp only [sz] at g1 g2 g3 g4 g5 g7 g9
 have hd:∀ d∈a1,aDw 4611686018427387903 d:=fun d hd=>by
  obtain ⟨x,y,z⟩:=g2 d hd
  exact ⟨by omega,by omega,fun p hp=>let ⟨u,v,q⟩:=z p hp;⟨by omega,by omega,fun e he=>by have:=q e he;omega⟩⟩
 simp only [aFe,bM.mk.injEq,aKQ a1 b1 (by omega) hd,aLQ a2 b2 (by omega) (fun c hc=>by have:=g4 c hc;omega),aRH a3 b3 (by omega),aFj a4 b4 (by omega),aFj a5 b5 (by omega),aA]
 by_cases e1:a1=b1<;>by_cases e2:a2=b2<;>by_cases e3:a3=b3<;>by_cases e4:a4=b4<;>by_cases e5:a5=b5<;>simp [e1,e2,e3,e4,e5]
end Gv
namespace Gv
theorem aOG (i n:Int) (h:-4611686018427387904 < n) (h2:n < 4611686018427387904):aBr i n=some (decide (0<=i)&&decide (i<=n - 1)):=by
 unfold aBr
 rw [fC,dW (by omega) (by omega),aA]
theorem aNt {β:Type} {step:Int->Option (Int ⊕ (Unit ⊕ Int))} (xs:List β) (p:β->Bool) (hl:xs.length < 4611686018427387904)
  (h:∀ (k:Nat) x,k < xs.length->ix xs (k:Int)=some x->x∈xs->step (k:Int)=if p x=true then some (.inr (.inr (k:Int))) else some (.inl (wr ((k:Int)+1))))
  (h':step (xs.length:Int)=some (.inr (.inl ()))):(ob (ob (loop step 0) fun r=>match r with|.inl _=>some (-1)|.inr r=>some r) fun r=>some (decide (0<=r)))=some (xs.any p):=by
 rw [aHh (step:=step) xs p (fun k x hk hx=>by rw [h k x hk hx (by rw [bY hk] at hx;cases hx;exact List.getElem_mem hk),bO hk hl]) h',aA,←aNg]
 cases xs.findIdx? p with
 |none=>rfl
 |some i=>simp
def aIc (p:bG):Bool:=
 if p.Kind == 0||p.Kind == 2 then p.Number == 0&&p.Name == []&&p.Arguments.length == 0
 else if p.Kind == 1 then p.Number == 0
 else if p.Kind == 3 then p.Number == 0&&p.Name == []
 else if p.Kind == 4 then p.Name == []&&p.Arguments.length == 0
 else p.Kind == 5&&p.Name == []
def aIL (l:List Definition) (p:bG):Bool:=
 if p.Kind == 1 then decide (p.Arguments.length<=2)&&(p.Arguments.length == 0||!(p.Name == gY))
 else if p.Kind == 3 then p.Arguments.length == 1
 else if p.Kind == 5 then (p.Arguments.length:Int) == (l.getD p.Number.toNat ⟨[],0,[]⟩).Parameters
 else true
def yY (n:Nat) (p:bG):Bool:=(!(p.Kind == 4)||(decide (1<=p.Number)&&decide (p.Number<=7)))&&(!(p.Kind == 5)||(decide (0<=p.Number)&&decide (p.Number < (n:Int))))
def yZ (l:List Definition) (pl:dH) (p:bG):Bool:=
 aIc p&&(!(p.Kind == 1)||oE p.Name)&&yY l.length p&&aIL l p&&(!(p.Kind == 5)||pl.behind)&&(!(p.Kind == 4)||decide (pl.scope < 6))&&p.Arguments.all (okE pl.scope)
theorem kindOk_eq (p:bG):tK p=some (aIc p):=by
 have hl:((p.Arguments.length:Int) == 0)=(p.Arguments.length == 0):=by
  cases h:p.Arguments.length == 0<;>simp at h ⊢<;>exact h
 unfold tK nC kW eB aIc
 rw [fC,aA,hl]
 generalize (p.Arguments.length == 0)=A
 generalize (p.Number == 0)=B
 generalize (p.Name == ([]:aL))=C
 generalize p.Kind=k
 by_cases h0:k=0
 ·subst h0;cases A<;>cases B<;>cases C<;>rfl
 by_cases h1:k=1
 ·subst h1;cases A<;>cases B<;>cases C<;>rfl
 by_cases h2:k=2
 ·subst h2;cases A<;>cases B<;>cases C<;>rfl
 by_cases h3:k=3
 ·subst h3;cases A<;>cases B<;>cases C<;>rfl
 by_cases h4:k=4
 ·subst h4;cases A<;>cases B<;>cases C<;>rfl
 by_cases h5:k=5
 ·subst h5;cases A<;>cases B<;>cases C<;>rfl
 ·have e0:(k == 0)=false:=by simpa using h0
  have e1:(k == 1)=false:=by simpa using h1
  have e2:(k == 2)=false:=by simpa using h2
  have e3:(k == 3)=false:=by simpa using h3
  have e4:(k == 4)=false:=by simpa using h4
  have e5:(k == 5)=false:=by simpa using h5
  have e6:(decide (0<=k)&&decide (k<=5))=false:=by
   rw [Bool.and_eq_false_iff]
   by_cases h:0<=k
   ·right;simp;omega
   ·left;simpa using h
  simp [e0,e1,e2,e3,e4,e5,e6]
theorem aRI (p:bG):aDY p=some (aIc p):=by
 have hl:((p.Arguments.length:Int) == 0)=(p.Arguments.length == 0):=by
  cases h:p.Arguments.length == 0<;>simp at h ⊢<;>exact h
 unfold aDY vY aBg aBf vX aIc
 rw [hl]
 generalize (p.Arguments.length == 0)=A
 generalize (p.Number == 0)=B
 generalize (p.Name == ([]:aL))=C
 generalize p.Kind=k
 by_cases h0:k=0
 ·subst h0;cases A<;>cases B<;>cases C<;>rfl
 by_cases h1:k=1
 ·subst h1;cases A<;>cases B<;>cases C<;>rfl
 by_cases h2:k=2
 ·subst h2;cases A<;>cases B<;>cases C<;>rfl
 by_cases h3:k=3
 ·subst h3;cases A<;>cases B<;>cases C<;>rfl
 by_cases h4:k=4
 ·subst h4;cases A<;>cases B<;>cases C<;>rfl
 by_cases h5:k=5
 ·subst h5;cases A<;>cases B<;>cases C<;>rfl
 ·have e0:(k == 0)=false:=by simpa using h0
  have e1:(k == 1)=false:=by simpa using h1
  have e2:(k == 2)=false:=by simpa using h2
  have e3:(k == 3)=false:=by simpa using h3
  have e4:(k == 4)=false:=by simpa using h4
  have e5:(k == 5)=false:=by simpa using h5
  simp [e0,e1,e2,e3,e4,e5]
theorem tau_nm:oE gY=true:=by decide
section
variable {l:List Definition} {p:bG} {pl:dH}
theorem args_bad (hs:0<=pl.scope) (hs2:pl.scope<=29) (ha:p.Arguments.length < 1000000000) (hx:∀ e∈p.Arguments,e.length < 1000000000):dI p.Arguments pl=some (!p.Arguments.all (okE pl.scope)):=by
 unfold dI dV
 have:=aNt (step:=fun s=>cK p.Arguments pl s) p.Arguments (fun e=>!okE pl.scope e) (by omega) (fun k x hk hix hm=>?_) ?_
 ·have e:(p.Arguments.any fun e=>!okE pl.scope e)=!p.Arguments.all (okE pl.scope):=by simp [List.any_eq_not_all_not]
  rw [←e,←this];rfl
 ·simp only [cK,bV hk,if_true,hix,aA,yT,aOe x hs hs2 (show (1:Int)<=15 by omega) (by omega) (hx x hm)]
  rfl
 ·simp only [cK,bL];rfl
theorem aNu (hs:0<=pl.scope) (hs2:pl.scope<=29) (ha:p.Arguments.length < 1000000000) (hx:∀ e∈p.Arguments,e.length < 1000000000) (b c:Bool):∃ r,(if c then some 6 else kX p pl b)=some r/\(r != 0)=!(!c&&!b&&p.Arguments.all (okE pl.scope)):=by
 cases c
 ·cases b
  ·unfold kX
   rw [args_bad hs hs2 ha hx]
   cases p.Arguments.all (okE pl.scope)<;>exact ⟨_,rfl,rfl⟩
  ·exact ⟨7,rfl,rfl⟩
 ·exact ⟨6,rfl,rfl⟩
theorem aOH (hs:0<=pl.scope) (hs2:pl.scope<=29) (ha:p.Arguments.length < 1000000000) (hx:∀ e∈p.Arguments,e.length < 1000000000) (c:Bool):∃ r,kY p pl c=some r/\(r != 0)=!(!c&&(!(p.Kind == 4)||decide (pl.scope < 6))&&p.Arguments.all (okE pl.scope)):=by
 unfold kY
 by_cases h4:(p.Kind == 4)=true
 ·obtain ⟨r,h1,h2⟩:=aNu (p:=p) hs hs2 ha hx (decide (6<=pl.scope)) c
  refine ⟨r,by rw [if_pos h4];exact h1,?_⟩
  rw [h2,h4]
  have:(!decide (6<=pl.scope))=decide (pl.scope < 6):=by
   by_cases h:6<=pl.scope
   ·simp [h]
   ·have h':pl.scope < 6:=by omega
    simp [h']
  rw [this];simp
 ·obtain ⟨r,h1,h2⟩:=aNu (p:=p) hs hs2 ha hx false c
  refine ⟨r,by rw [if_neg h4];exact h1,?_⟩
  have:(p.Kind == 4)=false:=by simpa using h4
  rw [h2,this];simp
theorem aRJ (hn:yY l.length p=true):qX p l=some (aIL l p):=by
 have h2:decide ((p.Arguments.length:Int)<=2)=decide (p.Arguments.length<=2):=by simp;omega
 have h0:((p.Arguments.length:Int) == 0)=(p.Arguments.length == 0):=by cases h:p.Arguments.length == 0<;>simp at h ⊢<;>exact h
 have h1:((p.Arguments.length:Int) == 1)=(p.Arguments.length == 1):=by cases h:p.Arguments.length == 1<;>simp at h ⊢<;>omega
 unfold qX lY aIL
 rw [h2,h0,h1]
 by_cases k1:(p.Kind == 1)=true
 ·rw [if_pos k1,if_pos k1]
  show (if (p.Arguments.length == 0)=true then some true else if (!(p.Name == gY))=true then some (decide (p.Arguments.length<=2)) else some false)=_
  by_cases z:p.Arguments.length=0
  ·simp [z]
  ·have z':(p.Arguments.length == 0)=false:=by simpa using z
   rw [z']
   cases (p.Name == gY)<;>simp
 rw [if_neg k1,if_neg k1]
 by_cases k3:(p.Kind == 3)=true
 ·rw [if_pos k3,if_pos k3]
 rw [if_neg k3,if_neg k3]
 by_cases k5:(p.Kind == 5)=true
 ·rw [if_pos k5,if_pos k5]
  simp only [yY,k5,Bool.not_true,Bool.false_or,Bool.and_eq_true,decide_eq_true_eq] at hn
  have hlt:p.Number.toNat < l.length:=by omega
  have hi:ix l p.Number=some (l[p.Number.toNat]'hlt):=by unfold ix;rw [if_pos hn.2.1];simp [hlt]
  rw [hi,aA]
  simp [List.getD,hlt]
 ·rw [if_neg k5,if_neg k5]
theorem reason_I (hs:0<=pl.scope) (hs2:pl.scope<=29) (hl:l.length<=1000000) (hn:p.Name.length < 1000000000) (ha:p.Arguments.length < 1000000000) (hx:∀ e∈p.Arguments,e.length < 1000000000):∃ r,pH p l pl=some r/\(r != 0)=!yZ l pl p:=by
 have j3:∀ b,∃ r,gD p l pl b=some r/\(r != 0)=(if b then true else if yY l.length p then !(aIL l p&&(!(p.Kind == 5)||pl.behind)&&(!(p.Kind == 4)||decide (pl.scope < 6))&&p.Arguments.all (okE pl.scope)) else (r != 0))\/(b=false/\yY l.length p=false):=by
  intro b
  cases b
  ·by_cases hnb:yY l.length p=true
   ·unfold gD
    rw [if_neg (by simp),aRJ hnb,aA]
    by_cases hc:aIL l p=true
    ·rw [if_neg (by simp [hc])]
     by_cases k5:(p.Kind == 5)=true
     ·obtain ⟨r,h1,h2⟩:=aOH (p:=p) hs hs2 ha hx (!pl.behind)
      refine ⟨r,.inl ⟨by rw [if_pos k5];exact h1,?_⟩⟩
      rw [h2,hnb,hc,k5];simp
     ·obtain ⟨r,h1,h2⟩:=aOH (p:=p) hs hs2 ha hx false
      refine ⟨r,.inl ⟨by rw [if_neg k5];exact h1,?_⟩⟩
      have k5':(p.Kind == 5)=false:=by simpa using k5
      rw [h2,hnb,hc,k5'];simp
    ·have hc':aIL l p=false:=by simpa using hc
     refine ⟨5,.inl ⟨by rw [if_pos (by simp [hc'])],?_⟩⟩
     rw [hnb,hc'];rfl
   ·exact ⟨0,.inr ⟨rfl,by simpa using hnb⟩⟩
  ·exact ⟨4,.inl ⟨rfl,rfl⟩⟩
 have j4:∃ r,jB p l pl false=some r/\(r != 0)=!(yY l.length p&&(aIL l p&&(!(p.Kind == 5)||pl.behind)&&(!(p.Kind == 4)||decide (pl.scope < 6))&&p.Arguments.all (okE pl.scope))):=by
  unfold jB
  rw [if_neg (by simp)]
  have hix:=aOG p.Number (l.length:Int) (by omega) (by omega)
  have hle:(decide (0<=p.Number)&&decide (p.Number<=(l.length:Int) - 1))=(decide (0<=p.Number)&&decide (p.Number < (l.length:Int))):=by
   congr 1;by_cases h:p.Number < (l.length:Int)
   ·simp [h];omega
   ·simp [h];omega
  by_cases k4:(p.Kind == 4)=true
  ·have k5:(p.Kind == 5)=false:=by simp at k4 ⊢;omega
   rw [if_pos k4,fC,aA]
   have hnb:yY l.length p=(decide (1<=p.Number)&&decide (p.Number<=7)):=by simp [yY,k4,k5]
   by_cases hN:(decide (1<=p.Number)&&decide (p.Number<=7))=true
   ·rw [if_neg (by simp [hN]),if_neg (by simp [k5])]
    obtain ⟨r,h|h⟩:=j3 false
    ·refine ⟨r,h.1,?_⟩
     rw [h.2,hnb,hN];rfl
    ·rw [hnb,hN] at h;cases h.2
   ·have hN':(decide (1<=p.Number)&&decide (p.Number<=7))=false:=by simpa using hN
    rw [if_pos (by simp [hN'])]
    exact ⟨4,rfl,by rw [hnb,hN'];rfl⟩
  rw [if_neg k4]
  have k4':(p.Kind == 4)=false:=by simpa using k4
  by_cases k5:(p.Kind == 5)=true
  ·rw [if_pos k5,hix,aA,hle]
   have hnb:yY l.length p=(decide (0<=p.Number)&&decide (p.Number < (l.length:Int))):=by simp [yY,k4',k5]
   by_cases hN:(decide (0<=p.Number)&&decide (p.Number < (l.length:Int)))=true
   ·rw [hN]
    obtain ⟨r,h|h⟩:=j3 false
    ·refine ⟨r,h.1,?_⟩
     rw [h.2,hnb,hN];rfl
    ·rw [hnb,hN] at h;cases h.2
   ·have hN':(decide (0<=p.Number)&&decide (p.Number < (l.length:Int)))=false:=by simpa using hN
    rw [hN']
    exact ⟨4,rfl,by rw [hnb,hN'];rfl⟩
  ·rw [if_neg k5]
   have k5':(p.Kind == 5)=false:=by simpa using k5
   have hnb:yY l.length p=true:=by simp [yY,k4',k5']
   obtain ⟨r,h|h⟩:=j3 false
   ·refine ⟨r,h.1,?_⟩
    rw [h.2,hnb];rfl
   ·rw [hnb] at h;cases h.2
 unfold pH yZ
 rw [kindOk_eq,aA]
 by_cases hk:aIc p=true
 ·rw [if_neg (by simp [hk]),hk]
  obtain ⟨r,h1,h2⟩:=j4
  have hand:(true&&(!(p.Kind == 1)||oE p.Name)&&yY l.length p&&aIL l p&&(!(p.Kind == 5)||pl.behind)&&(!(p.Kind == 4)||decide (pl.scope < 6))&&p.Arguments.all (okE pl.scope))=((!(p.Kind == 1)||oE p.Name)&&(yY l.length p&&(aIL l p&&(!(p.Kind == 5)||pl.behind)&&(!(p.Kind == 4)||decide (pl.scope < 6))&&p.Arguments.all (okE pl.scope)))):=by
   simp only [Bool.true_and,Bool.and_assoc]
  rw [hand]
  by_cases k1:(p.Kind == 1)=true
  ·rw [if_pos k1,k1]
   by_cases ht:(p.Name == gY)=true
   ·have ht':p.Name=gY:=by simpa using ht
    rw [if_neg (by show ¬ (!(p.Name == gY))=true;simp [ht])]
    refine ⟨r,h1,?_⟩
    rw [h2,ht',tau_nm];simp
   ·have ht':(p.Name == gY)=false:=by simpa using ht
    rw [if_pos (by show (!(p.Name == gY))=true;simp [ht']),rG _ (by omega),aA]
    have hact:gH p.Name=oE p.Name:=by unfold gH;rw [ht'];simp
    rw [hact]
    by_cases hnm:oE p.Name=true
    ·rw [hnm]
     exact ⟨r,h1,by rw [h2];simp⟩
    ·have hnm':oE p.Name=false:=by simpa using hnm
     rw [hnm']
     exact ⟨3,rfl,by simp⟩
  ·rw [if_neg k1]
   have k1':(p.Kind == 1)=false:=by simpa using k1
   rw [k1']
   exact ⟨r,h1,by rw [h2];simp⟩
 ·have hk':aIc p=false:=by simpa using hk
  rw [if_pos (by simp [hk']),hk']
  exact ⟨2,rfl,by simp⟩
end
end Gv
namespace Gv
section
variable {l:List Definition} {d:Definition} {p:bG} {pl:dH} {t:GTr bG} {i:Nat}
theorem args_badS (hs:0<=pl.scope) (hs2:pl.scope<=29) (ha:p.Arguments.length < 1000000000) (hx:∀ e∈p.Arguments,e.length < 1000000000):(ob (loop (fun (s:Int)=>qR p pl.scope s) 0) fun r=>match r with|.inl r=>aCj|.inr r=>some r)=some (if p.Arguments.all (okE pl.scope)=true then 0 else 8):=by
 rw [aEo (step:=fun s=>qR p pl.scope s) p.Arguments (okE pl.scope) (.inr 8) (.inl ()) (fun k x hk hix=>?_) (by simp only [qR,bL];rfl)]
 ·cases p.Arguments.all (okE pl.scope)<;>rfl
 ·have hm:x∈p.Arguments:=by rw [bY hk] at hix;cases hix;exact List.getElem_mem hk
  simp only [qR,bV hk,if_true,hix,aA,l03Is_eq x (v:=pl.scope) (m:=15) (dW (by omega) (by omega)) (hx x hm),bO hk (show p.Arguments.length < 4611686018427387904 by omega)]
  show (if (!okE pl.scope x)=true then _ else _)=_
  cases okE pl.scope x<;>rfl
theorem len_gt2 (n:Nat):decide (2 < (n:Int))=!decide (n<=2):=by
 by_cases h:n<=2
 ·simp [h];omega
 ·simp [h];omega
theorem len_gt0 (n:Nat):decide (0 < (n:Int))=!(n == 0):=by
 by_cases h:n=0
 ·subst h;rfl
 ·have:(n == 0)=false:=by simpa using h
  rw [this];simp;omega
theorem len_ne1 (n:Nat):((n:Int) != 1)=!(n == 1):=by
 by_cases h:n=1
 ·subst h;rfl
 ·have h1:(n == 1)=false:=by simpa using h
  have h2:((n:Int) != 1)=true:=by simp;omega
  rw [h1,h2];rfl
theorem reason_S (hl:l.length<=1000000) (hb:d.Body.length<=20) (hi:d.Body[i]?=some p) (hsc:yF d (i:Int)=some pl.scope) (hbh:pl.behind=if i=0 then false else match d.Body[i - 1]? with|some q=>q.Kind == 1|none=>false)
  (hs:0<=pl.scope) (hs2:pl.scope<=29) (ha:p.Arguments.length < 1000000000) (hx:∀ e∈p.Arguments,e.length < 1000000000):∃ r,uZ l d (i:Int)=some r/\0<=r/\(r != 0)=!yZ l pl p:=by
 have hil:i < d.Body.length:=(List.getElem?_eq_some_iff.1 hi).1
 have j3:∀ b,∃ r,mW p pl.scope b=some r/\0<=r/\(r != 0)=!(!b&&p.Arguments.all (okE pl.scope)):=by
  intro b
  cases b
  ·unfold mW
   rw [if_neg (by simp)]
   refine ⟨_,args_badS (p:=p) hs hs2 ha hx,?_⟩
   cases p.Arguments.all (okE pl.scope)
   ·exact ⟨by simp,rfl⟩
   ·exact ⟨by simp,rfl⟩
  ·exact ⟨7,rfl,by omega,rfl⟩
 have j4:∀ c,∃ r,lA d (i:Int) p c=some r/\0<=r/\(r != 0)=!(!c&&(!(p.Kind == 4)||decide (pl.scope < 6))&&p.Arguments.all (okE pl.scope)):=by
  intro c
  cases c
  ·unfold lA
   rw [if_neg (by simp),hsc,aA]
   by_cases h4:(p.Kind == 4)=true
   ·obtain ⟨r,h1,h0,h2⟩:=j3 (decide (6<=pl.scope))
    refine ⟨r,by rw [if_pos h4];exact h1,h0,?_⟩
    have:(!decide (6<=pl.scope))=decide (pl.scope < 6):=by
     by_cases h:6<=pl.scope
     ·simp [h]
     ·have h':pl.scope < 6:=by omega
      simp [h']
    rw [h2,h4,this];simp
   ·obtain ⟨r,h1,h0,h2⟩:=j3 false
    refine ⟨r,by rw [if_neg h4];exact h1,h0,?_⟩
    have:(p.Kind == 4)=false:=by simpa using h4
    rw [h2,this];simp
  ·exact ⟨6,rfl,by omega,rfl⟩
 have j5:∃ r,iE d (i:Int) p=some r/\0<=r/\(r != 0)=!((!(p.Kind == 5)||pl.behind)&&(!(p.Kind == 4)||decide (pl.scope < 6))&&p.Arguments.all (okE pl.scope)):=by
  unfold iE
  by_cases h5:(p.Kind == 5)=true
  ·rw [if_pos h5]
   by_cases h0:i=0
   ·subst h0
    rw [if_pos (by rfl)]
    obtain ⟨r,h1,h0,h2⟩:=j4 true
    refine ⟨r,h1,h0,?_⟩
    rw [h2,hbh,h5];simp
   ·have hp:i - 1 < d.Body.length:=by omega
    have hw:wr ((i:Int) - 1)=((i - 1:Nat):Int):=by rw [dW (by omega) (by omega)];omega
    rw [if_neg (by simp;exact h0),hw,bY hp,aA]
    have hb':pl.behind=(d.Body[i - 1].Kind == 1):=by rw [hbh,if_neg h0,List.getElem?_eq_getElem hp]
    obtain ⟨r,h1,h0,h2⟩:=j4 (d.Body[i - 1].Kind != 1)
    refine ⟨r,h1,h0,?_⟩
    rw [h2,h5,hb']
    simp [bne]
  ·obtain ⟨r,h1,h0,h2⟩:=j4 false
   refine ⟨r,by rw [if_neg h5];exact h1,h0,?_⟩
   have:(p.Kind == 5)=false:=by simpa using h5
   rw [h2,this];simp
 have h2':=len_gt2 p.Arguments.length
 have h0':=len_gt0 p.Arguments.length
 have h1':=len_ne1 p.Arguments.length
 have j7:yY l.length p=true->∃ r,iF l d (i:Int) p false=some r/\0<=r/\(r != 0)=!(aIL l p&&((!(p.Kind == 5)||pl.behind)&&(!(p.Kind == 4)||decide (pl.scope < 6))&&p.Arguments.all (okE pl.scope))):=by
  intro hn
  obtain ⟨r5,e5,z5,n5⟩:=j5
  unfold iF
  rw [if_neg (by simp),h2',h0',h1']
  unfold qS aIL
  by_cases k1:(p.Kind == 1)=true
  ·rw [if_pos k1,if_pos k1]
   by_cases a2:p.Arguments.length<=2
   ·rw [if_neg (by simp [a2])]
    by_cases a0:p.Arguments.length=0
    ·rw [if_neg (by simp [a0]),if_neg (by simp)]
     refine ⟨r5,e5,z5,?_⟩
     rw [n5,a0];simp
    ·rw [if_pos (by simp [a0])]
     have a0':(p.Arguments.length == 0)=false:=by simpa using a0
     show ∃ r,(if (p.Name == gY)=true then some 5 else iE d (i:Int) p)=some r/\_
     by_cases ht:(p.Name == gY)=true
     ·rw [if_pos ht]
      refine ⟨5,rfl,by omega,?_⟩
      rw [a0',ht];simp
     ·have ht':(p.Name == gY)=false:=by simpa using ht
      rw [if_neg ht]
      refine ⟨r5,e5,z5,?_⟩
      rw [n5,a0',ht'];simp [a2]
   ·rw [if_pos (by simp [a2]),if_pos rfl]
    refine ⟨5,rfl,by omega,?_⟩
    simp [a2]
  rw [if_neg k1,if_neg k1]
  by_cases k3:(p.Kind == 3)=true
  ·rw [if_pos k3,if_pos k3]
   by_cases a1:p.Arguments.length=1
   ·rw [if_neg (by simp [a1])]
    refine ⟨r5,e5,z5,?_⟩
    rw [n5,a1];simp
   ·rw [if_pos (by simp [a1])]
    refine ⟨5,rfl,by omega,?_⟩
    have a1':(p.Arguments.length == 1)=false:=by simpa using a1
    rw [a1'];rfl
  rw [if_neg k3,if_neg k3]
  by_cases k5:(p.Kind == 5)=true
  ·rw [if_pos k5,if_pos k5]
   simp only [yY,k5,Bool.not_true,Bool.false_or,Bool.and_eq_true,decide_eq_true_eq] at hn
   have hlt:p.Number.toNat < l.length:=by omega
   have hix:ix l p.Number=some (l[p.Number.toNat]'hlt):=by unfold ix;rw [if_pos hn.2.1];simp [hlt]
   have hg:l.getD p.Number.toNat ⟨[],0,[]⟩=l[p.Number.toNat]:=by simp [List.getD,hlt]
   rw [hix,aA,hg]
   by_cases a5:(p.Arguments.length:Int)=l[p.Number.toNat].Parameters
   ·rw [if_neg (by simp [a5])]
    refine ⟨r5,e5,z5,?_⟩
    rw [n5,a5];simp
   ·rw [if_pos (by simp [a5])]
    refine ⟨5,rfl,by omega,?_⟩
    have a5':((p.Arguments.length:Int) == l[p.Number.toNat].Parameters)=false:=by simpa using a5
    rw [a5'];rfl
  ·rw [if_neg k5,if_neg k5]
   refine ⟨r5,e5,z5,?_⟩
   rw [n5];simp
 have j8:∃ r,mX l d (i:Int) p false=some r/\0<=r/\(r != 0)=!(yY l.length p&&(aIL l p&&((!(p.Kind == 5)||pl.behind)&&(!(p.Kind == 4)||decide (pl.scope < 6))&&p.Arguments.all (okE pl.scope)))):=by
  unfold mX
  rw [if_neg (by simp)]
  have hw:wr ((l.length:Int) - 1)=(l.length:Int) - 1:=dW (by omega) (by omega)
  have hle:(decide (0<=p.Number)&&decide (p.Number<=(l.length:Int) - 1))=(decide (0<=p.Number)&&decide (p.Number < (l.length:Int))):=by
   congr 1;by_cases h:p.Number < (l.length:Int)
   ·simp [h];omega
   ·simp [h];omega
  by_cases k4:(p.Kind == 4)=true
  ·have k5:(p.Kind == 5)=false:=by simp at k4 ⊢;omega
   have hnb:yY l.length p=(decide (1<=p.Number)&&decide (p.Number<=7)):=by simp [yY,k4,k5]
   rw [if_pos k4,oU,aA]
   by_cases hN:(decide (1<=p.Number)&&decide (p.Number<=7))=true
   ·rw [if_neg (by simp [hN]),if_neg (by simp [k5])]
    obtain ⟨r,h1,h0,h2⟩:=j7 (by rw [hnb,hN])
    exact ⟨r,h1,h0,by rw [h2,hnb,hN];rfl⟩
   ·have hN':(decide (1<=p.Number)&&decide (p.Number<=7))=false:=by simpa using hN
    rw [if_pos (by simp [hN'])]
    exact ⟨4,rfl,by omega,by rw [hnb,hN'];rfl⟩
  rw [if_neg k4]
  have k4':(p.Kind == 4)=false:=by simpa using k4
  by_cases k5:(p.Kind == 5)=true
  ·have hnb:yY l.length p=(decide (0<=p.Number)&&decide (p.Number < (l.length:Int))):=by simp [yY,k4',k5]
   rw [if_pos k5,hw,oU,aA,hle]
   by_cases hN:(decide (0<=p.Number)&&decide (p.Number < (l.length:Int)))=true
   ·rw [hN]
    obtain ⟨r,h1,h0,h2⟩:=j7 (by rw [hnb,hN])
    exact ⟨r,h1,h0,by rw [h2,hnb,hN];rfl⟩
   ·have hN':(decide (0<=p.Number)&&decide (p.Number < (l.length:Int)))=false:=by simpa using hN
    rw [hN']
    exact ⟨4,rfl,by omega,by rw [hnb,hN'];rfl⟩
  ·have k5':(p.Kind == 5)=false:=by simpa using k5
   have hnb:yY l.length p=true:=by simp [yY,k4',k5']
   rw [if_neg k5]
   obtain ⟨r,h1,h0,h2⟩:=j7 hnb
   exact ⟨r,h1,h0,by rw [h2,hnb];rfl⟩
 unfold uZ yZ
 have hix:ix d.Body (i:Int)=some p:=by rw [dQ];exact hi
 rw [hix,aA,aRI,aA]
 by_cases hk:aIc p=true
 ·rw [if_neg (by simp [hk]),hk]
  obtain ⟨r,h1,h0,h2⟩:=j8
  have hand:(true&&(!(p.Kind == 1)||oE p.Name)&&yY l.length p&&aIL l p&&(!(p.Kind == 5)||pl.behind)&&(!(p.Kind == 4)||decide (pl.scope < 6))&&p.Arguments.all (okE pl.scope))=((!(p.Kind == 1)||oE p.Name)&&(yY l.length p&&(aIL l p&&((!(p.Kind == 5)||pl.behind)&&(!(p.Kind == 4)||decide (pl.scope < 6))&&p.Arguments.all (okE pl.scope))))):=by
   simp only [Bool.true_and,Bool.and_assoc]
  rw [hand]
  by_cases k1:(p.Kind == 1)=true
  ·rw [if_pos k1,k1,aCG,aA]
   by_cases hnm:oE p.Name=true
   ·rw [hnm]
    exact ⟨r,h1,h0,by rw [h2];simp⟩
   ·have hnm':oE p.Name=false:=by simpa using hnm
    rw [hnm']
    exact ⟨3,rfl,by omega,by simp⟩
  ·have k1':(p.Kind == 1)=false:=by simpa using k1
   rw [if_neg k1,k1']
   exact ⟨r,h1,h0,by rw [h2];simp⟩
 ·have hk':aIc p=false:=by simpa using hk
  rw [if_pos (by simp [hk']),hk']
  exact ⟨2,rfl,by omega,by simp⟩
end
noncomputable def aAC (l:List Definition) (d:Definition):Bool:=open Classical in decide (d.Body.length<=20/\∃ t:GTr bG,d.Body=t.flat/\t.WF fK/\∀ (i:Nat) p pl,d.Body[i]?=some p->(plT d.Parameters false t)[i]?=some pl->yZ l pl p=true)
theorem aEs:∀ (t:GTr bG) (s:Int) (b:Bool) (pl:dH),pl∈plT s b t->s<=pl.scope/\pl.scope<=s+t.flat.length
 |.nul p,s,b,pl,h=>by simp [plT] at h;subst h;simp;omega
 |.one p a,s,b,pl,h=>by
  have hb:=aKM s p
  simp only [plT,List.mem_cons] at h
  simp only [GTr.flat,List.length_cons]
  rcases h with rfl|h
  ·simp only;omega
  ·have:=aEs a _ _ pl h;omega
 |.two p a c,s,b,pl,h=>by
  have hb:=aKM s p
  simp only [plT,List.mem_cons,List.mem_append] at h
  simp only [GTr.flat,List.length_cons,List.length_append]
  rcases h with rfl|h|h
  ·simp only;omega
  ·have:=aEs a _ _ pl h;omega
  ·have:=aEs c _ _ pl h;omega
theorem tree_of {d:Definition} (h:jZ tt fK 1 d.Body=true):∃ t:GTr bG,d.Body=t.flat/\t.WF fK:=by
 obtain ⟨ts,h1,h2,h3⟩:=aFn aKf h
 match ts,h1 with
 |[t],_=>exact ⟨t,by rw [h2];simp,h3 t (by simp)⟩
theorem need_tree {d:Definition} {t:GTr bG} (h:d.Body=t.flat) (hw:t.WF fK):jZ tt fK 1 d.Body=true:=by
 have:=aHj (ok:=tt) t 0 [] hw (fun _ _=>rfl)
 rw [List.append_nil,←h] at this
 rw [this];rfl
theorem aQF:∀ (t u:GTr bG) (x y:List bG),t.WF fK->u.WF fK->t.flat++x=u.flat++y->t=u/\x=y:=by
 intro t
 induction t with
 |nul p=>
  intro u x y hw hu h
  cases u with
  |nul q=>simp [GTr.flat] at h;exact ⟨by rw [h.1],h.2⟩
  |one q a=>simp only [GTr.flat,List.cons_append,List.nil_append,List.cons.injEq] at h;rw [h.1] at hw;have h1:fK q=0:=hw;have h2:=hu.1;omega
  |two q a c=>simp only [GTr.flat,List.cons_append,List.nil_append,List.cons.injEq] at h;rw [h.1] at hw;have h1:fK q=0:=hw;have h2:=hu.1;omega
 |one p a iha=>
  intro u x y hw hu h
  cases u with
  |nul q=>simp only [GTr.flat,List.cons_append,List.nil_append,List.cons.injEq] at h;have h1:fK q=0:=hu;have h2:=hw.1;rw [h.1] at h2;omega
  |one q b=>
   simp only [GTr.flat,List.cons_append,List.cons.injEq] at h
   obtain ⟨e1,e2⟩:=iha b x y hw.2 hu.2 h.2
   exact ⟨by rw [h.1,e1],e2⟩
  |two q b c=>simp only [GTr.flat,List.cons_append,List.cons.injEq] at h;have h1:=hu.1;have h2:=hw.1;rw [h.1] at h2;omega
 |two p a c iha ihc=>
  intro u x y hw hu h
  cases u with
  |nul q=>simp only [GTr.flat,List.cons_append,List.nil_append,List.cons.injEq] at h;have h1:fK q=0:=hu;have h2:=hw.1;rw [h.1] at h2;omega
  |one q b=>simp only [GTr.flat,List.cons_append,List.cons.injEq] at h;have h1:=hu.1;have h2:=hw.1;rw [h.1] at h2;omega
  |two q b e=>
   simp only [GTr.flat,List.cons_append,List.cons.injEq,List.append_assoc] at h
   obtain ⟨e1,e2⟩:=iha b _ _ hw.2.1 hu.2.1 h.2
   obtain ⟨e3,e4⟩:=ihc e x y hw.2.2 hu.2.2 e2
   exact ⟨by rw [h.1,e1,e3],e4⟩
def PartFit (p:bG):Prop:=p.Name.length < 1000000000/\p.Arguments.length < 1000000000/\∀ e∈p.Arguments,e.length < 1000000000
theorem aOI {l:List Definition} {d:Definition} (hl:l.length<=1000000) (hb:d.Body.length < 1000000000) (hf:∀ p∈d.Body,PartFit p) (h0:0<=d.Parameters) (h3:d.Parameters<=3):
  (∃ r,vB l d=some r/\(r.2 != 0)=!aAC l d)/\(∃ r,aBE l d=some r/\decide (0 < r.2)=!aAC l d):=by
 classical
 have hbF:¬ (d.Body.length<=20/\jZ tt fK 1 d.Body=true)->aAC l d=false:=by
  intro h
  unfold aAC
  rw [decide_eq_false_iff_not]
  rintro ⟨g1,t,g2,g3,_⟩
  exact h ⟨g1,need_tree g2 g3⟩
 by_cases hsh:d.Body.length<=20/\jZ tt fK 1 d.Body=true
 ·obtain ⟨h20,hnd⟩:=hsh
  obtain ⟨t,ht,hw⟩:=tree_of hnd
  have hlen:(plT d.Parameters false t).length=d.Body.length:=by rw [oG,←ht]
  have hne:1<=d.Body.length:=by have:=aQw hnd;omega
  have hB:aAC l d=decide (∀ (i:Nat) p pl,d.Body[i]?=some p->(plT d.Parameters false t)[i]?=some pl->yZ l pl p=true):=by
   unfold aAC
   by_cases h:∀ (i:Nat) p pl,d.Body[i]?=some p->(plT d.Parameters false t)[i]?=some pl->yZ l pl p=true
   ·rw [decide_eq_true h,decide_eq_true_iff];exact ⟨h20,t,ht,hw,h⟩
   ·rw [decide_eq_false h,decide_eq_false_iff_not]
    rintro ⟨_,u,hu,hwu,hx⟩
    have:t=u:=(aQF t u [] [] hw hwu (by rw [List.append_nil,List.append_nil,←ht,←hu])).1
    subst this
    exact h hx
  have hsc:∀ (i:Nat) pl,(plT d.Parameters false t)[i]?=some pl->0<=pl.scope/\pl.scope<=29:=by
   intro i pl hp
   have:=aEs t _ _ pl (List.mem_of_getElem? hp)
   rw [←ht] at this
   omega
  have hall:∀ (k:Nat),k < d.Body.length->∃ p pl,d.Body[k]?=some p/\(plT d.Parameters false t)[k]?=some pl:=fun k hk=>⟨_,_,List.getElem?_eq_getElem hk,List.getElem?_eq_getElem (by omega)⟩
  let q:Nat->Bool:=fun k=>match d.Body[k]?,(plT d.Parameters false t)[k]? with|some p,some pl=>yZ l pl p|_,_=>true
  have hq:∀ k p pl,d.Body[k]?=some p->(plT d.Parameters false t)[k]?=some pl->q k=yZ l pl p:=fun k p pl h1 h2=>by show (match d.Body[k]?,(plT d.Parameters false t)[k]? with|some p,some pl=>yZ l pl p|_,_=>true)=_;rw [h1,h2]
  have hqB:∀ b:Bool,(b=true<->∀ k,0<=k->k < d.Body.length->q k=true)->b=aAC l d:=by
   intro b hbq
   rw [hB]
   by_cases h:∀ (i:Nat) p pl,d.Body[i]?=some p->(plT d.Parameters false t)[i]?=some pl->yZ l pl p=true
   ·rw [decide_eq_true h]
    exact hbq.2 (fun k _ hk=>by obtain ⟨p,pl,h1,h2⟩:=hall k hk;rw [hq k p pl h1 h2];exact h k p pl h1 h2)
   ·rw [decide_eq_false h]
    cases hb2:b
    ·rfl
    ·exact absurd (fun i p pl h1 h2=>by rw [←hq i p pl h1 h2];exact hbq.1 hb2 i (Nat.zero_le _) ((List.getElem?_eq_some_iff.1 h1).1)) h
  constructor
  ·unfold vB
   rw [fC,aA,if_neg (by simp;omega)]
   obtain ⟨re,hre,hre2⟩:=aQx (d:=d) hb
   rw [hre,aA,hre2,hnd]
   unfold qZ
   rw [if_neg (by simp),placesG ht hw h20 h0 h3,aA]
   have key:∀ k,k < d.Body.length->∃ r,pH (d.Body.getD k ⟨0,0,[],[]⟩) l ((plT d.Parameters false t).getD k ⟨0,false⟩)=some r/\(r != 0)=!q k:=by
    intro k hk
    obtain ⟨p,pl,h1,h2⟩:=hall k hk
    obtain ⟨s1,s2⟩:=hsc k pl h2
    obtain ⟨f1,f2,f3⟩:=hf p (List.mem_of_getElem? h1)
    obtain ⟨r,e1,e2⟩:=reason_I (l:=l) (p:=p) (pl:=pl) s1 s2 hl f1 f2 f3
    refine ⟨r,?_,by rw [e2,hq k p pl h1 h2]⟩
    simp only [List.getD,h1,h2,Option.getD_some];exact e1
   have hloop:=aBJ (step:=fun s=>qY l d (plT d.Parameters false t) s) (fun s=>0<=s/\s<=d.Body.length/\∀ j:Nat,(j:Int) < s->q j=true) (fun s=>d.Body.length - s.toNat) (fun r=>(∃ x,r=.inr x/\x.2≠0/\∃ j,j < d.Body.length/\q j=false)\/(r=.inl ()/\∀ j,j < d.Body.length->q j=true)) (fun s hI=>?_) (s:=0) ⟨by omega,by omega,fun j hj=>by omega⟩
   ·obtain ⟨r,hr,hR⟩:=hloop
    rw [hr,aA]
    rcases hR with ⟨x,rfl,hx,j,hj,hqj⟩|⟨rfl,hqa⟩
    ·refine ⟨x,rfl,?_⟩
     have:aAC l d=false:=by
      rw [←hqB false ⟨fun h=>(by cases h),fun h=>by rw [h j (Nat.zero_le _) hj] at hqj;cases hqj⟩]
     rw [this];simp [hx]
    ·refine ⟨(0,0),rfl,?_⟩
     rw [←hqB true ⟨fun _ k _ hk=>hqa k hk,fun _=>rfl⟩];rfl
   ·obtain ⟨h1,h2,h3'⟩:=hI
    obtain ⟨k,rfl⟩:∃ k:Nat,s=(k:Int):=⟨s.toNat,by omega⟩
    by_cases hk:k < d.Body.length
    ·obtain ⟨r,e1,e2⟩:=key k hk
     have g1:d.Body.getD k ⟨0,0,[],[]⟩=d.Body[k]:=by simp [List.getD,hk]
     have g2:(plT d.Parameters false t).getD k ⟨0,false⟩=(plT d.Parameters false t)[k]'(by omega):=by simp [List.getD,hlen,hk]
     rw [g1,g2] at e1
     have hst:qY l d (plT d.Parameters false t) (k:Int)=if (r != 0)=true then some (.inr (.inr ((k:Int),r))) else some (.inl ((k+1:Nat):Int)):=by
      unfold qY
      rw [if_pos (bV hk),bY hk,aA,bY (show k < (plT d.Parameters false t).length by omega),aA,e1,aA,bO hk (by omega)]
     rw [hst]
     by_cases hr:(r != 0)=true
     ·right;rw [if_pos hr]
      refine ⟨_,rfl,.inl ⟨_,rfl,by simpa using hr,k,hk,?_⟩⟩
      rw [hr] at e2;simpa using e2.symm
     ·left;rw [if_neg hr]
      have hr':(r != 0)=false:=by simpa using hr
      rw [hr'] at e2
      refine ⟨_,rfl,⟨by omega,by omega,fun j hj=>?_⟩,by omega⟩
      by_cases e:j=k
      ·subst e;simpa using e2.symm
      ·exact h3' j (by omega)
    ·obtain rfl:k=d.Body.length:=by omega
     right
     refine ⟨.inl (),?_,.inr ⟨rfl,fun j hj=>h3' j (by omega)⟩⟩
     unfold qY
     rw [if_neg (by simp)]
  ·unfold aBE
   rw [aOE _ hb,aA,hnd,if_neg (by simp;exact h20)]
   have key:∀ k,k < d.Body.length->∃ r,uZ l d (k:Int)=some r/\0<=r/\(r != 0)=!q k:=by
    intro k hk
    obtain ⟨p,pl,h1,h2⟩:=hall k hk
    obtain ⟨s1,s2⟩:=hsc k pl h2
    obtain ⟨f1,f2,f3⟩:=hf p (List.mem_of_getElem? h1)
    have hbe:=behind_eq t d.Parameters false k pl hw h2
    rw [←ht] at hbe
    obtain ⟨r,e1,e0,e2⟩:=reason_S (l:=l) (p:=p) (pl:=pl) hl h20 h1 (scope_eq ht hw h20 h0 h3 h2) hbe s1 s2 f2 f3
    exact ⟨r,e1,e0,by rw [e2,hq k p pl h1 h2]⟩
   have hloop:=aBJ (step:=fun s=>vZ l d s) (fun s=>0<=s/\s<=d.Body.length/\∀ j:Nat,(j:Int) < s->q j=true) (fun s=>d.Body.length - s.toNat) (fun r=>(∃ x,r=.inr x/\0 < x.2/\∃ j,j < d.Body.length/\q j=false)\/(r=.inl ()/\∀ j,j < d.Body.length->q j=true)) (fun s hI=>?_) (s:=0) ⟨by omega,by omega,fun j hj=>by omega⟩
   ·obtain ⟨r,hr,hR⟩:=hloop
    rw [hr,aA]
    rcases hR with ⟨x,rfl,hx,j,hj,hqj⟩|⟨rfl,hqa⟩
    ·refine ⟨x,rfl,?_⟩
     have:aAC l d=false:=by
      rw [←hqB false ⟨fun h=>(by cases h),fun h=>by rw [h j (Nat.zero_le _) hj] at hqj;cases hqj⟩]
     rw [this];simp [hx]
    ·refine ⟨(0,0),rfl,?_⟩
     rw [←hqB true ⟨fun _ k _ hk=>hqa k hk,fun _=>rfl⟩];rfl
   ·obtain ⟨h1,h2,h3'⟩:=hI
    obtain ⟨k,rfl⟩:∃ k:Nat,s=(k:Int):=⟨s.toNat,by omega⟩
    by_cases hk:k < d.Body.length
    ·obtain ⟨r,e1,e0,e2⟩:=key k hk
     have hst:vZ l d (k:Int)=if decide (0 < r)=true then some (.inr (.inr ((k:Int),r))) else some (.inl ((k+1:Nat):Int)):=by
      unfold vZ
      rw [if_pos (bV hk),e1,aA,bO hk (by omega)]
     have hr2:decide (0 < r)=(r != 0):=by
      by_cases h:r=0
      ·simp [h]
      ·have:0 < r:=by omega
       simp [h,this]
     rw [hst,hr2]
     by_cases hr:(r != 0)=true
     ·right;rw [if_pos hr]
      refine ⟨_,rfl,.inl ⟨_,rfl,by rw [hr] at hr2;simpa using hr2,k,hk,?_⟩⟩
      rw [hr] at e2;simpa using e2.symm
     ·left;rw [if_neg hr]
      have hr':(r != 0)=false:=by simpa using hr
      rw [hr'] at e2
      refine ⟨_,rfl,⟨by omega,by omega,fun j hj=>?_⟩,by omega⟩
      by_cases e:j=k
      ·subst e;simpa using e2.symm
      ·exact h3' j (by omega)
    ·obtain rfl:k=d.Body.length:=by omega
     right
     refine ⟨.inl (),?_,.inr ⟨rfl,fun j hj=>h3' j (by omega)⟩⟩
     unfold vZ
     rw [if_neg (by simp)]
 ·rw [hbF hsh]
  constructor
  ·unfold vB
   rw [fC,aA]
   by_cases hz:(decide (1<=(d.Body.length:Int))&&decide ((d.Body.length:Int)<=20))=true
   ·rw [if_neg (by rw [hz];simp)]
    simp only [Bool.and_eq_true,decide_eq_true_eq] at hz
    obtain ⟨re,hre,hre2⟩:=aQx (d:=d) hb
    have hnd:jZ tt fK 1 d.Body=false:=by
     cases h:jZ tt fK 1 d.Body
     ·rfl
     ·exact absurd ⟨by omega,h⟩ hsh
    rw [hre,aA,hre2,hnd]
    exact ⟨(0,1),rfl,rfl⟩
   ·have hz':(decide (1<=(d.Body.length:Int))&&decide ((d.Body.length:Int)<=20))=false:=by simpa using hz
    rw [hz']
    exact ⟨(0,1),rfl,rfl⟩
  ·unfold aBE
   have hz:(decide (d.Body.length<=20)&&jZ tt fK 1 d.Body)=false:=by
    rw [Bool.and_eq_false_iff]
    by_cases h:d.Body.length<=20
    ·right
     cases h2:jZ tt fK 1 d.Body
     ·rfl
     ·exact absurd ⟨h,h2⟩ hsh
    ·left;simpa using h
   rw [aOE _ hb,aA,hz]
   exact ⟨(0,1),rfl,rfl⟩
end Gv
namespace Gv
def aFq (d:Definition):Bool:=decide (0<=d.Parameters)&&decide (d.Parameters<=3)
theorem aRK (l:List Definition) (hl:l.length < 1000000000):cM l=some (!l.all aFq):=by
 unfold cM cU
 have:=aNt (step:=fun s=>bX l s) l (fun d=>!aFq d) (by omega) (fun k x hk hix hm=>?_) ?_
 ·have e:(l.any fun d=>!aFq d)=!l.all aFq:=by simp [List.any_eq_not_all_not]
  rw [←e,←this];rfl
 ·simp only [bX,bV hk,if_true,hix,aA,wU,fC]
  rfl
 ·simp only [bX,bL];rfl
theorem params_eq (l:List Definition) (hl:l.length < 1000000000):wV l=some (l.all aFq):=by
 unfold wV
 rw [aRK l hl,aA,Bool.not_not]
theorem named_eq (l:List Definition) (n:aL) (hl:l.length < 1000000000):∃ r,lX l n=some r/\decide (0<=r)=l.any (fun d=>d.Name == n):=by
 unfold lX cN
 rw [aHh (step:=fun s=>bQ l n s) l (fun d=>d.Name == n) (fun k x hk hx=>by simp only [bQ,bV hk,if_true,hx,aA,qW,bO hk (show l.length < 4611686018427387904 by omega)]) (by simp only [bQ,bL];rfl),aA,←aNg]
 cases l.findIdx? (fun d=>d.Name == n) with
 |none=>exact ⟨-1,rfl,rfl⟩
 |some i=>exact ⟨i,rfl,by simp⟩
def sH (l:List Definition):Prop:=1<=l.length/\l.length<=4/\(∀ d∈l,aFq d=true)/\(∀ d∈l,aAC l d=true)/\∀ k (hk:k < l.length),oE l[k].Name=true/\(l.take k).any (fun d=>d.Name == l[k].Name)=false
def DefFit (d:Definition):Prop:=d.Name.length < 1000000000/\d.Body.length < 1000000000/\∀ p∈d.Body,PartFit p
theorem aOJ {α:Type} {xs:List α} {k:Nat} (h:k<=xs.length):slc xs 0 (k:Int)=some (xs.take k):=by
 unfold slc
 rw [if_pos ⟨by omega,by omega,by simpa using h⟩]
 simp
theorem defs_I (l:List Definition) (hl:l.length<=1000000) (hf:∀ d∈l,DefFit d):gX l=some (cl (sH l)):=by
 unfold gX
 rw [fC,aA]
 by_cases hz:1<=l.length/\l.length<=4
 ·rw [if_neg (by simp;omega),params_eq l (by omega),aA]
  unfold iY
  cases hp:l.all aFq with
  |false=>
   rw [if_pos (by rfl),kP]
   intro h
   have:=List.all_eq_true.2 h.2.2.1
   rw [hp] at this;cases this
  |true=>
   have hp':=List.all_eq_true.1 hp
   rw [if_neg (by simp)]
   have:=pJ (step:=fun s=>iX l s) l.length 0 (fun k=>∀ hk:k < l.length,(oE l[k].Name=true/\(l.take k).any (fun d=>d.Name == l[k].Name)=false)/\aAC l l[k]=true) (.inr false) (.inl ()) (Nat.zero_le _) (fun k h0 hk=>?_) (by simp only [iX,bL];rfl)
   ·rw [show (0:Int)=((0:Nat):Int) from rfl,this,aA]
    by_cases hs:∀ k,0<=k->k < l.length->∀ hk:k < l.length,(oE l[k].Name=true/\(l.take k).any (fun d=>d.Name == l[k].Name)=false)/\aAC l l[k]=true
    ·rw [if_pos (xJ hs),xJ]
     ·rfl
     ·refine ⟨hz.1,hz.2,hp',fun d hd=>?_,fun k hk=>(hs k (Nat.zero_le _) hk hk).1⟩
      obtain ⟨k,hk,rfl⟩:=List.getElem_of_mem hd
      exact (hs k (Nat.zero_le _) hk hk).2
    ·rw [if_neg (by rw [uQ];exact hs),kP]
     intro h
     exact hs fun k _ hk _=>⟨h.2.2.2.2 k hk,h.2.2.2.1 _ (List.getElem_mem hk)⟩
   ·obtain ⟨f1,f2,f3⟩:=hf _ (List.getElem_mem hk)
    have hpk:=hp' _ (List.getElem_mem hk)
    simp only [aFq,Bool.and_eq_true,decide_eq_true_eq] at hpk
    have htk:(l.take k).length < 1000000000:=by rw [List.length_take];omega
    obtain ⟨r,hr1,hr2⟩:=named_eq (l.take k) l[k].Name htk
    obtain ⟨⟨r2,hb1,hb2⟩,_⟩:=aOI (l:=l) (d:=l[k]) hl f2 f3 hpk.1 hpk.2
    unfold iX lH
    rw [if_pos (bV hk),bY hk,aA,aHg _ (by omega),aA,aOJ (by omega),aA,hr1,aA,hr2,hb1,aA,hb2,bO hk (by omega)]
    cases hn:oE l[k].Name with
    |false=>rw [kP (fun h=>by have:=(h hk).1.1;rw [hn] at this;cases this)];rfl
    |true=>
     cases ha:(l.take k).any (fun d=>d.Name == l[k].Name) with
     |true=>rw [kP (fun h=>by have:=(h hk).1.2;rw [ha] at this;cases this)];rfl
     |false=>
      cases hb:aAC l l[k] with
      |false=>rw [kP (fun h=>by have:=(h hk).2;rw [hb] at this;cases this)];rfl
      |true=>rw [xJ (fun _=>⟨⟨hn,ha⟩,hb⟩)];rfl
 ·have:(decide (1<=(l.length:Int))&&decide ((l.length:Int)<=4))=false:=by
   rw [Bool.and_eq_false_iff]
   by_cases h:1<=l.length
   ·right;simp;omega
   ·left;simp;omega
  rw [this,kP (fun h=>hz ⟨h.1,h.2.1⟩)];rfl
theorem defs_S (l:List Definition) (hl:l.length<=1000000) (hf:∀ d∈l,DefFit d):yG l=some (cl (sH l)):=by
 unfold yG
 by_cases h0:l.length=0
 ·rw [if_pos (by simp [h0]),kP (fun h:sH l=>by have:=h.1;omega)];rfl
 rw [if_neg (by simp;intro h;simp [h] at h0)]
 unfold rN
 by_cases h4:4 < l.length
 ·rw [if_pos (by simp;omega),kP (fun h:sH l=>by have:=h.2.1;omega)]
 rw [if_neg (by simp;omega)]
 have key:=pJ (step:=fun s=>wC l s) l.length 0 (fun k=>∀ hk:k < l.length,(oE l[k].Name=true/\(l.take k).any (fun d=>d.Name == l[k].Name)=false)/\aFq l[k]=true) (.inr false) (.inl ()) (Nat.zero_le _) (fun k h0 hk=>?_) (by simp only [wC,bL];rfl)
 ·rw [show (0:Int)=((0:Nat):Int) from rfl,key,aA]
  by_cases hs:∀ k,0<=k->k < l.length->∀ hk:k < l.length,(oE l[k].Name=true/\(l.take k).any (fun d=>d.Name == l[k].Name)=false)/\aFq l[k]=true
  ·rw [if_pos (xJ hs)]
   show wA l=_
   have hp':∀ d∈l,aFq d=true:=fun d hd=>by obtain ⟨k,hk,rfl⟩:=List.getElem_of_mem hd;exact (hs k (Nat.zero_le _) hk hk).2
   unfold wA
   have key2:=pJ (step:=fun s=>aBh l s) l.length 0 (fun k=>∀ hk:k < l.length,aAC l l[k]=true) (.inr false) (.inl ()) (Nat.zero_le _) (fun k h0 hk=>?_) (by simp only [aBh,bL];rfl)
   ·rw [show (0:Int)=((0:Nat):Int) from rfl,key2,aA]
    by_cases hb:∀ k,0<=k->k < l.length->∀ hk:k < l.length,aAC l l[k]=true
    ·rw [if_pos (xJ hb),xJ (P:=sH l)]
     ·rfl
     ·exact ⟨by omega,by omega,hp',fun d hd=>by obtain ⟨k,hk,rfl⟩:=List.getElem_of_mem hd;exact hb k (Nat.zero_le _) hk hk,fun k hk=>(hs k (Nat.zero_le _) hk hk).1⟩
    ·rw [if_neg (by rw [uQ];exact hb),kP (P:=sH l) (fun h=>hb fun k _ hk _=>h.2.2.2.1 _ (List.getElem_mem hk))]
   ·obtain ⟨f1,f2,f3⟩:=hf _ (List.getElem_mem hk)
    have hpk:=hp' _ (List.getElem_mem hk)
    simp only [aFq,Bool.and_eq_true,decide_eq_true_eq] at hpk
    obtain ⟨_,r2,hb1,hb2⟩:=aOI (l:=l) (d:=l[k]) hl f2 f3 hpk.1 hpk.2
    unfold aBh
    rw [if_pos (bV hk),bY hk,aA,hb1,aA,hb2,bO hk (by omega)]
    cases hb:aAC l l[k] with
    |false=>rw [kP (fun h=>by have:=h hk;rw [hb] at this;cases this)];rfl
    |true=>rw [xJ (fun _=>hb)];rfl
  ·rw [if_neg (by rw [uQ];exact hs),kP (P:=sH l) (fun h=>hs fun k _ hk _=>⟨h.2.2.2.2 k hk,h.2.2.1 _ (List.getElem_mem hk)⟩)]
 ·unfold wC
  rw [if_pos (bV hk),bY hk,aA,aCG,aA,oU,aA]
  unfold wB
  have inner:=pJ (step:=fun s=>aBk l (k:Int) s) k 0 (fun j=>∀ hj:j < l.length,¬ (l[j].Name == l[k].Name)=true) (.inr false) (.inl ()) (Nat.zero_le _) (fun j _ hj=>?_) (by unfold aBk;rw [if_neg (by simp)])
  ·rw [show (0:Int)=((0:Nat):Int) from rfl,inner,aA]
   have hpar:(decide ((((0:Nat):Int))<=l[k].Parameters)&&decide (l[k].Parameters<=3))=aFq l[k]:=rfl
   have hany:cl (∀ j,0<=j->j < k->∀ hj:j < l.length,¬ (l[j].Name == l[k].Name)=true)=!(l.take k).any (fun d=>d.Name == l[k].Name):=by
    cases ha:(l.take k).any (fun d=>d.Name == l[k].Name) with
    |true=>
     rw [kP];· rfl
     intro h
     obtain ⟨d,hd,hdn⟩:=List.any_eq_true.1 ha
     obtain ⟨j,hj,rfl⟩:=List.getElem_of_mem hd
     rw [List.length_take] at hj
     rw [List.getElem_take] at hdn
     exact h j (Nat.zero_le _) (by omega) (by omega) hdn
    |false=>
     rw [xJ];· rfl
     intro j _ hj hjl hn
     have:=List.any_eq_false.1 ha l[j] (by rw [List.mem_iff_getElem];exact ⟨j,by rw [List.length_take];omega,by rw [List.getElem_take]⟩)
     exact this hn
   rw [hany]
   cases hn:oE l[k].Name with
   |false=>rw [kP (fun h=>by have:=(h hk).1.1;rw [hn] at this;cases this)];rfl
   |true=>
    cases hpb:aFq l[k] with
    |false=>
     rw [kP (fun h=>by have:=(h hk).2;rw [hpb] at this;cases this)]
     have:(decide (0<=l[k].Parameters)&&decide (l[k].Parameters<=3))=false:=hpb
     rw [show ((0:Nat):Int)=0 from rfl,this];rfl
    |true=>
     have:(decide (0<=l[k].Parameters)&&decide (l[k].Parameters<=3))=true:=hpb
     rw [show ((0:Nat):Int)=0 from rfl,this]
     cases ha:(l.take k).any (fun d=>d.Name == l[k].Name) with
     |true=>rw [kP (fun h=>by have:=(h hk).1.2;rw [ha] at this;cases this)];rfl
     |false=>
      rw [xJ (fun _=>⟨⟨hn,ha⟩,hpb⟩)]
      show aBj (k:Int)=_
      unfold aBj aBi
      rw [bO hk (by omega)];rfl
  ·unfold aBk
   rw [if_pos (bV hj),bY (show j < l.length by omega),aA,bY hk,aA,bO (show j < l.length by omega) (by omega)]
   cases he:(l[j].Name == l[k].Name) with
   |true=>rw [kP (fun h=>h (by omega) he)];rfl
   |false=>rw [xJ (fun _=>by rw [he];simp)];rfl
def aAD (l:List Definition) (c:aY):Bool:=decide (0<=c.Definition)&&decide (c.Definition < (l.length:Int))&&(c.Values.length:Int) == (l.getD c.Definition.toNat ⟨[],0,[]⟩).Parameters&&c.Values.all vG
theorem aRM (xs:List Int) (h:xs.length < 4611686018427387904):aDZ xs=some (xs.all vG):=by
 unfold aDZ
 rw [aEo (step:=fun s=>aBl xs s) xs vG (.inr false) (.inl ()) (fun k x hk hx=>by
  simp only [aBl,bV hk,if_pos,hx,aA,oU,bO hk h]
  show (if (!vG x)=true then _ else _)=_
  cases vG x<;>rfl) (by simp only [aBl,bL];rfl),aA]
 cases xs.all vG<;>rfl
theorem comp_I {l:List Definition} {c:aY} (hl:l.length<=1000000) (hc:c.Values.length < 1000000000):tL l c=some (aAD l c):=by
 unfold tL nD aAD
 rw [aOG _ _ (by omega) (by omega),aA]
 have hle:(decide (0<=c.Definition)&&decide (c.Definition<=(l.length:Int) - 1))=(decide (0<=c.Definition)&&decide (c.Definition < (l.length:Int))):=by
  congr 1;by_cases h:c.Definition < (l.length:Int)
  ·simp [h];omega
  ·simp [h];omega
 rw [hle]
 by_cases hb:(decide (0<=c.Definition)&&decide (c.Definition < (l.length:Int)))=true
 ·have hb2:=hb
  simp only [Bool.and_eq_true,decide_eq_true_eq] at hb2
  have hlt:c.Definition.toNat < l.length:=by omega
  have hix:ix l c.Definition=some (l[c.Definition.toNat]'hlt):=by unfold ix;rw [if_pos hb2.1];simp [hlt]
  have hg:l.getD c.Definition.toNat ⟨[],0,[]⟩=l[c.Definition.toNat]:=by simp [List.getD,hlt]
  rw [hb,if_pos rfl,hix,aA,hg,Bool.true_and]
  cases h:(c.Values.length:Int) == l[c.Definition.toNat].Parameters with
  |true=>rw [if_pos rfl,aKb _ (by omega)];rfl
  |false=>rfl
 ·have hb':(decide (0<=c.Definition)&&decide (c.Definition < (l.length:Int)))=false:=by simpa using hb
  rw [hb'];rfl
theorem comps_I {s:bM} (hl:s.Definitions.length<=1000000) (hn:s.Components.length < 1000000000) (hc:∀ c∈s.Components,c.Values.length < 1000000000):cQ s.Components s=some (!s.Components.all (aAD s.Definitions)):=by
 unfold cQ dB
 have:=aNt (step:=fun x=>cA s.Components s x) s.Components (fun c=>!aAD s.Definitions c) (by omega) (fun k x hk hix hm=>?_) ?_
 ·have e:(s.Components.any fun c=>!aAD s.Definitions c)=!s.Components.all (aAD s.Definitions):=by simp [List.any_eq_not_all_not]
  rw [←e,←this];rfl
 ·simp only [cA,bV hk,if_true,hix,aA,yU,comp_I hl (hc x hm)]
 ·simp only [cA,bL];rfl
theorem comps_S {s:bM} (hl:s.Definitions.length<=1000000) (hn:s.Components.length < 1000000000) (hc:∀ c∈s.Components,c.Values.length < 1000000000):oO s=some (decide (1<=s.Components.length)&&decide (s.Components.length<=3)&&s.Components.all (aAD s.Definitions)):=by
 unfold oO
 by_cases h0:s.Components.length=0
 ·rw [if_pos (by simp [h0]),h0];rfl
 rw [if_neg (by simp;intro h;simp [h] at h0)]
 unfold lC
 by_cases h4:3 < s.Components.length
 ·rw [if_pos (by simp;omega)]
  have:decide (s.Components.length<=3)=false:=by simp;omega
  rw [this];simp
 rw [if_neg (by simp;omega)]
 have e1:decide (1<=s.Components.length)=true:=by simp;omega
 have e2:decide (s.Components.length<=3)=true:=by simp;omega
 rw [e1,e2,aEo (step:=fun x=>lB s x) s.Components (aAD s.Definitions) (.inr false) (.inl ()) (fun k x hk hix=>?_) (by simp only [lB,bL];rfl),aA]
 ·cases s.Components.all (aAD s.Definitions)<;>rfl
 ·have hm:x∈s.Components:=by rw [bY hk] at hix;cases hix;exact List.getElem_mem hk
  have hw:wr ((s.Definitions.length:Int) - 1)=(s.Definitions.length:Int) - 1:=dW (by omega) (by omega)
  have hle:(decide (0<=x.Definition)&&decide (x.Definition<=(s.Definitions.length:Int) - 1))=(decide (0<=x.Definition)&&decide (x.Definition < (s.Definitions.length:Int))):=by
   congr 1;by_cases h:x.Definition < (s.Definitions.length:Int)
   ·simp [h];omega
   ·simp [h];omega
  unfold lB nT aAD
  rw [if_pos (bV hk),hix,aA,hw,oU,aA,hle,bO hk (by omega)]
  by_cases hb:(decide (0<=x.Definition)&&decide (x.Definition < (s.Definitions.length:Int)))=true
  ·have hb2:=hb
   simp only [Bool.and_eq_true,decide_eq_true_eq] at hb2
   have hlt:x.Definition.toNat < s.Definitions.length:=by omega
   have hdx:ix s.Definitions x.Definition=some (s.Definitions[x.Definition.toNat]'hlt):=by unfold ix;rw [if_pos hb2.1];simp [hlt]
   have hg:s.Definitions.getD x.Definition.toNat ⟨[],0,[]⟩=s.Definitions[x.Definition.toNat]:=by simp [List.getD,hlt]
   rw [hb,if_neg (by simp),hdx,aA,hg,Bool.true_and,aRM _ (by have:=hc x hm;omega),aA,bne]
   cases (x.Values.length:Int) == s.Definitions[x.Definition.toNat].Parameters<;>cases x.Values.all vG<;>rfl
  ·have hb':(decide (0<=x.Definition)&&decide (x.Definition < (s.Definitions.length:Int)))=false:=by simpa using hb
   rw [hb'];rfl
structure SysOk (s:bM):Prop where
 defs:sH s.Definitions
 n1:1<=s.Components.length
 n3:s.Components.length<=3
 comp:∀ c∈s.Components,aAD s.Definitions c=true
 meet:∀ m∈s.Meetings,gH m.Left=true/\gH m.Right=true/\gH m.Result=true
 alw:qE s.Allowed
 hid:qE s.Hidden
theorem aQG {ms:List bB} (hl:ms.length<=sz) (hm:∀ m∈ms,aKd sz m) (h:oB ms=some true):∀ m∈ms,gH m.Left=true/\gH m.Right=true/\gH m.Result=true:=by
 have hget:∀ {k:Nat} (hk:k < ms.length),ms.getD k ⟨[],[],[]⟩=ms[k]:=fun hk=>by rw [List.getD_eq_getElem?_getD,List.getElem?_eq_getElem hk];rfl
 obtain ⟨b,hb,hi⟩:=vE (step:=fun s=>iO ms s) ms.length 0 (fun k=>mtB ms k (ms.getD k ⟨[],[],[]⟩)) (.inr false) (.inl ()) (Nat.zero_le _) (fun k _ hk=>by rw [hget hk];exact meet_i ms hl hm hk) (by simp only [iO,bL];rfl)
 unfold oB at h
 rw [show (0:Int)=((0:Nat):Int) from rfl,hi,aA] at h
 cases b with
 |false=>cases h
 |true=>
  intro m hmem
  obtain ⟨k,hk,rfl⟩:=List.getElem_of_mem hmem
  have:=hb.1 rfl k (Nat.zero_le _) hk
  rw [hget hk] at this
  simp only [mtB,Bool.and_eq_true] at this
  exact ⟨this.1.1.1.1.1,this.1.1.1.1.2,this.1.1.1.2⟩
theorem aNv {s:bM} (hz:zSys s<=sz):∃ B,mF s=some B/\aJq s=some B/\(B=true->SysOk s):=by
 have hf:=aGO hz
 obtain ⟨g1,g2,g3,g4,g5,g6,g7,g8,g9,g10⟩:=hf
 have hsz:sz=1048576:=rfl
 have hd1:s.Definitions.length<=1000000\/1000000 < s.Definitions.length:=by omega
 have hdf:∀ d∈s.Definitions,DefFit d:=fun d hd=>by
  obtain ⟨x,y,z⟩:=g2 d hd
  exact ⟨by omega,by omega,fun p hp=>let ⟨u,v,q⟩:=z p hp;⟨by omega,by omega,fun e he=>by have:=q e he;omega⟩⟩
 have hm:∀ m∈s.Meetings,aKd sz m:=g6
 obtain ⟨B,m1,m2⟩:=aRy s.Meetings g5 hm
 have a1:=aNn s.Allowed (by omega) (fun t ht=>by have:=g8 t ht;omega)
 have a2:=aLk s.Allowed (by omega)
 have b1:=aNn s.Hidden (by omega) (fun t ht=>by have:=g10 t ht;omega)
 have b2:=aLk s.Hidden (by omega)
 have hbig:1000000 < s.Definitions.length->gX s.Definitions=some false/\yG s.Definitions=some false:=by
  intro h
  constructor
  ·unfold gX
   rw [fC,aA]
   have:(decide (1<=(s.Definitions.length:Int))&&decide ((s.Definitions.length:Int)<=4))=false:=by
    rw [Bool.and_eq_false_iff];right;simp;omega
   rw [this];rfl
  ·unfold yG rN
   have h1:((s.Definitions.length:Int) == 0)=false:=by simp;intro h2;simp [h2] at h
   have h2:decide (4 < (s.Definitions.length:Int))=true:=by simp;omega
   rw [h1,h2];rfl
 rcases hd1 with hd1|hd1
 ·have d1:=defs_I _ hd1 hdf
  have d2:=defs_S _ hd1 hdf
  have c1:=comps_I (s:=s) hd1 (by omega) (fun c hc=>by have:=g4 c hc;omega)
  have c2:=comps_S (s:=s) hd1 (by omega) (fun c hc=>by have:=g4 c hc;omega)
  let C:=decide (1<=s.Components.length)&&decide (s.Components.length<=3)&&s.Components.all (aAD s.Definitions)
  refine ⟨cl (sH s.Definitions)&&C&&B&&cl (qE s.Allowed)&&cl (qE s.Hidden),?_,?_,?_⟩
  ·unfold mF tM
   rw [d1,aA,fC,aA,c1,aA]
   have hC:(decide (1<=(s.Components.length:Int))&&decide ((s.Components.length:Int)<=3))=(decide (1<=s.Components.length)&&decide (s.Components.length<=3)):=by
    have e1:decide (1<=(s.Components.length:Int))=decide (1<=s.Components.length):=by simp;omega
    have e2:decide ((s.Components.length:Int)<=3)=decide (s.Components.length<=3):=by simp;omega
    rw [e1,e2]
   rw [hC]
   unfold rV
   rw [m1,a1,b1]
   show _=some (cl (sH s.Definitions)&&(decide (1<=s.Components.length)&&decide (s.Components.length<=3)&&s.Components.all (aAD s.Definitions))&&B&&cl (qE s.Allowed)&&cl (qE s.Hidden))
   cases cl (sH s.Definitions)<;>cases (decide (1<=s.Components.length)&&decide (s.Components.length<=3))<;>cases s.Components.all (aAD s.Definitions)<;>cases B<;>cases cl (qE s.Allowed)<;>cases cl (qE s.Hidden)<;>rfl
  ·unfold aJq aET
   rw [d2,aA,c2,aA,m2,aA,a2,aA,b2,aA]
   show _=some (cl (sH s.Definitions)&&(decide (1<=s.Components.length)&&decide (s.Components.length<=3)&&s.Components.all (aAD s.Definitions))&&B&&cl (qE s.Allowed)&&cl (qE s.Hidden))
   cases cl (sH s.Definitions)<;>cases (decide (1<=s.Components.length)&&decide (s.Components.length<=3)&&s.Components.all (aAD s.Definitions))<;>cases B<;>cases cl (qE s.Allowed)<;>cases cl (qE s.Hidden)<;>rfl
  ·intro h
   simp only [Bool.and_eq_true,C] at h
   obtain ⟨⟨⟨⟨h1,⟨⟨h2,h3⟩,h4⟩⟩,h5⟩,h6⟩,h7⟩:=h
   subst h5
   exact ⟨(uQ).1 h1,by simpa using h2,by simpa using h3,List.all_eq_true.1 h4,aQG g5 hm m1,(uQ).1 h6,(uQ).1 h7⟩
 ·obtain ⟨e1,e2⟩:=hbig hd1
  refine ⟨false,?_,?_,fun h=>by cases h⟩
  ·unfold mF tM
   rw [e1];rfl
  ·unfold aJq aET
   rw [e2];rfl
end Gv
