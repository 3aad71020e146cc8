/- Validity of plants, on both sides. -/
import Derived.Test.YtpkpcpikpobloaaGreatDoorJP12
set_option linter.all false
namespace Gv
open Go
def aQq (lo hi:Int) (xs:List Int):Prop:=∀ k,(hk:k < xs.length)->(lo<=xs[k]/\xs[k]<=hi)/\(1<=k->(xs[k - 1]'(by omega)) < xs[k])
theorem aQq.nat {lo hi:Int} {xs:List Int} (h:aQq lo hi xs) (hlo:0<=lo) (k:Nat) (hk:k < xs.length):lo+k<=xs[k]:=by
 induction k with
 |zero=>have:=(h 0 hk).1.1;omega
 |succ k ih=>
  have h1:=ih (by omega)
  have h2:=(h (k+1) hk).2 (by omega)
  simp only [Nat.add_sub_cancel] at h2
  omega
theorem aQq.len {hi:Int} {xs:List Int} (h:aQq 0 hi xs) (hh:-1<=hi):(xs.length:Int)<=hi+1:=by
 by_cases h0:xs.length=0
 ·omega
 ·have h1:=h.nat (Int.le_refl 0) (xs.length - 1) (by omega)
  have h2:=(h (xs.length - 1) (by omega)).1.2
  omega
def qK (xs:List aK):Prop:=xs.length<=12/\(∀ s∈xs,gJ s=true)/\∀ k,1<=k->(hk:k < xs.length)->nT (xs[k - 1]'(by omega)) xs[k]=true
theorem aOY (xs:List aK) (h:xs.length < 1000000000):wO xs=some (xs.all gJ):=by
 unfold wO
 rw [aEG (step:=fun s=>uK xs s) xs gJ (.inr false) (.inl ()) (fun k x hk hx=>by
  simp only [uK,bQ hk,if_pos,hx,aA,sI,bN hk (show xs.length < 4611686018427387904 by omega)]
  cases gJ x<;>rfl) (by simp only [uK,bK];rfl),aA]
 cases xs.all gJ<;>rfl
theorem aLX (xs:List aK) (h:xs.length < 1000000000):yU xs=some (cl (qK xs)):=by
 unfold yU
 by_cases h12:12 < xs.length
 ·rw [if_pos (by simp only [decide_eq_true_eq];omega),kT (fun h:qK xs=>absurd h.1 (by omega))];rfl
 rw [if_neg (by simp only [decide_eq_true_eq];omega),aOY xs h,aA]
 cases ha:xs.all gJ with
 |false=>rw [kT (fun h:qK xs=>by have:=List.all_eq_true.2 h.2.1;rw [ha] at this;cases this)];rfl
 |true=>
  have ha':=List.all_eq_true.1 ha
  unfold tH
  simp only [Bool.not_true,Bool.false_eq_true,if_false]
  cases xs with
  |nil=>
   rw [bE,show tG [] 1=some (.inr (.inl ())) from rfl,aA]
   rw [xW (P:=qK []) ⟨by simp,by simp,by intro k _ hk;simp at hk⟩];rfl
  |cons a l=>
   have:=pQ (step:=fun s=>tG (a::l) s) (a::l).length 1 (fun k=>∀ hk:k < (a::l).length,nT ((a::l)[k - 1]'(by omega)) (a::l)[k]=true) (.inr false) (.inl ()) (by simp) (fun k h0 hk=>?_) (by simp only [tG,bK];rfl)
   ·rw [show (1:Int)=((1:Nat):Int) from rfl,this,aA]
    by_cases hs:∀ k,1<=k->k < (a::l).length->∀ hk:k < (a::l).length,nT ((a::l)[k - 1]'(by omega)) (a::l)[k]=true
    ·rw [if_pos (xW hs),xW (P:=qK (a::l)) ⟨by omega,ha',fun k h1 hk=>hs k h1 hk hk⟩];rfl
    ·rw [if_neg (by rw [vE];exact hs),kT (P:=qK (a::l)) (fun h=>hs fun k h1 hk _=>h.2.2 k h1 hk)]
   ·have hk1:wr ((k:Int) - 1)=((k - 1:Nat):Int):=by rw [dS (by omega) (by omega)];omega
    simp only [tG,bQ hk,if_pos,hk1,bU (xs:=a::l) (k:=k - 1) (by omega),bU hk,aA,bN hk (show (a::l).length < 4611686018427387904 by omega)]
    rw [aIF (b:=nT ((a::l)[k - 1]'(by omega)) (a::l)[k]) ⟨fun h _=>h,fun h=>h hk⟩]
    cases nT ((a::l)[k - 1]'(by omega)) (a::l)[k]<;>rfl
theorem aOj (xs:List aK) (h:xs.length < 1000000000) (h2:∀ s∈xs,s.length < 1000000000):aBR xs=some (cl (qK xs)):=by
 unfold aBR
 have:=pQ (step:=fun s=>xI xs s) xs.length 0 (fun k=>∀ hk:k < xs.length,gJ xs[k]=true/\(1<=k->nT (xs[k - 1]'(by omega)) xs[k]=true)) (.inr false) (.inl ()) (Nat.zero_le _) (fun k h0 hk=>?_) (by simp only [xI,bK];rfl)
 ·rw [show (0:Int)=((0:Nat):Int) from rfl,this,aA]
  by_cases hs:∀ k,0<=k->k < xs.length->∀ hk:k < xs.length,gJ xs[k]=true/\(1<=k->nT (xs[k - 1]'(by omega)) xs[k]=true)
  ·rw [if_pos (xW hs)]
   unfold aFr
   have e:decide ((xs.length:Int)<=12)=cl (qK xs):=by
    rw [aIF (P:=qK xs) (b:=decide ((xs.length:Int)<=12))]
    simp only [decide_eq_true_eq]
    refine ⟨fun h=>⟨by omega,fun s hs'=>?_,fun k h1 hk=>(hs k (by omega) hk hk).2 h1⟩,fun h=>by have:=h.1;omega⟩
    obtain ⟨k,hk,rfl⟩:=List.getElem_of_mem hs'
    exact (hs k (by omega) hk hk).1
   simp only [e]
  ·rw [if_neg (by rw [vE];exact hs),kT (P:=qK xs) (fun h=>hs fun k h1 hk _=>⟨h.2.1 _ (List.getElem_mem hk),fun h1=>h.2.2 k h1 hk⟩)]
 ·simp only [xI,bQ hk,if_pos,bU hk,aA,xH,bN hk (show xs.length < 4611686018427387904 by omega),rO _ (show xs[k].length < 4611686018427387904 by have:=h2 _ (List.getElem_mem hk);omega)]
  cases ha:gJ xs[k] with
  |false=>rw [kT (fun h=>by have:=(h hk).1;rw [ha] at this;cases this)];rfl
  |true=>
   simp only [Bool.not_true,Bool.false_eq_true,if_false]
   by_cases h1:1<=k
   ·have hk1:wr ((k:Int) - 1)=((k - 1:Nat):Int):=by rw [dS (by omega) (by omega)];omega
    rw [decide_eq_true (p:=(0:Int) < (k:Int)) (by omega),if_pos rfl,hk1,bU (xs:=xs) (k:=k - 1) (by omega),aA,aOf]
    rw [aIF (b:=nT (xs[k - 1]'(by omega)) xs[k]) ⟨fun h _=>⟨ha,fun _=>h⟩,fun h=>(h hk).2 h1⟩]
    cases nT (xs[k - 1]'(by omega)) xs[k]<;>rfl
   ·rw [decide_eq_false (p:=(0:Int) < (k:Int)) (by omega),xW (fun _=>⟨ha,fun h=>absurd h h1⟩)];rfl
end Gv
namespace Gv
open Go
end Gv
namespace Gv
open Go
structure Pth (F:List (Int × Int)) (P:List (List aK)):Prop where
 len:P.length=F.length
 small:∀ (j:Nat) x,P[j]?=some x->x.length<=j
end Gv
namespace Gv
open Go
variable  {r:gM}
end Gv
namespace Gv
open Go
end Gv
namespace Gv
open Go
theorem aSx (a:Edge):nU a a=false:=by
 cases h:nU a a with
 |false=>rfl
 |true=>exact absurd rfl (edgeLt_ne h)
def SE (l:List Edge):Prop:=l.Pairwise fun a b=>nU a b=true
end Gv
namespace Gv
open Go
variable  {r:gM}
end Gv
namespace Gv
open Go
variable  {r:gM}
theorem zU.cons {xs:List aK} (h:zU xs):∃ L,xs=gY::L/\aFE L:=by
 obtain ⟨h1,h12,h0,hk⟩:=h
 cases xs with
 |nil=>simp at h1
 |cons a L=>
  have e:=h0 (by simp)
  simp only [List.getElem_cons_zero] at e
  subst e
  refine ⟨L,rfl,List.pairwise_iff_getElem.2 fun i j hi hj hij=>?_,fun hm=>?_⟩
  ·have:=labs_lt (xs:=gY::L) ⟨h1,h12,h0,hk⟩ (i:=i+1) (j:=j+1) (by omega) (by omega) (by simp;omega)
   simpa using this
  ·obtain ⟨j,hj,e⟩:=List.getElem_of_mem hm
   have:=(hk (j+1) (by omega) (by simp;omega)).2.1
   simp only [List.getElem_cons_succ] at this
   exact this e
end Gv
namespace Gv
open Go
variable  {r:gM}
end Gv
namespace Gv
open Go
inductive Co (E:Nat->Nat->Prop) (m A:Nat->Prop):Nat->Prop
 |base {i:Nat}:A i->m i->Co E m A i
 |step {i j:Nat}:A i->E i j->Co E m A j->Co E m A i
section
variable {E U:Nat->Nat->Prop} {m flt A B:Nat->Prop}
theorem Co.mem {i:Nat} (h:Co E m A i):A i:=by cases h<;>assumption
theorem Co.mono (hAB:∀ i,A i->B i) {i:Nat} (h:Co E m A i):Co E m B i:=by
 induction h with
 |base h1 h2=>exact .base (hAB _ h1) h2
 |step h1 h2 _ ih=>exact .step (hAB _ h1) h2 ih
structure Stb (E U:Nat->Nat->Prop) (m flt S:Nat->Prop):Prop where
 co:∀ i,S i->Co E m S i
 ok:∀ i,S i->¬ flt i
 un:∀ i j,S i->U i j->S j
end
def on (a:List Bool) (i:Nat):Prop:=a[i]?=some true
end Gv
namespace Gv
open Go
structure Sat1 (n:Nat) (P:Nat->Prop) (m0 m:List Bool):Prop where
 len:m.length=n
 has:∀ i,on m0 i->on m i
 ok:∀ i,on m i->P i
theorem Co.sat {E:Nat->Nat->Prop} {m A:Nat->Prop} {g:List Bool} (h0:∀ i,A i->m i->on g i) (h1:∀ i j,A i->E i j->A j->on g j->on g i) {i:Nat} (h:Co E m A i):on g i:=by
 induction h with
 |base a b=>exact h0 _ a b
 |step a b c ih=>exact h1 _ _ a b c.mem ih
end Gv
namespace Gv
open Go
def vis (out:List Int) (i:Nat):Prop:=0<=out.getD i (-1)
theorem vis_lt {out:List Int} {i:Nat} (h:vis out i):i < out.length:=by
 apply Classical.byContradiction
 intro hc
 unfold vis at h
 rw [List.getD_eq_getElem?_getD,List.getElem?_eq_none (by omega)] at h
 simp at h
theorem aDG {out:List Int} {j i:Nat} {v:Int} (hj:j < out.length) (hv:0<=v):vis (out.set j v) i<->i=j\/vis out i:=by
 unfold vis
 rw [List.getD_eq_getElem?_getD,List.getD_eq_getElem?_getD]
 by_cases e:i=j
 ·subst e
  rw [List.getElem?_set_self hj];simp [hv]
 ·rw [List.getElem?_set_ne (Ne.symm e)];simp [e]
def neg (out:List Int):Nat:=out.countP fun x=>decide (x < 0)
theorem neg_set {v:Int} (hv:0<=v):∀ {out:List Int} {j:Nat} (_:j < out.length),¬ vis out j->neg (out.set j v)+1=neg out
 |[],j,h,_=>by simp at h
 |x::l,0,_,hn=>by
  unfold vis at hn
  simp at hn
  simp only [neg,List.set_cons_zero,List.countP_cons]
  rw [if_neg (by simp only [decide_eq_true_eq];omega),if_pos (by simpa using hn)]
 |x::l,j+1,h,hn=>by
  have ih:=neg_set hv (out:=l) (j:=j) (by simpa using h) (by unfold vis at hn ⊢;simpa using hn)
  simp only [neg,List.set_cons_succ,List.countP_cons] at ih ⊢
  omega
structure Bfs (ed:List Edge) (src dst:Edge->Nat) (n:Nat) (P:Nat->Prop) (q:Option Nat) (s:List Int × List Int):Prop where
 len:s.1.length=n
 ok:∀ i,vis s.1 i->P i
 todo:∀ x∈s.2,∃ i:Nat,x=(i:Int)/\vis s.1 i
 done:∀ i,vis s.1 i->(i:Int)∉s.2->some i≠q->∀ e∈ed,src e=i->vis s.1 (dst e)
 top:∀ i,s.1.getD i (-1)<=(n:Int) - neg s.1
theorem Bfs.put {ed:List Edge} {src dst:Edge->Nat} {n:Nat} {P:Nat->Prop} {q:Nat} {s:List Int × List Int} (h:Bfs ed src dst n P (some q) s) (hq:vis s.1 q) {j:Nat} (hj:j < n) (hn:¬ vis s.1 j) (hp:P j):
  Bfs ed src dst n P (some q) (s.1.set j (s.1.getD q (-1)+1),s.2++[(j:Int)])/\neg (s.1.set j (s.1.getD q (-1)+1))+(s.2++[(j:Int)]).length=neg s.1+s.2.length:=by
 have hj':j < s.1.length:=by rw [h.len];exact hj
 have hv:0<=s.1.getD q (-1)+1:=by unfold vis at hq;omega
 have hng:=neg_set hv hj' hn
 refine ⟨⟨by rw [List.length_set];exact h.len,fun i hi=>?_,fun x hx=>?_,fun i hi hm hne e he hs=>?_,fun i=>?_⟩,by simp only [List.length_append,List.length_singleton];omega⟩
 ·rcases (aDG hj' hv).1 hi with rfl|hi
  ·exact hp
  ·exact h.ok i hi
 ·rcases List.mem_append.1 hx with hx|hx
  ·obtain ⟨i,rfl,hi⟩:=h.todo x hx
   exact ⟨i,rfl,(aDG hj' hv).2 (.inr hi)⟩
  ·simp at hx;subst hx
   exact ⟨j,rfl,(aDG hj' hv).2 (.inl rfl)⟩
 ·rw [List.mem_append] at hm
  rcases (aDG hj' hv).1 hi with rfl|hi
  ·exact absurd (.inr (by simp)) hm
  ·exact (aDG hj' hv).2 (.inr (h.done i hi (fun x=>hm (.inl x)) hne e he hs))
 ·have ht:=h.top i
  have hq':=h.top q
  simp only
  by_cases e:i=j
  ·subst e
   rw [List.getD_eq_getElem?_getD,List.getElem?_set_self hj']
   simp only [Option.getD_some];omega
  ·rw [List.getD_eq_getElem?_getD,List.getElem?_set_ne (Ne.symm e),←List.getD_eq_getElem?_getD];omega
open Classical in
theorem bfs_loop {ed:List Edge} {n:Nat} (hn:n < 1000000) (src dst:Edge->Nat) {inner:Int->List Int × List Int × Int->Option ((List Int × List Int × Int) ⊕ (List Int × List Int))} {outer:List Int × List Int->Option ((List Int × List Int) ⊕ List Int)}
  (hi:∀ (q:Nat) (k:Nat) (hk:k < ed.length) out todo,out.length=n->q < n->todo.length<=n->(∀ i,out.getD i (-1)<=(n:Int))->inner (q:Int) (out,todo,(k:Int))=some (.inl (if src ed[k]=q/\¬ vis out (dst ed[k]) then (out.set (dst ed[k]) (wr (out.getD q (-1)+1)),todo++[(dst ed[k]:Int)],((k+1:Nat):Int)) else (out,todo,((k+1:Nat):Int)))))
  (he:∀ (q:Nat) out todo,inner (q:Int) (out,todo,(ed.length:Int))=some (.inr (out,todo)))
  (ho:∀ out (q:Nat) todo,out.length=n->q < n->todo.length<=n->outer (out,(q:Int)::todo)=ob (loop (inner (q:Int)) (out,todo,0)) fun r=>some (.inl r))
  (ho2:∀ out,outer (out,[])=some (.inr out)) (hb:∀ e∈ed,dst e < n) (P:Nat->Prop) (hP:∀ e∈ed,P (src e)->P (dst e)) {s0:List Int × List Int} (h0:Bfs ed src dst n P none s0) (hm:neg s0.1+s0.2.length<=n):
  ∃ out,loop outer s0=some out/\out.length=n/\(∀ i,vis out i->P i)/\(∀ i,vis out i->∀ e∈ed,src e=i->vis out (dst e))/\∀ i,vis s0.1 i->vis out i:=by
 refine aBV (step:=outer) (fun s=>Bfs ed src dst n P none s/\neg s.1+s.2.length<=n/\∀ i,vis s0.1 i->vis s.1 i) (fun s=>neg s.1+s.2.length) (fun out=>out.length=n/\(∀ i,vis out i->P i)/\(∀ i,vis out i->∀ e∈ed,src e=i->vis out (dst e))/\∀ i,vis s0.1 i->vis out i) (fun s hI=>?_) ⟨h0,hm,fun _ h=>h⟩
 obtain ⟨out,todo⟩:=s
 obtain ⟨hB,hle,hmo⟩:=hI
 cases todo with
 |nil=>
  right
  exact ⟨out,ho2 out,hB.len,hB.ok,fun i hi e he hs=>hB.done i hi (by simp) (by simp) e he hs,hmo⟩
 |cons x todo=>
  left
  obtain ⟨q,rfl,hq⟩:=hB.todo x (by simp)
  have hqn:q < n:=by have h1:=vis_lt hq;have h2:=hB.len;simp only at h1 h2;omega
  have hle':neg out+(todo.length+1)<=n:=hle
  rw [ho out q todo hB.len hqn (by omega)]
  have hB1:Bfs ed src dst n P (some q) (out,todo):=⟨hB.len,hB.ok,fun x hx=>hB.todo x (by simp [hx]),fun i hi hm hne e he hs=>hB.done i hi (by simp only [List.mem_cons,not_or];exact ⟨fun h=>hne (by rw [show i=q by omega]),hm⟩) (by simp) e he hs,hB.top⟩
  have:=aRo (step:=inner (q:Int)) ed.length (fun i (s:List Int × List Int)=>(s.1,s.2,(i:Int)))
   (fun k s=>Bfs ed src dst n P (some q) s/\neg s.1+s.2.length=neg out+todo.length/\(∀ i,vis out i->vis s.1 i)/\∀ k',k' < k->∀ h:k' < ed.length,src ed[k']=q->vis s.1 (dst ed[k'])) (fun r=>Bfs ed src dst n P (some q) r/\neg r.1+r.2.length=neg out+todo.length/\(∀ i,vis out i->vis r.1 i)/\∀ e∈ed,src e=q->vis r.1 (dst e)) (fun k s hk hI=>?_) (fun s hI=>?_) ed.length 0 (out,todo) (by omega) ⟨hB1,rfl,fun _ h=>h,fun k' h=>by omega⟩
  ·obtain ⟨r,hr,hR,hc,hv,hall⟩:=this
   have hr':loop (inner (q:Int)) (out,todo,0)=some r:=hr
   rw [hr',aA]
   refine ⟨r,rfl,⟨⟨hR.len,hR.ok,hR.todo,fun i hi hm _ e he hs=>?_,hR.top⟩,by omega,fun i hi=>hv i (hmo i hi)⟩,?_⟩
   ·by_cases hiq:i=q
    ·subst hiq;exact hall e he hs
    ·exact hR.done i hi hm (by simpa using hiq) e he hs
   ·simp only [List.length_cons];omega
  ·obtain ⟨o,td⟩:=s
   obtain ⟨hS,hc,hv,hall⟩:=hI
   simp only at hc hv hall
   have hmem:ed[k]∈ed:=List.getElem_mem hk
   have hvq:=hv q hq
   have htop:∀ i,o.getD i (-1)<=(n:Int):=fun i=>by have:=hS.top i;simp only at this;omega
   rw [hi q k hk o td hS.len hqn (by omega) htop]
   by_cases ht:src ed[k]=q/\¬ vis o (dst ed[k])
   ·rw [if_pos ht]
    have hp:P (dst ed[k]):=hP _ hmem (by rw [ht.1];exact hS.ok q hvq)
    obtain ⟨g1,g2⟩:=hS.put hvq (hb _ hmem) ht.2 hp
    have hw:wr (o.getD q (-1)+1)=o.getD q (-1)+1:=by
     have h1:=htop q
     have h2:0<=o.getD q (-1):=hvq
     rw [dS (by omega) (by omega)]
    have hol:dst ed[k] < o.length:=by have:=hS.len;simp only at this;rw [this];exact hb _ hmem
    have h0:(0:Int)<=o.getD q (-1)+1:=by have h2:0<=o.getD q (-1):=hvq;omega
    rw [hw]
    refine ⟨(o.set (dst ed[k]) (o.getD q (-1)+1),td++[(dst ed[k]:Int)]),rfl,g1,by simp only at g2 ⊢;omega,fun i h=>(aDG hol h0).2 (.inr (hv i h)),fun k' h1 h2 h3=>?_⟩
    by_cases hkk:k' < k
    ·exact (aDG hol h0).2 (.inr (hall k' hkk h2 h3))
    ·obtain rfl:k'=k:=by omega
     exact (aDG hol h0).2 (.inl rfl)
   ·rw [if_neg ht]
    refine ⟨(o,td),rfl,hS,hc,hv,fun k' h1 h2 h3=>?_⟩
    by_cases hkk:k' < k
    ·exact hall k' hkk h2 h3
    ·obtain rfl:k'=k:=by omega
     exact Classical.byContradiction fun hx=>ht ⟨h3,hx⟩
  ·obtain ⟨o,td⟩:=s
   obtain ⟨hS,hc,hv,hall⟩:=hI
   refine ⟨(o,td),he q o td,hS,hc,hv,fun e hem hs=>?_⟩
   obtain ⟨i',hi',rfl⟩:=List.mem_iff_getElem.1 hem
   exact hall i' hi' hi' hs
end Gv
namespace Gv
open Go
section
variable {E U:Nat->Nat->Prop} {m flt:Nat->Prop} {n:Nat}
end
variable  {r:gM}
end Gv
namespace Gv
open Go
inductive Rt (t:gM):Nat->Prop
 |init:Rt t t.I.toNat
 |step {e:Edge}:e∈t.E->Rt t e.F.toNat->Rt t e.To.toNat
end Gv
namespace Gv
open Go
end Gv
namespace Gv
open Go
end Gv
