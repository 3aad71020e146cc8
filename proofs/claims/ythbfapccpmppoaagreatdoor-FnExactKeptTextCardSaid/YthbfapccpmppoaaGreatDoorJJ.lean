/- Regions that draw their order and act: what only looks may be taken first; what acts comes in one order. No program in sight. -/
import Derived.Test.YthbfapccpmppoaaGreatDoorJH
set_option linter.all false
namespace Gv
open Go
section
variable {P:Program} {ops:Array Oper} {md:Region.Mode} {C:World->Prop}
def noQ:Exit->Act->World->Prop:=fun _ _ _=>False
def nQ (R:Act->World->Prop):Exit->Act->World->Prop
 |.normal,a,w=>R a w
 |_,_,_=>False
def lN (P:Program) (ops:Array Oper) (C:World->Prop) (o:Oper) (v:Value) (a:Act):Prop:=
 (Region.wanted o (yielded ops a.tmps)=true/\∀ w,C w->(execOp a.eval o).run P w=.ok (.value v) w)\/
 (Region.wanted o (yielded ops a.tmps)=false/\v=undef)
theorem lN.of_same {o:Oper} {v:Value} {a a':Act} (hy:lN P ops C o v a) (he:execOp a'.eval o=execOp a.eval o)
  (hw:Region.wanted o (yielded ops a'.tmps)=Region.wanted o (yielded ops a.tmps)):lN P ops C o v a':=by
 unfold lN at *
 rw [he,hw]
 exact hy
theorem lN.wpOp {i:Nat} {o:Oper} {v:Value} {a:Act} (hi:ops[i]?=some o) (hy:lN P ops C o v a)
  {K:Act->World->Prop} {w:World} (hC:C w) (h:K (a.put o.dst v) w):wpOp P ops noQ i K a w:=by
 unfold Go.wpOp
 simp only [hi]
 rcases hy with ⟨hw,hv⟩|⟨hw,rfl⟩
 ·simp only [hw,if_true,Oper.wp,hv w hC,Oper.upon];exact .inl h
 ·simp only [hw,Bool.false_eq_true,if_false];exact h
theorem aOo {j:Nat} {oi oj:Oper} {v:Value} (hj:ops[j]?=some oj) (hap:oi.apart ops oj=true)
  (hsi:∀ cs b,oi.op≠.select cs b) (hsj:∀ cs b,oj.op≠.select cs b) {K:Act->World->Prop} {a:Act} {w:World}
  (hy:lN P ops C oi v a) (h:wpOp P ops noQ j K (a.put oi.dst v) w):
  wpOp P ops noQ j (fun a' w'=>lN P ops C oi v a'/\K (a'.put oi.dst v) w') a w:=by
 obtain ⟨h1,h2,h3⟩:=Oper.apart_spec hap
 have keep:∀ (a:Act),lN P ops C oi v a->∀ u,lN P ops C oi v (a.put oj.dst u):=fun a hy u=>
  hy.of_same (execOp_put oi hsi a oj.dst u h3) (wanted_put oi a oj.dst u h3)
 have keepD:∀ d,lN P ops C oi v { a with defers:=d::a.defers }:=fun d=>hy.of_same rfl rfl
 unfold wpOp at *
 simp only [hj] at *
 rw [wanted_put oj a oi.dst v h1] at h
 split
 ·rename_i hw
  simp only [hw,if_true] at h
  rcases h with h|⟨hasks,hlets⟩
  case inr=>obtain ⟨_,_,hq⟩:=hlets;exact hq.elim
  refine .inl ?_
  unfold Oper.wp at *
  rw [execOp_put oj hsj a oi.dst v h1] at h
  generalize (execOp a.eval oj).run P w=r at *
  cases r with
  |ok n w'=>
   cases n<;>simp only [Oper.upon] at h ⊢
   case value u=>exact ⟨keep a hy u,by rw [←Act.put_comm a v u h2];exact h⟩
   case skip=>exact ⟨keep a hy _,by rw [←Act.put_comm a v undef h2];exact h⟩
   case defer d=>
    refine ⟨keep _ (keepD d) _,?_⟩
    rw [←Act.put_comm _ v undef h2,←Act.put_defers]
    exact h
   case enter f args=>
    refine Calls.mono h fun e w'' he=>?_
    cases e with
    |returned u=>exact ⟨keep a hy u,by rw [←Act.put_comm a v u h2];exact he⟩
    |panicked c=>exact he
    |outgrown=>exact he
   case row row args=>exact Rows.mono h fun u w'' he=>⟨keep a hy u,by rw [←Act.put_comm a v u h2];exact he⟩
  |halt x w'=>
   cases x<;>simp only [Oper.upon] at h ⊢
   case panic u=>exact h
 ·rename_i hw
  simp only [hw] at h
  exact ⟨keep a hy _,by rw [←Act.put_comm a v undef h2];exact h⟩
def aFX (P:Program) (md:Region.Mode) (ops:Array Oper) (C:World->Prop) (brk:Nat->Bool) (R:Act->World->Prop):Nat->Array Bool->Act->World->Prop
 |0,listed,a,w=>Region.ready md ops listed=[]/\R a w
 |fuel+1,listed,a,w=>(Region.ready md ops listed=[]->R a w)/\
  ∀ i∈Region.ready md ops listed,wpOp P ops noQ i (fun a' w'=>(brk i=false->C w->C w')/\aFX P md ops C brk R fuel (listed.setIfInBounds i true) a' w') a w
theorem aIf {brk:Nat->Bool} {R:Act->World->Prop}:∀ {fuel:Nat} {listed:Array Bool} {a:Act} {w:World},aFX P md ops C brk R fuel listed a w->wpAny P md ops (nQ R) fuel listed a w
 |0,_,_,_,h=>h
 |fuel+1,_,_,_,h=>⟨h.1,fun i hi=>by
  have:=h.2 i hi
  have h2:wpOp P ops noQ i (wpAny P md ops (nQ R) fuel (_)) _ _:=wpOp_mono (fun a' w' q=>aIf q.2) this
  unfold wpOp at h2 ⊢
  split
  ·rename_i ho;simp only [ho] at h2;exact h2
  ·rename_i o ho
   simp only [ho] at h2
   split
   ·rename_i hw
    simp only [hw,if_true] at h2
    rcases h2 with h2|⟨_,_,_,hq⟩
    ·refine .inl ?_
     unfold Oper.wp at h2 ⊢
     generalize (execOp (Act.eval _) o).run P _=r at *
     cases r with
     |ok n w'=>
      cases n<;>simp only [Oper.upon] at h2 ⊢<;>first
       |exact h2
       |exact Calls.mono h2 (fun e w'' he=>by cases e<;>first|exact he|exact he.elim|(obtain ⟨_,_,hq⟩:=he;exact hq.elim))
     |halt x w'=>cases x<;>simp only [Oper.upon] at h2 ⊢;exact h2.elim
    ·exact hq.elim
   ·rename_i hw;simp only [hw] at h2;exact h2⟩
theorem aIU {brk:Nat->Bool} {R:Act->World->Prop} {i:Nat} {oi:Oper} {v:Value} (hi:ops[i]?=some oi) (hsel:∀ (j:Nat) (o:Oper) cs b,ops[j]?=some o->o.op≠.select cs b)
  (hbi:∀ j oj,ops[j]?=some oj->brk j=true->∃ e∈oj.after,Region.binds md e=true/\e.on=i) (hnb:brk i=false):
  ∀ (fuel:Nat) (listed:Array Bool) (a:Act) (w:World),C w->
   (∀ j oj,ops[j]?=some oj->j≠i->listed.getD j true=false->(∀ e∈oj.after,Region.binds md e=true->e.on≠i)->oi.apart ops oj=true)->
   i∈Region.ready md ops listed->lN P ops C oi v a->
   aFX P md ops C brk R fuel (listed.setIfInBounds i true) (a.put oi.dst v) w->aFX P md ops C brk R (fuel+1) listed a w:=by
 intro fuel
 induction fuel with
 |zero=>
  intro listed a w hC _ hr hy H
  refine ⟨fun h=>(by rw [h] at hr;cases hr),fun j hj=>?_⟩
  by_cases hji:j=i
  ·subst hji;exact hy.wpOp hi hC ⟨fun _ h=>h,H⟩
  ·have:=ready_mono hj hji
   rw [H.1] at this
   cases this
 |succ fuel ih=>
  intro listed a w hC hfree hr hy H
  refine ⟨fun h=>(by rw [h] at hr;cases hr),fun j hj=>?_⟩
  by_cases hji:j=i
  ·subst hji;exact hy.wpOp hi hC ⟨fun _ h=>h,H⟩
  ·have h1:=H.2 j (ready_mono hj hji)
   obtain ⟨hjun,oj,hoj,hall⟩:=mem_ready.1 hj
   have hnot:∀ e∈oj.after,Region.binds md e=true->e.on≠i:=fun e he hb heq=>by
    have h1:=hall e he hb
    have h0:=(mem_ready.1 hr).1
    rw [heq] at h1
    rcases Nat.lt_or_ge i listed.size with h'|h'
    ·simp [h'] at h0 h1;rw [h0] at h1;cases h1
    ·simp [Array.getElem?_eq_none h'] at h1
   have hbj:brk j=false:=by
    cases hb:brk j
    ·rfl
    ·obtain ⟨e,he,hb,heq⟩:=hbi j oj hoj hb
     exact absurd heq (hnot e he hb)
   have h2:=aOo hoj (hfree j oj hoj hji hjun hnot) (fun cs b=>hsel i oi cs b hi) (fun cs b=>hsel j oj cs b hoj) hy h1
   have hfree':∀ k ok,ops[k]?=some ok->k≠i->(listed.setIfInBounds j true).getD k true=false->
     (∀ e∈ok.after,Region.binds md e=true->e.on≠i)->oi.apart ops ok=true:=fun k ok hk hki hun hno=>by
    refine hfree k ok hk hki ?_ hno
    by_cases hjk:j=k
    ·subst hjk;exact hjun
    ·rw [getD_set_ne true hjk] at hun;exact hun
   refine wpOp_mono (fun a' w' h3=>⟨fun _ _=>h3.2.1 hbj hC,ih (listed.setIfInBounds j true) a' w' (h3.2.1 hbj hC) hfree' (ready_mono hr (Ne.symm hji)) h3.1 ?_⟩) h2
   rw [Array.setIfInBounds_comm _ _ hji]
   exact h3.2.2
theorem aNN {brk:Nat->Bool} {R:Act->World->Prop} {i:Nat} {oi:Oper} {v:Value} (hi:ops[i]?=some oi) (hsel:∀ (j:Nat) (o:Oper) cs b,ops[j]?=some o->o.op≠.select cs b):
  ∀ (fuel:Nat) (listed:Array Bool) (a:Act) (w:World),
   (∀ j oj,ops[j]?=some oj->j≠i->listed.getD j true=false->(∀ e∈oj.after,Region.binds md e=true->e.on≠i)->oi.apart ops oj=true)->
   i∈Region.ready md ops listed->lN P ops (fun _=>True) oi v a->
   aFX P md ops C brk R fuel (listed.setIfInBounds i true) (a.put oi.dst v) w->aFX P md ops C brk R (fuel+1) listed a w:=by
 intro fuel
 induction fuel with
 |zero=>
  intro listed a w _ hr hy H
  refine ⟨fun h=>(by rw [h] at hr;cases hr),fun j hj=>?_⟩
  by_cases hji:j=i
  ·subst hji;exact hy.wpOp hi trivial ⟨fun _ h=>h,H⟩
  ·have:=ready_mono hj hji
   rw [H.1] at this
   cases this
 |succ fuel ih=>
  intro listed a w hfree hr hy H
  refine ⟨fun h=>(by rw [h] at hr;cases hr),fun j hj=>?_⟩
  by_cases hji:j=i
  ·subst hji;exact hy.wpOp hi trivial ⟨fun _ h=>h,H⟩
  ·have h1:=H.2 j (ready_mono hj hji)
   obtain ⟨hjun,oj,hoj,hall⟩:=mem_ready.1 hj
   have hnot:∀ e∈oj.after,Region.binds md e=true->e.on≠i:=fun e he hb heq=>by
    have h1:=hall e he hb
    have h0:=(mem_ready.1 hr).1
    rw [heq] at h1
    rcases Nat.lt_or_ge i listed.size with h'|h'
    ·simp [h'] at h0 h1;rw [h0] at h1;cases h1
    ·simp [Array.getElem?_eq_none h'] at h1
   have h2:=aOo hoj (hfree j oj hoj hji hjun hnot) (fun cs b=>hsel i oi cs b hi) (fun cs b=>hsel j oj cs b hoj) hy h1
   have hfree':∀ k ok,ops[k]?=some ok->k≠i->(listed.setIfInBounds j true).getD k true=false->
     (∀ e∈ok.after,Region.binds md e=true->e.on≠i)->oi.apart ops ok=true:=fun k ok hk hki hun hno=>by
    refine hfree k ok hk hki ?_ hno
    by_cases hjk:j=k
    ·subst hjk;exact hjun
    ·rw [getD_set_ne true hjk] at hun;exact hun
   refine wpOp_mono (fun a' w' h3=>⟨h3.2.1,ih (listed.setIfInBounds j true) a' w' hfree' (ready_mono hr (Ne.symm hji)) h3.1 ?_⟩) h2
   rw [Array.setIfInBounds_comm _ _ hji]
   exact h3.2.2
def ordB (md:Region.Mode) (ops:Array Oper):List (Nat × Nat)->Array Bool->Bool
 |[],listed=>(Region.ready md ops listed).isEmpty
 |(i,k)::l,listed=>
  (match k with
   |0=>(Region.ready md ops listed).contains i&&Region.free md ops listed i
   |1=>Region.ready md ops listed == [i]
   |2=>Region.ready md ops listed == [i]&&l.all (fun p=>p.2 != 0)
   |_=>(Region.ready md ops listed).contains i&&Region.free md ops listed i)&&ordB md ops l (listed.setIfInBounds i true)
def lastB (md:Region.Mode) (ops:Array Oper) (l:List (Nat × Nat)):Bool:=
 l.all fun p=>p.2 != 0||(l.all fun q=>!(Nat.beq q.2 2)||(match ops[q.1]? with|some o=>o.after.any fun e=>Region.binds md e&&e.on == p.1|none=>true))&&!(l.any fun q=>q.1 == p.1&&Nat.beq q.2 2)
def wpE (P:Program) (ops:Array Oper) (C:World->Prop) (R:Act->World->Prop):List (Nat × Nat)->Act->World->Prop
 |[],a,w=>R a w
 |(i,0)::l,a,w=>∃ o v,ops[i]?=some o/\lN P ops C o v a/\wpE P ops C R l (a.put o.dst v) w
 |(i,1)::l,a,w=>wpOp P ops noQ i (fun a' w'=>C w'/\wpE P ops C R l a' w') a w
 |(i,2)::l,a,w=>wpOp P ops noQ i (wpE P ops C R l) a w
 |(i,_+3)::l,a,w=>∃ o v,ops[i]?=some o/\lN P ops (fun _=>True) o v a/\wpE P ops C R l (a.put o.dst v) w
theorem aAg {R:Act->World->Prop} (hs:Region.noSelect ops=true) {l0:List (Nat × Nat)} (hl:lastB md ops l0=true):
  ∀ (l:List (Nat × Nat)) (listed:Array Bool) (a:Act) (w:World),(∀ p∈l,p∈l0)->ordB md ops l listed=true->((∃ p∈l,p.2=0)->C w)->wpE P ops C R l a w->
   aFX P md ops C (fun j=>l0.any fun q=>q.1 == j&&Nat.beq q.2 2) R l.length listed a w
 |[],listed,a,w,_,hB,_,h=>⟨by simpa [ordB] using hB,h⟩
 |(i,0)::l,listed,a,w,hsub,hB,hC,h=>by
  obtain ⟨o,v,ho,hy,h⟩:=h
  simp only [ordB,Bool.and_eq_true] at hB
  obtain ⟨⟨hr,hf⟩,hB'⟩:=hB
  have hCw:=hC ⟨(i,0),by simp,rfl⟩
  have hmem:=hsub (i,0) (by simp)
  have hl':=(List.all_eq_true.1 hl) _ hmem
  simp only [bne_self_eq_false,Bool.false_or,Bool.and_eq_true,List.all_eq_true] at hl'
  refine aIU ho (Region.noSelect_spec hs) (fun j oj hoj hb=>?_) (by simpa using hl'.2) l.length listed a w hCw (Region.free_spec ho hf) (by simpa using hr) hy
   (aAg hs hl l _ _ w (fun p hp=>hsub p (by simp [hp])) hB' (fun _=>hCw) h)
  obtain ⟨q,hq,hq2⟩:=List.any_eq_true.1 hb
  simp only [Bool.and_eq_true,beq_iff_eq] at hq2
  have:=hl'.1 q hq
  rw [hq2.1,hoj,hq2.2] at this
  simp only [Bool.not_true,Bool.false_or] at this
  obtain ⟨e,he,hb⟩:=Array.any_eq_true'.1 this
  simp only [Bool.and_eq_true,beq_iff_eq] at hb
  exact ⟨e,he,hb.1,hb.2⟩
 |(i,1)::l,listed,a,w,hsub,hB,hC,h=>by
  simp only [ordB,Bool.and_eq_true,beq_iff_eq] at hB
  obtain ⟨hr,hB'⟩:=hB
  refine ⟨fun h0=>(by rw [hr] at h0;cases h0),fun j hj=>?_⟩
  rw [hr] at hj
  simp only [List.mem_singleton] at hj
  subst hj
  exact wpOp_mono (fun a' w' q=>⟨fun _ _=>q.1,aAg hs hl l _ a' w' (fun p hp=>hsub p (by simp [hp])) hB' (fun _=>q.1) q.2⟩) h
 |(i,2)::l,listed,a,w,hsub,hB,hC,h=>by
  simp only [ordB,Bool.and_eq_true,beq_iff_eq] at hB
  obtain ⟨⟨hr,hk⟩,hB'⟩:=hB
  refine ⟨fun h0=>(by rw [hr] at h0;cases h0),fun j hj=>?_⟩
  rw [hr] at hj
  simp only [List.mem_singleton] at hj
  subst hj
  have hnone:¬ ∃ p∈l,p.2=0:=by
   rintro ⟨p,hp,h0⟩
   have:=(List.all_eq_true.1 hk) p hp
   rw [h0] at this;simp at this
  refine wpOp_mono (fun a' w' q=>⟨fun hb=>?_,aAg hs hl l _ a' w' (fun p hp=>hsub p (by simp [hp])) hB' (fun hx=>(hnone hx).elim) q⟩) h
  have:(l0.any fun q=>q.1 == j&&Nat.beq q.2 2)=true:=List.any_eq_true.2 ⟨(j,2),hsub _ (by simp),by simp⟩
  exact absurd (this.symm.trans hb) (by simp)
 |(i,k+3)::l,listed,a,w,hsub,hB,hC,h=>by
  obtain ⟨o,v,ho,hy,h⟩:=h
  simp only [ordB,Bool.and_eq_true] at hB
  obtain ⟨⟨hr,hf⟩,hB'⟩:=hB
  exact aNN ho (Region.noSelect_spec hs) l.length listed a w (Region.free_spec ho hf) (by simpa using hr) hy
   (aAg hs hl l _ _ w (fun p hp=>hsub p (by simp [hp])) hB' (fun ⟨p,hp,h0⟩=>hC ⟨p,by simp [hp],h0⟩) h)
theorem aQV {id:Nat} {R:Act->World->Prop} {a:Act} {w:World} {l:List (Nat × Nat)} (hm:P.follows .mixedOrders=true) (hs:Region.noSelect ops=true) (hl:lastB .any ops l=true)
  (hB:ordB .any ops l (Array.replicate ops.size false)=true) (hn:l.length=ops.size) (hC:C { w with drawn:=w.drawn+1 }) (h:wpE P ops C R l a { w with drawn:=w.drawn+1 }):(Code.region id ops true).wp P (nQ R) a w:=by
 have:=aAg (C:=C) (R:=R) (P:=P) hs hl l _ a _ (fun _ h=>h) hB (fun _=>hC) h
 rw [hn] at this
 exact wp_region_any hm (aIf this)
end
section
variable {P:Program} {n:Nat} {ops:Array Oper} {C:World->Prop} {Q:lI} {f:Nat->Value} {w:World}
def aED:List Oper->Nat->Option Oper
 |[],_=>none
 |o::_,0=>some o
 |_::l,i+1=>aED l i
theorem aCS:∀ (l:List Oper) (i:Nat),aED l i=l.toArray[i]?
 |[],_=>by simp [aED]
 |o::l,0=>by simp [aED]
 |o::l,i+1=>by have:=aCS l i;simp [aED,this]
structure WE (P:Program) (n:Nat) (ops:Array Oper) (C:World->Prop) (l:List (Nat × Nat)) (R:(Nat->Value)->World->Prop) (f:Nat->Value) (w:World):Prop where
 go:ops.all (fun o=>oko n o&&okg n ops o.guard)=true->wpE P ops C (fun a w=>∃ f,a=act n f/\R f w) l (act n f) w
theorem mO {id:Nat} {os:List Oper} (l:List (Nat × Nat)) (hm:P.follows .mixedOrders=true) (hB:(Region.noSelect os.toArray&&lastB .any os.toArray l&&ordB .any os.toArray l (Array.replicate os.toArray.size false)&&l.length == os.toArray.size)=true) (hC:∀ w',eI w w'->C w')
  (h:∀ w',eI w w'->WE P n os.toArray C l (fun f w=>Q .normal f w) f w'):W P n (.region id os.toArray true) Q f w:=by
 simp only [Bool.and_eq_true,beq_iff_eq] at hB
 refine ⟨fun ok=>Code.wp_mono ?_ (aQV (C:=C) hm hB.1.1.1 hB.1.1.2 hB.1.2 hB.2 (hC _ (eI.drew w)) ((h _ (eI.drew w)).go (by simpa [okc] using ok)))⟩
 intro e a w h
 cases e<;>first|exact h|exact h.elim
variable {R:(Nat->Value)->World->Prop} {l:List (Nat × Nat)}
theorem WE_nil (h:R f w):WE P n ops C [] R f w:=⟨fun _=>⟨f,rfl,h⟩⟩
theorem ok_of {i:Nat} {o:Oper} (hi:ops[i]?=some o) (ok:ops.all (fun o=>oko n o&&okg n ops o.guard)=true):oko n o=true/\okg n ops o.guard=true:=by
 have:=Array.all_eq_true_iff_forall_mem.1 ok o (Array.mem_of_getElem? hi)
 simpa using this
theorem dL {os:List Oper} {i d:Nat} {op:Op} {ty:TypeId} {pos:String} {af:Array Edge} {v:Value} (hi:aED os i=some ⟨some d,op,ty,pos,af,none⟩) (hr:∀ w,C w->(execOp (ev f) ⟨some d,op,ty,pos,af,none⟩).run P w=.ok (.value v) w)
  (h:WE P n os.toArray C l R (upd f d v) w):WE P n os.toArray C ((i,0)::l) R f w:=by
 rw [aCS] at hi
 refine ⟨fun ok=>⟨_,v,hi,.inl ⟨by simp [Region.wanted],fun w hw=>?_⟩,?_⟩⟩
 ·rw [qG (ok_of hi ok).1];exact hr w hw
 ·rw [tU];exact h.go ok
theorem WE_t {os:List Oper} {i d:Nat} {op:Op} {ty:TypeId} {pos:String} {af:Array Edge} {v:Value} (hi:aED os i=some ⟨some d,op,ty,pos,af,none⟩) (hr:∀ w,(execOp (ev f) ⟨some d,op,ty,pos,af,none⟩).run P w=.ok (.value v) w)
  (h:WE P n os.toArray C l R (upd f d v) w):WE P n os.toArray C ((i,3)::l) R f w:=by
 rw [aCS] at hi
 refine ⟨fun ok=>⟨_,v,hi,.inl ⟨by simp [Region.wanted],fun w _=>?_⟩,?_⟩⟩
 ·rw [qG (ok_of hi ok).1];exact hr w
 ·rw [tU];exact h.go ok
theorem aIg {i:Nat} {o:Oper} {K:(Nat->Value)->World->Prop} (hi:ops[i]?=some o) (h:WO P n ops [o] (sA K fun _ _ _=>False) f w) (ok:ops.all (fun o=>oko n o&&okg n ops o.guard)=true):
  wpOp P ops noQ i (fun a w=>∃ f,a=act n f/\K f w) (act n f) w:=by
 have h1:=h.go (by simp only [List.all_cons,List.all_nil,Bool.and_true];have:=ok_of hi ok;simp [this])
 unfold wpOp
 simp only [hi]
 unfold wpList at h1
 split
 ·rename_i hw
  rw [if_pos hw] at h1
  rcases h1 with h1|⟨_,_,_,f',_,hq⟩
  ·refine .inl ?_
   unfold Oper.wp at h1 ⊢
   generalize (execOp (Act.eval _) o).run P w=r at *
   cases r with
   |ok x w'=>
    cases x<;>simp only [Oper.upon] at h1 ⊢<;>first
     |exact h1
     |exact Calls.mono h1 (fun e w'' he=>by
       cases e with
       |returned v=>exact he
       |panicked c=>obtain ⟨_,_,hq⟩:=he;exact hq.elim
       |outgrown=>obtain ⟨_,_,_,_,hq⟩:=he;exact hq.elim)
     |exact Rows.mono h1 (fun v w'' he=>he)
   |halt x w'=>
    cases x<;>simp only [Oper.upon] at h1 ⊢
    obtain ⟨_,_,hq⟩:=h1;exact hq.elim
  ·exact hq.elim
 ·rename_i hw
  rw [if_neg hw] at h1
  exact h1
theorem vM {os:List Oper} {i:Nat} {o:Oper} (hi:aED os i=some o) (h:WO P n os.toArray [o] (sA (fun f w=>C w/\WE P n os.toArray C l R f w) fun _ _ _=>False) f w):WE P n os.toArray C ((i,1)::l) R f w:=by
 rw [aCS] at hi
 refine ⟨fun ok=>wpOp_mono ?_ (aIg hi h ok)⟩
 rintro a w ⟨f',rfl,hC,hE⟩
 exact ⟨hC,hE.go ok⟩
theorem WE_s {os:List Oper} {i:Nat} {o:Oper} (hi:aED os i=some o) (h:WO P n os.toArray [o] (sA (fun f w=>WE P n os.toArray C l R f w) fun _ _ _=>False) f w):WE P n os.toArray C ((i,2)::l) R f w:=by
 rw [aCS] at hi
 refine ⟨fun ok=>wpOp_mono ?_ (aIg hi h ok)⟩
 rintro a w ⟨f',rfl,hE⟩
 exact hE.go ok
end
def rvG (tmps:Array Value):ResultVar->Sem Value
 |.tmp t=>pure (tmps.getD t undef)
 |.cell a t=>do loadVar t (←asAddr (tmps.getD a undef))
def aIV (P:Program) (n:Nat) (f:Nat->Value) (w:World) (r:ResultVar) (v:Value):Prop:=(rvG (act n f).tmps r).run P w=.ok v w
theorem aFY (fn:Func) (tmps:Array Value):results fn tmps=(do
 let vs←fn.results.mapM (rvG tmps)
 pure (if h:vs.size=1 then vs[0] else .tuple vs)):=rfl
section
variable {P:Program} {n:Nat} {f:Nat->Value} {w:World} {G:kH} {K:Hp} {L:List eW}
theorem rv_tmp {t:Nat} {v:Value} (ht:Nat.blt t n=true) (hv:f t=v):aIV P n f w (.tmp t) v:=by
 have h1:t < n:=by simpa [Nat.blt_eq] using ht
 simp [aIV,rvG,act,Array.getD,h1,hv]
theorem rv_cell {t b i:Nat} {T E:TypeId} {v:Value} (ht:Nat.blt t n=true) (hT:SC P T) (hs:aF G K L w) (hi:L[i]?=some (box b E [v])) (hp:f t=.pointer (some ⟨b,0,none⟩)):aIV P n f w (.cell t T) v:=by
 have h1:t < n:=by simpa [Nat.blt_eq] using ht
 have hc:=aIS hs hi (t:=0) (v:=v) rfl
 simp [aIV,rvG,act,Array.getD,h1,hp,asAddr,loadVar,hT.agg,hc]
theorem aPU {t b i m:Nat} {T E:TypeId} {vs:List Value} (ht:Nat.blt t n=true) (hT:AG P T m) (hs:aF G K L w) (hi:L[i]?=some (box b E vs)) (hp:f t=.pointer (some ⟨b,0,none⟩)) (hm:vs.length=m):aIV P n f w (.cell t T) (.agg vs.toArray):=by
 have h1:t < n:=by simpa [Nat.blt_eq] using ht
 have hl:=run_loadCells_list (P:=P) w ⟨b,0,none⟩ vs (fun j v hj=>by rw [mM];exact aIS hs hi (by simpa using hj))
 rw [hm] at hl
 simp [aIV,rvG,act,Array.getD,h1,hp,asAddr,loadVar,hT.agg,hT.size,hl]
theorem run_mapM1 {g:ResultVar->Sem Value} {r1:ResultVar} {v1:Value} (h1:(g r1).run P w=.ok v1 w):(#[r1].mapM g).run P w=.ok #[v1] w:=by
 simp [h1]
theorem run_mapM2 {g:ResultVar->Sem Value} {r1 r2:ResultVar} {v1 v2:Value} (h1:(g r1).run P w=.ok v1 w) (h2:(g r2).run P w=.ok v2 w):(#[r1,r2].mapM g).run P w=.ok #[v1,v2] w:=by
 simp [h1,h2]
theorem run_mapM3 {g:ResultVar->Sem Value} {r1 r2 r3:ResultVar} {v1 v2 v3:Value} (h1:(g r1).run P w=.ok v1 w) (h2:(g r2).run P w=.ok v2 w) (h3:(g r3).run P w=.ok v3 w):(#[r1,r2,r3].mapM g).run P w=.ok #[v1,v2,v3] w:=by
 simp [h1,h2,h3]
theorem retQ_m1 {fn:Func} {Φ:Value->World->Prop} {r1:ResultVar} {v1:Value} (hr:fn.results=#[r1]) (h1:aIV P fn.ntmps f w r1 v1) (h:Φ v1 w):retQ P fn Φ .ret f w:=by
 refine ⟨v1,?_,h⟩
 rw [aFY,hr,Sem.run_bind,run_mapM1 h1]
 simp
theorem retQ_m2 {fn:Func} {Φ:Value->World->Prop} {r1 r2:ResultVar} {v1 v2:Value} (hr:fn.results=#[r1,r2]) (h1:aIV P fn.ntmps f w r1 v1) (h2:aIV P fn.ntmps f w r2 v2) (h:Φ (.tuple #[v1,v2]) w):retQ P fn Φ .ret f w:=by
 refine ⟨_,?_,h⟩
 rw [aFY,hr,Sem.run_bind,run_mapM2 h1 h2]
 simp
theorem retQ_m3 {fn:Func} {Φ:Value->World->Prop} {r1 r2 r3:ResultVar} {v1 v2 v3:Value} (hr:fn.results=#[r1,r2,r3]) (h1:aIV P fn.ntmps f w r1 v1) (h2:aIV P fn.ntmps f w r2 v2) (h3:aIV P fn.ntmps f w r3 v3) (h:Φ (.tuple #[v1,v2,v3]) w):retQ P fn Φ .ret f w:=by
 refine ⟨_,?_,h⟩
 rw [aFY,hr,Sem.run_bind,run_mapM3 h1 h2 h3]
 simp
end
def EQT (P:Program) (T:TypeId) (xs ys:List Value) (b:Bool):Prop:=P.eqGuardType P.depth T=false/\∀ w,(Op.equal T (.agg xs.toArray) (.agg ys.toArray)).run P w=.ok b w
theorem aOp {P:Program} (k:Nat) {a b:Int} {T:TypeId} {kd:IntKind} {w:World} (hT:(underlying T).run P w=.ok (.int kd) w):(Op.equalIn (k+1) T (i64 a) (i64 b)).run P w=.ok (a == b) w:=by
 simp [Op.equalIn,hT,i64]
theorem beq_ba (a b:List UInt8):((⟨⟨a⟩⟩:ByteArray) == ⟨⟨b⟩⟩)=(a == b):=by
 show ((⟨a⟩:Array UInt8) == ⟨b⟩)=(a == b)
 simp
theorem run_eqInS {P:Program} (k:Nat) {a b:aL} {T:TypeId} {w:World} (hT:(underlying T).run P w=.ok .string w):(Op.equalIn (k+1) T (str a) (str b)).run P w=.ok (a == b) w:=by
 simp only [Op.equalIn,hT,str,Sem.run_bind,Result.andThen_ok,Sem.run_pure]
 rw [beq_ba]
section
variable {P:Program} {f:Nat->Value} {w:World} {d:Nat} {x y:Operand} {ty:TypeId} {pos:String} {af:Array Edge}
theorem R_neqG {T U:TypeId} {xs ys:List Value} {b:Bool} (hq:EQT P T xs ys b) (hx:ev f x=.agg xs.toArray) (hy:ev f y=.agg ys.toArray):
  (execOp (ev f) ⟨some d,.binOp .neq T x y U,ty,pos,af,none⟩).run P w=.ok (.value (.bool (!b))) w:=by
 obtain ⟨h1,h2⟩:=hq
 simp only [execOp,hx,hy,Sem.run_bind,eqGuard,binOp]
 simp [h1,h2,bne]
end
end Gv
