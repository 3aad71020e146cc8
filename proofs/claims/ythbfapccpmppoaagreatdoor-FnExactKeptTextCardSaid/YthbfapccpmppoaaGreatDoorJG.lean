/- One step for a value; calls; loops; regions that draw their order. No program in sight. -/
import Derived.Test.YthbfapccpmppoaaGreatDoorJF
set_option linter.all false
namespace Gv
open Go
section
variable {P:Program} {n:Nat} {ops:Array Oper} {rest:List Oper} {Q:lI} {f:Nat->Value} {w:World}
variable {d:Nat} {x y z:Operand} {ty:TypeId} {pos:String} {af:Array Edge}
variable {G:kH} {K:Hp} {L:List eW}
theorem aMd {xs:Array Operand} {vs:List Value} (hv:xs.toList.map (ev f)=vs):xs.map (ev f)=vs.toArray:=by
 apply Array.ext'
 rw [Array.toList_map,hv]
theorem aC {op:Op} {v:Value} (hr:(execOp (ev f) ⟨some d,op,ty,pos,af,none⟩).run P w=.ok (.value v) w) (h:WO P n ops rest Q (upd f d v) w):
  WO P n ops (⟨some d,op,ty,pos,af,none⟩::rest) Q f w:=aFT rfl hr h
theorem bR {v:Value} (hv:ev f x=v) (h:WO P n ops rest Q (upd f d v) w):WO P n ops (⟨some d,.move x,ty,pos,af,none⟩::rest) Q f w:=aC (bC hv) h
theorem aO {v:Value} (h:WO P n ops rest Q (upd f d v) w) (hv:ev f x=v:=by exact rfl):WO P n ops (⟨some d,.move x,ty,pos,af,none⟩::rest) Q f w:=aC (bC hv) h
theorem WO_a {v:Value} (hv:ev f x=v) (h:WO P n ops rest Q (upd f d v) w):WO P n ops (⟨some d,.assign x,ty,pos,af,none⟩::rest) Q f w:=aC (dJ hv) h
theorem aG {v:Value} (h:WO P n ops rest Q (upd f d v) w) (hv:ev f x=v:=by exact rfl):WO P n ops (⟨some d,.assign x,ty,pos,af,none⟩::rest) Q f w:=aC (dJ hv) h
theorem aM {M:(Nat->Value)->World->Prop} (h:M f w):WO P n ops [] (sA M Q) f w:=bP (aD h)
theorem aJ {id:Nat} {l:List Oper} {b:Code} (h:WO P n l.toArray l (sA (fun f w=>W P n b Q f w) Q) f w):W P n (.seq (.region id l.toArray false) b) Q f w:=aH (bK h)
abbrev CE (P:Program) (k:FuncId):Prop:=∀ args w,(callFunc k args).run P w=.ok (.enter k args) w
theorem aT {k:FuncId} {xs:Array Operand} {ats:Array TypeId} {vs:List Value} {Φ:Value->World->Prop} (hk:CE P k) (hv:xs.toList.map (ev f)=vs)
  (hc:Calls P k vs.toArray w (cL Φ)) (h:∀ v w',Φ v w'->WO P n ops rest Q (upd f d v) w'):
  WO P n ops (⟨some d,.call ⟨.value (.func k),xs,ats⟩,ty,pos,af,none⟩::rest) Q f w:=by
 have e:xs.map (ev f)=vs.toArray:=aMd hv
 refine aMa rfl (w':=w) (k:=k) (args:=vs.toArray) ?_ hc h
 have:=hk vs.toArray w
 simp [execOp,resolve,Deferred.ofValue,invoke,ev,e,this]
theorem WO_call0 {k:FuncId} {xs:Array Operand} {ats:Array TypeId} {vs:List Value} {Φ:Value->World->Prop} (hk:CE P k) (hv:xs.toList.map (ev f)=vs)
  (hc:Calls P k vs.toArray w (cL Φ)) (h:∀ v w',Φ v w'->WO P n ops rest Q f w'):
  WO P n ops (⟨none,.call ⟨.value (.func k),xs,ats⟩,ty,pos,af,none⟩::rest) Q f w:=by
 have e:xs.map (ev f)=vs.toArray:=aMd hv
 refine aMa rfl (w':=w) (k:=k) (args:=vs.toArray) ?_ hc h
 have:=hk vs.toArray w
 simp [execOp,resolve,Deferred.ofValue,invoke,ev,e,this]
theorem eM {k:FuncId} {fo:Operand} {xs:Array Operand} {ats:Array TypeId} {vs caps us:List Value} {Φ:Value->World->Prop} (hf:ev f fo=.func (.func k) #[] caps.toArray) (hk:CE P k) (hv:xs.toList.map (ev f)=vs) (hu:vs++caps=us)
  (hc:Calls P k us.toArray w (cL Φ)) (h:∀ v w',Φ v w'->WO P n ops rest Q (upd f d v) w'):
  WO P n ops (⟨some d,.call ⟨.value fo,xs,ats⟩,ty,pos,af,none⟩::rest) Q f w:=by
 have e:xs.map (ev f)=vs.toArray:=aMd hv
 refine aMa rfl (w':=w) (k:=k) (args:=us.toArray) ?_ hc h
 have:=hk us.toArray w
 rw [←hu] at this ⊢
 simp [execOp,resolve,Deferred.ofValue,invoke,hf,e] at this ⊢
 exact this
theorem xV {fn:Fn} {xs:Array Operand} {vs:List Value} (hv:xs.toList.map (ev f)=vs):
  (execOp (ev f) ⟨some d,.makeFunc fn #[] xs,ty,pos,af,none⟩).run P w=.ok (.value (.func fn #[] vs.toArray)) w:=by
 have e:xs.map (ev f)=vs.toArray:=aMd hv
 simp [execOp,Instr.makeFunc,e]
theorem W_loop {σ ρ:Type} {step:σ->Option (σ ⊕ ρ)} {s0:σ} {r:ρ} {c:Code} (hl:loop step s0=some r) (I:σ->(Nat->Value)->World->Prop) (h0:I s0 f w)
  (hb:∀ s x f w,step s=some x->(∀ r',x=.inr r'->r'=r)->I s f w->W P n c (sA (fun f w=>∃ s',x=.inl s'/\I s' f w) Q) f w):W P n (.loop c) Q f w:=by
 refine ⟨fun ok=>?_⟩
 obtain ⟨m,hm⟩:=uS.1 hl
 refine wp_loop_rounds m ?_
 have key:∀ m s f w,aBI step m s=some r->I s f w->Code.rounds P c (lift n Q) m (act n f) w:=by
  intro m
  induction m with
  |zero=>intro s f w hm _;cases hm
  |succ m ih=>
   intro s f w hm hI
   rw [rounds_succ]
   cases hs:step s with
   |none=>simp [aBI,hs] at hm
   |some x=>
    have hx:∀ r',x=.inr r'->r'=r:=by
     intro r' e
     subst e
     simpa [aBI,hs] using hm
    refine Code.wp_mono ?_ ((hb s x f w hs hx hI).go ok)
    rintro e a' w' ⟨f',rfl,q⟩
    cases e with
    |normal=>
     obtain ⟨s',rfl,hI'⟩:=q
     exact ih s' f' w' (by simpa [aBI,hs] using hm) hI'
    |_=>exact ⟨f',rfl,q⟩
 exact key m s0 f w hm h0
theorem aOQ {σ ρ:Type} (ks:List Nat) {step:σ->Option (σ ⊕ ρ)} {s0:σ} {r:ρ} {c:Code} (hl:loop step s0=some r) (I:σ->(Nat->Value)->World->Prop) (h0:I s0 f w)
  (hb:∀ s x g w,step s=some x->(∀ r',x=.inr r'->r'=r)->I s (ovr ks f g) w->W P n c (sA (fun g w=>∃ s',x=.inl s'/\ks.map g=ks.map f/\I s' g w) Q) (ovr ks f g) w):W P n (.loop c) Q f w:=
 W_loop hl (fun s g w=>ks.map g=ks.map f/\I s g w) ⟨rfl,h0⟩ fun s x g w h1 h2 h3=>by
  have:=hb s x g w h1 h2
  rw [aLZ h3.1] at this
  exact this h3.2
theorem bW {α0 ρ:Type} (ks:List Nat) {step:α0->Option ((α0) ⊕ ρ)} {s0:α0} {r:ρ} {c:Code} (hl:loop (fun s=>step s) s0=some r) (I:α0->(Nat->Value)->World->Prop) (h0:I s0 f w)
  (hb:∀ a0 x g w,step a0=some x->(∀ r',x=.inr r'->r'=r)->I a0 (ovr ks f g) w->W P n c (sA (fun g w=>∃ s',x=.inl s'/\ks.map g=ks.map f/\I s' g w) Q) (ovr ks f g) w):W P n (.loop c) Q f w:=
 aOQ ks hl (fun s=>I s) h0 fun s=>hb s
theorem cD {α0 α1 ρ:Type} (ks:List Nat) {step:α0->α1->Option ((α0 × α1) ⊕ ρ)} {s0:α0 × α1} {r:ρ} {c:Code} (hl:loop (fun s=>step s.1 s.2) s0=some r) (I:α0->α1->(Nat->Value)->World->Prop) (h0:I s0.1 s0.2 f w)
  (hb:∀ a0 a1 x g w,step a0 a1=some x->(∀ r',x=.inr r'->r'=r)->I a0 a1 (ovr ks f g) w->W P n c (sA (fun g w=>∃ s',x=.inl s'/\ks.map g=ks.map f/\I s'.1 s'.2 g w) Q) (ovr ks f g) w):W P n (.loop c) Q f w:=
 aOQ ks hl (fun s=>I s.1 s.2) h0 fun s=>hb s.1 s.2
theorem aBM {α0 α1 α2 ρ:Type} (ks:List Nat) {step:α0->α1->α2->Option ((α0 × α1 × α2) ⊕ ρ)} {s0:α0 × α1 × α2} {r:ρ} {c:Code} (hl:loop (fun s=>step s.1 s.2.1 s.2.2) s0=some r) (I:α0->α1->α2->(Nat->Value)->World->Prop) (h0:I s0.1 s0.2.1 s0.2.2 f w)
  (hb:∀ a0 a1 a2 x g w,step a0 a1 a2=some x->(∀ r',x=.inr r'->r'=r)->I a0 a1 a2 (ovr ks f g) w->W P n c (sA (fun g w=>∃ s',x=.inl s'/\ks.map g=ks.map f/\I s'.1 s'.2.1 s'.2.2 g w) Q) (ovr ks f g) w):W P n (.loop c) Q f w:=
 aOQ ks hl (fun s=>I s.1 s.2.1 s.2.2) h0 fun s=>hb s.1 s.2.1 s.2.2
structure WQ (P:Program) (n:Nat) (ops:Array Oper) (C:World->Prop) (l:List Oper) (R:(Nat->Value)->Prop) (f:Nat->Value):Prop where
 go:l.all (fun o=>oko n o&&okg n ops o.guard)=true->wpQuiet P ops C (fun a=>∃ f,a=act n f/\R f) l (act n f)
theorem fZ {id:Nat} {l:List Oper} {C:World->Prop} (hm:P.follows .mixedOrders=true) (hB:Region.lexB .any l.toArray=true) (hC:C w.drew)
  (h:WQ P n l.toArray C l (fun f=>∀ w',C w'->Q .normal f w') f):W P n (.region id l.toArray true) Q f w:=by
 refine ⟨fun ok=>?_⟩
 refine wp_region_quiet (C:=C) hm hB hC ?_
 have ok':l.all (fun o=>oko n o&&okg n l.toArray o.guard)=true:=by simpa [okc] using ok
 have:=h.go ok'
 have mono:∀ (l:List Oper) (R R':Act->Prop) (a:Act) (ops:Array Oper),(∀ a,R a->R' a)->wpQuiet P ops C R l a->wpQuiet P ops C R' l a:=by
  intro l
  induction l with
  |nil=>intro R R' a ops hR h;exact hR _ h
  |cons o l ih=>
   intro R R' a ops hR h
   unfold wpQuiet at h ⊢
   split
   ·rename_i hw;rw [if_pos hw] at h;exact Oper.quiet_mono (fun a=>ih R R' a ops hR) h
   ·rename_i hw;rw [if_neg hw] at h;exact ih R R' _ ops hR h
 refine mono _ _ _ _ _ ?_ this
 rintro a ⟨f',rfl,hR⟩ w' hw'
 exact ⟨f',rfl,hR w' hw'⟩
variable {C:World->Prop} {R:(Nat->Value)->Prop}
theorem uH (h:R f):WQ P n ops C [] R f:=⟨fun _=>wpQuiet_nil ⟨f,rfl,h⟩⟩
theorem bE {op:Op} {v:Value} (hr:∀ w,C w->(execOp (ev f) ⟨some d,op,ty,pos,af,none⟩).run P w=.ok (.value v) w) (h:WQ P n ops C rest R (upd f d v)):
  WQ P n ops C (⟨some d,op,ty,pos,af,none⟩::rest) R f:=by
 refine ⟨fun ok=>?_⟩
 simp only [List.all_cons,Bool.and_eq_true] at ok
 unfold wpQuiet
 rw [if_pos (by simp [Region.wanted])]
 refine ⟨v,fun w hw=>?_,?_⟩
 ·unfold Oper.quietAt
  rw [qG ok.1.1,hr w hw]
  exact ⟨rfl,rfl⟩
 ·rw [tU]
  exact h.go (by simpa using ok.2)
theorem gA {k:FuncId} {xs:Array Operand} {ats:Array TypeId} {vs:List Value} {v:Value} (hk:CE P k) (hv:xs.toList.map (ev f)=vs)
  (hc:∀ w,C w->Calls P k vs.toArray w (cL fun u w'=>u=v/\C w')) (h:WQ P n ops C rest R (upd f d v)):
  WQ P n ops C (⟨some d,.call ⟨.value (.func k),xs,ats⟩,ty,pos,af,none⟩::rest) R f:=by
 refine ⟨fun ok=>?_⟩
 simp only [List.all_cons,Bool.and_eq_true] at ok
 unfold wpQuiet
 rw [if_pos (by simp [Region.wanted])]
 have e:xs.map (ev f)=vs.toArray:=aMd hv
 refine ⟨v,fun w hw=>?_,?_⟩
 ·unfold Oper.quietAt
  rw [qG ok.1.1]
  have:=hk vs.toArray w
  simp only [execOp,resolve,Deferred.ofValue,invoke,ev,e,Sem.run_bind,Sem.run_pure,Result.andThen_ok,Array.empty_append,Array.append_empty,this]
  refine ⟨rfl,(hc w hw).mono ?_⟩
  rintro e w' ⟨u,rfl,rfl,hC⟩
  exact ⟨rfl,hC⟩
 ·rw [tU]
  exact h.go (by simpa using ok.2)
theorem WQ_on' {j g:Nat} {o:Oper} {b want:Bool} (hg:o.guard=some (j,want)) (hd:(ops[j]?).bind (·.dst)=some g) (hx:f g=.bool b) (hb:b=want)
  (h:WQ P n ops C ({ o with guard:=none }::rest) R f):WQ P n ops C (o::rest) R f:=by
 refine ⟨fun ok=>?_⟩
 have ok':=ok
 simp only [List.all_cons,Bool.and_eq_true] at ok
 have hn:g < n:=by have:=ok.1.2;rw [hg] at this;simp only [okg,hd] at this;simpa [Nat.blt_eq] using this
 have h':=h.go (by
  simp only [List.all_cons,Bool.and_eq_true]
  exact ⟨⟨ok.1.1,rfl⟩,by simpa using ok.2⟩)
 unfold wpQuiet at h' ⊢
 have e1:Region.wanted o (yielded ops (act n f).tmps)=true:=by
  simp [Region.wanted,hg,aCO hd hn hx,hb]
 have e2:Region.wanted { o with guard:=none } (yielded ops (act n f).tmps)=true:=by simp [Region.wanted]
 rw [if_pos e2] at h'
 rw [if_pos e1]
 exact h'
theorem WQ_off' {j g:Nat} {o:Oper} {b want:Bool} (hg:o.guard=some (j,want)) (hd:(ops[j]?).bind (·.dst)=some g) (hx:f g=.bool b) (hb:(b == want)=false)
  (h:WQ P n ops C rest R (aDK f o.dst undef)):WQ P n ops C (o::rest) R f:=by
 refine ⟨fun ok=>?_⟩
 simp only [List.all_cons,Bool.and_eq_true] at ok
 have hn:g < n:=by have:=ok.1.2;rw [hg] at this;simp only [okg,hd] at this;simpa [Nat.blt_eq] using this
 unfold wpQuiet
 have e1:Region.wanted o (yielded ops (act n f).tmps)=false:=by
  simp only [Region.wanted,hg,aCO hd hn hx]
  cases b<;>cases want<;>simp_all
 rw [if_neg (by simp [e1]),tU]
 exact h.go (by simpa using ok.2)
theorem WQ_off_u' {j g:Nat} {o:Oper} {want:Bool} (hg:o.guard=some (j,want)) (hd:(ops[j]?).bind (·.dst)=some g) (hx:f g=undef)
  (h:WQ P n ops C rest R (aDK f o.dst undef)):WQ P n ops C (o::rest) R f:=by
 refine ⟨fun ok=>?_⟩
 simp only [List.all_cons,Bool.and_eq_true] at ok
 have hn:g < n:=by have:=ok.1.2;rw [hg] at this;simp only [okg,hd] at this;simpa [Nat.blt_eq] using this
 unfold wpQuiet
 have e0:yielded ops (act n f).tmps j=none:=by
  unfold yielded;rw [hd];simp [act,hn,hx,undef]
 have e1:Region.wanted o (yielded ops (act n f).tmps)=false:=by simp [Region.wanted,hg,e0]
 rw [if_neg (by simp [e1]),tU]
 exact h.go (by simpa using ok.2)
theorem xM {j g:Nat} {op:Op} {dst:Option Tmp} {b want:Bool} (hd:(ops[j]?).bind (·.dst)=some g) (hx:f g=.bool b) (hb:b=want)
  (h:WQ P n ops C (⟨dst,op,ty,pos,af,none⟩::rest) R f):WQ P n ops C (⟨dst,op,ty,pos,af,some (j,want)⟩::rest) R f:=WQ_on' rfl hd hx hb h
theorem aAG {j g:Nat} {op:Op} {dst:Option Tmp} {b want:Bool} (hd:(ops[j]?).bind (·.dst)=some g) (hx:f g=.bool b) (hb:(b == want)=false)
  (h:WQ P n ops C rest R (aDK f dst undef)):WQ P n ops C (⟨dst,op,ty,pos,af,some (j,want)⟩::rest) R f:=WQ_off' rfl hd hx hb h
theorem WQ_off_u {j g:Nat} {op:Op} {dst:Option Tmp} {want:Bool} (hd:(ops[j]?).bind (·.dst)=some g) (hx:f g=undef)
  (h:WQ P n ops C rest R (aDK f dst undef)):WQ P n ops C (⟨dst,op,ty,pos,af,some (j,want)⟩::rest) R f:=WQ_off_u' rfl hd hx h
end
end Gv
