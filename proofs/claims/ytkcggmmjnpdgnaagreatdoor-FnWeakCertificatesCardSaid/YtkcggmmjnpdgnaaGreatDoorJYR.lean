/- Loops over maps that a function made. No program in sight. -/
import Derived.Test.YtkcggmmjnpdgnaaGreatDoorJXA
import Derived.Laws.IdiomRangeMap
set_option linter.all false
namespace Gv
open Vl (vl)
open Go
section
variable {κ ν:Type} [DecidableEq κ] [Vl κ] [Vl ν]
structure IterIs (es:Array MapEntry) (c since c0:Nat) (sb:Array Nat) (kv:List (κ × ν)) (rem:List κ) (cur:Option (κ × ν)):Prop where
 map:aGQ es c kv
 old:∀ e∈es.toList,e.born < since
 le:since<=c0
 clk:since<=c
 left:∃ l:List κ,l.Perm rem/\(es.filter fun e=>!sb.contains e.born).toList.map (·.key)=l.map vl
 cur:∀ k v,cur=some (k,v)->c0=c/\∃ e∈es.toList,e.key=vl k/\e.val=vl v/\sb.back?=some e.born
def mpi (q r:Nat) (kv:List (κ × ν)) (rem:List κ) (cur:Option (κ × ν)):gQ:=fun h=>∃ (es:Array MapEntry) (c since c0:Nat) (sb:Array Nat),h r=some (.map es c)/\h q=some (.mapIter (some r) since sb c0)/\IterIs es c since c0 sb kv rem cur
variable {P:Program} {n:Nat} {ops:Array Oper} {rest:List Oper} {Q:pS} {f:Nat->Value} {w:World}
variable {d:Nat} {x y z:Operand} {ty:TypeId} {pos:String} {af:Array Edge}
variable {G:uK} {K:Hp} {L:List gQ}
theorem WO_range {T KT VT:TypeId} {i r:Nat} {kv:List (κ × ν)} (hT:∀ w,(underlying T).run P w=.ok (.map KT VT) w) (hs:aI G K L w) (hi:L[i]?=some (mpo r kv)) (hx:ev f x=.map (some r))
  (h:∀ q w',aI G K (L.set i (mpi q r kv (kv.map (·.1)) none)) w'->WO P n ops rest Q (upd f d (.pointer (some ⟨q,0,none⟩))) w'):
  WO P n ops (⟨some d,.range T x,ty,pos,af,none⟩::rest) Q f w:=by
 obtain ⟨h1,⟨es,c,hA,hM⟩,hle,_,ch⟩:=hs.change hi
 have hw:w.heap[r]?=some (.map es c):=hle _ _ hA
 have hnew:hp w w.heap.size=none:=by unfold hp;simp
 have hh1:h1 w.heap.size=none:=by
  cases hx:h1 w.heap.size with
  |none=>rfl
  |some o=>have:=hle _ _ hx;rw [hnew] at this;cases this
 refine aAm rfl (w':=w.alloc (.mapIter (some r) c #[] c)) (v:=.pointer (some ⟨w.heap.size,0,none⟩)) ?_ (h _ _ (ch _ _ (h1.un (Hp.one w.heap.size (.mapIter (some r) c #[] c))) ⟨rfl,Nat.le_refl _⟩ ?_ ?_ ?_ ?_))
 ·simp [execOp,hx,Instr.range,hT,MapKept.run_getObj_map hw,newObj,Sem.run]
 ·intro b o _ ho
  unfold hp at *
  exact (dQ.alloc w (.mapIter (some r) c #[] c)).le b o ho
 ·refine Hp.un_le (Hp.le_trans hle (dQ.alloc w _).le) (Hp.one_le ?_)
  unfold hp
  exact heap_alloc_new w _
 ·intro b
  by_cases hb:b=w.heap.size
  ·subst hb;exact .inr (.inr hnew)
  ·cases hx:h1 b with
   |none=>left;simp [Hp.un,hx,Hp.one,hb]
   |some o=>right;left;rfl
 ·obtain ⟨kv',he,hp'⟩:=hM.ex
  refine ⟨es,c,c,c,#[],by simp [Hp.un,hA],by simp [Hp.un,hh1,Hp.one],hM,hM.old,Nat.le_refl _,Nat.le_refl _,⟨kv'.map (·.1),hp'.map _,?_⟩,fun k v e=>by cases e⟩
  have:(es.filter fun e=>!(#[]:Array Nat).contains e.born)=es:=by simp
  rw [this]
  have:=congrArg (List.map (·.1)) he
  rw [List.map_map,List.map_map] at this
  rw [List.map_map]
  exact this
theorem aNR {q r i:Nat} {kv:List (κ × ν)} {rem:List κ} {cur:Option (κ × ν)} (hs:aI G K L w) (hi:L[i]?=some (mpi q r kv rem cur)):∃ (es:Array MapEntry) (c since c0:Nat) (sb:Array Nat),w.heap[r]?=some (.map es c)/\w.heap[q]?=some (.mapIter (some r) since sb c0)/\IterIs es c since c0 sb kv rem cur:=by
 obtain ⟨h1,⟨es,c,s,c0,sb,hA,hB,he⟩,hle,_⟩:=hs.entry hi
 exact ⟨es,c,s,c0,sb,hle _ _ hA,hle _ _ hB,he⟩
theorem aMe {ty:TypeId} {q r since c0 clock:Nat} {sb:Array Nat} {es:Array MapEntry} (hq:w.heap[q]?=some (.mapIter (some r) since sb c0)) (hb:w.heap[r]?=some (.map es clock)) (hold:∀ x∈es.toList,x.born < since) (hsc:since<=c0):
  ((es.filter fun e=>!sb.contains e.born).size=0/\(Instr.next (.pointer (some ⟨q,0,none⟩)) false ty).run P w=.ok (.tuple #[.bool false]) w)\/
  ∃ e∈(es.filter fun e=>!sb.contains e.born).toList,∃ w1:World,w1.heap=w.heap/\aIx w w1/\(Instr.next (.pointer (some ⟨q,0,none⟩)) false ty).run P w=.ok (.tuple #[.bool true,e.key,e.val]) { w1 with heap:=w.heap.setIfInBounds q (.mapIter (some r) since (sb.push e.born) clock) }:=by
 have gq:∀ w1:World,w1.heap=w.heap->(getObj q).run P w1=.ok (.mapIter (some r) since sb c0) w1:=fun w1 e=>by simp [getObj,Sem.run,e,hq]
 have gr:∀ w1:World,w1.heap=w.heap->(getObj r).run P w1=.ok (.map es clock) w1:=fun w1 e=>by simp [getObj,Sem.run,e,hb]
 simp only [Instr.next,Sem.run_bind,gq w rfl,Result.andThen_ok,gr w rfl,next_test_false sb es since c0 hold hsc,Bool.false_eq_true,if_false]
 have hmem:∀ x∈(Array.filter (fun e=>!sb.contains e.born) es).toList,x.born < since:=fun x hx=>hold x (by simp at hx ⊢;exact hx.1)
 generalize Array.filter (fun e=>!sb.contains e.born) es=M at hmem ⊢
 have e1:M.filter (fun x=>decide (x.born < since))=M:=Array.filter_eq_self.2 (fun x hx=>by simpa using hmem x (by simpa using hx))
 have e2:M.filter (fun x=>decide (x.born ≥ since))=#[]:=by
  rw [Array.filter_eq_empty_iff]
  intro x hx
  have:=hmem x (by simpa using hx)
  simp
  omega
 simp only [e1,e2,Array.append_empty]
 by_cases h0:M.size=0
 ·left
  have:M=#[]:=Array.eq_empty_of_size_eq_zero h0
  subst this
  refine ⟨rfl,?_⟩
  simp [choose,Sem.run,Question.forced]
 ·right
  have hne:M.isEmpty=false:=by simp [Array.isEmpty,h0]
  simp only [hne,Bool.false_eq_true,if_false,Array.empty_append,Array.size_map]
  have hch:∃ (j:Nat) (w1:World),j < M.size/\w1.heap=w.heap/\aIx w w1/\(choose (Question.mapNext M.size)).run P w=.ok j w1:=by
   by_cases hf:M.size<=1
   ·exact ⟨0,w,by omega,rfl,aIx.refl w,by simp [choose,Sem.run,Question.forced,hf]⟩
   ·exact ⟨_,w.drew,Nat.mod_lt _ (by omega),rfl,⟨rfl,Nat.le_succ _⟩,by
     simp only [choose,Sem.run,Question.forced,decide_eq_true_eq,hf,if_false,Question.cut]
     rfl⟩
  obtain ⟨j,w1,hj,hal,hsm,hrun⟩:=hch
  refine ⟨M[j],by simp,w1,hal,hsm,?_⟩
  have hset:(setObj q (.mapIter (some r) since (sb.push M[j].born) clock)).run P w1=.ok () { w1 with heap:=w.heap.setIfInBounds q (.mapIter (some r) since (sb.push M[j].born) clock) }:=by
   simp [setObj,Sem.run,hal,hq]
  simp only [hrun,Array.getElem?_map,Array.getElem?_eq_getElem hj,Option.map_some,Sem.run_bind,hset,Result.andThen_ok,Sem.run_pure]
theorem R_nextN {i q r:Nat} {kv:List (κ × ν)} {cur:Option (κ × ν)} (hs:aI G K L w) (hi:L[i]?=some (mpi q r kv ([]:List κ) cur)) (hx:ev f x=.pointer (some ⟨q,0,none⟩)):
  (execOp (ev f) ⟨some d,.next x false,ty,pos,af,none⟩).run P w=.ok (.value (.tuple #[.bool false])) w:=by
 obtain ⟨es,c,since,c0,sb,hr,hq,hI⟩:=aNR hs hi
 obtain ⟨l,hl,he⟩:=hI.left
 have hl0:l=[]:=hl.eq_nil
 subst hl0
 have h0:(es.filter fun e=>!sb.contains e.born).size=0:=by
  have:=congrArg List.length he
  simpa using this
 rcases aMe (P:=P) (ty:=ty) hq hr hI.old hI.le with ⟨_,h⟩|⟨e,hm,_⟩
 ·simp only [execOp,hx,Sem.run_bind,h];simp
 ·have:(es.filter fun e=>!sb.contains e.born).toList=[]:=by
   rw [←List.length_eq_zero_iff,Array.length_toList];exact h0
  rw [this] at hm;cases hm
theorem WO_nextC {i q r:Nat} {kv:List (κ × ν)} {rem:List κ} {cur:Option (κ × ν)} (hs:aI G K L w) (hi:L[i]?=some (mpi q r kv rem cur)) (hne:rem≠[]) (hx:ev f x=.pointer (some ⟨q,0,none⟩))
  (h:∀ k v rem' w',(k::rem').Perm rem->(k,v)∈kv->aI G K (L.set i (mpi q r kv rem' (some (k,v)))) w'->WO P n ops rest Q (upd f d (.tuple #[.bool true,vl k,vl v])) w'):
  WO P n ops (⟨some d,.next x false,ty,pos,af,none⟩::rest) Q f w:=by
 obtain ⟨h1,⟨es,c,since,c0,sb,hA,hB,hI⟩,hle,_,ch⟩:=hs.change hi
 have hr:w.heap[r]?=some (.map es c):=hle _ _ hA
 have hq:w.heap[q]?=some (.mapIter (some r) since sb c0):=hle _ _ hB
 have hqr:r≠q:=fun e=>by subst e;rw [hr] at hq;cases hq
 obtain ⟨l,hl,he⟩:=hI.left
 rcases aMe (P:=P) (ty:=ty) hq hr hI.old hI.le with ⟨h0,_⟩|⟨e,hm,w1,hw1,hsm,hrun⟩
 ·exfalso
  have:=congrArg List.length he
  rw [List.length_map,List.length_map,Array.length_toList,h0] at this
  have hl0:l=[]:=List.length_eq_zero_iff.1 this.symm
  subst hl0
  exact hne hl.nil_eq.symm
 ·obtain ⟨kv',hen,hpm⟩:=hI.map.ex
  have hes:e∈es.toList/\sb.contains e.born=false:=mem_left hm
  have hpair:∃ k v,(k,v)∈kv'/\e.key=vl k/\e.val=vl v:=by
   have:(e.key,e.val)∈kv'.map (fun p=>(vl p.1,vl p.2)):=by
    rw [←hen];exact List.mem_map_of_mem (f:=fun e:MapEntry=>(e.key,e.val)) hes.1
   obtain ⟨⟨k,v⟩,hkv,h3⟩:=List.mem_map.1 this
   simp only [Prod.mk.injEq] at h3
   exact ⟨k,v,hkv,h3.1.symm,h3.2.symm⟩
  obtain ⟨k,v,hkv,hk,hv⟩:=hpair
  have hpush:∀ y:Nat,(sb.push e.born).contains y=(sb.contains y||y == e.born):=fun y=>Array.contains_push ..
  have key:∀ (l:List MapEntry) (lk:List κ),(l.map (·.born)).Nodup->e∈l->(l.filter fun e'=>!sb.contains e'.born).map (·.key)=lk.map vl->
    ∃ l',(k::l').Perm lk/\(l.filter fun e'=>!(sb.push e.born).contains e'.born).map (·.key)=l'.map vl:=by
   intro l
   induction l with
   |nil=>intro _ _ h;cases h
   |cons a l ih=>
    intro lk hn hmem he
    rw [List.map_cons,List.nodup_cons] at hn
    by_cases hae:a.born=e.born
    ·have hae':a=e:=by
      rcases List.mem_cons.1 hmem with h|h
      ·exact h.symm
      ·exact absurd (hae ▸ List.mem_map_of_mem h) hn.1
     subst hae'
     have hrest:l.filter (fun e'=>!(sb.push a.born).contains e'.born)=l.filter fun e'=>!sb.contains e'.born:=by
      refine List.filter_congr fun e' he'=>?_
      have hne:(e'.born == a.born)=false:=by
       rw [beq_eq_false_iff_ne]
       intro h
       exact hn.1 (h ▸ List.mem_map_of_mem he')
      rw [hpush,hne,Bool.or_false]
     have h1:(!(sb.push a.born).contains a.born)=false:=by rw [hpush];simp
     rw [List.filter_cons,if_pos (by rw [hes.2];rfl),List.map_cons] at he
     rw [List.filter_cons,if_neg (by rw [h1];simp),hrest]
     cases lk with
     |nil=>cases he
     |cons b lk=>
      rw [List.map_cons,List.cons.injEq] at he
      have hbk:b=k:=Vl.inj _ _ (he.1.symm.trans hk)
      subst hbk
      exact ⟨lk,List.Perm.refl _,he.2⟩
    ·have hml:e∈l:=(List.mem_cons.1 hmem).resolve_left (fun h=>hae (h ▸ rfl))
     have hab:(a.born == e.born)=false:=by rw [beq_eq_false_iff_ne];exact hae
     have h1:(!(sb.push e.born).contains a.born)=!sb.contains a.born:=by rw [hpush,hab,Bool.or_false]
     rw [List.filter_cons] at he
     rw [List.filter_cons,h1]
     by_cases hc:(!sb.contains a.born)=true
     ·rw [if_pos hc] at he ⊢
      cases lk with
      |nil=>cases he
      |cons b lk=>
       rw [List.map_cons,List.map_cons,List.cons.injEq] at he
       obtain ⟨l',g1,g2⟩:=ih lk hn.2 hml he.2
       exact ⟨b::l',(List.Perm.swap b k l').trans (g1.cons b),by rw [List.map_cons,List.map_cons,he.1,g2]⟩
     ·rw [if_neg hc] at he ⊢
      exact ih lk hn.2 hml he
  have hleft:∃ l',(k::l').Perm l/\(es.filter fun e'=>!(sb.push e.born).contains e'.born).toList.map (·.key)=l'.map vl:=by
   rw [Array.toList_filter] at he ⊢
   exact key es.toList l hI.map.one hes.1 he
  obtain ⟨l',hp1,hp2⟩:=hleft
  have hqlt:q < w.heap.size:=(Array.getElem?_eq_some_iff.1 hq).1
  refine aAm rfl (w':={ w1 with heap:=w.heap.setIfInBounds q (.mapIter (some r) since (sb.push e.born) c) }) (v:=.tuple #[.bool true,e.key,e.val]) ?_ ?_
  ·simp only [execOp,hx,Sem.run_bind,hrun];simp
  ·rw [hk,hv]
   refine h k v l' _ (hp1.trans hl) (hpm.mem_iff.1 hkv) (ch _ _ ((Hp.one r (.map es c)).un (Hp.one q (.mapIter (some r) since (sb.push e.born) c))) hsm ?_ ?_ ?_ ?_)
   ·intro b o hb ho
    have hne:q≠b:=by intro e;subst e;rw [hB] at hb;cases hb
    unfold hp at *
    simp only
    rw [Array.getElem?_setIfInBounds_ne hne];exact ho
   ·refine Hp.un_le (Hp.one_le ?_) (Hp.one_le ?_)
    ·unfold hp
     simp only
     rw [Array.getElem?_setIfInBounds_ne (Ne.symm hqr)];exact hr
    ·unfold hp
     simp only
     rw [Array.getElem?_setIfInBounds_self_of_lt hqlt]
   ·intro b
    by_cases hb1:b=r
    ·subst hb1;right;left;rw [hA];rfl
    ·by_cases hb2:b=q
     ·subst hb2;right;left;rw [hB];rfl
     ·left;simp [Hp.un,Hp.one,hb1,hb2]
   ·refine ⟨es,c,since,c,sb.push e.born,by simp [Hp.un,Hp.one],by simp [Hp.un,Hp.one,Ne.symm hqr],hI.map,hI.old,hI.clk,hI.clk,⟨l',List.Perm.refl _,hp2⟩,fun k' v' ek=>?_⟩
    cases ek
    exact ⟨rfl,e,hes.1,hk,hv,by simp⟩
theorem R_entry {i q r:Nat} {kv:List (κ × ν)} {rem:List κ} {k:κ} {v:ν} (hs:aI G K L w) (hi:L[i]?=some (mpi q r kv rem (some (k,v)))) (hx:ev f x=.pointer (some ⟨q,0,none⟩)):
  (execOp (ev f) ⟨some d,.entry x,ty,pos,af,none⟩).run P w=.ok (.value (.tuple #[vl k,vl v])) w:=by
 obtain ⟨es,c,since,c0,sb,hr,hq,hI⟩:=aNR hs hi
 obtain ⟨hc,e,he,hk,hv,hb⟩:=hI.cur k v rfl
 subst hc
 have hf:es.find? (·.born == e.born)=some e:=by rw [←Array.find?_toList];exact find_born e es.toList hI.map.one he
 have gq:(getObj q).run P w=.ok (.mapIter (some r) since sb c0) w:=by simp [getObj,Sem.run,hq]
 have gr:(getObj r).run P w=.ok (.map es c0) w:=by simp [getObj,Sem.run,hr]
 have:(Instr.entry (.pointer (some ⟨q,0,none⟩))).run P w=.ok (.tuple #[vl k,vl v]) w:=by
  simp only [Instr.entry,Sem.run_bind,gq,Result.andThen_ok,hb,gr,bne_self_eq_false,Bool.false_eq_true,if_false,hf,Sem.run_pure,hk,hv]
 simp only [execOp,hx,Sem.run_bind,this];simp
theorem aI.lendI {i q r:Nat} {kv:List (κ × ν)} {rem:List κ} {cur:Option (κ × ν)} (s:aI G K L w) (e:L[i]?=some (mpi q r kv rem cur)):
  ∃ K',K.le K'/\rdM K' r kv/\aI G K' (L.eraseIdx i) w/\∀ L' w',aI G K' L' w'->aI G K (mpi q r kv rem cur::L') w':=by
 obtain ⟨K',h1,⟨es,c,since,c0,sb,a,_,b⟩,l1,lk,s',back⟩:=s.lend e
 exact ⟨K',lk,⟨es,c,l1 _ _ a,b.map⟩,s',back⟩
theorem aI.endI {i q r:Nat} {kv:List (κ × ν)} {rem:List κ} {cur:Option (κ × ν)} (s:aI G K L w) (e:L[i]?=some (mpi q r kv rem cur)):aI G K (L.set i (mpo r kv)) w:=
 s.weak e fun _ ⟨es,c,_,_,_,a,_,b⟩=>⟨es,c,a,b.map⟩
theorem W_loopC {c:Code} (I:Nat->(Nat->Value)->World->Prop) (m:Nat) (h0:I m f w) (hz:∀ f w,I 0 f w->W P n c (tY (fun _ _=>False) Q) f w) (hb:∀ j f w,I (j+1) f w->W P n c (tY (fun f w=>I j f w) Q) f w):
  W P n (.loop c) Q f w:=by
 have hl:∀ m:Nat,loop (fun n:Nat=>match n with|0=>some (.inr ())|k+1=>some (.inl k):Nat->Option (Nat ⊕ Unit)) m=some ():=by
  intro m
  induction m with
  |zero=>rw [cY]
  |succ m ih=>rw [cY];exact ih
 refine W_loop (hl m) I h0 ?_
 intro s x f w hx _ hI
 cases s with
 |zero=>
  refine (hz f w hI).mono ?_
  intro e f w h
  cases e with
  |normal=>exact h.elim
  |_=>exact h
 |succ j=>
  refine (hb j f w hI).mono ?_
  intro e f w h
  cases e with
  |normal=>exact ⟨j,(Option.some.inj hx).symm,h⟩
  |_=>exact h
omit [Vl κ] [Vl ν] in
omit [Vl κ] [Vl ν] in
omit [Vl κ] [Vl ν] in
omit [Vl κ] [Vl ν] in
omit [Vl κ] [Vl ν] in
omit [Vl κ] [Vl ν] in
omit [Vl κ] [Vl ν] in
omit [Vl κ] [Vl ν] in
omit [Vl κ] [Vl ν] in
omit [Vl κ] [Vl ν] in
omit [Vl κ] [Vl ν] [DecidableEq κ] in
theorem mfil_some {t:κ->Option Bool}:∀ {l ks:List κ},mfil t l=some ks->(∀ k∈l,∃ b,t k=some b)/\ks=l.filter fun k=>(t k).getD false:=by
 intro l
 induction l with
 |nil=>intro ks h;cases h;exact ⟨fun _ h=>absurd h List.not_mem_nil,rfl⟩
 |cons k l ih=>
  intro ks h
  unfold mfil at h
  obtain ⟨b,hb,h⟩:=aC h
  obtain ⟨r,hr,h⟩:=aC h
  obtain ⟨h1,rfl⟩:=ih hr
  refine ⟨fun k' hk=>?_,?_⟩
  ·rcases List.mem_cons.1 hk with rfl|hk
   ·exact ⟨b,hb⟩
   ·exact h1 k' hk
  ·rw [List.filter_cons,hb,←Option.some.inj h]
   cases b<;>simp
omit [Vl κ] [Vl ν] in
theorem mfil_at {t:κ->Option Bool} {l ks seen rem rem':List κ} {k:κ} (h:mfil t l=some ks) (p:(seen++rem).Perm l) (q:(k::rem').Perm rem):∃ b,t k=some b:=
 (mfil_some h).1 k (p.mem_iff.1 (List.mem_append_right _ (q.mem_iff.1 List.mem_cons_self)))
omit [Vl κ] [Vl ν] [DecidableEq κ] in
theorem seen_next {l seen rem rem':List κ} {k:κ} (p:(seen++rem).Perm l) (q:(k::rem').Perm rem):((seen++[k])++rem').Perm l:=by
 rw [List.append_assoc]
 exact (List.Perm.append_left seen q).trans p
omit [Vl κ] [Vl ν] [DecidableEq κ] in
theorem len_next {rem rem':List κ} {k:κ} {j:Nat} (q:(k::rem').Perm rem) (h:rem.length=j+1):rem'.length=j:=by
 have:=q.length_eq
 simp at this;omega
omit [Vl κ] [Vl ν] in
end
section
variable {P:Program} {f:Nat->Value} {w:World} {d:Nat} {x y:Operand} {ty:TypeId} {pos:String} {af:Array Go.Edge} {Ts:Array TypeId}
end
end Gv
