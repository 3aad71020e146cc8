/- Maps that a function makes. No program in sight. -/
import Derived.Test.YtokmmhfhaoanmaaGreatDoorJU
import Derived.Laws.IdiomMaps
set_option linter.all false
namespace Gv
open Go
class Vl (α:Type) where
 vl:α->Value
 inj:∀ a b,vl a=vl b->a=b
open Vl (vl)
instance:Vl Int:=⟨i64,fun a b h=>by simpa [i64] using h⟩
instance:Vl Bool:=⟨.bool,fun a b h=>by simpa using h⟩
instance:Vl aH:=⟨str,fun a b h=>by simpa [str] using h⟩
instance:Vl (Int × Int):=⟨fun p=>.agg #[i64 p.1,i64 p.2],fun ⟨a,b⟩ ⟨c,d⟩ h=>by simpa [i64] using h⟩
instance:Vl (Int × Int × Int):=⟨fun p=>.agg #[i64 p.1,i64 p.2.1,i64 p.2.2],fun ⟨a,b,c⟩ ⟨d,e,f⟩ h=>by simpa [i64] using h⟩
section
variable {κ ν:Type} [DecidableEq κ]
def fnd:List (κ × Value)->κ->Nat->Option (Nat × Value)
 |[],_,_=>none
 |(k',v)::l,k,i=>if k=k' then some (i,v) else fnd l k (i+1)
theorem aTh (g:ν->Value):∀ (l:List (κ × ν)) (k:κ) (i:Nat),(fnd (l.map fun p=>(p.1,g p.2)) k i).map (·.2)=(qL l k).map g
 |[],_,_=>rfl
 |(k',v)::l,k,i=>by
  simp only [List.map_cons,fnd,qL]
  split
  ·rfl
  ·exact aTh g l k (i+1)
theorem aJZ (g:ν->Value):∀ (l:List (κ × ν)) (k:κ) (v:ν) (i:Nat),fnd (l.map fun p=>(p.1,g p.2)) k i=none->vA l k v=l++[(k,v)]
 |[],_,_,_,_=>rfl
 |(k',v')::l,k,v,i,h=>by
  simp only [List.map_cons,fnd] at h
  split at h
  ·cases h
  ·rename_i hne
   simp only [vA,if_neg hne,aJZ g l k v (i+1) h,List.cons_append]
theorem aKa (g:ν->Value):∀ (l:List (κ × ν)) (k:κ) (v:ν) (i j:Nat) (u:Value),fnd (l.map fun p=>(p.1,g p.2)) k i=some (j,u)->∃ m,j=i+m/\m < l.length/\vA l k v=l.set m (k,v)/\∃ v',l[m]?=some (k,v')
 |[],_,_,_,_,_,h=>by cases h
 |(k',v')::l,k,v,i,j,u,h=>by
  simp only [List.map_cons,fnd] at h
  split at h
  ·rename_i he
   cases h
   subst he
   exact ⟨0,rfl,by simp,by simp [vA],v',rfl⟩
  ·rename_i hne
   obtain ⟨m,rfl,hm,e,v'',hv⟩:=aKa g l k v (i+1) j u h
   exact ⟨m+1,by omega,by simp;omega,by simp [vA,if_neg hne,e],v'',by simpa using hv⟩
end
structure aQY (P:Program) (T:TypeId) (κ:Type) [DecidableEq κ] [Vl κ]:Prop where
 chk:∀ (b:Bool) (k:κ) w,(Instr.checkKey b 10000 T (vl k)).run P w=.ok () w
 find:∀ (k:κ) (es:List MapEntry) (kv:List (κ × Value)) w,es.map (fun e=>(e.key,e.val))=kv.map (fun p=>(vl p.1,p.2))->(Instr.findKey T (vl k) es).run P w=.ok (fnd kv k 0) w
 stays:∀ (k:κ) w,(Instr.keyThatStays (vl k) (vl k)).run P w=.ok (vl k) w
theorem aOZ {κ:Type} [DecidableEq κ] [Vl κ] {kd:TypeDesc} (h:∀ a b:κ,Instr.sameNow kd (vl a) (vl b)=some (decide (a=b))) (k:κ):
  ∀ (es:List MapEntry) (kv:List (κ × Value)) (i:Nat),es.map (fun e=>(e.key,e.val))=kv.map (fun p=>(vl p.1,p.2))->Instr.findNow kd (vl k) es i=some (fnd kv k i)
 |[],[],_,_=>rfl
 |[],_::_,_,e=>by simp at e
 |_::_,[],_,e=>by simp at e
 |e::es,(k',v)::kv,i,he=>by
  simp only [List.map_cons,List.cons.injEq,Prod.mk.injEq] at he
  obtain ⟨⟨h1,h2⟩,h3⟩:=he
  unfold Instr.findNow
  rw [h1,h]
  by_cases hk:k=k'
  ·subst hk;simp [fnd,h2]
  ·simp only [hk,decide_false,fnd,if_false]
   exact aOZ h k es kv (i+1) h3
theorem keyOk_str {P:Program} {T:TypeId} (hT:∀ w,(underlying T).run P w=.ok .string w):aQY P T aH where
 chk b k w:=by
  have key:∀ m:Nat,(Instr.checkKey b (m+1) T (vl k)).run P w=.ok () w:=fun m=>by
   simp only [Instr.checkKey,Sem.run_bind,hT,Result.andThen_ok,vl,str,Sem.run_pure]
  exact key 9999
 find k es kv w h:=by
  have:=aOZ (κ:=aH) (kd:=.string) (fun a b=>by
   simp only [Instr.sameNow,vl,str]
   rw [beq_ba]
   by_cases hab:a=b<;>simp [hab]) k es kv 0 h
  simp only [Instr.findKey,Sem.run_bind,hT,Result.andThen_ok,this,Sem.run_pure]
 stays k w:=by
  have:((⟨⟨k⟩⟩:ByteArray) == ⟨⟨k⟩⟩)=true:=by rw [beq_ba];simp
  simp [Instr.keyThatStays,Instr.sameBits,vl,str,this]
section
variable {κ ν:Type} [DecidableEq κ]
theorem mget_perm {l l':List (κ × ν)} (p:l.Perm l') (hn:(l.map (·.1)).Nodup) (k:κ):qL l k=qL l' k:=by
 induction p with
 |nil=>rfl
 |cons x p ih=>
  obtain ⟨k',v⟩:=x
  rw [List.map_cons,List.nodup_cons] at hn
  simp only [qL,ih hn.2]
 |swap x y l=>
  obtain ⟨k1,v1⟩:=x
  obtain ⟨k2,v2⟩:=y
  simp only [List.map_cons,List.nodup_cons,List.mem_cons,not_or] at hn
  simp only [qL]
  by_cases h1:k=k1
  ·by_cases h2:k=k2
   ·exact absurd (h2.symm.trans h1) hn.1.1
   ·simp [h1,if_neg (show ¬ k1=k2 from fun e=>h2 (h1.trans e))]
  ·simp [h1]
 |trans p q ih1 ih2=>exact (ih1 hn).trans (ih2 ((p.map (·.1)).nodup_iff.1 hn))
theorem mput_keys (l:List (κ × ν)) (k:κ) (v:ν):(vA l k v).map (·.1)=if k∈l.map (·.1) then l.map (·.1) else l.map (·.1)++[k]:=by
 induction l with
 |nil=>simp [vA]
 |cons x l ih=>
  obtain ⟨k',u⟩:=x
  by_cases e:k=k'
  ·subst e;simp [vA]
  ·rw [vA,if_neg e,List.map_cons,List.map_cons,ih]
   by_cases hm:k∈l.map (·.1)
   ·rw [if_pos hm,if_pos (List.mem_cons_of_mem _ hm)]
   ·rw [if_neg hm,if_neg (fun h=>(List.mem_cons.1 h).elim e hm),List.cons_append]
theorem aPa {l:List (κ × ν)} (h:(l.map (·.1)).Nodup) (k:κ) (v:ν):((vA l k v).map (·.1)).Nodup:=by
 rw [mput_keys]
 split
 ·exact h
 ·rename_i hk
  rw [List.nodup_append]
  refine ⟨h,by simp,fun a ha b hb=>?_⟩
  simp at hb;subst hb
  exact fun e=>hk (e ▸ ha)
theorem mput_perm {l l':List (κ × ν)} (p:l.Perm l') (hn:(l.map (·.1)).Nodup) (k:κ) (v:ν):(vA l k v).Perm (vA l' k v):=by
 induction p with
 |nil=>exact List.Perm.refl _
 |cons x p ih=>
  obtain ⟨k',u⟩:=x
  rw [List.map_cons,List.nodup_cons] at hn
  simp only [vA]
  split
  ·exact p.cons _
  ·exact (ih hn.2).cons _
 |swap x y l=>
  obtain ⟨k1,v1⟩:=x
  obtain ⟨k2,v2⟩:=y
  simp only [List.map_cons,List.nodup_cons,List.mem_cons,not_or] at hn
  simp only [vA]
  by_cases h1:k=k1
  ·by_cases h2:k=k2
   ·exact absurd (h2.symm.trans h1) hn.1.1
   ·subst h1
    simp only [if_neg h2,if_true]
    exact List.Perm.swap _ _ _
  ·simp only [if_neg h1]
   split
   ·exact List.Perm.swap _ _ _
   ·exact List.Perm.swap _ _ _
 |trans p q ih1 ih2=>exact (ih1 hn).trans (ih2 ((p.map (·.1)).nodup_iff.1 hn))
end
section
variable {κ ν:Type} [DecidableEq κ] [Vl κ] [Vl ν]
def ents (es:Array MapEntry) (kv:List (κ × ν)):Prop:=es.toList.map (fun e=>(e.key,e.val))=kv.map (fun p=>(vl p.1,vl p.2))
structure aIg (es:Array MapEntry) (c:Nat) (kv:List (κ × ν)):Prop where
 ex:∃ kv':List (κ × ν),ents es kv'/\kv'.Perm kv
 keys:(kv.map (·.1)).Nodup
 old:∀ e∈es.toList,e.born < c
 one:(es.toList.map (·.born)).Nodup
def jO (r:Nat) (kv:List (κ × ν)):eU:=fun h=>∃ (es:Array MapEntry) (c:Nat),h r=some (.map es c)/\aIg es c kv
theorem mpo_kv {es:Array MapEntry} {kv:List (κ × ν)} (h:es.toList.map (fun e=>(e.key,e.val))=kv.map (fun p=>(vl p.1,vl p.2))):
  es.toList.map (fun e=>(e.key,e.val))=(kv.map fun p=>(p.1,vl p.2)).map (fun p=>(vl p.1,p.2)):=by
 rw [h,List.map_map];rfl
variable {P:Program} {n:Nat} {ops:Array Oper} {rest:List Oper} {Q:mZ} {f:Nat->Value} {w:World}
variable {d:Nat} {x y z:Operand} {ty:TypeId} {pos:String} {af:Array Edge}
variable {G:mL} {K:Hp} {L:List eU}
theorem aIg.nil:aIg #[] 0 ([]:List (κ × ν)):=⟨⟨[],rfl,List.Perm.refl _⟩,by simp,by simp,by simp⟩
theorem aIg.len {es:Array MapEntry} {c:Nat} {kv:List (κ × ν)} (h:aIg es c kv):es.size=kv.length:=by
 obtain ⟨kv',h1,h2⟩:=h.ex
 have:=congrArg List.length h1
 rw [List.length_map,List.length_map,h2.length_eq] at this
 simpa using this
theorem aPb {T:TypeId} (κ ν:Type) [DecidableEq κ] [Vl κ] [Vl ν] (hs:aD G K L w) (h:∀ r w',aD G K (jO r ([]:List (κ × ν))::L) w'->WO P n ops rest Q (upd f d (.map (some r))) w'):
  WO P n ops (⟨some d,.makeMap T none,ty,pos,af,none⟩::rest) Q f w:=by
 refine aFq rfl (w':=w.alloc (.map #[] 0)) (v:=.map (some w.heap.size)) ?_ (h _ _ ?_)
 ·simp [execOp,Instr.makeMap,newObj,Sem.run]
 ·exact hs.alloc _ ⟨#[],0,Hp.one_self _ _,aIg.nil⟩
theorem aPc {r i:Nat} {kv:List (κ × ν)} (hs:aD G K L w) (hi:L[i]?=some (jO r kv)):∃ (es:Array MapEntry) (c:Nat),w.heap[r]?=some (.map es c)/\aIg es c kv:=by
 obtain ⟨h1,⟨es,c,hA,he⟩,hle,_⟩:=hs.entry hi
 exact ⟨es,c,hle _ _ hA,he⟩
def rdM (K:Hp) (r:Nat) (kv:List (κ × ν)):Prop:=∃ (es:Array MapEntry) (c:Nat),K r=some (.map es c)/\aIg es c kv
theorem rdM.mono {K K':Hp} {r:Nat} {kv:List (κ × ν)} (h:K.le K') (m:rdM K r kv):rdM K' r kv:=let ⟨es,c,a,b⟩:=m;⟨es,c,h _ _ a,b⟩
theorem aPd {T KT VT:TypeId} {r:Nat} {kv:List (κ × ν)} {es:Array MapEntry} {c:Nat} {k:κ} {z:ν} (ok:Bool) (hT:∀ w,(underlying T).run P w=.ok (.map KT VT) w) (hK:aQY P KT κ) (hZ:ZV P VT (vl z))
  (hw:w.heap[r]?=some (.map es c)) (hm:aIg es c kv):
  (Instr.lookup T (.map (some r)) (vl k) ok).run P w=.ok (if ok then .tuple #[vl ((qL kv k).getD z),.bool (qL kv k).isSome] else vl ((qL kv k).getD z)) w:=by
 obtain ⟨kv',he,hp⟩:=hm.ex
 rw [←mget_perm hp ((hp.map (·.1)).nodup_iff.2 hm.keys) k]
 clear hp hm
 revert he
 generalize kv'=kv
 intro he
 have hf:=hK.find k es.toList _ w (mpo_kv he)
 have hm:=aTh (ν:=ν) vl kv k 0
 have hz:(zeroValue VT).run P w=.ok (vl z) w:=hZ w
 simp only [Instr.lookup,Sem.run_bind,hT,Result.andThen_ok,MapKept.run_getObj_map hw,Sem.run_pure,hK.chk,hf]
 cases hfd:fnd (kv.map fun p=>(p.1,vl p.2)) k 0 with
 |none=>
  rw [hfd] at hm
  have:qL kv k=none:=by simpa using hm.symm
  simp only [this,Sem.run_bind,hz,Result.andThen_ok,Sem.run_pure]
  cases ok<;>simp
 |some p=>
  rw [hfd] at hm
  obtain ⟨j,u⟩:=p
  cases hg:qL kv k with
  |none=>rw [hg] at hm;simp at hm
  |some v=>
   rw [hg] at hm
   have:u=vl v:=by simpa using hm
   subst this
   simp only [Sem.run_pure,Result.andThen_ok]
   cases ok<;>simp
theorem R_look {T KT VT:TypeId} {i r:Nat} {kv:List (κ × ν)} {k:κ} {z:ν} (hT:∀ w,(underlying T).run P w=.ok (.map KT VT) w) (hK:aQY P KT κ) (hZ:ZV P VT (vl z)) (hs:aD G K L w) (hi:L[i]?=some (jO r kv))
  (hx:ev f x=.map (some r)) (hy:ev f y=vl k):(execOp (ev f) ⟨some d,.lookup T x y true,ty,pos,af,none⟩).run P w=.ok (.value (.tuple #[vl ((qL kv k).getD z),.bool (qL kv k).isSome])) w:=by
 obtain ⟨es,c,hw,he⟩:=aPc hs hi
 simp only [execOp,hx,hy,Sem.run_bind,aPd (k:=k) (z:=z) true hT hK hZ hw he];simp
theorem R_look1 {T KT VT:TypeId} {i r:Nat} {kv:List (κ × ν)} {k:κ} {z:ν} (hT:∀ w,(underlying T).run P w=.ok (.map KT VT) w) (hK:aQY P KT κ) (hZ:ZV P VT (vl z)) (hs:aD G K L w) (hi:L[i]?=some (jO r kv))
  (hx:ev f x=.map (some r)) (hy:ev f y=vl k):(execOp (ev f) ⟨some d,.lookup T x y false,ty,pos,af,none⟩).run P w=.ok (.value (vl ((qL kv k).getD z))) w:=by
 obtain ⟨es,c,hw,he⟩:=aPc hs hi
 simp only [execOp,hx,hy,Sem.run_bind,aPd (k:=k) (z:=z) false hT hK hZ hw he];simp
theorem aD.setMap {r i:Nat} {kv kv':List (κ × ν)} {es':Array MapEntry} {c':Nat} (hs:aD G K L w) (hi:L[i]?=some (jO r kv)) (he':aIg es' c' kv'):
  aD G K (L.set i (jO r kv')) { w with heap:=w.heap.setIfInBounds r (.map es' c') }:=by
 obtain ⟨h1,⟨es,c,hA,he⟩,hle,_,ch⟩:=hs.change hi
 have hw:w.heap[r]?=some (.map es c):=hle _ _ hA
 have hr:r < w.heap.size:=(Array.getElem?_eq_some_iff.1 hw).1
 refine ch _ _ (Hp.one r (.map es' c')) (aOk.refl _) ?_ ?_ ?_ ⟨es',c',Hp.one_self _ _,he'⟩
 ·intro k o hk ho
  have hne:r≠k:=by intro e;subst e;rw [hA] at hk;cases hk
  unfold hp at *
  simp only
  rw [Array.getElem?_setIfInBounds_ne hne];exact ho
 ·refine Hp.one_le ?_
  unfold hp
  simp only
  rw [Array.getElem?_setIfInBounds_self_of_lt hr]
 ·intro k
  by_cases hk:k=r
  ·subst hk;right;left;rw [hA];rfl
  ·left;simp [Hp.one,hk]
theorem aPe {T KT VT:TypeId} {i r:Nat} {kv kv':List (κ × ν)} {k:κ} {v:ν} (hT:∀ w,(underlying T).run P w=.ok (.map KT VT) w) (hK:aQY P KT κ) (hs:aD G K L w) (hi:L[i]?=some (jO r kv))
  (hx:ev f x=.map (some r)) (hy:ev f y=vl k) (hz:ev f z=vl v) (hm:some (vA kv k v)=some kv') (h:∀ w',aD G K (L.set i (jO r kv')) w'->WO P n ops rest Q f w'):
  WO P n ops (⟨none,.mapUpdate T x y z,ty,pos,af,none⟩::rest) Q f w:=by
 cases hm
 obtain ⟨es,c,hw,hM⟩:=aPc hs hi
 obtain ⟨kv0,he,hp⟩:=hM.ex
 have hn0:(kv0.map (·.1)).Nodup:=(hp.map (·.1)).nodup_iff.2 hM.keys
 have hpp:=mput_perm hp hn0 k v
 have hf:=hK.find k es.toList _ w (mpo_kv he)
 have hl:es.size=kv0.length:=by have:=congrArg List.length he;simpa using this
 cases hfd:fnd (kv0.map fun p=>(p.1,vl p.2)) k 0 with
 |none=>
  rw [hfd] at hf
  have hpu:=aJZ vl kv0 k v 0 hfd
  refine aRI rfl (w':={ w with heap:=w.heap.setIfInBounds r (.map (es.push { key:=vl k,val:=vl v,born:=c }) (c+1)) }) ?_ (h _ (aD.setMap hs hi ⟨⟨vA kv0 k v,?_,hpp⟩,aPa hM.keys k v,fun e he=>?_,?_⟩))
  ·simp only [execOp,hx,hy,hz,Instr.mapUpdate,Sem.run_bind,hT,Result.andThen_ok,MapKept.run_getObj_map hw,hK.chk,hf,setObj,Sem.run,hw]
   simp
  ·unfold ents at he ⊢
   rw [hpu];simp [he]
  ·rw [Array.toList_push,List.mem_append] at he
   rcases he with he|he
   ·have:=hM.old e he;omega
   ·simp at he;subst he;exact Nat.lt_succ_self _
  ·rw [Array.toList_push,List.map_append,List.nodup_append]
   refine ⟨hM.one,by simp,fun a ha b hb=>?_⟩
   simp at hb;subst hb
   obtain ⟨e,he,rfl⟩:=List.mem_map.1 ha
   have:=hM.old e he
   omega
 |some p=>
  obtain ⟨j,u⟩:=p
  rw [hfd] at hf
  obtain ⟨m,hj,hm,hput,v',hv'⟩:=aKa vl kv0 k v 0 j u hfd
  have hjm:j=m:=by omega
  subst hjm
  have hlt:j < es.size:=by omega
  have hkey:(es[j]?.map (·.key)).getD (vl k)=vl k:=by
   have h1:(es.toList.map (fun e=>(e.key,e.val)))[j]?=(kv0.map (fun p=>(vl p.1,vl p.2)))[j]?:=by rw [he]
   simp only [List.getElem?_map,hv',Option.map_some,Array.getElem?_toList,Array.getElem?_eq_getElem hlt,Option.some.injEq,Prod.mk.injEq] at h1 ⊢
   simpa using h1.1
  have hborn:(es.modify j fun e=>{ e with key:=vl k,val:=vl v }).toList.map (·.born)=es.toList.map (·.born):=by
   apply List.ext_getElem?
   intro t
   simp only [List.getElem?_map,Array.getElem?_toList,Array.getElem?_modify]
   by_cases htj:j=t
   ·subst htj
    simp [hlt]
   ·simp only [if_neg htj]
  refine aRI rfl (w':={ w with heap:=w.heap.setIfInBounds r (.map (es.modify j fun e=>{ e with key:=vl k,val:=vl v }) c) }) ?_ (h _ (aD.setMap hs hi ⟨⟨vA kv0 k v,?_,hpp⟩,aPa hM.keys k v,fun e he=>?_,?_⟩))
  ·simp only [execOp,hx,hy,hz,Instr.mapUpdate,Sem.run_bind,hT,Result.andThen_ok,MapKept.run_getObj_map hw,hK.chk,hf,hkey,hK.stays,setObj,Sem.run,hw]
   simp
  ·unfold ents at he ⊢
   rw [hput]
   apply List.ext_getElem?
   intro t
   have h1:(es.toList.map (fun e=>(e.key,e.val)))[t]?=(kv0.map (fun p=>(vl p.1,vl p.2)))[t]?:=by rw [he]
   simp only [List.getElem?_map,Array.getElem?_toList,Array.getElem?_modify,List.getElem?_set] at h1 ⊢
   by_cases htj:j=t
   ·subst htj
    simp [hm,hlt]
   ·simp only [if_neg htj];exact h1
  ·have h1:e.born∈(es.modify j fun e=>{ e with key:=vl k,val:=vl v }).toList.map (·.born):=List.mem_map_of_mem he
   rw [hborn] at h1
   obtain ⟨e',he',h2⟩:=List.mem_map.1 h1
   rw [←h2];exact hM.old e' he'
  ·rw [hborn];exact hM.one
end
end Gv
