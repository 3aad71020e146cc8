/- Maps that a function makes. No program in sight. -/
import Derived.Test.YtmlgcbjkfcapaaaGreatDoorKU
import Derived.Laws.IdiomMaps
set_option linter.all false
namespace Gv
open Go
class Vl (α:Type) where
 vl:α→Value
 inj:∀ a b,vl a=vl b→a=b
open Vl (vl)
instance:Vl Int:=⟨i64,fun a b h=>by simpa [i64] using h⟩
instance:Vl Bool:=⟨.bool,fun a b h=>by simpa using h⟩
instance:Vl aZ:=⟨cL,fun a b h=>by simpa [cL] using h⟩
instance:Vl (Int × Int):=⟨fun p=>.agg #[i64 p.1,i64 p.2],fun ⟨a,b⟩ ⟨c,d⟩ h=>by simpa [i64] using h⟩
instance:Vl (Int × Int × Int):=⟨fun p=>.agg #[i64 p.1,i64 p.2.1,i64 p.2.2],fun ⟨a,b,c⟩ ⟨d,e,f⟩ h=>by simpa [i64] using h⟩
section
variable {κ ν:Type} [DecidableEq κ]
def fnd:List (κ × Value)→κ→Nat→Option (Nat × Value)
 |[],_,_=>none
 |(k',v)::l,k,i=>if k=k' then some (i,v) else fnd l k (i+1)
theorem aLP (g:ν→Value):∀ (l:List (κ × ν)) (k:κ) (i:Nat),(fnd (l.map fun p=>(p.1,g p.2)) k i).map (·.2)=(nY l k).map g
 |[],_,_=>rfl
 |(k',v)::l,k,i=>by
  simp only [List.map_cons,fnd,nY]
  split
  ·rfl
  ·exact aLP g l k (i+1)
theorem aFv (g:ν→Value):∀ (l:List (κ × ν)) (k:κ) (v:ν) (i:Nat),fnd (l.map fun p=>(p.1,g p.2)) k i=none→aFW l k v=l++[(k,v)]
 |[],_,_,_,_=>rfl
 |(k',v')::l,k,v,i,h=>by
  simp only [List.map_cons,fnd] at h
  split at h
  ·cases h
  ·rename_i hne
   simp only [aFW,if_neg hne,aFv g l k v (i+1) h,List.cons_append]
theorem aFw (g:ν→Value):∀ (l:List (κ × ν)) (k:κ) (v:ν) (i j:Nat) (u:Value),fnd (l.map fun p=>(p.1,g p.2)) k i=some (j,u)→∃ m,j=i+m∧m < l.length∧aFW l k v=l.set m (k,v)∧∃ v',l[m]?=some (k,v')
 |[],_,_,_,_,_,h=>by cases h
 |(k',v')::l,k,v,i,j,u,h=>by
  simp only [List.map_cons,fnd] at h
  split at h
  ·rename_i he
   cases h
   subst he
   exact ⟨0,rfl,by simp,by simp [aFW],v',rfl⟩
  ·rename_i hne
   obtain ⟨m,rfl,hm,e,v'',hv⟩:=aFw g l k v (i+1) j u h
   exact ⟨m+1,by omega,by simp;omega,by simp [aFW,if_neg hne,e],v'',by simpa using hv⟩
end
structure aHl (P:Program) (T:TypeId) (κ:Type) [DecidableEq κ] [Vl κ]:Prop where
 chk:∀ (b:Bool) (k:κ) w,(Instr.checkKey b 10000 T (vl k)).run P w=.ok () w
 find:∀ (k:κ) (es:List MapEntry) (kv:List (κ × Value)) w,es.map (fun e=>(e.key,e.val))=kv.map (fun p=>(vl p.1,p.2))→(Instr.findKey T (vl k) es).run P w=.ok (fnd kv k 0) w
 stays:∀ (k:κ) w,(Instr.keyThatStays (vl k) (vl k)).run P w=.ok (vl k) w
theorem aLQ {P:Program} {E:TypeId} (sc:SC P E) {cs:Array Value} {i:Nat} {v:Value} (h:cs[i]?=some v) (w:World):(part E cs i).run P w=.ok v w:=by
 simp [part,Sem.run_bind,sc.agg,h]
theorem aLR {P:Program} {E:TypeId} (hE:∀ w,(underlying E).run P w=.ok (.int .i64) w) (d:Nat) (a b:Int) (w:World):(Op.equalIn (d+1) E (i64 a) (i64 b)).run P w=.ok (a == b) w:=by
 unfold Op.equalIn
 simp [Sem.run_bind,hE,i64]
theorem aNs {P:Program} {T E:TypeId} (hT:∀ w,(underlying T).run P w=.ok (.array 2 E) w) (hE:∀ w,(underlying E).run P w=.ok (.int .i64) w) (sc:SC P E) (a b:Int × Int) (w:World):
  (Op.equal T (vl a) (vl b)).run P w=.ok (decide (a=b)) w:=by
 have h:Op.maxDepth=9998+1+1:=rfl
 unfold Op.equal
 rw [h]
 unfold Op.equalIn
 obtain ⟨a1,a2⟩:=a
 obtain ⟨b1,b2⟩:=b
 simp only [vl,Sem.run_bind,hT,Result.andThen_ok,sc.size]
 simp [List.range',Sem.run_bind,aLQ sc,aLR hE,Std.Legacy.Range.forIn_eq_forIn_range',Std.Legacy.Range.size]
 by_cases h1:a1=b1<;>by_cases h2:a2=b2<;>simp [h1,h2]
theorem aFx {P:Program} {T:TypeId} {κ:Type} [DecidableEq κ] [Vl κ] (h:∀ (a b:κ) w,(Op.equal T (vl a) (vl b)).run P w=.ok (decide (a=b)) w) (k:κ) (w:World):
  ∀ (es:List MapEntry) (kv:List (κ × Value)) (i:Nat),es.map (fun e=>(e.key,e.val))=kv.map (fun p=>(vl p.1,p.2))→(Instr.findAsking T (vl k) es i).run P w=.ok (fnd kv k i) w
 |[],[],_,_=>rfl
 |[],_::_,_,e=>by simp at e
 |_::_,[],_,e=>by simp at e
 |e::es,(k',v)::kv,i,he=>by
  simp only [List.map_cons,List.cons.injEq,Prod.mk.injEq] at he
  obtain ⟨⟨h1,h2⟩,h3⟩:=he
  unfold Instr.findAsking
  rw [h1]
  simp only [Sem.run_bind,h,Result.andThen_ok]
  by_cases hk:k=k'
  ·subst hk;simp [fnd,h2]
  ·simp only [hk,decide_false,fnd,if_false]
   exact aFx h k w es kv (i+1) h3
theorem aLS {κ:Type} [DecidableEq κ] [Vl κ] {kd:TypeDesc} (h:∀ a b:κ,Instr.sameNow kd (vl a) (vl b)=none) (k:κ):∀ (es:List MapEntry) (kv:List (κ × Value)),es.map (fun e=>(e.key,e.val))=kv.map (fun p=>(vl p.1,p.2))→
  (es=[]∧kv=[])∨Instr.findNow kd (vl k) es 0=none
 |[],[],_=>.inl ⟨rfl,rfl⟩
 |[],_::_,e=>by simp at e
 |_::_,[],e=>by simp at e
 |e::es,(k',v)::kv,he=>by
  simp only [List.map_cons,List.cons.injEq,Prod.mk.injEq] at he
  obtain ⟨⟨h1,h2⟩,h3⟩:=he
  right
  unfold Instr.findNow
  rw [h1,h]
theorem aNt {P:Program} {T E:TypeId} (hT:∀ w,(underlying T).run P w=.ok (.array 2 E) w) (hE:∀ w,(underlying E).run P w=.ok (.int .i64) w) (sc:SC P E):aHl P T (Int × Int) where
 chk b k w:=by
  obtain ⟨k1,k2⟩:=k
  unfold Instr.checkKey
  simp only [vl,Sem.run_bind,hT,Result.andThen_ok]
  have key:∀ (m:Nat) (k:Int) w,(Instr.checkKey b (m+1) E (i64 k)).run P w=.ok () w:=fun m k w=>by
   simp only [Instr.checkKey,Sem.run_bind,hE,Result.andThen_ok,i64,Sem.run_pure]
  simp [List.range',Sem.run_bind,aLQ sc,sc.size,key 9998,Std.Legacy.Range.forIn_eq_forIn_range',Std.Legacy.Range.size]
 find k es kv w h:=by
  have h1:=aLS (κ:=Int × Int) (kd:=.array 2 E) (fun a b=>rfl) k es kv h
  simp only [Instr.findKey,Sem.run_bind,hT,Result.andThen_ok]
  rcases h1 with ⟨rfl,rfl⟩|h1
  ·simp [Instr.findNow,fnd]
  ·rw [h1]
   exact aFx (fun a b w=>aNs hT hE sc a b w) k w es kv 0 h
 stays k w:=by
  obtain ⟨k1,k2⟩:=k
  simp [Instr.keyThatStays,Instr.sameBits,vl,i64]
section
variable {κ ν:Type} [DecidableEq κ] [Vl κ] [Vl ν]
def fH (r:Nat) (kv:List (κ × ν)):qD:=fun h=>∃ (es:Array MapEntry) (c:Nat),h r=some (.map es c)∧es.toList.map (fun e=>(e.key,e.val))=kv.map (fun p=>(vl p.1,vl p.2))
theorem mpo_kv {es:Array MapEntry} {kv:List (κ × ν)} (h:es.toList.map (fun e=>(e.key,e.val))=kv.map (fun p=>(vl p.1,vl p.2))):
  es.toList.map (fun e=>(e.key,e.val))=(kv.map fun p=>(p.1,vl p.2)).map (fun p=>(vl p.1,p.2)):=by
 rw [h,List.map_map];rfl
variable {P:Program} {n:Nat} {ops:Array Oper} {rest:List Oper} {Q:aBm} {f:Nat→Value} {w:World}
variable {d:Nat} {x y z:Operand} {ty:TypeId} {pos:String} {af:Array Edge}
variable {G:Env} {K:Hp} {L:List qD}
theorem aLT {T:TypeId} (κ ν:Type) [DecidableEq κ] [Vl κ] [Vl ν] (hs:aL G K L w) (h:∀ r w',aL G K (fH r ([]:List (κ × ν))::L) w'→WO P n ops rest Q (upd f d (.map (some r))) w'):
  WO P n ops (⟨some d,.makeMap T none,ty,pos,af,none⟩::rest) Q f w:=by
 refine aBa rfl (w':=w.alloc (.map #[] 0)) (v:=.map (some w.heap.size)) ?_ (h _ _ ?_)
 ·simp [execOp,Instr.makeMap,newObj,Sem.run]
 ·exact hs.alloc _ ⟨#[],0,Hp.one_self _ _,rfl⟩
theorem aIg {r i:Nat} {kv:List (κ × ν)} (hs:aL G K L w) (hi:L[i]?=some (fH r kv)):∃ (es:Array MapEntry) (c:Nat),w.heap[r]?=some (.map es c)∧es.toList.map (fun e=>(e.key,e.val))=kv.map (fun p=>(vl p.1,vl p.2)):=by
 obtain ⟨h1,⟨es,c,hA,he⟩,hle,_⟩:=hs.entry hi
 exact ⟨es,c,hle _ _ hA,he⟩
def rdM (K:Hp) (r:Nat) (kv:List (κ × ν)):Prop:=∃ (es:Array MapEntry) (c:Nat),K r=some (.map es c)∧es.toList.map (fun e=>(e.key,e.val))=kv.map (fun p=>(vl p.1,vl p.2))
theorem rdM.mono {K K':Hp} {r:Nat} {kv:List (κ × ν)} (h:K.le K') (m:rdM K r kv):rdM K' r kv:=let ⟨es,c,a,b⟩:=m;⟨es,c,h _ _ a,b⟩
theorem aL.lendM {i r:Nat} {kv:List (κ × ν)} (s:aL G K L w) (e:L[i]?=some (fH r kv)):
  ∃ K',K.le K'∧rdM K' r kv∧aL G K' (L.eraseIdx i) w∧∀ L' w',aL G K' L' w'→aL G K (fH r kv::L') w':=by
 obtain ⟨K',h1,⟨es,c,a,b⟩,l1,lk,s',back⟩:=s.lend e
 exact ⟨K',lk,⟨es,c,l1 _ _ a,b⟩,s',back⟩
theorem aDO {T KT VT:TypeId} {r:Nat} {kv:List (κ × ν)} {es:Array MapEntry} {c:Nat} {k:κ} {z:ν} (ok:Bool) (hT:∀ w,(underlying T).run P w=.ok (.map KT VT) w) (hK:aHl P KT κ) (hZ:ZV P VT (vl z))
  (hw:w.heap[r]?=some (.map es c)) (he:es.toList.map (fun e=>(e.key,e.val))=kv.map (fun p=>(vl p.1,vl p.2))):
  (Instr.lookup T (.map (some r)) (vl k) ok).run P w=.ok (if ok then .tuple #[vl ((nY kv k).getD z),.bool (nY kv k).isSome] else vl ((nY kv k).getD z)) w:=by
 have hf:=hK.find k es.toList _ w (mpo_kv he)
 have hm:=aLP (ν:=ν) vl kv k 0
 have hz:(zeroValue VT).run P w=.ok (vl z) w:=hZ w
 simp only [Instr.lookup,Sem.run_bind,hT,Result.andThen_ok,MapKept.run_getObj_map hw,Sem.run_pure,hK.chk,hf]
 cases hfd:fnd (kv.map fun p=>(p.1,vl p.2)) k 0 with
 |none=>
  rw [hfd] at hm
  have:nY kv k=none:=by simpa using hm.symm
  simp only [this,Sem.run_bind,hz,Result.andThen_ok,Sem.run_pure]
  cases ok<;>simp
 |some p=>
  rw [hfd] at hm
  obtain ⟨j,u⟩:=p
  cases hg:nY kv k with
  |none=>rw [hg] at hm;simp at hm
  |some v=>
   rw [hg] at hm
   have:u=vl v:=by simpa using hm
   subst this
   simp only [Sem.run_pure,Result.andThen_ok]
   cases ok<;>simp
theorem R_look {T KT VT:TypeId} {i r:Nat} {kv:List (κ × ν)} {k:κ} {z:ν} (hT:∀ w,(underlying T).run P w=.ok (.map KT VT) w) (hK:aHl P KT κ) (hZ:ZV P VT (vl z)) (hs:aL G K L w) (hi:L[i]?=some (fH r kv))
  (hx:ev f x=.map (some r)) (hy:ev f y=vl k):(execOp (ev f) ⟨some d,.lookup T x y true,ty,pos,af,none⟩).run P w=.ok (.value (.tuple #[vl ((nY kv k).getD z),.bool (nY kv k).isSome])) w:=by
 obtain ⟨es,c,hw,he⟩:=aIg hs hi
 simp only [execOp,hx,hy,Sem.run_bind,aDO (k:=k) (z:=z) true hT hK hZ hw he];simp
theorem R_look1 {T KT VT:TypeId} {i r:Nat} {kv:List (κ × ν)} {k:κ} {z:ν} (hT:∀ w,(underlying T).run P w=.ok (.map KT VT) w) (hK:aHl P KT κ) (hZ:ZV P VT (vl z)) (hs:aL G K L w) (hi:L[i]?=some (fH r kv))
  (hx:ev f x=.map (some r)) (hy:ev f y=vl k):(execOp (ev f) ⟨some d,.lookup T x y false,ty,pos,af,none⟩).run P w=.ok (.value (vl ((nY kv k).getD z))) w:=by
 obtain ⟨es,c,hw,he⟩:=aIg hs hi
 simp only [execOp,hx,hy,Sem.run_bind,aDO (k:=k) (z:=z) false hT hK hZ hw he];simp
theorem aLU {r:Nat} {kv:List (κ × ν)} (hs:K.le (hp w)) (hr:rdM K r kv):∃ (es:Array MapEntry) (c:Nat),w.heap[r]?=some (.map es c)∧es.toList.map (fun e=>(e.key,e.val))=kv.map (fun p=>(vl p.1,vl p.2)):=
 let ⟨es,c,a,b⟩:=hr;⟨es,c,hs _ _ a,b⟩
theorem R_lookK {T KT VT:TypeId} {r:Nat} {kv:List (κ × ν)} {k:κ} {z:ν} (hT:∀ w,(underlying T).run P w=.ok (.map KT VT) w) (hK:aHl P KT κ) (hZ:ZV P VT (vl z)) (hs:aL G K L w) (hr:rdM K r kv)
  (hx:ev f x=.map (some r)) (hy:ev f y=vl k):(execOp (ev f) ⟨some d,.lookup T x y true,ty,pos,af,none⟩).run P w=.ok (.value (.tuple #[vl ((nY kv k).getD z),.bool (nY kv k).isSome])) w:=by
 obtain ⟨es,c,hw,he⟩:=aLU hs.know hr
 simp only [execOp,hx,hy,Sem.run_bind,aDO (k:=k) (z:=z) true hT hK hZ hw he];simp
theorem aLV {T KT VT:TypeId} {r:Nat} {kv:List (κ × ν)} {k:κ} {z:ν} (hT:∀ w,(underlying T).run P w=.ok (.map KT VT) w) (hK:aHl P KT κ) (hZ:ZV P VT (vl z)) (hs:aL G K L w) (hr:rdM K r kv)
  (hx:ev f x=.map (some r)) (hy:ev f y=vl k):(execOp (ev f) ⟨some d,.lookup T x y false,ty,pos,af,none⟩).run P w=.ok (.value (vl ((nY kv k).getD z))) w:=by
 obtain ⟨es,c,hw,he⟩:=aLU hs.know hr
 simp only [execOp,hx,hy,Sem.run_bind,aDO (k:=k) (z:=z) false hT hK hZ hw he];simp
theorem aL.setMap {r i:Nat} {kv kv':List (κ × ν)} {es':Array MapEntry} {c':Nat} (hs:aL G K L w) (hi:L[i]?=some (fH r kv)) (he':es'.toList.map (fun e=>(e.key,e.val))=kv'.map (fun p=>(vl p.1,vl p.2))):
  aL G K (L.set i (fH r kv')) { w with heap:=w.heap.setIfInBounds r (.map es' c') }:=by
 obtain ⟨h1,⟨es,c,hA,he⟩,hle,_,ch⟩:=hs.change hi
 have hw:w.heap[r]?=some (.map es c):=hle _ _ hA
 have hr:r < w.heap.size:=(Array.getElem?_eq_some_iff.1 hw).1
 refine ch _ _ (Hp.one r (.map es' c')) (aHv.refl _) ?_ ?_ ?_ ⟨es',c',Hp.one_self _ _,he'⟩
 ·intro k o hk ho
  have hne:r≠k:=by intro e;subst e;rw [hA] at hk;cases hk
  unfold hp at *
  simp only
  rw [Array.getElem?_setIfInBounds_ne hne];exact ho
 ·refine Hp.one_le ?_
  unfold hp
  simp only
  rw [Array.getElem?_setIfInBounds_self_of_lt hr]
 ·intro k
  by_cases hk:k=r
  ·subst hk;right;left;rw [hA];rfl
  ·left;simp [Hp.one,hk]
theorem aLW {T KT VT:TypeId} {i r:Nat} {kv kv':List (κ × ν)} {k:κ} {v:ν} (hT:∀ w,(underlying T).run P w=.ok (.map KT VT) w) (hK:aHl P KT κ) (hs:aL G K L w) (hi:L[i]?=some (fH r kv))
  (hx:ev f x=.map (some r)) (hy:ev f y=vl k) (hz:ev f z=vl v) (hm:some (aFW kv k v)=some kv') (h:∀ w',aL G K (L.set i (fH r kv')) w'→WO P n ops rest Q f w'):
  WO P n ops (⟨none,.mapUpdate T x y z,ty,pos,af,none⟩::rest) Q f w:=by
 cases hm
 obtain ⟨es,c,hw,he⟩:=aIg hs hi
 have hf:=hK.find k es.toList _ w (mpo_kv he)
 have hl:es.size=kv.length:=by have:=congrArg List.length he;simpa using this
 cases hfd:fnd (kv.map fun p=>(p.1,vl p.2)) k 0 with
 |none=>
  rw [hfd] at hf
  have hp:=aFv vl kv k v 0 hfd
  refine aKE rfl (w':={ w with heap:=w.heap.setIfInBounds r (.map (es.push { key:=vl k,val:=vl v,born:=c }) (c+1)) }) ?_ (h _ (aL.setMap hs hi ?_))
  ·simp only [execOp,hx,hy,hz,Instr.mapUpdate,Sem.run_bind,hT,Result.andThen_ok,MapKept.run_getObj_map hw,hK.chk,hf,setObj,Sem.run,hw]
   simp
  ·rw [hp];simp [he]
 |some p=>
  obtain ⟨j,u⟩:=p
  rw [hfd] at hf
  obtain ⟨m,hj,hm,hput,v',hv'⟩:=aFw vl kv k v 0 j u hfd
  have hjm:j=m:=by omega
  subst hjm
  have hlt:j < es.size:=by omega
  have hkey:(es[j]?.map (·.key)).getD (vl k)=vl k:=by
   have h1:(es.toList.map (fun e=>(e.key,e.val)))[j]?=(kv.map (fun p=>(vl p.1,vl p.2)))[j]?:=by rw [he]
   simp only [List.getElem?_map,hv',Option.map_some,Array.getElem?_toList,Array.getElem?_eq_getElem hlt,Option.some.injEq,Prod.mk.injEq] at h1 ⊢
   simpa using h1.1
  refine aKE rfl (w':={ w with heap:=w.heap.setIfInBounds r (.map (es.modify j fun e=>{ e with key:=vl k,val:=vl v }) c) }) ?_ (h _ (aL.setMap hs hi ?_))
  ·simp only [execOp,hx,hy,hz,Instr.mapUpdate,Sem.run_bind,hT,Result.andThen_ok,MapKept.run_getObj_map hw,hK.chk,hf,hkey,hK.stays,setObj,Sem.run,hw]
   simp
  ·rw [hput]
   apply List.ext_getElem?
   intro t
   have h1:(es.toList.map (fun e=>(e.key,e.val)))[t]?=(kv.map (fun p=>(vl p.1,vl p.2)))[t]?:=by rw [he]
   simp only [List.getElem?_map,Array.getElem?_toList,Array.getElem?_modify,List.getElem?_set] at h1 ⊢
   by_cases htj:j=t
   ·subst htj
    simp [hm,hlt]
   ·simp only [if_neg htj];exact h1
end
end Gv
