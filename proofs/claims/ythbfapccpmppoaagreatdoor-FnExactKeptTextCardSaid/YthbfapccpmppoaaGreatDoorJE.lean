/- Slices that are made, appended to, written; structs. No program in sight. -/
import Derived.Test.YthbfapccpmppoaaGreatDoorJD
import Derived.LoopN
set_option linter.all false
namespace Gv
open Go
structure EZB (l:Bool) (P:Program) (E:TypeId) (zs:List Value):Prop where
 zero:∃ z,(∀ w,(zeroValue E).run P w=.ok z w)/\z.cells=zs.toArray
 info:∃ i,(∀ w,(typeInfo E).run P w=.ok i w)/\i.bytes<=cond l 256 128/\i.size=zs.length/\P.info? E=some i/\∃ z,i.zero=some z/\z.cells=zs.toArray
abbrev EZ:=EZB false
def els {α:Type} [El α] (K:Hp):List Value->List α->Prop
 |_,[]=>True
 |cells,d::xs=>El.rd K (cells.take (El.sz α)) d/\els K (cells.drop (El.sz α)) xs
theorem els_get {α:Type} [El α] {K:Hp}:∀ {xs:List α} {cells:List Value} {i:Nat} {d:α},els K cells xs->xs[i]?=some d->El.rd K ((cells.drop (i * El.sz α)).take (El.sz α)) d
 |[],_,_,_,_,e=>by simp at e
 |x::xs,cells,0,d,h,e=>by simp at e;subst e;simpa using h.1
 |x::xs,cells,i+1,d,h,e=>by
  have:=els_get (i:=i) (d:=d) h.2 (by simpa using e)
  rw [List.drop_drop] at this
  rw [Nat.add_mul,Nat.one_mul,Nat.add_comm]
  exact this
theorem aOP {α:Type} [El α] {E:TypeId} {K:Hp} {b:Nat} {c:Array Value} {cap:Nat} {xs:List α} {rows:List Value} {g:Hp}
  (hb:g b=some (.cells c E (0,0))) (hcap:xs.length<=cap) (hc:cap * El.sz α<=c.size) (hr:rows.length=xs.length * El.sz α)
  (hcell:∀ (t:Nat) (v:Value),rows[t]?=some v->c[t]?=some v) (hel:∀ i d,xs[i]?=some d->El.rd K ((rows.drop (i * El.sz α)).take (El.sz α)) d):
  aV E K (some ⟨b,0,none⟩) cap xs g:=
 ⟨hcap,.inr ⟨⟨b,0,none⟩,c,rows,rfl,rfl,hb,by simpa using hc,hr,fun t v h=>by simpa using hcell t v h,hel⟩⟩
section
variable {P:Program} {n:Nat} {ops:Array Oper} {rest:List Oper} {Q:lI} {f:Nat->Value} {w:World}
variable {d:Nat} {x y z:Operand} {ty:TypeId} {pos:String} {af:Array Edge}
variable {G:kH} {K:Hp} {L:List eW} {α:Type} [El α]
def BS (P:Program) (T:TypeId) (places:List (Nat × Nat)) (zs:List Value):Prop:=
 (∃ z,(∀ w,(zeroValue T).run P w=.ok z w)/\z.cells=zs.toArray)/\
 ∃ fields,(∀ w,(underlying T).run P w=.ok (.struct fields) w)/\∀ w,(fields.mapM fun (f:Field)=>(do pure (f.offset,←Go.sizeOf f.type):Sem (Nat × Nat))).run P w=.ok places.toArray w
theorem aCR {T:TypeId} {places:List (Nat × Nat)} {zs cs:List Value} {ps:Array (Nat × Operand)} {vs:List (Nat × Value)} (hB:BS P T places zs)
  (hp:ps.toList.map (fun p=>(p.1,ev f p.2))=vs) (hf:Instr.fill (fun i=>places[i]?) zs.toArray vs=some cs.toArray):
  (execOp (ev f) ⟨some d,.build T ps,ty,pos,af,none⟩).run P w=.ok (.value (.agg cs.toArray)) w:=by
 obtain ⟨⟨zv,hz,hzc⟩,fields,hu,hm⟩:=hB
 have hp:(ps.map fun (i,x)=>(i,ev f x)).toList=vs:=by rw [Array.toList_map];exact hp
 have hf':Instr.fill (fun i=>places.toArray[i]?) zs.toArray vs=some cs.toArray:=by simpa using hf
 simp only [execOp,Instr.build,Sem.run_bind,hz,Result.andThen_ok,hu,hm,hp,hzc]
 rw [hf']
 simp
theorem dK {T E:TypeId} {sz len:Nat} {zs cs:List Value} {ps:Array (Nat × Operand)} {vs:List (Nat × Value)} {xs:List α} {Kt:Hp} (hT:SLT P T E sz) (hE:EZ P E zs) (hsz:El.sz α=sz) (hzs:zs.length=sz) (hs:aF G K L w)
  (hp:ps.toList.map (fun p=>(p.1,ev f p.2))=vs)
  (hf:Instr.fill (fun i=>some (i * sz,sz)) ((Array.range (len * sz)).map ((if len * sz=0 then #[] else zs.toArray)[· % (if len * sz=0 then #[] else zs.toArray).size]!)) vs=some cs.toArray)
  (hlen:xs.length=len) (hcl:cs.length=len * sz) (hbig:Nat.ble (len * sz) 16777216=true) (hel:els Kt cs xs)
  (h:∀ a w',aF G K (aV E Kt a len xs::L) w'->WO P n ops rest Q (upd f d (.slice a len len)) w'):
  WO P n ops (⟨some d,.buildSlice T len ps,ty,pos,af,none⟩::rest) Q f w:=by
 obtain ⟨zv,hz,hzc⟩:=hE.zero
 subst hlen
 have hp:(ps.map fun (i,x)=>(i,ev f x)).toList=vs:=by rw [Array.toList_map];exact hp
 refine aFT rfl (w':=w.alloc (.cells cs.toArray E)) (v:=.slice (some ⟨w.heap.size,0,none⟩) xs.length xs.length) ?_ (h _ _ ?_)
 ·have hb:¬ (xs.length * sz > 2 ^ 24):=by
   have:xs.length * sz<=16777216:=by simpa using hbig
   omega
  by_cases h0:xs.length * sz=0
  ·rw [if_pos h0] at hf
   simp only [execOp,Instr.buildSlice,Sem.run_bind,hT.un,hT.size,Result.andThen_ok,if_neg hb,if_pos h0,hp,Sem.run_pure]
   rw [hf]
   simp [newRow]
  ·rw [if_neg h0] at hf
   simp only [execOp,Instr.buildSlice,Sem.run_bind,hT.un,hT.size,Result.andThen_ok,if_neg hb,if_neg h0,hp,Sem.run_pure,hz,hzc]
   rw [hf]
   simp [newRow]
 ·refine hs.alloc _ (aOP (Hp.one_self _ _) (Nat.le_refl _) (by simp [hcl,hsz]) (rows:=cs) (by rw [hcl,hsz]) (fun t v ht=>by simpa using ht) (fun i e he=>els_get hel he))
theorem aIT {l:Bool} {T E:TypeId} {sz:Nat} {zs:List Value} {k c:Int} {e:α} {xs:List α} (hT:SLT P T E sz) (hE:EZB l P E zs) (hsz:El.sz α=sz) (hzs:zs.length=sz) (hs:aF G K L w)
  (hx:ev f x=i64 k) (hy:ev f y=i64 c) (hc:c=k) (hm:mkz k e=some xs) (he:El.rd K zs e)
  (h:∀ a w',aF G K (aV E K a xs.length xs::L) w'->WO P n ops rest Q (upd f d (.slice a xs.length xs.length)) w'):
  WO P n ops (⟨some d,.makeSlice T x y,ty,pos,af,none⟩::rest) Q f w:=by
 obtain ⟨zv,hz,hzc⟩:=hE.zero
 obtain ⟨inf,hi,hib,_,_,_⟩:=hE.info
 replace hib:inf.bytes<=256:=Nat.le_trans hib (by cases l<;>decide)
 obtain ⟨h0,hlim,rfl⟩:=mkz_some hm
 subst hc
 have hpos:0 < sz:=hsz ▸ El.pos (α:=α)
 obtain ⟨m,rfl⟩:=Int.eq_ofNat_of_zero_le h0
 simp only [Int.toNat_natCast,List.length_replicate] at *
 have hw:IntKind.i64.wrap (m:Int)=m:=by rw [aEB];exact dW (by omega) (by simp only [iK] at hlim;omega)
 have hbig:¬ ((inf.bytes:Int) * m > 2 ^ 48):=by
  have:inf.bytes * m<=256 * 1099511627776:=Nat.mul_le_mul hib (by simpa [iK] using hlim)
  have h2:((inf.bytes * m:Nat):Int)<=281474976710656:=by omega
  rw [Int.natCast_mul] at h2
  omega
 refine aFT rfl (w':=w.alloc (.cells ((Array.range (m * sz)).map ((if m * sz=0 then #[] else zs.toArray)[· % (if m * sz=0 then #[] else zs.toArray).size]!)) E)) (v:=.slice (some ⟨w.heap.size,0,none⟩) m m) ?_ (h _ _ ?_)
 ·have hcond:¬ (((decide ((m:Int) < 0)||decide ((inf.bytes:Int) * (m:Int) > 2 ^ 48))=true\/(m:Int) < 0)\/(m:Int) > (m:Int)):=by
   simp;omega
  by_cases hm0:m * sz=0
  ·have:m=0:=by rcases Nat.mul_eq_zero.1 hm0 with h|h<;>omega
   subst this
   simp [execOp,Instr.makeSlice,hx,hy,hT.un,hT.size,i64,asInt,asIntOf,hi,newRow,show IntKind.i64.wrap 0=0 from hw]
  ·have hm':¬ m=0:=by intro e;subst e;simp at hm0
   have hs':¬ sz=0:=by omega
   simp [execOp,Instr.makeSlice,hx,hy,hT.un,hT.size,i64,asInt,asIntOf,hi,newRow,hw,hz,hzc,hm',hs',show ¬ ((m:Int) < 0) from by omega,show ¬ (2 ^ 48 < (inf.bytes:Int) * m) from hbig,show ¬ (281474976710656 < (inf.bytes:Int) * m) from by omega]
   simp only [hm0,if_false]
   simp
 ·have hcell:∀ t,t < m * sz->((Array.range (m * sz)).map ((if m * sz=0 then #[] else zs.toArray)[· % (if m * sz=0 then #[] else zs.toArray).size]!))[t]?=zs[t % sz]?:=by
   intro t ht
   have hne:¬ m * sz=0:=by omega
   have hlt:t % sz < zs.length:=by rw [hzs];exact Nat.mod_lt _ hpos
   simp only [hne,if_false,Array.getElem?_map,Array.getElem?_range,ht,Option.map_some,if_true,List.size_toArray,hzs,getElem!_def,List.getElem?_toArray,List.getElem?_eq_getElem hlt]
  refine hs.alloc _ (aOP (Hp.one_self _ _) (by simp) (by simp [hsz]) (rows:=(List.range (m * sz)).map fun t=>zs.getD (t % sz) undef) (by simp [hsz]) (fun t v ht=>?_) (fun i e' he'=>?_))
  ·obtain ⟨h1,h2⟩:=List.getElem?_eq_some_iff.1 ht
   simp only [List.length_map,List.length_range] at h1
   rw [hcell t h1]
   have hlt:t % sz < zs.length:=by rw [hzs];exact Nat.mod_lt _ hpos
   simp only [List.getElem_map,List.getElem_range] at h2
   rw [←h2,List.getD_eq_getElem?_getD,List.getElem?_eq_getElem hlt]
   rfl
  ·obtain ⟨h1,h2⟩:=List.getElem?_eq_some_iff.1 he'
   simp only [List.length_replicate] at h1
   simp only [List.getElem_replicate] at h2
   subst h2
   have:(((List.range (m * sz)).map fun t=>zs.getD (t % sz) undef).drop (i * El.sz α)).take (El.sz α)=zs:=by
    rw [hsz]
    have hfit:i * sz+sz<=m * sz:=by rw [←Nat.succ_mul];exact Nat.mul_le_mul_right _ h1
    apply List.ext_getElem?
    intro t
    by_cases ht:t < sz
    ·rw [List.getElem?_take_of_lt ht,List.getElem?_drop]
     have hmod:(i * sz+t) % sz=t:=by rw [Nat.mul_comm,Nat.mul_add_mod,Nat.mod_eq_of_lt ht]
     have hlt:t < zs.length:=by omega
     rw [List.getElem?_map,List.getElem?_range (by omega)]
     simp [hmod,List.getD_eq_getElem?_getD,List.getElem?_eq_getElem hlt]
    ·rw [List.getElem?_take_eq_none (by omega),List.getElem?_eq_none (by omega)]
   rw [this]
   exact he
end
end Gv
