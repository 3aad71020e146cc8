/- append, stores into an owned slice, calls, loops. No program in sight. -/
import Derived.Test.YthbfapccpmppoaaGreatDoorJE
import Derived.Deep.Quiet
set_option linter.all false
namespace Gv
open Go
theorem aW.rows {α:Type} [El α] {K:Hp} {a:Option Addr} {cap:Nat} {ys:List α} (hr:aW K a cap ys):
  ∀ m,m<=ys.length->∃ rows:List Value,rows.length=m * El.sz α/\(∀ v∈rows,v.oneCell'=true)/\
   (∀ (t:Nat) (v:Value),rows[t]?=some v->∃ ad c E fr,a=some ad/\ad.spot=none/\K ad.block=some (.cells c E fr)/\c[ad.off+t]?=some v)/\
   (∀ i d,i < m->ys[i]?=some d->El.rd K ((rows.drop (i * El.sz α)).take (El.sz α)) d)
 |0,_=>⟨[],by simp,by simp,by simp,fun i d h=>by omega⟩
 |m+1,hm=>by
  obtain ⟨rows,h1,h2,h3,h4⟩:=aW.rows hr m (by omega)
  have hy:ys[m]?=some (ys[m]'(by omega)):=List.getElem?_eq_getElem (by omega)
  obtain ⟨cs,⟨ad,c,E,fr,ha,hs,hK,hc⟩,hrd⟩:=hr.cell m _ hy
  have hl:=El.len hrd
  refine ⟨rows++cs,?_,?_,?_,?_⟩
  ·rw [List.length_append,h1,hl,Nat.add_mul,Nat.one_mul]
  ·intro v hv
   rcases List.mem_append.1 hv with h|h
   ·exact h2 v h
   ·exact El.one hrd v h
  ·intro t v ht
   rw [List.getElem?_append] at ht
   split at ht
   ·exact h3 t v ht
   ·refine ⟨ad,c,E,fr,ha,hs,hK,?_⟩
    rename_i hge
    have:=hc _ _ ht
    rw [←this];congr 1;rw [h1];rw [h1] at hge;omega
  ·intro i d hi hd
   by_cases him:i < m
   ·have:=h4 i d him hd
    have hfit:i * El.sz α+El.sz α<=rows.length:=by rw [h1,←Nat.succ_mul];exact Nat.mul_le_mul_right _ him
    rw [List.drop_append_of_le_length (by omega),List.take_append_of_le_length (by simp;omega)]
    exact this
   ·have:i=m:=by omega
    subst this
    rw [hy] at hd
    cases hd
    rw [←h1,List.drop_left,List.take_of_length_le (by omega)]
    exact hrd
theorem aMc {α:Type} [El α] {K:Hp} {xs ys:List α} {rx ry:List Value} (hx:rx.length=xs.length * El.sz α)
  (h1:∀ i d,xs[i]?=some d->El.rd K ((rx.drop (i * El.sz α)).take (El.sz α)) d) (h2:∀ i d,ys[i]?=some d->El.rd K ((ry.drop (i * El.sz α)).take (El.sz α)) d):
  ∀ i d,(xs++ys)[i]?=some d->El.rd K (((rx++ry).drop (i * El.sz α)).take (El.sz α)) d:=by
 intro i d hd
 rw [List.getElem?_append] at hd
 split at hd
 ·rename_i hi
  have hfit:i * El.sz α+El.sz α<=rx.length:=by rw [hx,←Nat.succ_mul];exact Nat.mul_le_mul_right _ hi
  rw [List.drop_append_of_le_length (by omega),List.take_append_of_le_length (by simp;omega)]
  exact h1 i d hd
 ·rename_i hi
  have e:i * El.sz α=rx.length+(i - xs.length) * El.sz α:=by
   rw [hx,←Nat.add_mul];congr 1;omega
  rw [e,List.drop_append,List.drop_of_length_le (by omega),List.nil_append,Nat.add_sub_cancel_left]
  exact h2 _ _ hd
section
variable {P:Program} {n:Nat} {ops:Array Oper} {rest:List Oper} {Q:lI} {f:Nat->Value} {w:World}
variable {d:Nat} {x y z:Operand} {ty:TypeId} {pos:String} {af:Array Edge}
variable {G:kH} {K:Hp} {L:List eW} {α:Type} [El α]
theorem aFW {T E:TypeId} {sz i:Nat} {zs:List Value} {a a2:Option Addr} {cap c2:Nat} {xs ys:List α} {Ke Kt:Hp} {ry:List Value} (hT:SLT P T E sz) (hU:P.underlying T=some (.slice E)) (hE:EZ P E zs) (hsz:El.sz α=sz) (hzs:zs.length=sz)
  (hs:aF G K L w) (hi:L[i]?=some (aV E Ke a cap xs)) (hK:Ke.le Kt) (l1:ry.length=ys.length * El.sz α) (l2:∀ v∈ry,v.oneCell'=true)
  (hsrc:0 < ys.length->∃ ad2,a2=some ad2/\∀ j u,ry[j]?=some u->w.cell? (ad2.add j)=some u) (l4:∀ i d,i < ys.length->ys[i]?=some d->El.rd Kt ((ry.drop (i * El.sz α)).take (El.sz α)) d) (hlim:xs.length+ys.length<=iK):
  ∃ a' cap' w',(Builtin.append_ #[T,T] ty #[.slice a xs.length cap,.slice a2 ys.length c2]).run P w=.ok (.slice a' (xs++ys).length cap') w'/\aF G K (L.set i (aV E Kt a' cap' (xs++ys))) w':=by
 obtain ⟨inf,hinf,hib,hisz,hinfo,zv,hzv,hzc⟩:=hE.info
 replace hib:inf.bytes<=128:=hib
 have hpos:0 < sz:=hsz ▸ El.pos (α:=α)
 obtain ⟨h1,hA,hle,hdj,ch⟩:=hs.change hi
 obtain ⟨hcap,hA⟩:=hA
 rw [hsz] at l1
 have hinfsz:inf.size=sz:=by rw [hisz,hzs]
 have hbytes:(xs.length+ys.length) * inf.bytes<=140737488355328:=by
  have:=Nat.mul_le_mul hlim hib
  simp only [iK] at this;omega
 by_cases hy0:ys.length=0
 ·have hy:ys=[]:=List.eq_nil_of_length_eq_zero hy0
  subst hy
  refine ⟨a,cap,w,?_,?_⟩
  ·have hst:∀ (o:Option Addr),o=a->(match o with
     |some a=>storeCells (a.add (xs.length * sz)) []
     |x=>pure ()).run P w=.ok () w:=by
    intro o _;cases o<;>rfl
   cases a2<;>cases a<;>simp [Builtin.append_,hT.un,hT.size,Builtin.lenOf,Builtin.firstCells,loadCells,loadCellsFrom,hcap,storeCells]
  ·simp only [List.append_nil]
   exact hs.weak hi (fun h1 hx=>hx.mono hK)
 ·have hypos:0 < ys.length:=by omega
  obtain ⟨ad2,hs2,hcell2⟩:=hsrc hypos
  subst hs2
  have h63:(((xs.length+ys.length:Nat)):Int)<=9223372036854775807:=by simp only [iK] at hlim;omega
  rcases hA with ⟨rfl,rfl,rfl⟩|⟨ad,c,rx,rfl,sp,hb,hcs,hrl,hrc,hel⟩
  ·have hr':=run_append_nil (P:=P) w T ty E inf zv hU hinfo hzv ad2 ys.length c2 ry (by rw [hinfsz];exact l1) hcell2 hypos (by simpa using h63) (by simp at hbytes;omega)
   refine ⟨_,_,_,by simpa using hr',?_⟩
   have hcapn:ys.length<=grownCap w ys.length 0 E:=grownCap_ge w _ _ _
   refine ch _ _ (Hp.one w.heap.size _) (eI.trans (eI.drew w) (eI.alloc _ _)).same (fun b o _ ho=>(eI.trans (eI.drew w) (eI.alloc _ _)).le b o ho) (Hp.one_le (aEA w.drew _)) (fun b=>?_) ?_
   ·by_cases hbb:b=w.heap.size
    ·subst hbb;exact .inr (.inr (aOO w))
    ·left;simp [Hp.one,hbb]
   ·refine aOP (rows:=ry) (Hp.one_self _ _) (by simpa using hcapn) ?_ (by simpa [hsz] using l1) ?_ (fun i d hd=>l4 i d (by
      have:=(List.getElem?_eq_some_iff.1 hd).1;simpa using this) (by simpa using hd))
    ·simp only [Array.size_append,List.size_toArray,size_zeroCells,hzc,l1,hzs,hsz,←Nat.add_mul]
     exact Nat.mul_le_mul_right _ (by omega)
    ·intro t v ht
     have hlt:t < ry.length:=(List.getElem?_eq_some_iff.1 ht).1
     rw [Array.getElem?_append_left (by simpa using hlt)]
     simpa using ht
  ·obtain ⟨b,off,s⟩:=ad
   simp only at sp hb hrc hcs
   subst sp
   have hw:w.heap[b]?=some (.cells c E (0,0)):=hle _ _ hb
   rw [hsz] at hrl hcs
   by_cases hroom:xs.length+ys.length<=cap
   ·have hfit:off+xs.length * sz+ry.length<=c.size:=by
     rw [l1]
     have:(xs.length+ys.length) * sz<=cap * sz:=Nat.mul_le_mul_right _ hroom
     rw [Nat.add_mul] at this;omega
    have hst:=run_storeCells_at P b (off+xs.length * sz) E ry 0 c w hw (by simpa using hfit) l2
    have hfc:(Builtin.firstCells sz ys.length (.slice (some ad2) ys.length c2)).run P w=.ok ry.toArray w:=run_firstCells_some w sz ys.length ad2 _ _ ry l1 hcell2
    refine ⟨some ⟨b,off,none⟩,cap,_,?_,ch _ (w.setRow b (c.toList.take (off+xs.length * sz)++ry++c.toList.drop (off+xs.length * sz+ry.length)).toArray) (Hp.one b (.cells (c.toList.take (off+xs.length * sz)++ry++c.toList.drop (off+xs.length * sz+ry.length)).toArray E (0,0))) (Same.refl _) ?_ ?_ ?_ ?_⟩
    ·have hfc':(Builtin.firstCells sz ys.length (.slice (some ad2) ys.length c2)).run P w=.ok ry.toArray w:=hfc
     simp only [Nat.add_zero] at hst
     simp [Builtin.append_,hT.un,hT.size,Builtin.lenOf,hroom,hfc',mM,hst]
    ·intro k o hk ho
     have hne:k≠b:=by intro e;subst e;rw [hb] at hk;cases hk
     unfold hp at *
     rw [setRow_other w b k _ hne];exact ho
    ·exact Hp.one_le (setRow_heap w b _ _ E _ hw)
    ·intro k
     by_cases hk:k=b
     ·subst hk;right;left;rw [hb];rfl
     ·left;simp [Hp.one,hk]
    ·refine ⟨by simpa using hroom,.inr ⟨⟨b,off,none⟩,_,rx++ry,rfl,rfl,Hp.one_self _ _,?_,?_,?_,?_⟩⟩
     ·simp only [List.size_toArray,List.length_append,List.length_take,List.length_drop,Array.length_toList,hsz];omega
     ·simp only [List.length_append,hrl,l1,hsz,Nat.add_mul]
     ·intro t v ht
      rw [List.getElem?_append] at ht
      simp only [List.getElem?_toArray]
      split at ht
      ·rename_i hlt
       rw [List.append_assoc,List.getElem?_append_left (by simp;omega),List.getElem?_take_of_lt (by omega)]
       have:=hrc t v ht
       simpa using this
      ·rename_i hge
       rw [List.append_assoc,List.getElem?_append_right (by simp;omega),List.getElem?_append_left]
       ·rw [←ht];congr 1;simp only [List.length_take,Array.length_toList];omega
       ·have:=(List.getElem?_eq_some_iff.1 ht).1
        simp only [List.length_take,Array.length_toList];omega
     ·exact aMc (by rw [hrl,hsz]) (fun i d hd=>El.mono hK (hel i d hd)) (fun i d hd=>l4 i d (List.getElem?_eq_some_iff.1 hd).1 hd)
   ·have hr':=run_append_grow (P:=P) w T ty E inf zv hU hinfo hzv ⟨b,off,none⟩ xs.length cap rx (by rw [hinfsz];exact hrl) (fun j v hj=>by
      rw [mM];exact qH (Hp.le_refl _) hw (hrc j v hj)) ad2 ys.length c2 ry (by rw [hinfsz];exact l1) hcell2 (by omega) h63 (growslice_fits (by omega) hbytes)
    refine ⟨_,_,_,by simpa using hr',?_⟩
    have hcapn:xs.length+ys.length<=grownCap w (xs.length+ys.length) cap E:=grownCap_ge w _ _ _
    refine ch _ _ (Hp.one w.heap.size _) (eI.trans (eI.drew w) (eI.alloc _ _)).same (fun b o _ ho=>(eI.trans (eI.drew w) (eI.alloc _ _)).le b o ho) (Hp.one_le (aEA w.drew _)) (fun b=>?_) ?_
    ·by_cases hbb:b=w.heap.size
     ·subst hbb;exact .inr (.inr (aOO w))
     ·left;simp [Hp.one,hbb]
    ·refine aOP (rows:=rx++ry) (Hp.one_self _ _) (by simpa using hcapn) ?_ (by simp only [List.length_append,hrl,l1,hsz,Nat.add_mul]) ?_
      (aMc (by rw [hrl,hsz]) (fun i d hd=>El.mono hK (hel i d hd)) (fun i d hd=>l4 i d (List.getElem?_eq_some_iff.1 hd).1 hd))
     ·simp only [Array.size_append,List.size_toArray,List.length_append,size_zeroCells,hzc,l1,hrl,hzs,hsz,←Nat.add_mul]
      exact Nat.mul_le_mul_right _ (by omega)
     ·intro t v ht
      have hlt:t < (rx++ry).length:=(List.getElem?_eq_some_iff.1 ht).1
      rw [←List.append_toArray,Array.getElem?_append_left (by simpa using hlt)]
      simpa using ht
theorem aQU {T E:TypeId} {sz i:Nat} {zs:List Value} {a a2:Option Addr} {cap c2:Nat} {xs ys:List α} {Ke:Hp} (hT:SLT P T E sz) (hU:P.underlying T=some (.slice E)) (hE:EZ P E zs) (hsz:El.sz α=sz) (hzs:zs.length=sz)
  (hs:aF G K L w) (hi:L[i]?=some (aV E Ke a cap xs)) (hK:Ke.le K) (hr:aW K a2 c2 ys) (hlim:xs.length+ys.length<=iK):
  ∃ a' cap' w',(Builtin.append_ #[T,T] ty #[.slice a xs.length cap,.slice a2 ys.length c2]).run P w=.ok (.slice a' (xs++ys).length cap') w'/\aF G K (L.set i (aV E K a' cap' (xs++ys))) w':=by
 obtain ⟨ry,l1,l2,l3,l4⟩:=hr.rows ys.length (Nat.le_refl _)
 refine aFW hT hU hE hsz hzs hs hi hK l1 l2 (fun hypos=>?_) l4 hlim
 have hrl:0 < ry.length:=by rw [l1];exact Nat.mul_pos hypos (El.pos (α:=α))
 obtain ⟨ad,c,E',fr,e,s,k,_⟩:=l3 0 _ (List.getElem?_eq_getElem hrl)
 refine ⟨ad,e,fun j u hj=>?_⟩
 obtain ⟨ad',c',E'',fr',e',s',k',hc'⟩:=l3 j u hj
 rw [e] at e';cases e'
 obtain ⟨ab,ao,as⟩:=ad
 simp only at s'
 subst s'
 rw [mM]
 exact qH hs.know k' hc'
theorem WO_app {T E:TypeId} {sz i:Nat} {zs:List Value} {a a2:Option Addr} {cap c2 l1 l2:Nat} {xs ys zz:List α} {Ke:Hp} (hT:SLT P T E sz) (hU:P.underlying T=some (.slice E)) (hE:EZ P E zs) (hsz:El.sz α=sz) (hzs:zs.length=sz)
  (hs:aF G K L w) (hi:L[i]?=some (aV E Ke a cap xs)) (hK:Ke.le K) (hr:aW K a2 c2 ys) (hm:oH xs ys=some zz) (hx:ev f x=.slice a l1 cap) (hl1:l1=xs.length) (hy:ev f y=.slice a2 l2 c2) (hl2:l2=ys.length)
  (h:∀ a' cap' w',aF G K (L.set i (aV E K a' cap' zz)) w'->WO P n ops rest Q (upd f d (.slice a' zz.length cap')) w'):
  WO P n ops (⟨some d,.call ⟨.builtin .append,#[x,y],#[T,T]⟩,ty,pos,af,none⟩::rest) Q f w:=by
 obtain ⟨hlim,rfl⟩:=aPP hm
 subst hl1;subst hl2
 obtain ⟨a',cap',w',hr',hs'⟩:=aQU (ty:=ty) hT hU hE hsz hzs hs hi hK hr hlim
 refine aFT rfl (w':=w') (v:=.slice a' (xs++ys).length cap') ?_ (h _ _ _ hs')
 simp only [execOp,resolve,invoke,builtin,Sem.run_bind,Sem.run_pure,Result.andThen_ok,List.map_toArray,List.map_cons,List.map_nil,hx,hy,hr']
theorem jQ {T E E2:TypeId} {sz i:Nat} {zs:List Value} {a a2:Option Addr} {cap c2 l1 l2:Nat} {xs ys zz:List α} {Ke K2:Hp} (hT:SLT P T E sz) (hU:P.underlying T=some (.slice E)) (hE:EZ P E zs) (hsz:El.sz α=sz) (hzs:zs.length=sz)
  (hs:aF G K (aV E2 K2 a2 c2 ys::L) w) (hi:L[i]?=some (aV E Ke a cap xs)) (hK:Ke.le K) (hK2:K2.le K) (hm:oH xs ys=some zz) (hx:ev f x=.slice a l1 cap) (hl1:l1=xs.length) (hy:ev f y=.slice a2 l2 c2) (hl2:l2=ys.length)
  (hpod:∀ {K':Hp} {cs:List Value} {d:α},K.le K'->El.rd K' cs d->El.rd K cs d)
  (h:∀ a' cap' w',aF G K (L.set i (aV E K a' cap' zz)) w'->WO P n ops rest Q (upd f d (.slice a' zz.length cap')) w'):
  WO P n ops (⟨some d,.call ⟨.builtin .append,#[x,y],#[T,T]⟩,ty,pos,af,none⟩::rest) Q f w:=by
 obtain ⟨K',hK',hr,hs',back⟩:=aF.lendS (i:=0) hs hK2 rfl
 refine WO_app hT hU hE hsz hzs hs' hi (Hp.le_trans hK hK') hr hm hx hl1 hy hl2 (fun a' cap' w' hs''=>h a' cap' w' ?_)
 have hil:i < L.length:=by
  rcases Nat.lt_or_ge i L.length with h|h
  ·exact h
  ·rw [List.getElem?_eq_none h] at hi;cases hi
 have:=(hs''.weakK hK').weak (i:=i) (A:=aV E K' a' cap' zz) (A':=aV E K a' cap' zz) (by simp [hil]) (fun h1 ho=>?_)
 ·simpa using this
 ·obtain ⟨o1,o2⟩:=ho
  refine ⟨o1,o2.imp id ?_⟩
  rintro ⟨ad,c,rows,e,s,m,z,l,r1,r2⟩
  exact ⟨ad,c,rows,e,s,m,z,l,r1,fun i d e=>hpod hK' (r2 i d e)⟩
theorem WO_appO {T E E2:TypeId} {sz i:Nat} {zs:List Value} {a a2:Option Addr} {cap c2 l1 l2:Nat} {xs ys zz:List α} {Ke K2:Hp} (Kt:Hp) (hT:SLT P T E sz) (hU:P.underlying T=some (.slice E)) (hE:EZ P E zs) (hsz:El.sz α=sz) (hzs:zs.length=sz)
  (hs:aF G K (aV E2 K2 a2 c2 ys::L) w) (hi:L[i]?=some (aV E Ke a cap xs)) (hK:Ke.le Kt) (hK2:K2.le Kt) (hm:oH xs ys=some zz) (hx:ev f x=.slice a l1 cap) (hl1:l1=xs.length) (hy:ev f y=.slice a2 l2 c2) (hl2:l2=ys.length)
  (hone:∀ (K':Hp) (cs:List Value) (d:α),El.rd K' cs d->∀ v∈cs,v.oneCell'=true)
  (h:∀ a' cap' w',aF G K (L.set i (aV E Kt a' cap' zz)) w'->WO P n ops rest Q (upd f d (.slice a' zz.length cap')) w'):
  WO P n ops (⟨some d,.call ⟨.builtin .append,#[x,y],#[T,T]⟩,ty,pos,af,none⟩::rest) Q f w:=by
 obtain ⟨hlim,rfl⟩:=aPP hm
 subst hl1;subst hl2
 obtain ⟨h2,⟨hcap2,hA2⟩,hle2,_⟩:=hs.entry (i:=0) rfl
 have key:∃ a' cap' w',(Builtin.append_ #[T,T] ty #[.slice a xs.length cap,.slice a2 ys.length c2]).run P w=.ok (.slice a' (xs++ys).length cap') w'/\aF G K (L.set i (aV E Kt a' cap' (xs++ys))) w':=by
  rcases hA2 with ⟨rfl,rfl,rfl⟩|⟨ad,c,rows,rfl,sp,hb,hcs,hrl,hrc,hel⟩
  ·exact aFW (ry:=[]) hT hU hE hsz hzs hs.drop hi hK (by simp) (by simp) (by simp) (by simp) hlim
  ·refine aFW (ry:=rows) hT hU hE hsz hzs hs.drop hi hK hrl (fun v hv=>?_) (fun _=>⟨ad,rfl,fun j u hj=>?_⟩) (fun i d _ hd=>El.mono hK2 (hel i d hd)) hlim
   ·obtain ⟨t,ht,rfl⟩:=List.getElem_of_mem hv
    have hpos:=El.pos (α:=α)
    have hq:t / El.sz α < ys.length:=by rw [hrl] at ht;exact Nat.div_lt_of_lt_mul (by rw [Nat.mul_comm];exact ht)
    refine hone _ _ _ (hel (t / El.sz α) _ (List.getElem?_eq_getElem hq)) _ ?_
    have hr:t % El.sz α < El.sz α:=Nat.mod_lt _ hpos
    have he:t / El.sz α * El.sz α+t % El.sz α=t:=Nat.div_add_mod' t _
    refine List.mem_of_getElem? (i:=t % El.sz α) ?_
    rw [List.getElem?_take_of_lt hr,List.getElem?_drop,he,List.getElem?_eq_getElem ht]
   ·obtain ⟨ab,ao,as⟩:=ad
    simp only at sp hb hrc
    subst sp
    rw [mM]
    exact qH hle2 hb (hrc j u hj)
 obtain ⟨a',cap',w',hr',hs'⟩:=key
 refine aFT rfl (w':=w') (v:=.slice a' (xs++ys).length cap') ?_ (h _ _ _ hs')
 simp only [execOp,resolve,invoke,builtin,Sem.run_bind,Sem.run_pure,Result.andThen_ok,List.map_toArray,List.map_cons,List.map_nil,hx,hy,hr']
theorem aF.setEl {E:TypeId} {i j t b off:Nat} {cap:Nat} {xs:List α} {e':α} {ns:List Value} {Ke:Hp} {c:Array Value} (hs:aF G K L w) (hi:L[i]?=some (aV E Ke (some ⟨b,off,none⟩) cap xs)) (hK:Ke.le K)
  (hj:j < xs.length) (hw:w.heap[b]?=some (.cells c E (0,0))) (ht:t+ns.length<=El.sz α)
  (he:∀ cs e,xs[j]?=some e->El.rd K cs e->El.rd K (cs.take t++ns++cs.drop (t+ns.length)) e'):
  off+j * El.sz α+t+ns.length<=c.size/\
  aF G K (L.set i (aV E K (some ⟨b,off,none⟩) cap (xs.set j e'))) (w.setRow b (c.toList.take (off+j * El.sz α+t)++ns++c.toList.drop (off+j * El.sz α+t+ns.length)).toArray):=by
 obtain ⟨h1,⟨hcap,hA⟩,hle,hdj,ch⟩:=hs.change hi
 rcases hA with ⟨h,_⟩|⟨ad,c',rx,e,sp,hb,hcs,hrl,hrc,hel⟩
 ·cases h
 cases e
 simp only at hb hcs hrc
 have hcc:c'=c:=by
  have:=hle _ _ hb
  unfold hp at this
  rw [hw] at this;cases this;rfl
 subst hcc
 have hsz:j * El.sz α+El.sz α<=xs.length * El.sz α:=by rw [←Nat.succ_mul];exact Nat.mul_le_mul_right _ hj
 have hcap':xs.length * El.sz α<=cap * El.sz α:=Nat.mul_le_mul_right _ hcap
 refine ⟨by omega,ch _ _ (Hp.one b (.cells (c'.toList.take (off+j * El.sz α+t)++ns++c'.toList.drop (off+j * El.sz α+t+ns.length)).toArray E (0,0))) (Same.refl _) ?_ ?_ ?_ ?_⟩
 ·intro k o hk ho
  have hne:k≠b:=by intro e;subst e;rw [hb] at hk;cases hk
  unfold hp at *
  rw [setRow_other w b k _ hne];exact ho
 ·exact Hp.one_le (setRow_heap w b _ _ E _ hw)
 ·intro k
  by_cases hk:k=b
  ·subst hk;right;left;rw [hb];rfl
  ·left;simp [Hp.one,hk]
 ·refine ⟨by simpa using hcap,.inr ⟨⟨b,off,none⟩,_,rx.take (j * El.sz α+t)++ns++rx.drop (j * El.sz α+t+ns.length),rfl,rfl,Hp.one_self _ _,?_,?_,?_,?_⟩⟩
  ·simp only [List.size_toArray,List.length_append,List.length_take,List.length_drop,Array.length_toList];omega
  ·simp only [List.length_append,List.length_take,List.length_drop,List.length_set,hrl];omega
  ·intro s v hv
   simp only [List.getElem?_toArray]
   have hrs:rx.length=xs.length * El.sz α:=hrl
   rw [List.append_assoc,List.getElem?_append] at hv ⊢
   simp only [List.length_take,Array.length_toList] at hv ⊢
   have m1:min (j * El.sz α+t) rx.length=j * El.sz α+t:=by omega
   have m2:min (off+j * El.sz α+t) c'.size=off+j * El.sz α+t:=by omega
   rw [m1] at hv
   rw [m2]
   by_cases h1:s < j * El.sz α+t
   ·rw [if_pos h1,List.getElem?_take_of_lt h1] at hv
    rw [if_pos (by omega),List.getElem?_take_of_lt (by omega)]
    simpa using hrc s v hv
   ·rw [if_neg h1,List.getElem?_append] at hv
    rw [if_neg (by omega),List.getElem?_append]
    have e1:off+s - (off+j * El.sz α+t)=s - (j * El.sz α+t):=by omega
    rw [e1]
    by_cases h2:s - (j * El.sz α+t) < ns.length
    ·rw [if_pos h2] at hv ⊢;exact hv
    ·rw [if_neg h2,List.getElem?_drop] at hv
     rw [if_neg h2,List.getElem?_drop]
     have:=hrc _ v hv
     rw [←Array.getElem?_toList] at this
     rw [←this];congr 1;omega
  ·intro k e hk
   have hkl:k < xs.length:=by have:=(List.getElem?_eq_some_iff.1 hk).1;simpa using this
   have hksz:k * El.sz α+El.sz α<=xs.length * El.sz α:=by rw [←Nat.succ_mul];exact Nat.mul_le_mul_right _ hkl
   by_cases hkj:k=j
   ·subst hkj
    rw [List.getElem?_set_self hj] at hk
    cases hk
    have hxj:xs[k]?=some xs[k]:=List.getElem?_eq_getElem hj
    have:=he _ _ hxj (El.mono hK (hel k _ hxj))
    have heq:((rx.take (k * El.sz α+t)++ns++rx.drop (k * El.sz α+t+ns.length)).drop (k * El.sz α)).take (El.sz α)=
      ((rx.drop (k * El.sz α)).take (El.sz α)).take t++ns++((rx.drop (k * El.sz α)).take (El.sz α)).drop (t+ns.length):=by
     apply List.ext_getElem?
     intro s
     by_cases hs:s < El.sz α
     ·have m1:min (k * El.sz α+t) rx.length=k * El.sz α+t:=by omega
      have m2:min t (min (El.sz α) (rx.length - k * El.sz α))=t:=by omega
      rw [List.getElem?_take_of_lt hs,List.getElem?_drop]
      simp only [List.append_assoc,List.getElem?_append,List.length_take,List.length_drop,m1,m2]
      have e1:k * El.sz α+s - (k * El.sz α+t)=s - t:=by omega
      rw [e1]
      by_cases h1:s < t
      ·rw [if_pos (by omega),if_pos h1,List.getElem?_take_of_lt (by omega),List.getElem?_take_of_lt h1,List.getElem?_take_of_lt hs,List.getElem?_drop]
      ·rw [if_neg (by omega),if_neg h1]
       by_cases h2:s - t < ns.length
       ·rw [if_pos h2,if_pos h2]
       ·rw [if_neg h2,if_neg h2,List.getElem?_drop,List.getElem?_drop,List.getElem?_take_of_lt (by omega),List.getElem?_drop]
        congr 1;omega
     ·rw [List.getElem?_take_eq_none (by omega),List.getElem?_eq_none]
      simp only [List.length_append,List.length_take,List.length_drop];omega
    rw [heq]
    exact this
   ·rw [List.getElem?_set_ne (by omega)] at hk
    have:=El.mono hK (hel k e hk)
    have heq:((rx.take (j * El.sz α+t)++ns++rx.drop (j * El.sz α+t+ns.length)).drop (k * El.sz α)).take (El.sz α)=(rx.drop (k * El.sz α)).take (El.sz α):=by
     apply List.ext_getElem?
     intro s
     by_cases hs:s < El.sz α
     ·rw [List.getElem?_take_of_lt hs,List.getElem?_drop,List.getElem?_take_of_lt hs,List.getElem?_drop,List.append_assoc,List.getElem?_append]
      simp only [List.length_take]
      have m1:min (j * El.sz α+t) rx.length=j * El.sz α+t:=by omega
      rw [m1]
      rcases Nat.lt_or_gt_of_ne hkj with hlt|hgt
      ·have:k * El.sz α+El.sz α<=j * El.sz α:=by rw [←Nat.succ_mul];exact Nat.mul_le_mul_right _ hlt
       rw [if_pos (by omega),List.getElem?_take_of_lt (by omega)]
      ·have:j * El.sz α+El.sz α<=k * El.sz α:=by rw [←Nat.succ_mul];exact Nat.mul_le_mul_right _ hgt
       rw [if_neg (by omega),List.getElem?_append,if_neg (by omega),List.getElem?_drop]
       congr 1;omega
     ·rw [List.getElem?_take_eq_none (by omega),List.getElem?_take_eq_none (by omega)]
    rw [heq]
    exact this
theorem aEC {T E:TypeId} {a:Option Addr} {i t m cap kk:Nat} {j:Int} {xs zz:List α} {e e':α} {v:Value} {ns:List Value} {Ke:Hp} (hT:∀ w,(Go.sizeOf T).run P w=.ok m w) (hs:aF G K L w) (hi:L[i]?=some (aV E Ke a cap xs)) (hK:Ke.le K)
  (hx:ev f x=cE a kk) (hkk:kk=j.toNat * El.sz α+t) (hy:ev f y=v) (hj:ix xs j=some e) (hst:Gv.st xs j e'=some zz) (hn:v.cells=ns.toArray) (hm:ns.length=m) (h1:∀ u∈ns,u.oneCell'=true) (ht:Nat.ble (t+m) (El.sz α)=true)
  (he:∀ cs,El.rd K cs e->El.rd K (cs.take t++ns++cs.drop (t+m)) e')
  (h:∀ w',aF G K (L.set i (aV E K a cap zz)) w'->WO P n ops rest Q f w'):
  WO P n ops (⟨none,.store T x y,ty,pos,af,none⟩::rest) Q f w:=by
 obtain ⟨h0,hlt,hje⟩:=aAO hj
 obtain ⟨_,_,rfl⟩:=aIP hst
 obtain ⟨g,⟨_,hA⟩,hle,_⟩:=hs.entry hi
 subst hkk
 rcases hA with ⟨_,rfl,_⟩|⟨ad,c,rx,rfl,sp,hb,_⟩
 ·simp at hlt
 obtain ⟨b,off,s⟩:=ad
 simp only at sp hb
 subst sp
 have hw:w.heap[b]?=some (.cells c E (0,0)):=hle _ _ hb
 have ht':t+ns.length<=El.sz α:=by rw [hm];simpa using ht
 obtain ⟨hfit,hs'⟩:=aF.setEl (j:=j.toNat) (t:=t) (ns:=ns) (e':=e') hs hi hK hlt hw ht' (fun cs e0 he0 hrd=>by
  rw [hje] at he0;cases he0;rw [hm];exact he cs hrd)
 refine WO_eff rfl (w':=_) ?_ (h _ hs')
 have hr:=run_storeCells_at P b (off+j.toNat * El.sz α+t) E ns 0 c w hw (by omega) h1
 have hsz:v.cells.size=ns.length:=by rw [hn];simp
 subst hm
 simp only [execOp,hx,hy,aAf,Instr.storeAt,Instr.sureAddr,storeVar,Sem.run_bind,Sem.run_pure,Result.andThen_ok,hT,Sem.run_ite,hsz,hn]
 simp only [ne_eq,not_true_eq_false,if_false,Nat.add_zero,Nat.add_assoc] at hr ⊢
 rw [hr]
 simp
end
end Gv
