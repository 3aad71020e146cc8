/- Owned slices of plain data as rows of cells; parts of them; clear, copy. No program in sight. -/
import Derived.Test.YthmfdhgeglgpbaaGreatDoorJY
set_option linter.all false
namespace Gv
open Go
section
variable {β:Type} [dV β]
def jL (xs:List β):List Value:=xs.flatMap dV.enc
theorem xH:∀ xs:List β,(jL xs).length=xs.length * dV.sz β
 |[]=>by simp [jL]
 |x::xs=>by
  have:=xH xs
  simp only [jL,List.flatMap_cons,List.length_append,List.length_cons,dV.len] at *
  rw [this,Nat.add_mul,Nat.one_mul,Nat.add_comm]
theorem aQr (xs ys:List β):jL (xs++ys)=jL xs++jL ys:=by simp [jL]
theorem flat_one (xs:List β):∀ v∈jL xs,v.oneCell'=true:=fun v h=>by
 obtain ⟨x,_,hv⟩:=List.mem_flatMap.1 h
 exact dV.one x v hv
theorem aJw:∀ {xs:List β} {i:Nat} {d:β},xs[i]?=some d->((jL xs).drop (i * dV.sz β)).take (dV.sz β)=dV.enc d
 |[],_,_,h=>by simp at h
 |x::xs,0,d,h=>by
  simp at h;subst h
  simp only [jL,List.flatMap_cons,Nat.zero_mul,List.drop_zero]
  rw [List.take_append_of_le_length (by rw [dV.len];exact Nat.le_refl _),List.take_of_length_le (by rw [dV.len];exact Nat.le_refl _)]
 |x::xs,i+1,d,h=>by
  have:=aJw (i:=i) (d:=d) (xs:=xs) (by simpa using h)
  simp only [jL,List.flatMap_cons] at *
  rw [Nat.add_mul,Nat.one_mul,Nat.add_comm,←List.drop_drop,List.drop_left' (dV.len x)]
  exact this
theorem aKS:∀ {xs:List β} {rows:List Value},rows.length=xs.length * dV.sz β->(∀ i d,xs[i]?=some d->(rows.drop (i * dV.sz β)).take (dV.sz β)=dV.enc d)->rows=jL xs
 |[],rows,hl,_=>by simpa [jL] using hl
 |x::xs,rows,hl,h=>by
  have h0:=h 0 x rfl
  simp only [Nat.zero_mul,List.drop_zero] at h0
  have hl':(rows.drop (dV.sz β)).length=xs.length * dV.sz β:=by
   simp only [List.length_drop,hl,List.length_cons,Nat.add_mul,Nat.one_mul];omega
  have ih:=aKS (xs:=xs) hl' (fun i d hd=>by
   have:=h (i+1) d (by simpa using hd)
   rw [Nat.add_mul,Nat.one_mul,Nat.add_comm,←List.drop_drop] at this
   exact this)
  have:rows=rows.take (dV.sz β)++rows.drop (dV.sz β):=(List.take_append_drop _ _).symm
  rw [this,h0,ih]
  simp [jL]
theorem aKT:∀ (xs:List β) (n:Nat),jL (xs.take n)=(jL xs).take (n * dV.sz β)
 |[],n=>by simp [jL]
 |x::xs,0=>by simp [jL]
 |x::xs,n+1=>by
  have:=aKT xs n
  simp only [jL,List.take_succ_cons,List.flatMap_cons] at *
  rw [this,List.take_append,dV.len,List.take_of_length_le (l:=dV.enc x) (by rw [dV.len,Nat.add_mul];omega),Nat.add_mul,Nat.one_mul,Nat.add_sub_cancel]
theorem aKU:∀ (xs:List β) (n:Nat),jL (xs.drop n)=(jL xs).drop (n * dV.sz β)
 |[],n=>by simp [jL]
 |x::xs,0=>by simp [jL]
 |x::xs,n+1=>by
  have:=aKU xs n
  simp only [jL,List.drop_succ_cons,List.flatMap_cons] at *
  rw [Nat.add_mul,Nat.one_mul,Nat.add_comm,←List.drop_drop,List.drop_left' (dV.len x),this]
theorem aDE {E:TypeId} {K:Hp} {a:Option Addr} {cap:Nat} {xs:List β} {g:Hp}:
  own E K a cap xs g<->xs.length<=cap/\((a=none/\xs=[]/\cap=0)\/∃ (ad:Addr) (c:Array Value),a=some ad/\ad.spot=none/\g ad.block=some (.cells c E (0,0))/\ad.off+cap * dV.sz β<=c.size/\∀ t v,(jL xs)[t]?=some v->c[ad.off+t]?=some v):=by
 constructor
 ·rintro ⟨h1,h|⟨ad,c,rows,e,s,hb,hc,hl,hr,hel⟩⟩
  ·exact ⟨h1,.inl h⟩
  ·have:rows=jL xs:=aKS hl hel
   subst this
   exact ⟨h1,.inr ⟨ad,c,e,s,hb,hc,hr⟩⟩
 ·rintro ⟨h1,h|⟨ad,c,e,s,hb,hc,hr⟩⟩
  ·exact ⟨h1,.inl h⟩
  ·exact ⟨h1,.inr ⟨ad,c,jL xs,e,s,hb,hc,xH xs,hr,fun i d hd=>aJw hd⟩⟩
structure Cut (sz:Nat) (a:Option Addr) (cap:Nat) (lo:Int) (a':Option Addr) (c':Nat):Prop where
 at_:a'=if cap=lo.toNat then a else a.map (·.add (lo.toNat * sz))
 cap_:c'=cap - lo.toNat
theorem own.cut {E:TypeId} {K:Hp} {a a':Option Addr} {cap c':Nat} {lo hi:Int} {xs r:List β} {g:Hp} (ho:own E K a cap xs g) (hc:slc xs lo hi=some r) (hx:Cut (dV.sz β) a cap lo a' c'):own E K a' c' r g:=by
 obtain ⟨h0,h1,h2,rfl⟩:=aHs hc
 obtain ⟨rfl,rfl⟩:=hx
 rw [aDE] at ho ⊢
 obtain ⟨hcap,ho⟩:=ho
 have hlen:((xs.drop lo.toNat).take (hi.toNat - lo.toNat)).length=hi.toNat - lo.toNat:=by simp;omega
 refine ⟨by rw [hlen];omega,?_⟩
 rcases ho with ⟨rfl,rfl,rfl⟩|⟨ad,c,rfl,sp,hb,hcs,hr⟩
 ·left
  refine ⟨by simp,by simp,by simp⟩
 ·right
  by_cases he:cap=lo.toNat
  ·rw [if_pos he]
   refine ⟨ad,c,rfl,sp,hb,?_,fun t v ht=>?_⟩
   ·have:(cap - lo.toNat)=0:=by omega
    rw [this,Nat.zero_mul]
    have:=Nat.le_trans (Nat.le_add_right _ _) hcs
    omega
   ·have:(xs.drop lo.toNat).take (hi.toNat - lo.toNat)=[]:=by apply List.eq_nil_of_length_eq_zero;rw [hlen];omega
    rw [this] at ht;simp [jL] at ht
  ·rw [if_neg he]
   obtain ⟨b,o,s⟩:=ad
   simp only at sp hb hcs hr
   subst sp
   refine ⟨⟨b,o+lo.toNat * dV.sz β,none⟩,c,by simp [pX],rfl,hb,?_,fun t v ht=>?_⟩
   ·have:(lo.toNat+(cap - lo.toNat)) * dV.sz β=cap * dV.sz β:=by congr 1;omega
    rw [Nat.add_mul] at this
    simp only;omega
   ·rw [aKT,aKU] at ht
    have hlt:t < (hi.toNat - lo.toNat) * dV.sz β:=by
     have:=(List.getElem?_eq_some_iff.1 ht).1
     simp only [List.length_take] at this;omega
    rw [List.getElem?_take_of_lt hlt,List.getElem?_drop] at ht
    have:=hr _ _ ht
    rw [←this];congr 1;simp only;omega
variable {P:Program} {n:Nat} {ops:Array Oper} {rest:List Oper} {Q:pP} {f:Nat->Value} {w:World}
variable {d:Nat} {x y z:Operand} {ty:TypeId} {pos:String} {af:Array Edge}
variable {G:rT} {K:Hp} {L:List fM}
theorem qA {E:TypeId} {Ke:Hp} {i:Nat} {a:Option Addr} {cap:Nat} {xs:List β} (hs:aF G K L w) (hi:L[i]?=some (own E Ke a cap xs)):xs.length<=cap:=by
 obtain ⟨h1,hA,_⟩:=hs.entry hi
 exact hA.1
theorem aF.cutP {E:TypeId} {Ke:Hp} {i:Nat} {a a':Option Addr} {cap c':Nat} {lo hi:Int} {xs r:List β} (hs:aF G K L w) (hi':L[i]?=some (own E Ke a cap xs)) (hc:slc xs lo hi=some r) (hx:Cut (dV.sz β) a cap lo a' c'):aF G K (L.set i (own E Ke a' c' r)) w:=
 hs.weak hi' (fun _ h=>h.cut hc hx)
theorem Cut.lies {sz:Nat} {a a':Option Addr} {cap c':Nat} {lo:Int} (hc:Cut sz a cap lo a' c') (ha:Lies a):Lies a':=by
 obtain ⟨ad,rfl,s⟩:=ha
 obtain ⟨rfl,_⟩:=hc
 split
 ·exact ⟨ad,rfl,s⟩
 ·obtain ⟨b,o,s'⟩:=ad
  simp only at s;subst s
  exact ⟨⟨b,o+lo.toNat * sz,none⟩,by simp [pX],rfl⟩
theorem aOz {α:Type} [El α] {T E:TypeId} {sz:Nat} {a a':Option Addr} {len cap c':Nat} {xs r:List α} {lo hi j m:Int} {e:α} (hT:SLT P T E sz) (ha:Lies a) (hx':Cut sz a cap lo a' c') (hc:slc xs lo hi=some r) (hcap:xs.length<=cap)
  (hx:ev f x=.slice a' len c') (hl:len=r.length) (hy:ev f y=i64 j) (hj:ix r j=some e) (hm:m=lo+j):
  (execOp (ev f) ⟨some d,.indexAddr T x y,ty,pos,af,none⟩).run P w=.ok (.value (cE a (m.toNat * sz+0))) w:=by
 obtain ⟨h0,h1,h2⟩:=aCx hj
 obtain ⟨g0,g1,g2,rfl⟩:=aHs hc
 have ha':=hx'.lies ha
 obtain ⟨ad,rfl,s⟩:=ha
 obtain ⟨rfl,rfl⟩:=hx'
 have hlen:((xs.drop lo.toNat).take (hi.toNat - lo.toNat)).length=hi.toNat - lo.toNat:=by simp;omega
 have hne:¬ cap=lo.toNat:=by rw [hlen] at h1;omega
 subst hl;subst hm
 obtain ⟨b,o,s'⟩:=ad
 simp only at s;subst s
 have e1:(if cap=lo.toNat then some (⟨b,o,none⟩:Addr) else (some (⟨b,o,none⟩:Addr)).map (·.add (lo.toNat * sz)))=some ⟨b,o+lo.toNat * sz,none⟩:=by
  rw [if_neg hne];simp [pX]
 rw [e1] at hx
 have e2:(lo+j).toNat=lo.toNat+j.toNat:=by omega
 simp only [execOp,hx,hy,Sem.run_bind]
 rw [aEB (w:=w) (ad:=⟨b,o+lo.toNat * sz,none⟩) hT rfl h0 h1]
 simp [cE,e2,Nat.add_mul,Nat.add_assoc]
theorem aF.putEls {E:TypeId} {Ke:Hp} {i lo b off:Nat} {cap:Nat} {xs ys:List β} {c:Array Value} (hs:aF G K L w) (hi:L[i]?=some (own E Ke (some ⟨b,off,none⟩) cap xs)) (hfit:lo+ys.length<=xs.length) (hw:w.heap[b]?=some (.cells c E (0,0))):
  off+lo * dV.sz β+(jL ys).length<=c.size/\aF G K (L.set i (own E Ke (some ⟨b,off,none⟩) cap (xs.take lo++ys++xs.drop (lo+ys.length)))) (w.setRow b (c.toList.take (off+lo * dV.sz β)++jL ys++c.toList.drop (off+lo * dV.sz β+(jL ys).length)).toArray):=by
 obtain ⟨h1,hA,hle,hdj,ch⟩:=hs.change hi
 rw [aDE] at hA
 obtain ⟨hcap,hA⟩:=hA
 rcases hA with ⟨h,_⟩|⟨ad,c',e,sp,hb,hcs,hr⟩
 ·cases h
 cases e
 simp only at hb hcs hr
 have hcc:c'=c:=by
  have:=hle _ _ hb
  unfold hp at this
  rw [hw] at this;cases this;rfl
 subst hcc
 have hfl:=xH ys
 have hxl:=xH xs
 have k1:lo * dV.sz β+(jL ys).length<=(jL xs).length:=by
  rw [hfl,hxl,←Nat.add_mul];exact Nat.mul_le_mul_right _ hfit
 have k2:(jL xs).length<=cap * dV.sz β:=by rw [hxl];exact Nat.mul_le_mul_right _ hcap
 refine ⟨by omega,ch _ _ (Hp.one b (.cells (c'.toList.take (off+lo * dV.sz β)++jL ys++c'.toList.drop (off+lo * dV.sz β+(jL ys).length)).toArray E (0,0))) (aLZ.refl _) ?_ ?_ ?_ ?_⟩
 ·intro k o hk ho
  have hne:k≠b:=by intro e;subst e;rw [hb] at hk;cases hk
  unfold hp at *
  rw [setRow_other w b k _ hne];exact ho
 ·exact Hp.one_le (setRow_heap w b _ _ E _ hw)
 ·intro k
  by_cases hk:k=b
  ·subst hk;right;left;rw [hb];rfl
  ·left;simp [Hp.one,hk]
 ·rw [aDE]
  have hlen:(xs.take lo++ys++xs.drop (lo+ys.length)).length=xs.length:=by simp;omega
  refine ⟨by rw [hlen];exact hcap,.inr ⟨_,_,rfl,rfl,Hp.one_self _ _,?_,fun t v ht=>?_⟩⟩
  ·simp only [List.size_toArray,List.length_append,List.length_take,List.length_drop,Array.length_toList];omega
  ·have hd:(lo+ys.length) * dV.sz β=lo * dV.sz β+(jL ys).length:=by rw [hfl,Nat.add_mul]
   rw [aQr,aQr,aKT,aKU,hd] at ht
   simp only [List.getElem?_toArray]
   have m1:min (lo * dV.sz β) (jL xs).length=lo * dV.sz β:=by omega
   have m2:min (off+lo * dV.sz β) c'.size=off+lo * dV.sz β:=by omega
   rw [List.append_assoc,List.getElem?_append] at ht ⊢
   simp only [List.length_take,Array.length_toList,m1,m2] at ht ⊢
   by_cases g1:t < lo * dV.sz β
   ·rw [if_pos g1,List.getElem?_take_of_lt g1] at ht
    rw [if_pos (by omega),List.getElem?_take_of_lt (by omega)]
    simpa using hr t v ht
   ·rw [if_neg g1,List.getElem?_append] at ht
    rw [if_neg (by omega),List.getElem?_append]
    have e1:off+t - (off+lo * dV.sz β)=t - lo * dV.sz β:=by omega
    rw [e1]
    by_cases g2:t - lo * dV.sz β < (jL ys).length
    ·rw [if_pos g2] at ht ⊢;exact ht
    ·rw [if_neg g2,List.getElem?_drop] at ht
     rw [if_neg g2,List.getElem?_drop]
     have:=hr _ v ht
     rw [←Array.getElem?_toList] at this
     rw [←this];congr 1;omega
theorem Cut.whole {sz:Nat} {a:Option Addr} {cap:Nat}:Cut sz a cap 0 a cap:=by
 refine ⟨?_,by simp⟩
 split
 ·rfl
 ·cases a with
  |none=>rfl
  |some ad=>simp [Addr.add]
theorem storeV {E:TypeId} {Ke:Hp} {i:Nat} {a a':Option Addr} {cap c':Nat} {lo:Int} {xs ys zz:List β} (hs:aF G K L w) (hi:L[i]?=some (own E Ke a cap xs)) (hx:Cut (dV.sz β) a cap lo a' c') (hm:ovw xs lo ys=some zz) (hne:ys≠[]):
  ∃ ad w',a'=some ad/\(storeCells ad (jL ys)).run P w=.ok () w'/\aF G K (L.set i (own E Ke a cap zz)) w':=by
 obtain ⟨h0,hfit,rfl⟩:=aHp hm
 have hpos:0 < ys.length:=List.length_pos_iff.2 hne
 have hcap:=qA hs hi
 obtain ⟨h1,hA,hle,_⟩:=hs.entry hi
 rw [aDE] at hA
 obtain ⟨_,⟨_,rfl,_⟩|⟨ad,c,rfl,sp,hb,hcs,hr⟩⟩:=hA
 ·simp only [List.length_nil] at hfit;omega
 obtain ⟨b,o,s⟩:=ad
 simp only at sp hb hcs hr
 subst sp
 have hw:w.heap[b]?=some (.cells c E (0,0)):=hle _ _ hb
 obtain ⟨hsz,hs'⟩:=aF.putEls (lo:=lo.toNat) (ys:=ys) hs hi hfit hw
 obtain ⟨rfl,rfl⟩:=hx
 have hne':¬ cap=lo.toNat:=by omega
 rw [if_neg hne']
 refine ⟨⟨b,o+lo.toNat * dV.sz β,none⟩,_,by simp [pX],?_,hs'⟩
 have hr:=run_storeCells_at P b (o+lo.toNat * dV.sz β) E (jL ys) 0 c w hw (by omega) (flat_one ys)
 simpa using hr
theorem aMO {z:β} {zv:Array Value} (hz:zv=(dV.enc z).toArray) (n:Nat):(Builtin.zeroCells zv n).toList=jL (List.replicate n z):=by
 subst hz
 have hp:=dV.pos (α:=β)
 apply List.ext_getElem?
 intro t
 have hsz:(dV.enc z).length=dV.sz β:=dV.len z
 simp only [Builtin.zeroCells,Array.toList_map,List.getElem?_map,Array.toList_range,List.size_toArray,hsz]
 by_cases ht:t < n * dV.sz β
 ·rw [List.getElem?_range ht]
  have hq:t / dV.sz β < n:=Nat.div_lt_of_lt_mul (by rw [Nat.mul_comm];exact ht)
  have hlt:t % dV.sz β < dV.sz β:=Nat.mod_lt _ hp
  have hc:=aJw (xs:=List.replicate n z) (i:=t / dV.sz β) (d:=z) (by simp [hq])
  have he:t / dV.sz β * dV.sz β+t % dV.sz β=t:=Nat.div_add_mod' t _
  have:(jL (List.replicate n z))[t]?=(dV.enc z)[t % dV.sz β]?:=by
   rw [←hc,List.getElem?_take_of_lt hlt,List.getElem?_drop,he]
  rw [this]
  have hlt':t % dV.sz β < (dV.enc z).length:=by omega
  simp [hlt',getElem!_def]
 ·rw [List.getElem?_eq_none (by simpa using ht),List.getElem?_eq_none]
  ·rfl
  ·rw [xH];simpa using ht
theorem aID {T E E':TypeId} {sz i:Nat} {zs:List Value} {Ke:Hp} {a a':Option Addr} {cap c' len m:Nat} {lo:Int} {xs zz:List β} {z:β} (hT:SLT P T E sz) (hE:EZ P E zs) (hz:zs=dV.enc z) (hs:aF G K L w) (hi:L[i]?=some (own E' Ke a cap xs)) (hx':Cut (dV.sz β) a cap lo a' c')
  (hx:ev f x=.slice a' len c') (hl:len=m) (hm:ovw xs lo (List.replicate m z)=some zz)
  (h:∀ w',aF G K (L.set i (own E' Ke a cap zz)) w'->WO P n ops rest Q f w'):WO P n ops (⟨none,.call ⟨.builtin .clear,#[x],#[T]⟩,ty,pos,af,none⟩::rest) Q f w:=by
 subst hl
 obtain ⟨zv,hzv,hzc⟩:=hE.zero
 by_cases hn:len=0
 ·subst hn
  obtain ⟨h0,_,rfl⟩:=aHp hm
  simp only [List.replicate_zero,List.append_nil,List.length_nil,Nat.add_zero,List.take_append_drop] at h
  refine aAk (o:=⟨none,.call ⟨.builtin .clear,#[x],#[T]⟩,ty,pos,af,none⟩) rfl (w':=w) (v:=.tuple #[]) ?_ (h w ?_)
  ·cases a'<;>simp [execOp,resolve,invoke,builtin,hx,Builtin.clear_,hT.un]
  ·have hil:i < L.length:=(List.getElem?_eq_some_iff.1 hi).1
   rw [aMI hi];exact hs
 ·obtain ⟨ad,w',rfl,hr,hs'⟩:=storeV (P:=P) hs hi hx' hm (by simp [hn])
  refine aAk (o:=⟨none,.call ⟨.builtin .clear,#[x],#[T]⟩,ty,pos,af,none⟩) rfl (w':=w') (v:=.tuple #[]) ?_ (h w' hs')
  have hzf:=aMO (z:=z) (zv:=zv.cells) (by rw [hzc,hz]) len
  obtain ⟨k,rfl⟩:∃ k,len=k+1:=⟨len - 1,by omega⟩
  simp only [execOp,resolve,invoke,builtin,Sem.run_bind,Sem.run_pure,Result.andThen_ok,List.map_toArray,List.map_cons,List.map_nil,hx,Builtin.clear_,hT.un]
  simp [hT.un,hzv,hzf,hr]
theorem aKg {T T2 E E':TypeId} {sz i:Nat} {Ke:Hp} {a a':Option Addr} {cap c' len m:Nat} {lo:Int} {xs ys zz:List β} {u:Value} {k:Nat} (hT:SLT P T E sz) (hz:dV.sz β=sz) (hs:aF G K L w) (hi:L[i]?=some (own E' Ke a cap xs)) (hx':Cut (dV.sz β) a cap lo a' c')
  (hx:ev f x=.slice a' len c') (hl:len=m) (hy:ev f y=u) (hlen:∀ w,(Builtin.lenOf u).run P w=.ok k w) (hk:ys.length=Nat.min k m) (hsrc:(Builtin.firstCells sz (Nat.min k m) u).run P w=.ok (jL ys).toArray w) (hm:ovw xs lo ys=some zz)
  (h:∀ w',aF G K (L.set i (own E' Ke a cap zz)) w'->WO P n ops rest Q (upd f d (i64 ((Nat.min k m:Nat):Int))) w'):WO P n ops (⟨some d,.call ⟨.builtin .copy,#[x,y],#[T,T2]⟩,ty,pos,af,none⟩::rest) Q f w:=by
 subst hl
 by_cases hn:ys=[]
 ·subst hn
  obtain ⟨h0,_,rfl⟩:=aHp hm
  simp only [List.append_nil,List.length_nil,Nat.add_zero,List.take_append_drop] at h
  refine aAk rfl (w':=w) (v:=i64 ((Nat.min k len:Nat):Int)) ?_ (h w ?_)
  ·simp only [jL,List.flatMap_nil] at hsrc
   cases a'<;>simp [execOp,resolve,invoke,builtin,hx,hy,Builtin.copy_,hT.un,hT.size,hlen,hsrc,storeCells,goInt,i64]
  ·rw [aMI hi];exact hs
 ·obtain ⟨ad,w',rfl,hr,hs'⟩:=storeV (P:=P) hs hi hx' hm hn
  refine aAk rfl (w':=w') (v:=i64 ((Nat.min k len:Nat):Int)) ?_ (h w' hs')
  simp [execOp,resolve,invoke,builtin,hx,hy,Builtin.copy_,hT.un,hT.size,hlen,hsrc,hr,goInt,i64]
theorem aHD {ys:List β} {m:Nat}:(ys.take (Nat.min ys.length m)).length=Nat.min ys.length m:=by
 rw [List.length_take];exact Nat.min_eq_left (Nat.min_le_left _ _)
theorem aIE (a:Option Addr) (n c:Nat) (w:World):(Builtin.lenOf (.slice a n c)).run P w=.ok n w:=rfl
theorem aMP {a:Option Addr} {c sz m:Nat} {ys:List β} (hz:dV.sz β=sz) (hs:aF G K L w) (hr:bI K a c ys):
  (Builtin.firstCells sz (Nat.min ys.length m) (.slice a ys.length c)).run P w=.ok (jL (ys.take (Nat.min ys.length m))).toArray w:=by
 subst hz
 have hlen:=aHD (ys:=ys) (m:=m)
 generalize Nat.min ys.length m=k at *
 cases a with
 |none=>
  obtain ⟨rfl,_⟩:=hr.nil rfl
  simp [Builtin.firstCells,jL]
 |some ad=>
  obtain ⟨ry,l1,l2,l3,l4⟩:=hr.rows k (by rw [←hlen];simp;omega)
  have hry:ry=jL (ys.take k):=by
   refine aKS (by rw [l1,hlen];rfl) (fun i d hd=>?_)
   have hi:i < k:=by have:=(List.getElem?_eq_some_iff.1 hd).1;rwa [hlen] at this
   rw [List.getElem?_take_of_lt hi] at hd
   exact l4 i d hi hd
  subst hry
  refine run_firstCells_some w _ k ad _ _ _ l1 (fun j v hj=>?_)
  obtain ⟨ad',c',E,fr,e,s,hk,hc⟩:=l3 j v hj
  cases e
  have:ad=⟨ad.block,ad.off,none⟩:=by cases ad;simp at s;subst s;rfl
  rw [this,pX]
  exact sW hs.know hk hc
theorem first_own {E:TypeId} {Ke:Hp} {i c sz m:Nat} {a:Option Addr} {ys:List β} (hz:dV.sz β=sz) (hs:aF G K L w) (hi:L[i]?=some (own E Ke a c ys)):
  (Builtin.firstCells sz (Nat.min ys.length m) (.slice a ys.length c)).run P w=.ok (jL (ys.take (Nat.min ys.length m))).toArray w:=by
 obtain ⟨K',hK,hr,hs',_⟩:=aF.lendS hs (Ke:=K) (Hp.le_refl _) (show L[i]?=some (own E K a c ys) from hi)
 exact aMP hz hs' hr
theorem aJx {E:TypeId} {Ke:Hp} {i c c' sz m:Nat} {a a':Option Addr} {lo hi:Int} {xs r:List β} (hz:dV.sz β=sz) (hs:aF G K L w) (hi':L[i]?=some (own E Ke a c xs)) (hc:slc xs lo hi=some r) (hx:Cut (dV.sz β) a c lo a' c'):
  (Builtin.firstCells sz (Nat.min r.length m) (.slice a' r.length c')).run P w=.ok (jL (r.take (Nat.min r.length m))).toArray w:=by
 have hil:i < L.length:=(List.getElem?_eq_some_iff.1 hi').1
 exact first_own (E:=E) (Ke:=Ke) (i:=i) hz (aF.cutP hs hi' hc hx) (by simp [hil])
theorem aLD (k:Nat) {T E:TypeId} {sz:Nat} {a:Option Addr} {n c:Nat} (hT:SLT P T E sz):(Op.equalIn (k+1) T (.slice a n c) (.slice none 0 0)).run P w=.ok a.isNone w:=by
 cases a<;>simp [Op.equalIn,hT.un]
theorem aIF {T E:TypeId} {sz:Nat} {U:TypeId} {a:Option Addr} {n c:Nat} (hT:SLT P T E sz) (hx:ev f x=.slice a n c) (hy:ev f y=.slice none 0 0):
  (execOp (ev f) ⟨some d,.binOp .eql T x y U,ty,pos,af,none⟩).run P w=.ok (.value (.bool a.isNone)) w:=by
 have h:(Op.equal T (.slice a n c) (.slice none 0 0)).run P w=.ok a.isNone w:=aLD 9999 hT
 simp only [execOp,hx,hy,Sem.run_bind,eqGuard,binOp]
 simp [h,bne]
theorem aFD {α:Type} [El α] {a:Option Addr} {c:Nat} {xs:List α} (hr:bI K a c xs):(a=none/\xs=[]/\c=0)\/(a.isNone=false):=by
 cases a with
 |none=>exact .inl ⟨rfl,hr.nil rfl⟩
 |some _=>exact .inr rfl
theorem Cut.ex (sz:Nat) (a:Option Addr) (cap:Nat) (lo:Int):∃ a' c',Cut sz a cap lo a' c':=⟨_,_,⟨rfl,rfl⟩⟩
section
variable {α:Type} [El α]
theorem aHE {T E:TypeId} {sz:Nat} {a a':Option Addr} {len cap c':Nat} {xs r:List α} {lo:Int} (hT:SLT P T E sz) (hcap:xs.length<=cap) (hx':Cut sz a cap lo a' c') (hx:ev f x=.slice a len cap) (hl:ev f y=i64 lo) (hlen:len=xs.length) (hc:slc xs lo (xs.length:Int)=some r):
  (execOp (ev f) ⟨some d,.slice T x (some y) none none,ty,pos,af,none⟩).run P w=.ok (.value (.slice a' r.length c')) w:=by
 subst hlen
 obtain ⟨rfl,rfl⟩:=hx'
 have h1:=run_slR (P:=P) (w:=w) (a:=a) hT hcap hc (.inl rfl) (.inr ⟨rfl,rfl⟩)
 simp only [execOp,hx,hl,Option.map_some,Option.map_none,Sem.run_bind,aOt hT,h1];simp
theorem aKV {T E:TypeId} {sz:Nat} {a a':Option Addr} {len cap c':Nat} {xs r:List α} {hi:Int} (hT:SLT P T E sz) (hcap:xs.length<=cap) (hx':Cut sz a cap 0 a' c') (hx:ev f x=.slice a len cap) (hh:ev f z=i64 hi) (hlen:len=xs.length) (hc:slc xs 0 hi=some r):
  (execOp (ev f) ⟨some d,.slice T x none (some z) none,ty,pos,af,none⟩).run P w=.ok (.value (.slice a' r.length c')) w:=by
 subst hlen
 obtain ⟨rfl,rfl⟩:=hx'
 have h1:=run_slR (P:=P) (w:=w) (a:=a) hT hcap hc (.inr ⟨rfl,rfl⟩) (.inl rfl)
 simp only [execOp,hx,hh,Option.map_some,Option.map_none,Sem.run_bind,aOt hT,h1];simp
end
end
end Gv
