/- Owned slices of plain data as rows of cells; parts of them; clear, copy. No program in sight. -/
import Derived.Test.YtokmmhfhaoanmaaGreatDoorJY
set_option linter.all false
namespace Gv
open Go
section
variable {β:Type} [dY β]
def flat (xs:List β):List Value:=xs.flatMap dY.enc
theorem vF:∀ xs:List β,(flat xs).length=xs.length * dY.sz β
 |[]=>by simp [flat]
 |x::xs=>by
  have:=vF xs
  simp only [flat,List.flatMap_cons,List.length_append,List.length_cons,dY.len] at *
  rw [this,Nat.add_mul,Nat.one_mul,Nat.add_comm]
theorem aTi (xs ys:List β):flat (xs++ys)=flat xs++flat ys:=by simp [flat]
theorem flat_one (xs:List β):∀ v∈flat xs,v.oneCell'=true:=fun v h=>by
 obtain ⟨x,_,hv⟩:=List.mem_flatMap.1 h
 exact dY.one x v hv
theorem aKD:∀ {xs:List β} {i:Nat} {d:β},xs[i]?=some d->((flat xs).drop (i * dY.sz β)).take (dY.sz β)=dY.enc d
 |[],_,_,h=>by simp at h
 |x::xs,0,d,h=>by
  simp at h;subst h
  simp only [flat,List.flatMap_cons,Nat.zero_mul,List.drop_zero]
  rw [List.take_append_of_le_length (by rw [dY.len];exact Nat.le_refl _),List.take_of_length_le (by rw [dY.len];exact Nat.le_refl _)]
 |x::xs,i+1,d,h=>by
  have:=aKD (i:=i) (d:=d) (xs:=xs) (by simpa using h)
  simp only [flat,List.flatMap_cons] at *
  rw [Nat.add_mul,Nat.one_mul,Nat.add_comm,←List.drop_drop,List.drop_left' (dY.len x)]
  exact this
theorem aQZ:∀ {xs:List β} {rows:List Value},rows.length=xs.length * dY.sz β->(∀ i d,xs[i]?=some d->(rows.drop (i * dY.sz β)).take (dY.sz β)=dY.enc d)->rows=flat xs
 |[],rows,hl,_=>by simpa [flat] using hl
 |x::xs,rows,hl,h=>by
  have h0:=h 0 x rfl
  simp only [Nat.zero_mul,List.drop_zero] at h0
  have hl':(rows.drop (dY.sz β)).length=xs.length * dY.sz β:=by
   simp only [List.length_drop,hl,List.length_cons,Nat.add_mul,Nat.one_mul];omega
  have ih:=aQZ (xs:=xs) hl' (fun i d hd=>by
   have:=h (i+1) d (by simpa using hd)
   rw [Nat.add_mul,Nat.one_mul,Nat.add_comm,←List.drop_drop] at this
   exact this)
  have:rows=rows.take (dY.sz β)++rows.drop (dY.sz β):=(List.take_append_drop _ _).symm
  rw [this,h0,ih]
  simp [flat]
theorem aMY:∀ (xs:List β) (n:Nat),flat (xs.take n)=(flat xs).take (n * dY.sz β)
 |[],n=>by simp [flat]
 |x::xs,0=>by simp [flat]
 |x::xs,n+1=>by
  have:=aMY xs n
  simp only [flat,List.take_succ_cons,List.flatMap_cons] at *
  rw [this,List.take_append,dY.len,List.take_of_length_le (l:=dY.enc x) (by rw [dY.len,Nat.add_mul];omega),Nat.add_mul,Nat.one_mul,Nat.add_sub_cancel]
theorem aMZ:∀ (xs:List β) (n:Nat),flat (xs.drop n)=(flat xs).drop (n * dY.sz β)
 |[],n=>by simp [flat]
 |x::xs,0=>by simp [flat]
 |x::xs,n+1=>by
  have:=aMZ xs n
  simp only [flat,List.drop_succ_cons,List.flatMap_cons] at *
  rw [Nat.add_mul,Nat.one_mul,Nat.add_comm,←List.drop_drop,List.drop_left' (dY.len x),this]
theorem aDF {E:TypeId} {K:Hp} {a:Option Addr} {cap:Nat} {xs:List β} {g:Hp}:
  aJ E K a cap xs g<->xs.length<=cap/\((a=none/\xs=[]/\cap=0)\/∃ (ad:Addr) (c:Array Value),a=some ad/\ad.spot=none/\g ad.block=some (.cells c E (0,0))/\ad.off+cap * dY.sz β<=c.size/\∀ t v,(flat xs)[t]?=some v->c[ad.off+t]?=some v):=by
 constructor
 ·rintro ⟨h1,h|⟨ad,c,rows,e,s,hb,hc,hl,hr,hel⟩⟩
  ·exact ⟨h1,.inl h⟩
  ·have:rows=flat xs:=aQZ hl hel
   subst this
   exact ⟨h1,.inr ⟨ad,c,e,s,hb,hc,hr⟩⟩
 ·rintro ⟨h1,h|⟨ad,c,e,s,hb,hc,hr⟩⟩
  ·exact ⟨h1,.inl h⟩
  ·exact ⟨h1,.inr ⟨ad,c,flat xs,e,s,hb,hc,vF xs,hr,fun i d hd=>aKD hd⟩⟩
structure Cut (sz:Nat) (a:Option Addr) (cap:Nat) (lo:Int) (a':Option Addr) (c':Nat):Prop where
 at_:a'=if cap=lo.toNat then a else a.map (·.add (lo.toNat * sz))
 cap_:c'=cap - lo.toNat
theorem aJ.cut {E:TypeId} {K:Hp} {a a':Option Addr} {cap c':Nat} {lo hi:Int} {xs r:List β} {g:Hp} (ho:aJ E K a cap xs g) (hc:slc xs lo hi=some r) (hx:Cut (dY.sz β) a cap lo a' c'):aJ E K a' c' r g:=by
 obtain ⟨h0,h1,h2,rfl⟩:=aFH hc
 obtain ⟨rfl,rfl⟩:=hx
 rw [aDF] at ho ⊢
 obtain ⟨hcap,ho⟩:=ho
 have hlen:((xs.drop lo.toNat).take (hi.toNat - lo.toNat)).length=hi.toNat - lo.toNat:=by simp;omega
 refine ⟨by rw [hlen];omega,?_⟩
 rcases ho with ⟨rfl,rfl,rfl⟩|⟨ad,c,rfl,sp,hb,hcs,hr⟩
 ·left
  refine ⟨by simp,by simp,by simp⟩
 ·right
  by_cases he:cap=lo.toNat
  ·rw [if_pos he]
   refine ⟨ad,c,rfl,sp,hb,?_,fun t v ht=>?_⟩
   ·have:(cap - lo.toNat)=0:=by omega
    rw [this,Nat.zero_mul]
    have:=Nat.le_trans (Nat.le_add_right _ _) hcs
    omega
   ·have:(xs.drop lo.toNat).take (hi.toNat - lo.toNat)=[]:=by apply List.eq_nil_of_length_eq_zero;rw [hlen];omega
    rw [this] at ht;simp [flat] at ht
  ·rw [if_neg he]
   obtain ⟨b,o,s⟩:=ad
   simp only at sp hb hcs hr
   subst sp
   refine ⟨⟨b,o+lo.toNat * dY.sz β,none⟩,c,by simp [mM],rfl,hb,?_,fun t v ht=>?_⟩
   ·have:(lo.toNat+(cap - lo.toNat)) * dY.sz β=cap * dY.sz β:=by congr 1;omega
    rw [Nat.add_mul] at this
    simp only;omega
   ·rw [aMY,aMZ] at ht
    have hlt:t < (hi.toNat - lo.toNat) * dY.sz β:=by
     have:=(List.getElem?_eq_some_iff.1 ht).1
     simp only [List.length_take] at this;omega
    rw [List.getElem?_take_of_lt hlt,List.getElem?_drop] at ht
    have:=hr _ _ ht
    rw [←this];congr 1;simp only;omega
variable {P:Program} {n:Nat} {ops:Array Oper} {rest:List Oper} {Q:mZ} {f:Nat->Value} {w:World}
variable {d:Nat} {x y z:Operand} {ty:TypeId} {pos:String} {af:Array Edge}
variable {G:mL} {K:Hp} {L:List eU}
theorem aGE {E:TypeId} {Ke:Hp} {i:Nat} {a:Option Addr} {cap:Nat} {xs:List β} (hs:aD G K L w) (hi:L[i]?=some (aJ E Ke a cap xs)):xs.length<=cap:=by
 obtain ⟨h1,hA,_⟩:=hs.entry hi
 exact hA.1
theorem aD.cutP {E:TypeId} {Ke:Hp} {i:Nat} {a a':Option Addr} {cap c':Nat} {lo hi:Int} {xs r:List β} (hs:aD G K L w) (hi':L[i]?=some (aJ E Ke a cap xs)) (hc:slc xs lo hi=some r) (hx:Cut (dY.sz β) a cap lo a' c'):aD G K (L.set i (aJ E Ke a' c' r)) w:=
 hs.weak hi' (fun _ h=>h.cut hc hx)
theorem Cut.lies {sz:Nat} {a a':Option Addr} {cap c':Nat} {lo:Int} (hc:Cut sz a cap lo a' c') (ha:Lies a):Lies a':=by
 obtain ⟨ad,rfl,s⟩:=ha
 obtain ⟨rfl,_⟩:=hc
 split
 ·exact ⟨ad,rfl,s⟩
 ·obtain ⟨b,o,s'⟩:=ad
  simp only at s;subst s
  exact ⟨⟨b,o+lo.toNat * sz,none⟩,by simp [mM],rfl⟩
theorem aLz {α:Type} [El α] {T E:TypeId} {sz:Nat} {a a':Option Addr} {len cap c':Nat} {xs r:List α} {lo hi j m:Int} {e:α} (hT:yT P T E sz) (ha:Lies a) (hx':Cut sz a cap lo a' c') (hc:slc xs lo hi=some r) (hcap:xs.length<=cap)
  (hx:ev f x=.slice a' len c') (hl:len=r.length) (hy:ev f y=i64 j) (hj:ix r j=some e) (hm:m=lo+j):
  (execOp (ev f) ⟨some d,.indexAddr T x y,ty,pos,af,none⟩).run P w=.ok (.value (fL a (m.toNat * sz+0))) w:=by
 obtain ⟨h0,h1,h2⟩:=aBG hj
 obtain ⟨g0,g1,g2,rfl⟩:=aFH hc
 have ha':=hx'.lies ha
 obtain ⟨ad,rfl,s⟩:=ha
 obtain ⟨rfl,rfl⟩:=hx'
 have hlen:((xs.drop lo.toNat).take (hi.toNat - lo.toNat)).length=hi.toNat - lo.toNat:=by simp;omega
 have hne:¬ cap=lo.toNat:=by rw [hlen] at h1;omega
 subst hl;subst hm
 obtain ⟨b,o,s'⟩:=ad
 simp only at s;subst s
 have e1:(if cap=lo.toNat then some (⟨b,o,none⟩:Addr) else (some (⟨b,o,none⟩:Addr)).map (·.add (lo.toNat * sz)))=some ⟨b,o+lo.toNat * sz,none⟩:=by
  rw [if_neg hne];simp [mM]
 rw [e1] at hx
 have e2:(lo+j).toNat=lo.toNat+j.toNat:=by omega
 simp only [execOp,hx,hy,Sem.run_bind]
 rw [aEK (w:=w) (ad:=⟨b,o+lo.toNat * sz,none⟩) hT rfl h0 h1]
 simp [fL,e2,Nat.add_mul,Nat.add_assoc]
theorem aD.putEls {E:TypeId} {Ke:Hp} {i lo b off:Nat} {cap:Nat} {xs ys:List β} {c:Array Value} (hs:aD G K L w) (hi:L[i]?=some (aJ E Ke (some ⟨b,off,none⟩) cap xs)) (hfit:lo+ys.length<=xs.length) (hw:w.heap[b]?=some (.cells c E (0,0))):
  off+lo * dY.sz β+(flat ys).length<=c.size/\aD G K (L.set i (aJ E Ke (some ⟨b,off,none⟩) cap (xs.take lo++ys++xs.drop (lo+ys.length)))) (w.setRow b (c.toList.take (off+lo * dY.sz β)++flat ys++c.toList.drop (off+lo * dY.sz β+(flat ys).length)).toArray):=by
 obtain ⟨h1,hA,hle,hdj,ch⟩:=hs.change hi
 rw [aDF] at hA
 obtain ⟨hcap,hA⟩:=hA
 rcases hA with ⟨h,_⟩|⟨ad,c',e,sp,hb,hcs,hr⟩
 ·cases h
 cases e
 simp only at hb hcs hr
 have hcc:c'=c:=by
  have:=hle _ _ hb
  unfold hp at this
  rw [hw] at this;cases this;rfl
 subst hcc
 have hfl:=vF ys
 have hxl:=vF xs
 have k1:lo * dY.sz β+(flat ys).length<=(flat xs).length:=by
  rw [hfl,hxl,←Nat.add_mul];exact Nat.mul_le_mul_right _ hfit
 have k2:(flat xs).length<=cap * dY.sz β:=by rw [hxl];exact Nat.mul_le_mul_right _ hcap
 refine ⟨by omega,ch _ _ (Hp.one b (.cells (c'.toList.take (off+lo * dY.sz β)++flat ys++c'.toList.drop (off+lo * dY.sz β+(flat ys).length)).toArray E (0,0))) (aOk.refl _) ?_ ?_ ?_ ?_⟩
 ·intro k o hk ho
  have hne:k≠b:=by intro e;subst e;rw [hb] at hk;cases hk
  unfold hp at *
  rw [setRow_other w b k _ hne];exact ho
 ·exact Hp.one_le (setRow_heap w b _ _ E _ hw)
 ·intro k
  by_cases hk:k=b
  ·subst hk;right;left;rw [hb];rfl
  ·left;simp [Hp.one,hk]
 ·rw [aDF]
  have hlen:(xs.take lo++ys++xs.drop (lo+ys.length)).length=xs.length:=by simp;omega
  refine ⟨by rw [hlen];exact hcap,.inr ⟨_,_,rfl,rfl,Hp.one_self _ _,?_,fun t v ht=>?_⟩⟩
  ·simp only [List.size_toArray,List.length_append,List.length_take,List.length_drop,Array.length_toList];omega
  ·have hd:(lo+ys.length) * dY.sz β=lo * dY.sz β+(flat ys).length:=by rw [hfl,Nat.add_mul]
   rw [aTi,aTi,aMY,aMZ,hd] at ht
   simp only [List.getElem?_toArray]
   have m1:min (lo * dY.sz β) (flat xs).length=lo * dY.sz β:=by omega
   have m2:min (off+lo * dY.sz β) c'.size=off+lo * dY.sz β:=by omega
   rw [List.append_assoc,List.getElem?_append] at ht ⊢
   simp only [List.length_take,Array.length_toList,m1,m2] at ht ⊢
   by_cases g1:t < lo * dY.sz β
   ·rw [if_pos g1,List.getElem?_take_of_lt g1] at ht
    rw [if_pos (by omega),List.getElem?_take_of_lt (by omega)]
    simpa using hr t v ht
   ·rw [if_neg g1,List.getElem?_append] at ht
    rw [if_neg (by omega),List.getElem?_append]
    have e1:off+t - (off+lo * dY.sz β)=t - lo * dY.sz β:=by omega
    rw [e1]
    by_cases g2:t - lo * dY.sz β < (flat ys).length
    ·rw [if_pos g2] at ht ⊢;exact ht
    ·rw [if_neg g2,List.getElem?_drop] at ht
     rw [if_neg g2,List.getElem?_drop]
     have:=hr _ v ht
     rw [←Array.getElem?_toList] at this
     rw [←this];congr 1;omega
theorem Cut.whole {sz:Nat} {a:Option Addr} {cap:Nat}:Cut sz a cap 0 a cap:=by
 refine ⟨?_,by simp⟩
 split
 ·rfl
 ·cases a with
  |none=>rfl
  |some ad=>simp [Addr.add]
theorem storeV {E:TypeId} {Ke:Hp} {i:Nat} {a a':Option Addr} {cap c':Nat} {lo:Int} {xs ys zz:List β} (hs:aD G K L w) (hi:L[i]?=some (aJ E Ke a cap xs)) (hx:Cut (dY.sz β) a cap lo a' c') (hm:ovw xs lo ys=some zz) (hne:ys≠[]):
  ∃ ad w',a'=some ad/\(storeCells ad (flat ys)).run P w=.ok () w'/\aD G K (L.set i (aJ E Ke a cap zz)) w':=by
 obtain ⟨h0,hfit,rfl⟩:=aLq hm
 have hpos:0 < ys.length:=List.length_pos_iff.2 hne
 have hcap:=aGE hs hi
 obtain ⟨h1,hA,hle,_⟩:=hs.entry hi
 rw [aDF] at hA
 obtain ⟨_,⟨_,rfl,_⟩|⟨ad,c,rfl,sp,hb,hcs,hr⟩⟩:=hA
 ·simp only [List.length_nil] at hfit;omega
 obtain ⟨b,o,s⟩:=ad
 simp only at sp hb hcs hr
 subst sp
 have hw:w.heap[b]?=some (.cells c E (0,0)):=hle _ _ hb
 obtain ⟨hsz,hs'⟩:=aD.putEls (lo:=lo.toNat) (ys:=ys) hs hi hfit hw
 obtain ⟨rfl,rfl⟩:=hx
 have hne':¬ cap=lo.toNat:=by omega
 rw [if_neg hne']
 refine ⟨⟨b,o+lo.toNat * dY.sz β,none⟩,_,by simp [mM],?_,hs'⟩
 have hr:=run_storeCells_at P b (o+lo.toNat * dY.sz β) E (flat ys) 0 c w hw (by omega) (flat_one ys)
 simpa using hr
theorem aPf {z:β} {zv:Array Value} (hz:zv=(dY.enc z).toArray) (n:Nat):(Builtin.zeroCells zv n).toList=flat (List.replicate n z):=by
 subst hz
 have hp:=dY.pos (α:=β)
 apply List.ext_getElem?
 intro t
 have hsz:(dY.enc z).length=dY.sz β:=dY.len z
 simp only [Builtin.zeroCells,Array.toList_map,List.getElem?_map,Array.toList_range,List.size_toArray,hsz]
 by_cases ht:t < n * dY.sz β
 ·rw [List.getElem?_range ht]
  have hq:t / dY.sz β < n:=Nat.div_lt_of_lt_mul (by rw [Nat.mul_comm];exact ht)
  have hlt:t % dY.sz β < dY.sz β:=Nat.mod_lt _ hp
  have hc:=aKD (xs:=List.replicate n z) (i:=t / dY.sz β) (d:=z) (by simp [hq])
  have he:t / dY.sz β * dY.sz β+t % dY.sz β=t:=Nat.div_add_mod' t _
  have:(flat (List.replicate n z))[t]?=(dY.enc z)[t % dY.sz β]?:=by
   rw [←hc,List.getElem?_take_of_lt hlt,List.getElem?_drop,he]
  rw [this]
  have hlt':t % dY.sz β < (dY.enc z).length:=by omega
  simp [hlt',getElem!_def]
 ·rw [List.getElem?_eq_none (by simpa using ht),List.getElem?_eq_none]
  ·rfl
  ·rw [vF];simpa using ht
theorem aNa {T E E':TypeId} {sz i:Nat} {zs:List Value} {Ke:Hp} {a a':Option Addr} {cap c' len m:Nat} {lo:Int} {xs zz:List β} {z:β} (hT:yT P T E sz) (hE:EZ P E zs) (hz:zs=dY.enc z) (hs:aD G K L w) (hi:L[i]?=some (aJ E' Ke a cap xs)) (hx':Cut (dY.sz β) a cap lo a' c')
  (hx:ev f x=.slice a' len c') (hl:len=m) (hm:ovw xs lo (List.replicate m z)=some zz)
  (h:∀ w',aD G K (L.set i (aJ E' Ke a cap zz)) w'->WO P n ops rest Q f w'):WO P n ops (⟨none,.call ⟨.builtin .clear,#[x],#[T]⟩,ty,pos,af,none⟩::rest) Q f w:=by
 subst hl
 obtain ⟨zv,hzv,hzc⟩:=hE.zero
 by_cases hn:len=0
 ·subst hn
  obtain ⟨h0,_,rfl⟩:=aLq hm
  simp only [List.replicate_zero,List.append_nil,List.length_nil,Nat.add_zero,List.take_append_drop] at h
  refine aFq (o:=⟨none,.call ⟨.builtin .clear,#[x],#[T]⟩,ty,pos,af,none⟩) rfl (w':=w) (v:=.tuple #[]) ?_ (h w ?_)
  ·cases a'<;>simp [execOp,resolve,invoke,builtin,hx,Builtin.clear_,hT.un]
  ·have hil:i < L.length:=(List.getElem?_eq_some_iff.1 hi).1
   rw [set_self hi];exact hs
 ·obtain ⟨ad,w',rfl,hr,hs'⟩:=storeV (P:=P) hs hi hx' hm (by simp [hn])
  refine aFq (o:=⟨none,.call ⟨.builtin .clear,#[x],#[T]⟩,ty,pos,af,none⟩) rfl (w':=w') (v:=.tuple #[]) ?_ (h w' hs')
  have hzf:=aPf (z:=z) (zv:=zv.cells) (by rw [hzc,hz]) len
  obtain ⟨k,rfl⟩:∃ k,len=k+1:=⟨len - 1,by omega⟩
  simp only [execOp,resolve,invoke,builtin,Sem.run_bind,Sem.run_pure,Result.andThen_ok,List.map_toArray,List.map_cons,List.map_nil,hx,Builtin.clear_,hT.un]
  simp [hT.un,hzv,hzf,hr]
theorem aTj (k:Nat) {T E:TypeId} {sz:Nat} {a:Option Addr} {n c:Nat} (hT:yT P T E sz):(Op.equalIn (k+1) T (.slice a n c) (.slice none 0 0)).run P w=.ok a.isNone w:=by
 cases a<;>simp [Op.equalIn,hT.un]
theorem R_isNil {T E:TypeId} {sz:Nat} {U:TypeId} {a:Option Addr} {n c:Nat} (hT:yT P T E sz) (hx:ev f x=.slice a n c) (hy:ev f y=.slice none 0 0):
  (execOp (ev f) ⟨some d,.binOp .eql T x y U,ty,pos,af,none⟩).run P w=.ok (.value (.bool a.isNone)) w:=by
 have h:(Op.equal T (.slice a n c) (.slice none 0 0)).run P w=.ok a.isNone w:=aTj 9999 hT
 simp only [execOp,hx,hy,Sem.run_bind,eqGuard,binOp]
 simp [h,bne]
theorem nil_cases {α:Type} [El α] {a:Option Addr} {c:Nat} {xs:List α} (hr:aW K a c xs):(a=none/\xs=[]/\c=0)\/(a.isNone=false):=by
 cases a with
 |none=>exact .inl ⟨rfl,hr.nil rfl⟩
 |some _=>exact .inr rfl
theorem Cut.ex (sz:Nat) (a:Option Addr) (cap:Nat) (lo:Int):∃ a' c',Cut sz a cap lo a' c':=⟨_,_,⟨rfl,rfl⟩⟩
section
variable {α:Type} [El α]
theorem aW.cut' {a a':Option Addr} {cap c':Nat} {lo hi:Int} {xs r:List α} (hr:aW K a cap xs) (hc:slc xs lo hi=some r) (hx:Cut (El.sz α) a cap lo a' c'):aW K a' c' r:=by
 obtain ⟨rfl,rfl⟩:=hx
 exact hr.cut (m:=0) hc
theorem aKE {T E:TypeId} {sz:Nat} {a a':Option Addr} {len cap c':Nat} {xs r:List α} {lo:Int} (hT:yT P T E sz) (hcap:xs.length<=cap) (hx':Cut sz a cap lo a' c') (hx:ev f x=.slice a len cap) (hl:ev f y=i64 lo) (hlen:len=xs.length) (hc:slc xs lo (xs.length:Int)=some r):
  (execOp (ev f) ⟨some d,.slice T x (some y) none none,ty,pos,af,none⟩).run P w=.ok (.value (.slice a' r.length c')) w:=by
 subst hlen
 obtain ⟨rfl,rfl⟩:=hx'
 have h1:=run_slR (P:=P) (w:=w) (a:=a) hT hcap hc (.inl rfl) (.inr ⟨rfl,rfl⟩)
 simp only [execOp,hx,hl,Option.map_some,Option.map_none,Sem.run_bind,aQU hT,h1];simp
theorem aRT {T E:TypeId} {sz:Nat} {a a':Option Addr} {len cap c':Nat} {xs r:List α} {hi:Int} (hT:yT P T E sz) (hcap:xs.length<=cap) (hx':Cut sz a cap 0 a' c') (hx:ev f x=.slice a len cap) (hh:ev f z=i64 hi) (hlen:len=xs.length) (hc:slc xs 0 hi=some r):
  (execOp (ev f) ⟨some d,.slice T x none (some z) none,ty,pos,af,none⟩).run P w=.ok (.value (.slice a' r.length c')) w:=by
 subst hlen
 obtain ⟨rfl,rfl⟩:=hx'
 have h1:=run_slR (P:=P) (w:=w) (a:=a) hT hcap hc (.inr ⟨rfl,rfl⟩) (.inl rfl)
 simp only [execOp,hx,hh,Option.map_some,Option.map_none,Sem.run_bind,aQU hT,h1];simp
end
end
end Gv
namespace Gv
open Go
structure ART (P:Program) (T E:TypeId) (n:Nat):Prop where
 un:∀ w,(underlying T).run P w=.ok (.array n E) w
 agg:∀ w,(isAgg E).run P w=.ok false w
 size:∀ w,(Go.sizeOf E).run P w=.ok 1 w
section
variable {P:Program} {f:Nat->Value} {w:World} {d:Nat} {x y:Operand} {ty:TypeId} {pos:String} {af:Array Go.Edge}
end
instance:dY (Int × Int) where
 sz:=2
 enc p:=[i64 p.1,i64 p.2]
 len _:=rfl
 one _ v h:=by simp at h;rcases h with rfl|rfl<;>rfl
 pos:=by decide
instance:dY (Int × Int × Int) where
 sz:=3
 enc p:=[i64 p.1,i64 p.2.1,i64 p.2.2]
 len _:=rfl
 one _ v h:=by simp at h;rcases h with rfl|rfl|rfl<;>rfl
 pos:=by decide
end Gv
