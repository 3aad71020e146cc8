/- Owned slices of plain data as rows of cells; parts of them; clear, copy. No program in sight. -/
import Derived.Test.YtiipffjapfalhaaGreatDoorJY
set_option linter.all false
namespace Gv
open Go
section
variable {β:Type} [eL β]
def flat (xs:List β):List Value:=xs.flatMap eL.enc
theorem vZ:∀ xs:List β,(flat xs).length=xs.length * eL.sz β
 |[]=>by simp [flat]
 |x::xs=>by
  have:=vZ xs
  simp only [flat,List.flatMap_cons,List.length_append,List.length_cons,eL.len] at *
  rw [this,Nat.add_mul,Nat.one_mul,Nat.add_comm]
theorem aUe (xs ys:List β):flat (xs++ys)=flat xs++flat ys:=by simp [flat]
theorem flat_one (xs:List β):∀ v∈flat xs,v.oneCell'=true:=fun v h=>by
 obtain ⟨x,_,hv⟩:=List.mem_flatMap.1 h
 exact eL.one x v hv
theorem aLl:∀ {xs:List β} {i:Nat} {d:β},xs[i]?=some d->((flat xs).drop (i * eL.sz β)).take (eL.sz β)=eL.enc d
 |[],_,_,h=>by simp at h
 |x::xs,0,d,h=>by
  simp at h;subst h
  simp only [flat,List.flatMap_cons,Nat.zero_mul,List.drop_zero]
  rw [List.take_append_of_le_length (by rw [eL.len];exact Nat.le_refl _),List.take_of_length_le (by rw [eL.len];exact Nat.le_refl _)]
 |x::xs,i+1,d,h=>by
  have:=aLl (i:=i) (d:=d) (xs:=xs) (by simpa using h)
  simp only [flat,List.flatMap_cons] at *
  rw [Nat.add_mul,Nat.one_mul,Nat.add_comm,←List.drop_drop,List.drop_left' (eL.len x)]
  exact this
theorem aRR:∀ {xs:List β} {rows:List Value},rows.length=xs.length * eL.sz β->(∀ i d,xs[i]?=some d->(rows.drop (i * eL.sz β)).take (eL.sz β)=eL.enc d)->rows=flat xs
 |[],rows,hl,_=>by simpa [flat] using hl
 |x::xs,rows,hl,h=>by
  have h0:=h 0 x rfl
  simp only [Nat.zero_mul,List.drop_zero] at h0
  have hl':(rows.drop (eL.sz β)).length=xs.length * eL.sz β:=by
   simp only [List.length_drop,hl,List.length_cons,Nat.add_mul,Nat.one_mul];omega
  have ih:=aRR (xs:=xs) hl' (fun i d hd=>by
   have:=h (i+1) d (by simpa using hd)
   rw [Nat.add_mul,Nat.one_mul,Nat.add_comm,←List.drop_drop] at this
   exact this)
  have:rows=rows.take (eL.sz β)++rows.drop (eL.sz β):=(List.take_append_drop _ _).symm
  rw [this,h0,ih]
  simp [flat]
theorem aNC:∀ (xs:List β) (n:Nat),flat (xs.take n)=(flat xs).take (n * eL.sz β)
 |[],n=>by simp [flat]
 |x::xs,0=>by simp [flat]
 |x::xs,n+1=>by
  have:=aNC xs n
  simp only [flat,List.take_succ_cons,List.flatMap_cons] at *
  rw [this,List.take_append,eL.len,List.take_of_length_le (l:=eL.enc x) (by rw [eL.len,Nat.add_mul];omega),Nat.add_mul,Nat.one_mul,Nat.add_sub_cancel]
theorem aND:∀ (xs:List β) (n:Nat),flat (xs.drop n)=(flat xs).drop (n * eL.sz β)
 |[],n=>by simp [flat]
 |x::xs,0=>by simp [flat]
 |x::xs,n+1=>by
  have:=aND xs n
  simp only [flat,List.drop_succ_cons,List.flatMap_cons] at *
  rw [Nat.add_mul,Nat.one_mul,Nat.add_comm,←List.drop_drop,List.drop_left' (eL.len x),this]
theorem aEp {E:TypeId} {K:Hp} {a:Option Addr} {cap:Nat} {xs:List β} {g:Hp}:
  aP E K a cap xs g<->xs.length<=cap/\((a=none/\xs=[]/\cap=0)\/∃ (ad:Addr) (c:Array Value),a=some ad/\ad.spot=none/\g ad.block=some (.cells c E (0,0))/\ad.off+cap * eL.sz β<=c.size/\∀ t v,(flat xs)[t]?=some v->c[ad.off+t]?=some v):=by
 constructor
 ·rintro ⟨h1,h|⟨ad,c,rows,e,s,hb,hc,hl,hr,hel⟩⟩
  ·exact ⟨h1,.inl h⟩
  ·have:rows=flat xs:=aRR hl hel
   subst this
   exact ⟨h1,.inr ⟨ad,c,e,s,hb,hc,hr⟩⟩
 ·rintro ⟨h1,h|⟨ad,c,e,s,hb,hc,hr⟩⟩
  ·exact ⟨h1,.inl h⟩
  ·exact ⟨h1,.inr ⟨ad,c,flat xs,e,s,hb,hc,vZ xs,hr,fun i d hd=>aLl hd⟩⟩
structure Cut (sz:Nat) (a:Option Addr) (cap:Nat) (lo:Int) (a':Option Addr) (c':Nat):Prop where
 at_:a'=if cap=lo.toNat then a else a.map (·.add (lo.toNat * sz))
 cap_:c'=cap - lo.toNat
theorem aP.cut {E:TypeId} {K:Hp} {a a':Option Addr} {cap c':Nat} {lo hi:Int} {xs r:List β} {g:Hp} (ho:aP E K a cap xs g) (hc:slc xs lo hi=some r) (hx:Cut (eL.sz β) a cap lo a' c'):aP E K a' c' r g:=by
 obtain ⟨h0,h1,h2,rfl⟩:=aIv hc
 obtain ⟨rfl,rfl⟩:=hx
 rw [aEp] at ho ⊢
 obtain ⟨hcap,ho⟩:=ho
 have hlen:((xs.drop lo.toNat).take (hi.toNat - lo.toNat)).length=hi.toNat - lo.toNat:=by simp;omega
 refine ⟨by rw [hlen];omega,?_⟩
 rcases ho with ⟨rfl,rfl,rfl⟩|⟨ad,c,rfl,sp,hb,hcs,hr⟩
 ·left
  refine ⟨by simp,by simp,by simp⟩
 ·right
  by_cases he:cap=lo.toNat
  ·rw [if_pos he]
   refine ⟨ad,c,rfl,sp,hb,?_,fun t v ht=>?_⟩
   ·have:(cap - lo.toNat)=0:=by omega
    rw [this,Nat.zero_mul]
    have:=Nat.le_trans (Nat.le_add_right _ _) hcs
    omega
   ·have:(xs.drop lo.toNat).take (hi.toNat - lo.toNat)=[]:=by apply List.eq_nil_of_length_eq_zero;rw [hlen];omega
    rw [this] at ht;simp [flat] at ht
  ·rw [if_neg he]
   obtain ⟨b,o,s⟩:=ad
   simp only at sp hb hcs hr
   subst sp
   refine ⟨⟨b,o+lo.toNat * eL.sz β,none⟩,c,by simp [oD],rfl,hb,?_,fun t v ht=>?_⟩
   ·have:(lo.toNat+(cap - lo.toNat)) * eL.sz β=cap * eL.sz β:=by congr 1;omega
    rw [Nat.add_mul] at this
    simp only;omega
   ·rw [aNC,aND] at ht
    have hlt:t < (hi.toNat - lo.toNat) * eL.sz β:=by
     have:=(List.getElem?_eq_some_iff.1 ht).1
     simp only [List.length_take] at this;omega
    rw [List.getElem?_take_of_lt hlt,List.getElem?_drop] at ht
    have:=hr _ _ ht
    rw [←this];congr 1;simp only;omega
variable {P:Program} {n:Nat} {ops:Array Oper} {rest:List Oper} {Q:nW} {f:Nat->Value} {w:World}
variable {d:Nat} {x y z:Operand} {ty:TypeId} {pos:String} {af:Array Edge}
variable {G:nX} {K:Hp} {L:List fJ}
theorem aHc {E:TypeId} {Ke:Hp} {i:Nat} {a:Option Addr} {cap:Nat} {xs:List β} (hs:aF G K L w) (hi:L[i]?=some (aP E Ke a cap xs)):xs.length<=cap:=by
 obtain ⟨h1,hA,_⟩:=hs.entry hi
 exact hA.1
theorem aF.cutP {E:TypeId} {Ke:Hp} {i:Nat} {a a':Option Addr} {cap c':Nat} {lo hi:Int} {xs r:List β} (hs:aF G K L w) (hi':L[i]?=some (aP E Ke a cap xs)) (hc:slc xs lo hi=some r) (hx:Cut (eL.sz β) a cap lo a' c'):aF G K (L.set i (aP E Ke a' c' r)) w:=
 hs.weak hi' (fun _ h=>h.cut hc hx)
theorem Cut.lies {sz:Nat} {a a':Option Addr} {cap c':Nat} {lo:Int} (hc:Cut sz a cap lo a' c') (ha:Lies a):Lies a':=by
 obtain ⟨ad,rfl,s⟩:=ha
 obtain ⟨rfl,_⟩:=hc
 split
 ·exact ⟨ad,rfl,s⟩
 ·obtain ⟨b,o,s'⟩:=ad
  simp only at s;subst s
  exact ⟨⟨b,o+lo.toNat * sz,none⟩,by simp [oD],rfl⟩
theorem aRS {α:Type} [El α] {T E:TypeId} {sz:Nat} {a a':Option Addr} {len cap c':Nat} {xs r:List α} {lo hi j m:Int} {e:α} (hT:SLT P T E sz) (ha:Lies a) (hx':Cut sz a cap lo a' c') (hc:slc xs lo hi=some r) (hcap:xs.length<=cap)
  (hx:ev f x=.slice a' len c') (hl:len=r.length) (hy:ev f y=i64 j) (hj:ix r j=some e) (hm:m=lo+j):
  (execOp (ev f) ⟨some d,.indexAddr T x y,ty,pos,af,none⟩).run P w=.ok (.value (dS a (m.toNat * sz+0))) w:=by
 obtain ⟨h0,h1,h2⟩:=aCX hj
 obtain ⟨g0,g1,g2,rfl⟩:=aIv hc
 have ha':=hx'.lies ha
 obtain ⟨ad,rfl,s⟩:=ha
 obtain ⟨rfl,rfl⟩:=hx'
 have hlen:((xs.drop lo.toNat).take (hi.toNat - lo.toNat)).length=hi.toNat - lo.toNat:=by simp;omega
 have hne:¬ cap=lo.toNat:=by rw [hlen] at h1;omega
 subst hl;subst hm
 obtain ⟨b,o,s'⟩:=ad
 simp only at s;subst s
 have e1:(if cap=lo.toNat then some (⟨b,o,none⟩:Addr) else (some (⟨b,o,none⟩:Addr)).map (·.add (lo.toNat * sz)))=some ⟨b,o+lo.toNat * sz,none⟩:=by
  rw [if_neg hne];simp [oD]
 rw [e1] at hx
 have e2:(lo+j).toNat=lo.toNat+j.toNat:=by omega
 simp only [execOp,hx,hy,Sem.run_bind]
 rw [aFl (w:=w) (ad:=⟨b,o+lo.toNat * sz,none⟩) hT rfl h0 h1]
 simp [dS,e2,Nat.add_mul,Nat.add_assoc]
theorem aF.putEls {E:TypeId} {Ke:Hp} {i lo b off:Nat} {cap:Nat} {xs ys:List β} {c:Array Value} (hs:aF G K L w) (hi:L[i]?=some (aP E Ke (some ⟨b,off,none⟩) cap xs)) (hfit:lo+ys.length<=xs.length) (hw:w.heap[b]?=some (.cells c E (0,0))):
  off+lo * eL.sz β+(flat ys).length<=c.size/\aF G K (L.set i (aP E Ke (some ⟨b,off,none⟩) cap (xs.take lo++ys++xs.drop (lo+ys.length)))) (w.setRow b (c.toList.take (off+lo * eL.sz β)++flat ys++c.toList.drop (off+lo * eL.sz β+(flat ys).length)).toArray):=by
 obtain ⟨h1,hA,hle,hdj,ch⟩:=hs.change hi
 rw [aEp] at hA
 obtain ⟨hcap,hA⟩:=hA
 rcases hA with ⟨h,_⟩|⟨ad,c',e,sp,hb,hcs,hr⟩
 ·cases h
 cases e
 simp only at hb hcs hr
 have hcc:c'=c:=by
  have:=hle _ _ hb
  unfold hp at this
  rw [hw] at this;cases this;rfl
 subst hcc
 have hfl:=vZ ys
 have hxl:=vZ xs
 have k1:lo * eL.sz β+(flat ys).length<=(flat xs).length:=by
  rw [hfl,hxl,←Nat.add_mul];exact Nat.mul_le_mul_right _ hfit
 have k2:(flat xs).length<=cap * eL.sz β:=by rw [hxl];exact Nat.mul_le_mul_right _ hcap
 refine ⟨by omega,ch _ _ (Hp.one b (.cells (c'.toList.take (off+lo * eL.sz β)++flat ys++c'.toList.drop (off+lo * eL.sz β+(flat ys).length)).toArray E (0,0))) (aOR.refl _) ?_ ?_ ?_ ?_⟩
 ·intro k o hk ho
  have hne:k≠b:=by intro e;subst e;rw [hb] at hk;cases hk
  unfold hp at *
  rw [setRow_other w b k _ hne];exact ho
 ·exact Hp.one_le (setRow_heap w b _ _ E _ hw)
 ·intro k
  by_cases hk:k=b
  ·subst hk;right;left;rw [hb];rfl
  ·left;simp [Hp.one,hk]
 ·rw [aEp]
  have hlen:(xs.take lo++ys++xs.drop (lo+ys.length)).length=xs.length:=by simp;omega
  refine ⟨by rw [hlen];exact hcap,.inr ⟨_,_,rfl,rfl,Hp.one_self _ _,?_,fun t v ht=>?_⟩⟩
  ·simp only [List.size_toArray,List.length_append,List.length_take,List.length_drop,Array.length_toList];omega
  ·have hd:(lo+ys.length) * eL.sz β=lo * eL.sz β+(flat ys).length:=by rw [hfl,Nat.add_mul]
   rw [aUe,aUe,aNC,aND,hd] at ht
   simp only [List.getElem?_toArray]
   have m1:min (lo * eL.sz β) (flat xs).length=lo * eL.sz β:=by omega
   have m2:min (off+lo * eL.sz β) c'.size=off+lo * eL.sz β:=by omega
   rw [List.append_assoc,List.getElem?_append] at ht ⊢
   simp only [List.length_take,Array.length_toList,m1,m2] at ht ⊢
   by_cases g1:t < lo * eL.sz β
   ·rw [if_pos g1,List.getElem?_take_of_lt g1] at ht
    rw [if_pos (by omega),List.getElem?_take_of_lt (by omega)]
    simpa using hr t v ht
   ·rw [if_neg g1,List.getElem?_append] at ht
    rw [if_neg (by omega),List.getElem?_append]
    have e1:off+t - (off+lo * eL.sz β)=t - lo * eL.sz β:=by omega
    rw [e1]
    by_cases g2:t - lo * eL.sz β < (flat ys).length
    ·rw [if_pos g2] at ht ⊢;exact ht
    ·rw [if_neg g2,List.getElem?_drop] at ht
     rw [if_neg g2,List.getElem?_drop]
     have:=hr _ v ht
     rw [←Array.getElem?_toList] at this
     rw [←this];congr 1;omega
theorem Cut.whole {sz:Nat} {a:Option Addr} {cap:Nat}:Cut sz a cap 0 a cap:=by
 refine ⟨?_,by simp⟩
 split
 ·rfl
 ·cases a with
  |none=>rfl
  |some ad=>simp [Addr.add]
theorem storeV {E:TypeId} {Ke:Hp} {i:Nat} {a a':Option Addr} {cap c':Nat} {lo:Int} {xs ys zz:List β} (hs:aF G K L w) (hi:L[i]?=some (aP E Ke a cap xs)) (hx:Cut (eL.sz β) a cap lo a' c') (hm:ovw xs lo ys=some zz) (hne:ys≠[]):
  ∃ ad w',a'=some ad/\(storeCells ad (flat ys)).run P w=.ok () w'/\aF G K (L.set i (aP E Ke a cap zz)) w':=by
 obtain ⟨h0,hfit,rfl⟩:=aPz hm
 have hpos:0 < ys.length:=List.length_pos_iff.2 hne
 have hcap:=aHc hs hi
 obtain ⟨h1,hA,hle,_⟩:=hs.entry hi
 rw [aEp] at hA
 obtain ⟨_,⟨_,rfl,_⟩|⟨ad,c,rfl,sp,hb,hcs,hr⟩⟩:=hA
 ·simp only [List.length_nil] at hfit;omega
 obtain ⟨b,o,s⟩:=ad
 simp only at sp hb hcs hr
 subst sp
 have hw:w.heap[b]?=some (.cells c E (0,0)):=hle _ _ hb
 obtain ⟨hsz,hs'⟩:=aF.putEls (lo:=lo.toNat) (ys:=ys) hs hi hfit hw
 obtain ⟨rfl,rfl⟩:=hx
 have hne':¬ cap=lo.toNat:=by omega
 rw [if_neg hne']
 refine ⟨⟨b,o+lo.toNat * eL.sz β,none⟩,_,by simp [oD],?_,hs'⟩
 have hr:=run_storeCells_at P b (o+lo.toNat * eL.sz β) E (flat ys) 0 c w hw (by omega) (flat_one ys)
 simpa using hr
theorem aPJ {z:β} {zv:Array Value} (hz:zv=(eL.enc z).toArray) (n:Nat):(Builtin.zeroCells zv n).toList=flat (List.replicate n z):=by
 subst hz
 have hp:=eL.pos (α:=β)
 apply List.ext_getElem?
 intro t
 have hsz:(eL.enc z).length=eL.sz β:=eL.len z
 simp only [Builtin.zeroCells,Array.toList_map,List.getElem?_map,Array.toList_range,List.size_toArray,hsz]
 by_cases ht:t < n * eL.sz β
 ·rw [List.getElem?_range ht]
  have hq:t / eL.sz β < n:=Nat.div_lt_of_lt_mul (by rw [Nat.mul_comm];exact ht)
  have hlt:t % eL.sz β < eL.sz β:=Nat.mod_lt _ hp
  have hc:=aLl (xs:=List.replicate n z) (i:=t / eL.sz β) (d:=z) (by simp [hq])
  have he:t / eL.sz β * eL.sz β+t % eL.sz β=t:=Nat.div_add_mod' t _
  have:(flat (List.replicate n z))[t]?=(eL.enc z)[t % eL.sz β]?:=by
   rw [←hc,List.getElem?_take_of_lt hlt,List.getElem?_drop,he]
  rw [this]
  have hlt':t % eL.sz β < (eL.enc z).length:=by omega
  simp [hlt',getElem!_def]
 ·rw [List.getElem?_eq_none (by simpa using ht),List.getElem?_eq_none]
  ·rfl
  ·rw [vZ];simpa using ht
theorem aRT {T E E':TypeId} {sz i:Nat} {zs:List Value} {Ke:Hp} {a a':Option Addr} {cap c' len m:Nat} {lo:Int} {xs zz:List β} {z:β} (hT:SLT P T E sz) (hE:EZ P E zs) (hz:zs=eL.enc z) (hs:aF G K L w) (hi:L[i]?=some (aP E' Ke a cap xs)) (hx':Cut (eL.sz β) a cap lo a' c')
  (hx:ev f x=.slice a' len c') (hl:len=m) (hm:ovw xs lo (List.replicate m z)=some zz)
  (h:∀ w',aF G K (L.set i (aP E' Ke a cap zz)) w'->WO P n ops rest Q f w'):WO P n ops (⟨none,.call ⟨.builtin .clear,#[x],#[T]⟩,ty,pos,af,none⟩::rest) Q f w:=by
 subst hl
 obtain ⟨zv,hzv,hzc⟩:=hE.zero
 by_cases hn:len=0
 ·subst hn
  obtain ⟨h0,_,rfl⟩:=aPz hm
  simp only [List.replicate_zero,List.append_nil,List.length_nil,Nat.add_zero,List.take_append_drop] at h
  refine aFS (o:=⟨none,.call ⟨.builtin .clear,#[x],#[T]⟩,ty,pos,af,none⟩) rfl (w':=w) (v:=.tuple #[]) ?_ (h w ?_)
  ·cases a'<;>simp [execOp,resolve,invoke,builtin,hx,Builtin.clear_,hT.un]
  ·have hil:i < L.length:=(List.getElem?_eq_some_iff.1 hi).1
   rw [aEo hi];exact hs
 ·obtain ⟨ad,w',rfl,hr,hs'⟩:=storeV (P:=P) hs hi hx' hm (by simp [hn])
  refine aFS (o:=⟨none,.call ⟨.builtin .clear,#[x],#[T]⟩,ty,pos,af,none⟩) rfl (w':=w') (v:=.tuple #[]) ?_ (h w' hs')
  have hzf:=aPJ (z:=z) (zv:=zv.cells) (by rw [hzc,hz]) len
  obtain ⟨k,rfl⟩:∃ k,len=k+1:=⟨len - 1,by omega⟩
  simp only [execOp,resolve,invoke,builtin,Sem.run_bind,Sem.run_pure,Result.andThen_ok,List.map_toArray,List.map_cons,List.map_nil,hx,Builtin.clear_,hT.un]
  simp [hT.un,hzv,hzf,hr]
theorem aUf (k:Nat) {T E:TypeId} {sz:Nat} {a:Option Addr} {n c:Nat} (hT:SLT P T E sz):(Op.equalIn (k+1) T (.slice a n c) (.slice none 0 0)).run P w=.ok a.isNone w:=by
 cases a<;>simp [Op.equalIn,hT.un]
theorem R_isNil {T E:TypeId} {sz:Nat} {U:TypeId} {a:Option Addr} {n c:Nat} (hT:SLT P T E sz) (hx:ev f x=.slice a n c) (hy:ev f y=.slice none 0 0):
  (execOp (ev f) ⟨some d,.binOp .eql T x y U,ty,pos,af,none⟩).run P w=.ok (.value (.bool a.isNone)) w:=by
 have h:(Op.equal T (.slice a n c) (.slice none 0 0)).run P w=.ok a.isNone w:=aUf 9999 hT
 simp only [execOp,hx,hy,Sem.run_bind,eqGuard,binOp]
 simp [h,bne]
theorem nil_cases {α:Type} [El α] {a:Option Addr} {c:Nat} {xs:List α} (hr:bK K a c xs):(a=none/\xs=[]/\c=0)\/(a.isNone=false):=by
 cases a with
 |none=>exact .inl ⟨rfl,hr.nil rfl⟩
 |some _=>exact .inr rfl
theorem Cut.ex (sz:Nat) (a:Option Addr) (cap:Nat) (lo:Int):∃ a' c',Cut sz a cap lo a' c':=⟨_,_,⟨rfl,rfl⟩⟩
section
variable {α:Type} [El α]
theorem bK.cut' {a a':Option Addr} {cap c':Nat} {lo hi:Int} {xs r:List α} (hr:bK K a cap xs) (hc:slc xs lo hi=some r) (hx:Cut (El.sz α) a cap lo a' c'):bK K a' c' r:=by
 obtain ⟨rfl,rfl⟩:=hx
 exact hr.cut (m:=0) hc
theorem aPK {T E:TypeId} {sz:Nat} {a a':Option Addr} {len cap c':Nat} {xs r:List α} {lo:Int} (hT:SLT P T E sz) (hcap:xs.length<=cap) (hx':Cut sz a cap lo a' c') (hx:ev f x=.slice a len cap) (hl:ev f y=i64 lo) (hlen:len=xs.length) (hc:slc xs lo (xs.length:Int)=some r):
  (execOp (ev f) ⟨some d,.slice T x (some y) none none,ty,pos,af,none⟩).run P w=.ok (.value (.slice a' r.length c')) w:=by
 subst hlen
 obtain ⟨rfl,rfl⟩:=hx'
 have h1:=run_slR (P:=P) (w:=w) (a:=a) hT hcap hc (.inl rfl) (.inr ⟨rfl,rfl⟩)
 simp only [execOp,hx,hl,Option.map_some,Option.map_none,Sem.run_bind,aRK hT,h1];simp
theorem R_slVH {T E:TypeId} {sz:Nat} {a a':Option Addr} {len cap c':Nat} {xs r:List α} {hi:Int} (hT:SLT P T E sz) (hcap:xs.length<=cap) (hx':Cut sz a cap 0 a' c') (hx:ev f x=.slice a len cap) (hh:ev f z=i64 hi) (hlen:len=xs.length) (hc:slc xs 0 hi=some r):
  (execOp (ev f) ⟨some d,.slice T x none (some z) none,ty,pos,af,none⟩).run P w=.ok (.value (.slice a' r.length c')) w:=by
 subst hlen
 obtain ⟨rfl,rfl⟩:=hx'
 have h1:=run_slR (P:=P) (w:=w) (a:=a) hT hcap hc (.inr ⟨rfl,rfl⟩) (.inl rfl)
 simp only [execOp,hx,hh,Option.map_some,Option.map_none,Sem.run_bind,aRK hT,h1];simp
end
end
end Gv
