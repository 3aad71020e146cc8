/- Owned slices of plain data as rows of cells; parts of them; clear, copy. No program in sight. -/
import Derived.Test.YthbfapccpmppoaaGreatDoorJY
set_option linter.all false
namespace Gv
open Go
section
variable {β:Type} [iQ β]
def flat (xs:List β):List Value:=xs.flatMap iQ.enc
theorem aPY:∀ xs:List β,(flat xs).length=xs.length * iQ.sz β
 |[]=>by simp [flat]
 |x::xs=>by
  have:=aPY xs
  simp only [flat,List.flatMap_cons,List.length_append,List.length_cons,iQ.len] at *
  rw [this,Nat.add_mul,Nat.one_mul,Nat.add_comm]
theorem aMf:∀ {xs:List β} {i:Nat} {d:β},xs[i]?=some d->((flat xs).drop (i * iQ.sz β)).take (iQ.sz β)=iQ.enc d
 |[],_,_,h=>by simp at h
 |x::xs,0,d,h=>by
  simp at h;subst h
  simp only [flat,List.flatMap_cons,Nat.zero_mul,List.drop_zero]
  rw [List.take_append_of_le_length (by rw [iQ.len];exact Nat.le_refl _),List.take_of_length_le (by rw [iQ.len];exact Nat.le_refl _)]
 |x::xs,i+1,d,h=>by
  have:=aMf (i:=i) (d:=d) (xs:=xs) (by simpa using h)
  simp only [flat,List.flatMap_cons] at *
  rw [Nat.add_mul,Nat.one_mul,Nat.add_comm,←List.drop_drop,List.drop_left' (iQ.len x)]
  exact this
theorem aOt:∀ {xs:List β} {rows:List Value},rows.length=xs.length * iQ.sz β->(∀ i d,xs[i]?=some d->(rows.drop (i * iQ.sz β)).take (iQ.sz β)=iQ.enc d)->rows=flat xs
 |[],rows,hl,_=>by simpa [flat] using hl
 |x::xs,rows,hl,h=>by
  have h0:=h 0 x rfl
  simp only [Nat.zero_mul,List.drop_zero] at h0
  have hl':(rows.drop (iQ.sz β)).length=xs.length * iQ.sz β:=by
   simp only [List.length_drop,hl,List.length_cons,Nat.add_mul,Nat.one_mul];omega
  have ih:=aOt (xs:=xs) hl' (fun i d hd=>by
   have:=h (i+1) d (by simpa using hd)
   rw [Nat.add_mul,Nat.one_mul,Nat.add_comm,←List.drop_drop] at this
   exact this)
  have:rows=rows.take (iQ.sz β)++rows.drop (iQ.sz β):=(List.take_append_drop _ _).symm
  rw [this,h0,ih]
  simp [flat]
theorem aOu:∀ (xs:List β) (n:Nat),flat (xs.take n)=(flat xs).take (n * iQ.sz β)
 |[],n=>by simp [flat]
 |x::xs,0=>by simp [flat]
 |x::xs,n+1=>by
  have:=aOu xs n
  simp only [flat,List.take_succ_cons,List.flatMap_cons] at *
  rw [this,List.take_append,iQ.len,List.take_of_length_le (l:=iQ.enc x) (by rw [iQ.len,Nat.add_mul];omega),Nat.add_mul,Nat.one_mul,Nat.add_sub_cancel]
theorem aOv:∀ (xs:List β) (n:Nat),flat (xs.drop n)=(flat xs).drop (n * iQ.sz β)
 |[],n=>by simp [flat]
 |x::xs,0=>by simp [flat]
 |x::xs,n+1=>by
  have:=aOv xs n
  simp only [flat,List.drop_succ_cons,List.flatMap_cons] at *
  rw [Nat.add_mul,Nat.one_mul,Nat.add_comm,←List.drop_drop,List.drop_left' (iQ.len x),this]
theorem own_flat {E:TypeId} {K:Hp} {a:Option Addr} {cap:Nat} {xs:List β} {g:Hp}:
  aV E K a cap xs g<->xs.length<=cap/\((a=none/\xs=[]/\cap=0)\/∃ (ad:Addr) (c:Array Value),a=some ad/\ad.spot=none/\g ad.block=some (.cells c E (0,0))/\ad.off+cap * iQ.sz β<=c.size/\∀ t v,(flat xs)[t]?=some v->c[ad.off+t]?=some v):=by
 constructor
 ·rintro ⟨h1,h|⟨ad,c,rows,e,s,hb,hc,hl,hr,hel⟩⟩
  ·exact ⟨h1,.inl h⟩
  ·have:rows=flat xs:=aOt hl hel
   subst this
   exact ⟨h1,.inr ⟨ad,c,e,s,hb,hc,hr⟩⟩
 ·rintro ⟨h1,h|⟨ad,c,e,s,hb,hc,hr⟩⟩
  ·exact ⟨h1,.inl h⟩
  ·exact ⟨h1,.inr ⟨ad,c,flat xs,e,s,hb,hc,aPY xs,hr,fun i d hd=>aMf hd⟩⟩
structure Cut (sz:Nat) (a:Option Addr) (cap:Nat) (lo:Int) (a':Option Addr) (c':Nat):Prop where
 at_:a'=if cap=lo.toNat then a else a.map (·.add (lo.toNat * sz))
 cap_:c'=cap - lo.toNat
theorem aV.cut {E:TypeId} {K:Hp} {a a':Option Addr} {cap c':Nat} {lo hi:Int} {xs r:List β} {g:Hp} (ho:aV E K a cap xs g) (hc:slc xs lo hi=some r) (hx:Cut (iQ.sz β) a cap lo a' c'):aV E K a' c' r g:=by
 obtain ⟨h0,h1,h2,rfl⟩:=aIQ hc
 obtain ⟨rfl,rfl⟩:=hx
 rw [own_flat] at ho ⊢
 obtain ⟨hcap,ho⟩:=ho
 have hlen:((xs.drop lo.toNat).take (hi.toNat - lo.toNat)).length=hi.toNat - lo.toNat:=by simp;omega
 refine ⟨by rw [hlen];omega,?_⟩
 rcases ho with ⟨rfl,rfl,rfl⟩|⟨ad,c,rfl,sp,hb,hcs,hr⟩
 ·left
  refine ⟨by simp,by simp,by simp⟩
 ·right
  by_cases he:cap=lo.toNat
  ·rw [if_pos he]
   refine ⟨ad,c,rfl,sp,hb,?_,fun t v ht=>?_⟩
   ·have:(cap - lo.toNat)=0:=by omega
    rw [this,Nat.zero_mul]
    have:=Nat.le_trans (Nat.le_add_right _ _) hcs
    omega
   ·have:(xs.drop lo.toNat).take (hi.toNat - lo.toNat)=[]:=by apply List.eq_nil_of_length_eq_zero;rw [hlen];omega
    rw [this] at ht;simp [flat] at ht
  ·rw [if_neg he]
   obtain ⟨b,o,s⟩:=ad
   simp only at sp hb hcs hr
   subst sp
   refine ⟨⟨b,o+lo.toNat * iQ.sz β,none⟩,c,by simp [mM],rfl,hb,?_,fun t v ht=>?_⟩
   ·have:(lo.toNat+(cap - lo.toNat)) * iQ.sz β=cap * iQ.sz β:=by congr 1;omega
    rw [Nat.add_mul] at this
    simp only;omega
   ·rw [aOu,aOv] at ht
    have hlt:t < (hi.toNat - lo.toNat) * iQ.sz β:=by
     have:=(List.getElem?_eq_some_iff.1 ht).1
     simp only [List.length_take] at this;omega
    rw [List.getElem?_take_of_lt hlt,List.getElem?_drop] at ht
    have:=hr _ _ ht
    rw [←this];congr 1;simp only;omega
variable {P:Program} {n:Nat} {ops:Array Oper} {rest:List Oper} {Q:lI} {f:Nat->Value} {w:World}
variable {d:Nat} {x y z:Operand} {ty:TypeId} {pos:String} {af:Array Edge}
variable {G:kH} {K:Hp} {L:List eW}
theorem pN {E:TypeId} {Ke:Hp} {i:Nat} {a:Option Addr} {cap:Nat} {xs:List β} (hs:aF G K L w) (hi:L[i]?=some (aV E Ke a cap xs)):xs.length<=cap:=by
 obtain ⟨h1,hA,_⟩:=hs.entry hi
 exact hA.1
theorem aF.cutP {E:TypeId} {Ke:Hp} {i:Nat} {a a':Option Addr} {cap c':Nat} {lo hi:Int} {xs r:List β} (hs:aF G K L w) (hi':L[i]?=some (aV E Ke a cap xs)) (hc:slc xs lo hi=some r) (hx:Cut (iQ.sz β) a cap lo a' c'):aF G K (L.set i (aV E Ke a' c' r)) w:=
 hs.weak hi' (fun _ h=>h.cut hc hx)
theorem Cut.whole {sz:Nat} {a:Option Addr} {cap:Nat}:Cut sz a cap 0 a cap:=by
 refine ⟨?_,by simp⟩
 split
 ·rfl
 ·cases a with
  |none=>rfl
  |some ad=>simp [Addr.add]
theorem Cut.ex (sz:Nat) (a:Option Addr) (cap:Nat) (lo:Int):∃ a' c',Cut sz a cap lo a' c':=⟨_,_,⟨rfl,rfl⟩⟩
section
variable {α:Type} [El α]
theorem aW.cut' {a a':Option Addr} {cap c':Nat} {lo hi:Int} {xs r:List α} (hr:aW K a cap xs) (hc:slc xs lo hi=some r) (hx:Cut (El.sz α) a cap lo a' c'):aW K a' c' r:=by
 obtain ⟨rfl,rfl⟩:=hx
 exact hr.cut (m:=0) hc
theorem aMg {T E:TypeId} {sz:Nat} {a a':Option Addr} {len cap c':Nat} {xs r:List α} {lo:Int} (hT:SLT P T E sz) (hcap:xs.length<=cap) (hx':Cut sz a cap lo a' c') (hx:ev f x=.slice a len cap) (hl:ev f y=i64 lo) (hlen:len=xs.length) (hc:slc xs lo (xs.length:Int)=some r):
  (execOp (ev f) ⟨some d,.slice T x (some y) none none,ty,pos,af,none⟩).run P w=.ok (.value (.slice a' r.length c')) w:=by
 subst hlen
 obtain ⟨rfl,rfl⟩:=hx'
 have h1:=run_slR (P:=P) (w:=w) (a:=a) hT hcap hc (.inl rfl) (.inr ⟨rfl,rfl⟩)
 simp only [execOp,hx,hl,Option.map_some,Option.map_none,Sem.run_bind,aOn hT,h1];simp
theorem uI {T E:TypeId} {sz:Nat} {a a':Option Addr} {len cap c':Nat} {xs r:List α} {hi:Int} (hT:SLT P T E sz) (hcap:xs.length<=cap) (hx':Cut sz a cap 0 a' c') (hx:ev f x=.slice a len cap) (hh:ev f z=i64 hi) (hlen:len=xs.length) (hc:slc xs 0 hi=some r):
  (execOp (ev f) ⟨some d,.slice T x none (some z) none,ty,pos,af,none⟩).run P w=.ok (.value (.slice a' r.length c')) w:=by
 subst hlen
 obtain ⟨rfl,rfl⟩:=hx'
 have h1:=run_slR (P:=P) (w:=w) (a:=a) hT hcap hc (.inr ⟨rfl,rfl⟩) (.inl rfl)
 simp only [execOp,hx,hh,Option.map_some,Option.map_none,Sem.run_bind,aOn hT,h1];simp
end
end
end Gv
namespace Gv
open Go
structure ART (P:Program) (T E:TypeId) (n:Nat):Prop where
 un:∀ w,(underlying T).run P w=.ok (.array n E) w
 agg:∀ w,(isAgg E).run P w=.ok false w
 size:∀ w,(Go.sizeOf E).run P w=.ok 1 w
section
variable {P:Program} {f:Nat->Value} {w:World} {d:Nat} {x y:Operand} {ty:TypeId} {pos:String} {af:Array Go.Edge}
theorem R_ixP {T E:TypeId} {n b t t':Nat} {j:Int} (hT:ART P T E n) (hx:ev f x=.pointer (some ⟨b,t,none⟩)) (hy:ev f y=i64 j) (h0:0<=j) (h1:j < (n:Int)) (hk:t+j.toNat=t'):
  (execOp (ev f) ⟨some d,.indexAddr T x y,ty,pos,af,none⟩).run P w=.ok (.value (.pointer (some ⟨b,t',none⟩))) w:=by
 subst hk
 have hj:0<=j/\j < (n:Int):=⟨h0,h1⟩
 simp [execOp,hx,hy,Instr.indexAt,i64,asIntOf,hT.un,hT.size,hj,mM,Instr.sureAddr]
end
instance:iQ (Int × Int) where
 sz:=2
 enc p:=[i64 p.1,i64 p.2]
 len _:=rfl
 one _ v h:=by simp at h;rcases h with rfl|rfl<;>rfl
 pos:=by decide
instance:iQ (Int × Int × Int) where
 sz:=3
 enc p:=[i64 p.1,i64 p.2.1,i64 p.2.2]
 len _:=rfl
 one _ v h:=by simp at h;rcases h with rfl|rfl|rfl<;>rfl
 pos:=by decide
end Gv
namespace Gv
open Go
section
variable {P:Program} {f:Nat->Value} {w:World} {d:Nat} {x y:Operand} {ty:TypeId} {pos:String} {af:Array Go.Edge} {β:Type} {tab:List β} {j:Int} {e:β} {g:Nat}
theorem R_ixT {T E:TypeId} {n:Nat} (hT:ART P T E n) (hl:tab.length=n) (hy:ev f y=i64 j) (hj:ix tab j=some e):
  (execOp (ev f) ⟨some d,.indexAddr T (.global g) y,ty,pos,af,none⟩).run P w=.ok (.value (.pointer (some ⟨g,j.toNat,none⟩))) w:=by
 obtain ⟨h0,h1,_⟩:=aAO hj
 exact R_ixP (t:=0) (t':=j.toNat) hT rfl hy h0 (by omega) (by omega)
theorem R_ldT {T:TypeId} {F:β->Value} (hT:SC P T) (hc:∃ E fr,w.heap[g]?=some (.cells (tab.map F).toArray E fr)) (hj:ix tab j=some e) (hx:ev f x=.pointer (some ⟨g,j.toNat,none⟩)):
  (execOp (ev f) ⟨some d,.load T x,ty,pos,af,none⟩).run P w=.ok (.value (F e)) w:=by
 obtain ⟨E,fr,hc⟩:=hc
 obtain ⟨h0,h1,h2⟩:=aAO hj
 have hw:w.cell? ⟨g,j.toNat,none⟩=some (F e):=by
  unfold World.cell?
  simp only [hc]
  simp [h2]
 simp only [execOp,hx,Sem.run_bind,aBL hT hw];simp
end
end Gv
