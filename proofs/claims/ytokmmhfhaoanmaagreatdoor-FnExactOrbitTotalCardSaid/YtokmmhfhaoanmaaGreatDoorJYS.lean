/- Bound arguments; rows that are taken or put; maps that may be nil; ways out of loops over maps. No program in sight. -/
import Derived.Test.YtokmmhfhaoanmaaGreatDoorJYR
import Derived.Test.YtokmmhfhaoanmaaGreatDoorJLM
set_option linter.all false
namespace Gv
open Go
section
variable {P:Program} {n:Nat} {ops:Array Oper} {rest:List Oper} {Q:mZ} {f:Nat->Value} {w:World}
variable {d:Nat} {x y z:Operand} {ty:TypeId} {pos:String} {af:Array Go.Edge}
variable {G:mL} {K:Hp} {L:List eU}
end
section
variable {P:Program} {n:Nat} {ops:Array Oper} {rest:List Oper} {Q:mZ} {f:Nat->Value} {w:World}
variable {d:Nat} {x y z:Operand} {ty:TypeId} {pos:String} {af:Array Go.Edge}
variable {G:mL} {K:Hp} {L:List eU} {α:Type} [Dp α] {tys:List TypeId} {hds:List (Dp.Hd α)} {xs zz:List α}
end
section
variable {G:mL} {K:Hp} {L:List eU} {w:World} {β:Type} [dY β] {tys:List TypeId} {hds:List (Dp.Hd (List β))} {xs:List (List β)}
end
section
variable {P:Program} {n:Nat} {ops:Array Oper} {rest:List Oper} {Q:mZ} {f:Nat->Value} {w:World}
variable {d:Nat} {x y z:Operand} {ty:TypeId} {pos:String} {af:Array Go.Edge}
variable {G:mL} {K:Hp} {L:List eU} {α:Type} [Dp α] {tys:List TypeId} {hds:List (Dp.Hd α)} {xs r:List α}
end
section
variable {α:Type} [El α] {G:mL} {K:Hp} {L:List eU} {w:World}
theorem aJ.cutE {E:TypeId} {K:Hp} {a a':Option Addr} {cap c':Nat} {lo hi:Int} {xs r:List α} {g:Hp} (ho:aJ E K a cap xs g) (hc:slc xs lo hi=some r) (hx:Cut (El.sz α) a cap lo a' c'):aJ E K a' c' r g:=by
 obtain ⟨h0,h1,h2,rfl⟩:=aFH hc
 obtain ⟨rfl,rfl⟩:=hx
 obtain ⟨hcap,ho⟩:=ho
 have hlen:((xs.drop lo.toNat).take (hi.toNat - lo.toNat)).length=hi.toNat - lo.toNat:=by simp;omega
 refine ⟨by rw [hlen];omega,?_⟩
 rcases ho with ⟨rfl,rfl,rfl⟩|⟨ad,c,rs,rfl,sp,hb,hcs,hrl,hr,hel⟩
 ·left
  exact ⟨by simp,by simp,by simp⟩
 ·right
  by_cases he:cap=lo.toNat
  ·have hz:hi.toNat - lo.toNat=0:=by omega
   rw [if_pos he,hz]
   refine ⟨ad,c,[],rfl,sp,hb,?_,by simp,by simp,by simp⟩
   have:(cap - lo.toNat)=0:=by omega
   rw [this,Nat.zero_mul]
   have:=Nat.le_trans (Nat.le_add_right _ _) hcs
   omega
  ·rw [if_neg he]
   obtain ⟨b,o,s⟩:=ad
   simp only at sp hb hcs hr
   subst sp
   have hsz:lo.toNat * El.sz α+(hi.toNat - lo.toNat) * El.sz α<=xs.length * El.sz α:=by rw [←Nat.add_mul];exact Nat.mul_le_mul_right _ (by omega)
   refine ⟨⟨b,o+lo.toNat * El.sz α,none⟩,c,(rs.drop (lo.toNat * El.sz α)).take ((hi.toNat - lo.toNat) * El.sz α),by simp [mM],rfl,hb,?_,?_,fun t v ht=>?_,fun i d hd=>?_⟩
   ·have:(lo.toNat+(cap - lo.toNat)) * El.sz α=cap * El.sz α:=by congr 1;omega
    rw [Nat.add_mul] at this
    simp only;omega
   ·rw [hlen,List.length_take,List.length_drop,hrl];omega
   ·have hlt:t < (hi.toNat - lo.toNat) * El.sz α:=by
     have:=(List.getElem?_eq_some_iff.1 ht).1
     simp only [List.length_take] at this;omega
    rw [List.getElem?_take_of_lt hlt,List.getElem?_drop] at ht
    have:=hr _ _ ht
    rw [←this];congr 1;simp only;omega
   ·have hi':i < hi.toNat - lo.toNat:=by have:=(List.getElem?_eq_some_iff.1 hd).1;rw [hlen] at this;exact this
    rw [List.getElem?_take_of_lt hi',List.getElem?_drop] at hd
    have h4:=hel _ _ hd
    have h5:i * El.sz α+El.sz α<=(hi.toNat - lo.toNat) * El.sz α:=by rw [←Nat.succ_mul];exact Nat.mul_le_mul_right _ hi'
    rw [List.drop_take,List.take_take,List.drop_drop,Nat.min_eq_left (by omega),←Nat.add_mul]
    exact h4
theorem aPg {E:TypeId} {Ke:Hp} {i:Nat} {a:Option Addr} {cap:Nat} {xs:List α} (hs:aD G K L w) (hi:L[i]?=some (aJ E Ke a cap xs)):xs.length<=cap:=by
 obtain ⟨h1,hA,_⟩:=hs.entry hi
 exact hA.1
theorem aD.cutPE {E:TypeId} {Ke:Hp} {i:Nat} {a a':Option Addr} {cap c':Nat} {lo hi:Int} {xs r:List α} (hs:aD G K L w) (hi':L[i]?=some (aJ E Ke a cap xs)) (hc:slc xs lo hi=some r) (hx:Cut (El.sz α) a cap lo a' c'):aD G K (L.set i (aJ E Ke a' c' r)) w:=
 hs.weak hi' (fun _ h=>h.cutE hc hx)
end
section
variable {P:Program} {n:Nat} {ops:Array Oper} {rest:List Oper} {Q:mZ} {f:Nat->Value} {w:World}
variable {d:Nat} {x y z:Operand} {ty:TypeId} {pos:String} {af:Array Go.Edge}
variable {β:Type} [dY β] {G:mL} {K:Hp} {L:List eU}
end
section
variable {κ ν:Type} [DecidableEq κ] [Vl κ] [Vl ν] {G:mL} {K:Hp} {L:List eU} {w:World}
end
section
variable {κ:Type}
end
end Gv
namespace Gv
open Go
section
variable {β:Type} [dY β] {G:mL} {K Ke:Hp} {L:List eU} {w:World}
theorem aD.ex {γ:Type} {i:Nat} {A:eU} {B:γ->eU} {p:γ->Prop} (s:aD G K L w) (hi:L[i]?=some A) (h:∀ h1,A h1->∃ x,p x/\B x h1):∃ x,p x/\aD G K (L.set i (B x)) w:=by
 obtain ⟨e,g,gd,gl,d,k,l,r⟩:=s
 obtain ⟨h1,h2,a,dj,l1,l2,r'⟩:=r.pick hi
 obtain ⟨x,px,bx⟩:=h h1 a
 have hlt:i < L.length:=(List.getElem?_eq_some_iff.1 hi).1
 exact ⟨x,px,e,g,gd,gl,d,k,l,(fF.put bx dj r' hlt).le (Hp.un_le l1 l2)⟩
def HdR (Ke:Hp) (hds:List (Option Addr × Nat)) (xs:List (List β)):Prop:=hds.length=xs.length/\∀ (j:Nat) (hd:Option Addr × Nat) (x:List β),hds[j]?=some hd->xs[j]?=some x->aW Ke hd.1 hd.2 x
theorem HdR.mono {K':Hp} {hds:List (Option Addr × Nat)} {xs:List (List β)} (h:HdR Ke hds xs) (hk:Ke.le K'):HdR K' hds xs:=⟨h.1,fun j hd x h1 h2=>(h.2 j hd x h1 h2).mono hk⟩
theorem HdR.set {hds:List (Option Addr × Nat)} {xs:List (List β)} (h:HdR Ke hds xs) {j:Nat} {hd:Option Addr × Nat} {x:List β} (hx:aW Ke hd.1 hd.2 x):HdR Ke (hds.set j hd) (xs.set j x):=by
 refine ⟨by rw [List.length_set,List.length_set];exact h.1,fun k d y h1 h2=>?_⟩
 rw [List.getElem?_set] at h1 h2
 by_cases e:j=k
 ·subst e
  rw [if_pos rfl] at h1 h2
  split at h1
  ·split at h2
   ·cases h1;cases h2;exact hx
   ·cases h2
  ·cases h1
 ·rw [if_neg e] at h1 h2
  exact h.2 k d y h1 h2
theorem HdR.ovw {hds:List (Option Addr × Nat)} {xs:List (List β)} (h:HdR Ke hds xs) {lo m:Nat} (hm:lo+m<=xs.length):HdR Ke (hds.take lo++List.replicate m (none,0)++hds.drop (lo+m)) (xs.take lo++List.replicate m []++xs.drop (lo+m)):=by
 have hl:=h.1
 refine ⟨by simp only [List.length_append,List.length_take,List.length_replicate,List.length_drop];omega,fun k d y h1 h2=>?_⟩
 by_cases k1:k < lo
 ·rw [List.append_assoc,List.getElem?_append_left (by rw [List.length_take];omega),List.getElem?_take_of_lt k1] at h1 h2
  exact h.2 k d y h1 h2
 ·by_cases k2:k < lo+m
  ·rw [List.append_assoc,List.getElem?_append_right (by rw [List.length_take];omega),List.getElem?_append_left (by rw [List.length_take,List.length_replicate];omega),List.getElem?_replicate_of_lt (by rw [List.length_take];omega)] at h1 h2
   cases h1;cases h2
   exact wT _
  ·rw [List.getElem?_append_right (by simp only [List.length_append,List.length_take,List.length_replicate];omega),List.getElem?_drop] at h1 h2
   have e1:lo+m+(k - (hds.take lo++List.replicate m (none,0)).length)=k:=by simp only [List.length_append,List.length_take,List.length_replicate];omega
   have e2:lo+m+(k - (xs.take lo++List.replicate m []).length)=k:=by simp only [List.length_append,List.length_take,List.length_replicate];omega
   rw [e1] at h1
   rw [e2] at h2
   exact h.2 k d y h1 h2
variable {P:Program} {n:Nat} {ops:Array Oper} {rest:List Oper} {Q:mZ} {f:Nat->Value}
variable {d:Nat} {x y z:Operand} {ty:TypeId} {pos:String} {af:Array Go.Edge}
theorem aLA {γ:Type} {l:List γ} {i:Nat} {a b:γ} (h:l[i]?=some a):(l.set i b)[i]?=some b:=List.getElem?_set_self (List.getElem?_eq_some_iff.1 h).1
end
end Gv
namespace Gv
open Go
section
variable {P:Program} {w:World}
end
end Gv
namespace Gv
open Go
section
variable {P:Program} {f:Nat->Value} {w:World} {d:Nat} {x y:Operand} {ty:TypeId} {pos:String} {af:Array Go.Edge} {Ts:Array TypeId}
theorem R_minS {a b:aH} (hx:ev f x=str a) (hy:ev f y=str b):
  (execOp (ev f) ⟨some d,.call ⟨.builtin .min,#[x,y],Ts⟩,ty,pos,af,none⟩).run P w=.ok (.value (str (mnS a b))) w:=by
 cases h:(mW a b||a == b)<;>simp [execOp,resolve,invoke,builtin,Builtin.min_,Builtin.min2,hx,hy,str,mnS,Op.stringOp,nN,oR,asBool,h]
theorem R_maxS {a b:aH} (hx:ev f x=str a) (hy:ev f y=str b):
  (execOp (ev f) ⟨some d,.call ⟨.builtin .max,#[x,y],Ts⟩,ty,pos,af,none⟩).run P w=.ok (.value (str (mxS a b))) w:=by
 cases h:mW a b<;>simp [execOp,resolve,invoke,builtin,Builtin.max_,Builtin.max2,hx,hy,str,mxS,Op.stringOp,nN,oR,asBool,h]
end
end Gv
namespace Gv
open Go.Value renaming slice→zS
open Go
section
variable {α:Type} [El α] {G:mL} {K Ke:Hp} {L:List eU} {w:World} {n:Nat}
def RawR (Ke:Hp) (n:Nat) (cs:List (Cells n)) (xs:List α):Prop:=cs.length=xs.length/\∀ (j:Nat) (x:α),xs[j]?=some x->∃ c,cs[j]?=some c/\El.rd Ke c.val x
theorem RawR.at {cs:List (Cells n)} {xs:List α} (h:RawR Ke n cs xs) {j:Int} {e:α} (hj:ix xs j=some e):∃ l,(∃ c:Cells n,c.val=l/\ix cs j=some c)/\El.rd Ke l e:=by
 obtain ⟨h0,h1,h2⟩:=aBG hj
 obtain ⟨c,h3,h4⟩:=h.2 _ _ h2
 refine ⟨c.val,⟨c,rfl,?_⟩,h4⟩
 unfold ix
 rw [if_pos h0];exact h3
theorem raw_own (hz:El.sz α=n+1) {E:TypeId} {a:Option Addr} {cap:Nat} {xs:List α} {h:Hp} (o:aJ E Ke a cap xs h):∃ cs:List (Cells n),RawR Ke n cs xs/\aJ E Ke a cap cs h:=by
 obtain ⟨h1,h3⟩:=o
 rcases h3 with ⟨rfl,rfl,rfl⟩|⟨ad,c,rx,rfl,s,m,z,l,r1,r2⟩
 ·exact ⟨[],⟨rfl,fun j x h=>by simp at h⟩,Nat.le_refl _,.inl ⟨rfl,rfl,rfl⟩⟩
 ·have key:∀ i:Fin xs.length,∃ c:Cells n,(rx.drop (i.val * El.sz α)).take (El.sz α)=c.val/\El.rd Ke c.val xs[i]:=fun i=>by
   have r:=r2 i.val xs[i] (List.getElem?_eq_getElem i.isLt)
   exact ⟨⟨_,by rw [El.len r,hz],El.one r⟩,rfl,r⟩
  let f:Fin xs.length->Cells n:=fun i=>Classical.choose (key i)
  have hf:∀ i,(rx.drop (i.val * El.sz α)).take (El.sz α)=(f i).val/\El.rd Ke (f i).val xs[i]:=fun i=>Classical.choose_spec (key i)
  have hl:(List.ofFn f).length=xs.length:=List.length_ofFn
  have hg:∀ j (hj:j < xs.length),(List.ofFn f)[j]?=some (f ⟨j,hj⟩):=fun j hj=>by rw [List.getElem?_ofFn,dif_pos hj]
  have hsz:El.sz (Cells n)=El.sz α:=by rw [hz];rfl
  refine ⟨List.ofFn f,⟨hl,fun j x h5=>?_⟩,?_,.inr ⟨ad,c,rx,rfl,s,m,?_,?_,r1,fun i d hd=>?_⟩⟩
  ·obtain ⟨hj,rfl⟩:=List.getElem?_eq_some_iff.1 h5
   exact ⟨_,hg j hj,(hf ⟨j,hj⟩).2⟩
  ·rw [hl];exact h1
  ·rw [hsz];exact z
  ·rw [hl,hsz];exact l
  ·have hj:i < xs.length:=by
    have:=(List.getElem?_eq_some_iff.1 hd).1
    rwa [hl] at this
   rw [hg i hj] at hd
   cases hd
   rw [hsz]
   exact (hf ⟨i,hj⟩).1
theorem raw_back (hz:El.sz α=n+1) {E:TypeId} {a:Option Addr} {cap:Nat} {cs:List (Cells n)} {xs:List α} {Kb:Hp} {h:Hp} (hr:RawR Ke n cs xs) (o:aJ E Kb a cap cs h):aJ E Ke a cap xs h:=by
 obtain ⟨hl,hr⟩:=hr
 obtain ⟨h1,h3⟩:=o
 have hsz:El.sz (Cells n)=El.sz α:=by rw [hz];rfl
 rw [hl] at h1
 rcases h3 with ⟨rfl,h4,rfl⟩|⟨ad,c,rx,rfl,s,m,z,l,r1,r2⟩
 ·obtain rfl:xs=[]:=List.length_eq_zero_iff.1 (by omega)
  exact ⟨Nat.le_refl _,.inl ⟨rfl,rfl,rfl⟩⟩
 ·rw [hl,hsz] at l
  rw [hsz] at z
  refine ⟨h1,.inr ⟨ad,c,rx,rfl,s,m,z,l,r1,fun i d hd=>?_⟩⟩
  obtain ⟨c',hc,hr'⟩:=hr i d hd
  have:=r2 i c' hc
  rw [hsz] at this
  have e:(rx.drop (i * El.sz α)).take (El.sz α)=c'.val:=this
  rw [e];exact hr'
theorem aD.rawOpen (hz:El.sz α=n+1) {E:TypeId} {i:Nat} {a:Option Addr} {cap:Nat} {xs:List α} (s:aD G K L w) (hi:L[i]?=some (aJ E Ke a cap xs)):∃ cs:List (Cells n),RawR Ke n cs xs/\aD G K (L.set i (aJ E Ke a cap cs)) w:=
 aD.ex (B:=fun cs:List (Cells n)=>aJ E Ke a cap cs) s hi fun _ o=>raw_own hz o
theorem aD.rawClose (hz:El.sz α=n+1) {E:TypeId} {i:Nat} {a:Option Addr} {cap:Nat} {cs:List (Cells n)} {xs:List α} {Kb:Hp} (s:aD G K L w) (hi:L[i]?=some (aJ E Kb a cap cs)) (hr:RawR Ke n cs xs):aD G K (L.set i (aJ E Ke a cap xs)) w:=by
 obtain ⟨_,_,h⟩:=aD.ex (γ:=Unit) (p:=fun _=>True) (B:=fun _=>aJ E Ke a cap xs) s hi fun _ o=>⟨(),trivial,raw_back hz hr o⟩
 exact h
end
section
variable {P:Program} {f:Nat->Value} {d:Nat} {x:Operand} {ty:TypeId} {pos:String} {af:Array Go.Edge} {G:mL} {K:Hp} {L:List eU} {w:World}
end
section
variable {β:Type} [El β] {G:mL} {K Ke:Hp} {L:List eU} {w:World}
variable {P:Program} {n:Nat} {ops:Array Oper} {rest:List Oper} {Q:mZ} {f:Nat->Value}
variable {d:Nat} {x y z:Operand} {ty:TypeId} {pos:String} {af:Array Go.Edge}
theorem WO_stG {T E:TypeId} {a ra:Option Addr} {i cap kk rc:Nat} {j:Int} {xs zz:List (List β)} {e r:List β} (hT:∀ w,(Go.sizeOf T).run P w=.ok 1 w) (hs:aD G K L w) (hi:L[i]?=some (aJ E Ke a cap xs)) (hK:Ke.le K)
  (hx:ev f x=fL a kk) (hkk:kk=j.toNat * El.sz (List β)+0) (hy:ev f y=.slice ra r.length rc) (hj:ix xs j=some e) (hst:Gv.st xs j r=some zz) (hr:aW Ke ra rc r)
  (h:∀ w',aD G K (L.set i (aJ E Ke a cap zz)) w'->WO P n ops rest Q f w'):
  WO P n ops (⟨none,.store T x y,ty,pos,af,none⟩::rest) Q f w:=by
 obtain ⟨cs,hh,s1⟩:=aD.rawOpen (n:=0) (α:=List β) rfl hs hi
 obtain ⟨h0,h1,h2⟩:=aBG hj
 have hlt:j.toNat < cs.length:=by rw [hh.1];exact h1
 have hd:cs[j.toNat]?=some cs[j.toNat]:=List.getElem?_eq_getElem hlt
 have hc:ix cs j=some cs[j.toNat]:=by unfold ix;rw [if_pos h0];exact hd
 have hrd:El.rd Ke [zS ra r.length rc] r:=⟨ra,rc,rfl,hr⟩
 let e':Cells 0:=⟨[zS ra r.length rc],rfl,El.one hrd⟩
 have hz:Gv.st cs j e'=some (cs.set j.toNat e'):=by unfold Gv.st;rw [if_pos ⟨h0,hlt⟩]
 refine qU (α:=Cells 0) (i:=i) (t:=0) (m:=1) (ns:=[zS ra r.length rc]) (e:=cs[j.toNat]) (e':=e') hT s1 (aLA hi) hK hx hkk hy hc hz rfl rfl (fun u hu=>by simp at hu;subst hu;rfl) rfl (fun c0 hc0=>by
  have hl:c0.length=1:=El.len hc0
  have e1:c0.take 0++[zS ra r.length rc]++c0.drop (0+1)=[zS ra r.length rc]:=by rw [List.take_zero,List.nil_append,List.drop_of_length_le (by omega),List.append_nil]
  rw [e1];rfl) (fun w' s2=>h w' ?_)
 obtain ⟨_,_,rfl⟩:=aJu hst
 rw [List.set_set] at s2
 have s3:=s2.rawClose (n:=0) (α:=List β) (Ke:=Ke) (xs:=xs.set j.toNat r) rfl (aLA hi) ⟨by simp [hh.1],fun k x hk=>?_⟩
 ·rw [List.set_set] at s3
  exact s3
 ·by_cases hkj:j.toNat=k
  ·subst hkj
   rw [List.getElem?_set_self (by rw [←hh.1];exact hlt)] at hk
   cases hk
   exact ⟨e',List.getElem?_set_self hlt,hrd⟩
  ·rw [List.getElem?_set_ne hkj] at hk ⊢
   exact hh.2 k x hk
theorem ovw_at {γ:Type} {l r:List γ} {lo:Nat} (h:lo+r.length<=l.length) (j:Nat):(l.take lo++r++l.drop (lo+r.length))[j]?=if j < lo then l[j]? else if j < lo+r.length then r[j - lo]? else l[j]?:=by
 have hl:(l.take lo).length=lo:=by simp;omega
 by_cases h1:j < lo
 ·rw [if_pos h1,List.append_assoc,List.getElem?_append_left (by omega),List.getElem?_take_of_lt h1]
 ·rw [if_neg h1]
  by_cases h2:j < lo+r.length
  ·rw [if_pos h2,List.append_assoc,List.getElem?_append_right (by omega),List.getElem?_append_left (by omega),hl]
  ·rw [if_neg h2,List.getElem?_append_right (by rw [List.length_append];omega),List.getElem?_drop,List.length_append,hl]
   congr 1;omega
theorem WO_clearG {T E E':TypeId} {sz i:Nat} {zs:List Value} {a a':Option Addr} {cap c' len m:Nat} {lo:Int} {xs zz:List (List β)} (hT:yT P T E sz) (hE:EZ P E zs) (hz:zs=[zS none 0 0]) (hs:aD G K L w) (hi:L[i]?=some (aJ E' Ke a cap xs)) (hx':Cut (El.sz (List β)) a cap lo a' c')
  (hx:ev f x=.slice a' len c') (hl:len=m) (hm:ovw xs lo (List.replicate m [])=some zz)
  (h:∀ w',aD G K (L.set i (aJ E' Ke a cap zz)) w'->WO P n ops rest Q f w'):WO P n ops (⟨none,.call ⟨.builtin .clear,#[x],#[T]⟩,ty,pos,af,none⟩::rest) Q f w:=by
 obtain ⟨cs,hh,s1⟩:=aD.rawOpen (n:=0) (α:=List β) rfl hs hi
 obtain ⟨h0,h1,rfl⟩:=aLq hm
 have hl1:=hh.1
 have hrd:El.rd Ke [zS none 0 0] ([]:List β):=⟨none,0,rfl,wT _⟩
 let e':Cells 0:=⟨[zS none 0 0],rfl,El.one hrd⟩
 have e1:ovw cs lo (List.replicate m e')=some (cs.take lo.toNat++List.replicate m e'++cs.drop (lo.toNat+(List.replicate m e').length)):=by
  unfold ovw
  rw [if_pos ⟨h0,by rw [List.length_replicate] at h1 ⊢;omega⟩]
 refine aNa (i:=i) (z:=e') hT hE (show zs=dY.enc e' from hz) s1 (aLA hi) hx' hx hl e1 (fun w' s2=>h w' ?_)
 rw [List.set_set] at s2
 rw [List.length_replicate] at h1
 have b1:lo.toNat+(List.replicate m e').length<=cs.length:=by rw [List.length_replicate];omega
 have b2:lo.toNat+(List.replicate m ([]:List β)).length<=xs.length:=by rw [List.length_replicate];omega
 have s3:=s2.rawClose (n:=0) (α:=List β) (Ke:=Ke) (xs:=xs.take lo.toNat++List.replicate m []++xs.drop (lo.toNat+(List.replicate m ([]:List β)).length)) rfl (aLA hi) ⟨by simp only [List.length_append,List.length_take,List.length_drop,List.length_replicate];omega,fun k x hk=>?_⟩
 ·rw [List.set_set] at s3
  exact s3
 ·rw [ovw_at b2 k] at hk
  rw [ovw_at b1 k]
  simp only [List.length_replicate] at hk ⊢
  split at hk
  ·rename_i q;rw [if_pos q];exact hh.2 k x hk
  ·rename_i q
   rw [if_neg q]
   split at hk
   ·rename_i q2
    rw [if_pos q2]
    rw [List.getElem?_replicate,if_pos (by omega)] at hk
    cases hk
    exact ⟨e',by rw [List.getElem?_replicate,if_pos (by omega)],hrd⟩
   ·rename_i q2;rw [if_neg q2];exact hh.2 k x hk
end
end Gv
namespace Gv
open Go
section
variable {α:Type} [Dp α] {tys:List TypeId} {hds:List (Dp.Hd α)} {xs zz:List α} {G:mL} {K:Hp} {L:List eU} {w:World}
theorem aD.rowsOneS {hd:Dp.Hd α} {x:α} (s:aD G K (Dp.pcs tys hd x++L) w):aD G K (rows tys [hd] [x]::L) w:=by
 obtain ⟨e,g,gd,gl,d,k,l,r⟩:=aD.rowsNil (α:=α) (tys:=tys) s
 have r2:fF (Dp.pcs tys hd x++rows tys ([]:List (Dp.Hd α)) ([]:List α)::L) g:=
  (show fF ([rows tys ([]:List (Dp.Hd α)) ([]:List α)]++(Dp.pcs tys hd x++L)) g from r).swap
 exact aD.rowPush (hds:=[]) (xs:=[]) ⟨e,g,gd,gl,d,k,l,r2⟩ rfl
end
section
variable {P:Program} {n:Nat} {ops:Array Oper} {rest:List Oper} {Q:mZ} {f:Nat->Value} {w:World}
variable {x y:Operand} {ty:TypeId} {pos:String} {af:Array Go.Edge}
variable {G:mL} {K:Hp} {L:List eU}
variable {α:Type} [Dp α] {tys:List TypeId} {hds:List (Dp.Hd α)} {xs zz:List α}
theorem aPh {α:Type} [El α] {xs zz:List α} {T E:TypeId} {a:Option Addr} {i cap kk:Nat} {j:Int} {e e':α} {v:Value} {ns:List Value} {Ke:Hp} (hT:∀ w,(Go.sizeOf T).run P w=.ok (El.sz α) w) (hs:aD G K L w) (hi:L[i]?=some (aJ E Ke a cap xs)) (hK:Ke.le K)
  (hx:ev f x=fL a kk) (hkk:kk=j.toNat * El.sz α+0) (hy:ev f y=v) (hj:ix xs j=some e) (hst:Gv.st xs j e'=some zz) (hn:v.cells=ns.toArray) (hr:El.rd K ns e')
  (h:∀ w',aD G K (L.set i (aJ E K a cap zz)) w'->WO P n ops rest Q f w'):
  WO P n ops (⟨none,.store T x y,ty,pos,af,none⟩::rest) Q f w:=by
 refine qU (t:=0) hT hs hi hK hx hkk hy hj hst hn (El.len hr) (El.one hr) (by simp) (fun cs hc=>?_) h
 rw [List.take_zero,List.nil_append,List.drop_of_length_le (by rw [El.len hc];omega),List.append_nil]
 exact hr
end
end Gv
namespace Gv
open Vl (vl)
open Go
section
variable {P:Program} {f:Nat->Value} {w:World}
variable {d:Nat} {x y:Operand} {ty:TypeId} {pos:String} {af:Array Go.Edge}
end
section
variable {α:Type} [El α]
end
section
variable {κ ν:Type} [DecidableEq κ] [Vl κ] [Vl ν]
variable {P:Program} {n:Nat} {ops:Array Oper} {rest:List Oper} {Q:mZ} {f:Nat->Value} {w:World}
variable {d:Nat} {x y z:Operand} {ty:TypeId} {pos:String} {af:Array Go.Edge}
variable {G:mL} {K:Hp} {L:List eU}
end
section
variable {G:mL} {K:Hp} {L:List eU} {w:World}
end
section
variable {P:Program} {md:Region.Mode} {ops:Array Oper} {C C':World->Prop}
def wpF (P:Program) (ops:Array Oper) (R:Act->World->Prop):List (Nat × Nat)->(World->Prop)->Act->World->Prop
 |[],_,a,w=>R a w
 |(i,0)::l,C,a,w=>∃ o v,ops[i]?=some o/\nP P ops C o v a/\wpF P ops R l C (a.put o.dst v) w
 |(i,1)::l,C,a,w=>wpOp P ops noQ i (fun a' w'=>∃ C':World->Prop,(∀ w,C' w->C w)/\C' w'/\wpF P ops R l C' a' w') a w
 |(_,_+2)::_,_,_,_=>False
end
section
variable {P:Program} {n:Nat} {C:World->Prop} {Q:mZ} {f:Nat->Value} {w:World} {R:(Nat->Value)->World->Prop} {l:List (Nat × Nat)} {os:List Oper}
structure WFm (P:Program) (n:Nat) (ops:Array Oper) (C:World->Prop) (l:List (Nat × Nat)) (R:(Nat->Value)->World->Prop) (f:Nat->Value) (w:World):Prop where
 go:ops.all (fun o=>oko n o&&okg n ops o.guard)=true->wpF P ops (fun a w=>∃ f,a=act n f/\R f w) l C (act n f) w
end
section
variable {β:Type} [dY β] {G:mL} {K:Hp} {L:List eU} {w:World}
end
section
variable {β:Type} [dY β] {G:mL} {K Ke:Hp} {L:List eU} {w:World}
variable {P:Program} {n:Nat} {ops:Array Oper} {rest:List Oper} {Q:mZ} {f:Nat->Value}
variable {d:Nat} {x y:Operand} {ty:TypeId} {pos:String} {af:Array Go.Edge}
theorem HdR.slc {hds:List (Dp.Hd (List β))} {xs r:List (List β)} {lo hi:Int} (h:HdR Ke hds xs) (hc:Gv.slc xs lo hi=some r):∃ h2:List (Dp.Hd (List β)),HdR Ke h2 r/\Gv.slc (aO hds xs) lo hi=some (aO h2 r):=by
 have hl:=h.1
 unfold Gv.slc at hc ⊢
 split at hc
 ·rename_i hb
  cases hc
  refine ⟨(hds.drop lo.toNat).take (hi.toNat - lo.toNat),⟨by simp [hl],fun j hd x h1 h2=>?_⟩,?_⟩
  ·by_cases hj:j < hi.toNat - lo.toNat
   ·rw [List.getElem?_take_of_lt hj,List.getElem?_drop] at h1 h2
    exact h.2 _ hd x h1 h2
   ·rw [List.getElem?_eq_none (by rw [List.length_take];omega)] at h1
    cases h1
  ·rw [if_pos ⟨hb.1,hb.2.1,by rw [lE hl];exact hb.2.2⟩]
   unfold aO
   rw [List.drop_zipWith,List.take_zipWith]
 ·cases hc
theorem HdR.app {h1 h2:List (Dp.Hd (List β))} {x1 x2:List (List β)} (a:HdR Ke h1 x1) (b:HdR Ke h2 x2):HdR Ke (h1++h2) (x1++x2):=by
 refine ⟨by rw [List.length_append,List.length_append,a.1,b.1],fun j hd x e1 e2=>?_⟩
 by_cases hj:j < h1.length
 ·rw [List.getElem?_append_left hj] at e1
  rw [List.getElem?_append_left (by rw [←a.1];exact hj)] at e2
  exact a.2 _ hd x e1 e2
 ·rw [List.getElem?_append_right (by omega)] at e1
  rw [List.getElem?_append_right (by rw [←a.1];omega),←a.1] at e2
  exact b.2 _ hd x e1 e2
end
end Gv
namespace Gv
open Go
section
variable {α:Type} [Dp α] {tys:List TypeId} {hds:List (Dp.Hd α)} {xs:List α} {G:mL} {K:Hp} {L:List eU} {w:World}
def aLB (tys:List TypeId) (hds:List (Dp.Hd α)) (xs:List α):eU:=fun h=>hds.length=xs.length/\rows tys hds xs h
theorem aD.closeL {i:Nat} (s:aD G K L w) (hi:L[i]?=some (rows tys hds xs)) (hl:hds.length=xs.length):aD G K (L.set i (aLB tys hds xs)) w:=
 s.weak hi (fun _ h=>⟨hl,h⟩)
theorem aTl (E:TypeId) (tys:List TypeId) {L:List eU} (h:fF L Hp.nil):fF (aJ E Hp.nil none 0 (aO ([]:List (Dp.Hd α)) ([]:List α))::aLB tys ([]:List (Dp.Hd α)) ([]:List α)::L) Hp.nil:=
 ⟨Hp.nil,Hp.nil,aJ.nil _ _ _,Hp.nil_dj _,Hp.nil_le _,Hp.nil_le _,Hp.nil,Hp.nil,⟨rfl,trivial⟩,Hp.nil_dj _,Hp.nil_le _,Hp.nil_le _,h⟩
theorem aRU [El α] [aMV α] {E:TypeId} {Ke h1 h2:Hp} {a:Option Addr} {cap:Nat} (a1:aJ E Ke a cap (aO hds xs) h1) (a2:aLB tys hds xs h2) (l1:h1.le K) (l2:h2.le K):aW K a cap xs:=by
 obtain ⟨hl,a2⟩:=a2
 have hr:aW K a cap (aO hds xs):=aJ.rd (K:=Hp.nil) (show aJ E Hp.nil a cap (aO hds xs) h1 from a1) l1 (Hp.nil_le _)
 refine ⟨?_,?_,?_⟩
 ·have:=hr.room;rwa [lE hl] at this
 ·intro e
  obtain ⟨e1,e2⟩:=hr.nil e
  refine ⟨?_,e2⟩
  have:=lE hl
  rw [e1] at this
  exact List.length_eq_zero_iff.1 this.symm
 ·intro i d e
  have hi:i < hds.length:=by rw [hl];exact (List.getElem?_eq_some_iff.1 e).1
  have hh:hds[i]?=some hds[i]:=by simp [hi]
  obtain ⟨cs,hc,hcs⟩:=hr.cell i _ (aLx aEN hh e)
  have hcs':cs=Dp.enc hds[i] d:=hcs
  subst hcs'
  refine ⟨_,?_,aOF a2 l2 hh e⟩
  rw [aMV.sz]
  exact hc
end
end Gv
namespace Gv
open Go
section
variable {N:Type} [dY N]
inductive trd (K:Hp):Tr N->Option Addr->Prop
 |mk {n:N} {l:List (Tr N)} {a x:Option Addr} {c:Nat} (q:Nat->Option Addr) (h1:eM K a 0 (dY.enc n++[Value.slice x l.length c])) (h2:l.length<=c) (h3:x=none->l=[]/\c=0)
   (h4:∀ i d,l[i]?=some d->eM K x (i * 1) [fL (q i) 0]) (h5:∀ i d,l[i]?=some d->trd K d (q i)):trd K (.mk n l) a
theorem trd.mono {K K':Hp} {t:Tr N} {a:Option Addr} (h:K.le K') (r:trd K t a):trd K' t a:=by
 induction r with
 |mk q h1 h2 h3 h4 h5 ih=>exact .mk q (h1.mono h) h2 h3 (fun i d e=>(h4 i d e).mono h) (fun i d e=>ih i d e)
instance:El (Tr N) where
 sz:=1
 rd K cs d:=∃ a,cs=[fL a 0]/\trd K d a
 mono:=fun h ⟨a,e,r⟩=>⟨a,e,r.mono h⟩
 len:=fun ⟨_,e,_⟩=>by rw [e];rfl
 one:=fun ⟨_,e,_⟩ v hv=>by rw [e] at hv;simp at hv;subst hv;rfl
 pos:=Nat.one_pos
theorem trd.el {K:Hp} {t:Tr N} {a:Option Addr} (h:trd K t a):∃ (x:Option Addr) (c:Nat),eM K a 0 (dY.enc t.val++[Value.slice x t.kids.length c])/\aW K x c t.kids:=by
 cases h with
 |mk q h1 h2 h3 h4 h5=>exact ⟨_,_,h1,⟨h2,h3,fun i d e=>⟨_,h4 i d e,_,rfl,h5 i d e⟩⟩⟩
theorem trd_mk {K:Hp} {n:N} {l:List (Tr N)} {a x:Option Addr} {c:Nat} (h:eM K a 0 (dY.enc n++[Value.slice x l.length c])) (r:aW K x c l):trd K (.mk n l) a:=by
 have hq:∀ i,∃ p:Option Addr,∀ d,l[i]?=some d->eM K x (i * 1) [fL p 0]/\trd K d p:=by
  intro i
  cases e:l[i]? with
  |none=>exact ⟨none,fun d h=>by cases h⟩
  |some d=>
   obtain ⟨cs,hc,p,rfl,hr⟩:=r.cell i d e
   exact ⟨p,fun d' h'=>by cases h';exact ⟨hc,hr⟩⟩
 exact .mk (fun i=>(hq i).choose) h r.room r.nil (fun i d e=>((hq i).choose_spec d e).1) (fun i d e=>((hq i).choose_spec d e).2)
end
end Gv
namespace Gv
open Go
structure Hd (q:Prop):Prop where
 k:q
theorem bM {p:Prop} (h:p:=by first|assumption|exact rfl):p:=h
theorem eO {p:Prop} (h:p:=by assumption):p:=h
theorem kT {p:Prop} (h:p:=by first|assumption|exact Hp.le_trans (by assumption) (by assumption)|exact Hp.le_trans (by assumption) (Hp.le_trans (by assumption) (by assumption))):p:=h
theorem aKF {p:Prop} (h:p:=by with_reducible first|exact List.Mem.head _|exact List.Mem.tail _ (List.Mem.head _)|exact List.Mem.tail _ (List.Mem.tail _ (List.Mem.head _))|exact List.Mem.tail _ (List.Mem.tail _ (List.Mem.tail _ (List.Mem.head _)))|exact List.Mem.tail _ (List.Mem.tail _ (List.Mem.tail _ (List.Mem.tail _ (List.Mem.head _))))|exact List.Mem.tail _ (List.Mem.tail _ (List.Mem.tail _ (List.Mem.tail _ (List.Mem.tail _ (List.Mem.head _)))))|exact List.Mem.tail _ (List.Mem.tail _ (List.Mem.tail _ (List.Mem.tail _ (List.Mem.tail _ (List.Mem.tail _ (List.Mem.head _))))))|exact List.Mem.tail _ (List.Mem.tail _ (List.Mem.tail _ (List.Mem.tail _ (List.Mem.tail _ (List.Mem.tail _ (List.Mem.tail _ (List.Mem.head _)))))))|exact List.Mem.tail _ (List.Mem.tail _ (List.Mem.tail _ (List.Mem.tail _ (List.Mem.tail _ (List.Mem.tail _ (List.Mem.tail _ (List.Mem.tail _ (List.Mem.head _))))))))|exact List.Mem.tail _ (List.Mem.tail _ (List.Mem.tail _ (List.Mem.tail _ (List.Mem.tail _ (List.Mem.tail _ (List.Mem.tail _ (List.Mem.tail _ (List.Mem.tail _ (List.Mem.head _)))))))))):p:=h
theorem aGG {γ:Type} {l:List γ} {a:γ} (h:a∈l):∃ i:Nat,l[i]?=some a:=by
 obtain ⟨i,hi,e⟩:=List.mem_iff_getElem.1 h
 exact ⟨i,by rw [List.getElem?_eq_getElem hi,e]⟩
section
variable {P:Program} {f:Nat->Value} {w:World} {d:Nat} {x y z:Operand} {ty:TypeId} {pos:String} {af:Array Go.Edge} {G:mL} {K:Hp} {L:List eU} {α:Type} {iα:El α}
structure EX (P:Program) (f:Nat->Value) (o:Op) (v:Value) (d:Nat) (ty:TypeId) (pos:String) (af:Array Go.Edge) (w:World):Prop where
 h:(execOp (ev f) ⟨some d,o,ty,pos,af,none⟩).run P w=.ok (.value v) w
theorem V_move {v:Value} (hx:ev f x=v):EX P f (.move x) v d ty pos af w:=⟨qT hx⟩
theorem V_assign {v:Value} (hx:ev f x=v):EX P f (.assign x) v d ty pos af w:=⟨yV hx⟩
theorem V_moveC {v:Value}:EX P f (.move (.const v)) v d ty pos af w:=⟨qT rfl⟩
theorem V_assignC {v:Value}:EX P f (.assign (.const v)) v d ty pos af w:=⟨yV rfl⟩
theorem V_moveF {k:FuncId}:EX P f (.move (.func k)) (.func (.func k) #[] #[]) d ty pos af w:=⟨qT rfl⟩
theorem V_assignF {k:FuncId}:EX P f (.assign (.func k)) (.func (.func k) #[] #[]) d ty pos af w:=⟨yV rfl⟩
theorem V_not {b:Bool} {T:TypeId} (hx:ev f x=.bool b):EX P f (.unOp .not T x) (.bool (!b)) d ty pos af w:=⟨R_not hx⟩
theorem V_nilP {ad:Addr} (hx:ev f x=.pointer (some ad)):EX P f (.nilCheck x) (.pointer (some ad)) d ty pos af w:=⟨aDD hx⟩
theorem V_extract {vs:Array Value} {i:Nat} {v:Value} (hx:ev f x=.tuple vs) (hv:vs[i]?=some v):EX P f (.extract x i) v d ty pos af w:=⟨iM hx hv⟩
theorem V_lenS {T E:TypeId} {sz:Nat} {a:Option Addr} {len cap:Nat} (hT:yT P T E sz) (hx:ev f x=.slice a len cap):EX P f (.call ⟨.builtin .len,#[x],#[T]⟩) (i64 len) d ty pos af w:=⟨vB hT hx⟩
theorem V_add {a b:Int} {T U:TypeId} (hx:ev f x=i64 a) (hy:ev f y=i64 b):EX P f (.binOp .add T x y U) (i64 (wr (a+b))) d ty pos af w:=⟨nM hx hy⟩
theorem V_sub {a b:Int} {T U:TypeId} (hx:ev f x=i64 a) (hy:ev f y=i64 b):EX P f (.binOp .sub T x y U) (i64 (wr (a - b))) d ty pos af w:=⟨R_sub hx hy⟩
theorem V_mul {a b:Int} {T U:TypeId} (hx:ev f x=i64 a) (hy:ev f y=i64 b):EX P f (.binOp .mul T x y U) (i64 (wr (a * b))) d ty pos af w:=⟨R_mul hx hy⟩
theorem V_lss {k:IntKind} {a b:Int} {T U:TypeId} (hx:ev f x=.int k a) (hy:ev f y=.int k b):EX P f (.binOp .lss T x y U) (.bool (decide (a < b))) d ty pos af w:=⟨aFJ hx hy⟩
theorem V_leq {k:IntKind} {a b:Int} {T U:TypeId} (hx:ev f x=.int k a) (hy:ev f y=.int k b):EX P f (.binOp .leq T x y U) (.bool (decide (a<=b))) d ty pos af w:=⟨R_leq hx hy⟩
theorem V_gtr {k:IntKind} {a b:Int} {T U:TypeId} (hx:ev f x=.int k a) (hy:ev f y=.int k b):EX P f (.binOp .gtr T x y U) (.bool (decide (b < a))) d ty pos af w:=⟨R_gtr hx hy⟩
theorem V_geq {k:IntKind} {a b:Int} {T U:TypeId} (hx:ev f x=.int k a) (hy:ev f y=.int k b):EX P f (.binOp .geq T x y U) (.bool (decide (b<=a))) d ty pos af w:=⟨R_geq hx hy⟩
theorem V_eql {k:IntKind} {a b:Int} {T U:TypeId} (hx:ev f x=.int k a) (hy:ev f y=.int k b):EX P f (.binOp .eql T x y U) (.bool (a == b)) d ty pos af w:=⟨aHZ hx hy⟩
theorem V_neq {k:IntKind} {a b:Int} {T U:TypeId} (hx:ev f x=.int k a) (hy:ev f y=.int k b):EX P f (.binOp .neq T x y U) (.bool (a != b)) d ty pos af w:=⟨R_neq hx hy⟩
theorem V_eqlS {a b:aH} {T U:TypeId} (hx:ev f x=str a) (hy:ev f y=str b):EX P f (.binOp .eql T x y U) (.bool (a == b)) d ty pos af w:=⟨R_eqlS hx hy⟩
theorem V_neqS {a b:aH} {T U:TypeId} (hx:ev f x=str a) (hy:ev f y=str b):EX P f (.binOp .neq T x y U) (.bool (!(a == b))) d ty pos af w:=⟨R_neqS hx hy⟩
theorem V_lssS {a b:aH} {T U:TypeId} (hx:ev f x=str a) (hy:ev f y=str b):EX P f (.binOp .lss T x y U) (.bool (mW a b)) d ty pos af w:=⟨R_lssS hx hy⟩
theorem V_leqS {a b:aH} {T U:TypeId} (hx:ev f x=str a) (hy:ev f y=str b):EX P f (.binOp .leq T x y U) (.bool (mW a b||a == b)) d ty pos af w:=⟨R_leqS hx hy⟩
theorem V_gtrS {a b:aH} {T U:TypeId} (hx:ev f x=str a) (hy:ev f y=str b):EX P f (.binOp .gtr T x y U) (.bool (!(mW a b||a == b))) d ty pos af w:=⟨R_gtrS hx hy⟩
theorem V_geqS {a b:aH} {T U:TypeId} (hx:ev f x=str a) (hy:ev f y=str b):EX P f (.binOp .geq T x y U) (.bool (!mW a b)) d ty pos af w:=⟨R_geqS hx hy⟩
theorem V_nilE {a:Option Addr} {k kk:Nat} {cs:List Value} (hx:ev f x=fL a kk) (hc:eM K a k cs):
  EX P f (.nilCheck x) ((fL a kk)) d ty pos af w:=⟨R_nilE hx hc⟩
theorem V_fldE {S:TypeId} {a:Option Addr} {i o k k0:Nat} {cs:List Value} (hx:ev f x=fL a k) (hc:eM K a k0 cs) (hF:FA P S i o):
  EX P f (.fieldAddr S x i) ((fL a (k+o))) d ty pos af w:=⟨aOT hF hx hc rfl⟩
theorem V_fldP {S:TypeId} {b i o t:Nat} (hx:ev f x=.pointer (some ⟨b,t,none⟩)) (hF:FA P S i o):
  EX P f (.fieldAddr S x i) ((.pointer (some ⟨b,t+o,none⟩))) d ty pos af w:=⟨eR hF hx rfl⟩
theorem V_ixE {T E:TypeId} {sz:Nat} {a:Option Addr} {len cap:Nat} {xs:List α} {j:Int} {e:α} (hx:ev f x=.slice a len cap) (hy:ev f y=i64 j) (hr:aW K a cap xs) (hj:ix xs j=some e) (hl:len=xs.length) (hT:yT P T E sz) (hz:El.sz α=sz):
  EX P f (.indexAddr T x y) ((fL a (j.toNat * sz))) d ty pos af w:=⟨xT hT hz hr hx hl hy hj⟩
theorem V_ixO {T E E':TypeId} {sz:Nat} {a:Option Addr} {len cap:Nat} {xs:List α} {j:Int} {e:α} {Ke:Hp} (hx:ev f x=.slice a len cap) (hy:ev f y=i64 j) (hs:aD G K L w) (hi:List.Mem (aJ E' Ke a cap xs) L) (hj:ix xs j=some e) (hl:len=xs.length) (hT:yT P T E sz) (hz:El.sz α=sz):
  EX P f (.indexAddr T x y) ((fL a (j.toNat * sz))) d ty pos af w:=by
 obtain ⟨i,hi⟩:=aGG hi
 exact ⟨R_ixO hT hz hs hi hx hl hy hj⟩
theorem aNN {T:TypeId} {a:Option Addr} {k t:Nat} {cs:List Value} {v:Value} (hx:ev f x=fL a (k+t)) (hc:eM K a k cs) (hs:aD G K L w) (hv:cs[t]?=some v) (hT:SC P T):
  EX P f (.load T x) (v) d ty pos af w:=⟨lD hT hs hc hx hv⟩
theorem aIh {T:TypeId} {a:Option Addr} {k t m:Nat} {cs vs:List Value} (hx:ev f x=fL a (k+t)) (hc:eM K a k cs) (hs:aD G K L w) (hT:AG P T m) (hv:(cs.drop t).take m=vs) (hm:vs.length=m):
  EX P f (.load T x) ((.agg vs.toArray)) d ty pos af w:=⟨pL hT hs hc hx hv hm⟩
theorem V_ldB {T E:TypeId} {b t:Nat} {vs:List Value} {v:Value} (hx:ev f x=.pointer (some ⟨b,t,none⟩)) (hs:aD G K L w) (hi:List.Mem (box b E vs) L) (hv:vs[t]?=some v) (hT:SC P T):
  EX P f (.load T x) (v) d ty pos af w:=by
 obtain ⟨i,hi⟩:=aGG hi
 exact ⟨vE hT hs hi hx hv⟩
inductive DT:List Value->Nat->Nat->List Value->Prop
 |nil {l:List Value}:DT l 0 0 []
 |take {x:Value} {l us:List Value} {m:Nat} (h:DT l 0 m us):DT (x::l) 0 (m+1) (x::us)
 |drop {x:Value} {l us:List Value} {t m:Nat} (h:DT l t m us):DT (x::l) (t+1) m us
theorem DT.eq {l us:List Value} {t m:Nat} (h:DT l t m us):(l.drop t).take m=us/\us.length=m:=by
 induction h with
 |nil=>simp
 |take _ ih=>obtain ⟨h1,h2⟩:=ih;simp at h1;simp [h1,h2]
 |drop _ ih=>simpa using ih
theorem st_D {p:Prop} (h:p:=by repeat (first|exact DT.nil|apply DT.take|apply DT.drop)):p:=h
theorem V_ldBG {T E:TypeId} {b t m:Nat} {vs us:List Value} (hx:ev f x=.pointer (some ⟨b,t,none⟩)) (hs:aD G K L w) (hi:List.Mem (box b E vs) L) (hT:AG P T m) (hv:DT vs t m us):
  EX P f (.load T x) ((.agg us.toArray)) d ty pos af w:=by
 obtain ⟨i,hi⟩:=aGG hi
 exact ⟨aFr hT hs hi hx hv.eq.1 hv.eq.2⟩
theorem V_rvG {n t b m:Nat} {T E:TypeId} {vs:List Value} (hp:f t=.pointer (some ⟨b,0,none⟩)) (hs:aD G K L w) (hi:List.Mem (box b E vs) L) (hT:AG P T m) (hm:vs.length=m) (ht:Nat.blt t n=true):aLv P n f w (.cell t T) (.agg vs.toArray):=by
 obtain ⟨i,hi⟩:=aGG hi
 exact aIf ht hT hs hi hp hm
theorem V_rvB {n t b:Nat} {T E:TypeId} {v:Value} (hp:f t=.pointer (some ⟨b,0,none⟩)) (hs:aD G K L w) (hi:List.Mem (box b E [v]) L) (hT:SC P T) (ht:Nat.blt t n=true):aLv P n f w (.cell t T) v:=by
 obtain ⟨i,hi⟩:=aGG hi
 exact rv_cell ht hT hs hi hp
theorem V_nilO {E:TypeId} {Ke:Hp} {kk:Nat} {a:Option Addr} {cap:Nat} {xs:List α} {j:Int} {e:α} (hx:ev f x=fL a kk) (hs:aD G K L w) (hi:List.Mem (aJ E Ke a cap xs) L) (hj:ix xs j=some e):
  EX P f (.nilCheck x) ((fL a kk)) d ty pos af w:=by
 obtain ⟨i,hi⟩:=aGG hi
 exact ⟨R_nilO hs hi hj hx⟩
theorem V_fldO {S E:TypeId} {Ke:Hp} {q o k:Nat} {a:Option Addr} {cap:Nat} {xs:List α} {j:Int} {e:α} (hx:ev f x=fL a k) (hs:aD G K L w) (hi:List.Mem (aJ E Ke a cap xs) L) (hj:ix xs j=some e) (hF:FA P S q o):
  EX P f (.fieldAddr S x q) ((fL a (k+o))) d ty pos af w:=by
 obtain ⟨i,hi⟩:=aGG hi
 exact ⟨R_fldO hF hs hi hj hx rfl⟩
theorem aNO {T:TypeId} {a:Option Addr} {k t:Nat} {cs:List Value} {v:Value} (hs:aD G K L w) (hc:eM K a k cs) (hx:ev f x=fL a (k+t)) (hv:cs[t]?=some v) (hT:SC P T):
  EX P f (.load T x) v d ty pos af w:=lD hT hs hc hx hv |> EX.mk
theorem aRV {T:TypeId} {a:Option Addr} {k t m:Nat} {cs vs:List Value} (hs:aD G K L w) (hc:eM K a k cs) (hx:ev f x=fL a (k+t)) (hT:AG P T m) (hv:(cs.drop t).take m=vs) (hm:vs.length=m):
  EX P f (.load T x) (.agg vs.toArray) d ty pos af w:=pL hT hs hc hx hv hm |> EX.mk
theorem V_ldO {β:Type} {iβ:dY β} {T E:TypeId} {Ke:Hp} {kk t:Nat} {a:Option Addr} {cap:Nat} {xs:List β} {j:Int} {e:β} {v:Value} (hx:ev f x=fL a kk) (hs:aD G K L w) (hi:List.Mem (aJ E Ke a cap xs) L) (hj:ix xs j=some e) (hkk:kk=j.toNat * dY.sz β+t) (hv:(dY.enc e)[t]?=some v) (hT:SC P T):
  EX P f (.load T x) v d ty pos af w:=by
 obtain ⟨i,hi⟩:=aGG hi
 exact ⟨R_ldO hT hs hi hj hx hkk hv⟩
theorem V_ldOG {β:Type} {iβ:dY β} {T E:TypeId} {Ke:Hp} {kk t m:Nat} {a:Option Addr} {cap:Nat} {xs:List β} {j:Int} {e:β} {vs:List Value} (hx:ev f x=fL a kk) (hs:aD G K L w) (hi:List.Mem (aJ E Ke a cap xs) L) (hj:ix xs j=some e) (hkk:kk=j.toNat * dY.sz β+t) (hT:AG P T m) (hv:((dY.enc e).drop t).take m=vs) (hm:vs.length=m):
  EX P f (.load T x) (.agg vs.toArray) d ty pos af w:=by
 obtain ⟨i,hi⟩:=aGG hi
 exact ⟨aRL hT hs hi hj hx hkk hv hm⟩
theorem aNP {T:TypeId} {K':Hp} {a:Option Addr} {k t:Nat} {cs:List Value} {v:Value} (hx:ev f x=fL a (k+t)) (hc:eM K' a k cs) (hs:aD G K L w) (hK:K'.le K) (hv:cs[t]?=some v) (hT:SC P T):
  EX P f (.load T x) v d ty pos af w:=⟨lD hT hs (hc.mono hK) hx hv⟩
theorem aRW {T:TypeId} {K':Hp} {a:Option Addr} {k t m:Nat} {cs vs:List Value} (hx:ev f x=fL a (k+t)) (hc:eM K' a k cs) (hs:aD G K L w) (hK:K'.le K) (hT:AG P T m) (hv:(cs.drop t).take m=vs) (hm:vs.length=m):
  EX P f (.load T x) (.agg vs.toArray) d ty pos af w:=⟨pL hT hs (hc.mono hK) hx hv hm⟩
theorem V_pickT {b:Bool} {v:Value} (hx:ev f x=.bool b) (hb:b=true) (hv:ev f y=v):
  EX P f (.pick x y z) (v) d ty pos af w:=⟨aSX hb hx hv⟩
theorem V_pickF {b:Bool} {v:Value} (hx:ev f x=.bool b) (hb:¬ b=true) (hv:ev f z=v):
  EX P f (.pick x y z) (v) d ty pos af w:=⟨aOR hb hx hv⟩
theorem V_lenStr {T:TypeId} {s:aH} (hT:∀ w,(underlying T).run P w=.ok .string w) (hx:ev f x=str s):EX P f (.call ⟨.builtin .len,#[x],#[T]⟩) ((i64 s.length)) d ty pos af w:=⟨aDE hT hx⟩
theorem V_ixS {T:TypeId} {s:aH} {j:Int} {c:UInt8} (hT:∀ w,(underlying T).run P w=.ok .string w) (hx:ev f x=str s) (hy:ev f y=i64 j) (hj:ix s j=some c):EX P f (.index T x y) ((u8 c)) d ty pos af w:=⟨R_ixS hT hx hy hj⟩
theorem V_conv64 {S T:TypeId} {k:IntKind} {a:Int} (hT:∀ w,(underlying T).run P w=.ok (.int .i64) w) (hx:ev f x=.int k a) (hS:∃ d,∀ w,(underlying S).run P w=.ok d w):EX P f (.convert S T x) ((.int .i64 (wr a))) d ty pos af w:=⟨aTa hT hx hS⟩
theorem V_convu8' {S T:TypeId} {k:IntKind} {a:Int} (hT:∀ w,(underlying T).run P w=.ok (.int .u8) w) (hx:ev f x=.int k a) (hS:∃ d,∀ w,(underlying S).run P w=.ok d w):EX P f (.convert S T x) ((.int .u8 ((UInt8.ofInt a).toNat:Int))) d ty pos af w:=⟨R_convu8' hT hx hS⟩
theorem V_u8sub' {a b:UInt8} {T U:TypeId} (hx:ev f x=.int .u8 (a.toNat:Int)) (hy:ev f y=.int .u8 (b.toNat:Int)):EX P f (.binOp .sub T x y U) ((.int .u8 ((a - b).toNat:Int))) d ty pos af w:=⟨aTc hx hy⟩
theorem V_neg {a:Int} {T:TypeId} (hx:ev f x=i64 a):EX P f (.unOp .neg T x) ((i64 (wr (0 - a)))) d ty pos af w:=⟨R_neg hx⟩
theorem V_quo {a b c:Int} {T U:TypeId} (hx:ev f x=i64 a) (hy:ev f y=i64 b) (hc:qu a b=some c):EX P f (.binOp .quo T x y U) ((i64 c)) d ty pos af w:=⟨R_quo hx hy hc⟩
theorem V_rem {a b c:Int} {T U:TypeId} (hx:ev f x=i64 a) (hy:ev f y=i64 b) (hc:rm a b=some c):EX P f (.binOp .rem T x y U) ((i64 c)) d ty pos af w:=⟨R_rem hx hy hc⟩
theorem V_cat {a b c:aH} {T U:TypeId} (hx:ev f x=str a) (hy:ev f y=str b) (hc:cat a b=some c):EX P f (.binOp .add T x y U) ((str c)) d ty pos af w:=⟨aLr hx hy hc⟩
theorem V_neqB {a b:Bool} {T U:TypeId} (hT:∀ w,(underlying T).run P w=.ok .bool w) (hx:ev f x=.bool a) (hy:ev f y=.bool b):EX P f (.binOp .neq T x y U) ((.bool (a != b))) d ty pos af w:=⟨R_neqB hT hx hy⟩
theorem V_min {Ts:Array TypeId} {a b:Int} (hx:ev f x=i64 a) (hy:ev f y=i64 b):EX P f (.call ⟨.builtin .min,#[x,y],Ts⟩) ((i64 (mnI a b))) d ty pos af w:=⟨R_min hx hy⟩
theorem V_max {Ts:Array TypeId} {a b:Int} (hx:ev f x=i64 a) (hy:ev f y=i64 b):EX P f (.call ⟨.builtin .max,#[x,y],Ts⟩) ((i64 (mxI a b))) d ty pos af w:=⟨R_max hx hy⟩
theorem V_slSLH {s r:aH} {lo hi:Int} {T:TypeId} (hT:∀ w,(underlying T).run P w=.ok .string w) (hx:ev f x=str s) (hl:ev f y=i64 lo) (hh:ev f z=i64 hi) (hr:slc s lo hi=some r):EX P f (.slice T x (some y) (some z) none) ((str r)) d ty pos af w:=⟨R_slSLH hT hx hl hh hr⟩
theorem V_slSL {s r:aH} {lo:Int} {T:TypeId} (hT:∀ w,(underlying T).run P w=.ok .string w) (hx:ev f x=str s) (hl:ev f y=i64 lo) (hr:slc s lo (s.length:Int)=some r):EX P f (.slice T x (some y) none none) ((str r)) d ty pos af w:=⟨R_slSL hT hx hl hr⟩
theorem V_slSH {s r:aH} {hi:Int} {T:TypeId} (hT:∀ w,(underlying T).run P w=.ok .string w) (hx:ev f x=str s) (hh:ev f z=i64 hi) (hr:slc s 0 hi=some r):EX P f (.slice T x none (some z) none) ((str r)) d ty pos af w:=⟨R_slSH hT hx hh hr⟩
theorem V_isNil {T E:TypeId} {sz:Nat} {U:TypeId} {a:Option Addr} {n c:Nat} (hT:yT P T E sz) (hx:ev f x=.slice a n c) (hy:ev f y=.slice none 0 0):EX P f (.binOp .eql T x y U) ((.bool a.isNone)) d ty pos af w:=⟨R_isNil hT hx hy⟩
theorem V_build {T:TypeId} {places:List (Nat × Nat)} {zs cs:List Value} {ps:Array (Nat × Operand)} {vs:List (Nat × Value)} (hB:BS P T places zs)
  (hp:ps.toList.map (fun p=>(p.1,ev f p.2))=vs) (hf:Instr.fill (fun i=>places[i]?) zs.toArray vs=some cs.toArray):EX P f (.build T ps) ((.agg cs.toArray)) d ty pos af w:=⟨gW hB hp hf⟩
theorem aUX {fn:Fn} {xs:Array Operand} {vs:List Value} (hv:xs.toList.map (ev f)=vs):EX P f (.makeFunc fn #[] xs) ((.func fn #[] vs.toArray)) d ty pos af w:=⟨qV hv⟩
end
section
variable {P:Program} {n:Nat} {ops:Array Oper} {Q:mZ} {f:Nat->Value} {w:World} {ty:TypeId} {pos:String} {af:Array Go.Edge} {rest:List Oper} {C:World->Prop} {R:(Nat->Value)->Prop}
theorem VO {v:Value} {d:Nat} {op:Op} (hr:EX P f op v d ty pos af w) (h:WO P n ops rest Q (upd f d v) w):WO P n ops (⟨some d,op,ty,pos,af,none⟩::rest) Q f w:=aL hr.h h
theorem VQ {v:Value} {d:Nat} {op:Op} (hr:∀ w,C w->EX P f op v d ty pos af w) (h:WQ P n ops C rest R (upd f d v)):WQ P n ops C (⟨some d,op,ty,pos,af,none⟩::rest) R f:=rO (fun w hw=>(hr w hw).h) h
theorem V_onT {j g:Nat} {op:Op} {dst:Option Tmp} {b:Bool} (hd:(ops[j]?).bind (·.dst)=some g) (hx:f g=.bool b) (hb:b=true) (h:WO P n ops (⟨dst,op,ty,pos,af,none⟩::rest) Q f w):WO P n ops (⟨dst,op,ty,pos,af,some (j,true)⟩::rest) Q f w:=aCB hb hd hx h
theorem V_onF {j g:Nat} {op:Op} {dst:Option Tmp} {b:Bool} (hd:(ops[j]?).bind (·.dst)=some g) (hx:f g=.bool b) (hb:¬ b=true) (h:WO P n ops (⟨dst,op,ty,pos,af,none⟩::rest) Q f w):WO P n ops (⟨dst,op,ty,pos,af,some (j,false)⟩::rest) Q f w:=WO_on_f hb hd hx h
theorem V_offF {j g:Nat} {op:Op} {dst:Option Tmp} {b:Bool} (hd:(ops[j]?).bind (·.dst)=some g) (hx:f g=.bool b) (hb:¬ b=true) (h:WO P n ops rest Q (aFI f dst undef) w):WO P n ops (⟨dst,op,ty,pos,af,some (j,true)⟩::rest) Q f w:=yW hb hd hx h
theorem V_offT {j g:Nat} {op:Op} {dst:Option Tmp} {b:Bool} (hd:(ops[j]?).bind (·.dst)=some g) (hx:f g=.bool b) (hb:b=true) (h:WO P n ops rest Q (aFI f dst undef) w):WO P n ops (⟨dst,op,ty,pos,af,some (j,false)⟩::rest) Q f w:=WO_off_t hb hd hx h
theorem Q_onT {j g:Nat} {op:Op} {dst:Option Tmp} {b:Bool} (hd:(ops[j]?).bind (·.dst)=some g) (hx:f g=.bool b) (hb:b=true) (h:WQ P n ops C (⟨dst,op,ty,pos,af,none⟩::rest) R f):WQ P n ops C (⟨dst,op,ty,pos,af,some (j,true)⟩::rest) R f:=aNL hd hx hb h
theorem Q_onF {j g:Nat} {op:Op} {dst:Option Tmp} {b:Bool} (hd:(ops[j]?).bind (·.dst)=some g) (hx:f g=.bool b) (hb:¬ b=true) (h:WQ P n ops C (⟨dst,op,ty,pos,af,none⟩::rest) R f):WQ P n ops C (⟨dst,op,ty,pos,af,some (j,false)⟩::rest) R f:=aNL hd hx (by simpa using hb) h
theorem Q_offF {j g:Nat} {op:Op} {dst:Option Tmp} {b:Bool} (hd:(ops[j]?).bind (·.dst)=some g) (hx:f g=.bool b) (hb:¬ b=true) (h:WQ P n ops C rest R (aFI f dst undef)):WQ P n ops C (⟨dst,op,ty,pos,af,some (j,true)⟩::rest) R f:=WQ_off hd hx (by cases b<;>simp_all) h
theorem Q_offT {j g:Nat} {op:Op} {dst:Option Tmp} {b:Bool} (hd:(ops[j]?).bind (·.dst)=some g) (hx:f g=.bool b) (hb:b=true) (h:WQ P n ops C rest R (aFI f dst undef)):WQ P n ops C (⟨dst,op,ty,pos,af,some (j,false)⟩::rest) R f:=WQ_off hd hx (by cases b<;>simp_all) h
theorem aRX {c:Operand} {x y:Code} {b:Bool} (hc:ev f c=.bool b) (hb:b=true) (h:W P n x Q f w):W P n (.cond c x y) Q f w:=dS hb hc h
theorem aRY {c:Operand} {x y:Code} {b:Bool} (hc:ev f c=.bool b) (hb:¬ b=true) (h:W P n y Q f w):W P n (.cond c x y) Q f w:=eK hb hc h
end
section
variable {P:Program} {n:Nat} {ops:Array Oper} {Q:mZ} {f:Nat->Value} {w:World} {ty:TypeId} {pos:String} {af:Array Go.Edge} {rest:List Oper} {C:World->Prop} {R:(Nat->Value)->World->Prop} {os:List Oper} {l:List (Nat × Nat)} {d:Nat} {op:Op} {v:Value}
theorem V_WE {i:Nat} (hi:aFs os i=some ⟨some d,op,ty,pos,af,none⟩) (hr:∀ w,C w->EX P f op v d ty pos af w) (h:WE P n os.toArray C l R (upd f d v) w):WE P n os.toArray C ((i,0)::l) R f w:=fM hi (fun w hw=>(hr w hw).h) h
theorem V_WT {i:Nat} (hi:aFs os i=some ⟨some d,op,ty,pos,af,none⟩) (hr:∀ w,EX P f op v d ty pos af w) (h:WE P n os.toArray C l R (upd f d v) w):WE P n os.toArray C ((i,3)::l) R f w:=WE_t hi (fun w=>(hr w).h) h
theorem V_WA {bs:List Nat} {m:Nat} {listed:Array Bool} {i:Nat} (hi:aFs os i=some ⟨some d,op,ty,pos,af,none⟩) (hB:lookB os.toArray bs listed i=true) (hC:C w) (hr:∀ w,C w->EX P f op v d ty pos af w) (h:WA P n os.toArray C bs R m (listed.setIfInBounds i true) (upd f d v) w):WA P n os.toArray C bs R (m+1) listed f w:=WA_v hi hB hC (fun w hw=>(hr w hw).h) h
theorem V_L {T:TypeId} {x:Operand} (h:EX P f (.load T x) v d ty pos af w):EX P f (.load T x) v d ty pos af w:=h
theorem V_B {o:BinOp} {T U:TypeId} {x y:Operand} (h:EX P f (.binOp o T x y U) v d ty pos af w):EX P f (.binOp o T x y U) v d ty pos af w:=h
theorem dQ {k:FuncId} {xs:Array Operand} {ats:Array TypeId} {vs:List Value} {Φ:Value->World->Prop} (hk:CE P k) (hc:Calls P k vs.toArray w (cN Φ)) (h:∀ v w',Φ v w'->WO P n ops rest Q (upd f d v) w') (hv:xs.toList.map (ev f)=vs:=by exact rfl):
  WO P n ops (⟨some d,.call ⟨.value (.func k),xs,ats⟩,ty,pos,af,none⟩::rest) Q f w:=cI hk hv hc h
theorem cC {k:FuncId} {fn:Func} {c:Code} {args:List Value} {Φ:Value->World->Prop} (hf:P.funcs[k]?=some fn) (h:W P fn.ntmps c (retQ P fn Φ) (initF args) w) (hb:fn.body=some c:=by exact rfl) (hok:okc fn.ntmps c=true:=by kernel_rfl) (hl:Nat.ble args.length fn.ntmps=true:=by exact rfl):Calls P k args.toArray w (cN Φ):=iS hf hb hok (Nat.le_of_ble_eq_true hl) h
theorem st_E {fn:Func} {Φ:Value->World->Prop} {t:Nat} (hr:fn.results=#[.tmp t]) (h:Φ (f t) w) (ht:Nat.blt t fn.ntmps=true:=by exact rfl):W P fn.ntmps .ret (retQ P fn Φ) f w:=aDC (aRJ hr ht h)
end
theorem ft_:¬ (false=true):=by decide
theorem vI {p:Prop} (h:p:=by first|assumption|exact rfl|exact ft_):p:=h
inductive Rep:List eU->eU->(eU->List eU)->Prop
 |head {x:eU} {l:List eU}:Rep (x::l) x (fun y=>y::l)
 |tail {z x:eU} {l:List eU} {C:eU->List eU} (h:Rep l x C):Rep (z::l) x (fun y=>z::C y)
theorem Rep.ix {L:List eU} {x:eU} {C:eU->List eU} (h:Rep L x C):∃ i:Nat,L[i]?=some x/\∀ y,L.set i y=C y:=by
 induction h with
 |head=>exact ⟨0,rfl,fun _=>rfl⟩
 |tail h ih=>obtain ⟨i,h1,h2⟩:=ih;exact ⟨i+1,h1,fun y=>by rw [List.set_cons_succ,h2]⟩
theorem st_M {p:Prop} (h:p:=by with_reducible first|exact Rep.head|exact Rep.tail Rep.head|exact Rep.tail (Rep.tail Rep.head)|exact Rep.tail (Rep.tail (Rep.tail Rep.head))|exact Rep.tail (Rep.tail (Rep.tail (Rep.tail Rep.head)))|exact Rep.tail (Rep.tail (Rep.tail (Rep.tail (Rep.tail Rep.head))))|exact Rep.tail (Rep.tail (Rep.tail (Rep.tail (Rep.tail (Rep.tail Rep.head)))))|exact Rep.tail (Rep.tail (Rep.tail (Rep.tail (Rep.tail (Rep.tail (Rep.tail Rep.head))))))|exact Rep.tail (Rep.tail (Rep.tail (Rep.tail (Rep.tail (Rep.tail (Rep.tail (Rep.tail Rep.head)))))))|exact Rep.tail (Rep.tail (Rep.tail (Rep.tail (Rep.tail (Rep.tail (Rep.tail (Rep.tail (Rep.tail Rep.head))))))))|exact Rep.tail (Rep.tail (Rep.tail (Rep.tail (Rep.tail (Rep.tail (Rep.tail (Rep.tail (Rep.tail (Rep.tail Rep.head)))))))))|exact Rep.tail (Rep.tail (Rep.tail (Rep.tail (Rep.tail (Rep.tail (Rep.tail (Rep.tail (Rep.tail (Rep.tail (Rep.tail Rep.head))))))))))|exact Rep.tail (Rep.tail (Rep.tail (Rep.tail (Rep.tail (Rep.tail (Rep.tail (Rep.tail (Rep.tail (Rep.tail (Rep.tail (Rep.tail Rep.head)))))))))))|exact Rep.tail (Rep.tail (Rep.tail (Rep.tail (Rep.tail (Rep.tail (Rep.tail (Rep.tail (Rep.tail (Rep.tail (Rep.tail (Rep.tail (Rep.tail Rep.head))))))))))))):p:=h
inductive SetV:List Value->Nat->Value->List Value->Prop
 |zero {x v:Value} {l:List Value}:SetV (x::l) 0 v (v::l)
 |succ {x v:Value} {l m:List Value} {t:Nat} (h:SetV l t v m):SetV (x::l) (t+1) v (x::m)
theorem SetV.eq {l m:List Value} {t:Nat} {v:Value} (h:SetV l t v m):l.take t++[v]++l.drop (t+1)=m/\t+1<=l.length:=by
 induction h with
 |zero=>exact ⟨rfl,by simp⟩
 |succ h ih=>exact ⟨by simpa using ih.1,by simpa using ih.2⟩
inductive StR:Value->List Value->Nat->List Value->Nat->Prop
 |one {v:Value} {vs us:List Value} {t:Nat} (h:SetV vs t v us) (hv:v.cells=#[v]) (h1:v.oneCell'=true):StR v vs t us 1
 |all {v:Value} {vs us:List Value} {m:Nat} (hv:v.cells=us.toArray) (hm:us.length=m) (hl:vs.length=m) (h1:us.all (fun u=>u.oneCell')=true):StR v vs 0 us m
theorem st_U {p:Prop} (h:p:=by first|exact StR.one (by (repeat (first|exact SetV.zero|apply SetV.succ));first|done|fail) rfl rfl|exact StR.all rfl rfl rfl rfl):p:=h
section
variable {P:Program} {n:Nat} {ops:Array Oper} {rest:List Oper} {Q:mZ} {f:Nat->Value} {w:World} {d:Nat} {x y:Operand} {ty:TypeId} {pos:String} {af:Array Go.Edge} {G:mL} {K:Hp} {L:List eU} {C:eU->List eU}
theorem nB {T E:TypeId} {b t m:Nat} {vs us:List Value} {v:Value} (h:∀ w',aD G K (C (box b E us)) w'->WO P n ops rest Q f w') (hx:ev f x=.pointer (some ⟨b,t,none⟩):=by exact bM) (hs:aD G K L w:=by assumption) (hr:Rep L (box b E vs) C:=by exact st_M) (hy:ev f y=v:=by exact bM) (hT:∀ w,(Go.sizeOf T).run P w=.ok m w:=by exact st_z) (hu:StR v vs t us m:=by exact st_U):WO P n ops (⟨none,.store T x y,ty,pos,af,none⟩::rest) Q f w:=by
 obtain ⟨i,h1,h2⟩:=hr.ix
 cases hu with
 |one g1 g2 g3=>exact tB hT hs h1 hx hy g2 rfl (by simpa using g3) (by simpa using g1.eq.2) g1.eq.1 fun w' q=>h w' (h2 _ ▸ q)
 |all g1 g2 g3 g4=>exact tB hT hs h1 hx hy g1 g2 (by simpa using g4) (by simp [g3]) (by simp [g3]) fun w' q=>h w' (h2 _ ▸ q)
def ZA (P:Program) (T:TypeId) (vs:List Value):Prop:=∃ v,ZV P T v/\v.cells=vs.toArray
theorem pO {T:TypeId} {vs:List Value} (h:∀ b w',aD G K (box b T vs::L) w'->WO P n ops rest Q (upd f d (.pointer (some ⟨b,0,none⟩))) w') (hz:ZA P T vs:=by exact st_y) (hs:aD G K L w:=by assumption):WO P n ops (⟨some d,.alloc T,ty,pos,af,none⟩::rest) Q f w:=by
 obtain ⟨v,h1,h2⟩:=hz
 exact pM h1 hs h2 h
theorem sL {T:TypeId} {v:Value} {vs:List Value} (h:∀ b w',aD G K (box b T vs::L) w'->WO P n ops rest Q (upd f d (.pointer (some ⟨b,0,none⟩))) w') (hx:ev f x=v:=by exact bM) (hv:v.cells=vs.toArray:=by exact rfl) (hs:aD G K L w:=by assumption):WO P n ops (⟨some d,.box T x,ty,pos,af,none⟩::rest) Q f w:=aOU hs hx hv h
theorem els_pod {α:Type} [dY α] {K:Hp}:∀ {xs:List α},els K (xs.flatMap dY.enc) xs
 |[]=>trivial
 |x::xs=>by
  have e:(dY.enc x).length=El.sz α:=dY.len x
  have e1:((x::xs).flatMap dY.enc).take (El.sz α)=dY.enc x:=by rw [List.flatMap_cons,←e,List.take_left'];rfl
  have e2:((x::xs).flatMap dY.enc).drop (El.sz α)=xs.flatMap dY.enc:=by rw [List.flatMap_cons,←e,List.drop_left'];rfl
  refine ⟨?_,?_⟩
  ·rw [e1];exact rfl
  ·rw [e2];exact els_pod
theorem aTn {α:Type} [dY α]:∀ {xs:List α},(xs.flatMap dY.enc).length=xs.length * dY.sz α
 |[]=>by simp
 |x::xs=>by rw [List.flatMap_cons,List.length_append,dY.len,aTn,List.length_cons,Nat.succ_mul,Nat.add_comm]
theorem vJ {α:Type} {iα:dY α} {T E:TypeId} {sz len:Nat} {zs:List Value} {ps:Array (Nat × Operand)} (xs:List α) (h:∀ a w',aD G K (aJ E K a len xs::L) w'->WO P n ops rest Q (upd f d (.slice a len len)) w') (hT:yT P T E sz:=by exact st_S) (hE:EZ P E zs:=by exact st_e) (hsz:dY.sz α=sz:=by exact rfl) (hzs:zs.length=sz:=by exact rfl) (hs:aD G K L w:=by assumption) (hlen:xs.length=len:=by exact rfl)
  (hf:Instr.fill (fun i=>some (i * sz,sz)) ((Array.range (len * sz)).map ((if len * sz=0 then #[] else zs.toArray)[· % (if len * sz=0 then #[] else zs.toArray).size]!)) (ps.toList.map (fun p=>(p.1,ev f p.2)))=some (xs.flatMap dY.enc).toArray:=by first|exact rfl|kernel_rfl) (hbig:Nat.ble (len * sz) 16777216=true:=by exact rfl):
  WO P n ops (⟨some d,.buildSlice T len ps,ty,pos,af,none⟩::rest) Q f w:=
 fQ hT hE hsz hzs hs rfl hf hlen (by rw [aTn,hlen,hsz]) hbig els_pod h
end
section
variable {P:Program} {n:Nat} {ops:Array Oper} {rest:List Oper} {Q:mZ} {f:Nat->Value} {w:World} {d:Nat} {x y:Operand} {ty:TypeId} {pos:String} {af:Array Go.Edge} {G:mL} {K:Hp} {L:List eU} {C:eU->List eU} {α:Type}
theorem st_p {iα:dY α} {T E E2:TypeId} {sz:Nat} {zs:List Value} {a a2:Option Addr} {cap c2 l1 l2:Nat} {xs ys zz:List α} {Ke K2:Hp} (h:∀ a' cap' w',aD G K (C (aJ E K a' cap' zz)) w'->WO P n ops rest Q (upd f d (.slice a' zz.length cap')) w') (hT:yT P T E sz:=by exact st_S) (hU:P.underlying T=some (.slice E):=by exact st_u) (hE:EZ P E zs:=by exact st_e) (hx:ev f x=.slice a l1 cap:=by exact bM) (hy:ev f y=.slice a2 l2 c2:=by exact bM)
  (hs:aD G K (aJ E2 K2 a2 c2 ys::L) w:=by assumption) (hr:Rep L (aJ E Ke a cap xs) C:=by exact st_M) (hm:wR xs ys=some zz:=by assumption) (hsz:dY.sz α=sz:=by exact rfl) (hzs:zs.length=sz:=by exact rfl) (hl1:l1=xs.length:=by exact rfl) (hl2:l2=ys.length:=by exact rfl):
  WO P n ops (⟨some d,.call ⟨.builtin .append,#[x,y],#[T,T]⟩,ty,pos,af,none⟩::rest) Q f w:=by
 obtain ⟨i,h1,h2⟩:=hr.ix
 have hs:aD G K (aJ E2 K a2 c2 ys::L) w:=hs
 have h1:L[i]?=some (aJ E K a cap xs):=h1
 exact aLt hT hU hE hsz hzs hs h1 (Hp.le_refl _) (Hp.le_refl _) hm hx hl1 hy hl2 (fun _ h=>h) fun a' c' w' q=>h a' c' w' (h2 _ ▸ q)
end
inductive Sub:List eU->List eU->Prop
 |refl {l:List eU}:Sub l l
 |pick {l m k:List eU} {x:eU} (h:Pck l x m) (g:Sub m k):Sub l (x::k)
 |drop {l m:List eU} {x:eU} (g:Sub l m):Sub (x::l) m
 |nilS {α:Type} {iα:El α} {E:TypeId} {Ke:Hp} {l k:List eU} (g:Sub l k):Sub l (aJ E Ke none 0 ([]:List α)::k)
theorem Sub.sat {L M:List eU} (s:Sub L M):∀ {h:Hp},fF L h->fF M h:=by
 induction s with
 |refl=>exact fun a=>a
 |pick p _ ih=>
  intro h a
  obtain ⟨i,h1,rfl⟩:=p.ix
  obtain ⟨g1,g2,b1,b2,b3,b4,b5⟩:=a.pick h1
  exact ⟨g1,g2,b1,b2,b3,b4,ih b5⟩
 |drop _ ih=>
  intro h a
  obtain ⟨g1,g2,_,_,_,b4,b5⟩:=a
  exact (ih b5).le b4
 |nilS _ ih=>
  intro h a
  have e1:Hp.dj (fun _=>none) h:=fun _=>Or.inl rfl
  have e2:Hp.le (fun _=>none) h:=fun _ _ e=>by cases e
  exact ⟨fun _=>none,h,aJ.nil _ _ _,e1,e2,Hp.le_refl _,ih a⟩
theorem st_N {p:Prop} (h:p:=by (repeat (first|with_reducible exact Sub.refl|(apply Sub.pick (by with_reducible first|exact Pck.head|exact Pck.tail Pck.head|exact Pck.tail (Pck.tail Pck.head)|exact Pck.tail (Pck.tail (Pck.tail Pck.head))|exact Pck.tail (Pck.tail (Pck.tail (Pck.tail Pck.head)))|exact Pck.tail (Pck.tail (Pck.tail (Pck.tail (Pck.tail Pck.head))))|exact Pck.tail (Pck.tail (Pck.tail (Pck.tail (Pck.tail (Pck.tail Pck.head)))))|exact Pck.tail (Pck.tail (Pck.tail (Pck.tail (Pck.tail (Pck.tail (Pck.tail Pck.head))))))|exact Pck.tail (Pck.tail (Pck.tail (Pck.tail (Pck.tail (Pck.tail (Pck.tail (Pck.tail Pck.head)))))))|exact Pck.tail (Pck.tail (Pck.tail (Pck.tail (Pck.tail (Pck.tail (Pck.tail (Pck.tail (Pck.tail Pck.head))))))))|exact Pck.tail (Pck.tail (Pck.tail (Pck.tail (Pck.tail (Pck.tail (Pck.tail (Pck.tail (Pck.tail (Pck.tail Pck.head)))))))))|exact Pck.tail (Pck.tail (Pck.tail (Pck.tail (Pck.tail (Pck.tail (Pck.tail (Pck.tail (Pck.tail (Pck.tail (Pck.tail Pck.head))))))))))|exact Pck.tail (Pck.tail (Pck.tail (Pck.tail (Pck.tail (Pck.tail (Pck.tail (Pck.tail (Pck.tail (Pck.tail (Pck.tail (Pck.tail Pck.head)))))))))))|exact Pck.tail (Pck.tail (Pck.tail (Pck.tail (Pck.tail (Pck.tail (Pck.tail (Pck.tail (Pck.tail (Pck.tail (Pck.tail (Pck.tail (Pck.tail Pck.head))))))))))))))|(apply Sub.pick (by first|exact Pck.head|exact Pck.tail Pck.head|exact Pck.tail (Pck.tail Pck.head)|exact Pck.tail (Pck.tail (Pck.tail Pck.head))|exact Pck.tail (Pck.tail (Pck.tail (Pck.tail Pck.head)))|exact Pck.tail (Pck.tail (Pck.tail (Pck.tail (Pck.tail Pck.head))))))|apply Sub.nilS|apply Sub.drop));first|done|fail):p:=h
theorem nC {G:mL} {K K':Hp} {L M:List eU} {w:World} (hs:aD G K L w:=by assumption) (hk:K'.le K:=by first|exact Hp.le_refl _|exact kT) (hb:Sub L M:=by exact st_N):aD G K' M w:=
 have hs:=hs.weakK hk
 let ⟨e,h,gd,gl,d,k,l,r⟩:=hs;⟨e,h,gd,gl,d,k,l,hb.sat r⟩
section
variable {P:Program} {n:Nat} {Q:mZ} {f:Nat->Value} {w:World} {G:mL} {K:Hp} {L:List eU}
theorem aIi {id:Nat} {l:List Oper} (h:WQ P n l.toArray (aD G K L) l (fun f=>∀ w',aD G K L w'->Q .normal f w') f) (hs:aD G K L w:=by assumption) (hB:Region.lexB .any l.toArray=true:=by kernel_rfl) (hm:P.follows .mixedOrders=true:=by exact Tryz_mixed):W P n (.region id l.toArray true) Q f w:=
 aQT hm hB (hs.mono (gU.drew _)) h
theorem aKG {id:Nat} {os:List Oper} (l:List (Nat × Nat)) (h:∀ w',aD G K L w'->WE P n os.toArray (fun w'=>∃ L',aD G K L' w') l (fun f w=>Q .normal f w) f w') (hs:aD G K L w:=by assumption) (hB:(Region.noSelect os.toArray&&lastB .any os.toArray l&&ordB .any os.toArray l (Array.replicate os.toArray.size false)&&l.length == os.toArray.size)=true:=by kernel_rfl) (hm:P.follows .mixedOrders=true:=by exact Tryz_mixed):W P n (.region id os.toArray true) Q f w:=
 uD l hm hB (fun _ g=>⟨_,hs.mono g⟩) fun _ g=>h _ (hs.mono g)
end
theorem aNQ {α:Type} {a b:α} {p:Prop} (h:some a=some b) (k:a=b->p):p:=k (Option.some.inj h)
theorem st_no {α:Type} {a:α} {p:Prop} (h:none=some a):p:=nomatch h
theorem aCm {α:Type} {q:α->Prop} {p:Prop} (k:∀ x,q x->p) (h:∃ x,q x):p:=let ⟨x,h⟩:=h;k x h
theorem aCn {a b p:Prop} (k:a->b->p) (h:a/\b):p:=k h.1 h.2
section
variable {P:Program} {n:Nat} {ops:Array Oper} {rest:List Oper} {Q:mZ} {f:Nat->Value} {w:World} {d:Nat} {x y:Operand} {ty:TypeId} {pos:String} {af:Array Go.Edge} {G:mL} {K:Hp} {L:List eU}
theorem st_ca {k:FuncId} {xs:Array Operand} {ats:Array TypeId} {vs:List Value} {Φ:Value->World->Prop} (hk:CE P k) (hc:Calls P k vs.toArray w (cN Φ)) (hv:xs.toList.map (ev f)=vs) (h:∀ v w',Φ v w'->WO P n ops rest Q (upd f d v) w'):
  WO P n ops (⟨some d,.call ⟨.value (.func k),xs,ats⟩,ty,pos,af,none⟩::rest) Q f w:=cI hk hv hc h
theorem st_cb {k:FuncId} {xs:Array Operand} {ats:Array TypeId} {vs:List Value} {Φ:Value->World->Prop} (hk:CE P k) (hc:Calls P k vs.toArray w (cN Φ)) (hv:xs.toList.map (ev f)=vs) (h:∀ v w',Φ v w'->WO P n ops rest Q f w'):
  WO P n ops (⟨none,.call ⟨.value (.func k),xs,ats⟩,ty,pos,af,none⟩::rest) Q f w:=WO_call0 hk hv hc h
theorem st_cq {C:World->Prop} {R:(Nat->Value)->Prop} {k:FuncId} {xs:Array Operand} {ats:Array TypeId} {vs:List Value} {v:Value} (hk:CE P k) (hc:∀ w,C w->Calls P k vs.toArray w (cN fun u w'=>u=v/\C w')) (hv:xs.toList.map (ev f)=vs) (h:WQ P n ops C rest R (upd f d v)):
  WQ P n ops C (⟨some d,.call ⟨.value (.func k),xs,ats⟩,ty,pos,af,none⟩::rest) R f:=qW hk hv hc h
theorem st_i {α:Type} {iα:El α} {T E:TypeId} {sz:Nat} {a:Option Addr} {len cap:Nat} {xs:List α} {j:Int} {e:α} (hx:ev f x=.slice a len cap) (hy:ev f y=i64 j) (hr:aW K a cap xs) (hj:ix xs j=some e) (hl:len=xs.length) (hT:yT P T E sz) (hz:El.sz α=sz)
  (h:∀ cs,eM K a (j.toNat * sz) cs->El.rd K cs e->WO P n ops rest Q (upd f d (fL a (j.toNat * sz))) w):WO P n ops (⟨some d,.indexAddr T x y,ty,pos,af,none⟩::rest) Q f w:=
 let ⟨cs,h1,h2⟩:=aW.el hz hr hj
 aL (xT hT hz hr hx hl hy hj) (h cs h1 h2)
theorem st_iQ {C:World->Prop} {R:(Nat->Value)->Prop} {α:Type} {iα:El α} {T E:TypeId} {sz:Nat} {a:Option Addr} {len cap:Nat} {xs:List α} {j:Int} {e:α} (hx:ev f x=.slice a len cap) (hy:ev f y=i64 j) (hr:aW K a cap xs) (hj:ix xs j=some e) (hl:len=xs.length) (hT:yT P T E sz) (hz:El.sz α=sz)
  (h:∀ cs,eM K a (j.toNat * sz) cs->El.rd K cs e->WQ P n ops C rest R (upd f d (fL a (j.toNat * sz)))):WQ P n ops C (⟨some d,.indexAddr T x y,ty,pos,af,none⟩::rest) R f:=
 let ⟨cs,h1,h2⟩:=aW.el hz hr hj
 rO (fun _ _=>xT hT hz hr hx hl hy hj) (h cs h1 h2)
theorem st_iE {C:World->Prop} {R:(Nat->Value)->World->Prop} {os:List Oper} {l:List (Nat × Nat)} {i:Nat} {α:Type} {iα:El α} {T E:TypeId} {sz:Nat} {a:Option Addr} {len cap:Nat} {xs:List α} {j:Int} {e:α} (hi:aFs os i=some ⟨some d,.indexAddr T x y,ty,pos,af,none⟩) (hx:ev f x=.slice a len cap) (hy:ev f y=i64 j) (hr:aW K a cap xs) (hj:ix xs j=some e) (hl:len=xs.length) (hT:yT P T E sz) (hz:El.sz α=sz)
  (h:∀ cs,eM K a (j.toNat * sz) cs->El.rd K cs e->WE P n os.toArray C l R (upd f d (fL a (j.toNat * sz))) w):WE P n os.toArray C ((i,0)::l) R f w:=
 let ⟨cs,h1,h2⟩:=aW.el hz hr hj
 fM hi (fun _ _=>xT hT hz hr hx hl hy hj) (h cs h1 h2)
theorem st_pd {α:Type} [dY α] {K:Hp} {cs:List Value} {e:α} (h:El.rd K cs e):cs=dY.enc e:=h
theorem st_ba {α:Type} {iα:dY α} {T E:TypeId} {sz len:Nat} {zs:List Value} {ps:Array (Nat × Operand)} {xs ys zz:List α} (hq:wR ys xs=some zz) (h:∀ a w',aD G K (aJ E K a len xs::L) w'->WO P n ops rest Q (upd f d (.slice a len len)) w') (hT:yT P T E sz:=by exact st_S) (hE:EZ P E zs:=by exact st_e) (hsz:dY.sz α=sz:=by exact rfl) (hzs:zs.length=sz:=by exact rfl) (hs:aD G K L w:=by assumption) (hlen:xs.length=len:=by exact rfl)
  (hf:Instr.fill (fun i=>some (i * sz,sz)) ((Array.range (len * sz)).map ((if len * sz=0 then #[] else zs.toArray)[· % (if len * sz=0 then #[] else zs.toArray).size]!)) (ps.toList.map (fun p=>(p.1,ev f p.2)))=some (xs.flatMap dY.enc).toArray:=by first|exact rfl|kernel_rfl) (hbig:Nat.ble (len * sz) 16777216=true:=by exact rfl):
  WO P n ops (⟨some d,.buildSlice T len ps,ty,pos,af,none⟩::rest) Q f w:=vJ xs h hT hE hsz hzs hs hlen hf hbig
end
theorem st_g0 {P:Program} {n:Nat} {c:Operand} {x y:Code} {Q:mZ} {f:Nat->Value} {w:World} (h:W P n (.cond c x y) Q f w):W P n (.cond c x y) Q f w:=h
theorem st_g1 {P:Program} {n:Nat} {ops:Array Oper} {dst:Option Tmp} {op:Op} {ty:TypeId} {pos:String} {af:Array Go.Edge} {g:Nat × Bool} {rest:List Oper} {Q:mZ} {f:Nat->Value} {w:World} (h:WO P n ops (⟨dst,op,ty,pos,af,some g⟩::rest) Q f w):WO P n ops (⟨dst,op,ty,pos,af,some g⟩::rest) Q f w:=h
theorem st_g2 {P:Program} {n:Nat} {ops:Array Oper} {dst:Option Tmp} {op:Op} {ty:TypeId} {pos:String} {af:Array Go.Edge} {g:Nat × Bool} {rest:List Oper} {C:World->Prop} {R:(Nat->Value)->Prop} {f:Nat->Value} (h:WQ P n ops C (⟨dst,op,ty,pos,af,some g⟩::rest) R f):WQ P n ops C (⟨dst,op,ty,pos,af,some g⟩::rest) R f:=h
theorem st_g3 {P:Program} {n:Nat} {ops:Array Oper} {dst:Option Tmp} {x y z:Operand} {ty:TypeId} {pos:String} {af:Array Go.Edge} {rest:List Oper} {Q:mZ} {f:Nat->Value} {w:World} (h:WO P n ops (⟨dst,.pick x y z,ty,pos,af,none⟩::rest) Q f w):WO P n ops (⟨dst,.pick x y z,ty,pos,af,none⟩::rest) Q f w:=h
theorem st_g4 {P:Program} {n:Nat} {os:List Oper} {i q:Nat} {o:Oper} {g:Nat × Bool} {l:List (Nat × Nat)} {C:World->Prop} {R:(Nat->Value)->World->Prop} {f:Nat->Value} {w:World} (hi:(aFs os i).bind (·.guard)=some g) (h:WE P n os.toArray C ((i,q)::l) R f w):WE P n os.toArray C ((i,q)::l) R f w:=h
theorem st_we {P:Program} {n:Nat} {ops:Array Oper} {C:World->Prop} {l:List (Nat × Nat)} {R:(Nat->Value)->World->Prop} {f:Nat->Value} {w:World} {G:mL} {K:Hp} (h1:∃ L',aD G K L' w) (h2:WE P n ops C l R f w):(∃ L',aD G K L' w)/\WE P n ops C l R f w:=⟨h1,h2⟩
theorem st_cK {K K':Hp} {a:Option Addr} {k:Nat} {cs:List Value} (c:eM K a k cs) (h:K.le K'):eM K' a k cs:=c.mono h
theorem st_rK {α:Type} {iα:El α} {K K':Hp} {a:Option Addr} {cap:Nat} {xs:List α} (r:aW K a cap xs) (h:K.le K'):aW K' a cap xs:=r.mono h
section
variable {P:Program} {n:Nat} {ops:Array Oper} {rest:List Oper} {Q:mZ} {f:Nat->Value} {w:World} {G:mL} {K:Hp} {L M:List eU}
theorem nR {α:Type} {iα:El α} {E:TypeId} {Ke:Hp} {a:Option Addr} {cap:Nat} {xs:List α} (hs:aD G K L w) (p:Pck L (aJ E Ke a cap xs) M) (hK:Ke.le K) (h:∀ K',K.le K'->aW K' a cap xs->aD G K' M w->(∀ L' w',aD G K' L' w'->aD G K (aJ E Ke a cap xs::L') w')->WO P n ops rest Q f w):WO P n ops rest Q f w:=by
 obtain ⟨K',h1,h2,h3,h4⟩:=aD.lendSp hs hK p
 exact h K' h1 h2 h3 h4
theorem nS {E:TypeId} {b:Nat} {vs:List Value} (hs:aD G K L w) (p:Pck L (box b E vs) M) (h:∀ K',K.le K'->eM K' (some ⟨b,0,none⟩) 0 vs->aD G K' M w->(∀ L' w',aD G K' L' w'->aD G K (box b E vs::L') w')->WO P n ops rest Q f w):WO P n ops rest Q f w:=by
 obtain ⟨K',h1,h2,h3,h4⟩:=aD.lendBp hs p
 exact h K' h1 h2 h3 h4
theorem st_q2 {α:Type} {iα:dY α} {d:Nat} {x y:Operand} {ty:TypeId} {pos:String} {af:Array Go.Edge} {C:eU->List eU} {T E:TypeId} {sz:Nat} {zs:List Value} {a a2:Option Addr} {cap c2 l1 l2:Nat} {xs ys zz:List α} {Ke:Hp} (hx:ev f x=.slice a l1 cap) (hy:ev f y=.slice a2 l2 c2) (hr0:aW K a2 c2 ys) (hs:aD G K L w) (hr:Rep L (aJ E Ke a cap xs) C) (hm:wR xs ys=some zz) (hT:yT P T E sz) (hU:P.underlying T=some (.slice E)) (hE:EZ P E zs) (hsz:dY.sz α=sz) (hzs:zs.length=sz) (hl1:l1=xs.length) (hl2:l2=ys.length)
  (h:∀ a' cap' w',aD G K (C (aJ E K a' cap' zz)) w'->WO P n ops rest Q (upd f d (.slice a' zz.length cap')) w'):
  WO P n ops (⟨some d,.call ⟨.builtin .append,#[x,y],#[T,T]⟩,ty,pos,af,none⟩::rest) Q f w:=by
 obtain ⟨i,h1,h2⟩:=hr.ix
 have h1:L[i]?=some (aJ E K a cap xs):=h1
 exact aRN hT hU hE hsz hzs hs h1 (Hp.le_refl _) hr0 hm hx hl1 hy hl2 fun a' c' w' q=>h a' c' w' (h2 _ ▸ q)
end
end Gv
