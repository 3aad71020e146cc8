/- Bound arguments; rows that are taken or put; maps that may be nil; ways out of loops over maps. No program in sight. -/
import Derived.Test.YthbfapccpmppoaaGreatDoorJYR
import Derived.Test.YthbfapccpmppoaaGreatDoorJLM
set_option linter.all false
namespace Gv
open Go
section
variable {P:Program} {n:Nat} {ops:Array Oper} {rest:List Oper} {Q:lI} {f:Nat->Value} {w:World}
variable {d:Nat} {x y z:Operand} {ty:TypeId} {pos:String} {af:Array Go.Edge}
variable {G:kH} {K:Hp} {L:List eW}
end
section
variable {P:Program} {n:Nat} {ops:Array Oper} {rest:List Oper} {Q:lI} {f:Nat->Value} {w:World}
variable {d:Nat} {x y z:Operand} {ty:TypeId} {pos:String} {af:Array Go.Edge}
variable {G:kH} {K:Hp} {L:List eW} {α:Type} [Dp α] {tys:List TypeId} {hds:List (Dp.Hd α)} {xs zz:List α}
end
section
variable {G:kH} {K:Hp} {L:List eW} {w:World} {β:Type} [iQ β] {tys:List TypeId} {hds:List (Dp.Hd (List β))} {xs:List (List β)}
end
section
variable {P:Program} {n:Nat} {ops:Array Oper} {rest:List Oper} {Q:lI} {f:Nat->Value} {w:World}
variable {d:Nat} {x y z:Operand} {ty:TypeId} {pos:String} {af:Array Go.Edge}
variable {G:kH} {K:Hp} {L:List eW} {α:Type} [Dp α] {tys:List TypeId} {hds:List (Dp.Hd α)} {xs r:List α}
end
section
variable {α:Type} [El α] {G:kH} {K:Hp} {L:List eW} {w:World}
end
section
variable {P:Program} {n:Nat} {ops:Array Oper} {rest:List Oper} {Q:lI} {f:Nat->Value} {w:World}
variable {d:Nat} {x y z:Operand} {ty:TypeId} {pos:String} {af:Array Go.Edge}
variable {β:Type} [iQ β] {G:kH} {K:Hp} {L:List eW}
end
section
variable {κ ν:Type} [DecidableEq κ] [Vl κ] [Vl ν] {G:kH} {K:Hp} {L:List eW} {w:World}
end
section
variable {κ:Type}
end
end Gv
namespace Gv
open Go
section
variable {β:Type} [iQ β] {G:kH} {K Ke:Hp} {L:List eW} {w:World}
theorem aF.ex {γ:Type} {i:Nat} {A:eW} {B:γ->eW} {p:γ->Prop} (s:aF G K L w) (hi:L[i]?=some A) (h:∀ h1,A h1->∃ x,p x/\B x h1):∃ x,p x/\aF G K (L.set i (B x)) w:=by
 obtain ⟨e,g,gd,gl,d,k,l,r⟩:=s
 obtain ⟨h1,h2,a,dj,l1,l2,r'⟩:=r.pick hi
 obtain ⟨x,px,bx⟩:=h h1 a
 have hlt:i < L.length:=(List.getElem?_eq_some_iff.1 hi).1
 exact ⟨x,px,e,g,gd,gl,d,k,l,(fQ.put bx dj r' hlt).le (Hp.un_le l1 l2)⟩
def HdR (Ke:Hp) (hds:List (Option Addr × Nat)) (xs:List (List β)):Prop:=hds.length=xs.length/\∀ (j:Nat) (hd:Option Addr × Nat) (x:List β),hds[j]?=some hd->xs[j]?=some x->aW Ke hd.1 hd.2 x
theorem HdR.mono {K':Hp} {hds:List (Option Addr × Nat)} {xs:List (List β)} (h:HdR Ke hds xs) (hk:Ke.le K'):HdR K' hds xs:=⟨h.1,fun j hd x h1 h2=>(h.2 j hd x h1 h2).mono hk⟩
theorem HdR.set {hds:List (Option Addr × Nat)} {xs:List (List β)} (h:HdR Ke hds xs) {j:Nat} {hd:Option Addr × Nat} {x:List β} (hx:aW Ke hd.1 hd.2 x):HdR Ke (hds.set j hd) (xs.set j x):=by
 refine ⟨by rw [List.length_set,List.length_set];exact h.1,fun k d y h1 h2=>?_⟩
 rw [List.getElem?_set] at h1 h2
 by_cases e:j=k
 ·subst e
  rw [if_pos rfl] at h1 h2
  split at h1
  ·split at h2
   ·cases h1;cases h2;exact hx
   ·cases h2
  ·cases h1
 ·rw [if_neg e] at h1 h2
  exact h.2 k d y h1 h2
variable {P:Program} {n:Nat} {ops:Array Oper} {rest:List Oper} {Q:lI} {f:Nat->Value}
variable {d:Nat} {x y z:Operand} {ty:TypeId} {pos:String} {af:Array Go.Edge}
end
end Gv
namespace Gv
open Go
section
variable {P:Program} {w:World}
end
end Gv
namespace Gv
open Go
section
variable {P:Program} {f:Nat->Value} {w:World} {d:Nat} {x y:Operand} {ty:TypeId} {pos:String} {af:Array Go.Edge} {Ts:Array TypeId}
end
end Gv
namespace Gv
open Go
section
variable {α:Type} [Dp α] {tys:List TypeId} {hds:List (Dp.Hd α)} {xs zz:List α} {G:kH} {K:Hp} {L:List eW} {w:World}
end
section
variable {P:Program} {n:Nat} {ops:Array Oper} {rest:List Oper} {Q:lI} {f:Nat->Value} {w:World}
variable {x y:Operand} {ty:TypeId} {pos:String} {af:Array Go.Edge}
variable {G:kH} {K:Hp} {L:List eW}
variable {α:Type} [Dp α] {tys:List TypeId} {hds:List (Dp.Hd α)} {xs zz:List α}
end
end Gv
namespace Gv
open Vl (vl)
open Go
section
variable {P:Program} {f:Nat->Value} {w:World}
variable {d:Nat} {x y:Operand} {ty:TypeId} {pos:String} {af:Array Go.Edge}
end
section
variable {α:Type} [El α]
end
section
variable {κ ν:Type} [DecidableEq κ] [Vl κ] [Vl ν]
variable {P:Program} {n:Nat} {ops:Array Oper} {rest:List Oper} {Q:lI} {f:Nat->Value} {w:World}
variable {d:Nat} {x y z:Operand} {ty:TypeId} {pos:String} {af:Array Go.Edge}
variable {G:kH} {K:Hp} {L:List eW}
end
section
variable {G:kH} {K:Hp} {L:List eW} {w:World}
end
section
variable {P:Program} {md:Region.Mode} {ops:Array Oper} {C C':World->Prop}
def wpF (P:Program) (ops:Array Oper) (R:Act->World->Prop):List (Nat × Nat)->(World->Prop)->Act->World->Prop
 |[],_,a,w=>R a w
 |(i,0)::l,C,a,w=>∃ o v,ops[i]?=some o/\lN P ops C o v a/\wpF P ops R l C (a.put o.dst v) w
 |(i,1)::l,C,a,w=>wpOp P ops noQ i (fun a' w'=>∃ C':World->Prop,(∀ w,C' w->C w)/\C' w'/\wpF P ops R l C' a' w') a w
 |(_,_+2)::_,_,_,_=>False
end
section
variable {P:Program} {n:Nat} {C:World->Prop} {Q:lI} {f:Nat->Value} {w:World} {R:(Nat->Value)->World->Prop} {l:List (Nat × Nat)} {os:List Oper}
structure WFm (P:Program) (n:Nat) (ops:Array Oper) (C:World->Prop) (l:List (Nat × Nat)) (R:(Nat->Value)->World->Prop) (f:Nat->Value) (w:World):Prop where
 go:ops.all (fun o=>oko n o&&okg n ops o.guard)=true->wpF P ops (fun a w=>∃ f,a=act n f/\R f w) l C (act n f) w
end
section
variable {β:Type} [iQ β] {G:kH} {K:Hp} {L:List eW} {w:World}
end
section
variable {β:Type} [iQ β] {G:kH} {K Ke:Hp} {L:List eW} {w:World}
variable {P:Program} {n:Nat} {ops:Array Oper} {rest:List Oper} {Q:lI} {f:Nat->Value}
variable {d:Nat} {x y:Operand} {ty:TypeId} {pos:String} {af:Array Go.Edge}
theorem HdR.slc {hds:List (Dp.Hd (List β))} {xs r:List (List β)} {lo hi:Int} (h:HdR Ke hds xs) (hc:Gv.slc xs lo hi=some r):∃ h2:List (Dp.Hd (List β)),HdR Ke h2 r/\Gv.slc (cI hds xs) lo hi=some (cI h2 r):=by
 have hl:=h.1
 unfold Gv.slc at hc ⊢
 split at hc
 ·rename_i hb
  cases hc
  refine ⟨(hds.drop lo.toNat).take (hi.toNat - lo.toNat),⟨by simp [hl],fun j hd x h1 h2=>?_⟩,?_⟩
  ·by_cases hj:j < hi.toNat - lo.toNat
   ·rw [List.getElem?_take_of_lt hj,List.getElem?_drop] at h1 h2
    exact h.2 _ hd x h1 h2
   ·rw [List.getElem?_eq_none (by rw [List.length_take];omega)] at h1
    cases h1
  ·rw [if_pos ⟨hb.1,hb.2.1,by rw [xX hl];exact hb.2.2⟩]
   unfold cI
   rw [List.drop_zipWith,List.take_zipWith]
 ·cases hc
theorem HdR.app {h1 h2:List (Dp.Hd (List β))} {x1 x2:List (List β)} (a:HdR Ke h1 x1) (b:HdR Ke h2 x2):HdR Ke (h1++h2) (x1++x2):=by
 refine ⟨by rw [List.length_append,List.length_append,a.1,b.1],fun j hd x e1 e2=>?_⟩
 by_cases hj:j < h1.length
 ·rw [List.getElem?_append_left hj] at e1
  rw [List.getElem?_append_left (by rw [←a.1];exact hj)] at e2
  exact a.2 _ hd x e1 e2
 ·rw [List.getElem?_append_right (by omega)] at e1
  rw [List.getElem?_append_right (by rw [←a.1];omega),←a.1] at e2
  exact b.2 _ hd x e1 e2
end
end Gv
namespace Gv
open Go
section
variable {α:Type} [Dp α] {tys:List TypeId} {hds:List (Dp.Hd α)} {xs:List α} {G:kH} {K:Hp} {L:List eW} {w:World}
def aMh (tys:List TypeId) (hds:List (Dp.Hd α)) (xs:List α):eW:=fun h=>hds.length=xs.length/\rows tys hds xs h
theorem aF.closeL {i:Nat} (s:aF G K L w) (hi:L[i]?=some (rows tys hds xs)) (hl:hds.length=xs.length):aF G K (L.set i (aMh tys hds xs)) w:=
 s.weak hi (fun _ h=>⟨hl,h⟩)
theorem aPZ (E:TypeId) (tys:List TypeId) {L:List eW} (h:fQ L Hp.nil):fQ (aV E Hp.nil none 0 (cI ([]:List (Dp.Hd α)) ([]:List α))::aMh tys ([]:List (Dp.Hd α)) ([]:List α)::L) Hp.nil:=
 ⟨Hp.nil,Hp.nil,aV.nil _ _ _,Hp.nil_dj _,Hp.nil_le _,Hp.nil_le _,Hp.nil,Hp.nil,⟨rfl,trivial⟩,Hp.nil_dj _,Hp.nil_le _,Hp.nil_le _,h⟩
theorem nest_rd [El α] [DpEl α] {E:TypeId} {Ke h1 h2:Hp} {a:Option Addr} {cap:Nat} (a1:aV E Ke a cap (cI hds xs) h1) (a2:aMh tys hds xs h2) (l1:h1.le K) (l2:h2.le K):aW K a cap xs:=by
 obtain ⟨hl,a2⟩:=a2
 have hr:aW K a cap (cI hds xs):=aV.rd (K:=Hp.nil) (show aV E Hp.nil a cap (cI hds xs) h1 from a1) l1 (Hp.nil_le _)
 refine ⟨?_,?_,?_⟩
 ·have:=hr.room;rwa [xX hl] at this
 ·intro e
  obtain ⟨e1,e2⟩:=hr.nil e
  refine ⟨?_,e2⟩
  have:=xX hl
  rw [e1] at this
  exact List.length_eq_zero_iff.1 this.symm
 ·intro i d e
  have hi:i < hds.length:=by rw [hl];exact (List.getElem?_eq_some_iff.1 e).1
  have hh:hds[i]?=some hds[i]:=by simp [hi]
  obtain ⟨cs,hc,hcs⟩:=hr.cell i _ (aIW aFx hh e)
  have hcs':cs=Dp.enc hds[i] d:=hcs
  subst hcs'
  refine ⟨_,?_,aOV a2 l2 hh e⟩
  rw [DpEl.sz]
  exact hc
end
end Gv
namespace Gv
open Go
section
variable {N:Type} [iQ N]
inductive trd (K:Hp):Tr N->Option Addr->Prop
 |mk {n:N} {l:List (Tr N)} {a x:Option Addr} {c:Nat} (q:Nat->Option Addr) (h1:eR K a 0 (iQ.enc n++[Value.slice x l.length c])) (h2:l.length<=c) (h3:x=none->l=[]/\c=0)
   (h4:∀ i d,l[i]?=some d->eR K x (i * 1) [cE (q i) 0]) (h5:∀ i d,l[i]?=some d->trd K d (q i)):trd K (.mk n l) a
theorem trd.mono {K K':Hp} {t:Tr N} {a:Option Addr} (h:K.le K') (r:trd K t a):trd K' t a:=by
 induction r with
 |mk q h1 h2 h3 h4 h5 ih=>exact .mk q (h1.mono h) h2 h3 (fun i d e=>(h4 i d e).mono h) (fun i d e=>ih i d e)
instance:El (Tr N) where
 sz:=1
 rd K cs d:=∃ a,cs=[cE a 0]/\trd K d a
 mono:=fun h ⟨a,e,r⟩=>⟨a,e,r.mono h⟩
 len:=fun ⟨_,e,_⟩=>by rw [e];rfl
 one:=fun ⟨_,e,_⟩ v hv=>by rw [e] at hv;simp at hv;subst hv;rfl
 pos:=Nat.one_pos
theorem trd.el {K:Hp} {t:Tr N} {a:Option Addr} (h:trd K t a):∃ (x:Option Addr) (c:Nat),eR K a 0 (iQ.enc t.val++[Value.slice x t.kids.length c])/\aW K x c t.kids:=by
 cases h with
 |mk q h1 h2 h3 h4 h5=>exact ⟨_,_,h1,⟨h2,h3,fun i d e=>⟨_,h4 i d e,_,rfl,h5 i d e⟩⟩⟩
theorem trd_mk {K:Hp} {n:N} {l:List (Tr N)} {a x:Option Addr} {c:Nat} (h:eR K a 0 (iQ.enc n++[Value.slice x l.length c])) (r:aW K x c l):trd K (.mk n l) a:=by
 have hq:∀ i,∃ p:Option Addr,∀ d,l[i]?=some d->eR K x (i * 1) [cE p 0]/\trd K d p:=by
  intro i
  cases e:l[i]? with
  |none=>exact ⟨none,fun d h=>by cases h⟩
  |some d=>
   obtain ⟨cs,hc,p,rfl,hr⟩:=r.cell i d e
   exact ⟨p,fun d' h'=>by cases h';exact ⟨hc,hr⟩⟩
 exact .mk (fun i=>(hq i).choose) h r.room r.nil (fun i d e=>((hq i).choose_spec d e).1) (fun i d e=>((hq i).choose_spec d e).2)
end
end Gv
namespace Gv
open Go
structure Hd (q:Prop):Prop where
 k:q
theorem cB {p:Prop} (h:p:=by first|assumption|exact rfl):p:=h
theorem eU {p:Prop} (h:p:=by assumption):p:=h
theorem jP {p:Prop} (h:p:=by first|assumption|exact Hp.le_trans (by assumption) (by assumption)|exact Hp.le_trans (by assumption) (Hp.le_trans (by assumption) (by assumption))):p:=h
theorem aIh {p:Prop} (h:p:=by with_reducible first|exact List.Mem.head _|exact List.Mem.tail _ (List.Mem.head _)|exact List.Mem.tail _ (List.Mem.tail _ (List.Mem.head _))|exact List.Mem.tail _ (List.Mem.tail _ (List.Mem.tail _ (List.Mem.head _)))|exact List.Mem.tail _ (List.Mem.tail _ (List.Mem.tail _ (List.Mem.tail _ (List.Mem.head _))))|exact List.Mem.tail _ (List.Mem.tail _ (List.Mem.tail _ (List.Mem.tail _ (List.Mem.tail _ (List.Mem.head _)))))|exact List.Mem.tail _ (List.Mem.tail _ (List.Mem.tail _ (List.Mem.tail _ (List.Mem.tail _ (List.Mem.tail _ (List.Mem.head _))))))|exact List.Mem.tail _ (List.Mem.tail _ (List.Mem.tail _ (List.Mem.tail _ (List.Mem.tail _ (List.Mem.tail _ (List.Mem.tail _ (List.Mem.head _)))))))|exact List.Mem.tail _ (List.Mem.tail _ (List.Mem.tail _ (List.Mem.tail _ (List.Mem.tail _ (List.Mem.tail _ (List.Mem.tail _ (List.Mem.tail _ (List.Mem.head _))))))))|exact List.Mem.tail _ (List.Mem.tail _ (List.Mem.tail _ (List.Mem.tail _ (List.Mem.tail _ (List.Mem.tail _ (List.Mem.tail _ (List.Mem.tail _ (List.Mem.tail _ (List.Mem.head _)))))))))):p:=h
theorem aEE {γ:Type} {l:List γ} {a:γ} (h:a∈l):∃ i:Nat,l[i]?=some a:=by
 obtain ⟨i,hi,e⟩:=List.mem_iff_getElem.1 h
 exact ⟨i,by rw [List.getElem?_eq_getElem hi,e]⟩
section
variable {P:Program} {f:Nat->Value} {w:World} {d:Nat} {x y z:Operand} {ty:TypeId} {pos:String} {af:Array Go.Edge} {G:kH} {K:Hp} {L:List eW} {α:Type} {iα:El α}
structure EX (P:Program) (f:Nat->Value) (o:Op) (v:Value) (d:Nat) (ty:TypeId) (pos:String) (af:Array Go.Edge) (w:World):Prop where
 h:(execOp (ev f) ⟨some d,o,ty,pos,af,none⟩).run P w=.ok (.value v) w
theorem V_move {v:Value} (hx:ev f x=v):EX P f (.move x) v d ty pos af w:=⟨bC hx⟩
theorem V_assign {v:Value} (hx:ev f x=v):EX P f (.assign x) v d ty pos af w:=⟨dJ hx⟩
theorem V_moveC {v:Value}:EX P f (.move (.const v)) v d ty pos af w:=⟨bC rfl⟩
theorem V_assignC {v:Value}:EX P f (.assign (.const v)) v d ty pos af w:=⟨dJ rfl⟩
theorem V_moveF {k:FuncId}:EX P f (.move (.func k)) (.func (.func k) #[] #[]) d ty pos af w:=⟨bC rfl⟩
theorem V_assignF {k:FuncId}:EX P f (.assign (.func k)) (.func (.func k) #[] #[]) d ty pos af w:=⟨dJ rfl⟩
theorem V_not {b:Bool} {T:TypeId} (hx:ev f x=.bool b):EX P f (.unOp .not T x) (.bool (!b)) d ty pos af w:=⟨uT hx⟩
theorem V_nilP {ad:Addr} (hx:ev f x=.pointer (some ad)):EX P f (.nilCheck x) (.pointer (some ad)) d ty pos af w:=⟨vK hx⟩
theorem V_extract {vs:Array Value} {i:Nat} {v:Value} (hx:ev f x=.tuple vs) (hv:vs[i]?=some v):EX P f (.extract x i) v d ty pos af w:=⟨iL hx hv⟩
theorem V_lenS {T E:TypeId} {sz:Nat} {a:Option Addr} {len cap:Nat} (hT:SLT P T E sz) (hx:ev f x=.slice a len cap):EX P f (.call ⟨.builtin .len,#[x],#[T]⟩) (i64 len) d ty pos af w:=⟨aX hT hx⟩
theorem V_add {a b:Int} {T U:TypeId} (hx:ev f x=i64 a) (hy:ev f y=i64 b):EX P f (.binOp .add T x y U) (i64 (wr (a+b))) d ty pos af w:=⟨nI hx hy⟩
theorem V_sub {a b:Int} {T U:TypeId} (hx:ev f x=i64 a) (hy:ev f y=i64 b):EX P f (.binOp .sub T x y U) (i64 (wr (a - b))) d ty pos af w:=⟨kR hx hy⟩
theorem V_mul {a b:Int} {T U:TypeId} (hx:ev f x=i64 a) (hy:ev f y=i64 b):EX P f (.binOp .mul T x y U) (i64 (wr (a * b))) d ty pos af w:=⟨R_mul hx hy⟩
theorem V_lss {k:IntKind} {a b:Int} {T U:TypeId} (hx:ev f x=.int k a) (hy:ev f y=.int k b):EX P f (.binOp .lss T x y U) (.bool (decide (a < b))) d ty pos af w:=⟨eC hx hy⟩
theorem V_leq {k:IntKind} {a b:Int} {T U:TypeId} (hx:ev f x=.int k a) (hy:ev f y=.int k b):EX P f (.binOp .leq T x y U) (.bool (decide (a<=b))) d ty pos af w:=⟨R_leq hx hy⟩
theorem V_gtr {k:IntKind} {a b:Int} {T U:TypeId} (hx:ev f x=.int k a) (hy:ev f y=.int k b):EX P f (.binOp .gtr T x y U) (.bool (decide (b < a))) d ty pos af w:=⟨R_gtr hx hy⟩
theorem V_geq {k:IntKind} {a b:Int} {T U:TypeId} (hx:ev f x=.int k a) (hy:ev f y=.int k b):EX P f (.binOp .geq T x y U) (.bool (decide (b<=a))) d ty pos af w:=⟨aOl hx hy⟩
theorem V_eql {k:IntKind} {a b:Int} {T U:TypeId} (hx:ev f x=.int k a) (hy:ev f y=.int k b):EX P f (.binOp .eql T x y U) (.bool (a == b)) d ty pos af w:=⟨dN hx hy⟩
theorem V_neq {k:IntKind} {a b:Int} {T U:TypeId} (hx:ev f x=.int k a) (hy:ev f y=.int k b):EX P f (.binOp .neq T x y U) (.bool (a != b)) d ty pos af w:=⟨sI hx hy⟩
theorem V_eqlS {a b:aL} {T U:TypeId} (hx:ev f x=str a) (hy:ev f y=str b):EX P f (.binOp .eql T x y U) (.bool (a == b)) d ty pos af w:=⟨R_eqlS hx hy⟩
theorem V_neqS {a b:aL} {T U:TypeId} (hx:ev f x=str a) (hy:ev f y=str b):EX P f (.binOp .neq T x y U) (.bool (!(a == b))) d ty pos af w:=⟨R_neqS hx hy⟩
theorem V_lssS {a b:aL} {T U:TypeId} (hx:ev f x=str a) (hy:ev f y=str b):EX P f (.binOp .lss T x y U) (.bool (pM a b)) d ty pos af w:=⟨R_lssS hx hy⟩
theorem V_leqS {a b:aL} {T U:TypeId} (hx:ev f x=str a) (hy:ev f y=str b):EX P f (.binOp .leq T x y U) (.bool (pM a b||a == b)) d ty pos af w:=⟨R_leqS hx hy⟩
theorem V_gtrS {a b:aL} {T U:TypeId} (hx:ev f x=str a) (hy:ev f y=str b):EX P f (.binOp .gtr T x y U) (.bool (!(pM a b||a == b))) d ty pos af w:=⟨R_gtrS hx hy⟩
theorem V_geqS {a b:aL} {T U:TypeId} (hx:ev f x=str a) (hy:ev f y=str b):EX P f (.binOp .geq T x y U) (.bool (!pM a b)) d ty pos af w:=⟨R_geqS hx hy⟩
theorem V_nilE {a:Option Addr} {k kk:Nat} {cs:List Value} (hx:ev f x=cE a kk) (hc:eR K a k cs):
  EX P f (.nilCheck x) ((cE a kk)) d ty pos af w:=⟨dO hx hc⟩
theorem V_fldE {S:TypeId} {a:Option Addr} {i o k k0:Nat} {cs:List Value} (hx:ev f x=cE a k) (hc:eR K a k0 cs) (hF:FA P S i o):
  EX P f (.fieldAddr S x i) ((cE a (k+o))) d ty pos af w:=⟨cF hF hx hc rfl⟩
theorem V_fldP {S:TypeId} {b i o t:Nat} (hx:ev f x=.pointer (some ⟨b,t,none⟩)) (hF:FA P S i o):
  EX P f (.fieldAddr S x i) ((.pointer (some ⟨b,t+o,none⟩))) d ty pos af w:=⟨bH hF hx rfl⟩
theorem V_ixE {T E:TypeId} {sz:Nat} {a:Option Addr} {len cap:Nat} {xs:List α} {j:Int} {e:α} (hx:ev f x=.slice a len cap) (hy:ev f y=i64 j) (hr:aW K a cap xs) (hj:ix xs j=some e) (hl:len=xs.length) (hT:SLT P T E sz) (hz:El.sz α=sz):
  EX P f (.indexAddr T x y) ((cE a (j.toNat * sz))) d ty pos af w:=⟨cR hT hz hr hx hl hy hj⟩
theorem V_ixO {T E E':TypeId} {sz:Nat} {a:Option Addr} {len cap:Nat} {xs:List α} {j:Int} {e:α} {Ke:Hp} (hx:ev f x=.slice a len cap) (hy:ev f y=i64 j) (hs:aF G K L w) (hi:List.Mem (aV E' Ke a cap xs) L) (hj:ix xs j=some e) (hl:len=xs.length) (hT:SLT P T E sz) (hz:El.sz α=sz):
  EX P f (.indexAddr T x y) ((cE a (j.toNat * sz))) d ty pos af w:=by
 obtain ⟨i,hi⟩:=aEE hi
 exact ⟨R_ixO hT hz hs hi hx hl hy hj⟩
theorem aKZ {T:TypeId} {a:Option Addr} {k t:Nat} {cs:List Value} {v:Value} (hx:ev f x=cE a (k+t)) (hc:eR K a k cs) (hs:aF G K L w) (hv:cs[t]?=some v) (hT:SC P T):
  EX P f (.load T x) (v) d ty pos af w:=⟨bZ hT hs hc hx hv⟩
theorem aFZ {T:TypeId} {a:Option Addr} {k t m:Nat} {cs vs:List Value} (hx:ev f x=cE a (k+t)) (hc:eR K a k cs) (hs:aF G K L w) (hT:AG P T m) (hv:(cs.drop t).take m=vs) (hm:vs.length=m):
  EX P f (.load T x) ((.agg vs.toArray)) d ty pos af w:=⟨eD hT hs hc hx hv hm⟩
theorem V_ldB {T E:TypeId} {b t:Nat} {vs:List Value} {v:Value} (hx:ev f x=.pointer (some ⟨b,t,none⟩)) (hs:aF G K L w) (hi:List.Mem (box b E vs) L) (hv:vs[t]?=some v) (hT:SC P T):
  EX P f (.load T x) (v) d ty pos af w:=by
 obtain ⟨i,hi⟩:=aEE hi
 exact ⟨dD hT hs hi hx hv⟩
inductive DT:List Value->Nat->Nat->List Value->Prop
 |nil {l:List Value}:DT l 0 0 []
 |take {x:Value} {l us:List Value} {m:Nat} (h:DT l 0 m us):DT (x::l) 0 (m+1) (x::us)
 |drop {x:Value} {l us:List Value} {t m:Nat} (h:DT l t m us):DT (x::l) (t+1) m us
theorem DT.eq {l us:List Value} {t m:Nat} (h:DT l t m us):(l.drop t).take m=us/\us.length=m:=by
 induction h with
 |nil=>simp
 |take _ ih=>obtain ⟨h1,h2⟩:=ih;simp at h1;simp [h1,h2]
 |drop _ ih=>simpa using ih
theorem st_D {p:Prop} (h:p:=by repeat (first|exact DT.nil|apply DT.take|apply DT.drop)):p:=h
theorem V_ldBG {T E:TypeId} {b t m:Nat} {vs us:List Value} (hx:ev f x=.pointer (some ⟨b,t,none⟩)) (hs:aF G K L w) (hi:List.Mem (box b E vs) L) (hT:AG P T m) (hv:DT vs t m us):
  EX P f (.load T x) ((.agg us.toArray)) d ty pos af w:=by
 obtain ⟨i,hi⟩:=aEE hi
 exact ⟨jL hT hs hi hx hv.eq.1 hv.eq.2⟩
theorem V_rvG {n t b m:Nat} {T E:TypeId} {vs:List Value} (hp:f t=.pointer (some ⟨b,0,none⟩)) (hs:aF G K L w) (hi:List.Mem (box b E vs) L) (hT:AG P T m) (hm:vs.length=m) (ht:Nat.blt t n=true):aIV P n f w (.cell t T) (.agg vs.toArray):=by
 obtain ⟨i,hi⟩:=aEE hi
 exact aPU ht hT hs hi hp hm
theorem V_rvB {n t b:Nat} {T E:TypeId} {v:Value} (hp:f t=.pointer (some ⟨b,0,none⟩)) (hs:aF G K L w) (hi:List.Mem (box b E [v]) L) (hT:SC P T) (ht:Nat.blt t n=true):aIV P n f w (.cell t T) v:=by
 obtain ⟨i,hi⟩:=aEE hi
 exact rv_cell ht hT hs hi hp
theorem V_nilO {E:TypeId} {Ke:Hp} {kk:Nat} {a:Option Addr} {cap:Nat} {xs:List α} {j:Int} {e:α} (hx:ev f x=cE a kk) (hs:aF G K L w) (hi:List.Mem (aV E Ke a cap xs) L) (hj:ix xs j=some e):
  EX P f (.nilCheck x) ((cE a kk)) d ty pos af w:=by
 obtain ⟨i,hi⟩:=aEE hi
 exact ⟨R_nilO hs hi hj hx⟩
theorem V_fldO {S E:TypeId} {Ke:Hp} {q o k:Nat} {a:Option Addr} {cap:Nat} {xs:List α} {j:Int} {e:α} (hx:ev f x=cE a k) (hs:aF G K L w) (hi:List.Mem (aV E Ke a cap xs) L) (hj:ix xs j=some e) (hF:FA P S q o):
  EX P f (.fieldAddr S x q) ((cE a (k+o))) d ty pos af w:=by
 obtain ⟨i,hi⟩:=aEE hi
 exact ⟨R_fldO hF hs hi hj hx rfl⟩
theorem aLa {T:TypeId} {a:Option Addr} {k t:Nat} {cs:List Value} {v:Value} (hs:aF G K L w) (hc:eR K a k cs) (hx:ev f x=cE a (k+t)) (hv:cs[t]?=some v) (hT:SC P T):
  EX P f (.load T x) v d ty pos af w:=bZ hT hs hc hx hv |> EX.mk
theorem aOZ {T:TypeId} {a:Option Addr} {k t m:Nat} {cs vs:List Value} (hs:aF G K L w) (hc:eR K a k cs) (hx:ev f x=cE a (k+t)) (hT:AG P T m) (hv:(cs.drop t).take m=vs) (hm:vs.length=m):
  EX P f (.load T x) (.agg vs.toArray) d ty pos af w:=eD hT hs hc hx hv hm |> EX.mk
theorem V_ldO {β:Type} {iβ:iQ β} {T E:TypeId} {Ke:Hp} {kk t:Nat} {a:Option Addr} {cap:Nat} {xs:List β} {j:Int} {e:β} {v:Value} (hx:ev f x=cE a kk) (hs:aF G K L w) (hi:List.Mem (aV E Ke a cap xs) L) (hj:ix xs j=some e) (hkk:kk=j.toNat * iQ.sz β+t) (hv:(iQ.enc e)[t]?=some v) (hT:SC P T):
  EX P f (.load T x) v d ty pos af w:=by
 obtain ⟨i,hi⟩:=aEE hi
 exact ⟨oJ hT hs hi hj hx hkk hv⟩
theorem V_ldOG {β:Type} {iβ:iQ β} {T E:TypeId} {Ke:Hp} {kk t m:Nat} {a:Option Addr} {cap:Nat} {xs:List β} {j:Int} {e:β} {vs:List Value} (hx:ev f x=cE a kk) (hs:aF G K L w) (hi:List.Mem (aV E Ke a cap xs) L) (hj:ix xs j=some e) (hkk:kk=j.toNat * iQ.sz β+t) (hT:AG P T m) (hv:((iQ.enc e).drop t).take m=vs) (hm:vs.length=m):
  EX P f (.load T x) (.agg vs.toArray) d ty pos af w:=by
 obtain ⟨i,hi⟩:=aEE hi
 exact ⟨R_ldOG hT hs hi hj hx hkk hv hm⟩
theorem aLb {T:TypeId} {K':Hp} {a:Option Addr} {k t:Nat} {cs:List Value} {v:Value} (hx:ev f x=cE a (k+t)) (hc:eR K' a k cs) (hs:aF G K L w) (hK:K'.le K) (hv:cs[t]?=some v) (hT:SC P T):
  EX P f (.load T x) v d ty pos af w:=⟨bZ hT hs (hc.mono hK) hx hv⟩
theorem aPa {T:TypeId} {K':Hp} {a:Option Addr} {k t m:Nat} {cs vs:List Value} (hx:ev f x=cE a (k+t)) (hc:eR K' a k cs) (hs:aF G K L w) (hK:K'.le K) (hT:AG P T m) (hv:(cs.drop t).take m=vs) (hm:vs.length=m):
  EX P f (.load T x) (.agg vs.toArray) d ty pos af w:=⟨eD hT hs (hc.mono hK) hx hv hm⟩
theorem V_pickT {b:Bool} {v:Value} (hx:ev f x=.bool b) (hb:b=true) (hv:ev f y=v):
  EX P f (.pick x y z) (v) d ty pos af w:=⟨oI hb hx hv⟩
theorem V_pickF {b:Bool} {v:Value} (hx:ev f x=.bool b) (hb:¬ b=true) (hv:ev f z=v):
  EX P f (.pick x y z) (v) d ty pos af w:=⟨vJ hb hx hv⟩
theorem V_lenStr {T:TypeId} {s:aL} (hT:∀ w,(underlying T).run P w=.ok .string w) (hx:ev f x=str s):EX P f (.call ⟨.builtin .len,#[x],#[T]⟩) ((i64 s.length)) d ty pos af w:=⟨sK hT hx⟩
theorem V_ixS {T:TypeId} {s:aL} {j:Int} {c:UInt8} (hT:∀ w,(underlying T).run P w=.ok .string w) (hx:ev f x=str s) (hy:ev f y=i64 j) (hj:ix s j=some c):EX P f (.index T x y) ((u8 c)) d ty pos af w:=⟨R_ixS hT hx hy hj⟩
theorem V_conv64 {S T:TypeId} {k:IntKind} {a:Int} (hT:∀ w,(underlying T).run P w=.ok (.int .i64) w) (hx:ev f x=.int k a) (hS:∃ d,∀ w,(underlying S).run P w=.ok d w):EX P f (.convert S T x) ((.int .i64 (wr a))) d ty pos af w:=⟨aPS hT hx hS⟩
theorem V_convu8' {S T:TypeId} {k:IntKind} {a:Int} (hT:∀ w,(underlying T).run P w=.ok (.int .u8) w) (hx:ev f x=.int k a) (hS:∃ d,∀ w,(underlying S).run P w=.ok d w):EX P f (.convert S T x) ((.int .u8 ((UInt8.ofInt a).toNat:Int))) d ty pos af w:=⟨R_convu8' hT hx hS⟩
theorem V_u8sub' {a b:UInt8} {T U:TypeId} (hx:ev f x=.int .u8 (a.toNat:Int)) (hy:ev f y=.int .u8 (b.toNat:Int)):EX P f (.binOp .sub T x y U) ((.int .u8 ((a - b).toNat:Int))) d ty pos af w:=⟨aPV hx hy⟩
theorem V_neg {a:Int} {T:TypeId} (hx:ev f x=i64 a):EX P f (.unOp .neg T x) ((i64 (wr (0 - a)))) d ty pos af w:=⟨R_neg hx⟩
theorem V_quo {a b c:Int} {T U:TypeId} (hx:ev f x=i64 a) (hy:ev f y=i64 b) (hc:qu a b=some c):EX P f (.binOp .quo T x y U) ((i64 c)) d ty pos af w:=⟨R_quo hx hy hc⟩
theorem V_rem {a b c:Int} {T U:TypeId} (hx:ev f x=i64 a) (hy:ev f y=i64 b) (hc:rm a b=some c):EX P f (.binOp .rem T x y U) ((i64 c)) d ty pos af w:=⟨R_rem hx hy hc⟩
theorem V_cat {a b c:aL} {T U:TypeId} (hx:ev f x=str a) (hy:ev f y=str b) (hc:eK a b=some c):EX P f (.binOp .add T x y U) ((str c)) d ty pos af w:=⟨dX hx hy hc⟩
theorem V_neqB {a b:Bool} {T U:TypeId} (hT:∀ w,(underlying T).run P w=.ok .bool w) (hx:ev f x=.bool a) (hy:ev f y=.bool b):EX P f (.binOp .neq T x y U) ((.bool (a != b))) d ty pos af w:=⟨R_neqB hT hx hy⟩
theorem V_slSLH {s r:aL} {lo hi:Int} {T:TypeId} (hT:∀ w,(underlying T).run P w=.ok .string w) (hx:ev f x=str s) (hl:ev f y=i64 lo) (hh:ev f z=i64 hi) (hr:slc s lo hi=some r):EX P f (.slice T x (some y) (some z) none) ((str r)) d ty pos af w:=⟨R_slSLH hT hx hl hh hr⟩
theorem V_slSL {s r:aL} {lo:Int} {T:TypeId} (hT:∀ w,(underlying T).run P w=.ok .string w) (hx:ev f x=str s) (hl:ev f y=i64 lo) (hr:slc s lo (s.length:Int)=some r):EX P f (.slice T x (some y) none none) ((str r)) d ty pos af w:=⟨R_slSL hT hx hl hr⟩
theorem V_slSH {s r:aL} {hi:Int} {T:TypeId} (hT:∀ w,(underlying T).run P w=.ok .string w) (hx:ev f x=str s) (hh:ev f z=i64 hi) (hr:slc s 0 hi=some r):EX P f (.slice T x none (some z) none) ((str r)) d ty pos af w:=⟨R_slSH hT hx hh hr⟩
theorem V_build {T:TypeId} {places:List (Nat × Nat)} {zs cs:List Value} {ps:Array (Nat × Operand)} {vs:List (Nat × Value)} (hB:BS P T places zs)
  (hp:ps.toList.map (fun p=>(p.1,ev f p.2))=vs) (hf:Instr.fill (fun i=>places[i]?) zs.toArray vs=some cs.toArray):EX P f (.build T ps) ((.agg cs.toArray)) d ty pos af w:=⟨aCR hB hp hf⟩
theorem aRd {fn:Fn} {xs:Array Operand} {vs:List Value} (hv:xs.toList.map (ev f)=vs):EX P f (.makeFunc fn #[] xs) ((.func fn #[] vs.toArray)) d ty pos af w:=⟨xV hv⟩
end
section
variable {P:Program} {n:Nat} {ops:Array Oper} {Q:lI} {f:Nat->Value} {w:World} {ty:TypeId} {pos:String} {af:Array Go.Edge} {rest:List Oper} {C:World->Prop} {R:(Nat->Value)->Prop}
theorem VO {v:Value} {d:Nat} {op:Op} (hr:EX P f op v d ty pos af w) (h:WO P n ops rest Q (upd f d v) w):WO P n ops (⟨some d,op,ty,pos,af,none⟩::rest) Q f w:=aC hr.h h
theorem VQ {v:Value} {d:Nat} {op:Op} (hr:∀ w,C w->EX P f op v d ty pos af w) (h:WQ P n ops C rest R (upd f d v)):WQ P n ops C (⟨some d,op,ty,pos,af,none⟩::rest) R f:=bE (fun w hw=>(hr w hw).h) h
theorem V_onT {j g:Nat} {op:Op} {dst:Option Tmp} {b:Bool} (hd:(ops[j]?).bind (·.dst)=some g) (hx:f g=.bool b) (hb:b=true) (h:WO P n ops (⟨dst,op,ty,pos,af,none⟩::rest) Q f w):WO P n ops (⟨dst,op,ty,pos,af,some (j,true)⟩::rest) Q f w:=bU hb hd hx h
theorem V_onF {j g:Nat} {op:Op} {dst:Option Tmp} {b:Bool} (hd:(ops[j]?).bind (·.dst)=some g) (hx:f g=.bool b) (hb:¬ b=true) (h:WO P n ops (⟨dst,op,ty,pos,af,none⟩::rest) Q f w):WO P n ops (⟨dst,op,ty,pos,af,some (j,false)⟩::rest) Q f w:=kI hb hd hx h
theorem V_offF {j g:Nat} {op:Op} {dst:Option Tmp} {b:Bool} (hd:(ops[j]?).bind (·.dst)=some g) (hx:f g=.bool b) (hb:¬ b=true) (h:WO P n ops rest Q (aDK f dst undef) w):WO P n ops (⟨dst,op,ty,pos,af,some (j,true)⟩::rest) Q f w:=kA hb hd hx h
theorem V_offT {j g:Nat} {op:Op} {dst:Option Tmp} {b:Bool} (hd:(ops[j]?).bind (·.dst)=some g) (hx:f g=.bool b) (hb:b=true) (h:WO P n ops rest Q (aDK f dst undef) w):WO P n ops (⟨dst,op,ty,pos,af,some (j,false)⟩::rest) Q f w:=aDL hb hd hx h
theorem Q_onT {j g:Nat} {op:Op} {dst:Option Tmp} {b:Bool} (hd:(ops[j]?).bind (·.dst)=some g) (hx:f g=.bool b) (hb:b=true) (h:WQ P n ops C (⟨dst,op,ty,pos,af,none⟩::rest) R f):WQ P n ops C (⟨dst,op,ty,pos,af,some (j,true)⟩::rest) R f:=xM hd hx hb h
theorem Q_onF {j g:Nat} {op:Op} {dst:Option Tmp} {b:Bool} (hd:(ops[j]?).bind (·.dst)=some g) (hx:f g=.bool b) (hb:¬ b=true) (h:WQ P n ops C (⟨dst,op,ty,pos,af,none⟩::rest) R f):WQ P n ops C (⟨dst,op,ty,pos,af,some (j,false)⟩::rest) R f:=xM hd hx (by simpa using hb) h
theorem Q_offF {j g:Nat} {op:Op} {dst:Option Tmp} {b:Bool} (hd:(ops[j]?).bind (·.dst)=some g) (hx:f g=.bool b) (hb:¬ b=true) (h:WQ P n ops C rest R (aDK f dst undef)):WQ P n ops C (⟨dst,op,ty,pos,af,some (j,true)⟩::rest) R f:=aAG hd hx (by cases b<;>simp_all) h
theorem Q_offT {j g:Nat} {op:Op} {dst:Option Tmp} {b:Bool} (hd:(ops[j]?).bind (·.dst)=some g) (hx:f g=.bool b) (hb:b=true) (h:WQ P n ops C rest R (aDK f dst undef)):WQ P n ops C (⟨dst,op,ty,pos,af,some (j,false)⟩::rest) R f:=aAG hd hx (by cases b<;>simp_all) h
theorem V_condT {c:Operand} {x y:Code} {b:Bool} (hc:ev f c=.bool b) (hb:b=true) (h:W P n x Q f w):W P n (.cond c x y) Q f w:=aS hb hc h
theorem V_condF {c:Operand} {x y:Code} {b:Bool} (hc:ev f c=.bool b) (hb:¬ b=true) (h:W P n y Q f w):W P n (.cond c x y) Q f w:=aP hb hc h
end
section
variable {P:Program} {n:Nat} {ops:Array Oper} {Q:lI} {f:Nat->Value} {w:World} {ty:TypeId} {pos:String} {af:Array Go.Edge} {rest:List Oper} {C:World->Prop} {R:(Nat->Value)->World->Prop} {os:List Oper} {l:List (Nat × Nat)} {d:Nat} {op:Op} {v:Value}
theorem V_WE {i:Nat} (hi:aED os i=some ⟨some d,op,ty,pos,af,none⟩) (hr:∀ w,C w->EX P f op v d ty pos af w) (h:WE P n os.toArray C l R (upd f d v) w):WE P n os.toArray C ((i,0)::l) R f w:=dL hi (fun w hw=>(hr w hw).h) h
theorem V_WT {i:Nat} (hi:aED os i=some ⟨some d,op,ty,pos,af,none⟩) (hr:∀ w,EX P f op v d ty pos af w) (h:WE P n os.toArray C l R (upd f d v) w):WE P n os.toArray C ((i,3)::l) R f w:=WE_t hi (fun w=>(hr w).h) h
theorem V_L {T:TypeId} {x:Operand} (h:EX P f (.load T x) v d ty pos af w):EX P f (.load T x) v d ty pos af w:=h
theorem V_B {o:BinOp} {T U:TypeId} {x y:Operand} (h:EX P f (.binOp o T x y U) v d ty pos af w):EX P f (.binOp o T x y U) v d ty pos af w:=h
theorem st_I {k:FuncId} {fn:Func} {c:Code} {args:List Value} {Φ:Value->World->Prop} (hf:P.funcs[k]?=some fn) (h:W P fn.ntmps c (retQ P fn Φ) (initF args) w) (hb:fn.body=some c:=by exact rfl) (hok:okc fn.ntmps c=true:=by kernel_rfl) (hl:Nat.ble args.length fn.ntmps=true:=by exact rfl):Calls P k args.toArray w (cL Φ):=aN hf hb hok (Nat.le_of_ble_eq_true hl) h
end
theorem ft_:¬ (false=true):=by decide
theorem aLr {p:Prop} (h:p:=by first|assumption|exact rfl|exact ft_):p:=h
inductive Rep:List eW->eW->(eW->List eW)->Prop
 |head {x:eW} {l:List eW}:Rep (x::l) x (fun y=>y::l)
 |tail {z x:eW} {l:List eW} {C:eW->List eW} (h:Rep l x C):Rep (z::l) x (fun y=>z::C y)
theorem Rep.ix {L:List eW} {x:eW} {C:eW->List eW} (h:Rep L x C):∃ i:Nat,L[i]?=some x/\∀ y,L.set i y=C y:=by
 induction h with
 |head=>exact ⟨0,rfl,fun _=>rfl⟩
 |tail h ih=>obtain ⟨i,h1,h2⟩:=ih;exact ⟨i+1,h1,fun y=>by rw [List.set_cons_succ,h2]⟩
theorem st_M {p:Prop} (h:p:=by with_reducible first|exact Rep.head|exact Rep.tail Rep.head|exact Rep.tail (Rep.tail Rep.head)|exact Rep.tail (Rep.tail (Rep.tail Rep.head))|exact Rep.tail (Rep.tail (Rep.tail (Rep.tail Rep.head)))|exact Rep.tail (Rep.tail (Rep.tail (Rep.tail (Rep.tail Rep.head))))|exact Rep.tail (Rep.tail (Rep.tail (Rep.tail (Rep.tail (Rep.tail Rep.head)))))|exact Rep.tail (Rep.tail (Rep.tail (Rep.tail (Rep.tail (Rep.tail (Rep.tail Rep.head))))))|exact Rep.tail (Rep.tail (Rep.tail (Rep.tail (Rep.tail (Rep.tail (Rep.tail (Rep.tail Rep.head)))))))|exact Rep.tail (Rep.tail (Rep.tail (Rep.tail (Rep.tail (Rep.tail (Rep.tail (Rep.tail (Rep.tail Rep.head))))))))|exact Rep.tail (Rep.tail (Rep.tail (Rep.tail (Rep.tail (Rep.tail (Rep.tail (Rep.tail (Rep.tail (Rep.tail Rep.head)))))))))|exact Rep.tail (Rep.tail (Rep.tail (Rep.tail (Rep.tail (Rep.tail (Rep.tail (Rep.tail (Rep.tail (Rep.tail (Rep.tail Rep.head))))))))))|exact Rep.tail (Rep.tail (Rep.tail (Rep.tail (Rep.tail (Rep.tail (Rep.tail (Rep.tail (Rep.tail (Rep.tail (Rep.tail (Rep.tail Rep.head)))))))))))|exact Rep.tail (Rep.tail (Rep.tail (Rep.tail (Rep.tail (Rep.tail (Rep.tail (Rep.tail (Rep.tail (Rep.tail (Rep.tail (Rep.tail (Rep.tail Rep.head))))))))))))):p:=h
inductive SetV:List Value->Nat->Value->List Value->Prop
 |zero {x v:Value} {l:List Value}:SetV (x::l) 0 v (v::l)
 |succ {x v:Value} {l m:List Value} {t:Nat} (h:SetV l t v m):SetV (x::l) (t+1) v (x::m)
theorem SetV.eq {l m:List Value} {t:Nat} {v:Value} (h:SetV l t v m):l.take t++[v]++l.drop (t+1)=m/\t+1<=l.length:=by
 induction h with
 |zero=>exact ⟨rfl,by simp⟩
 |succ h ih=>exact ⟨by simpa using ih.1,by simpa using ih.2⟩
inductive StR:Value->List Value->Nat->List Value->Nat->Prop
 |one {v:Value} {vs us:List Value} {t:Nat} (h:SetV vs t v us) (hv:v.cells=#[v]) (h1:v.oneCell'=true):StR v vs t us 1
 |all {v:Value} {vs us:List Value} {m:Nat} (hv:v.cells=us.toArray) (hm:us.length=m) (hl:vs.length=m) (h1:us.all (fun u=>u.oneCell')=true):StR v vs 0 us m
theorem st_U {p:Prop} (h:p:=by first|exact StR.one (by (repeat (first|exact SetV.zero|apply SetV.succ));first|done|fail) rfl rfl|exact StR.all rfl rfl rfl rfl):p:=h
section
variable {P:Program} {n:Nat} {ops:Array Oper} {rest:List Oper} {Q:lI} {f:Nat->Value} {w:World} {d:Nat} {x y:Operand} {ty:TypeId} {pos:String} {af:Array Go.Edge} {G:kH} {K:Hp} {L:List eW} {C:eW->List eW}
theorem st_s {T E:TypeId} {b t m:Nat} {vs us:List Value} {v:Value} (h:∀ w',aF G K (C (box b E us)) w'->WO P n ops rest Q f w') (hx:ev f x=.pointer (some ⟨b,t,none⟩):=by exact cB) (hs:aF G K L w:=by assumption) (hr:Rep L (box b E vs) C:=by exact st_M) (hy:ev f y=v:=by exact cB) (hT:∀ w,(Go.sizeOf T).run P w=.ok m w:=by exact st_z) (hu:StR v vs t us m:=by exact st_U):WO P n ops (⟨none,.store T x y,ty,pos,af,none⟩::rest) Q f w:=by
 obtain ⟨i,h1,h2⟩:=hr.ix
 cases hu with
 |one g1 g2 g3=>exact fA hT hs h1 hx hy g2 rfl (by simpa using g3) (by simpa using g1.eq.2) g1.eq.1 fun w' q=>h w' (h2 _ ▸ q)
 |all g1 g2 g3 g4=>exact fA hT hs h1 hx hy g1 g2 (by simpa using g4) (by simp [g3]) (by simp [g3]) fun w' q=>h w' (h2 _ ▸ q)
def ZA (P:Program) (T:TypeId) (vs:List Value):Prop:=∃ v,ZV P T v/\v.cells=vs.toArray
theorem st_a {T:TypeId} {vs:List Value} (h:∀ b w',aF G K (box b T vs::L) w'->WO P n ops rest Q (upd f d (.pointer (some ⟨b,0,none⟩))) w') (hz:ZA P T vs:=by exact st_y) (hs:aF G K L w:=by assumption):WO P n ops (⟨some d,.alloc T,ty,pos,af,none⟩::rest) Q f w:=by
 obtain ⟨v,h1,h2⟩:=hz
 exact eE h1 hs h2 h
theorem st_x {T:TypeId} {v:Value} {vs:List Value} (h:∀ b w',aF G K (box b T vs::L) w'->WO P n ops rest Q (upd f d (.pointer (some ⟨b,0,none⟩))) w') (hx:ev f x=v:=by exact cB) (hv:v.cells=vs.toArray:=by exact rfl) (hs:aF G K L w:=by assumption):WO P n ops (⟨some d,.box T x,ty,pos,af,none⟩::rest) Q f w:=eT hs hx hv h
theorem els_pod {α:Type} [iQ α] {K:Hp}:∀ {xs:List α},els K (xs.flatMap iQ.enc) xs
 |[]=>trivial
 |x::xs=>by
  have e:(iQ.enc x).length=El.sz α:=iQ.len x
  have e1:((x::xs).flatMap iQ.enc).take (El.sz α)=iQ.enc x:=by rw [List.flatMap_cons,←e,List.take_left'];rfl
  have e2:((x::xs).flatMap iQ.enc).drop (El.sz α)=xs.flatMap iQ.enc:=by rw [List.flatMap_cons,←e,List.drop_left'];rfl
  refine ⟨?_,?_⟩
  ·rw [e1];exact rfl
  ·rw [e2];exact els_pod
theorem aQb {α:Type} [iQ α]:∀ {xs:List α},(xs.flatMap iQ.enc).length=xs.length * iQ.sz α
 |[]=>by simp
 |x::xs=>by rw [List.flatMap_cons,List.length_append,iQ.len,aQb,List.length_cons,Nat.succ_mul,Nat.add_comm]
theorem st_b {α:Type} {iα:iQ α} {T E:TypeId} {sz len:Nat} {zs:List Value} {ps:Array (Nat × Operand)} (xs:List α) (h:∀ a w',aF G K (aV E K a len xs::L) w'->WO P n ops rest Q (upd f d (.slice a len len)) w') (hT:SLT P T E sz:=by exact st_S) (hE:EZ P E zs:=by exact st_e) (hsz:iQ.sz α=sz:=by exact rfl) (hzs:zs.length=sz:=by exact rfl) (hs:aF G K L w:=by assumption) (hlen:xs.length=len:=by exact rfl)
  (hf:Instr.fill (fun i=>some (i * sz,sz)) ((Array.range (len * sz)).map ((if len * sz=0 then #[] else zs.toArray)[· % (if len * sz=0 then #[] else zs.toArray).size]!)) (ps.toList.map (fun p=>(p.1,ev f p.2)))=some (xs.flatMap iQ.enc).toArray:=by first|exact rfl|kernel_rfl) (hbig:Nat.ble (len * sz) 16777216=true:=by exact rfl):
  WO P n ops (⟨some d,.buildSlice T len ps,ty,pos,af,none⟩::rest) Q f w:=
 dK hT hE hsz hzs hs rfl hf hlen (by rw [aQb,hlen,hsz]) hbig els_pod h
end
section
variable {P:Program} {n:Nat} {ops:Array Oper} {rest:List Oper} {Q:lI} {f:Nat->Value} {w:World} {d:Nat} {x y:Operand} {ty:TypeId} {pos:String} {af:Array Go.Edge} {G:kH} {K:Hp} {L:List eW} {C:eW->List eW} {α:Type}
theorem st_p {iα:iQ α} {T E E2:TypeId} {sz:Nat} {zs:List Value} {a a2:Option Addr} {cap c2 l1 l2:Nat} {xs ys zz:List α} {Ke K2:Hp} (h:∀ a' cap' w',aF G K (C (aV E K a' cap' zz)) w'->WO P n ops rest Q (upd f d (.slice a' zz.length cap')) w') (hT:SLT P T E sz:=by exact st_S) (hU:P.underlying T=some (.slice E):=by exact st_u) (hE:EZ P E zs:=by exact st_e) (hx:ev f x=.slice a l1 cap:=by exact cB) (hy:ev f y=.slice a2 l2 c2:=by exact cB)
  (hs:aF G K (aV E2 K2 a2 c2 ys::L) w:=by assumption) (hr:Rep L (aV E Ke a cap xs) C:=by exact st_M) (hm:oH xs ys=some zz:=by assumption) (hsz:iQ.sz α=sz:=by exact rfl) (hzs:zs.length=sz:=by exact rfl) (hl1:l1=xs.length:=by exact rfl) (hl2:l2=ys.length:=by exact rfl):
  WO P n ops (⟨some d,.call ⟨.builtin .append,#[x,y],#[T,T]⟩,ty,pos,af,none⟩::rest) Q f w:=by
 obtain ⟨i,h1,h2⟩:=hr.ix
 have hs:aF G K (aV E2 K a2 c2 ys::L) w:=hs
 have h1:L[i]?=some (aV E K a cap xs):=h1
 exact jQ hT hU hE hsz hzs hs h1 (Hp.le_refl _) (Hp.le_refl _) hm hx hl1 hy hl2 (fun _ h=>h) fun a' c' w' q=>h a' c' w' (h2 _ ▸ q)
end
inductive Sub:List eW->List eW->Prop
 |refl {l:List eW}:Sub l l
 |pick {l m k:List eW} {x:eW} (h:Pck l x m) (g:Sub m k):Sub l (x::k)
 |drop {l m:List eW} {x:eW} (g:Sub l m):Sub (x::l) m
 |nilS {α:Type} {iα:El α} {E:TypeId} {Ke:Hp} {l k:List eW} (g:Sub l k):Sub l (aV E Ke none 0 ([]:List α)::k)
theorem Sub.sat {L M:List eW} (s:Sub L M):∀ {h:Hp},fQ L h->fQ M h:=by
 induction s with
 |refl=>exact fun a=>a
 |pick p _ ih=>
  intro h a
  obtain ⟨i,h1,rfl⟩:=p.ix
  obtain ⟨g1,g2,b1,b2,b3,b4,b5⟩:=a.pick h1
  exact ⟨g1,g2,b1,b2,b3,b4,ih b5⟩
 |drop _ ih=>
  intro h a
  obtain ⟨g1,g2,_,_,_,b4,b5⟩:=a
  exact (ih b5).le b4
 |nilS _ ih=>
  intro h a
  have e1:Hp.dj (fun _=>none) h:=fun _=>Or.inl rfl
  have e2:Hp.le (fun _=>none) h:=fun _ _ e=>by cases e
  exact ⟨fun _=>none,h,aV.nil _ _ _,e1,e2,Hp.le_refl _,ih a⟩
theorem st_N {p:Prop} (h:p:=by (repeat (first|with_reducible exact Sub.refl|(apply Sub.pick (by with_reducible first|exact Pck.head|exact Pck.tail Pck.head|exact Pck.tail (Pck.tail Pck.head)|exact Pck.tail (Pck.tail (Pck.tail Pck.head))|exact Pck.tail (Pck.tail (Pck.tail (Pck.tail Pck.head)))|exact Pck.tail (Pck.tail (Pck.tail (Pck.tail (Pck.tail Pck.head))))|exact Pck.tail (Pck.tail (Pck.tail (Pck.tail (Pck.tail (Pck.tail Pck.head)))))|exact Pck.tail (Pck.tail (Pck.tail (Pck.tail (Pck.tail (Pck.tail (Pck.tail Pck.head))))))|exact Pck.tail (Pck.tail (Pck.tail (Pck.tail (Pck.tail (Pck.tail (Pck.tail (Pck.tail Pck.head)))))))|exact Pck.tail (Pck.tail (Pck.tail (Pck.tail (Pck.tail (Pck.tail (Pck.tail (Pck.tail (Pck.tail Pck.head))))))))|exact Pck.tail (Pck.tail (Pck.tail (Pck.tail (Pck.tail (Pck.tail (Pck.tail (Pck.tail (Pck.tail (Pck.tail Pck.head)))))))))|exact Pck.tail (Pck.tail (Pck.tail (Pck.tail (Pck.tail (Pck.tail (Pck.tail (Pck.tail (Pck.tail (Pck.tail (Pck.tail Pck.head))))))))))|exact Pck.tail (Pck.tail (Pck.tail (Pck.tail (Pck.tail (Pck.tail (Pck.tail (Pck.tail (Pck.tail (Pck.tail (Pck.tail (Pck.tail Pck.head)))))))))))|exact Pck.tail (Pck.tail (Pck.tail (Pck.tail (Pck.tail (Pck.tail (Pck.tail (Pck.tail (Pck.tail (Pck.tail (Pck.tail (Pck.tail (Pck.tail Pck.head))))))))))))))|(apply Sub.pick (by first|exact Pck.head|exact Pck.tail Pck.head|exact Pck.tail (Pck.tail Pck.head)|exact Pck.tail (Pck.tail (Pck.tail Pck.head))|exact Pck.tail (Pck.tail (Pck.tail (Pck.tail Pck.head)))|exact Pck.tail (Pck.tail (Pck.tail (Pck.tail (Pck.tail Pck.head))))))|apply Sub.nilS|apply Sub.drop));first|done|fail):p:=h
theorem st_c {G:kH} {K K':Hp} {L M:List eW} {w:World} (hs:aF G K L w:=by assumption) (hk:K'.le K:=by first|exact Hp.le_refl _|exact jP) (hb:Sub L M:=by exact st_N):aF G K' M w:=
 have hs:=hs.weakK hk
 let ⟨e,h,gd,gl,d,k,l,r⟩:=hs;⟨e,h,gd,gl,d,k,l,hb.sat r⟩
section
variable {P:Program} {n:Nat} {Q:lI} {f:Nat->Value} {w:World} {G:kH} {K:Hp} {L:List eW}
theorem st_k {id:Nat} {l:List Oper} (h:WQ P n l.toArray (aF G K L) l (fun f=>∀ w',aF G K L w'->Q .normal f w') f) (hs:aF G K L w:=by assumption) (hB:Region.lexB .any l.toArray=true:=by kernel_rfl) (hm:P.follows .mixedOrders=true:=by exact Tryz_mixed):W P n (.region id l.toArray true) Q f w:=
 fZ hm hB (hs.mono (eI.drew _)) h
end
theorem aLc {α:Type} {a b:α} {p:Prop} (h:some a=some b) (k:a=b->p):p:=k (Option.some.inj h)
theorem st_no {α:Type} {a:α} {p:Prop} (h:none=some a):p:=nomatch h
theorem aAQ {α:Type} {q:α->Prop} {p:Prop} (k:∀ x,q x->p) (h:∃ x,q x):p:=let ⟨x,h⟩:=h;k x h
theorem aAR {a b p:Prop} (k:a->b->p) (h:a/\b):p:=k h.1 h.2
section
variable {P:Program} {n:Nat} {ops:Array Oper} {rest:List Oper} {Q:lI} {f:Nat->Value} {w:World} {d:Nat} {x y:Operand} {ty:TypeId} {pos:String} {af:Array Go.Edge} {G:kH} {K:Hp} {L:List eW}
theorem st_ca {k:FuncId} {xs:Array Operand} {ats:Array TypeId} {vs:List Value} {Φ:Value->World->Prop} (hk:CE P k) (hc:Calls P k vs.toArray w (cL Φ)) (hv:xs.toList.map (ev f)=vs) (h:∀ v w',Φ v w'->WO P n ops rest Q (upd f d v) w'):
  WO P n ops (⟨some d,.call ⟨.value (.func k),xs,ats⟩,ty,pos,af,none⟩::rest) Q f w:=aT hk hv hc h
theorem st_cb {k:FuncId} {xs:Array Operand} {ats:Array TypeId} {vs:List Value} {Φ:Value->World->Prop} (hk:CE P k) (hc:Calls P k vs.toArray w (cL Φ)) (hv:xs.toList.map (ev f)=vs) (h:∀ v w',Φ v w'->WO P n ops rest Q f w'):
  WO P n ops (⟨none,.call ⟨.value (.func k),xs,ats⟩,ty,pos,af,none⟩::rest) Q f w:=WO_call0 hk hv hc h
theorem st_cq {C:World->Prop} {R:(Nat->Value)->Prop} {k:FuncId} {xs:Array Operand} {ats:Array TypeId} {vs:List Value} {v:Value} (hk:CE P k) (hc:∀ w,C w->Calls P k vs.toArray w (cL fun u w'=>u=v/\C w')) (hv:xs.toList.map (ev f)=vs) (h:WQ P n ops C rest R (upd f d v)):
  WQ P n ops C (⟨some d,.call ⟨.value (.func k),xs,ats⟩,ty,pos,af,none⟩::rest) R f:=gA hk hv hc h
theorem st_i {α:Type} {iα:El α} {T E:TypeId} {sz:Nat} {a:Option Addr} {len cap:Nat} {xs:List α} {j:Int} {e:α} (hx:ev f x=.slice a len cap) (hy:ev f y=i64 j) (hr:aW K a cap xs) (hj:ix xs j=some e) (hl:len=xs.length) (hT:SLT P T E sz) (hz:El.sz α=sz)
  (h:∀ cs,eR K a (j.toNat * sz) cs->El.rd K cs e->WO P n ops rest Q (upd f d (cE a (j.toNat * sz))) w):WO P n ops (⟨some d,.indexAddr T x y,ty,pos,af,none⟩::rest) Q f w:=
 let ⟨cs,h1,h2⟩:=aW.el hz hr hj
 aC (cR hT hz hr hx hl hy hj) (h cs h1 h2)
theorem st_iQ {C:World->Prop} {R:(Nat->Value)->Prop} {α:Type} {iα:El α} {T E:TypeId} {sz:Nat} {a:Option Addr} {len cap:Nat} {xs:List α} {j:Int} {e:α} (hx:ev f x=.slice a len cap) (hy:ev f y=i64 j) (hr:aW K a cap xs) (hj:ix xs j=some e) (hl:len=xs.length) (hT:SLT P T E sz) (hz:El.sz α=sz)
  (h:∀ cs,eR K a (j.toNat * sz) cs->El.rd K cs e->WQ P n ops C rest R (upd f d (cE a (j.toNat * sz)))):WQ P n ops C (⟨some d,.indexAddr T x y,ty,pos,af,none⟩::rest) R f:=
 let ⟨cs,h1,h2⟩:=aW.el hz hr hj
 bE (fun _ _=>cR hT hz hr hx hl hy hj) (h cs h1 h2)
theorem st_iE {C:World->Prop} {R:(Nat->Value)->World->Prop} {os:List Oper} {l:List (Nat × Nat)} {i:Nat} {α:Type} {iα:El α} {T E:TypeId} {sz:Nat} {a:Option Addr} {len cap:Nat} {xs:List α} {j:Int} {e:α} (hi:aED os i=some ⟨some d,.indexAddr T x y,ty,pos,af,none⟩) (hx:ev f x=.slice a len cap) (hy:ev f y=i64 j) (hr:aW K a cap xs) (hj:ix xs j=some e) (hl:len=xs.length) (hT:SLT P T E sz) (hz:El.sz α=sz)
  (h:∀ cs,eR K a (j.toNat * sz) cs->El.rd K cs e->WE P n os.toArray C l R (upd f d (cE a (j.toNat * sz))) w):WE P n os.toArray C ((i,0)::l) R f w:=
 let ⟨cs,h1,h2⟩:=aW.el hz hr hj
 dL hi (fun _ _=>cR hT hz hr hx hl hy hj) (h cs h1 h2)
theorem st_pd {α:Type} [iQ α] {K:Hp} {cs:List Value} {e:α} (h:El.rd K cs e):cs=iQ.enc e:=h
theorem st_ba {α:Type} {iα:iQ α} {T E:TypeId} {sz len:Nat} {zs:List Value} {ps:Array (Nat × Operand)} {xs ys zz:List α} (hq:oH ys xs=some zz) (h:∀ a w',aF G K (aV E K a len xs::L) w'->WO P n ops rest Q (upd f d (.slice a len len)) w') (hT:SLT P T E sz:=by exact st_S) (hE:EZ P E zs:=by exact st_e) (hsz:iQ.sz α=sz:=by exact rfl) (hzs:zs.length=sz:=by exact rfl) (hs:aF G K L w:=by assumption) (hlen:xs.length=len:=by exact rfl)
  (hf:Instr.fill (fun i=>some (i * sz,sz)) ((Array.range (len * sz)).map ((if len * sz=0 then #[] else zs.toArray)[· % (if len * sz=0 then #[] else zs.toArray).size]!)) (ps.toList.map (fun p=>(p.1,ev f p.2)))=some (xs.flatMap iQ.enc).toArray:=by first|exact rfl|kernel_rfl) (hbig:Nat.ble (len * sz) 16777216=true:=by exact rfl):
  WO P n ops (⟨some d,.buildSlice T len ps,ty,pos,af,none⟩::rest) Q f w:=st_b xs h hT hE hsz hzs hs hlen hf hbig
end
theorem st_g0 {P:Program} {n:Nat} {c:Operand} {x y:Code} {Q:lI} {f:Nat->Value} {w:World} (h:W P n (.cond c x y) Q f w):W P n (.cond c x y) Q f w:=h
theorem st_g1 {P:Program} {n:Nat} {ops:Array Oper} {dst:Option Tmp} {op:Op} {ty:TypeId} {pos:String} {af:Array Go.Edge} {g:Nat × Bool} {rest:List Oper} {Q:lI} {f:Nat->Value} {w:World} (h:WO P n ops (⟨dst,op,ty,pos,af,some g⟩::rest) Q f w):WO P n ops (⟨dst,op,ty,pos,af,some g⟩::rest) Q f w:=h
theorem st_g2 {P:Program} {n:Nat} {ops:Array Oper} {dst:Option Tmp} {op:Op} {ty:TypeId} {pos:String} {af:Array Go.Edge} {g:Nat × Bool} {rest:List Oper} {C:World->Prop} {R:(Nat->Value)->Prop} {f:Nat->Value} (h:WQ P n ops C (⟨dst,op,ty,pos,af,some g⟩::rest) R f):WQ P n ops C (⟨dst,op,ty,pos,af,some g⟩::rest) R f:=h
theorem st_g3 {P:Program} {n:Nat} {ops:Array Oper} {dst:Option Tmp} {x y z:Operand} {ty:TypeId} {pos:String} {af:Array Go.Edge} {rest:List Oper} {Q:lI} {f:Nat->Value} {w:World} (h:WO P n ops (⟨dst,.pick x y z,ty,pos,af,none⟩::rest) Q f w):WO P n ops (⟨dst,.pick x y z,ty,pos,af,none⟩::rest) Q f w:=h
theorem st_g4 {P:Program} {n:Nat} {os:List Oper} {i q:Nat} {o:Oper} {g:Nat × Bool} {l:List (Nat × Nat)} {C:World->Prop} {R:(Nat->Value)->World->Prop} {f:Nat->Value} {w:World} (hi:(aED os i).bind (·.guard)=some g) (h:WE P n os.toArray C ((i,q)::l) R f w):WE P n os.toArray C ((i,q)::l) R f w:=h
theorem st_we {P:Program} {n:Nat} {ops:Array Oper} {C:World->Prop} {l:List (Nat × Nat)} {R:(Nat->Value)->World->Prop} {f:Nat->Value} {w:World} {G:kH} {K:Hp} (h1:∃ L',aF G K L' w) (h2:WE P n ops C l R f w):(∃ L',aF G K L' w)/\WE P n ops C l R f w:=⟨h1,h2⟩
theorem st_cK {K K':Hp} {a:Option Addr} {k:Nat} {cs:List Value} (c:eR K a k cs) (h:K.le K'):eR K' a k cs:=c.mono h
theorem st_rK {α:Type} {iα:El α} {K K':Hp} {a:Option Addr} {cap:Nat} {xs:List α} (r:aW K a cap xs) (h:K.le K'):aW K' a cap xs:=r.mono h
section
variable {P:Program} {n:Nat} {ops:Array Oper} {rest:List Oper} {Q:lI} {f:Nat->Value} {w:World} {G:kH} {K:Hp} {L M:List eW}
theorem lO {α:Type} {iα:El α} {E:TypeId} {Ke:Hp} {a:Option Addr} {cap:Nat} {xs:List α} (hs:aF G K L w) (p:Pck L (aV E Ke a cap xs) M) (hK:Ke.le K) (h:∀ K',K.le K'->aW K' a cap xs->aF G K' M w->(∀ L' w',aF G K' L' w'->aF G K (aV E Ke a cap xs::L') w')->WO P n ops rest Q f w):WO P n ops rest Q f w:=by
 obtain ⟨K',h1,h2,h3,h4⟩:=aF.lendSp hs hK p
 exact h K' h1 h2 h3 h4
theorem lP {E:TypeId} {b:Nat} {vs:List Value} (hs:aF G K L w) (p:Pck L (box b E vs) M) (h:∀ K',K.le K'->eR K' (some ⟨b,0,none⟩) 0 vs->aF G K' M w->(∀ L' w',aF G K' L' w'->aF G K (box b E vs::L') w')->WO P n ops rest Q f w):WO P n ops rest Q f w:=by
 obtain ⟨K',h1,h2,h3,h4⟩:=aF.lendBp hs p
 exact h K' h1 h2 h3 h4
theorem st_q2 {α:Type} {iα:iQ α} {d:Nat} {x y:Operand} {ty:TypeId} {pos:String} {af:Array Go.Edge} {C:eW->List eW} {T E:TypeId} {sz:Nat} {zs:List Value} {a a2:Option Addr} {cap c2 l1 l2:Nat} {xs ys zz:List α} {Ke:Hp} (hx:ev f x=.slice a l1 cap) (hy:ev f y=.slice a2 l2 c2) (hr0:aW K a2 c2 ys) (hs:aF G K L w) (hr:Rep L (aV E Ke a cap xs) C) (hm:oH xs ys=some zz) (hT:SLT P T E sz) (hU:P.underlying T=some (.slice E)) (hE:EZ P E zs) (hsz:iQ.sz α=sz) (hzs:zs.length=sz) (hl1:l1=xs.length) (hl2:l2=ys.length)
  (h:∀ a' cap' w',aF G K (C (aV E K a' cap' zz)) w'->WO P n ops rest Q (upd f d (.slice a' zz.length cap')) w'):
  WO P n ops (⟨some d,.call ⟨.builtin .append,#[x,y],#[T,T]⟩,ty,pos,af,none⟩::rest) Q f w:=by
 obtain ⟨i,h1,h2⟩:=hr.ix
 have h1:L[i]?=some (aV E K a cap xs):=h1
 exact WO_app hT hU hE hsz hzs hs h1 (Hp.le_refl _) hr0 hm hx hl1 hy hl2 fun a' c' w' q=>h a' c' w' (h2 _ ▸ q)
end
end Gv
