/- Bound arguments; rows that are taken or put; maps that may be nil; ways out of loops over maps. No program in sight. -/
import Derived.Test.YtfhgggimcgajdaaGreatDoorJYR
import Derived.Test.YtfhgggimcgajdaaGreatDoorJLM
set_option linter.all false
namespace Gv
open Go
section
variable {P:Program} {n:Nat} {ops:Array Oper} {rest:List Oper} {Q:uL} {f:Nat->Value} {w:World}
variable {d:Nat} {x y z:Operand} {ty:TypeId} {pos:String} {af:Array Go.Edge}
variable {G:qG} {K:Hp} {L:List iU}
theorem aOu {a b:Int} {T U:TypeId} (hx:ev f x=i64 a) (hy:ev f y=i64 b):
  (execOp (ev f) ⟨some d,.binOp .xor T x y U,ty,pos,af,none⟩).run P w=.ok (.value (i64 (xoI a b))) w:=by
 have e:(BitVec.ofInt 64 a ^^^ BitVec.ofInt 64 b).toNat=(a % 18446744073709551616).toNat ^^^ (b % 18446744073709551616).toNat:=by
  rw [BitVec.toNat_xor];simp [BitVec.toNat_ofInt]
 simp [execOp,hx,hy,eqGuard,binOp,i64,Op.intBits,xoI_eq,aBw,IntKind.bits]
 exact congrArg (fun n:Nat=>wr (n:Int)) e
theorem R_andI {a b:Int} {T U:TypeId} (hx:ev f x=i64 a) (hy:ev f y=i64 b):
  (execOp (ev f) ⟨some d,.binOp .and T x y U,ty,pos,af,none⟩).run P w=.ok (.value (i64 (anI a b))) w:=by
 have e:(BitVec.ofInt 64 a&&& BitVec.ofInt 64 b).toNat=(a % 18446744073709551616).toNat&&& (b % 18446744073709551616).toNat:=by
  rw [BitVec.toNat_and];simp [BitVec.toNat_ofInt]
 simp [execOp,hx,hy,eqGuard,binOp,i64,Op.intBits,anI_eq,aBw,IntKind.bits]
 exact congrArg (fun n:Nat=>wr (n:Int)) e
theorem R_shlI {a b c:Int} {yk:IntKind} {T U:TypeId} (hx:ev f x=i64 a) (hy:ev f y=.int yk b) (hc:shI a b=some c):
  (execOp (ev f) ⟨some d,.binOp .shl T x y U,ty,pos,af,none⟩).run P w=.ok (.value (i64 c)) w:=by
 unfold shI at hc
 split at hc
 ·rename_i h
  have hn:¬ b < 0:=by omega
  cases hc
  simp [execOp,hx,hy,eqGuard,binOp,i64,Op.shift,hn,IntKind.bits,aBw]
 ·cases hc
end
section
variable {P:Program} {n:Nat} {ops:Array Oper} {rest:List Oper} {Q:uL} {f:Nat->Value} {w:World}
variable {d:Nat} {x y z:Operand} {ty:TypeId} {pos:String} {af:Array Go.Edge}
variable {G:qG} {K:Hp} {L:List iU} {α:Type} [Dp α] {tys:List TypeId} {hds:List (Dp.Hd α)} {xs zz:List α}
end
section
variable {G:qG} {K:Hp} {L:List iU} {w:World} {β:Type} [oS β] {tys:List TypeId} {hds:List (Dp.Hd (List β))} {xs:List (List β)}
end
section
variable {P:Program} {n:Nat} {ops:Array Oper} {rest:List Oper} {Q:uL} {f:Nat->Value} {w:World}
variable {d:Nat} {x y z:Operand} {ty:TypeId} {pos:String} {af:Array Go.Edge}
variable {G:qG} {K:Hp} {L:List iU} {α:Type} [Dp α] {tys:List TypeId} {hds:List (Dp.Hd α)} {xs r:List α}
end
section
variable {α:Type} [El α] {G:qG} {K:Hp} {L:List iU} {w:World}
end
section
variable {P:Program} {n:Nat} {ops:Array Oper} {rest:List Oper} {Q:uL} {f:Nat->Value} {w:World}
variable {d:Nat} {x y z:Operand} {ty:TypeId} {pos:String} {af:Array Go.Edge}
variable {β:Type} [oS β] {G:qG} {K:Hp} {L:List iU}
end
section
variable {κ ν:Type} [DecidableEq κ] [Vl κ] [Vl ν] {G:qG} {K:Hp} {L:List iU} {w:World}
end
section
variable {κ:Type}
end
end Gv
namespace Gv
open Go
section
variable {β:Type} [oS β] {G:qG} {K Ke:Hp} {L:List iU} {w:World}
theorem aM.ex {γ:Type} {i:Nat} {A:iU} {B:γ->iU} {p:γ->Prop} (s:aM G K L w) (hi:L[i]?=some A) (h:∀ h1,A h1->∃ x,p x/\B x h1):∃ x,p x/\aM G K (L.set i (B x)) w:=by
 obtain ⟨e,g,gd,gl,d,k,l,r⟩:=s
 obtain ⟨h1,h2,a,dj,l1,l2,r'⟩:=r.pick hi
 obtain ⟨x,px,bx⟩:=h h1 a
 have hlt:i < L.length:=(List.getElem?_eq_some_iff.1 hi).1
 exact ⟨x,px,e,g,gd,gl,d,k,l,(gT.put bx dj r' hlt).le (Hp.un_le l1 l2)⟩
def HdR (Ke:Hp) (hds:List (Option Addr × Nat)) (xs:List (List β)):Prop:=hds.length=xs.length/\∀ (j:Nat) (hd:Option Addr × Nat) (x:List β),hds[j]?=some hd->xs[j]?=some x->bY Ke hd.1 hd.2 x
theorem HdR.mono {K':Hp} {hds:List (Option Addr × Nat)} {xs:List (List β)} (h:HdR Ke hds xs) (hk:Ke.le K'):HdR K' hds xs:=⟨h.1,fun j hd x h1 h2=>(h.2 j hd x h1 h2).mono hk⟩
theorem HdR.set {hds:List (Option Addr × Nat)} {xs:List (List β)} (h:HdR Ke hds xs) {j:Nat} {hd:Option Addr × Nat} {x:List β} (hx:bY Ke hd.1 hd.2 x):HdR Ke (hds.set j hd) (xs.set j x):=by
 refine ⟨by rw [List.length_set,List.length_set];exact h.1,fun k d y h1 h2=>?_⟩
 rw [List.getElem?_set] at h1 h2
 by_cases e:j=k
 ·subst e
  rw [if_pos rfl] at h1 h2
  split at h1
  ·split at h2
   ·cases h1;cases h2;exact hx
   ·cases h2
  ·cases h1
 ·rw [if_neg e] at h1 h2
  exact h.2 k d y h1 h2
variable {P:Program} {n:Nat} {ops:Array Oper} {rest:List Oper} {Q:uL} {f:Nat->Value}
variable {d:Nat} {x y z:Operand} {ty:TypeId} {pos:String} {af:Array Go.Edge}
end
end Gv
namespace Gv
open Go
section
variable {P:Program} {w:World}
end
end Gv
namespace Gv
open Go
section
variable {P:Program} {f:Nat->Value} {w:World} {d:Nat} {x y:Operand} {ty:TypeId} {pos:String} {af:Array Go.Edge} {Ts:Array TypeId}
theorem R_minS {a b:bJ} (hx:ev f x=bE a) (hy:ev f y=bE b):
  (execOp (ev f) ⟨some d,.call ⟨.builtin .min,#[x,y],Ts⟩,ty,pos,af,none⟩).run P w=.ok (.value (bE (mnS a b))) w:=by
 cases h:(qF a b||a == b)<;>simp [execOp,resolve,invoke,builtin,Builtin.min_,Builtin.min2,hx,hy,bE,mnS,Op.stringOp,nT,oL,asBool,h]
theorem R_maxS {a b:bJ} (hx:ev f x=bE a) (hy:ev f y=bE b):
  (execOp (ev f) ⟨some d,.call ⟨.builtin .max,#[x,y],Ts⟩,ty,pos,af,none⟩).run P w=.ok (.value (bE (mxS a b))) w:=by
 cases h:qF a b<;>simp [execOp,resolve,invoke,builtin,Builtin.max_,Builtin.max2,hx,hy,bE,mxS,Op.stringOp,nT,oL,asBool,h]
end
end Gv
namespace Gv
open Go
section
variable {α:Type} [Dp α] {tys:List TypeId} {hds:List (Dp.Hd α)} {xs zz:List α} {G:qG} {K:Hp} {L:List iU} {w:World}
theorem rows_same {j:Nat} {hd:Dp.Hd α} {x x':α} (hh:hds[j]?=some hd) (hx:xs[j]?=some x) (hp:Dp.pcs tys hd x'=Dp.pcs tys hd x):rows tys hds (xs.set j x')=rows tys hds xs:=by
 have h1:jQ tys hds (xs.set j x')=jQ tys hds xs:=by
  have h2:=aLr (Dp.pcs tys) hds xs j hd x'
  rw [aFc hh] at h2
  have h3:(List.zipWith (Dp.pcs tys) hds xs)[j]?=some (Dp.pcs tys hd x'):=by rw [hp];exact aFO (Dp.pcs tys) hh hx
  rw [aFc h3] at h2
  exact h2.symm
 unfold rows
 rw [h1]
theorem aM.rowsOneS {hd:Dp.Hd α} {x:α} (s:aM G K (Dp.pcs tys hd x++L) w):aM G K (rows tys [hd] [x]::L) w:=by
 obtain ⟨e,g,gd,gl,d,k,l,r⟩:=aM.rowsNil (α:=α) (tys:=tys) s
 have r2:gT (Dp.pcs tys hd x++rows tys ([]:List (Dp.Hd α)) ([]:List α)::L) g:=
  (show gT ([rows tys ([]:List (Dp.Hd α)) ([]:List α)]++(Dp.pcs tys hd x++L)) g from r).swap
 exact aM.rowPush (hds:=[]) (xs:=[]) ⟨e,g,gd,gl,d,k,l,r2⟩ rfl
theorem aM.unfocusS {E:TypeId} {Ke:Hp} {a:Option Addr} {cap:Nat} {j:Int} {hd:Dp.Hd α} {x x':α} (s:aM G K (Dp.pcs tys hd x'++rows tys (hds.eraseIdx j.toNat) (xs.eraseIdx j.toNat)::bN E Ke a cap (bK hds xs)::L) w) (hl:hds.length=xs.length)
  (hh:hds[j.toNat]?=some hd) (hj:ix xs j=some x) (he:Dp.enc hd x'=Dp.enc hd x) (hst:Gv.st xs j x'=some zz):aM G K (bN E Ke a cap (bK hds zz)::rows tys hds zz::L) w:=
 aM.rowSt (p:=0) (L:=bN E Ke a cap (bK hds xs)::L) s hl hh hj he hst rfl
end
section
variable {P:Program} {n:Nat} {ops:Array Oper} {rest:List Oper} {Q:uL} {f:Nat->Value} {w:World}
variable {x y:Operand} {ty:TypeId} {pos:String} {af:Array Go.Edge}
variable {G:qG} {K:Hp} {L:List iU}
variable {α:Type} [Dp α] {tys:List TypeId} {hds:List (Dp.Hd α)} {xs zz:List α}
theorem aGQ {T E:TypeId} {a:Option Addr} {i t m cap kk:Nat} {j:Int} {hd:Dp.Hd α} {e e':α} {v:Value} {ns:List Value} {Ke:Hp} (hT:∀ w,(Go.sizeOf T).run P w=.ok m w) (hs:aM G K L w) (hl:hds.length=xs.length)
  (hi:L[i]?=some (bN E Ke a cap (bK hds xs))) (hi2:L[i+1]?=some (rows tys hds xs)) (hx:ev f x=eP a kk) (hkk:kk=j.toNat * (Dp.sz1 α+1)+t) (hy:ev f y=v) (hj:ix xs j=some e) (hh:hds[j.toNat]?=some hd) (hst:Gv.st xs j e'=some zz)
  (hn:v.cells=ns.toArray) (hm:ns.length=m) (h1:∀ u∈ns,u.oneCell'=true) (ht:Nat.ble (t+m) (Dp.sz1 α+1)=true)
  (he:(Dp.enc hd e).take t++ns++(Dp.enc hd e).drop (t+m)=Dp.enc hd e') (hp:Dp.pcs tys hd e'=Dp.pcs tys hd e)
  (h:∀ w',aM G K (bN E K a cap (bK hds zz)::rows tys hds zz::(L.eraseIdx (i+1)).eraseIdx i) w'->WO P n ops rest Q f w'):
  WO P n ops (⟨none,.store T x y,ty,pos,af,none⟩::rest) Q f w:=by
 refine oZ (α:=aIk (Dp.sz1 α)) (i:=i) (t:=t) (Ke:=K) hT hs hi (Hp.le_refl _) hx hkk hy (kK hl hj hh) (aPs (hd:=hd) hl hst) hn hm h1 ht (fun cs hc=>?_) (fun w' hs'=>h w' ?_)
 ·cases hc
  exact he
 ·rw [aFc hh] at hs'
  have hil:i < L.length:=(List.getElem?_eq_some_iff.1 hi).1
  obtain ⟨h0,h2,rfl⟩:=aFL hst
  rw [←rows_same hh (aLR hj) hp] at hi2
  have h3:=aM.pull (i:=i+1) hs' (by rw [List.getElem?_set_ne (by omega)];exact hi2)
  have h4:=aM.pull (i:=i+1) (A:=bN E K a cap (bK hds (xs.set j.toNat e'))) h3 (by simp [zU,hil])
  simp only [List.eraseIdx_cons_succ] at h4
  rw [List.eraseIdx_set_gt (by omega),List.eraseIdx_set_eq] at h4
  exact h4
theorem WO_stE {α:Type} [El α] {xs zz:List α} {T E:TypeId} {a:Option Addr} {i cap kk:Nat} {j:Int} {e e':α} {v:Value} {ns:List Value} {Ke:Hp} (hT:∀ w,(Go.sizeOf T).run P w=.ok (El.sz α) w) (hs:aM G K L w) (hi:L[i]?=some (bN E Ke a cap xs)) (hK:Ke.le K)
  (hx:ev f x=eP a kk) (hkk:kk=j.toNat * El.sz α+0) (hy:ev f y=v) (hj:ix xs j=some e) (hst:Gv.st xs j e'=some zz) (hn:v.cells=ns.toArray) (hr:El.rd K ns e')
  (h:∀ w',aM G K (L.set i (bN E K a cap zz)) w'->WO P n ops rest Q f w'):
  WO P n ops (⟨none,.store T x y,ty,pos,af,none⟩::rest) Q f w:=by
 refine oZ (t:=0) hT hs hi hK hx hkk hy hj hst hn (El.len hr) (El.one hr) (by simp) (fun cs hc=>?_) h
 rw [List.take_zero,List.nil_append,List.drop_of_length_le (by rw [El.len hc];omega),List.append_nil]
 exact hr
end
end Gv
namespace Gv
open Vl (vl)
open Go
section
variable {P:Program} {f:Nat->Value} {w:World}
variable {d:Nat} {x y:Operand} {ty:TypeId} {pos:String} {af:Array Go.Edge}
end
section
variable {α:Type} [El α]
end
section
variable {κ ν:Type} [DecidableEq κ] [Vl κ] [Vl ν]
variable {P:Program} {n:Nat} {ops:Array Oper} {rest:List Oper} {Q:uL} {f:Nat->Value} {w:World}
variable {d:Nat} {x y z:Operand} {ty:TypeId} {pos:String} {af:Array Go.Edge}
variable {G:qG} {K:Hp} {L:List iU}
end
section
variable {G:qG} {K:Hp} {L:List iU} {w:World}
end
section
variable {P:Program} {md:Region.Mode} {ops:Array Oper} {C C':World->Prop}
def wpF (P:Program) (ops:Array Oper) (R:Act->World->Prop):List (Nat × Nat)->(World->Prop)->Act->World->Prop
 |[],_,a,w=>R a w
 |(i,0)::l,C,a,w=>∃ o v,ops[i]?=some o/\oT P ops C o v a/\wpF P ops R l C (a.put o.dst v) w
 |(i,1)::l,C,a,w=>wpOp P ops noQ i (fun a' w'=>∃ C':World->Prop,(∀ w,C' w->C w)/\C' w'/\wpF P ops R l C' a' w') a w
 |(_,_+2)::_,_,_,_=>False
end
section
variable {P:Program} {n:Nat} {C:World->Prop} {Q:uL} {f:Nat->Value} {w:World} {R:(Nat->Value)->World->Prop} {l:List (Nat × Nat)} {os:List Oper}
structure WFm (P:Program) (n:Nat) (ops:Array Oper) (C:World->Prop) (l:List (Nat × Nat)) (R:(Nat->Value)->World->Prop) (f:Nat->Value) (w:World):Prop where
 go:ops.all (fun o=>oko n o&&okg n ops o.guard)=true->wpF P ops (fun a w=>∃ f,a=act n f/\R f w) l C (act n f) w
end
section
variable {β:Type} [oS β] {G:qG} {K:Hp} {L:List iU} {w:World}
end
section
variable {β:Type} [oS β] {G:qG} {K Ke:Hp} {L:List iU} {w:World}
variable {P:Program} {n:Nat} {ops:Array Oper} {rest:List Oper} {Q:uL} {f:Nat->Value}
variable {d:Nat} {x y:Operand} {ty:TypeId} {pos:String} {af:Array Go.Edge}
theorem HdR.slc {hds:List (Dp.Hd (List β))} {xs r:List (List β)} {lo hi:Int} (h:HdR Ke hds xs) (hc:Gv.slc xs lo hi=some r):∃ h2:List (Dp.Hd (List β)),HdR Ke h2 r/\Gv.slc (bK hds xs) lo hi=some (bK h2 r):=by
 have hl:=h.1
 unfold Gv.slc at hc ⊢
 split at hc
 ·rename_i hb
  cases hc
  refine ⟨(hds.drop lo.toNat).take (hi.toNat - lo.toNat),⟨by simp [hl],fun j hd x h1 h2=>?_⟩,?_⟩
  ·by_cases hj:j < hi.toNat - lo.toNat
   ·rw [List.getElem?_take_of_lt hj,List.getElem?_drop] at h1 h2
    exact h.2 _ hd x h1 h2
   ·rw [List.getElem?_eq_none (by rw [List.length_take];omega)] at h1
    cases h1
  ·rw [if_pos ⟨hb.1,hb.2.1,by rw [nO hl];exact hb.2.2⟩]
   unfold bK
   rw [List.drop_zipWith,List.take_zipWith]
 ·cases hc
theorem HdR.app {h1 h2:List (Dp.Hd (List β))} {x1 x2:List (List β)} (a:HdR Ke h1 x1) (b:HdR Ke h2 x2):HdR Ke (h1++h2) (x1++x2):=by
 refine ⟨by rw [List.length_append,List.length_append,a.1,b.1],fun j hd x e1 e2=>?_⟩
 by_cases hj:j < h1.length
 ·rw [List.getElem?_append_left hj] at e1
  rw [List.getElem?_append_left (by rw [←a.1];exact hj)] at e2
  exact a.2 _ hd x e1 e2
 ·rw [List.getElem?_append_right (by omega)] at e1
  rw [List.getElem?_append_right (by rw [←a.1];omega),←a.1] at e2
  exact b.2 _ hd x e1 e2
end
end Gv
namespace Gv
open Go
section
variable {α:Type} [Dp α] {tys:List TypeId} {hds:List (Dp.Hd α)} {xs:List α} {G:qG} {K:Hp} {L:List iU} {w:World}
def aDG (tys:List TypeId) (hds:List (Dp.Hd α)) (xs:List α):iU:=fun h=>hds.length=xs.length/\rows tys hds xs h
theorem aM.openL {i:Nat} (s:aM G K L w) (hi:L[i]?=some (aDG tys hds xs)):hds.length=xs.length/\aM G K (L.set i (rows tys hds xs)) w:=by
 obtain ⟨h1,⟨hl,_⟩,_,_⟩:=s.entry hi
 exact ⟨hl,s.weak hi (fun _ h=>h.2)⟩
theorem aM.closeL {i:Nat} (s:aM G K L w) (hi:L[i]?=some (rows tys hds xs)) (hl:hds.length=xs.length):aM G K (L.set i (aDG tys hds xs)) w:=
 s.weak hi (fun _ h=>⟨hl,h⟩)
theorem aPA (E:TypeId) (tys:List TypeId) {L:List iU} (h:gT L Hp.nil):gT (bN E Hp.nil none 0 (bK ([]:List (Dp.Hd α)) ([]:List α))::aDG tys ([]:List (Dp.Hd α)) ([]:List α)::L) Hp.nil:=
 ⟨Hp.nil,Hp.nil,bN.nil _ _ _,Hp.nil_dj _,Hp.nil_le _,Hp.nil_le _,Hp.nil,Hp.nil,⟨rfl,trivial⟩,Hp.nil_dj _,Hp.nil_le _,Hp.nil_le _,h⟩
theorem aOv [El α] [aKS α] {E:TypeId} {Ke h1 h2:Hp} {a:Option Addr} {cap:Nat} (a1:bN E Ke a cap (bK hds xs) h1) (a2:aDG tys hds xs h2) (l1:h1.le K) (l2:h2.le K):bY K a cap xs:=by
 obtain ⟨hl,a2⟩:=a2
 have hr:bY K a cap (bK hds xs):=bN.rd (K:=Hp.nil) (show bN E Hp.nil a cap (bK hds xs) h1 from a1) l1 (Hp.nil_le _)
 refine ⟨?_,?_,?_⟩
 ·have:=hr.room;rwa [nO hl] at this
 ·intro e
  obtain ⟨e1,e2⟩:=hr.nil e
  refine ⟨?_,e2⟩
  have:=nO hl
  rw [e1] at this
  exact List.length_eq_zero_iff.1 this.symm
 ·intro i d e
  have hi:i < hds.length:=by rw [hl];exact (List.getElem?_eq_some_iff.1 e).1
  have hh:hds[i]?=some hds[i]:=by simp [hi]
  obtain ⟨cs,hc,hcs⟩:=hr.cell i _ (aFO aEt hh e)
  have hcs':cs=Dp.enc hds[i] d:=hcs
  subst hcs'
  refine ⟨_,?_,aOr a2 l2 hh e⟩
  rw [aKS.sz]
  exact hc
end
end Gv
namespace Gv
open Go
section
variable {N:Type} [oS N]
inductive trd (K:Hp):Tr N->Option Addr->Prop
 |mk {n:N} {l:List (Tr N)} {a x:Option Addr} {c:Nat} (q:Nat->Option Addr) (h1:iG K a 0 (oS.enc n++[Value.slice x l.length c])) (h2:l.length<=c) (h3:x=none->l=[]/\c=0)
   (h4:∀ i d,l[i]?=some d->iG K x (i * 1) [eP (q i) 0]) (h5:∀ i d,l[i]?=some d->trd K d (q i)):trd K (.mk n l) a
theorem trd.mono {K K':Hp} {t:Tr N} {a:Option Addr} (h:K.le K') (r:trd K t a):trd K' t a:=by
 induction r with
 |mk q h1 h2 h3 h4 h5 ih=>exact .mk q (h1.mono h) h2 h3 (fun i d e=>(h4 i d e).mono h) (fun i d e=>ih i d e)
instance:El (Tr N) where
 sz:=1
 rd K cs d:=∃ a,cs=[eP a 0]/\trd K d a
 mono:=fun h ⟨a,e,r⟩=>⟨a,e,r.mono h⟩
 len:=fun ⟨_,e,_⟩=>by rw [e];rfl
 one:=fun ⟨_,e,_⟩ v hv=>by rw [e] at hv;simp at hv;subst hv;rfl
 pos:=Nat.one_pos
theorem trd.el {K:Hp} {t:Tr N} {a:Option Addr} (h:trd K t a):∃ (x:Option Addr) (c:Nat),iG K a 0 (oS.enc t.val++[Value.slice x t.kids.length c])/\bY K x c t.kids:=by
 cases h with
 |mk q h1 h2 h3 h4 h5=>exact ⟨_,_,h1,⟨h2,h3,fun i d e=>⟨_,h4 i d e,_,rfl,h5 i d e⟩⟩⟩
theorem trd_mk {K:Hp} {n:N} {l:List (Tr N)} {a x:Option Addr} {c:Nat} (h:iG K a 0 (oS.enc n++[Value.slice x l.length c])) (r:bY K x c l):trd K (.mk n l) a:=by
 have hq:∀ i,∃ p:Option Addr,∀ d,l[i]?=some d->iG K x (i * 1) [eP p 0]/\trd K d p:=by
  intro i
  cases e:l[i]? with
  |none=>exact ⟨none,fun d h=>by cases h⟩
  |some d=>
   obtain ⟨cs,hc,p,rfl,hr⟩:=r.cell i d e
   exact ⟨p,fun d' h'=>by cases h';exact ⟨hc,hr⟩⟩
 exact .mk (fun i=>(hq i).choose) h r.room r.nil (fun i d e=>((hq i).choose_spec d e).1) (fun i d e=>((hq i).choose_spec d e).2)
end
end Gv
