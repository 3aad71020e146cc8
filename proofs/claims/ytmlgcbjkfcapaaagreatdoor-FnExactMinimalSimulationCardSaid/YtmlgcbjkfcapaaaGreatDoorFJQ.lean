/- Rules for the walks over slices that own their rows; addresses once known. No program in sight. -/
import Derived.Test.YtmlgcbjkfcapaaaGreatDoorFJO
set_option linter.all false
namespace Gv
open Go
section
variable {P:Program} {n:Nat} {ops:Array Oper} {rest:List Oper} {Q:xQ} {f:Nat→Value} {w:World}
variable {d:Nat} {x y z:Operand} {ty:TypeId} {pos:String} {af:Array Edge}
variable {G:Env} {K:Hp} {L:List oT}
def Lies (a:Option Addr):Prop:=∃ ad:Addr,a=some ad∧ad.spot=none
theorem dM {α:Type} [El α] {E:TypeId} {Ke:Hp} {i:Nat} {a:Option Addr} {cap:Nat} {xs:List α} {j:Int} {e:α} (hs:aK G K L w) (hi:L[i]?=some (aV E Ke a cap xs)) (hj:ix xs j=some e):Lies a:=by
 obtain ⟨_,hjl,hje⟩:=aCG hj
 obtain ⟨h1,⟨_,hA⟩,hle,_⟩:=hs.entry hi
 rcases hA with ⟨_,rfl,_⟩|⟨ad,c,rows,rfl,sp,_⟩
 ·simp at hjl
 ·exact ⟨ad,rfl,sp⟩
theorem aFm {α:Type} [El α] {a:Option Addr} {cap:Nat} {xs:List α} {j:Int} {e:α} (hr:cL K a cap xs) (hj:ix xs j=some e):Lies a:=by
 obtain ⟨h0,h1,h2⟩:=aCG hj
 obtain ⟨cs,⟨ad,c,E',fr,rfl,hs,_⟩,_⟩:=hr.cell _ _ h2
 exact ⟨ad,rfl,hs⟩
theorem eB {α:Type} [El α] {T E:TypeId} {sz:Nat} {a:Option Addr} {len cap:Nat} {xs:List α} {j:Int} {e:α} (hT:SLT P T E sz) (hz:El.sz α=sz) (ha:Lies a)
  (hx:ev f x=.slice a len cap) (hl:len=xs.length) (hy:ev f y=i64 j) (hj:ix xs j=some e):
  (execOp (ev f) ⟨some d,.indexAddr T x y,ty,pos,af,none⟩).run P w=.ok (.value (bV a (j.toNat * sz+0))) w:=by
 obtain ⟨h0,h1,h2⟩:=aCG hj
 obtain ⟨ad,rfl,s⟩:=ha
 subst hl
 simp [execOp,hx,hy,aBT (w:=w) (cap:=cap) hT s h0 h1,bV]
theorem aFx {S:TypeId} {q o k k':Nat} {a:Option Addr} (hF:FA P S q o) (ha:Lies a) (hx:ev f x=bV a k) (hk:k+o=k'):
  (execOp (ev f) ⟨some d,.fieldAddr S x q,ty,pos,af,none⟩).run P w=.ok (.value (bV a k')) w:=by
 obtain ⟨ad,rfl,_⟩:=ha
 subst hk
 simp only [execOp,hx,wZ,Sem.run_bind,aBS hF]
 simp [Nat.add_assoc]
theorem aFy {α:Type} [El α] {E:TypeId} {Ke:Hp} {i sz:Nat} {a:Option Addr} {cap:Nat} {xs:List α} {j:Int} {e:α} (hz:El.sz α=sz) (hs:aK G K L w) (hi:L[i]?=some (aV E Ke a cap xs)) (hj:ix xs j=some e):
  ∃ cs,(∃ ad,a=some ad∧∀ (t:Nat) (v:Value),cs[t]?=some v→w.cell? ⟨ad.block,ad.off+(j.toNat * sz+t),none⟩=some v)∧El.rd Ke cs e:=by
 subst hz
 obtain ⟨_,hjl,hje⟩:=aCG hj
 obtain ⟨h1,⟨_,hA⟩,hle,_⟩:=hs.entry hi
 rcases hA with ⟨_,rfl,_⟩|⟨ad,c,rows,rfl,sp,hb,hcs,hrl,hrc,hel⟩
 ·simp at hjl
 ·refine ⟨_,⟨ad,rfl,fun t v ht=>mN hle hb ?_⟩,hel _ _ hje⟩
  have ht':t < El.sz α:=by have:=(List.getElem?_eq_some_iff.1 ht).1;simp only [List.length_take] at this;omega
  rw [List.getElem?_take_of_lt ht',List.getElem?_drop] at ht
  exact hrc _ _ ht
theorem R_ldC {T:TypeId} {a:Option Addr} {k t:Nat} {cs:List Value} {v:Value} (hT:SC P T) (hc:∃ ad,a=some ad∧∀ (t:Nat) (v:Value),cs[t]?=some v→w.cell? ⟨ad.block,ad.off+(k+t),none⟩=some v)
  (hx:ev f x=bV a (k+t)) (hv:cs[t]?=some v):(execOp (ev f) ⟨some d,.load T x,ty,pos,af,none⟩).run P w=.ok (.value v) w:=by
 obtain ⟨ad,rfl,hc⟩:=hc
 simp only [execOp,hx,wZ,Sem.run_bind,aBr hT (hc t v hv)];simp
section
variable {α:Type} [Dp α] {tys:List TypeId} {hds hds2:List (Dp.Hd α)} {xs ys zz:List α}
end
section
variable {β:Type} [gH β] {tys:List TypeId} {hds:List (Dp.Hd (List β))} {xs zz:List (List β)}
end
end
end Gv
