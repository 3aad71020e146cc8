/- Rules for the walks over slices that own their rows; addresses once known. No program in sight. -/
import Derived.Test.YtkcggmmjnpdgnaaGreatDoorJO
set_option linter.all false
namespace Gv
open Go
section
variable {P:Program} {n:Nat} {ops:Array Oper} {rest:List Oper} {Q:pS} {f:Nat->Value} {w:World}
variable {d:Nat} {x y z:Operand} {ty:TypeId} {pos:String} {af:Array Edge}
variable {G:uK} {K:Hp} {L:List gQ}
theorem aLY {v:Value} {b:Nat} (h:v=.pointer (some ⟨b,0,none⟩)):v=cC (some ⟨b,0,none⟩) 0:=h
def Lies (a:Option Addr):Prop:=∃ ad:Addr,a=some ad/\ad.spot=none
theorem cQ {α:Type} [El α] {E:TypeId} {Ke:Hp} {i:Nat} {a:Option Addr} {cap:Nat} {xs:List α} {j:Int} {e:α} (hs:aI G K L w) (hi:L[i]?=some (aN E Ke a cap xs)) (hj:ix xs j=some e):Lies a:=by
 obtain ⟨_,hjl,hje⟩:=aDy hj
 obtain ⟨h1,⟨_,hA⟩,hle,_⟩:=hs.entry hi
 rcases hA with ⟨_,rfl,_⟩|⟨ad,c,rows,rfl,sp,_⟩
 ·simp at hjl
 ·exact ⟨ad,rfl,sp⟩
theorem aGC {α:Type} [El α] {a:Option Addr} {cap:Nat} {xs:List α} {j:Int} {e:α} (hr:bW K a cap xs) (hj:ix xs j=some e):Lies a:=by
 obtain ⟨h0,h1,h2⟩:=aDy hj
 obtain ⟨cs,⟨ad,c,E',fr,rfl,hs,_⟩,_⟩:=hr.cell _ _ h2
 exact ⟨ad,rfl,hs⟩
theorem dL {α:Type} [El α] {T E:TypeId} {sz:Nat} {a:Option Addr} {len cap:Nat} {xs:List α} {j:Int} {e:α} (hT:SLT P T E sz) (hz:El.sz α=sz) (ha:Lies a)
  (hx:ev f x=.slice a len cap) (hl:len=xs.length) (hy:ev f y=i64 j) (hj:ix xs j=some e):
  (execOp (ev f) ⟨some d,.indexAddr T x y,ty,pos,af,none⟩).run P w=.ok (.value (cC a (j.toNat * sz+0))) w:=by
 obtain ⟨h0,h1,h2⟩:=aDy hj
 obtain ⟨ad,rfl,s⟩:=ha
 subst hl
 simp [execOp,hx,hy,aFf (w:=w) (cap:=cap) hT s h0 h1,cC]
theorem aJs {S:TypeId} {q o k k':Nat} {a:Option Addr} (hF:FA P S q o) (ha:Lies a) (hx:ev f x=cC a k) (hk:k+o=k'):
  (execOp (ev f) ⟨some d,.fieldAddr S x q,ty,pos,af,none⟩).run P w=.ok (.value (cC a k')) w:=by
 obtain ⟨ad,rfl,_⟩:=ha
 subst hk
 simp only [execOp,hx,aAT,Sem.run_bind,aFe hF]
 simp [Nat.add_assoc]
theorem aJt {α:Type} [El α] {E:TypeId} {Ke:Hp} {i sz:Nat} {a:Option Addr} {cap:Nat} {xs:List α} {j:Int} {e:α} (hz:El.sz α=sz) (hs:aI G K L w) (hi:L[i]?=some (aN E Ke a cap xs)) (hj:ix xs j=some e):
  ∃ cs,(∃ ad,a=some ad/\∀ (t:Nat) (v:Value),cs[t]?=some v->w.cell? ⟨ad.block,ad.off+(j.toNat * sz+t),none⟩=some v)/\El.rd Ke cs e:=by
 subst hz
 obtain ⟨_,hjl,hje⟩:=aDy hj
 obtain ⟨h1,⟨_,hA⟩,hle,_⟩:=hs.entry hi
 rcases hA with ⟨_,rfl,_⟩|⟨ad,c,rows,rfl,sp,hb,hcs,hrl,hrc,hel⟩
 ·simp at hjl
 ·refine ⟨_,⟨ad,rfl,fun t v ht=>rF hle hb ?_⟩,hel _ _ hje⟩
  have ht':t < El.sz α:=by have:=(List.getElem?_eq_some_iff.1 ht).1;simp only [List.length_take] at this;omega
  rw [List.getElem?_take_of_lt ht',List.getElem?_drop] at ht
  exact hrc _ _ ht
theorem aLZ {T:TypeId} {a:Option Addr} {k t:Nat} {cs:List Value} {v:Value} (hT:SC P T) (hc:∃ ad,a=some ad/\∀ (t:Nat) (v:Value),cs[t]?=some v->w.cell? ⟨ad.block,ad.off+(k+t),none⟩=some v)
  (hx:ev f x=cC a (k+t)) (hv:cs[t]?=some v):(execOp (ev f) ⟨some d,.load T x,ty,pos,af,none⟩).run P w=.ok (.value v) w:=by
 obtain ⟨ad,rfl,hc⟩:=hc
 simp only [execOp,hx,aAT,Sem.run_bind,aGB hT (hc t v hv)];simp
theorem aIU {β:Type} {l:List β} {i j:Nat} (h:i < j):(l.eraseIdx j)[i]?=l[i]?:=by
 rw [List.getElem?_eraseIdx];simp [h]
section
variable {α:Type} [Dp α] {tys:List TypeId} {hds hds2:List (Dp.Hd α)} {xs ys zz:List α}
theorem WO_appD {T E E2:TypeId} {sz i:Nat} {zs:List Value} {a a2:Option Addr} {cap c2 l1 l2:Nat} {Ke K2:Hp} (hT:SLT P T E sz) (hU:P.underlying T=some (.slice E)) (hE:EZ P E zs) (hsz:Dp.sz1 α+1=sz) (hzs:zs.length=sz)
  (hs:aI G K (aN E2 K2 a2 c2 (dZ hds2 ys)::rows tys hds2 ys::L) w) (hl:hds.length=xs.length) (hly:hds2.length=ys.length) (hi:L[i]?=some (aN E Ke a cap (dZ hds xs))) (hi2:L[i+1]?=some (rows tys hds xs))
  (hm:rE xs ys=some zz) (hx:ev f x=.slice a l1 cap) (hl1:l1=xs.length) (hy:ev f y=.slice a2 l2 c2) (hl2:l2=ys.length)
  (h:∀ a' cap' w',aI G K (aN E K a' cap' (dZ (hds++hds2) zz)::rows tys (hds++hds2) zz::(L.eraseIdx (i+1)).eraseIdx i) w'->WO P n ops rest Q (upd f d (.slice a' zz.length cap')) w'):
  WO P n ops (⟨some d,.call ⟨.builtin .append,#[x,y],#[T,T]⟩,ty,pos,af,none⟩::rest) Q f w:=by
 have hlz:=app_len hl hly hm
 refine eR (i:=i+1) (K2:=K) (Ke:=K) (xs:=dZ hds xs) (ys:=dZ hds2 ys) hT hU hE hsz hzs hs (show (rows tys hds2 ys::L)[i+1]?=some (aN E K a cap (dZ hds xs)) from (List.getElem?_cons_succ).trans hi) (Hp.le_refl _) (Hp.le_refl _) (apd_heads hl hly hm) hx (by rw [jW hl];exact hl1) hy (by rw [jW hly];exact hl2) (fun _ h=>h) (fun a' cap' w' hs'=>?_)
 rw [jW hlz]
 refine h a' cap' w' ?_
 have e:(rows tys hds2 ys::L).set (i+1) (aN E K a' cap' (dZ (hds++hds2) zz))=rows tys hds2 ys::L.set i (aN E K a' cap' (dZ (hds++hds2) zz)):=rfl
 rw [e] at hs'
 have h1:=aI.rowsApp (i:=i+1) hs' (by rw [List.getElem?_set_ne (by omega)];exact hi2) hl hm
 have hil:i < L.length:=(List.getElem?_eq_some_iff.1 hi).1
 have h2:=aI.pull (i:=i+1) (A:=aN E K a' cap' (dZ (hds++hds2) zz)) h1 (by simp [aIU,hil])
 simp only [List.eraseIdx_cons_succ] at h2
 have e2:((L.set i (aN E K a' cap' (dZ (hds++hds2) zz))).eraseIdx (i+1)).eraseIdx i=(L.eraseIdx (i+1)).eraseIdx i:=by
  rw [List.eraseIdx_set_gt (by omega),List.eraseIdx_set_eq]
 rw [e2] at h2
 exact h2
theorem aI.lendD' {i:Nat} {E:TypeId} {Ke:Hp} {a:Option Addr} {cap:Nat} [El α] [DpEl α] (s:aI G K L w) (hl:hds.length=xs.length) (hi:L[i]?=some (aN E Ke a cap (dZ hds xs))) (hi2:L[i+1]?=some (rows tys hds xs)):
  ∃ K',K.le K'/\bW K' a cap xs/\(∀ (j:Nat) (hd:Dp.Hd α) (x:α),hds[j]?=some hd->xs[j]?=some x->El.rd K' (Dp.enc hd x) x)/\aI G K' ((L.eraseIdx (i+1)).eraseIdx i) w/\
   ∀ L' w',aI G K' L' w'->aI G K (aN E Ke a cap (dZ hds xs)::rows tys hds xs::L') w':=by
 have s1:=aI.pull (i:=i+1) s hi2
 have s2:=aI.pull (i:=i+1) (A:=aN E Ke a cap (dZ hds xs)) s1 (by simpa [aIU] using hi)
 simp only [List.eraseIdx_cons_succ] at s2
 exact aI.lendD s2 hl
end
section
variable {β:Type} [gH β] {tys:List TypeId} {hds:List (Dp.Hd (List β))} {xs zz:List (List β)}
theorem aI.rowsOne {ty:TypeId} {ra:Option Addr} {rc:Nat} {r:List β} {Ke:Hp} (s:aI G K (aN ty Ke ra rc r::L) w):aI G K (rows [ty] ([(ra,rc)]:List (Dp.Hd (List β))) [r]::L) w:=by
 have s1:=aI.rowsNil (α:=List β) (tys:=[ty]) s
 have s2:=aI.pull (i:=1) (A:=aN ty Ke ra rc r) s1 rfl
 exact aI.rowPush (α:=List β) (tys:=[ty]) (hd:=(ra,rc)) (x:=r) (hds:=[]) (xs:=[]) (L:=L) s2 rfl
end
end
end Gv
