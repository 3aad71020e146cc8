/- Rules for the walks over slices that own their rows; addresses once known. No program in sight. -/
import Derived.Test.YthbfapccpmppoaaGreatDoorJO
set_option linter.all false
namespace Gv
open Go
section
variable {P:Program} {n:Nat} {ops:Array Oper} {rest:List Oper} {Q:lI} {f:Nat->Value} {w:World}
variable {d:Nat} {x y z:Operand} {ty:TypeId} {pos:String} {af:Array Edge}
variable {G:kH} {K:Hp} {L:List eW}
theorem elp_b {v:Value} {b:Nat} (h:v=.pointer (some ⟨b,0,none⟩)):v=cE (some ⟨b,0,none⟩) 0:=h
def Lies (a:Option Addr):Prop:=∃ ad:Addr,a=some ad/\ad.spot=none
theorem eN {α:Type} [El α] {E:TypeId} {Ke:Hp} {i:Nat} {a:Option Addr} {cap:Nat} {xs:List α} {j:Int} {e:α} (hs:aF G K L w) (hi:L[i]?=some (aV E Ke a cap xs)) (hj:ix xs j=some e):Lies a:=by
 obtain ⟨_,hjl,hje⟩:=aAO hj
 obtain ⟨h1,⟨_,hA⟩,hle,_⟩:=hs.entry hi
 rcases hA with ⟨_,rfl,_⟩|⟨ad,c,rows,rfl,sp,_⟩
 ·simp at hjl
 ·exact ⟨ad,rfl,sp⟩
theorem jE {α:Type} [El α] {T E:TypeId} {sz:Nat} {a:Option Addr} {len cap:Nat} {xs:List α} {j:Int} {e:α} (hT:SLT P T E sz) (hz:El.sz α=sz) (ha:Lies a)
  (hx:ev f x=.slice a len cap) (hl:len=xs.length) (hy:ev f y=i64 j) (hj:ix xs j=some e):
  (execOp (ev f) ⟨some d,.indexAddr T x y,ty,pos,af,none⟩).run P w=.ok (.value (cE a (j.toNat * sz+0))) w:=by
 obtain ⟨h0,h1,h2⟩:=aAO hj
 obtain ⟨ad,rfl,s⟩:=ha
 subst hl
 simp [execOp,hx,hy,aCQ (w:=w) (cap:=cap) hT s h0 h1,cE]
theorem R_fldA {S:TypeId} {q o k k':Nat} {a:Option Addr} (hF:FA P S q o) (ha:Lies a) (hx:ev f x=cE a k) (hk:k+o=k'):
  (execOp (ev f) ⟨some d,.fieldAddr S x q,ty,pos,af,none⟩).run P w=.ok (.value (cE a k')) w:=by
 obtain ⟨ad,rfl,_⟩:=ha
 subst hk
 simp only [execOp,hx,aAf,Sem.run_bind,aCP hF]
 simp [Nat.add_assoc]
theorem aIX {β:Type} {l:List β} {i j:Nat} (h:i < j):(l.eraseIdx j)[i]?=l[i]?:=by
 rw [List.getElem?_eraseIdx];simp [h]
section
variable {α:Type} [Dp α] {tys:List TypeId} {hds hds2:List (Dp.Hd α)} {xs ys zz:List α}
theorem aOW {l:Bool} {T E:TypeId} {sz:Nat} {zs:List Value} {k c:Int} {hd:Dp.Hd α} {e:α} (hT:SLT P T E sz) (hE:EZB l P E zs) (hsz:Dp.sz1 α+1=sz) (hzs:zs.length=sz) (hs:aF G K L w)
  (hx:ev f x=i64 k) (hy:ev f y=i64 c) (hc:c=k) (hm:mkz k e=some xs) (he:zs=Dp.enc hd e) (hp:fQ (Dp.pcs tys hd e) Hp.nil)
  (h:∀ a w',aF G K (aV E K a xs.length (cI (List.replicate k.toNat hd) xs)::rows tys (List.replicate k.toNat hd) xs::L) w'->WO P n ops rest Q (upd f d (.slice a xs.length xs.length)) w'):
  WO P n ops (⟨some d,.makeSlice T x y,ty,pos,af,none⟩::rest) Q f w:=by
 obtain ⟨h1,h2,h3⟩:=aDN (hd:=hd) hm
 refine aIT (e:=aFx hd e) hT hE hsz hzs (hs.rowsMk (tys:=tys) (hd:=hd) hp h3) hx hy hc h1 he (fun a w' hs'=>?_)
 rw [xX h2] at hs' ⊢
 exact h a w' hs'
theorem aF.lendD' {i:Nat} {E:TypeId} {Ke:Hp} {a:Option Addr} {cap:Nat} [El α] [DpEl α] (s:aF G K L w) (hl:hds.length=xs.length) (hi:L[i]?=some (aV E Ke a cap (cI hds xs))) (hi2:L[i+1]?=some (rows tys hds xs)):
  ∃ K',K.le K'/\aW K' a cap xs/\(∀ (j:Nat) (hd:Dp.Hd α) (x:α),hds[j]?=some hd->xs[j]?=some x->El.rd K' (Dp.enc hd x) x)/\aF G K' ((L.eraseIdx (i+1)).eraseIdx i) w/\
   ∀ L' w',aF G K' L' w'->aF G K (aV E Ke a cap (cI hds xs)::rows tys hds xs::L') w':=by
 have s1:=aF.pull (i:=i+1) s hi2
 have s2:=aF.pull (i:=i+1) (A:=aV E Ke a cap (cI hds xs)) s1 (by simpa [aIX] using hi)
 simp only [List.eraseIdx_cons_succ] at s2
 exact aF.lendD s2 hl
theorem aOX {T E:TypeId} {a:Option Addr} {i cap kk:Nat} {j:Int} {hd hd':Dp.Hd α} {e e':α} {v:Value} {Ke:Hp} (hT:∀ w,(Go.sizeOf T).run P w=.ok (Dp.sz1 α+1) w) (hs:aF G K (Dp.pcs tys hd' e'++L) w) (hl:hds.length=xs.length)
  (hi:L[i]?=some (aV E Ke a cap (cI hds xs))) (hi2:L[i+1]?=some (rows tys hds xs)) (hx:ev f x=cE a kk) (hkk:kk=j.toNat * (Dp.sz1 α+1)+0) (hy:ev f y=v) (hj:ix xs j=some e) (hh:hds[j.toNat]?=some hd) (hst:Gv.st xs j e'=some zz)
  (hn:v.cells=(Dp.enc hd' e').toArray)
  (h:∀ w',aF G K (aV E K a cap (cI (hds.set j.toNat hd') zz)::rows tys (hds.set j.toNat hd') zz::(L.eraseIdx (i+1)).eraseIdx i) w'->WO P n ops rest Q f w'):
  WO P n ops (⟨none,.store T x y,ty,pos,af,none⟩::rest) Q f w:=by
 have hi':(Dp.pcs tys hd' e'++L)[(Dp.pcs tys hd' e').length+i]?=some (aV E K a cap (cI hds xs)):=by
  rw [List.getElem?_append_right (by omega),Nat.add_sub_cancel_left];exact hi
 refine aEC (i:=(Dp.pcs tys hd' e').length+i) (t:=0) (Ke:=K) hT hs hi' (Hp.le_refl _) hx hkk hy (aBN hl hj hh) (st_heads (hd:=hd') hl hst) hn (Dp.len _ _) (Dp.one _ _) (by simp [El.sz,iQ.sz]) (fun cs hc=>?_) (fun w' hs'=>h w' ?_)
 ·cases hc
  have e1:(Dp.enc hd e).length=Dp.sz1 α+1:=Dp.len _ _
  show _=Dp.enc hd' e'
  simp only [aFx,iQ.enc,Nat.zero_add]
  rw [List.drop_of_length_le (by omega)]
  simp
 ·have hil:i < L.length:=(List.getElem?_eq_some_iff.1 hi).1
  rw [List.set_append_right _ _ (by omega),Nat.add_sub_cancel_left] at hs'
  have h1:=aF.rowSet (i:=i+1) hs' hl hst (by rw [List.getElem?_set_ne (by omega)];exact hi2)
  have h2:=aF.pull (i:=i+1) (A:=aV E K a cap (cI (hds.set j.toNat hd') zz)) h1 (by simp [aIX,hil])
  simp only [List.eraseIdx_cons_succ] at h2
  rw [List.eraseIdx_set_gt (by omega),List.eraseIdx_set_eq] at h2
  exact h2
end
section
variable {β:Type} [iQ β] {tys:List TypeId} {hds:List (Dp.Hd (List β))} {xs zz:List (List β)}
end
end
end Gv
