/- Rules for the walks over slices that own their rows; addresses once known. No program in sight. -/
import Derived.Test.YtokmmhfhaoanmaaGreatDoorJO
set_option linter.all false
namespace Gv
open Go
section
variable {P:Program} {n:Nat} {ops:Array Oper} {rest:List Oper} {Q:mZ} {f:Nat->Value} {w:World}
variable {d:Nat} {x y z:Operand} {ty:TypeId} {pos:String} {af:Array Edge}
variable {G:mL} {K:Hp} {L:List eU}
theorem elp_b {v:Value} {b:Nat} (h:v=.pointer (some ⟨b,0,none⟩)):v=fL (some ⟨b,0,none⟩) 0:=h
def Lies (a:Option Addr):Prop:=∃ ad:Addr,a=some ad/\ad.spot=none
theorem cG {α:Type} [El α] {E:TypeId} {Ke:Hp} {i:Nat} {a:Option Addr} {cap:Nat} {xs:List α} {j:Int} {e:α} (hs:aD G K L w) (hi:L[i]?=some (aJ E Ke a cap xs)) (hj:ix xs j=some e):Lies a:=by
 obtain ⟨_,hjl,hje⟩:=aBG hj
 obtain ⟨h1,⟨_,hA⟩,hle,_⟩:=hs.entry hi
 rcases hA with ⟨_,rfl,_⟩|⟨ad,c,rows,rfl,sp,_⟩
 ·simp at hjl
 ·exact ⟨ad,rfl,sp⟩
theorem aLy {α:Type} [El α] {a:Option Addr} {cap:Nat} {xs:List α} {j:Int} {e:α} (hr:aW K a cap xs) (hj:ix xs j=some e):Lies a:=by
 obtain ⟨h0,h1,h2⟩:=aBG hj
 obtain ⟨cs,⟨ad,c,E',fr,rfl,hs,_⟩,_⟩:=hr.cell _ _ h2
 exact ⟨ad,rfl,hs⟩
theorem dG {α:Type} [El α] {T E:TypeId} {sz:Nat} {a:Option Addr} {len cap:Nat} {xs:List α} {j:Int} {e:α} (hT:yT P T E sz) (hz:El.sz α=sz) (ha:Lies a)
  (hx:ev f x=.slice a len cap) (hl:len=xs.length) (hy:ev f y=i64 j) (hj:ix xs j=some e):
  (execOp (ev f) ⟨some d,.indexAddr T x y,ty,pos,af,none⟩).run P w=.ok (.value (fL a (j.toNat * sz+0))) w:=by
 obtain ⟨h0,h1,h2⟩:=aBG hj
 obtain ⟨ad,rfl,s⟩:=ha
 subst hl
 simp [execOp,hx,hy,aEK (w:=w) (cap:=cap) hT s h0 h1,fL]
theorem aRR {S:TypeId} {q o k k':Nat} {a:Option Addr} (hF:FA P S q o) (ha:Lies a) (hx:ev f x=fL a k) (hk:k+o=k'):
  (execOp (ev f) ⟨some d,.fieldAddr S x q,ty,pos,af,none⟩).run P w=.ok (.value (fL a k')) w:=by
 obtain ⟨ad,rfl,_⟩:=ha
 subst hk
 simp only [execOp,hx,vD,Sem.run_bind,aEJ hF]
 simp [Nat.add_assoc]
theorem oS {α:Type} [El α] {E:TypeId} {Ke:Hp} {i sz:Nat} {a:Option Addr} {cap:Nat} {xs:List α} {j:Int} {e:α} (hz:El.sz α=sz) (hs:aD G K L w) (hi:L[i]?=some (aJ E Ke a cap xs)) (hj:ix xs j=some e):
  ∃ cs,(∃ ad,a=some ad/\∀ (t:Nat) (v:Value),cs[t]?=some v->w.cell? ⟨ad.block,ad.off+(j.toNat * sz+t),none⟩=some v)/\El.rd Ke cs e:=by
 subst hz
 obtain ⟨_,hjl,hje⟩:=aBG hj
 obtain ⟨h1,⟨_,hA⟩,hle,_⟩:=hs.entry hi
 rcases hA with ⟨_,rfl,_⟩|⟨ad,c,rows,rfl,sp,hb,hcs,hrl,hrc,hel⟩
 ·simp at hjl
 ·refine ⟨_,⟨ad,rfl,fun t v ht=>qS hle hb ?_⟩,hel _ _ hje⟩
  have ht':t < El.sz α:=by have:=(List.getElem?_eq_some_iff.1 ht).1;simp only [List.length_take] at this;omega
  rw [List.getElem?_take_of_lt ht',List.getElem?_drop] at ht
  exact hrc _ _ ht
theorem aAJ {T:TypeId} {a:Option Addr} {k t:Nat} {cs:List Value} {v:Value} (hT:SC P T) (hc:∃ ad,a=some ad/\∀ (t:Nat) (v:Value),cs[t]?=some v->w.cell? ⟨ad.block,ad.off+(k+t),none⟩=some v)
  (hx:ev f x=fL a (k+t)) (hv:cs[t]?=some v):(execOp (ev f) ⟨some d,.load T x,ty,pos,af,none⟩).run P w=.ok (.value v) w:=by
 obtain ⟨ad,rfl,hc⟩:=hc
 simp only [execOp,hx,vD,Sem.run_bind,aGy hT (hc t v hv)];simp
theorem R_ldCG {T:TypeId} {a:Option Addr} {k t m:Nat} {cs vs:List Value} (hT:AG P T m) (hc:∃ ad,a=some ad/\∀ (t:Nat) (v:Value),cs[t]?=some v->w.cell? ⟨ad.block,ad.off+(k+t),none⟩=some v)
  (hx:ev f x=fL a (k+t)) (hv:(cs.drop t).take m=vs) (hm:vs.length=m):(execOp (ev f) ⟨some d,.load T x,ty,pos,af,none⟩).run P w=.ok (.value (.agg vs.toArray)) w:=by
 obtain ⟨ad,rfl,hc⟩:=hc
 have hr:(Instr.loadAt T (fL (some ad) (k+t))).run P w=.ok (.agg vs.toArray) w:=by
  rw [vD]
  refine aEL hT hm (fun q v hq=>?_)
  rw [←hv] at hq
  have hlt:q < m:=by
   have:=(List.getElem?_eq_some_iff.1 hq).1
   simp at this;omega
  rw [List.getElem?_take_of_lt hlt,List.getElem?_drop] at hq
  have:=hc _ _ hq
  rw [←this];congr 2;omega
 simp only [execOp,hx,Sem.run_bind,hr];simp
theorem aGC {β:Type} {l:List β} {i j:Nat} (h:i < j):(l.eraseIdx j)[i]?=l[i]?:=by
 rw [List.getElem?_eraseIdx];simp [h]
section
variable {α:Type} [Dp α] {tys:List TypeId} {hds hds2:List (Dp.Hd α)} {xs ys zz:List α}
theorem aRS {l:Bool} {T E:TypeId} {sz:Nat} {zs:List Value} {k c:Int} {hd:Dp.Hd α} {e:α} (hT:yT P T E sz) (hE:EZB l P E zs) (hsz:Dp.sz1 α+1=sz) (hzs:zs.length=sz) (hs:aD G K L w)
  (hx:ev f x=i64 k) (hy:ev f y=i64 c) (hc:c=k) (hm:mkz k e=some xs) (he:zs=Dp.enc hd e) (hp:fF (Dp.pcs tys hd e) Hp.nil)
  (h:∀ a w',aD G K (aJ E K a xs.length (aO (List.replicate k.toNat hd) xs)::rows tys (List.replicate k.toNat hd) xs::L) w'->WO P n ops rest Q (upd f d (.slice a xs.length xs.length)) w'):
  WO P n ops (⟨some d,.makeSlice T x y,ty,pos,af,none⟩::rest) Q f w:=by
 obtain ⟨h1,h2,h3⟩:=aFK (hd:=hd) hm
 refine aOV (e:=aEN hd e) hT hE hsz hzs (hs.rowsMk (tys:=tys) (hd:=hd) hp h3) hx hy hc h1 he (fun a w' hs'=>?_)
 rw [lE h2] at hs' ⊢
 exact h a w' hs'
theorem aJv {T E E2:TypeId} {sz i:Nat} {zs:List Value} {a a2:Option Addr} {cap c2 l1 l2:Nat} {Ke K2:Hp} (hT:yT P T E sz) (hU:P.underlying T=some (.slice E)) (hE:EZ P E zs) (hsz:Dp.sz1 α+1=sz) (hzs:zs.length=sz)
  (hs:aD G K (aJ E2 K2 a2 c2 (aO hds2 ys)::rows tys hds2 ys::L) w) (hl:hds.length=xs.length) (hly:hds2.length=ys.length) (hi:L[i]?=some (aJ E Ke a cap (aO hds xs))) (hi2:L[i+1]?=some (rows tys hds xs))
  (hm:wR xs ys=some zz) (hx:ev f x=.slice a l1 cap) (hl1:l1=xs.length) (hy:ev f y=.slice a2 l2 c2) (hl2:l2=ys.length)
  (h:∀ a' cap' w',aD G K (aJ E K a' cap' (aO (hds++hds2) zz)::rows tys (hds++hds2) zz::(L.eraseIdx (i+1)).eraseIdx i) w'->WO P n ops rest Q (upd f d (.slice a' zz.length cap')) w'):
  WO P n ops (⟨some d,.call ⟨.builtin .append,#[x,y],#[T,T]⟩,ty,pos,af,none⟩::rest) Q f w:=by
 have hlz:=aGB hl hly hm
 refine aLt (i:=i+1) (K2:=K) (Ke:=K) (xs:=aO hds xs) (ys:=aO hds2 ys) hT hU hE hsz hzs hs (show (rows tys hds2 ys::L)[i+1]?=some (aJ E K a cap (aO hds xs)) from (List.getElem?_cons_succ).trans hi) (Hp.le_refl _) (Hp.le_refl _) (apd_heads hl hly hm) hx (by rw [lE hl];exact hl1) hy (by rw [lE hly];exact hl2) (fun _ h=>h) (fun a' cap' w' hs'=>?_)
 rw [lE hlz]
 refine h a' cap' w' ?_
 have e:(rows tys hds2 ys::L).set (i+1) (aJ E K a' cap' (aO (hds++hds2) zz))=rows tys hds2 ys::L.set i (aJ E K a' cap' (aO (hds++hds2) zz)):=rfl
 rw [e] at hs'
 have h1:=aD.rowsApp (i:=i+1) hs' (by rw [List.getElem?_set_ne (by omega)];exact hi2) hl hm
 have hil:i < L.length:=(List.getElem?_eq_some_iff.1 hi).1
 have h2:=aD.pull (i:=i+1) (A:=aJ E K a' cap' (aO (hds++hds2) zz)) h1 (by simp [aGC,hil])
 simp only [List.eraseIdx_cons_succ] at h2
 have e2:((L.set i (aJ E K a' cap' (aO (hds++hds2) zz))).eraseIdx (i+1)).eraseIdx i=(L.eraseIdx (i+1)).eraseIdx i:=by
  rw [List.eraseIdx_set_gt (by omega),List.eraseIdx_set_eq]
 rw [e2] at h2
 exact h2
theorem aD.lendD' {i:Nat} {E:TypeId} {Ke:Hp} {a:Option Addr} {cap:Nat} [El α] [aMV α] (s:aD G K L w) (hl:hds.length=xs.length) (hi:L[i]?=some (aJ E Ke a cap (aO hds xs))) (hi2:L[i+1]?=some (rows tys hds xs)):
  ∃ K',K.le K'/\aW K' a cap xs/\(∀ (j:Nat) (hd:Dp.Hd α) (x:α),hds[j]?=some hd->xs[j]?=some x->El.rd K' (Dp.enc hd x) x)/\aD G K' ((L.eraseIdx (i+1)).eraseIdx i) w/\
   ∀ L' w',aD G K' L' w'->aD G K (aJ E Ke a cap (aO hds xs)::rows tys hds xs::L') w':=by
 have s1:=aD.pull (i:=i+1) s hi2
 have s2:=aD.pull (i:=i+1) (A:=aJ E Ke a cap (aO hds xs)) s1 (by simpa [aGC] using hi)
 simp only [List.eraseIdx_cons_succ] at s2
 exact aD.lendD s2 hl
theorem aMW {T E:TypeId} {a:Option Addr} {i cap kk:Nat} {j:Int} {hd hd':Dp.Hd α} {e e':α} {v:Value} {Ke:Hp} (hT:∀ w,(Go.sizeOf T).run P w=.ok (Dp.sz1 α+1) w) (hs:aD G K (Dp.pcs tys hd' e'++L) w) (hl:hds.length=xs.length)
  (hi:L[i]?=some (aJ E Ke a cap (aO hds xs))) (hi2:L[i+1]?=some (rows tys hds xs)) (hx:ev f x=fL a kk) (hkk:kk=j.toNat * (Dp.sz1 α+1)+0) (hy:ev f y=v) (hj:ix xs j=some e) (hh:hds[j.toNat]?=some hd) (hst:Gv.st xs j e'=some zz)
  (hn:v.cells=(Dp.enc hd' e').toArray)
  (h:∀ w',aD G K (aJ E K a cap (aO (hds.set j.toNat hd') zz)::rows tys (hds.set j.toNat hd') zz::(L.eraseIdx (i+1)).eraseIdx i) w'->WO P n ops rest Q f w'):
  WO P n ops (⟨none,.store T x y,ty,pos,af,none⟩::rest) Q f w:=by
 have hi':(Dp.pcs tys hd' e'++L)[(Dp.pcs tys hd' e').length+i]?=some (aJ E K a cap (aO hds xs)):=by
  rw [List.getElem?_append_right (by omega),Nat.add_sub_cancel_left];exact hi
 refine qU (i:=(Dp.pcs tys hd' e').length+i) (t:=0) (Ke:=K) hT hs hi' (Hp.le_refl _) hx hkk hy (rP hl hj hh) (st_heads (hd:=hd') hl hst) hn (Dp.len _ _) (Dp.one _ _) (by simp [El.sz,dY.sz]) (fun cs hc=>?_) (fun w' hs'=>h w' ?_)
 ·cases hc
  have e1:(Dp.enc hd e).length=Dp.sz1 α+1:=Dp.len _ _
  show _=Dp.enc hd' e'
  simp only [aEN,dY.enc,Nat.zero_add]
  rw [List.drop_of_length_le (by omega)]
  simp
 ·have hil:i < L.length:=(List.getElem?_eq_some_iff.1 hi).1
  rw [List.set_append_right _ _ (by omega),Nat.add_sub_cancel_left] at hs'
  have h1:=aD.rowSet (i:=i+1) hs' hl hst (by rw [List.getElem?_set_ne (by omega)];exact hi2)
  have h2:=aD.pull (i:=i+1) (A:=aJ E K a cap (aO (hds.set j.toNat hd') zz)) h1 (by simp [aGC,hil])
  simp only [List.eraseIdx_cons_succ] at h2
  rw [List.eraseIdx_set_gt (by omega),List.eraseIdx_set_eq] at h2
  exact h2
end
section
variable {β:Type} [dY β] {tys:List TypeId} {hds:List (Dp.Hd (List β))} {xs zz:List (List β)}
theorem aD.rowsOne {ty:TypeId} {ra:Option Addr} {rc:Nat} {r:List β} {Ke:Hp} (s:aD G K (aJ ty Ke ra rc r::L) w):aD G K (rows [ty] ([(ra,rc)]:List (Dp.Hd (List β))) [r]::L) w:=by
 have s1:=aD.rowsNil (α:=List β) (tys:=[ty]) s
 have s2:=aD.pull (i:=1) (A:=aJ ty Ke ra rc r) s1 rfl
 exact aD.rowPush (α:=List β) (tys:=[ty]) (hd:=(ra,rc)) (x:=r) (hds:=[]) (xs:=[]) (L:=L) s2 rfl
end
end
end Gv
