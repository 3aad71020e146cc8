/- Rules for the walks over slices that own their rows; addresses once known. No program in sight. -/
import Derived.Test.YtfneiajlaacfoaaGreatDoorJO
set_option linter.all false
namespace Gv
open Go
section
variable {P:Program} {n:Nat} {ops:Array Oper} {rest:List Oper} {Q:nD} {f:Nat->Value} {w:World}
variable {d:Nat} {x y z:Operand} {ty:TypeId} {pos:String} {af:Array Edge}
variable {G:rY} {K:Hp} {L:List fD}
theorem elp_b {v:Value} {b:Nat} (h:v=.pointer (some ⟨b,0,none⟩)):v=cH (some ⟨b,0,none⟩) 0:=h
def Lies (a:Option Addr):Prop:=∃ ad:Addr,a=some ad/\ad.spot=none
theorem bV {α:Type} [El α] {E:TypeId} {Ke:Hp} {i:Nat} {a:Option Addr} {cap:Nat} {xs:List α} {j:Int} {e:α} (hs:aE G K L w) (hi:L[i]?=some (own E Ke a cap xs)) (hj:ix xs j=some e):Lies a:=by
 obtain ⟨_,hjl,hje⟩:=aAr hj
 obtain ⟨h1,⟨_,hA⟩,hle,_⟩:=hs.entry hi
 rcases hA with ⟨_,rfl,_⟩|⟨ad,c,rows,rfl,sp,_⟩
 ·simp at hjl
 ·exact ⟨ad,rfl,sp⟩
theorem aCi {α:Type} [El α] {a:Option Addr} {cap:Nat} {xs:List α} {j:Int} {e:α} (hr:bL K a cap xs) (hj:ix xs j=some e):Lies a:=by
 obtain ⟨h0,h1,h2⟩:=aAr hj
 obtain ⟨cs,⟨ad,c,E',fr,rfl,hs,_⟩,_⟩:=hr.cell _ _ h2
 exact ⟨ad,rfl,hs⟩
theorem cQ {α:Type} [El α] {T E:TypeId} {sz:Nat} {a:Option Addr} {len cap:Nat} {xs:List α} {j:Int} {e:α} (hT:SLT P T E sz) (hz:El.sz α=sz) (ha:Lies a)
  (hx:ev f x=.slice a len cap) (hl:len=xs.length) (hy:ev f y=i64 j) (hj:ix xs j=some e):
  (execOp (ev f) ⟨some d,.indexAddr T x y,ty,pos,af,none⟩).run P w=.ok (.value (cH a (j.toNat * sz+0))) w:=by
 obtain ⟨h0,h1,h2⟩:=aAr hj
 obtain ⟨ad,rfl,s⟩:=ha
 subst hl
 simp [execOp,hx,hy,aCh (w:=w) (cap:=cap) hT s h0 h1,cH]
theorem aGg {S:TypeId} {q o k k':Nat} {a:Option Addr} (hF:FA P S q o) (ha:Lies a) (hx:ev f x=cH a k) (hk:k+o=k'):
  (execOp (ev f) ⟨some d,.fieldAddr S x q,ty,pos,af,none⟩).run P w=.ok (.value (cH a k')) w:=by
 obtain ⟨ad,rfl,_⟩:=ha
 subst hk
 simp only [execOp,hx,wH,Sem.run_bind,aCg hF]
 simp [Nat.add_assoc]
theorem own_el {α:Type} [El α] {E:TypeId} {Ke:Hp} {i sz:Nat} {a:Option Addr} {cap:Nat} {xs:List α} {j:Int} {e:α} (hz:El.sz α=sz) (hs:aE G K L w) (hi:L[i]?=some (own E Ke a cap xs)) (hj:ix xs j=some e):
  ∃ cs,(∃ ad,a=some ad/\∀ (t:Nat) (v:Value),cs[t]?=some v->w.cell? ⟨ad.block,ad.off+(j.toNat * sz+t),none⟩=some v)/\El.rd Ke cs e:=by
 subst hz
 obtain ⟨_,hjl,hje⟩:=aAr hj
 obtain ⟨h1,⟨_,hA⟩,hle,_⟩:=hs.entry hi
 rcases hA with ⟨_,rfl,_⟩|⟨ad,c,rows,rfl,sp,hb,hcs,hrl,hrc,hel⟩
 ·simp at hjl
 ·refine ⟨_,⟨ad,rfl,fun t v ht=>qA hle hb ?_⟩,hel _ _ hje⟩
  have ht':t < El.sz α:=by have:=(List.getElem?_eq_some_iff.1 ht).1;simp only [List.length_take] at this;omega
  rw [List.getElem?_take_of_lt ht',List.getElem?_drop] at ht
  exact hrc _ _ ht
theorem R_ldC {T:TypeId} {a:Option Addr} {k t:Nat} {cs:List Value} {v:Value} (hT:SC P T) (hc:∃ ad,a=some ad/\∀ (t:Nat) (v:Value),cs[t]?=some v->w.cell? ⟨ad.block,ad.off+(k+t),none⟩=some v)
  (hx:ev f x=cH a (k+t)) (hv:cs[t]?=some v):(execOp (ev f) ⟨some d,.load T x,ty,pos,af,none⟩).run P w=.ok (.value v) w:=by
 obtain ⟨ad,rfl,hc⟩:=hc
 simp only [execOp,hx,wH,Sem.run_bind,aDI hT (hc t v hv)];simp
theorem aDK {β:Type} {l:List β} {i j:Nat} (h:i < j):(l.eraseIdx j)[i]?=l[i]?:=by
 rw [List.getElem?_eraseIdx];simp [h]
section
variable {α:Type} [Dp α] {tys:List TypeId} {hds hds2:List (Dp.Hd α)} {xs ys zz:List α}
theorem WO_mkD {T E:TypeId} {sz:Nat} {zs:List Value} {k c:Int} {hd:Dp.Hd α} {e:α} (hT:SLT P T E sz) (hE:EZ P E zs) (hsz:Dp.sz1 α+1=sz) (hzs:zs.length=sz) (hs:aE G K L w)
  (hx:ev f x=i64 k) (hy:ev f y=i64 c) (hc:c=k) (hm:mkz k e=some xs) (he:zs=Dp.enc hd e) (hp:fE (Dp.pcs tys hd e) Hp.nil)
  (h:∀ a w',aE G K (own E K a xs.length (cP (List.replicate k.toNat hd) xs)::rows tys (List.replicate k.toNat hd) xs::L) w'->WO P n ops rest Q (upd f d (.slice a xs.length xs.length)) w'):
  WO P n ops (⟨some d,.makeSlice T x y,ty,pos,af,none⟩::rest) Q f w:=by
 obtain ⟨h1,h2,h3⟩:=aFu (hd:=hd) hm
 refine aEj (e:=zF hd e) hT hE hsz hzs (hs.rowsMk (tys:=tys) (hd:=hd) hp h3) hx hy hc h1 he (fun a w' hs'=>?_)
 rw [kY h2] at hs' ⊢
 exact h a w' hs'
theorem aE.lendD' {i:Nat} {E:TypeId} {Ke:Hp} {a:Option Addr} {cap:Nat} [El α] [DpEl α] (s:aE G K L w) (hl:hds.length=xs.length) (hi:L[i]?=some (own E Ke a cap (cP hds xs))) (hi2:L[i+1]?=some (rows tys hds xs)):
  ∃ K',K.le K'/\bL K' a cap xs/\(∀ (j:Nat) (hd:Dp.Hd α) (x:α),hds[j]?=some hd->xs[j]?=some x->El.rd K' (Dp.enc hd x) x)/\aE G K' ((L.eraseIdx (i+1)).eraseIdx i) w/\
   ∀ L' w',aE G K' L' w'->aE G K (own E Ke a cap (cP hds xs)::rows tys hds xs::L') w':=by
 have s1:=aE.pull (i:=i+1) s hi2
 have s2:=aE.pull (i:=i+1) (A:=own E Ke a cap (cP hds xs)) s1 (by simpa [aDK] using hi)
 simp only [List.eraseIdx_cons_succ] at s2
 exact aE.lendD s2 hl
end
section
variable {β:Type} [eQ β] {tys:List TypeId} {hds:List (Dp.Hd (List β))} {xs zz:List (List β)}
theorem aE.focusR {E:TypeId} {Ke:Hp} {a ra:Option Addr} {i cap rc:Nat} {j:Int} {r:List β} (hs:aE G K L w) (hi:L[i]?=some (own E Ke a cap (cP hds xs))) (hi2:L[i+1]?=some (rows tys hds xs)) (hh:hds[j.toNat]?=some (ra,rc)) (hj:ix xs j=some r):
  aE G K (own E Ke a cap (cP hds xs)::rows tys (hds.eraseIdx j.toNat) (xs.eraseIdx j.toNat)::own (tys.headD 0) Hp.nil ra rc r::(L.eraseIdx (i+1)).eraseIdx i) w:=by
 have s1:aE G K (own (tys.headD 0) Hp.nil ra rc r::rows tys (hds.eraseIdx j.toNat) (xs.eraseIdx j.toNat)::L.eraseIdx (i+1)) w:=aE.rowOut hs hi2 hh (ix_at hj)
 have s2:=aE.pull (i:=1) s1 rfl
 have s3:=aE.pull (i:=i+2) (A:=own E Ke a cap (cP hds xs)) s2 (by simpa [aDK] using hi)
 simpa using s3
theorem aE.rowsOne {ty:TypeId} {ra:Option Addr} {rc:Nat} {r:List β} {Ke:Hp} (s:aE G K (own ty Ke ra rc r::L) w):aE G K (rows [ty] ([(ra,rc)]:List (Dp.Hd (List β))) [r]::L) w:=by
 have s1:=aE.rowsNil (α:=List β) (tys:=[ty]) s
 have s2:=aE.pull (i:=1) (A:=own ty Ke ra rc r) s1 rfl
 exact aE.rowPush (α:=List β) (tys:=[ty]) (hd:=(ra,rc)) (x:=r) (hds:=[]) (xs:=[]) (L:=L) s2 rfl
end
end
end Gv
