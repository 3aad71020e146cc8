/- Bound arguments; rows that are taken or put; maps that may be nil; ways out of loops over maps. No program in sight. -/
import Derived.Test.YthmfdhgeglgpbaaGreatDoorJYR
import Derived.Test.YthmfdhgeglgpbaaGreatDoorJLM
set_option linter.all false
namespace Gv
open Go
section
variable {P:Program} {n:Nat} {ops:Array Oper} {rest:List Oper} {Q:pP} {f:Nat->Value} {w:World}
variable {d:Nat} {x y z:Operand} {ty:TypeId} {pos:String} {af:Array Go.Edge}
variable {G:rT} {K:Hp} {L:List fM}
theorem R_shrU {a b c:Int} {yk:IntKind} {T U:TypeId} (hx:ev f x=.int .u64 a) (hy:ev f y=.int yk b) (hc:shU a b=some c):
  (execOp (ev f) ⟨some d,.binOp .shr T x y U,ty,pos,af,none⟩).run P w=.ok (.value (.int .u64 c)) w:=by
 unfold shU at hc
 split at hc
 ·rename_i h
  have hn:¬ b < 0:=by omega
  cases hc
  simp [execOp,hx,hy,eqGuard,binOp,Op.shift,hn,IntKind.bits]
 ·cases hc
theorem R_andU {a b:Int} {T U:TypeId} (hx:ev f x=.int .u64 a) (hy:ev f y=.int .u64 b):
  (execOp (ev f) ⟨some d,.binOp .and T x y U,ty,pos,af,none⟩).run P w=.ok (.value (.int .u64 (anU a b))) w:=by
 have e:(BitVec.ofInt 64 a&&& BitVec.ofInt 64 b).toNat=(a % 18446744073709551616).toNat&&& (b % 18446744073709551616).toNat:=by
  rw [BitVec.toNat_and];simp [BitVec.toNat_ofInt]
 simp [execOp,hx,hy,eqGuard,binOp,Op.intBits,anU,aKa,IntKind.bits]
 exact congrArg (fun n:Nat=>oV (n:Int)) e
end
section
variable {P:Program} {n:Nat} {ops:Array Oper} {rest:List Oper} {Q:pP} {f:Nat->Value} {w:World}
variable {d:Nat} {x y z:Operand} {ty:TypeId} {pos:String} {af:Array Go.Edge}
variable {G:rT} {K:Hp} {L:List fM} {α:Type} [Dp α] {tys:List TypeId} {hds:List (Dp.Hd α)} {xs zz:List α}
theorem aF.rowHole {i:Nat} {j:Int} {hd':Dp.Hd α} {x':α} (s:aF G K (Dp.pcs tys hd' x'++L) w) (hl:hds.length=xs.length) (hz:Gv.st xs j x'=some zz) (hi:L[i]?=some (rows tys (hds.eraseIdx j.toNat) (xs.eraseIdx j.toNat))):
  aF G K (rows tys (hds.set j.toNat hd') zz::L.eraseIdx i) w:=by
 obtain ⟨h0,h1,rfl⟩:=aJX hz
 have s1:aF G K (rows tys (hds.eraseIdx j.toNat) (xs.eraseIdx j.toNat)::(Dp.pcs tys hd' x'++L.eraseIdx i)) w:=by
  have hi':(Dp.pcs tys hd' x'++L)[(Dp.pcs tys hd' x').length+i]?=some (rows tys (hds.eraseIdx j.toNat) (xs.eraseIdx j.toNat)):=by
   rw [List.getElem?_append_right (by omega),Nat.add_sub_cancel_left];exact hi
  have:=aF.pull s hi'
  rwa [List.eraseIdx_append_of_length_le (by omega),Nat.add_sub_cancel_left] at this
 obtain ⟨e,g,gd,gl,d,k,l,r⟩:=s1
 have r3:fQ (Dp.pcs tys hd' x'++rows tys (hds.eraseIdx j.toNat) (xs.eraseIdx j.toNat)::L.eraseIdx i) g:=by
  have:fQ ([rows tys (hds.eraseIdx j.toNat) (xs.eraseIdx j.toNat)]++(Dp.pcs tys hd' x'++L.eraseIdx i)) g:=r
  exact this.swap
 exact aF.rowIn (hd:=hd') (x:=x') ⟨e,g,gd,gl,d,k,l,r3⟩ hl h1
theorem WO_stH {T E:TypeId} {a:Option Addr} {i cap kk:Nat} {j:Int} {hd hd':Dp.Hd α} {e e':α} {v:Value} {Ke:Hp} (hT:∀ w,(Go.sizeOf T).run P w=.ok (Dp.sz1 α+1) w) (hs:aF G K (Dp.pcs tys hd' e'++L) w) (hl:hds.length=xs.length)
  (hi:L[i]?=some (own E Ke a cap (cA hds xs))) (hi2:L[i+1]?=some (rows tys (hds.eraseIdx j.toNat) (xs.eraseIdx j.toNat))) (hx:ev f x=cE a kk) (hkk:kk=j.toNat * (Dp.sz1 α+1)+0) (hy:ev f y=v) (hj:ix xs j=some e) (hh:hds[j.toNat]?=some hd) (hst:Gv.st xs j e'=some zz)
  (hn:v.cells=(Dp.enc hd' e').toArray)
  (h:∀ w',aF G K (own E K a cap (cA (hds.set j.toNat hd') zz)::rows tys (hds.set j.toNat hd') zz::(L.eraseIdx (i+1)).eraseIdx i) w'->WO P n ops rest Q f w'):
  WO P n ops (⟨none,.store T x y,ty,pos,af,none⟩::rest) Q f w:=by
 have hi':(Dp.pcs tys hd' e'++L)[(Dp.pcs tys hd' e').length+i]?=some (own E K a cap (cA hds xs)):=by
  rw [List.getElem?_append_right (by omega),Nat.add_sub_cancel_left];exact hi
 refine eC (i:=(Dp.pcs tys hd' e').length+i) (t:=0) (Ke:=K) hT hs hi' (Hp.le_refl _) hx hkk hy (aKe hl hj hh) (st_heads (hd:=hd') hl hst) hn (Dp.len _ _) (Dp.one _ _) (by simp [El.sz,dV.sz]) (fun cs hc=>?_) (fun w' hs'=>h w' ?_)
 ·cases hc
  have e1:(Dp.enc hd e).length=Dp.sz1 α+1:=Dp.len _ _
  show _=Dp.enc hd' e'
  simp only [aBO,dV.enc,Nat.zero_add]
  rw [List.drop_of_length_le (by omega)]
  simp
 ·have hil:i < L.length:=(List.getElem?_eq_some_iff.1 hi).1
  rw [List.set_append_right _ _ (by omega),Nat.add_sub_cancel_left] at hs'
  have h1:=aF.rowHole (i:=i+1) hs' hl hst (by rw [List.getElem?_set_ne (by omega)];exact hi2)
  have h2:=aF.pull (i:=i+1) (A:=own E K a cap (cA (hds.set j.toNat hd') zz)) h1 (by simp [aCP,hil])
  simp only [List.eraseIdx_cons_succ] at h2
  rw [List.eraseIdx_set_gt (by omega),List.eraseIdx_set_eq] at h2
  exact h2
end
section
variable {G:rT} {K:Hp} {L:List fM} {w:World} {β:Type} [dV β] {tys:List TypeId} {hds:List (Dp.Hd (List β))} {xs:List (List β)}
end
section
variable {P:Program} {n:Nat} {ops:Array Oper} {rest:List Oper} {Q:pP} {f:Nat->Value} {w:World}
variable {d:Nat} {x y z:Operand} {ty:TypeId} {pos:String} {af:Array Go.Edge}
variable {G:rT} {K:Hp} {L:List fM} {α:Type} [Dp α] {tys:List TypeId} {hds:List (Dp.Hd α)} {xs r:List α}
end
section
variable {α:Type} [El α] {G:rT} {K:Hp} {L:List fM} {w:World}
end
section
variable {P:Program} {n:Nat} {ops:Array Oper} {rest:List Oper} {Q:pP} {f:Nat->Value} {w:World}
variable {d:Nat} {x y z:Operand} {ty:TypeId} {pos:String} {af:Array Go.Edge}
variable {β:Type} [dV β] {G:rT} {K:Hp} {L:List fM}
end
section
variable {κ ν:Type} [DecidableEq κ] [Vl κ] [Vl ν] {G:rT} {K:Hp} {L:List fM} {w:World}
end
section
variable {κ:Type}
end
end Gv
namespace Gv
open Go
section
variable {β:Type} [dV β] {G:rT} {K Ke:Hp} {L:List fM} {w:World}
theorem aF.ex {γ:Type} {i:Nat} {A:fM} {B:γ->fM} {p:γ->Prop} (s:aF G K L w) (hi:L[i]?=some A) (h:∀ h1,A h1->∃ x,p x/\B x h1):∃ x,p x/\aF G K (L.set i (B x)) w:=by
 obtain ⟨e,g,gd,gl,d,k,l,r⟩:=s
 obtain ⟨h1,h2,a,dj,l1,l2,r'⟩:=r.pick hi
 obtain ⟨x,px,bx⟩:=h h1 a
 have hlt:i < L.length:=(List.getElem?_eq_some_iff.1 hi).1
 exact ⟨x,px,e,g,gd,gl,d,k,l,(fQ.put bx dj r' hlt).le (Hp.un_le l1 l2)⟩
def HdR (Ke:Hp) (hds:List (Option Addr × Nat)) (xs:List (List β)):Prop:=hds.length=xs.length/\∀ (j:Nat) (hd:Option Addr × Nat) (x:List β),hds[j]?=some hd->xs[j]?=some x->bI Ke hd.1 hd.2 x
theorem frz_own {E:TypeId} {a:Option Addr} {cap:Nat} {xs:List (List β)} {h:Hp} (o:own E Ke a cap xs h):∃ hds:List (Dp.Hd (List β)),HdR Ke hds xs/\own E Ke a cap (cA hds xs) h:=by
 obtain ⟨h1,h3⟩:=o
 rcases h3 with ⟨rfl,rfl,rfl⟩|⟨ad,c,rx,rfl,s,m,z,l,r1,r2⟩
 ·exact ⟨[],⟨rfl,fun j hd x h=>by simp at h⟩,Nat.le_refl _,.inl ⟨rfl,rfl,rfl⟩⟩
 ·have key:∀ i:Fin xs.length,∃ hd:Option Addr × Nat,(rx.drop (i.val * 1)).take 1=[Value.slice hd.1 (xs[i]).length hd.2]/\bI Ke hd.1 hd.2 xs[i]:=fun i=>by
   obtain ⟨a,c,e,r⟩:=r2 i.val xs[i] (List.getElem?_eq_getElem i.isLt)
   exact ⟨(a,c),e,r⟩
  let f:Fin xs.length->Option Addr × Nat:=fun i=>Classical.choose (key i)
  have hf:∀ i,(rx.drop (i.val * 1)).take 1=[Value.slice (f i).1 (xs[i]).length (f i).2]/\bI Ke (f i).1 (f i).2 xs[i]:=fun i=>Classical.choose_spec (key i)
  have hl:(List.ofFn f).length=xs.length:=List.length_ofFn
  have hg:∀ j (hj:j < xs.length),(List.ofFn f)[j]?=some (f ⟨j,hj⟩):=fun j hj=>by rw [List.getElem?_ofFn,dif_pos hj]
  refine ⟨List.ofFn f,⟨hl,fun j hd x h4 h5=>?_⟩,?_,.inr ⟨ad,c,rx,rfl,s,m,z,?_,r1,fun i d hd=>?_⟩⟩
  ·obtain ⟨hj,rfl⟩:=List.getElem?_eq_some_iff.1 h5
   rw [hg j hj] at h4
   cases h4
   exact (hf ⟨j,hj⟩).2
  ·rw [iS hl];exact h1
  ·rw [iS hl];exact l
  ·have hj:i < xs.length:=by
    have:=(List.getElem?_eq_some_iff.1 hd).1
    rwa [iS hl] at this
   unfold cA at hd
   rw [aIB aBO (hg i hj) (List.getElem?_eq_getElem hj)] at hd
   cases hd
   exact (hf ⟨i,hj⟩).1
theorem frz_back {E:TypeId} {a:Option Addr} {cap:Nat} {hds:List (Dp.Hd (List β))} {xs:List (List β)} {Kb:Hp} {h:Hp} (hr:HdR Ke hds xs) (o:own E Kb a cap (cA hds xs) h):own E Ke a cap xs h:=by
 obtain ⟨hl,hr⟩:=hr
 obtain ⟨h1,h3⟩:=o
 rw [iS hl] at h1
 rcases h3 with ⟨rfl,h4,rfl⟩|⟨ad,c,rx,rfl,s,m,z,l,r1,r2⟩
 ·obtain rfl:xs=[]:=List.length_eq_zero_iff.1 (by omega)
  exact ⟨Nat.le_refl _,.inl ⟨rfl,rfl,rfl⟩⟩
 ·rw [iS hl] at l
  refine ⟨h1,.inr ⟨ad,c,rx,rfl,s,m,z,l,r1,fun i d hd=>?_⟩⟩
  obtain ⟨hj,rfl⟩:=List.getElem?_eq_some_iff.1 hd
  have hh:hds[i]?=some (hds[i]'(by omega)):=List.getElem?_eq_getElem _
  have:=r2 i _ (aIB aBO hh hd)
  exact ⟨_,_,this,hr i _ _ hh hd⟩
theorem aF.frzOpen {E:TypeId} {i:Nat} {a:Option Addr} {cap:Nat} {xs:List (List β)} (s:aF G K L w) (hi:L[i]?=some (own E Ke a cap xs)):∃ hds:List (Dp.Hd (List β)),HdR Ke hds xs/\aF G K (L.set i (own E Ke a cap (cA hds xs))) w:=
 aF.ex (B:=fun hds:List (Dp.Hd (List β))=>own E Ke a cap (cA hds xs)) s hi fun _ o=>frz_own o
theorem aF.frzClose {E:TypeId} {i:Nat} {a:Option Addr} {cap:Nat} {hds:List (Dp.Hd (List β))} {xs:List (List β)} {Kb:Hp} (s:aF G K L w) (hi:L[i]?=some (own E Kb a cap (cA hds xs))) (hr:HdR Ke hds xs):aF G K (L.set i (own E Ke a cap xs)) w:=by
 obtain ⟨_,_,h⟩:=aF.ex (γ:=Unit) (p:=fun _=>True) (B:=fun _=>own E Ke a cap xs) s hi fun _ o=>⟨(),trivial,frz_back hr o⟩
 exact h
theorem HdR.mono {K':Hp} {hds:List (Option Addr × Nat)} {xs:List (List β)} (h:HdR Ke hds xs) (hk:Ke.le K'):HdR K' hds xs:=⟨h.1,fun j hd x h1 h2=>(h.2 j hd x h1 h2).mono hk⟩
theorem HdR.set {hds:List (Option Addr × Nat)} {xs:List (List β)} (h:HdR Ke hds xs) {j:Nat} {hd:Option Addr × Nat} {x:List β} (hx:bI Ke hd.1 hd.2 x):HdR Ke (hds.set j hd) (xs.set j x):=by
 refine ⟨by rw [List.length_set,List.length_set];exact h.1,fun k d y h1 h2=>?_⟩
 rw [List.getElem?_set] at h1 h2
 by_cases e:j=k
 ·subst e
  rw [if_pos rfl] at h1 h2
  split at h1
  ·split at h2
   ·cases h1;cases h2;exact hx
   ·cases h2
  ·cases h1
 ·rw [if_neg e] at h1 h2
  exact h.2 k d y h1 h2
theorem HdR.ovw {hds:List (Option Addr × Nat)} {xs:List (List β)} (h:HdR Ke hds xs) {lo m:Nat} (hm:lo+m<=xs.length):HdR Ke (hds.take lo++List.replicate m (none,0)++hds.drop (lo+m)) (xs.take lo++List.replicate m []++xs.drop (lo+m)):=by
 have hl:=h.1
 refine ⟨by simp only [List.length_append,List.length_take,List.length_replicate,List.length_drop];omega,fun k d y h1 h2=>?_⟩
 by_cases k1:k < lo
 ·rw [List.append_assoc,List.getElem?_append_left (by rw [List.length_take];omega),List.getElem?_take_of_lt k1] at h1 h2
  exact h.2 k d y h1 h2
 ·by_cases k2:k < lo+m
  ·rw [List.append_assoc,List.getElem?_append_right (by rw [List.length_take];omega),List.getElem?_append_left (by rw [List.length_take,List.length_replicate];omega),List.getElem?_replicate_of_lt (by rw [List.length_take];omega)] at h1 h2
   cases h1;cases h2
   exact aCO _
  ·rw [List.getElem?_append_right (by simp only [List.length_append,List.length_take,List.length_replicate];omega),List.getElem?_drop] at h1 h2
   have e1:lo+m+(k - (hds.take lo++List.replicate m (none,0)).length)=k:=by simp only [List.length_append,List.length_take,List.length_replicate];omega
   have e2:lo+m+(k - (xs.take lo++List.replicate m []).length)=k:=by simp only [List.length_append,List.length_take,List.length_replicate];omega
   rw [e1] at h1
   rw [e2] at h2
   exact h.2 k d y h1 h2
variable {P:Program} {n:Nat} {ops:Array Oper} {rest:List Oper} {Q:pP} {f:Nat->Value}
variable {d:Nat} {x y z:Operand} {ty:TypeId} {pos:String} {af:Array Go.Edge}
end
end Gv
namespace Gv
open Go
section
variable {P:Program} {w:World}
end
end Gv
namespace Gv
open Go
section
variable {P:Program} {f:Nat->Value} {w:World} {d:Nat} {x y:Operand} {ty:TypeId} {pos:String} {af:Array Go.Edge} {Ts:Array TypeId}
end
end Gv
namespace Gv
open Go
section
variable {α:Type} [Dp α] {tys:List TypeId} {hds:List (Dp.Hd α)} {xs zz:List α} {G:rT} {K:Hp} {L:List fM} {w:World}
end
section
variable {P:Program} {n:Nat} {ops:Array Oper} {rest:List Oper} {Q:pP} {f:Nat->Value} {w:World}
variable {x y:Operand} {ty:TypeId} {pos:String} {af:Array Go.Edge}
variable {G:rT} {K:Hp} {L:List fM}
variable {α:Type} [Dp α] {tys:List TypeId} {hds:List (Dp.Hd α)} {xs zz:List α}
end
end Gv
namespace Gv
open Go
section
variable {β:Type} [dV β]
variable {P:Program} {n:Nat} {ops:Array Oper} {rest:List Oper} {Q:pP} {f:Nat->Value} {w:World}
variable {d:Nat} {x y z u:Operand} {ty:TypeId} {pos:String} {af:Array Go.Edge}
variable {G:rT} {K:Hp} {L:List fM}
theorem WO_sl3 {T E:TypeId} {sz:Nat} {a:Option Addr} {len cap lo hi mx:Nat} (hT:SLT P T E sz) (hx:ev f x=.slice a len cap) (hl:ev f y=i64 (lo:Int)) (hh:ev f z=i64 (hi:Int)) (hm:ev f u=i64 (mx:Int)) (h1:lo<=hi) (h2:hi<=mx) (h3:mx<=cap)
  (h:∀ v,WO P n ops rest Q (upd f d v) w):WO P n ops (⟨some d,.slice T x (some y) (some z) (some u),ty,pos,af,none⟩::rest) Q f w:=by
 refine aD (v:=.slice (if mx=lo then a else a.map (·.add (lo * sz))) (hi - lo) (mx - lo)) ?_ (h _)
 simp [execOp,hx,hl,hh,hm,Instr.sliceAt,hT.un,Instr.slice,hT.size,Instr.sliceBounds,Instr.sliceBound,i64,asIntOf,h1,h2,h3]
theorem R_slNB {T E:TypeId} {sz:Nat} {a a':Option Addr} {len cap c' lo hi:Nat} (hT:SLT P T E sz) (hx':Cut sz a cap (lo:Int) a' c') (hx:ev f x=.slice a len cap) (hl:ev f y=i64 (lo:Int)) (hh:ev f z=i64 (hi:Int)) (h1:lo<=hi) (h2:hi<=cap):
  (execOp (ev f) ⟨some d,.slice T x (some y) (some z) none,ty,pos,af,none⟩).run P w=.ok (.value (.slice a' (hi - lo) c')) w:=by
 obtain ⟨rfl,rfl⟩:=hx'
 simp [execOp,hx,hl,hh,Instr.sliceAt,hT.un,Instr.slice,hT.size,Instr.sliceBounds,Instr.sliceBound,i64,asIntOf,h1,h2]
theorem R_slNL {T E:TypeId} {sz:Nat} {a a':Option Addr} {len cap c' lo:Nat} (hT:SLT P T E sz) (hx':Cut sz a cap (lo:Int) a' c') (hx:ev f x=.slice a len cap) (hl:ev f y=i64 (lo:Int)) (h1:lo<=len):
  (execOp (ev f) ⟨some d,.slice T x (some y) none none,ty,pos,af,none⟩).run P w=.ok (.value (.slice a' (len - lo) c')) w:=by
 obtain ⟨rfl,rfl⟩:=hx'
 simp [execOp,hx,hl,Instr.sliceAt,hT.un,Instr.slice,hT.size,Instr.sliceBounds,Instr.sliceBound,i64,asIntOf,h1]
theorem R_slNH {T E:TypeId} {sz:Nat} {a:Option Addr} {len cap hi:Nat} (hT:SLT P T E sz) (hx:ev f x=.slice a len cap) (hh:ev f z=i64 (hi:Int)) (h2:hi<=cap):
  (execOp (ev f) ⟨some d,.slice T x none (some z) none,ty,pos,af,none⟩).run P w=.ok (.value (.slice a hi cap)) w:=by
 have e:(if cap=0 then a else a.map (·.add (0 * sz)))=a:=by
  split
  ·rfl
  ·cases a with
   |none=>rfl
   |some ad=>simp [Addr.add]
 simp [execOp,hx,hh,Instr.sliceAt,hT.un,Instr.slice,hT.size,Instr.sliceBounds,Instr.sliceBound,i64,asIntOf,h2]
 simpa using e
theorem WO_appIn {T E:TypeId} {sz i:Nat} {Ke:Hp} {a a2:Option Addr} {cap c2 l1 l2:Nat} {lo2 hi2:Int} {xs r2 zz:List β} (hT:SLT P T E sz) (hz:dV.sz β=sz)
  (hs:aF G K L w) (hi:L[i]?=some (own E Ke a cap xs)) (hc2:slc xs lo2 hi2=some r2) (hx2:Cut sz a cap lo2 a2 c2) (hm:ovw xs (l1:Int) r2=some zz)
  (hx:ev f x=.slice a l1 cap) (hy:ev f y=.slice a2 l2 c2) (hl2:l2=r2.length)
  (h:∀ w',aF G K (L.set i (own E Ke a cap zz)) w'->WO P n ops rest Q (upd f d (.slice a (l1+l2) cap)) w'):
  WO P n ops (⟨some d,.call ⟨.builtin .append,#[x,y],#[T,T]⟩,ty,pos,af,none⟩::rest) Q f w:=by
 subst hl2
 subst hz
 have hcap:=qA hs hi
 obtain ⟨h0,hfit,hzz⟩:=aHp hm
 rw [Int.toNat_natCast] at hfit hzz
 have hroom:l1+r2.length<=cap:=by omega
 have hfc:(Builtin.firstCells (dV.sz β) r2.length (.slice a2 r2.length c2)).run P w=.ok (jL r2).toArray w:=by
  have:=aJx (P:=P) (m:=r2.length) rfl hs hi hc2 hx2
  rwa [show Nat.min r2.length r2.length=r2.length from Nat.min_self _,List.take_length] at this
 by_cases hne:r2=[]
 ·subst hne
  have e:zz=xs:=by rw [hzz];simp
  refine aAk rfl (w':=w) (v:=.slice a (l1+([]:List β).length) cap) ?_ (h w (by rw [e,aMI hi];exact hs))
  have hl:l1<=cap:=by omega
  cases a2<;>cases a<;>simp [execOp,resolve,invoke,builtin,hx,hy,Builtin.append_,hT.un,hT.size,Builtin.lenOf,Builtin.firstCells,loadCells,loadCellsFrom,hl,storeCells]
 ·have hpos:0 < r2.length:=List.length_pos_iff.2 hne
  obtain ⟨ad,w',ha,hr,hs'⟩:=storeV (P:=P) hs hi (show Cut (dV.sz β) a cap (l1:Int) _ _ from ⟨rfl,rfl⟩) hm hne
  rw [Int.toNat_natCast,if_neg (by omega)] at ha
  cases a with
  |none=>cases ha
  |some a0=>
   have ha:a0.add (l1 * dV.sz β)=ad:=by simpa using ha
   subst ha
   refine aAk rfl (w':=w') (v:=.slice (some a0) (l1+r2.length) cap) ?_ (h w' hs')
   simp [execOp,resolve,invoke,builtin,hx,hy,Builtin.append_,hT.un,hT.size,Builtin.lenOf,hroom,hfc,hr]
end
section
theorem fQ.sub {L' L:List fM} {h:Hp} (s:L'.Sublist L) (a:fQ L h):fQ L' h:=by
 induction s generalizing h with
 |slnil=>exact a
 |cons x _ ih=>
  obtain ⟨_,h2,_,_,_,l2,r⟩:=a
  exact (ih r).le l2
 |cons_cons x _ ih=>
  obtain ⟨h1,h2,b,d,l1,l2,r⟩:=a
  exact ⟨h1,h2,b,d,l1,l2,ih r⟩
variable {α:Type} [Dp α] {tys:List TypeId} {hds:List (Dp.Hd α)} {xs:List α}
end
end Gv
namespace Gv
open Go.Value renaming pointer→zP
open Vl (vl)
open Go
theorem ob_swap {α β γ:Type} {A:Option α} {B:Option β} {f:α->β->Option γ} {R:γ} (h:ob A (fun a=>ob B fun b=>f a b)=some R):ob B (fun b=>ob A fun a=>f a b)=some R:=by
 cases A with
 |none=>cases h
 |some a=>cases B with
  |none=>cases h
  |some b=>exact h
section
variable {P:Program} {f:Nat->Value} {w:World}
variable {d:Nat} {x y:Operand} {ty:TypeId} {pos:String} {af:Array Go.Edge}
theorem R_nilNe {T E:TypeId} {sz:Nat} {U:TypeId} (hT:SLT P T E sz) (hx:ev f x=.slice none 0 0) (hy:ev f y=.slice none 0 0):
  (execOp (ev f) ⟨some d,.binOp .neq T x y U,ty,pos,af,none⟩).run P w=.ok (.value (.bool false)) w:=by
 have h:(Op.equal T (.slice none 0 0) (.slice none 0 0)).run P w=.ok true w:=aLD 9999 hT
 simp only [execOp,hx,hy,Sem.run_bind,eqGuard,binOp]
 simp [h,bne]
end
section
variable {α:Type} [El α]
theorem own.rdr {E:TypeId} {Ke K' h:Hp} {a:Option Addr} {cap:Nat} {xs:List α} (o:own E Ke a cap xs h) (hl:h.le K') {j:Int} {e:α} {sz:Nat} (hz:El.sz α=sz) (hj:ix xs j=some e):∃ cs,dR K' a (j.toNat * sz) cs/\El.rd Ke cs e:=by
 subst hz
 obtain ⟨_,hjl,hje⟩:=aCx hj
 obtain ⟨_,hA⟩:=o
 rcases hA with ⟨_,rfl,_⟩|⟨ad,c,rows,rfl,sp,hb,hcs,hrl,hrc,hel⟩
 ·simp at hjl
 ·refine ⟨_,⟨ad,c,E,(0,0),rfl,sp,hl _ _ hb,fun t v ht=>?_⟩,hel _ _ hje⟩
  have ht':t < El.sz α:=by have:=(List.getElem?_eq_some_iff.1 ht).1;simp only [List.length_take] at this;omega
  rw [List.getElem?_take_of_lt ht',List.getElem?_drop] at ht
  rw [Nat.add_assoc]
  exact hrc _ _ ht
theorem aF.lendSr {G:rT} {E:TypeId} {K Ke:Hp} {L M:List fM} {w:World} {a:Option Addr} {cap:Nat} {xs:List α} (s:aF G K L w) (hK:Ke.le K) (p:Pck L (own E Ke a cap xs) M):
  ∃ K',K.le K'/\bI K' a cap xs/\(∀ {j:Int} {e:α} {sz:Nat},El.sz α=sz->ix xs j=some e->∃ cs,dR K' a (j.toNat * sz) cs/\El.rd Ke cs e)/\aF G K' M w/\∀ L' w',aF G K' L' w'->aF G K (own E Ke a cap xs::L') w':=by
 obtain ⟨i,h1,rfl⟩:=p.ix
 obtain ⟨K',h1,a,l1,lk,s',back⟩:=s.lend h1
 exact ⟨K',lk,a.rd l1 (Hp.le_trans hK lk),fun hz hj=>a.rdr l1 hz hj,s',back⟩
end
section
variable {κ ν:Type} [DecidableEq κ] [Vl κ] [Vl ν]
variable {P:Program} {n:Nat} {ops:Array Oper} {rest:List Oper} {Q:pP} {f:Nat->Value} {w:World}
variable {d:Nat} {x y z:Operand} {ty:TypeId} {pos:String} {af:Array Go.Edge}
variable {G:rT} {K:Hp} {L:List fM}
theorem WO_mapIns {T KT VT:TypeId} {i r:Nat} {kv kv':List (κ × ν)} {k:κ} {v:ν} (hT:∀ w,(underlying T).run P w=.ok (.map KT VT) w) (hK:aMK P KT κ) (hs:aF G K L w) (hi:L[i]?=some (mpo r kv))
  (hx:ev f x=.map (some r)) (hy:ev f y=vl k) (hz:ev f z=vl v) (hm:some (wD kv k v)=some kv') (h:∀ w',aF G K (L.set i (mpo r kv')) w'->WO P n ops rest Q f w'):
  WO P n ops (⟨none,.insert T x y z,ty,pos,af,none⟩::rest) Q f w:=by
 cases hm
 obtain ⟨es,c,hw,hM⟩:=aKf hs hi
 obtain ⟨kv0,he,hp⟩:=hM.ex
 have hn0:(kv0.map (·.1)).Nodup:=(hp.map (·.1)).nodup_iff.2 hM.keys
 have hpp:=aOy hp hn0 k v
 have hf:=hK.find k es.toList _ w (mpo_kv he)
 have hl:es.size=kv0.length:=by have:=congrArg List.length he;simpa using this
 cases hfd:fnd (kv0.map fun p=>(p.1,vl p.2)) k 0 with
 |none=>
  rw [hfd] at hf
  have hpu:=aFi vl kv0 k v 0 hfd
  refine aKP rfl (w':={ w with heap:=w.heap.setIfInBounds r (.map (es.push { key:=vl k,val:=vl v,born:=c }) (c+1)) }) ?_ (h _ (aF.setMap hs hi ⟨⟨wD kv0 k v,?_,hpp⟩,aGq hM.keys k v,fun e he=>?_,?_⟩))
  ·simp only [execOp,hx,hy,hz,Instr.mapUpdate,Sem.run_bind,hT,Result.andThen_ok,MapKept.run_getObj_map hw,hK.chk,hf,setObj,Sem.run,hw]
   simp
  ·unfold ents at he ⊢
   rw [hpu];simp [he]
  ·rw [Array.toList_push,List.mem_append] at he
   rcases he with he|he
   ·have:=hM.old e he;omega
   ·simp at he;subst he;exact Nat.lt_succ_self _
  ·rw [Array.toList_push,List.map_append,List.nodup_append]
   refine ⟨hM.one,by simp,fun a ha b hb=>?_⟩
   simp at hb;subst hb
   obtain ⟨e,he,rfl⟩:=List.mem_map.1 ha
   have:=hM.old e he
   omega
 |some p=>
  obtain ⟨j,u⟩:=p
  rw [hfd] at hf
  obtain ⟨m,hj,hm,hput,v',hv'⟩:=aFj vl kv0 k v 0 j u hfd
  have hjm:j=m:=by omega
  subst hjm
  have hlt:j < es.size:=by omega
  have hkey:(es[j]?.map (·.key)).getD (vl k)=vl k:=by
   have h1:(es.toList.map (fun e=>(e.key,e.val)))[j]?=(kv0.map (fun p=>(vl p.1,vl p.2)))[j]?:=by rw [he]
   simp only [List.getElem?_map,hv',Option.map_some,Array.getElem?_toList,Array.getElem?_eq_getElem hlt,Option.some.injEq,Prod.mk.injEq] at h1 ⊢
   simpa using h1.1
  have hborn:(es.modify j fun e=>{ e with key:=vl k,val:=vl v }).toList.map (·.born)=es.toList.map (·.born):=by
   apply List.ext_getElem?
   intro t
   simp only [List.getElem?_map,Array.getElem?_toList,Array.getElem?_modify]
   by_cases htj:j=t
   ·subst htj
    simp [hlt]
   ·simp only [if_neg htj]
  refine aKP rfl (w':={ w with heap:=w.heap.setIfInBounds r (.map (es.modify j fun e=>{ e with key:=vl k,val:=vl v }) c) }) ?_ (h _ (aF.setMap hs hi ⟨⟨wD kv0 k v,?_,hpp⟩,aGq hM.keys k v,fun e he=>?_,?_⟩))
  ·simp only [execOp,hx,hy,hz,Instr.mapUpdate,Sem.run_bind,hT,Result.andThen_ok,MapKept.run_getObj_map hw,hK.chk,hf,hkey,hK.stays,setObj,Sem.run,hw]
   simp
  ·unfold ents at he ⊢
   rw [hput]
   apply List.ext_getElem?
   intro t
   have h1:(es.toList.map (fun e=>(e.key,e.val)))[t]?=(kv0.map (fun p=>(vl p.1,vl p.2)))[t]?:=by rw [he]
   simp only [List.getElem?_map,Array.getElem?_toList,Array.getElem?_modify,List.getElem?_set] at h1 ⊢
   by_cases htj:j=t
   ·subst htj
    simp [hm,hlt]
   ·simp only [if_neg htj];exact h1
  ·have h1:e.born∈(es.modify j fun e=>{ e with key:=vl k,val:=vl v }).toList.map (·.born):=List.mem_map_of_mem he
   rw [hborn] at h1
   obtain ⟨e',he',h2⟩:=List.mem_map.1 h1
   rw [←h2];exact hM.old e' he'
  ·rw [hborn];exact hM.one
end
section
variable {G:rT} {K:Hp} {L:List fM} {w:World}
def bxc (c pol:Bool) (b:Nat) (E:TypeId) (vs:List Value):fM:=fun h=>c=pol->box b E vs h
theorem aF.bxcN {c pol:Bool} {b:Nat} {E:TypeId} {vs:List Value} (hc:¬ c=pol) (s:aF G K L w):aF G K (bxc c pol b E vs::L) w:=
 s.new (eF.refl w) (h1:=Hp.nil) (fun h=>absurd h hc) (Hp.nil_le _) (Hp.nil_dj _)
theorem aF.bxcT {c pol:Bool} {i b:Nat} {E:TypeId} {vs:List Value} (s:aF G K L w) (e:L[i]?=some (box b E vs)):aF G K (L.set i (bxc c pol b E vs)) w:=s.weak e fun _ a _=>a
theorem aF.bxcE {c pol:Bool} {i b:Nat} {E:TypeId} {vs:List Value} (s:aF G K L w) (e:L[i]?=some (bxc c pol b E vs)) (h:c=pol):aF G K (L.set i (box b E vs)) w:=s.weak e fun _ a=>a h
theorem ptr_no {v:Value} {c pol:Bool} {p:Addr} (hc:¬ c=pol) (hv:v=zP none):v=zP (if c=pol then some p else none):=by rw [if_neg hc];exact hv
theorem ptr_yes {v:Value} {c pol:Bool} {p:Addr} (hc:c=pol) (hv:v=zP (some p)):v=zP (if c=pol then some p else none):=by rw [if_pos hc];exact hv
end
section
variable {P:Program} {md:Region.Mode} {ops:Array Oper} {C C':World->Prop}
theorem aHF {R:Act->World->Prop} (hC:∀ w,C' w->C w):∀ (fuel:Nat) (listed:Array Bool) (a:Act) (w:World),C' w->aDC P md ops C' (fun _=>false) R fuel listed a w->aDC P md ops C (fun _=>false) R fuel listed a w
 |0,_,_,_,_,h=>h
 |fuel+1,listed,a,w,hw,h=>⟨h.1,fun i hi=>wpOp_mono (fun a' w' q=>⟨fun _ _=>hC _ (q.1 rfl hw),aHF hC fuel _ a' w' (q.1 rfl hw) q.2⟩) (h.2 i hi)⟩
def wpF (P:Program) (ops:Array Oper) (R:Act->World->Prop):List (Nat × Nat)->(World->Prop)->Act->World->Prop
 |[],_,a,w=>R a w
 |(i,0)::l,C,a,w=>∃ o v,ops[i]?=some o/\pZ P ops C o v a/\wpF P ops R l C (a.put o.dst v) w
 |(i,1)::l,C,a,w=>wpOp P ops noQ i (fun a' w'=>∃ C':World->Prop,(∀ w,C' w->C w)/\C' w'/\wpF P ops R l C' a' w') a w
 |(_,_+2)::_,_,_,_=>False
theorem aHG {R:Act->World->Prop} (hs:Region.noSelect ops=true):∀ (l:List (Nat × Nat)) (C:World->Prop) (listed:Array Bool) (a:Act) (w:World),aKc md ops l listed=true->C w->wpF P ops R l C a w->
   aDC P md ops C (fun _=>false) R l.length listed a w
 |[],C,listed,a,w,hB,_,h=>⟨by simpa [aKc] using hB,h⟩
 |(i,0)::l,C,listed,a,w,hB,hC,h=>by
  obtain ⟨o,v,ho,hy,h⟩:=h
  simp only [aKc,Bool.and_eq_true] at hB
  obtain ⟨⟨hr,hf⟩,hB'⟩:=hB
  exact aGo ho (Region.noSelect_spec hs) (fun j oj hoj hb=>by cases hb) rfl l.length listed a w hC (Region.free_spec ho hf) (by simpa using hr) hy (aHG hs l C _ _ w hB' hC h)
 |(i,1)::l,C,listed,a,w,hB,hC,h=>by
  simp only [aKc,Bool.and_eq_true,beq_iff_eq] at hB
  obtain ⟨hr,hB'⟩:=hB
  refine ⟨fun h0=>(by rw [hr] at h0;cases h0),fun j hj=>?_⟩
  rw [hr] at hj
  simp only [List.mem_singleton] at hj
  subst hj
  refine wpOp_mono (fun a' w' q=>?_) h
  obtain ⟨C',hm,hC',hF⟩:=q
  exact ⟨fun _ _=>hm _ hC',aHF hm _ _ a' w' hC' (aHG hs l C' _ a' w' hB' hC' hF)⟩
 |(_,_+2)::_,_,_,_,_,_,_,h=>h.elim
end
section
variable {P:Program} {n:Nat} {C:World->Prop} {Q:pP} {f:Nat->Value} {w:World} {R:(Nat->Value)->World->Prop} {l:List (Nat × Nat)} {os:List Oper}
structure WFm (P:Program) (n:Nat) (ops:Array Oper) (C:World->Prop) (l:List (Nat × Nat)) (R:(Nat->Value)->World->Prop) (f:Nat->Value) (w:World):Prop where
 go:ops.all (fun o=>oko n o&&okg n ops o.guard)=true->wpF P ops (fun a w=>∃ f,a=act n f/\R f w) l C (act n f) w
theorem W_regionF {id:Nat} {os:List Oper} (l:List (Nat × Nat)) (hm:P.follows .mixedOrders=true) (hB:(Region.noSelect os.toArray&&aKc .any os.toArray l (Array.replicate os.toArray.size false)&&l.length == os.toArray.size)=true) (hC:∀ w',eF w w'->C w')
  (h:∀ w',eF w w'->WFm P n os.toArray C l (fun f w=>Q .normal f w) f w'):W P n (.region id os.toArray true) Q f w:=by
 simp only [Bool.and_eq_true,beq_iff_eq] at hB
 obtain ⟨⟨h1,h2⟩,h3⟩:=hB
 refine ⟨fun ok=>?_⟩
 have:=aHG (md:=.any) h1 l C _ _ _ h2 (hC _ (eF.drew w)) ((h _ (eF.drew w)).go (by simpa [okc] using ok))
 rw [h3] at this
 refine Code.wp_mono ?_ (wp_region_any (id:=id) hm (aGn this))
 intro e a w h
 cases e<;>first|exact h|exact h.elim
theorem WF_nil {ops:Array Oper} (h:R f w):WFm P n ops C [] R f w:=⟨fun _=>⟨f,rfl,h⟩⟩
theorem aJy {i d:Nat} {op:Op} {ty:TypeId} {pos:String} {af:Array Go.Edge} {v:Value} (hi:aDD os i=some ⟨some d,op,ty,pos,af,none⟩) (hr:∀ w,C w->(execOp (ev f) ⟨some d,op,ty,pos,af,none⟩).run P w=.ok (.value v) w)
  (h:WFm P n os.toArray C l R (upd f d v) w):WFm P n os.toArray C ((i,0)::l) R f w:=by
 rw [yC] at hi
 refine ⟨fun ok=>⟨_,v,hi,.inl ⟨by simp [Region.wanted],fun w hw=>?_⟩,?_⟩⟩
 ·rw [qY (aLA hi ok).1];exact hr w hw
 ·rw [sV];exact h.go ok
theorem WF_e {i:Nat} {o:Oper} (hi:aDD os i=some o) (h:WO P n os.toArray [o] (uT (fun f w=>∃ C':World->Prop,(∀ w,C' w->C w)/\C' w/\WFm P n os.toArray C' l R f w) fun _ _ _=>False) f w):WFm P n os.toArray C ((i,1)::l) R f w:=by
 rw [yC] at hi
 refine ⟨fun ok=>wpOp_mono ?_ (aGp hi h ok)⟩
 rintro a w ⟨f',rfl,C',hm,hC,hE⟩
 exact ⟨C',hm,hC,hE.go ok⟩
theorem aOC {C':World->Prop} {ops:Array Oper} {m:Nat} {listed:Array Bool} (hm:∀ w,C' w->C w) (hC:C' w) (h:WA P n ops C' [] R m listed f w):WA P n ops C [] R m listed f w:=
 ⟨fun ok hs=>aHF hm _ _ _ _ hC (h.go ok hs)⟩
end
section
variable {β:Type} [dV β] {G:rT} {K:Hp} {L:List fM} {w:World}
end
section
variable {β:Type} [dV β] {G:rT} {K Ke:Hp} {L:List fM} {w:World}
variable {P:Program} {n:Nat} {ops:Array Oper} {rest:List Oper} {Q:pP} {f:Nat->Value}
variable {d:Nat} {x y:Operand} {ty:TypeId} {pos:String} {af:Array Go.Edge}
theorem HdR.slc {hds:List (Dp.Hd (List β))} {xs r:List (List β)} {lo hi:Int} (h:HdR Ke hds xs) (hc:Gv.slc xs lo hi=some r):∃ h2:List (Dp.Hd (List β)),HdR Ke h2 r/\Gv.slc (cA hds xs) lo hi=some (cA h2 r):=by
 have hl:=h.1
 unfold Gv.slc at hc ⊢
 split at hc
 ·rename_i hb
  cases hc
  refine ⟨(hds.drop lo.toNat).take (hi.toNat - lo.toNat),⟨by simp [hl],fun j hd x h1 h2=>?_⟩,?_⟩
  ·by_cases hj:j < hi.toNat - lo.toNat
   ·rw [List.getElem?_take_of_lt hj,List.getElem?_drop] at h1 h2
    exact h.2 _ hd x h1 h2
   ·rw [List.getElem?_eq_none (by rw [List.length_take];omega)] at h1
    cases h1
  ·rw [if_pos ⟨hb.1,hb.2.1,by rw [iS hl];exact hb.2.2⟩]
   unfold cA
   rw [List.drop_zipWith,List.take_zipWith]
 ·cases hc
theorem HdR.app {h1 h2:List (Dp.Hd (List β))} {x1 x2:List (List β)} (a:HdR Ke h1 x1) (b:HdR Ke h2 x2):HdR Ke (h1++h2) (x1++x2):=by
 refine ⟨by rw [List.length_append,List.length_append,a.1,b.1],fun j hd x e1 e2=>?_⟩
 by_cases hj:j < h1.length
 ·rw [List.getElem?_append_left hj] at e1
  rw [List.getElem?_append_left (by rw [←a.1];exact hj)] at e2
  exact a.2 _ hd x e1 e2
 ·rw [List.getElem?_append_right (by omega)] at e1
  rw [List.getElem?_append_right (by rw [←a.1];omega),←a.1] at e2
  exact b.2 _ hd x e1 e2
end
end Gv
namespace Gv
open Go
structure Hd (q:Prop):Prop where
 k:q
theorem cC {p:Prop} (h:p:=by first|assumption|exact rfl):p:=h
theorem eV {p:Prop} (h:p:=by assumption):p:=h
theorem nC {p:Prop} (h:p:=by first|assumption|exact Hp.le_trans (by assumption) (by assumption)|exact Hp.le_trans (by assumption) (Hp.le_trans (by assumption) (by assumption))):p:=h
theorem aJz {p:Prop} (h:p:=by with_reducible first|exact List.Mem.head _|exact List.Mem.tail _ (List.Mem.head _)|exact List.Mem.tail _ (List.Mem.tail _ (List.Mem.head _))|exact List.Mem.tail _ (List.Mem.tail _ (List.Mem.tail _ (List.Mem.head _)))|exact List.Mem.tail _ (List.Mem.tail _ (List.Mem.tail _ (List.Mem.tail _ (List.Mem.head _))))|exact List.Mem.tail _ (List.Mem.tail _ (List.Mem.tail _ (List.Mem.tail _ (List.Mem.tail _ (List.Mem.head _)))))|exact List.Mem.tail _ (List.Mem.tail _ (List.Mem.tail _ (List.Mem.tail _ (List.Mem.tail _ (List.Mem.tail _ (List.Mem.head _))))))|exact List.Mem.tail _ (List.Mem.tail _ (List.Mem.tail _ (List.Mem.tail _ (List.Mem.tail _ (List.Mem.tail _ (List.Mem.tail _ (List.Mem.head _)))))))|exact List.Mem.tail _ (List.Mem.tail _ (List.Mem.tail _ (List.Mem.tail _ (List.Mem.tail _ (List.Mem.tail _ (List.Mem.tail _ (List.Mem.tail _ (List.Mem.head _))))))))|exact List.Mem.tail _ (List.Mem.tail _ (List.Mem.tail _ (List.Mem.tail _ (List.Mem.tail _ (List.Mem.tail _ (List.Mem.tail _ (List.Mem.tail _ (List.Mem.tail _ (List.Mem.head _)))))))))):p:=h
theorem aGs {γ:Type} {l:List γ} {a:γ} (h:a∈l):∃ i:Nat,l[i]?=some a:=by
 obtain ⟨i,hi,e⟩:=List.mem_iff_getElem.1 h
 exact ⟨i,by rw [List.getElem?_eq_getElem hi,e]⟩
section
variable {P:Program} {f:Nat->Value} {w:World} {d:Nat} {x y z:Operand} {ty:TypeId} {pos:String} {af:Array Go.Edge} {G:rT} {K:Hp} {L:List fM} {α:Type} {iα:El α}
structure EX (P:Program) (f:Nat->Value) (o:Op) (v:Value) (d:Nat) (ty:TypeId) (pos:String) (af:Array Go.Edge) (w:World):Prop where
 h:(execOp (ev f) ⟨some d,o,ty,pos,af,none⟩).run P w=.ok (.value v) w
theorem V_move {v:Value} (hx:ev f x=v):EX P f (.move x) v d ty pos af w:=⟨aV hx⟩
theorem V_assign {v:Value} (hx:ev f x=v):EX P f (.assign x) v d ty pos af w:=⟨cY hx⟩
theorem V_moveC {v:Value}:EX P f (.move (.const v)) v d ty pos af w:=⟨aV rfl⟩
theorem V_assignC {v:Value}:EX P f (.assign (.const v)) v d ty pos af w:=⟨cY rfl⟩
theorem V_moveF {k:FuncId}:EX P f (.move (.func k)) (.func (.func k) #[] #[]) d ty pos af w:=⟨aV rfl⟩
theorem V_assignF {k:FuncId}:EX P f (.assign (.func k)) (.func (.func k) #[] #[]) d ty pos af w:=⟨cY rfl⟩
theorem V_not {b:Bool} {T:TypeId} (hx:ev f x=.bool b):EX P f (.unOp .not T x) (.bool (!b)) d ty pos af w:=⟨vC hx⟩
theorem V_nilP {ad:Addr} (hx:ev f x=.pointer (some ad)):EX P f (.nilCheck x) (.pointer (some ad)) d ty pos af w:=⟨aMF hx⟩
theorem V_extract {vs:Array Value} {i:Nat} {v:Value} (hx:ev f x=.tuple vs) (hv:vs[i]?=some v):EX P f (.extract x i) v d ty pos af w:=⟨bY hx hv⟩
theorem V_lenS {T E:TypeId} {sz:Nat} {a:Option Addr} {len cap:Nat} (hT:SLT P T E sz) (hx:ev f x=.slice a len cap):EX P f (.call ⟨.builtin .len,#[x],#[T]⟩) (i64 len) d ty pos af w:=⟨bC hT hx⟩
theorem V_add {a b:Int} {T U:TypeId} (hx:ev f x=i64 a) (hy:ev f y=i64 b):EX P f (.binOp .add T x y U) (i64 (wr (a+b))) d ty pos af w:=⟨cJ hx hy⟩
theorem V_sub {a b:Int} {T U:TypeId} (hx:ev f x=i64 a) (hy:ev f y=i64 b):EX P f (.binOp .sub T x y U) (i64 (wr (a - b))) d ty pos af w:=⟨oX hx hy⟩
theorem V_mul {a b:Int} {T U:TypeId} (hx:ev f x=i64 a) (hy:ev f y=i64 b):EX P f (.binOp .mul T x y U) (i64 (wr (a * b))) d ty pos af w:=⟨aJf hx hy⟩
theorem V_lss {k:IntKind} {a b:Int} {T U:TypeId} (hx:ev f x=.int k a) (hy:ev f y=.int k b):EX P f (.binOp .lss T x y U) (.bool (decide (a < b))) d ty pos af w:=⟨cH hx hy⟩
theorem V_leq {k:IntKind} {a b:Int} {T U:TypeId} (hx:ev f x=.int k a) (hy:ev f y=.int k b):EX P f (.binOp .leq T x y U) (.bool (decide (a<=b))) d ty pos af w:=⟨R_leq hx hy⟩
theorem V_gtr {k:IntKind} {a b:Int} {T U:TypeId} (hx:ev f x=.int k a) (hy:ev f y=.int k b):EX P f (.binOp .gtr T x y U) (.bool (decide (b < a))) d ty pos af w:=⟨zU hx hy⟩
theorem V_geq {k:IntKind} {a b:Int} {T U:TypeId} (hx:ev f x=.int k a) (hy:ev f y=.int k b):EX P f (.binOp .geq T x y U) (.bool (decide (b<=a))) d ty pos af w:=⟨R_geq hx hy⟩
theorem V_eql {k:IntKind} {a b:Int} {T U:TypeId} (hx:ev f x=.int k a) (hy:ev f y=.int k b):EX P f (.binOp .eql T x y U) (.bool (a == b)) d ty pos af w:=⟨kK hx hy⟩
theorem V_neq {k:IntKind} {a b:Int} {T U:TypeId} (hx:ev f x=.int k a) (hy:ev f y=.int k b):EX P f (.binOp .neq T x y U) (.bool (a != b)) d ty pos af w:=⟨aFA hx hy⟩
theorem V_eqlS {a b:aJ} {T U:TypeId} (hx:ev f x=str a) (hy:ev f y=str b):EX P f (.binOp .eql T x y U) (.bool (a == b)) d ty pos af w:=⟨R_eqlS hx hy⟩
theorem V_neqS {a b:aJ} {T U:TypeId} (hx:ev f x=str a) (hy:ev f y=str b):EX P f (.binOp .neq T x y U) (.bool (!(a == b))) d ty pos af w:=⟨R_neqS hx hy⟩
theorem V_lssS {a b:aJ} {T U:TypeId} (hx:ev f x=str a) (hy:ev f y=str b):EX P f (.binOp .lss T x y U) (.bool (ltB a b)) d ty pos af w:=⟨R_lssS hx hy⟩
theorem V_leqS {a b:aJ} {T U:TypeId} (hx:ev f x=str a) (hy:ev f y=str b):EX P f (.binOp .leq T x y U) (.bool (ltB a b||a == b)) d ty pos af w:=⟨R_leqS hx hy⟩
theorem V_gtrS {a b:aJ} {T U:TypeId} (hx:ev f x=str a) (hy:ev f y=str b):EX P f (.binOp .gtr T x y U) (.bool (!(ltB a b||a == b))) d ty pos af w:=⟨R_gtrS hx hy⟩
theorem V_geqS {a b:aJ} {T U:TypeId} (hx:ev f x=str a) (hy:ev f y=str b):EX P f (.binOp .geq T x y U) (.bool (!ltB a b)) d ty pos af w:=⟨R_geqS hx hy⟩
theorem V_nilE {a:Option Addr} {k kk:Nat} {cs:List Value} (hx:ev f x=cE a kk) (hc:dR K a k cs):
  EX P f (.nilCheck x) ((cE a kk)) d ty pos af w:=⟨fI hx hc⟩
theorem V_fldE {S:TypeId} {a:Option Addr} {i o k k0:Nat} {cs:List Value} (hx:ev f x=cE a k) (hc:dR K a k0 cs) (hF:FA P S i o):
  EX P f (.fieldAddr S x i) ((cE a (k+o))) d ty pos af w:=⟨cV hF hx hc rfl⟩
theorem V_fldP {S:TypeId} {b i o t:Nat} (hx:ev f x=.pointer (some ⟨b,t,none⟩)) (hF:FA P S i o):
  EX P f (.fieldAddr S x i) ((.pointer (some ⟨b,t+o,none⟩))) d ty pos af w:=⟨bU hF hx rfl⟩
theorem V_ixE {T E:TypeId} {sz:Nat} {a:Option Addr} {len cap:Nat} {xs:List α} {j:Int} {e:α} (hx:ev f x=.slice a len cap) (hy:ev f y=i64 j) (hr:bI K a cap xs) (hj:ix xs j=some e) (hl:len=xs.length) (hT:SLT P T E sz) (hz:El.sz α=sz):
  EX P f (.indexAddr T x y) ((cE a (j.toNat * sz))) d ty pos af w:=⟨cU hT hz hr hx hl hy hj⟩
theorem V_ixO {T E E':TypeId} {sz:Nat} {a:Option Addr} {len cap:Nat} {xs:List α} {j:Int} {e:α} {Ke:Hp} (hx:ev f x=.slice a len cap) (hy:ev f y=i64 j) (hs:aF G K L w) (hi:List.Mem (own E' Ke a cap xs) L) (hj:ix xs j=some e) (hl:len=xs.length) (hT:SLT P T E sz) (hz:El.sz α=sz):
  EX P f (.indexAddr T x y) ((cE a (j.toNat * sz))) d ty pos af w:=by
 obtain ⟨i,hi⟩:=aGs hi
 exact ⟨R_ixO hT hz hs hi hx hl hy hj⟩
theorem aLF {T:TypeId} {a:Option Addr} {k t:Nat} {cs:List Value} {v:Value} (hx:ev f x=cE a (k+t)) (hc:dR K a k cs) (hs:aF G K L w) (hv:cs[t]?=some v) (hT:SC P T):
  EX P f (.load T x) (v) d ty pos af w:=⟨bE hT hs hc hx hv⟩
theorem aHH {T:TypeId} {a:Option Addr} {k t m:Nat} {cs vs:List Value} (hx:ev f x=cE a (k+t)) (hc:dR K a k cs) (hs:aF G K L w) (hT:AG P T m) (hv:(cs.drop t).take m=vs) (hm:vs.length=m):
  EX P f (.load T x) ((.agg vs.toArray)) d ty pos af w:=⟨jQ hT hs hc hx hv hm⟩
theorem V_ldB {T E:TypeId} {b t:Nat} {vs:List Value} {v:Value} (hx:ev f x=.pointer (some ⟨b,t,none⟩)) (hs:aF G K L w) (hi:List.Mem (box b E vs) L) (hv:vs[t]?=some v) (hT:SC P T):
  EX P f (.load T x) (v) d ty pos af w:=by
 obtain ⟨i,hi⟩:=aGs hi
 exact ⟨eZ hT hs hi hx hv⟩
inductive DT:List Value->Nat->Nat->List Value->Prop
 |nil {l:List Value}:DT l 0 0 []
 |take {x:Value} {l us:List Value} {m:Nat} (h:DT l 0 m us):DT (x::l) 0 (m+1) (x::us)
 |drop {x:Value} {l us:List Value} {t m:Nat} (h:DT l t m us):DT (x::l) (t+1) m us
theorem DT.eq {l us:List Value} {t m:Nat} (h:DT l t m us):(l.drop t).take m=us/\us.length=m:=by
 induction h with
 |nil=>simp
 |take _ ih=>obtain ⟨h1,h2⟩:=ih;simp at h1;simp [h1,h2]
 |drop _ ih=>simpa using ih
theorem st_D {p:Prop} (h:p:=by repeat (first|exact DT.nil|apply DT.take|apply DT.drop)):p:=h
theorem V_ldBG {T E:TypeId} {b t m:Nat} {vs us:List Value} (hx:ev f x=.pointer (some ⟨b,t,none⟩)) (hs:aF G K L w) (hi:List.Mem (box b E vs) L) (hT:AG P T m) (hv:DT vs t m us):
  EX P f (.load T x) ((.agg us.toArray)) d ty pos af w:=by
 obtain ⟨i,hi⟩:=aGs hi
 exact ⟨nK hT hs hi hx hv.eq.1 hv.eq.2⟩
theorem V_rvG {n t b m:Nat} {T E:TypeId} {vs:List Value} (hp:f t=.pointer (some ⟨b,0,none⟩)) (hs:aF G K L w) (hi:List.Mem (box b E vs) L) (hT:AG P T m) (hm:vs.length=m) (ht:Nat.blt t n=true):aKd P n f w (.cell t T) (.agg vs.toArray):=by
 obtain ⟨i,hi⟩:=aGs hi
 exact aHB ht hT hs hi hp hm
theorem V_rvB {n t b:Nat} {T E:TypeId} {v:Value} (hp:f t=.pointer (some ⟨b,0,none⟩)) (hs:aF G K L w) (hi:List.Mem (box b E [v]) L) (hT:SC P T) (ht:Nat.blt t n=true):aKd P n f w (.cell t T) v:=by
 obtain ⟨i,hi⟩:=aGs hi
 exact rv_cell ht hT hs hi hp
theorem V_nilO {E:TypeId} {Ke:Hp} {kk:Nat} {a:Option Addr} {cap:Nat} {xs:List α} {j:Int} {e:α} (hx:ev f x=cE a kk) (hs:aF G K L w) (hi:List.Mem (own E Ke a cap xs) L) (hj:ix xs j=some e):
  EX P f (.nilCheck x) ((cE a kk)) d ty pos af w:=by
 obtain ⟨i,hi⟩:=aGs hi
 exact ⟨R_nilO hs hi hj hx⟩
theorem V_fldO {S E:TypeId} {Ke:Hp} {q o k:Nat} {a:Option Addr} {cap:Nat} {xs:List α} {j:Int} {e:α} (hx:ev f x=cE a k) (hs:aF G K L w) (hi:List.Mem (own E Ke a cap xs) L) (hj:ix xs j=some e) (hF:FA P S q o):
  EX P f (.fieldAddr S x q) ((cE a (k+o))) d ty pos af w:=by
 obtain ⟨i,hi⟩:=aGs hi
 exact ⟨R_fldO hF hs hi hj hx rfl⟩
theorem aLG {T:TypeId} {a:Option Addr} {k t:Nat} {cs:List Value} {v:Value} (hs:aF G K L w) (hc:dR K a k cs) (hx:ev f x=cE a (k+t)) (hv:cs[t]?=some v) (hT:SC P T):
  EX P f (.load T x) v d ty pos af w:=bE hT hs hc hx hv |> EX.mk
theorem aPv {T:TypeId} {a:Option Addr} {k t m:Nat} {cs vs:List Value} (hs:aF G K L w) (hc:dR K a k cs) (hx:ev f x=cE a (k+t)) (hT:AG P T m) (hv:(cs.drop t).take m=vs) (hm:vs.length=m):
  EX P f (.load T x) (.agg vs.toArray) d ty pos af w:=jQ hT hs hc hx hv hm |> EX.mk
theorem V_ldO {β:Type} {iβ:dV β} {T E:TypeId} {Ke:Hp} {kk t:Nat} {a:Option Addr} {cap:Nat} {xs:List β} {j:Int} {e:β} {v:Value} (hx:ev f x=cE a kk) (hs:aF G K L w) (hi:List.Mem (own E Ke a cap xs) L) (hj:ix xs j=some e) (hkk:kk=j.toNat * dV.sz β+t) (hv:(dV.enc e)[t]?=some v) (hT:SC P T):
  EX P f (.load T x) v d ty pos af w:=by
 obtain ⟨i,hi⟩:=aGs hi
 exact ⟨lH hT hs hi hj hx hkk hv⟩
theorem V_ldOG {β:Type} {iβ:dV β} {T E:TypeId} {Ke:Hp} {kk t m:Nat} {a:Option Addr} {cap:Nat} {xs:List β} {j:Int} {e:β} {vs:List Value} (hx:ev f x=cE a kk) (hs:aF G K L w) (hi:List.Mem (own E Ke a cap xs) L) (hj:ix xs j=some e) (hkk:kk=j.toNat * dV.sz β+t) (hT:AG P T m) (hv:((dV.enc e).drop t).take m=vs) (hm:vs.length=m):
  EX P f (.load T x) (.agg vs.toArray) d ty pos af w:=by
 obtain ⟨i,hi⟩:=aGs hi
 exact ⟨aGm hT hs hi hj hx hkk hv hm⟩
theorem aLH {T:TypeId} {K':Hp} {a:Option Addr} {k t:Nat} {cs:List Value} {v:Value} (hx:ev f x=cE a (k+t)) (hc:dR K' a k cs) (hs:aF G K L w) (hK:K'.le K) (hv:cs[t]?=some v) (hT:SC P T):
  EX P f (.load T x) v d ty pos af w:=⟨bE hT hs (hc.mono hK) hx hv⟩
theorem aPw {T:TypeId} {K':Hp} {a:Option Addr} {k t m:Nat} {cs vs:List Value} (hx:ev f x=cE a (k+t)) (hc:dR K' a k cs) (hs:aF G K L w) (hK:K'.le K) (hT:AG P T m) (hv:(cs.drop t).take m=vs) (hm:vs.length=m):
  EX P f (.load T x) (.agg vs.toArray) d ty pos af w:=⟨jQ hT hs (hc.mono hK) hx hv hm⟩
theorem V_pickT {b:Bool} {v:Value} (hx:ev f x=.bool b) (hb:b=true) (hv:ev f y=v):
  EX P f (.pick x y z) (v) d ty pos af w:=⟨fN hb hx hv⟩
theorem V_pickF {b:Bool} {v:Value} (hx:ev f x=.bool b) (hb:¬ b=true) (hv:ev f z=v):
  EX P f (.pick x y z) (v) d ty pos af w:=⟨eJ hb hx hv⟩
theorem V_lenStr {T:TypeId} {s:aJ} (hT:∀ w,(underlying T).run P w=.ok .string w) (hx:ev f x=str s):EX P f (.call ⟨.builtin .len,#[x],#[T]⟩) ((i64 s.length)) d ty pos af w:=⟨aDB hT hx⟩
theorem V_ixS {T:TypeId} {s:aJ} {j:Int} {c:UInt8} (hT:∀ w,(underlying T).run P w=.ok .string w) (hx:ev f x=str s) (hy:ev f y=i64 j) (hj:ix s j=some c):EX P f (.index T x y) ((u8 c)) d ty pos af w:=⟨R_ixS hT hx hy hj⟩
theorem V_conv64 {S T:TypeId} {k:IntKind} {a:Int} (hT:∀ w,(underlying T).run P w=.ok (.int .i64) w) (hx:ev f x=.int k a) (hS:∃ d,∀ w,(underlying S).run P w=.ok d w):EX P f (.convert S T x) ((.int .i64 (wr a))) d ty pos af w:=⟨aKb hT hx hS⟩
theorem V_convu64 {S T:TypeId} {k:IntKind} {a:Int} (hT:∀ w,(underlying T).run P w=.ok (.int .u64) w) (hx:ev f x=.int k a) (hS:∃ d,∀ w,(underlying S).run P w=.ok d w):EX P f (.convert S T x) ((.int .u64 (oV a))) d ty pos af w:=⟨aFC hT hx hS⟩
theorem V_u8sub' {a b:UInt8} {T U:TypeId} (hx:ev f x=.int .u8 (a.toNat:Int)) (hy:ev f y=.int .u8 (b.toNat:Int)):EX P f (.binOp .sub T x y U) ((.int .u8 ((a - b).toNat:Int))) d ty pos af w:=⟨aQl hx hy⟩
theorem V_neg {a:Int} {T:TypeId} (hx:ev f x=i64 a):EX P f (.unOp .neg T x) ((i64 (wr (0 - a)))) d ty pos af w:=⟨R_neg hx⟩
theorem V_quo {a b c:Int} {T U:TypeId} (hx:ev f x=i64 a) (hy:ev f y=i64 b) (hc:qu a b=some c):EX P f (.binOp .quo T x y U) ((i64 c)) d ty pos af w:=⟨aLz hx hy hc⟩
theorem V_rem {a b c:Int} {T U:TypeId} (hx:ev f x=i64 a) (hy:ev f y=i64 b) (hc:rm a b=some c):EX P f (.binOp .rem T x y U) ((i64 c)) d ty pos af w:=⟨aME hx hy hc⟩
theorem V_cat {a b c:aJ} {T U:TypeId} (hx:ev f x=str a) (hy:ev f y=str b) (hc:cat a b=some c):EX P f (.binOp .add T x y U) ((str c)) d ty pos af w:=⟨R_cat hx hy hc⟩
theorem V_eqlB {a b:Bool} {T U:TypeId} (hT:∀ w,(underlying T).run P w=.ok .bool w) (hx:ev f x=.bool a) (hy:ev f y=.bool b):EX P f (.binOp .eql T x y U) ((.bool (a == b))) d ty pos af w:=⟨R_eqlB hT hx hy⟩
theorem V_neqB {a b:Bool} {T U:TypeId} (hT:∀ w,(underlying T).run P w=.ok .bool w) (hx:ev f x=.bool a) (hy:ev f y=.bool b):EX P f (.binOp .neq T x y U) ((.bool (a != b))) d ty pos af w:=⟨R_neqB hT hx hy⟩
theorem V_u64add {a b:Int} {T U:TypeId} (hx:ev f x=.int .u64 a) (hy:ev f y=.int .u64 b):EX P f (.binOp .add T x y U) ((.int .u64 (oV (a+b)))) d ty pos af w:=⟨R_u64add hx hy⟩
theorem V_u64mul {a b:Int} {T U:TypeId} (hx:ev f x=.int .u64 a) (hy:ev f y=.int .u64 b):EX P f (.binOp .mul T x y U) ((.int .u64 (oV (a * b)))) d ty pos af w:=⟨R_u64mul hx hy⟩
theorem V_shrU {a b c:Int} {yk:IntKind} {T U:TypeId} (hx:ev f x=.int .u64 a) (hy:ev f y=.int yk b) (hc:shU a b=some c):EX P f (.binOp .shr T x y U) ((.int .u64 c)) d ty pos af w:=⟨R_shrU hx hy hc⟩
theorem V_andU {a b:Int} {T U:TypeId} (hx:ev f x=.int .u64 a) (hy:ev f y=.int .u64 b):EX P f (.binOp .and T x y U) ((.int .u64 (anU a b))) d ty pos af w:=⟨R_andU hx hy⟩
theorem V_min {Ts:Array TypeId} {a b:Int} (hx:ev f x=i64 a) (hy:ev f y=i64 b):EX P f (.call ⟨.builtin .min,#[x,y],Ts⟩) ((i64 (mnI a b))) d ty pos af w:=⟨R_min hx hy⟩
theorem V_slSLH {s r:aJ} {lo hi:Int} {T:TypeId} (hT:∀ w,(underlying T).run P w=.ok .string w) (hx:ev f x=str s) (hl:ev f y=i64 lo) (hh:ev f z=i64 hi) (hr:slc s lo hi=some r):EX P f (.slice T x (some y) (some z) none) ((str r)) d ty pos af w:=⟨R_slSLH hT hx hl hh hr⟩
theorem V_slSL {s r:aJ} {lo:Int} {T:TypeId} (hT:∀ w,(underlying T).run P w=.ok .string w) (hx:ev f x=str s) (hl:ev f y=i64 lo) (hr:slc s lo (s.length:Int)=some r):EX P f (.slice T x (some y) none none) ((str r)) d ty pos af w:=⟨R_slSL hT hx hl hr⟩
theorem V_slSH {s r:aJ} {hi:Int} {T:TypeId} (hT:∀ w,(underlying T).run P w=.ok .string w) (hx:ev f x=str s) (hh:ev f z=i64 hi) (hr:slc s 0 hi=some r):EX P f (.slice T x none (some z) none) ((str r)) d ty pos af w:=⟨R_slSH hT hx hh hr⟩
theorem V_isNil {T E:TypeId} {sz:Nat} {U:TypeId} {a:Option Addr} {n c:Nat} (hT:SLT P T E sz) (hx:ev f x=.slice a n c) (hy:ev f y=.slice none 0 0):EX P f (.binOp .eql T x y U) ((.bool a.isNone)) d ty pos af w:=⟨aIF hT hx hy⟩
theorem V_build {T:TypeId} {places:List (Nat × Nat)} {zs cs:List Value} {ps:Array (Nat × Operand)} {vs:List (Nat × Value)} (hB:BS P T places zs)
  (hp:ps.toList.map (fun p=>(p.1,ev f p.2))=vs) (hf:Instr.fill (fun i=>places[i]?) zs.toArray vs=some cs.toArray):EX P f (.build T ps) ((.agg cs.toArray)) d ty pos af w:=⟨cO hB hp hf⟩
theorem aRH {fn:Fn} {xs:Array Operand} {vs:List Value} (hv:xs.toList.map (ev f)=vs):EX P f (.makeFunc fn #[] xs) ((.func fn #[] vs.toArray)) d ty pos af w:=⟨oY hv⟩
end
section
variable {P:Program} {n:Nat} {ops:Array Oper} {Q:pP} {f:Nat->Value} {w:World} {ty:TypeId} {pos:String} {af:Array Go.Edge} {rest:List Oper} {C:World->Prop} {R:(Nat->Value)->Prop}
theorem VO {v:Value} {d:Nat} {op:Op} (hr:EX P f op v d ty pos af w) (h:WO P n ops rest Q (upd f d v) w):WO P n ops (⟨some d,op,ty,pos,af,none⟩::rest) Q f w:=aD hr.h h
theorem VQ {v:Value} {d:Nat} {op:Op} (hr:∀ w,C w->EX P f op v d ty pos af w) (h:WQ P n ops C rest R (upd f d v)):WQ P n ops C (⟨some d,op,ty,pos,af,none⟩::rest) R f:=cW (fun w hw=>(hr w hw).h) h
theorem V_onT {j g:Nat} {op:Op} {dst:Option Tmp} {b:Bool} (hd:(ops[j]?).bind (·.dst)=some g) (hx:f g=.bool b) (hb:b=true) (h:WO P n ops (⟨dst,op,ty,pos,af,none⟩::rest) Q f w):WO P n ops (⟨dst,op,ty,pos,af,some (j,true)⟩::rest) Q f w:=bP hb hd hx h
theorem V_onF {j g:Nat} {op:Op} {dst:Option Tmp} {b:Bool} (hd:(ops[j]?).bind (·.dst)=some g) (hx:f g=.bool b) (hb:¬ b=true) (h:WO P n ops (⟨dst,op,ty,pos,af,none⟩::rest) Q f w):WO P n ops (⟨dst,op,ty,pos,af,some (j,false)⟩::rest) Q f w:=cR hb hd hx h
theorem V_offF {j g:Nat} {op:Op} {dst:Option Tmp} {b:Bool} (hd:(ops[j]?).bind (·.dst)=some g) (hx:f g=.bool b) (hb:¬ b=true) (h:WO P n ops rest Q (aFz f dst undef) w):WO P n ops (⟨dst,op,ty,pos,af,some (j,true)⟩::rest) Q f w:=bK hb hd hx h
theorem V_offT {j g:Nat} {op:Op} {dst:Option Tmp} {b:Bool} (hd:(ops[j]?).bind (·.dst)=some g) (hx:f g=.bool b) (hb:b=true) (h:WO P n ops rest Q (aFz f dst undef) w):WO P n ops (⟨dst,op,ty,pos,af,some (j,false)⟩::rest) Q f w:=eG hb hd hx h
theorem Q_onT {j g:Nat} {op:Op} {dst:Option Tmp} {b:Bool} (hd:(ops[j]?).bind (·.dst)=some g) (hx:f g=.bool b) (hb:b=true) (h:WQ P n ops C (⟨dst,op,ty,pos,af,none⟩::rest) R f):WQ P n ops C (⟨dst,op,ty,pos,af,some (j,true)⟩::rest) R f:=aJZ hd hx hb h
theorem Q_onF {j g:Nat} {op:Op} {dst:Option Tmp} {b:Bool} (hd:(ops[j]?).bind (·.dst)=some g) (hx:f g=.bool b) (hb:¬ b=true) (h:WQ P n ops C (⟨dst,op,ty,pos,af,none⟩::rest) R f):WQ P n ops C (⟨dst,op,ty,pos,af,some (j,false)⟩::rest) R f:=aJZ hd hx (by simpa using hb) h
theorem Q_offF {j g:Nat} {op:Op} {dst:Option Tmp} {b:Bool} (hd:(ops[j]?).bind (·.dst)=some g) (hx:f g=.bool b) (hb:¬ b=true) (h:WQ P n ops C rest R (aFz f dst undef)):WQ P n ops C (⟨dst,op,ty,pos,af,some (j,true)⟩::rest) R f:=WQ_off hd hx (by cases b<;>simp_all) h
theorem Q_offT {j g:Nat} {op:Op} {dst:Option Tmp} {b:Bool} (hd:(ops[j]?).bind (·.dst)=some g) (hx:f g=.bool b) (hb:b=true) (h:WQ P n ops C rest R (aFz f dst undef)):WQ P n ops C (⟨dst,op,ty,pos,af,some (j,false)⟩::rest) R f:=WQ_off hd hx (by cases b<;>simp_all) h
theorem aRg {c:Operand} {x y:Code} {b:Bool} (hc:ev f c=.bool b) (hb:b=true) (h:W P n x Q f w):W P n (.cond c x y) Q f w:=aR hb hc h
theorem aRk {c:Operand} {x y:Code} {b:Bool} (hc:ev f c=.bool b) (hb:¬ b=true) (h:W P n y Q f w):W P n (.cond c x y) Q f w:=aX hb hc h
end
section
variable {P:Program} {n:Nat} {ops:Array Oper} {Q:pP} {f:Nat->Value} {w:World} {ty:TypeId} {pos:String} {af:Array Go.Edge} {rest:List Oper} {C:World->Prop} {R:(Nat->Value)->World->Prop} {os:List Oper} {l:List (Nat × Nat)} {d:Nat} {op:Op} {v:Value}
theorem V_WE {i:Nat} (hi:aDD os i=some ⟨some d,op,ty,pos,af,none⟩) (hr:∀ w,C w->EX P f op v d ty pos af w) (h:WE P n os.toArray C l R (upd f d v) w):WE P n os.toArray C ((i,0)::l) R f w:=aZ hi (fun w hw=>(hr w hw).h) h
theorem V_WT {i:Nat} (hi:aDD os i=some ⟨some d,op,ty,pos,af,none⟩) (hr:∀ w,EX P f op v d ty pos af w) (h:WE P n os.toArray C l R (upd f d v) w):WE P n os.toArray C ((i,3)::l) R f w:=WE_t hi (fun w=>(hr w).h) h
theorem V_WA {bs:List Nat} {m:Nat} {listed:Array Bool} {i:Nat} (hi:aDD os i=some ⟨some d,op,ty,pos,af,none⟩) (hB:lookB os.toArray bs listed i=true) (hC:C w) (hr:∀ w,C w->EX P f op v d ty pos af w) (h:WA P n os.toArray C bs R m (listed.setIfInBounds i true) (upd f d v) w):WA P n os.toArray C bs R (m+1) listed f w:=iY hi hB hC (fun w hw=>(hr w hw).h) h
theorem V_L {T:TypeId} {x:Operand} (h:EX P f (.load T x) v d ty pos af w):EX P f (.load T x) v d ty pos af w:=h
theorem V_B {o:BinOp} {T U:TypeId} {x y:Operand} (h:EX P f (.binOp o T x y U) v d ty pos af w):EX P f (.binOp o T x y U) v d ty pos af w:=h
theorem aAZ {k:FuncId} {xs:Array Operand} {ats:Array TypeId} {vs:List Value} {Φ:Value->World->Prop} (hk:CE P k) (hc:Calls P k vs.toArray w (dL Φ)) (h:∀ v w',Φ v w'->WO P n ops rest Q (upd f d v) w') (hv:xs.toList.map (ev f)=vs:=by exact rfl):
  WO P n ops (⟨some d,.call ⟨.value (.func k),xs,ats⟩,ty,pos,af,none⟩::rest) Q f w:=aQ hk hv hc h
theorem aBM {k:FuncId} {fn:Func} {c:Code} {args:List Value} {Φ:Value->World->Prop} (hf:P.funcs[k]?=some fn) (h:W P fn.ntmps c (retQ P fn Φ) (initF args) w) (hb:fn.body=some c:=by exact rfl) (hok:okc fn.ntmps c=true:=by kernel_rfl) (hl:Nat.ble args.length fn.ntmps=true:=by exact rfl):Calls P k args.toArray w (dL Φ):=aP hf hb hok (Nat.le_of_ble_eq_true hl) h
theorem aOM {fn:Func} {Φ:Value->World->Prop} {t:Nat} (hr:fn.results=#[.tmp t]) (h:Φ (f t) w) (ht:Nat.blt t fn.ntmps=true:=by exact rfl):W P fn.ntmps .ret (retQ P fn Φ) f w:=nD (oW hr ht h)
end
theorem ft_:¬ (false=true):=by decide
theorem aMa {p:Prop} (h:p:=by first|assumption|exact rfl|exact ft_):p:=h
inductive Rep:List fM->fM->(fM->List fM)->Prop
 |head {x:fM} {l:List fM}:Rep (x::l) x (fun y=>y::l)
 |tail {z x:fM} {l:List fM} {C:fM->List fM} (h:Rep l x C):Rep (z::l) x (fun y=>z::C y)
theorem Rep.ix {L:List fM} {x:fM} {C:fM->List fM} (h:Rep L x C):∃ i:Nat,L[i]?=some x/\∀ y,L.set i y=C y:=by
 induction h with
 |head=>exact ⟨0,rfl,fun _=>rfl⟩
 |tail h ih=>obtain ⟨i,h1,h2⟩:=ih;exact ⟨i+1,h1,fun y=>by rw [List.set_cons_succ,h2]⟩
theorem st_M {p:Prop} (h:p:=by with_reducible first|exact Rep.head|exact Rep.tail Rep.head|exact Rep.tail (Rep.tail Rep.head)|exact Rep.tail (Rep.tail (Rep.tail Rep.head))|exact Rep.tail (Rep.tail (Rep.tail (Rep.tail Rep.head)))|exact Rep.tail (Rep.tail (Rep.tail (Rep.tail (Rep.tail Rep.head))))|exact Rep.tail (Rep.tail (Rep.tail (Rep.tail (Rep.tail (Rep.tail Rep.head)))))|exact Rep.tail (Rep.tail (Rep.tail (Rep.tail (Rep.tail (Rep.tail (Rep.tail Rep.head))))))|exact Rep.tail (Rep.tail (Rep.tail (Rep.tail (Rep.tail (Rep.tail (Rep.tail (Rep.tail Rep.head)))))))|exact Rep.tail (Rep.tail (Rep.tail (Rep.tail (Rep.tail (Rep.tail (Rep.tail (Rep.tail (Rep.tail Rep.head))))))))|exact Rep.tail (Rep.tail (Rep.tail (Rep.tail (Rep.tail (Rep.tail (Rep.tail (Rep.tail (Rep.tail (Rep.tail Rep.head)))))))))|exact Rep.tail (Rep.tail (Rep.tail (Rep.tail (Rep.tail (Rep.tail (Rep.tail (Rep.tail (Rep.tail (Rep.tail (Rep.tail Rep.head))))))))))|exact Rep.tail (Rep.tail (Rep.tail (Rep.tail (Rep.tail (Rep.tail (Rep.tail (Rep.tail (Rep.tail (Rep.tail (Rep.tail (Rep.tail Rep.head)))))))))))|exact Rep.tail (Rep.tail (Rep.tail (Rep.tail (Rep.tail (Rep.tail (Rep.tail (Rep.tail (Rep.tail (Rep.tail (Rep.tail (Rep.tail (Rep.tail Rep.head))))))))))))):p:=h
inductive SetV:List Value->Nat->Value->List Value->Prop
 |zero {x v:Value} {l:List Value}:SetV (x::l) 0 v (v::l)
 |succ {x v:Value} {l m:List Value} {t:Nat} (h:SetV l t v m):SetV (x::l) (t+1) v (x::m)
theorem SetV.eq {l m:List Value} {t:Nat} {v:Value} (h:SetV l t v m):l.take t++[v]++l.drop (t+1)=m/\t+1<=l.length:=by
 induction h with
 |zero=>exact ⟨rfl,by simp⟩
 |succ h ih=>exact ⟨by simpa using ih.1,by simpa using ih.2⟩
inductive StR:Value->List Value->Nat->List Value->Nat->Prop
 |one {v:Value} {vs us:List Value} {t:Nat} (h:SetV vs t v us) (hv:v.cells=#[v]) (h1:v.oneCell'=true):StR v vs t us 1
 |all {v:Value} {vs us:List Value} {m:Nat} (hv:v.cells=us.toArray) (hm:us.length=m) (hl:vs.length=m) (h1:us.all (fun u=>u.oneCell')=true):StR v vs 0 us m
theorem st_U {p:Prop} (h:p:=by first|exact StR.one (by (repeat (first|exact SetV.zero|apply SetV.succ));first|done|fail) rfl rfl|exact StR.all rfl rfl rfl rfl):p:=h
section
variable {P:Program} {n:Nat} {ops:Array Oper} {rest:List Oper} {Q:pP} {f:Nat->Value} {w:World} {d:Nat} {x y:Operand} {ty:TypeId} {pos:String} {af:Array Go.Edge} {G:rT} {K:Hp} {L:List fM} {C:fM->List fM}
theorem aFy {T E:TypeId} {b t m:Nat} {vs us:List Value} {v:Value} (h:∀ w',aF G K (C (box b E us)) w'->WO P n ops rest Q f w') (hx:ev f x=.pointer (some ⟨b,t,none⟩):=by exact cC) (hs:aF G K L w:=by assumption) (hr:Rep L (box b E vs) C:=by exact st_M) (hy:ev f y=v:=by exact cC) (hT:∀ w,(Go.sizeOf T).run P w=.ok m w:=by exact st_z) (hu:StR v vs t us m:=by exact st_U):WO P n ops (⟨none,.store T x y,ty,pos,af,none⟩::rest) Q f w:=by
 obtain ⟨i,h1,h2⟩:=hr.ix
 cases hu with
 |one g1 g2 g3=>exact dP hT hs h1 hx hy g2 rfl (by simpa using g3) (by simpa using g1.eq.2) g1.eq.1 fun w' q=>h w' (h2 _ ▸ q)
 |all g1 g2 g3 g4=>exact dP hT hs h1 hx hy g1 g2 (by simpa using g4) (by simp [g3]) (by simp [g3]) fun w' q=>h w' (h2 _ ▸ q)
def ZA (P:Program) (T:TypeId) (vs:List Value):Prop:=∃ v,ZV P T v/\v.cells=vs.toArray
theorem aEx {T:TypeId} {vs:List Value} (h:∀ b w',aF G K (box b T vs::L) w'->WO P n ops rest Q (upd f d (.pointer (some ⟨b,0,none⟩))) w') (hz:ZA P T vs:=by exact st_y) (hs:aF G K L w:=by assumption):WO P n ops (⟨some d,.alloc T,ty,pos,af,none⟩::rest) Q f w:=by
 obtain ⟨v,h1,h2⟩:=hz
 exact cF h1 hs h2 h
theorem aGg {T:TypeId} {v:Value} {vs:List Value} (h:∀ b w',aF G K (box b T vs::L) w'->WO P n ops rest Q (upd f d (.pointer (some ⟨b,0,none⟩))) w') (hx:ev f x=v:=by exact cC) (hv:v.cells=vs.toArray:=by exact rfl) (hs:aF G K L w:=by assumption):WO P n ops (⟨some d,.box T x,ty,pos,af,none⟩::rest) Q f w:=fZ hs hx hv h
theorem els_pod {α:Type} [dV α] {K:Hp}:∀ {xs:List α},els K (xs.flatMap dV.enc) xs
 |[]=>trivial
 |x::xs=>by
  have e:(dV.enc x).length=El.sz α:=dV.len x
  have e1:((x::xs).flatMap dV.enc).take (El.sz α)=dV.enc x:=by rw [List.flatMap_cons,←e,List.take_left'];rfl
  have e2:((x::xs).flatMap dV.enc).drop (El.sz α)=xs.flatMap dV.enc:=by rw [List.flatMap_cons,←e,List.drop_left'];rfl
  refine ⟨?_,?_⟩
  ·rw [e1];exact rfl
  ·rw [e2];exact els_pod
theorem aQu {α:Type} [dV α]:∀ {xs:List α},(xs.flatMap dV.enc).length=xs.length * dV.sz α
 |[]=>by simp
 |x::xs=>by rw [List.flatMap_cons,List.length_append,dV.len,aQu,List.length_cons,Nat.succ_mul,Nat.add_comm]
theorem aCp {α:Type} {iα:dV α} {T E:TypeId} {sz len:Nat} {zs:List Value} {ps:Array (Nat × Operand)} (xs:List α) (h:∀ a w',aF G K (own E K a len xs::L) w'->WO P n ops rest Q (upd f d (.slice a len len)) w') (hT:SLT P T E sz:=by exact st_S) (hE:EZ P E zs:=by exact st_e) (hsz:dV.sz α=sz:=by exact rfl) (hzs:zs.length=sz:=by exact rfl) (hs:aF G K L w:=by assumption) (hlen:xs.length=len:=by exact rfl)
  (hf:Instr.fill (fun i=>some (i * sz,sz)) ((Array.range (len * sz)).map ((if len * sz=0 then #[] else zs.toArray)[· % (if len * sz=0 then #[] else zs.toArray).size]!)) (ps.toList.map (fun p=>(p.1,ev f p.2)))=some (xs.flatMap dV.enc).toArray:=by first|exact rfl|kernel_rfl) (hbig:Nat.ble (len * sz) 16777216=true:=by exact rfl):
  WO P n ops (⟨some d,.buildSlice T len ps,ty,pos,af,none⟩::rest) Q f w:=
 bO hT hE hsz hzs hs rfl hf hlen (by rw [aQu,hlen,hsz]) hbig els_pod h
end
section
variable {P:Program} {n:Nat} {ops:Array Oper} {rest:List Oper} {Q:pP} {f:Nat->Value} {w:World} {d:Nat} {x y:Operand} {ty:TypeId} {pos:String} {af:Array Go.Edge} {G:rT} {K:Hp} {L:List fM} {C:fM->List fM} {α:Type}
theorem aNS {iα:dV α} {T E E2:TypeId} {sz:Nat} {zs:List Value} {a a2:Option Addr} {cap c2 l1 l2:Nat} {xs ys zz:List α} {Ke K2:Hp} (h:∀ a' cap' w',aF G K (C (own E K a' cap' zz)) w'->WO P n ops rest Q (upd f d (.slice a' zz.length cap')) w') (hT:SLT P T E sz:=by exact st_S) (hU:P.underlying T=some (.slice E):=by exact st_u) (hE:EZ P E zs:=by exact st_e) (hx:ev f x=.slice a l1 cap:=by exact cC) (hy:ev f y=.slice a2 l2 c2:=by exact cC)
  (hs:aF G K (own E2 K2 a2 c2 ys::L) w:=by assumption) (hr:Rep L (own E Ke a cap xs) C:=by exact st_M) (hm:pS xs ys=some zz:=by assumption) (hsz:dV.sz α=sz:=by exact rfl) (hzs:zs.length=sz:=by exact rfl) (hl1:l1=xs.length:=by exact rfl) (hl2:l2=ys.length:=by exact rfl):
  WO P n ops (⟨some d,.call ⟨.builtin .append,#[x,y],#[T,T]⟩,ty,pos,af,none⟩::rest) Q f w:=by
 obtain ⟨i,h1,h2⟩:=hr.ix
 have hs:aF G K (own E2 K a2 c2 ys::L) w:=hs
 have h1:L[i]?=some (own E K a cap xs):=h1
 exact iR hT hU hE hsz hzs hs h1 (Hp.le_refl _) (Hp.le_refl _) hm hx hl1 hy hl2 (fun _ h=>h) fun a' c' w' q=>h a' c' w' (h2 _ ▸ q)
end
inductive Sub:List fM->List fM->Prop
 |refl {l:List fM}:Sub l l
 |pick {l m k:List fM} {x:fM} (h:Pck l x m) (g:Sub m k):Sub l (x::k)
 |drop {l m:List fM} {x:fM} (g:Sub l m):Sub (x::l) m
 |nilS {α:Type} {iα:El α} {E:TypeId} {Ke:Hp} {l k:List fM} (g:Sub l k):Sub l (own E Ke none 0 ([]:List α)::k)
theorem Sub.sat {L M:List fM} (s:Sub L M):∀ {h:Hp},fQ L h->fQ M h:=by
 induction s with
 |refl=>exact fun a=>a
 |pick p _ ih=>
  intro h a
  obtain ⟨i,h1,rfl⟩:=p.ix
  obtain ⟨g1,g2,b1,b2,b3,b4,b5⟩:=a.pick h1
  exact ⟨g1,g2,b1,b2,b3,b4,ih b5⟩
 |drop _ ih=>
  intro h a
  obtain ⟨g1,g2,_,_,_,b4,b5⟩:=a
  exact (ih b5).le b4
 |nilS _ ih=>
  intro h a
  have e1:Hp.dj (fun _=>none) h:=fun _=>Or.inl rfl
  have e2:Hp.le (fun _=>none) h:=fun _ _ e=>by cases e
  exact ⟨fun _=>none,h,own.nil _ _ _,e1,e2,Hp.le_refl _,ih a⟩
theorem st_N {p:Prop} (h:p:=by (repeat (first|with_reducible exact Sub.refl|(apply Sub.pick (by with_reducible first|exact Pck.head|exact Pck.tail Pck.head|exact Pck.tail (Pck.tail Pck.head)|exact Pck.tail (Pck.tail (Pck.tail Pck.head))|exact Pck.tail (Pck.tail (Pck.tail (Pck.tail Pck.head)))|exact Pck.tail (Pck.tail (Pck.tail (Pck.tail (Pck.tail Pck.head))))|exact Pck.tail (Pck.tail (Pck.tail (Pck.tail (Pck.tail (Pck.tail Pck.head)))))|exact Pck.tail (Pck.tail (Pck.tail (Pck.tail (Pck.tail (Pck.tail (Pck.tail Pck.head))))))|exact Pck.tail (Pck.tail (Pck.tail (Pck.tail (Pck.tail (Pck.tail (Pck.tail (Pck.tail Pck.head)))))))|exact Pck.tail (Pck.tail (Pck.tail (Pck.tail (Pck.tail (Pck.tail (Pck.tail (Pck.tail (Pck.tail Pck.head))))))))|exact Pck.tail (Pck.tail (Pck.tail (Pck.tail (Pck.tail (Pck.tail (Pck.tail (Pck.tail (Pck.tail (Pck.tail Pck.head)))))))))|exact Pck.tail (Pck.tail (Pck.tail (Pck.tail (Pck.tail (Pck.tail (Pck.tail (Pck.tail (Pck.tail (Pck.tail (Pck.tail Pck.head))))))))))|exact Pck.tail (Pck.tail (Pck.tail (Pck.tail (Pck.tail (Pck.tail (Pck.tail (Pck.tail (Pck.tail (Pck.tail (Pck.tail (Pck.tail Pck.head)))))))))))|exact Pck.tail (Pck.tail (Pck.tail (Pck.tail (Pck.tail (Pck.tail (Pck.tail (Pck.tail (Pck.tail (Pck.tail (Pck.tail (Pck.tail (Pck.tail Pck.head))))))))))))))|(apply Sub.pick (by first|exact Pck.head|exact Pck.tail Pck.head|exact Pck.tail (Pck.tail Pck.head)|exact Pck.tail (Pck.tail (Pck.tail Pck.head))|exact Pck.tail (Pck.tail (Pck.tail (Pck.tail Pck.head)))|exact Pck.tail (Pck.tail (Pck.tail (Pck.tail (Pck.tail Pck.head))))))|apply Sub.nilS|apply Sub.drop));first|done|fail):p:=h
theorem aCN {G:rT} {K K':Hp} {L M:List fM} {w:World} (hs:aF G K L w:=by assumption) (hk:K'.le K:=by first|exact Hp.le_refl _|exact nC) (hb:Sub L M:=by exact st_N):aF G K' M w:=
 have hs:=hs.weakK hk
 let ⟨e,h,gd,gl,d,k,l,r⟩:=hs;⟨e,h,gd,gl,d,k,l,hb.sat r⟩
section
variable {P:Program} {n:Nat} {Q:pP} {f:Nat->Value} {w:World} {G:rT} {K:Hp} {L:List fM}
theorem aOY {id:Nat} {l:List Oper} (h:WQ P n l.toArray (aF G K L) l (fun f=>∀ w',aF G K L w'->Q .normal f w') f) (hs:aF G K L w:=by assumption) (hB:Region.lexB .any l.toArray=true:=by kernel_rfl) (hm:P.follows .mixedOrders=true:=by exact Tryz_mixed):W P n (.region id l.toArray true) Q f w:=
 nE hm hB (hs.mono (eF.drew _)) h
theorem aGG {id:Nat} {os:List Oper} (l:List (Nat × Nat)) (h:∀ w',aF G K L w'->WE P n os.toArray (fun w'=>∃ L',aF G K L' w') l (fun f w=>Q .normal f w) f w') (hs:aF G K L w:=by assumption) (hB:(Region.noSelect os.toArray&&lastB .any os.toArray l&&aKc .any os.toArray l (Array.replicate os.toArray.size false)&&l.length == os.toArray.size)=true:=by kernel_rfl) (hm:P.follows .mixedOrders=true:=by exact Tryz_mixed):W P n (.region id os.toArray true) Q f w:=
 cI l hm hB (fun _ g=>⟨_,hs.mono g⟩) fun _ g=>h _ (hs.mono g)
end
theorem aLI {α:Type} {a b:α} {p:Prop} (h:some a=some b) (k:a=b->p):p:=k (Option.some.inj h)
theorem st_no {α:Type} {a:α} {p:Prop} (h:none=some a):p:=nomatch h
theorem aCy {α:Type} {q:α->Prop} {p:Prop} (k:∀ x,q x->p) (h:∃ x,q x):p:=let ⟨x,h⟩:=h;k x h
theorem aCz {a b p:Prop} (k:a->b->p) (h:a/\b):p:=k h.1 h.2
section
variable {P:Program} {n:Nat} {ops:Array Oper} {rest:List Oper} {Q:pP} {f:Nat->Value} {w:World} {d:Nat} {x y:Operand} {ty:TypeId} {pos:String} {af:Array Go.Edge} {G:rT} {K:Hp} {L:List fM}
theorem st_ca {k:FuncId} {xs:Array Operand} {ats:Array TypeId} {vs:List Value} {Φ:Value->World->Prop} (hk:CE P k) (hc:Calls P k vs.toArray w (dL Φ)) (hv:xs.toList.map (ev f)=vs) (h:∀ v w',Φ v w'->WO P n ops rest Q (upd f d v) w'):
  WO P n ops (⟨some d,.call ⟨.value (.func k),xs,ats⟩,ty,pos,af,none⟩::rest) Q f w:=aQ hk hv hc h
theorem st_cb {k:FuncId} {xs:Array Operand} {ats:Array TypeId} {vs:List Value} {Φ:Value->World->Prop} (hk:CE P k) (hc:Calls P k vs.toArray w (dL Φ)) (hv:xs.toList.map (ev f)=vs) (h:∀ v w',Φ v w'->WO P n ops rest Q f w'):
  WO P n ops (⟨none,.call ⟨.value (.func k),xs,ats⟩,ty,pos,af,none⟩::rest) Q f w:=WO_call0 hk hv hc h
theorem st_cq {C:World->Prop} {R:(Nat->Value)->Prop} {k:FuncId} {xs:Array Operand} {ats:Array TypeId} {vs:List Value} {v:Value} (hk:CE P k) (hc:∀ w,C w->Calls P k vs.toArray w (dL fun u w'=>u=v/\C w')) (hv:xs.toList.map (ev f)=vs) (h:WQ P n ops C rest R (upd f d v)):
  WQ P n ops C (⟨some d,.call ⟨.value (.func k),xs,ats⟩,ty,pos,af,none⟩::rest) R f:=aPm hk hv hc h
theorem st_i {α:Type} {iα:El α} {T E:TypeId} {sz:Nat} {a:Option Addr} {len cap:Nat} {xs:List α} {j:Int} {e:α} (hx:ev f x=.slice a len cap) (hy:ev f y=i64 j) (hr:bI K a cap xs) (hj:ix xs j=some e) (hl:len=xs.length) (hT:SLT P T E sz) (hz:El.sz α=sz)
  (h:∀ cs,dR K a (j.toNat * sz) cs->El.rd K cs e->WO P n ops rest Q (upd f d (cE a (j.toNat * sz))) w):WO P n ops (⟨some d,.indexAddr T x y,ty,pos,af,none⟩::rest) Q f w:=
 let ⟨cs,h1,h2⟩:=bI.el hz hr hj
 aD (cU hT hz hr hx hl hy hj) (h cs h1 h2)
theorem st_iQ {C:World->Prop} {R:(Nat->Value)->Prop} {α:Type} {iα:El α} {T E:TypeId} {sz:Nat} {a:Option Addr} {len cap:Nat} {xs:List α} {j:Int} {e:α} (hx:ev f x=.slice a len cap) (hy:ev f y=i64 j) (hr:bI K a cap xs) (hj:ix xs j=some e) (hl:len=xs.length) (hT:SLT P T E sz) (hz:El.sz α=sz)
  (h:∀ cs,dR K a (j.toNat * sz) cs->El.rd K cs e->WQ P n ops C rest R (upd f d (cE a (j.toNat * sz)))):WQ P n ops C (⟨some d,.indexAddr T x y,ty,pos,af,none⟩::rest) R f:=
 let ⟨cs,h1,h2⟩:=bI.el hz hr hj
 cW (fun _ _=>cU hT hz hr hx hl hy hj) (h cs h1 h2)
theorem st_iE {C:World->Prop} {R:(Nat->Value)->World->Prop} {os:List Oper} {l:List (Nat × Nat)} {i:Nat} {α:Type} {iα:El α} {T E:TypeId} {sz:Nat} {a:Option Addr} {len cap:Nat} {xs:List α} {j:Int} {e:α} (hi:aDD os i=some ⟨some d,.indexAddr T x y,ty,pos,af,none⟩) (hx:ev f x=.slice a len cap) (hy:ev f y=i64 j) (hr:bI K a cap xs) (hj:ix xs j=some e) (hl:len=xs.length) (hT:SLT P T E sz) (hz:El.sz α=sz)
  (h:∀ cs,dR K a (j.toNat * sz) cs->El.rd K cs e->WE P n os.toArray C l R (upd f d (cE a (j.toNat * sz))) w):WE P n os.toArray C ((i,0)::l) R f w:=
 let ⟨cs,h1,h2⟩:=bI.el hz hr hj
 aZ hi (fun _ _=>cU hT hz hr hx hl hy hj) (h cs h1 h2)
theorem st_pd {α:Type} [dV α] {K:Hp} {cs:List Value} {e:α} (h:El.rd K cs e):cs=dV.enc e:=h
theorem st_ba {α:Type} {iα:dV α} {T E:TypeId} {sz len:Nat} {zs:List Value} {ps:Array (Nat × Operand)} {xs ys zz:List α} (hq:pS ys xs=some zz) (h:∀ a w',aF G K (own E K a len xs::L) w'->WO P n ops rest Q (upd f d (.slice a len len)) w') (hT:SLT P T E sz:=by exact st_S) (hE:EZ P E zs:=by exact st_e) (hsz:dV.sz α=sz:=by exact rfl) (hzs:zs.length=sz:=by exact rfl) (hs:aF G K L w:=by assumption) (hlen:xs.length=len:=by exact rfl)
  (hf:Instr.fill (fun i=>some (i * sz,sz)) ((Array.range (len * sz)).map ((if len * sz=0 then #[] else zs.toArray)[· % (if len * sz=0 then #[] else zs.toArray).size]!)) (ps.toList.map (fun p=>(p.1,ev f p.2)))=some (xs.flatMap dV.enc).toArray:=by first|exact rfl|kernel_rfl) (hbig:Nat.ble (len * sz) 16777216=true:=by exact rfl):
  WO P n ops (⟨some d,.buildSlice T len ps,ty,pos,af,none⟩::rest) Q f w:=aCp xs h hT hE hsz hzs hs hlen hf hbig
end
theorem st_g0 {P:Program} {n:Nat} {c:Operand} {x y:Code} {Q:pP} {f:Nat->Value} {w:World} (h:W P n (.cond c x y) Q f w):W P n (.cond c x y) Q f w:=h
theorem st_g1 {P:Program} {n:Nat} {ops:Array Oper} {dst:Option Tmp} {op:Op} {ty:TypeId} {pos:String} {af:Array Go.Edge} {g:Nat × Bool} {rest:List Oper} {Q:pP} {f:Nat->Value} {w:World} (h:WO P n ops (⟨dst,op,ty,pos,af,some g⟩::rest) Q f w):WO P n ops (⟨dst,op,ty,pos,af,some g⟩::rest) Q f w:=h
theorem st_g2 {P:Program} {n:Nat} {ops:Array Oper} {dst:Option Tmp} {op:Op} {ty:TypeId} {pos:String} {af:Array Go.Edge} {g:Nat × Bool} {rest:List Oper} {C:World->Prop} {R:(Nat->Value)->Prop} {f:Nat->Value} (h:WQ P n ops C (⟨dst,op,ty,pos,af,some g⟩::rest) R f):WQ P n ops C (⟨dst,op,ty,pos,af,some g⟩::rest) R f:=h
theorem st_g3 {P:Program} {n:Nat} {ops:Array Oper} {dst:Option Tmp} {x y z:Operand} {ty:TypeId} {pos:String} {af:Array Go.Edge} {rest:List Oper} {Q:pP} {f:Nat->Value} {w:World} (h:WO P n ops (⟨dst,.pick x y z,ty,pos,af,none⟩::rest) Q f w):WO P n ops (⟨dst,.pick x y z,ty,pos,af,none⟩::rest) Q f w:=h
theorem st_g4 {P:Program} {n:Nat} {os:List Oper} {i q:Nat} {o:Oper} {g:Nat × Bool} {l:List (Nat × Nat)} {C:World->Prop} {R:(Nat->Value)->World->Prop} {f:Nat->Value} {w:World} (hi:(aDD os i).bind (·.guard)=some g) (h:WE P n os.toArray C ((i,q)::l) R f w):WE P n os.toArray C ((i,q)::l) R f w:=h
theorem st_we {P:Program} {n:Nat} {ops:Array Oper} {C:World->Prop} {l:List (Nat × Nat)} {R:(Nat->Value)->World->Prop} {f:Nat->Value} {w:World} {G:rT} {K:Hp} (h1:∃ L',aF G K L' w) (h2:WE P n ops C l R f w):(∃ L',aF G K L' w)/\WE P n ops C l R f w:=⟨h1,h2⟩
theorem st_cK {K K':Hp} {a:Option Addr} {k:Nat} {cs:List Value} (c:dR K a k cs) (h:K.le K'):dR K' a k cs:=c.mono h
theorem st_rK {α:Type} {iα:El α} {K K':Hp} {a:Option Addr} {cap:Nat} {xs:List α} (r:bI K a cap xs) (h:K.le K'):bI K' a cap xs:=r.mono h
section
variable {P:Program} {n:Nat} {ops:Array Oper} {rest:List Oper} {Q:pP} {f:Nat->Value} {w:World} {G:rT} {K:Hp} {L M:List fM}
theorem qB {α:Type} {iα:El α} {E:TypeId} {Ke:Hp} {a:Option Addr} {cap:Nat} {xs:List α} (hs:aF G K L w) (p:Pck L (own E Ke a cap xs) M) (hK:Ke.le K) (h:∀ K',K.le K'->bI K' a cap xs->aF G K' M w->(∀ L' w',aF G K' L' w'->aF G K (own E Ke a cap xs::L') w')->WO P n ops rest Q f w):WO P n ops rest Q f w:=by
 obtain ⟨K',h1,h2,h3,h4⟩:=aF.lendSp hs hK p
 exact h K' h1 h2 h3 h4
theorem qC {E:TypeId} {b:Nat} {vs:List Value} (hs:aF G K L w) (p:Pck L (box b E vs) M) (h:∀ K',K.le K'->dR K' (some ⟨b,0,none⟩) 0 vs->aF G K' M w->(∀ L' w',aF G K' L' w'->aF G K (box b E vs::L') w')->WO P n ops rest Q f w):WO P n ops rest Q f w:=by
 obtain ⟨K',h1,h2,h3,h4⟩:=aF.lendBp hs p
 exact h K' h1 h2 h3 h4
theorem st_q2 {α:Type} {iα:dV α} {d:Nat} {x y:Operand} {ty:TypeId} {pos:String} {af:Array Go.Edge} {C:fM->List fM} {T E:TypeId} {sz:Nat} {zs:List Value} {a a2:Option Addr} {cap c2 l1 l2:Nat} {xs ys zz:List α} {Ke:Hp} (hx:ev f x=.slice a l1 cap) (hy:ev f y=.slice a2 l2 c2) (hr0:bI K a2 c2 ys) (hs:aF G K L w) (hr:Rep L (own E Ke a cap xs) C) (hm:pS xs ys=some zz) (hT:SLT P T E sz) (hU:P.underlying T=some (.slice E)) (hE:EZ P E zs) (hsz:dV.sz α=sz) (hzs:zs.length=sz) (hl1:l1=xs.length) (hl2:l2=ys.length)
  (h:∀ a' cap' w',aF G K (C (own E K a' cap' zz)) w'->WO P n ops rest Q (upd f d (.slice a' zz.length cap')) w'):
  WO P n ops (⟨some d,.call ⟨.builtin .append,#[x,y],#[T,T]⟩,ty,pos,af,none⟩::rest) Q f w:=by
 obtain ⟨i,h1,h2⟩:=hr.ix
 have h1:L[i]?=some (own E K a cap xs):=h1
 exact aFg hT hU hE hsz hzs hs h1 (Hp.le_refl _) hr0 hm hx hl1 hy hl2 fun a' c' w' q=>h a' c' w' (h2 _ ▸ q)
end
end Gv
