/- Small helpers of the generated walks; conversions; slices of slices and strings. No program in sight. -/
import Derived.Test.YthbfapccpmppoaaGreatDoorJG
set_option linter.all false
namespace Gv
open Go
theorem kJ {ns:List Value} (h:ns.all (·.oneCell')=true):∀ u∈ns,u.oneCell'=true:=fun u hu=>List.all_eq_true.1 h u hu
theorem vL {b:Bool} (h:b=true):¬ (!b)=true:=by simp [h]
theorem mN {b:Bool} (h:¬ b=true):(!b)=true:=by simpa using h
theorem sD {b:Bool} (h:¬ b=true):b=false:=by simpa using h
theorem aHF {b:Bool} (h:b=true):(b == false)=false:=by subst h;rfl
theorem tp2 {a1 b1 a2 b2:Value} (h1:a1=b1) (h2:a2=b2):Value.tuple #[a1,a2]=.tuple #[b1,b2]:=by rw [h1,h2]
theorem W_codeJ {P:Program} {n:Nat} {Q:lI} {f:Nat->Value} {w:World} {c:Code} (M:(Nat->Value)->World->Prop) (hM:∀ f w,M f w->Q .normal f w) (h:W P n c (sA M Q) f w):W P n c Q f w:=
 h.mono fun e f w q=>by cases e<;>first|exact hM f w q|exact q
theorem aZ {P:Program} {n:Nat} {Q:lI} {f:Nat->Value} {w:World} {c:Code} (ks:List Nat) (M:(Nat->Value)->World->Prop) (hM:∀ g w,M (ovr ks f g) w->Q .normal (ovr ks f g) w) (h:W P n c (sA (fun g w=>ks.map g=ks.map f/\M g w) Q) f w):W P n c Q f w:=
 W_codeJ (fun g w=>ks.map g=ks.map f/\M g w) (fun g w q=>by have:=hM g w;rw [aLZ q.1] at this;exact this q.2) h
section
variable {f:Nat->Value} {x1 x2 x3 x4 x5 x6 x7 x8:Operand} {v1 v2 v3 v4 v5 v6 v7 v8:Value}
variable {i1 i2 i3 i4:Nat}
end
section
variable {P:Program} {n:Nat} {ops:Array Oper} {rest:List Oper} {Q:lI} {f:Nat->Value} {w:World}
variable {d:Nat} {x y z:Operand} {ty:TypeId} {pos:String} {af:Array Edge}
variable {G:kH} {K:Hp} {L:List eW} {α:Type} [El α]
theorem wrap_u8 (x:Int):IntKind.u8.wrap x=wu8 x:=by
 simp only [IntKind.wrap,IntKind.bits,IntKind.signed,wu8];simp
theorem aPS {S T:TypeId} {k:IntKind} {a:Int} (hT:∀ w,(underlying T).run P w=.ok (.int .i64) w) (hx:ev f x=.int k a) (hS:∃ d,∀ w,(underlying S).run P w=.ok d w):
  (execOp (ev f) ⟨some d,.convert S T x,ty,pos,af,none⟩).run P w=.ok (.value (.int .i64 (wr a))) w:=by
 obtain ⟨ds,hS⟩:=hS
 cases ds<;>simp [execOp,convert,hS,hT,hx,Conv.intToInt,aEB]
theorem R_convu8 {S T:TypeId} {k:IntKind} {a:Int} (hT:∀ w,(underlying T).run P w=.ok (.int .u8) w) (hx:ev f x=.int k a) (hS:∃ d,∀ w,(underlying S).run P w=.ok d w):
  (execOp (ev f) ⟨some d,.convert S T x,ty,pos,af,none⟩).run P w=.ok (.value (.int .u8 (wu8 a))) w:=by
 obtain ⟨ds,hS⟩:=hS
 cases ds<;>simp [execOp,convert,hS,hT,hx,Conv.intToInt,wrap_u8]
theorem R_u8sub {a b:Int} {T U:TypeId} (hx:ev f x=.int .u8 a) (hy:ev f y=.int .u8 b):
  (execOp (ev f) ⟨some d,.binOp .sub T x y U,ty,pos,af,none⟩).run P w=.ok (.value (.int .u8 (wu8 (a - b)))) w:=by
 simp [execOp,hx,hy,eqGuard,binOp,Op.intArith,wrap_u8]
theorem run_eqInB (k:Nat) {a b:Bool} {T:TypeId} (hT:∀ w,(underlying T).run P w=.ok .bool w):(Op.equalIn (k+1) T (.bool a) (.bool b)).run P w=.ok (a == b) w:=by
 simp [Op.equalIn,hT]
theorem run_eqB {a b:Bool} {T:TypeId} (hT:∀ w,(underlying T).run P w=.ok .bool w):(Op.equal T (.bool a) (.bool b)).run P w=.ok (a == b) w:=run_eqInB 9999 hT
theorem R_neqB {a b:Bool} {T U:TypeId} (hT:∀ w,(underlying T).run P w=.ok .bool w) (hx:ev f x=.bool a) (hy:ev f y=.bool b):
  (execOp (ev f) ⟨some d,.binOp .neq T x y U,ty,pos,af,none⟩).run P w=.ok (.value (.bool (a != b))) w:=by
 have h:=run_eqB (w:=w) (a:=a) (b:=b) hT
 simp only [execOp,hx,hy,Sem.run_bind,eqGuard,binOp]
 simp [h,bne]
theorem aPT (s r:aL) (lo hi:Nat) (hr:r=(s.drop lo).take (hi - lo)):(⟨⟨s⟩⟩:ByteArray).extract lo hi=⟨⟨r⟩⟩:=by
 apply ByteArray.ext
 subst hr
 simp [List.extract_toArray,List.extract_eq_drop_take]
theorem aOR {s r:aL} {lo hi:Int} {T:TypeId} {l h:Option Value} (hT:∀ w,(underlying T).run P w=.ok .string w)
  (hr:slc s lo hi=some r) (hl:(l=some (i64 lo))\/(l=none/\lo=0)) (hh:(h=some (i64 hi))\/(h=none/\hi=(s.length:Int))):
  (Instr.slice T (str s) l h none).run P w=.ok (str r) w:=by
 obtain ⟨h0,h1,h2,rfl⟩:=aIQ hr
 obtain ⟨lo,rfl⟩:=Int.eq_ofNat_of_zero_le h0
 obtain ⟨hi,rfl⟩:=Int.eq_ofNat_of_zero_le (Int.le_trans h0 h1)
 simp only [Int.toNat_natCast] at *
 have hx:=aPT s _ lo hi rfl
 have h1':lo<=hi:=by omega
 rcases hl with rfl|⟨rfl,e⟩<;>rcases hh with rfl|⟨rfl,e'⟩
 ·simp [Instr.slice,hT,str,Instr.sliceBounds,Instr.sliceBound,i64,asIntOf,aFV,h1',h2,hx]
 ·have:hi=s.length:=by omega
  subst this
  simp [Instr.slice,hT,str,Instr.sliceBounds,Instr.sliceBound,i64,asIntOf,aFV,h1',hx]
 ·have:lo=0:=by omega
  subst this
  simp [Instr.slice,hT,str,Instr.sliceBounds,Instr.sliceBound,i64,asIntOf,aFV,h2,hx]
 ·have:hi=s.length:=by omega
  subst this
  have:lo=0:=by omega
  subst this
  simp [Instr.slice,hT,str,Instr.sliceBounds,aFV,hx]
theorem R_slSLH {s r:aL} {lo hi:Int} {T:TypeId} (hT:∀ w,(underlying T).run P w=.ok .string w) (hx:ev f x=str s) (hl:ev f y=i64 lo) (hh:ev f z=i64 hi) (hr:slc s lo hi=some r):
  (execOp (ev f) ⟨some d,.slice T x (some y) (some z) none,ty,pos,af,none⟩).run P w=.ok (.value (str r)) w:=by
 have hT':(underlying T).run P w=.ok .string w:=hT w
 have:=aOR (w:=w) hT hr (.inl rfl) (.inl rfl)
 simp [execOp,hx,hl,hh,Instr.sliceAt,hT',this]
theorem R_slSL {s r:aL} {lo:Int} {T:TypeId} (hT:∀ w,(underlying T).run P w=.ok .string w) (hx:ev f x=str s) (hl:ev f y=i64 lo) (hr:slc s lo (s.length:Int)=some r):
  (execOp (ev f) ⟨some d,.slice T x (some y) none none,ty,pos,af,none⟩).run P w=.ok (.value (str r)) w:=by
 have hT':(underlying T).run P w=.ok .string w:=hT w
 have:=aOR (w:=w) hT hr (.inl rfl) (.inr ⟨rfl,rfl⟩)
 simp [execOp,hx,hl,Instr.sliceAt,hT',this]
theorem R_slSH {s r:aL} {hi:Int} {T:TypeId} (hT:∀ w,(underlying T).run P w=.ok .string w) (hx:ev f x=str s) (hh:ev f z=i64 hi) (hr:slc s 0 hi=some r):
  (execOp (ev f) ⟨some d,.slice T x none (some z) none,ty,pos,af,none⟩).run P w=.ok (.value (str r)) w:=by
 have hT':(underlying T).run P w=.ok .string w:=hT w
 have:=aOR (w:=w) hT hr (.inr ⟨rfl,rfl⟩) (.inl rfl)
 simp [execOp,hx,hh,Instr.sliceAt,hT',this]
theorem aW.cut {a:Option Addr} {cap:Nat} {xs r:List α} {lo hi m:Int} (hr:aW K a cap xs) (hc:slc xs lo hi=some r):
  aW K (if cap=lo.toNat then a else a.map (·.add (lo.toNat * El.sz α))) (cap - lo.toNat) r:=by
 obtain ⟨h0,h1,h2,rfl⟩:=aIQ hc
 have hcap:=hr.room
 have hlen:((xs.drop lo.toNat).take (hi.toNat - lo.toNat)).length=hi.toNat - lo.toNat:=by simp;omega
 refine ⟨by rw [hlen];omega,fun e=>?_,fun i d hd=>?_⟩
 ·have ha:a=none:=by
   split at e
   ·exact e
   ·simpa using e
  obtain ⟨rfl,rfl⟩:=hr.nil ha
  simp
 ·have hi':i < hi.toNat - lo.toNat:=by have:=(List.getElem?_eq_some_iff.1 hd).1;rwa [hlen] at this
  rw [List.getElem?_take_of_lt hi',List.getElem?_drop] at hd
  obtain ⟨cs,⟨ad,c,E,fr,rfl,sp,hK,hcs⟩,hrd⟩:=hr.cell _ _ hd
  refine ⟨cs,?_,hrd⟩
  obtain ⟨b,o,s⟩:=ad
  simp only at sp hK hcs
  subst sp
  have hne:¬ cap=lo.toNat:=by omega
  rw [if_neg hne]
  refine ⟨⟨b,o+lo.toNat * El.sz α,none⟩,c,E,fr,by simp [mM],rfl,hK,fun t v ht=>?_⟩
  have:=hcs t v ht
  rw [←this];congr 1;simp only [Nat.add_mul];omega
theorem run_slR {T E:TypeId} {sz:Nat} {a:Option Addr} {cap:Nat} {xs r:List α} {lo hi:Int} {l h:Option Value} (hT:SLT P T E sz) (hcap:xs.length<=cap)
  (hr:slc xs lo hi=some r) (hl:(l=some (i64 lo))\/(l=none/\lo=0)) (hh:(h=some (i64 hi))\/(h=none/\hi=(xs.length:Int))):
  (Instr.slice T (.slice a xs.length cap) l h none).run P w=.ok (.slice (if cap=lo.toNat then a else a.map (·.add (lo.toNat * sz))) r.length (cap - lo.toNat)) w:=by
 obtain ⟨h0,h1,h2,rfl⟩:=aIQ hr
 obtain ⟨lo,rfl⟩:=Int.eq_ofNat_of_zero_le h0
 obtain ⟨hi,rfl⟩:=Int.eq_ofNat_of_zero_le (Int.le_trans h0 h1)
 simp only [Int.toNat_natCast] at *
 have h1':lo<=hi:=by omega
 have hic:hi<=cap:=by omega
 have hlen:((xs.drop lo).take (hi - lo)).length=hi - lo:=by simp;omega
 rw [hlen]
 rcases hl with rfl|⟨rfl,e⟩<;>rcases hh with rfl|⟨rfl,e'⟩
 ·simp [Instr.slice,hT.un,hT.size,Instr.sliceBounds,Instr.sliceBound,i64,asIntOf,h1',hic]
 ·have:hi=xs.length:=by omega
  subst this
  simp [Instr.slice,hT.un,hT.size,Instr.sliceBounds,Instr.sliceBound,i64,asIntOf,h1']
 ·have:lo=0:=by omega
  subst this
  simp [Instr.slice,hT.un,hT.size,Instr.sliceBounds,Instr.sliceBound,i64,asIntOf,hic]
 ·have:hi=xs.length:=by omega
  subst this
  have:lo=0:=by omega
  subst this
  simp [Instr.slice,hT.un,hT.size,Instr.sliceBounds]
theorem aOn {T E:TypeId} {sz:Nat} {v:Value} {l h:Option Value} (hT:SLT P T E sz):(Instr.sliceAt T v l h none).run P w=(Instr.slice T v l h none).run P w:=by
 simp [Instr.sliceAt,hT.un]
end
end Gv
