/- One rule for each kind of operation. No program in sight: what a type is comes in as a hypothesis. -/
import Derived.Test.YthbfapccpmppoaaGreatDoorJB
set_option linter.all false
namespace Gv
open Go
structure SLT (P:Program) (T E:TypeId) (sz:Nat):Prop where
 un:∀ w,(underlying T).run P w=.ok (.slice E) w
 size:∀ w,(Go.sizeOf E).run P w=.ok sz w
structure SC (P:Program) (T:TypeId):Prop where
 agg:∀ w,(isAgg T).run P w=.ok false w
 size:∀ w,(Go.sizeOf T).run P w=.ok 1 w
structure AG (P:Program) (T:TypeId) (m:Nat):Prop where
 agg:∀ w,(isAgg T).run P w=.ok true w
 size:∀ w,(Go.sizeOf T).run P w=.ok m w
def ZV (P:Program) (T:TypeId) (z:Value):Prop:=∀ w,(zeroValue T).run P w=.ok z w
def FA (P:Program) (S:TypeId) (i o:Nat):Prop:=∃ fields fd m,(∀ w,(underlying S).run P w=.ok (.struct fields) w)/\fields[i]?=some fd/\
 (∀ w,(Go.sizeOf fd.type).run P w=.ok m w)/\Nat.beq m 0=false/\fd.offset=o
section
variable {P:Program} {n:Nat} {ops:Array Oper} {rest:List Oper} {Q:lI} {f:Nat->Value} {w:World}
variable {d:Nat} {x y z:Operand} {ty:TypeId} {pos:String} {af:Array Edge}
variable {G:kH} {K:Hp} {L:List eW}
theorem bC {v:Value} (hv:ev f x=v):
  (execOp (ev f) ⟨some d,.move x,ty,pos,af,none⟩).run P w=.ok (.value v) w:=
 (by simp [execOp,hv])
theorem dJ {v:Value} (hv:ev f x=v):
  (execOp (ev f) ⟨some d,.assign x,ty,pos,af,none⟩).run P w=.ok (.value v) w:=
 (by simp [execOp,hv])
theorem aEB (x:Int):IntKind.i64.wrap x=wr x:=by
 simp only [IntKind.wrap,IntKind.bits,IntKind.signed,wr]
 simp
 omega
theorem nI {a b:Int} {T U:TypeId} (hx:ev f x=i64 a) (hy:ev f y=i64 b):
  (execOp (ev f) ⟨some d,.binOp .add T x y U,ty,pos,af,none⟩).run P w=.ok (.value (i64 (wr (a+b)))) w:=
 (by simp [execOp,hx,hy,i64,eqGuard,binOp,Op.intArith,aEB])
theorem kR {a b:Int} {T U:TypeId} (hx:ev f x=i64 a) (hy:ev f y=i64 b):
  (execOp (ev f) ⟨some d,.binOp .sub T x y U,ty,pos,af,none⟩).run P w=.ok (.value (i64 (wr (a - b)))) w:=
 (by simp [execOp,hx,hy,i64,eqGuard,binOp,Op.intArith,aEB])
theorem R_mul {a b:Int} {T U:TypeId} (hx:ev f x=i64 a) (hy:ev f y=i64 b):
  (execOp (ev f) ⟨some d,.binOp .mul T x y U,ty,pos,af,none⟩).run P w=.ok (.value (i64 (wr (a * b)))) w:=
 (by simp [execOp,hx,hy,i64,eqGuard,binOp,Op.intArith,aEB])
theorem R_quo {a b c:Int} {T U:TypeId} (hx:ev f x=i64 a) (hy:ev f y=i64 b) (hc:qu a b=some c):
  (execOp (ev f) ⟨some d,.binOp .quo T x y U,ty,pos,af,none⟩).run P w=.ok (.value (i64 c)) w:=by
 unfold qu at hc
 split at hc
 ·cases hc
 ·rename_i hb
  cases hc
  exact (by simp [execOp,hx,hy,i64,eqGuard,binOp,Op.intDiv,aEB,hb])
theorem R_rem {a b c:Int} {T U:TypeId} (hx:ev f x=i64 a) (hy:ev f y=i64 b) (hc:rm a b=some c):
  (execOp (ev f) ⟨some d,.binOp .rem T x y U,ty,pos,af,none⟩).run P w=.ok (.value (i64 c)) w:=by
 unfold rm at hc
 split at hc
 ·cases hc
 ·rename_i hb
  cases hc
  exact (by simp [execOp,hx,hy,i64,eqGuard,binOp,Op.intDiv,hb])
theorem eC {k:IntKind} {a b:Int} {T U:TypeId} (hx:ev f x=.int k a) (hy:ev f y=.int k b):
  (execOp (ev f) ⟨some d,.binOp .lss T x y U,ty,pos,af,none⟩).run P w=.ok (.value (.bool (decide (a < b)))) w:=
 (by simp [execOp,hx,hy,eqGuard,binOp,Op.intCmp])
theorem R_leq {k:IntKind} {a b:Int} {T U:TypeId} (hx:ev f x=.int k a) (hy:ev f y=.int k b):
  (execOp (ev f) ⟨some d,.binOp .leq T x y U,ty,pos,af,none⟩).run P w=.ok (.value (.bool (decide (a<=b)))) w:=
 (by simp [execOp,hx,hy,eqGuard,binOp,Op.intCmp])
theorem R_gtr {k:IntKind} {a b:Int} {T U:TypeId} (hx:ev f x=.int k a) (hy:ev f y=.int k b):
  (execOp (ev f) ⟨some d,.binOp .gtr T x y U,ty,pos,af,none⟩).run P w=.ok (.value (.bool (decide (b < a)))) w:=
 (by simp [execOp,hx,hy,eqGuard,binOp,Op.intCmp])
theorem aOl {k:IntKind} {a b:Int} {T U:TypeId} (hx:ev f x=.int k a) (hy:ev f y=.int k b):
  (execOp (ev f) ⟨some d,.binOp .geq T x y U,ty,pos,af,none⟩).run P w=.ok (.value (.bool (decide (b<=a)))) w:=
 (by simp [execOp,hx,hy,eqGuard,binOp,Op.intCmp])
theorem dN {k:IntKind} {a b:Int} {T U:TypeId} (hx:ev f x=.int k a) (hy:ev f y=.int k b):
  (execOp (ev f) ⟨some d,.binOp .eql T x y U,ty,pos,af,none⟩).run P w=.ok (.value (.bool (a == b))) w:=
 (by simp [execOp,hx,hy,eqGuard,binOp,Op.intCmp])
theorem sI {k:IntKind} {a b:Int} {T U:TypeId} (hx:ev f x=.int k a) (hy:ev f y=.int k b):
  (execOp (ev f) ⟨some d,.binOp .neq T x y U,ty,pos,af,none⟩).run P w=.ok (.value (.bool (a != b))) w:=
 (by simp [execOp,hx,hy,eqGuard,binOp,Op.intCmp])
theorem uT {b:Bool} {T:TypeId} (hx:ev f x=.bool b):
  (execOp (ev f) ⟨some d,.unOp .not T x,ty,pos,af,none⟩).run P w=.ok (.value (.bool (!b))) w:=
 (by simp [execOp,hx,Op.unary])
theorem R_neg {a:Int} {T:TypeId} (hx:ev f x=i64 a):
  (execOp (ev f) ⟨some d,.unOp .neg T x,ty,pos,af,none⟩).run P w=.ok (.value (i64 (wr (0 - a)))) w:=
 (by simp [execOp,hx,Op.unary,i64,Op.intArith,aEB])
theorem oI {b:Bool} {v:Value} (hb:b=true) (hx:ev f x=.bool b) (hv:ev f y=v):
  (execOp (ev f) ⟨some d,.pick x y z,ty,pos,af,none⟩).run P w=.ok (.value v) w:=by
 subst hb
 exact (by simp [execOp,hx,hv,asBool])
theorem vJ {b:Bool} {v:Value} (hb:¬ b=true) (hx:ev f x=.bool b) (hv:ev f z=v):
  (execOp (ev f) ⟨some d,.pick x y z,ty,pos,af,none⟩).run P w=.ok (.value v) w:=by
 have:b=false:=by simpa using hb
 subst this
 exact (by simp [execOp,hx,hv,asBool])
theorem iL {vs:Array Value} {i:Nat} {v:Value} (hx:ev f x=.tuple vs) (hv:vs[i]?=some v):
  (execOp (ev f) ⟨some d,.extract x i,ty,pos,af,none⟩).run P w=.ok (.value v) w:=
 (by simp [execOp,hx,Instr.extract,hv])
theorem bU {j g:Nat} {op:Op} {dst:Option Tmp} {b:Bool} (hb:b=true) (hd:(ops[j]?).bind (·.dst)=some g) (hx:f g=.bool b)
  (h:WO P n ops (⟨dst,op,ty,pos,af,none⟩::rest) Q f w):WO P n ops (⟨dst,op,ty,pos,af,some (j,true)⟩::rest) Q f w:=aMb rfl hd (by rw [hx,hb]) h
theorem kI {j g:Nat} {op:Op} {dst:Option Tmp} {b:Bool} (hb:¬ b=true) (hd:(ops[j]?).bind (·.dst)=some g) (hx:f g=.bool b)
  (h:WO P n ops (⟨dst,op,ty,pos,af,none⟩::rest) Q f w):WO P n ops (⟨dst,op,ty,pos,af,some (j,false)⟩::rest) Q f w:=aMb rfl hd (by rw [hx];simpa using hb) h
theorem kA {j g:Nat} {op:Op} {dst:Option Tmp} {b:Bool} (hb:¬ b=true) (hd:(ops[j]?).bind (·.dst)=some g) (hx:f g=.bool b)
  (h:WO P n ops rest Q (aDK f dst undef) w):WO P n ops (⟨dst,op,ty,pos,af,some (j,true)⟩::rest) Q f w:=WO_pass rfl hd hx (by cases b<;>simp_all) h
theorem aDL {j g:Nat} {op:Op} {dst:Option Tmp} {b:Bool} (hb:b=true) (hd:(ops[j]?).bind (·.dst)=some g) (hx:f g=.bool b)
  (h:WO P n ops rest Q (aDK f dst undef) w):WO P n ops (⟨dst,op,ty,pos,af,some (j,false)⟩::rest) Q f w:=WO_pass rfl hd hx (by cases b<;>simp_all) h
theorem aDM {j g:Nat} {op:Op} {dst:Option Tmp} {b':Bool} (hd:(ops[j]?).bind (·.dst)=some g) (hx:f g=undef)
  (h:WO P n ops rest Q (aDK f dst undef) w):WO P n ops (⟨dst,op,ty,pos,af,some (j,b')⟩::rest) Q f w:=aNK rfl hd hx h
theorem rJ (s:ByteArray):s.toList=s.data.toList:=Go.ByteArray.toList_eq s
theorem sJ:∀ a b:List UInt8,Op.bytesLess a b=pM a b
 |[],[]=>rfl
 |[],_::_=>rfl
 |_::_,[]=>rfl
 |a::x,b::y=>by simp only [Op.bytesLess,pM,sJ x y]
theorem R_eqlS {a b:aL} {T U:TypeId} (hx:ev f x=str a) (hy:ev f y=str b):
  (execOp (ev f) ⟨some d,.binOp .eql T x y U,ty,pos,af,none⟩).run P w=.ok (.value (.bool (a == b))) w:=
 (by simp [execOp,hx,hy,str,eqGuard,binOp,Op.stringOp,rJ])
theorem R_neqS {a b:aL} {T U:TypeId} (hx:ev f x=str a) (hy:ev f y=str b):
  (execOp (ev f) ⟨some d,.binOp .neq T x y U,ty,pos,af,none⟩).run P w=.ok (.value (.bool (!(a == b)))) w:=
 (by simp [execOp,hx,hy,str,eqGuard,binOp,Op.stringOp,rJ])
theorem R_lssS {a b:aL} {T U:TypeId} (hx:ev f x=str a) (hy:ev f y=str b):
  (execOp (ev f) ⟨some d,.binOp .lss T x y U,ty,pos,af,none⟩).run P w=.ok (.value (.bool (pM a b))) w:=
 (by simp [execOp,hx,hy,str,eqGuard,binOp,Op.stringOp,rJ,sJ])
theorem R_leqS {a b:aL} {T U:TypeId} (hx:ev f x=str a) (hy:ev f y=str b):
  (execOp (ev f) ⟨some d,.binOp .leq T x y U,ty,pos,af,none⟩).run P w=.ok (.value (.bool (pM a b||a == b))) w:=
 (by simp [execOp,hx,hy,str,eqGuard,binOp,Op.stringOp,rJ,sJ])
theorem R_gtrS {a b:aL} {T U:TypeId} (hx:ev f x=str a) (hy:ev f y=str b):
  (execOp (ev f) ⟨some d,.binOp .gtr T x y U,ty,pos,af,none⟩).run P w=.ok (.value (.bool (!(pM a b||a == b)))) w:=
 (by simp [execOp,hx,hy,str,eqGuard,binOp,Op.stringOp,rJ,sJ])
theorem R_geqS {a b:aL} {T U:TypeId} (hx:ev f x=str a) (hy:ev f y=str b):
  (execOp (ev f) ⟨some d,.binOp .geq T x y U,ty,pos,af,none⟩).run P w=.ok (.value (.bool (!pM a b))) w:=
 (by simp [execOp,hx,hy,str,eqGuard,binOp,Op.stringOp,rJ,sJ])
theorem dX {a b c:aL} {T U:TypeId} (hx:ev f x=str a) (hy:ev f y=str b) (hc:eK a b=some c):
  (execOp (ev f) ⟨some d,.binOp .add T x y U,ty,pos,af,none⟩).run P w=.ok (.value (str c)) w:=by
 obtain ⟨hl,rfl⟩:=cat_some hc
 have hsz:¬ ((((⟨⟨a⟩⟩:ByteArray).size+(⟨⟨b⟩⟩:ByteArray).size:Nat):Int) > IntKind.i64.max):=by
  simp only [ByteArray.size,List.size_toArray,IntKind.max,IntKind.bits,IntKind.signed,iK] at *
  simp;omega
 have happ:(⟨⟨a⟩⟩:ByteArray)++⟨⟨b⟩⟩=⟨⟨a++b⟩⟩:=by
  apply ByteArray.ext
  simp
 exact (by simp only [execOp,hx,hy,str,eqGuard,binOp,Op.stringOp,if_neg hsz,happ];simp)
end
end Gv
