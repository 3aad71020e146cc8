/- Arrays of scalars. No program in sight. -/
import Derived.Test.YtkcggmmjnpdgnaaGreatDoorJX
set_option linter.all false
namespace Gv
open Go
structure ART (P:Program) (T E:TypeId) (n:Nat):Prop where
 un:∀ w,(underlying T).run P w=.ok (.array n E) w
 agg:∀ w,(isAgg E).run P w=.ok false w
 size:∀ w,(Go.sizeOf E).run P w=.ok 1 w
section
variable {P:Program} {f:Nat->Value} {w:World} {d:Nat} {x y:Operand} {ty:TypeId} {pos:String} {af:Array Go.Edge}
theorem aNQ {T E:TypeId} {n:Nat} {zs cs:List Value} {ps:Array (Nat × Operand)} {vs:List (Nat × Value)} (hT:ART P T E n) (hz:∃ z,(∀ w,(zeroValue T).run P w=.ok z w)/\z.cells=zs.toArray)
  (hp:ps.toList.map (fun p=>(p.1,ev f p.2))=vs) (hf:Instr.fill (fun i=>some (i * 1,1)) zs.toArray vs=some cs.toArray):
  (execOp (ev f) ⟨some d,.build T ps,ty,pos,af,none⟩).run P w=.ok (.value (.agg cs.toArray)) w:=by
 obtain ⟨zv,hz,hzc⟩:=hz
 have hp:(ps.map fun (i,x)=>(i,ev f x)).toList=vs:=by rw [Array.toList_map];exact hp
 simp only [execOp,Instr.build,Sem.run_bind,hz,Result.andThen_ok,hT.un,hT.size,hp,hzc]
 rw [hf]
 simp
theorem R_ixP {T E:TypeId} {n b t t':Nat} {j:Int} (hT:ART P T E n) (hx:ev f x=.pointer (some ⟨b,t,none⟩)) (hy:ev f y=i64 j) (h0:0<=j) (h1:j < (n:Int)) (hk:t+j.toNat=t'):
  (execOp (ev f) ⟨some d,.indexAddr T x y,ty,pos,af,none⟩).run P w=.ok (.value (.pointer (some ⟨b,t',none⟩))) w:=by
 subst hk
 have hj:0<=j/\j < (n:Int):=⟨h0,h1⟩
 simp [execOp,hx,hy,Instr.indexAt,i64,asIntOf,hT.un,hT.size,hj,nW,Instr.sureAddr]
end
instance:gH (Int × Int) where
 sz:=2
 enc p:=[i64 p.1,i64 p.2]
 len _:=rfl
 one _ v h:=by simp at h;rcases h with rfl|rfl<;>rfl
 pos:=by decide
instance:gH (Int × Int × Int) where
 sz:=3
 enc p:=[i64 p.1,i64 p.2.1,i64 p.2.2]
 len _:=rfl
 one _ v h:=by simp at h;rcases h with rfl|rfl|rfl<;>rfl
 pos:=by decide
end Gv
