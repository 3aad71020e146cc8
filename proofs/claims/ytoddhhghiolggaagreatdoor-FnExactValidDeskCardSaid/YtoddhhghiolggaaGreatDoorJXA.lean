/- Arrays of scalars. No program in sight. -/
import Derived.Test.YtoddhhghiolggaaGreatDoorJX
set_option linter.all false
namespace Gv
open Go
structure ART (P:Program) (T E:TypeId) (n:Nat):Prop where
 un:∀ w,(underlying T).run P w=.ok (.array n E) w
 agg:∀ w,(isAgg E).run P w=.ok false w
 size:∀ w,(Go.sizeOf E).run P w=.ok 1 w
section
variable {P:Program} {f:Nat->Value} {w:World} {d:Nat} {x y:Operand} {ty:TypeId} {pos:String} {af:Array Go.Edge}
theorem R_ixP {T E:TypeId} {n b t t':Nat} {j:Int} (hT:ART P T E n) (hx:ev f x=.pointer (some ⟨b,t,none⟩)) (hy:ev f y=i64 j) (h0:0<=j) (h1:j < (n:Int)) (hk:t+j.toNat=t'):
  (execOp (ev f) ⟨some d,.indexAddr T x y,ty,pos,af,none⟩).run P w=.ok (.value (.pointer (some ⟨b,t',none⟩))) w:=by
 subst hk
 have hj:0<=j/\j < (n:Int):=⟨h0,h1⟩
 simp [execOp,hx,hy,Instr.indexAt,i64,asIntOf,hT.un,hT.size,hj,oF,Instr.sureAddr]
end
instance:iL (Int × Int) where
 sz:=2
 enc p:=[i64 p.1,i64 p.2]
 len _:=rfl
 one _ v h:=by simp at h;rcases h with rfl|rfl<;>rfl
 pos:=by decide
instance:iL (Int × Int × Int) where
 sz:=3
 enc p:=[i64 p.1,i64 p.2.1,i64 p.2.2]
 len _:=rfl
 one _ v h:=by simp at h;rcases h with rfl|rfl|rfl<;>rfl
 pos:=by decide
end Gv
namespace Gv
open Go
section
variable {P:Program} {f:Nat->Value} {w:World} {d:Nat} {x y:Operand} {ty:TypeId} {pos:String} {af:Array Go.Edge} {β:Type} {tab:List β} {j:Int} {e:β} {g:Nat}
theorem R_ixT {T E:TypeId} {n:Nat} (hT:ART P T E n) (hl:tab.length=n) (hy:ev f y=i64 j) (hj:ix tab j=some e):
  (execOp (ev f) ⟨some d,.indexAddr T (.global g) y,ty,pos,af,none⟩).run P w=.ok (.value (.pointer (some ⟨g,j.toNat,none⟩))) w:=by
 obtain ⟨h0,h1,_⟩:=aDx hj
 exact R_ixP (t:=0) (t':=j.toNat) hT rfl hy h0 (by omega) (by omega)
theorem R_ldT {T:TypeId} {F:β->Value} (hT:SC P T) (hc:∃ E fr,w.heap[g]?=some (.cells (tab.map F).toArray E fr)) (hj:ix tab j=some e) (hx:ev f x=.pointer (some ⟨g,j.toNat,none⟩)):
  (execOp (ev f) ⟨some d,.load T x,ty,pos,af,none⟩).run P w=.ok (.value (F e)) w:=by
 obtain ⟨E,fr,hc⟩:=hc
 obtain ⟨h0,h1,h2⟩:=aDx hj
 have hw:w.cell? ⟨g,j.toNat,none⟩=some (F e):=by
  unfold World.cell?
  simp only [hc]
  simp [h2]
 simp only [execOp,hx,Sem.run_bind,aEn hT hw];simp
end
end Gv
