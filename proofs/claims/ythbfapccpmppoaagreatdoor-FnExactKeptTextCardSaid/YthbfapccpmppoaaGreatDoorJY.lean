/- Maps that a function makes. No program in sight. -/
import Derived.Test.YthbfapccpmppoaaGreatDoorJU
import Derived.Laws.IdiomMaps
set_option linter.all false
namespace Gv
open Go
class Vl (α:Type) where
 vl:α->Value
 inj:∀ a b,vl a=vl b->a=b
open Vl (vl)
instance:Vl Int:=⟨i64,fun a b h=>by simpa [i64] using h⟩
instance:Vl Bool:=⟨.bool,fun a b h=>by simpa using h⟩
instance:Vl aL:=⟨str,fun a b h=>by simpa [str] using h⟩
instance:Vl (Int × Int):=⟨fun p=>.agg #[i64 p.1,i64 p.2],fun ⟨a,b⟩ ⟨c,d⟩ h=>by simpa [i64] using h⟩
instance:Vl (Int × Int × Int):=⟨fun p=>.agg #[i64 p.1,i64 p.2.1,i64 p.2.2],fun ⟨a,b,c⟩ ⟨d,e,f⟩ h=>by simpa [i64] using h⟩
section
variable {κ ν:Type} [DecidableEq κ]
def fnd:List (κ × Value)->κ->Nat->Option (Nat × Value)
 |[],_,_=>none
 |(k',v)::l,k,i=>if k=k' then some (i,v) else fnd l k (i+1)
end
structure KeyOk (P:Program) (T:TypeId) (κ:Type) [DecidableEq κ] [Vl κ]:Prop where
 chk:∀ (b:Bool) (k:κ) w,(Instr.checkKey b 10000 T (vl k)).run P w=.ok () w
 find:∀ (k:κ) (es:List MapEntry) (kv:List (κ × Value)) w,es.map (fun e=>(e.key,e.val))=kv.map (fun p=>(vl p.1,p.2))->(Instr.findKey T (vl k) es).run P w=.ok (fnd kv k 0) w
 stays:∀ (k:κ) w,(Instr.keyThatStays (vl k) (vl k)).run P w=.ok (vl k) w
section
variable {κ ν:Type} [DecidableEq κ]
end
section
variable {κ ν:Type} [DecidableEq κ] [Vl κ] [Vl ν]
def ents (es:Array MapEntry) (kv:List (κ × ν)):Prop:=es.toList.map (fun e=>(e.key,e.val))=kv.map (fun p=>(vl p.1,vl p.2))
structure aOs (es:Array MapEntry) (c:Nat) (kv:List (κ × ν)):Prop where
 ex:∃ kv':List (κ × ν),ents es kv'/\kv'.Perm kv
 keys:(kv.map (·.1)).Nodup
 old:∀ e∈es.toList,e.born < c
 one:(es.toList.map (·.born)).Nodup
variable {P:Program} {n:Nat} {ops:Array Oper} {rest:List Oper} {Q:lI} {f:Nat->Value} {w:World}
variable {d:Nat} {x y z:Operand} {ty:TypeId} {pos:String} {af:Array Edge}
variable {G:kH} {K:Hp} {L:List eW}
theorem aOs.nil:aOs #[] 0 ([]:List (κ × ν)):=⟨⟨[],rfl,List.Perm.refl _⟩,by simp,by simp,by simp⟩
theorem aOs.len {es:Array MapEntry} {c:Nat} {kv:List (κ × ν)} (h:aOs es c kv):es.size=kv.length:=by
 obtain ⟨kv',h1,h2⟩:=h.ex
 have:=congrArg List.length h1
 rw [List.length_map,List.length_map,h2.length_eq] at this
 simpa using this
def rdM (K:Hp) (r:Nat) (kv:List (κ × ν)):Prop:=∃ (es:Array MapEntry) (c:Nat),K r=some (.map es c)/\aOs es c kv
theorem rdM.mono {K K':Hp} {r:Nat} {kv:List (κ × ν)} (h:K.le K') (m:rdM K r kv):rdM K' r kv:=let ⟨es,c,a,b⟩:=m;⟨es,c,h _ _ a,b⟩
end
end Gv
