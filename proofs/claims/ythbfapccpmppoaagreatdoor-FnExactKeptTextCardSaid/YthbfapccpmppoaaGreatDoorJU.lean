/- Regions that draw their order in which several operations act: each order that may come is walked. No program in sight. -/
import Derived.Test.YthbfapccpmppoaaGreatDoorJQ
set_option linter.all false
namespace Gv
open Go
section
variable {P:Program} {n:Nat} {C:World->Prop} {Q:lI} {f:Nat->Value} {w:World}
structure WA (P:Program) (n:Nat) (ops:Array Oper) (C:World->Prop) (bs:List Nat) (R:(Nat->Value)->World->Prop) (m:Nat) (listed:Array Bool) (f:Nat->Value) (w:World):Prop where
 go:ops.all (fun o=>oko n o&&okg n ops o.guard)=true->Region.noSelect ops=true->aFX P .any ops C (fun j=>bs.contains j) (fun a w=>∃ f,a=act n f/\R f w) m listed (act n f) w
variable {R:(Nat->Value)->World->Prop} {bs:List Nat} {m:Nat} {listed:Array Bool} {os:List Oper}
theorem aDO {id:Nat} {os:List Oper} (bs:List Nat) (hm:P.follows .mixedOrders=true) (hB:Region.noSelect os.toArray=true)
  (h:∀ w',eI w w'->WA P n os.toArray C bs (fun f w=>Q .normal f w) os.toArray.size (Array.replicate os.toArray.size false) f w'):W P n (.region id os.toArray true) Q f w:=by
 refine ⟨fun ok=>?_⟩
 have ok':os.toArray.all (fun o=>oko n o&&okg n os.toArray o.guard)=true:=by simpa [okc] using ok
 have:=wp_region_any (id:=id) hm (aIf ((h _ (eI.drew w)).go ok' hB))
 refine Code.wp_mono ?_ this
 intro e a w h
 cases e<;>first|exact h|exact h.elim
theorem vN (hr:Region.ready .any os.toArray listed=[]) (h:R f w):WA P n os.toArray C bs R 0 listed f w:=⟨fun _ _=>⟨hr,f,rfl,h⟩⟩
def lookB (ops:Array Oper) (bs:List Nat) (listed:Array Bool) (i:Nat):Bool:=
 (Region.ready .any ops listed).contains i&&Region.free .any ops listed i&&!bs.contains i&&bs.all (fun j=>match ops[j]? with|some o=>o.after.any fun e=>Region.binds .any e&&e.on == i|none=>true)
theorem WA_first {i:Nat} {oi:Oper} {v:Value} (hi:aED os i=some oi) (hB:lookB os.toArray bs listed i=true) (hC:C w) (hy:(os.toArray.all (fun o=>oko n o&&okg n os.toArray o.guard)=true)->lN P os.toArray C oi v (act n f))
  (h:WA P n os.toArray C bs R m (listed.setIfInBounds i true) (aDK f oi.dst v) w):WA P n os.toArray C bs R (m+1) listed f w:=by
 rw [aCS] at hi
 simp only [lookB,Bool.and_eq_true] at hB
 obtain ⟨⟨⟨hr,hf⟩,hnb⟩,hall⟩:=hB
 refine ⟨fun ok hs=>aIU hi (Region.noSelect_spec hs) (fun j oj hoj hb=>?_) (by simpa using hnb) m listed _ w hC (Region.free_spec hi hf) (by simpa using hr) (hy ok) (by rw [tU];exact h.go ok hs)⟩
 have:=(List.all_eq_true.1 hall) j (by simpa using hb)
 rw [hoj] at this
 obtain ⟨e,he,hb⟩:=Array.any_eq_true'.1 this
 simp only [Bool.and_eq_true,beq_iff_eq] at hb
 exact ⟨e,he,hb.1,hb.2⟩
theorem eO {i d:Nat} {op:Op} {ty:TypeId} {pos:String} {af:Array Edge} {v:Value} (hi:aED os i=some ⟨some d,op,ty,pos,af,none⟩) (hB:lookB os.toArray bs listed i=true) (hC:C w) (hr:∀ w,C w->(execOp (ev f) ⟨some d,op,ty,pos,af,none⟩).run P w=.ok (.value v) w)
  (h:WA P n os.toArray C bs R m (listed.setIfInBounds i true) (upd f d v) w):WA P n os.toArray C bs R (m+1) listed f w:=by
 refine WA_first hi hB hC (fun ok=>.inl ⟨by simp [Region.wanted],fun w hw=>?_⟩) h
 rw [aCS] at hi
 rw [qG (ok_of hi ok).1];exact hr w hw
def WAone (P:Program) (n:Nat) (os:List Oper) (C:World->Prop) (bs:List Nat) (R:(Nat->Value)->World->Prop) (m:Nat) (listed:Array Bool) (f:Nat->Value) (w:World) (i:Nat):Prop:=
 ∃ o,aED os i=some o/\WO P n os.toArray [o] (sA (fun f w=>(bs.contains i=false->C w)/\WA P n os.toArray C bs R m (listed.setIfInBounds i true) f w) fun _ _ _=>False) f w
def allOf (p:Nat->Prop):List Nat->Prop
 |[]=>True
 |i::l=>p i/\allOf p l
theorem aOr {p:Nat->Prop}:∀ {l:List Nat} {i:Nat},allOf p l->i∈l->p i
 |_::_,_,h,.head _=>h.1
 |_::_,_,h,.tail _ m=>aOr h.2 m
theorem WA_act (l:List Nat) (hr:Region.ready .any os.toArray listed=l) (hne:l.isEmpty=false) (h:allOf (WAone P n os C bs R m listed f w) l):WA P n os.toArray C bs R (m+1) listed f w:=by
 refine ⟨fun ok hs=>⟨fun h0=>?_,fun i hi=>?_⟩⟩
 ·rw [h0] at hr;subst hr;cases hne
 ·rw [hr] at hi
  obtain ⟨o,ho,hW⟩:=aOr h hi
  rw [aCS] at ho
  refine wpOp_mono ?_ (aIg ho hW ok)
  rintro a w ⟨f',rfl,hC,hE⟩
  exact ⟨fun hb _=>hC hb,hE.go ok hs⟩
variable {i j k:Nat} {oi oj ok':Oper}
abbrev WAgo (P:Program) (n:Nat) (os:List Oper) (C:World->Prop) (bs:List Nat) (R:(Nat->Value)->World->Prop) (m:Nat) (listed:Array Bool) (i:Nat):lI:=
 sA (fun f w=>(bs.contains i=false->C w)/\WA P n os.toArray C bs R m (listed.setIfInBounds i true) f w) fun _ _ _=>False
theorem iB (hr:Region.ready .any os.toArray listed=[i]) (hi:aED os i=some oi) (h1:WO P n os.toArray [oi] (WAgo P n os C bs R m listed i) f w):WA P n os.toArray C bs R (m+1) listed f w:=
 WA_act [i] hr rfl ⟨⟨oi,hi,h1⟩,trivial⟩
theorem aGR (hr:Region.ready .any os.toArray listed=[i,j]) (hi:aED os i=some oi) (hj:aED os j=some oj) (h1:WO P n os.toArray [oi] (WAgo P n os C bs R m listed i) f w) (h2:WO P n os.toArray [oj] (WAgo P n os C bs R m listed j) f w):WA P n os.toArray C bs R (m+1) listed f w:=
 WA_act [i,j] hr rfl ⟨⟨oi,hi,h1⟩,⟨oj,hj,h2⟩,trivial⟩
end
end Gv
