/- A system is explored: what both sides do, whatever the states are. -/
import Derived.Test.YtiipffjapfalhaaGreatDoorJP327
import Derived.Test.YtiipffjapfalhaaGreatDoorJP90
import Derived.Test.YtiipffjapfalhaaGreatDoorJLW
set_option linter.all false
namespace Gv
open Go
theorem aLV {ν:Type} {k q:aO} {v:ν}:∀ {m:List (aO × ν)},iQ (rY m k v) q=if q=k then some v else iQ m q
 |[]=>by simp [rY,iQ]
 |(x,u)::m=>by
  have ih:=aLV (k:=k) (q:=q) (v:=v) (m:=m)
  unfold rY
  by_cases e:k=x
  ·subst e
   rw [if_pos rfl,iQ,iQ]
   by_cases h:q=k
   ·rw [if_pos h,if_pos h]
   ·rw [if_neg h,if_neg h,if_neg h]
  ·rw [if_neg e,iQ,iQ,ih]
   by_cases h:q=x
   ·subst h
    rw [if_pos rfl,if_neg (fun h=>e h.symm),if_pos rfl]
   ·rw [if_neg h,if_neg h]
def whr {β:Type} [DecidableEq β] (x:List β) (p:β):Option Nat:=x.findIdx? fun y=>decide (y=p)
section
variable {β:Type} [DecidableEq β]
theorem aVA {x:List β} {p:β} {i:Nat} (h:whr x p=some i):x[i]?=some p:=by
 unfold whr at h
 obtain ⟨h1,h2,_⟩:=List.findIdx?_eq_some_iff_getElem.1 h
 rw [List.getElem?_eq_getElem h1]
 simpa using h2
theorem aGS {x:List β} {p:β}:whr x p=none<->p∉x:=by
 unfold whr
 rw [List.findIdx?_eq_none_iff]
 constructor
 ·intro h hp
  have:=h p hp
  simp at this
 ·intro h y hy
  have:y≠p:=fun e=>h (e ▸ hy)
  simp [this]
theorem whr_app (x:List β) (p q:β):whr (x++[q]) p=match whr x p with|some i=>some i|none=>if q=p then some x.length else none:=by
 unfold whr
 rw [List.findIdx?_append]
 cases h:x.findIdx? fun y=>decide (y=p) with
 |some i=>rfl
 |none=>by_cases e:q=p<;>simp [e,List.findIdx?_cons]
def qS (x:List β) (p:β):Nat:=match whr x p with|some i=>i|none=>x.length
theorem numU_at (x:List β) (p:β):(dP x p)[qS x p]?=some p:=by
 unfold qS dP
 cases h:whr x p with
 |some i=>rw [if_pos (by rw [←Decidable.not_not (p:=p∈x),←aGS,h];simp)];exact aVA h
 |none=>rw [if_neg (aGS.1 h)];simp
end
section
variable {l:List Definition} (hD:lQ l)
include hD
end
end Gv
namespace Gv
open Go
structure Inn (l:List Definition) (i:Nat) (X:List bR) (x:List GPoint) (A:List lS):Prop where
 g:∀ p∈x,PtG l p
 ar:∀ a∈A,∃ f t:Nat,a.from_=(f:Int)/\a.to_=(t:Int)/\f<=i/\t < x.length/\∃ nm vs,rW nm vs/\a.label=lab nm vs
 cur:∀ a∈A,a.from_=(i:Int)->∃ y∈X,y.B=a.label/\x[a.to_.toNat]?=some y.Next
 nd:A.Nodup
section
variable {l:List Definition} (hD:lQ l)
include hD
end
structure OutI (l:List Definition) (i:Nat) (x:List GPoint) (A:List lS):Prop where
 g:∀ p∈x,PtG l p
 ar:∀ a∈A,∃ f t:Nat,a.from_=(f:Int)/\a.to_=(t:Int)/\f < i/\t < x.length/\∃ nm vs,rW nm vs/\a.label=lab nm vs
 nd:A.Nodup
 le:i<=x.length
end Gv
namespace Gv
open Go
theorem lts_arc {st ini:Int} {labels M:List aO} {arcs:List lS} (hM:pR M) (hm:∀ s,s∈M<->s∈labels/\s≠cF) (h1:labels.length < 100000000) (h2:arcs.length < 100000000) (h3:M.length < 1000000):
  aRX st ini labels arcs=some ⟨st,ini,cF::M,kD (srt dC (arcs.map fun a=>(⟨a.from_,pos (cF::M) a.label,a.to_⟩:Edge)))⟩:=by
 unfold aRX
 rw [show ([116,97,117]:aO)=cF from rfl,eO (by simp [gN];omega),aA]
 have e1:aGk ([cF]++labels)=some (srt aBg ([cF]++labels)):=by unfold aGk;rw [if_pos (by simp [gN];omega)]
 rw [e1,aA,aUN _ (by unfold srt;rw [List.length_mergeSort];simp;omega),aA]
 rw [srt_dedup aBg aSe aUH aOa hM.lab (fun x=>?_)]
 ·rw [qO (step:=fun s:List Edge × Int=>aJh arcs (cF::M) s.1 s.2) arcs (fun a=>(⟨a.from_,pos (cF::M) a.label,a.to_⟩:Edge)) id (fun k out x hk ho hx=>?_) (fun out=>by simp only [aJh,bO];rfl),aA]
  ·unfold aMI
   have e2:aEr (id (arcs.map fun a=>(⟨a.from_,pos (cF::M) a.label,a.to_⟩:Edge)))=some (srt dC (arcs.map fun a=>(⟨a.from_,pos (cF::M) a.label,a.to_⟩:Edge))):=by
    unfold aEr;rw [if_pos (by simp [gN];omega)];rfl
   rw [e2,aA,aRy _ (by unfold srt;rw [List.length_mergeSort,List.length_map];omega),aA]
  ·simp only [aJh,bL hk,if_pos,hx,aA,aSb _ _ (show (cF::M).length < 4611686018427387904 by simp;omega),bI hk (show arcs.length < 4611686018427387904 by omega)]
   rw [eO (by simp [gN];omega),aA]
 ·by_cases e:x=cF
  ·subst e;simp
  ·simp [e,hm x]
theorem pos_injG {xs:List aO} {a b:aO} (ha:a∈xs) (hb:b∈xs) (h:pos xs a=pos xs b):a=b:=by
 obtain ⟨i,hi,h1,h2⟩:=mY ha
 obtain ⟨j,hj,h3,h4⟩:=mY hb
 rw [h1,h3] at h
 have:i=j:=by omega
 subst this
 rw [←h2,h4]
theorem labelsOfG {arcs:List lS} (h:arcs.length < 2000000):aBz arcs=some (arcs.map (·.label)):=aUO h
end Gv
namespace Gv
open Go
theorem aVB {β:Type} [DecidableEq β] {l:List β} {x y:β}:y∈dP l x<->y∈l\/y=x:=by
 unfold dP
 split
 ·rename_i h
  exact ⟨.inl,fun g=>g.elim id (fun e=>e ▸ h)⟩
 ·simp
theorem addU_of {β:Type} [DecidableEq β] {l:List β} {x:β} (h:x∈l):dP l x=l:=if_pos h
theorem aVC {β:Type} [DecidableEq β] {l:List β} {x:β} (h:x∉l):dP l x=l++[x]:=if_neg h
theorem aOu {β:Type} [DecidableEq β] {y:β}:∀ (xs l:List β),y∈xs.foldl dP l<->y∈l\/y∈xs
 |[],l=>by simp
 |x::xs,l=>by
  rw [List.foldl_cons,aOu xs,aVB,List.mem_cons,or_assoc]
theorem aJV {β:Type} [DecidableEq β]:∀ (xs:List β) {l:List β},l.Nodup->(xs.foldl dP l).Nodup
 |[],_,h=>h
 |x::xs,_,h=>aJV xs (aLT h)
theorem pos_addU {T:List aO} {s u:aO} (h:s∈T):pos (dP T u) s=pos T s:=by
 have hs:s∈dP T u:=aVB.2 (.inl h)
 obtain ⟨i,hi,h1,h2⟩:=mY h
 obtain ⟨j,hj,h3,h4⟩:=mY hs
 unfold dP at *
 split
 ·rfl
 ·rename_i hu
  rw [if_neg hu] at *
  unfold pos
  rw [List.findIdx?_append]
  have:T.findIdx? (fun x=>s == x)≠none:=by
   rw [Ne,List.findIdx?_eq_none_iff]
   intro hn
   have:=hn s h
   simp at this
  cases hf:T.findIdx? (fun x=>s == x) with
  |none=>exact absurd hf this
  |some k=>rfl
section
variable {β:Type} [DecidableEq β]
def aIt (ok:β->Prop) (key:β->aO) (x:List β) (M:List (aO × Int)):Prop:=∀ p,ok p->iQ M (key p)=(whr x p).map fun i=>(i:Int)
theorem numK_put {ok:β->Prop} {key:β->aO} (hk:∀ p q,ok p->ok q->key p=key q->p=q) {x:List β} {M:List (aO × Int)} {p:β} (h:aIt ok key x M) (hp:ok p) (hn:whr x p=none):aIt ok key (x++[p]) (rY M (key p) (x.length:Int)):=by
 intro q hq
 rw [aLV,whr_app,h q hq]
 by_cases e:key q=key p
 ·have:=hk _ _ hq hp e
  subst this
  rw [if_pos rfl,hn];simp
 ·have hne:p≠q:=fun h=>e (by rw [h])
  rw [if_neg e,if_neg hne]
  cases whr x q<;>rfl
def goS (i:Int):List (aO × β)->List β × List lS->List β × List lS
 |[],q=>q
 |y::ys,q=>goS i ys (dP q.1 y.2,q.2++[⟨i,y.1,(qS q.1 y.2:Int)⟩])
theorem numU_lt (x:List β) (p:β):qS x p < (dP x p).length:=(List.getElem?_eq_some_iff.1 (numU_at x p)).1
theorem addU_pre (x:List β) (p:β):x <+:dP x p:=by
 unfold dP;split
 ·exact List.prefix_refl _
 ·exact List.prefix_append _ _
theorem aTP {i:Int}:∀ (Y:List (aO × β)) (q:List β × List lS),q.1 <+:(goS i Y q).1/\q.2 <+:(goS i Y q).2
 |[],q=>⟨List.prefix_refl _,List.prefix_refl _⟩
 |y::ys,q=>by
  obtain ⟨h1,h2⟩:=aTP ys (dP q.1 y.2,q.2++[⟨i,y.1,(qS q.1 y.2:Int)⟩])
  exact ⟨(addU_pre _ _).trans h1,(List.prefix_append _ _).trans h2⟩
theorem goS_len {i:Int}:∀ (Y:List (aO × β)) (q:List β × List lS),(goS i Y q).1.length<=q.1.length+Y.length/\(goS i Y q).2.length=q.2.length+Y.length
 |[],q=>⟨Nat.le_refl _,rfl⟩
 |y::ys,q=>by
  obtain ⟨h1,h2⟩:=goS_len (i:=i) ys (dP q.1 y.2,q.2++[⟨i,y.1,(qS q.1 y.2:Int)⟩])
  have:=(xM q.1 y.2).2
  simp only [List.length_append,List.length_cons,List.length_nil] at h1 h2 ⊢
  unfold goS
  omega
structure Fnd (ok:β->Prop) (P:aO->Prop) (i:Nat) (q:List β × List lS):Prop where
 g:∀ p∈q.1,ok p
 nd:q.1.Nodup
 ar:∀ a∈q.2,∃ f t:Nat,a.from_=(f:Int)/\a.to_=(t:Int)/\f < i/\t < q.1.length/\P a.label
theorem Fnd.mono {ok:β->Prop} {P:aO->Prop} {i j:Nat} {q:List β × List lS} (h:Fnd ok P i q) (hij:i<=j):Fnd ok P j q:=
 ⟨h.g,h.nd,fun a ha=>by obtain ⟨f,t,h1,h2,h3,h4⟩:=h.ar a ha;exact ⟨f,t,h1,h2,by omega,h4⟩⟩
theorem fnd_add {ok:β->Prop} {P:aO->Prop} {i:Nat} {q:List β × List lS} {y:aO × β} (h:Fnd ok P (i+1) q) (hy:P y.1/\ok y.2):Fnd ok P (i+1) (dP q.1 y.2,q.2++[⟨(i:Int),y.1,(qS q.1 y.2:Int)⟩]):=by
 refine ⟨aFc h.g hy.2,aLT h.nd,fun a ha=>?_⟩
 have hl:=xM q.1 y.2
 rcases List.mem_append.1 ha with ha|ha
 ·obtain ⟨f,t,h1,h2,h3,h4,h5⟩:=h.ar a ha
  exact ⟨f,t,h1,h2,h3,by simp only;omega,h5⟩
 ·rw [List.mem_singleton.1 ha]
  exact ⟨i,qS q.1 y.2,rfl,rfl,by omega,numU_lt _ _,hy.1⟩
theorem fnd_go {ok:β->Prop} {P:aO->Prop} {i:Nat}:∀ (Y:List (aO × β)) {q:List β × List lS},Fnd ok P (i+1) q->(∀ y∈Y,P y.1/\ok y.2)->Fnd ok P (i+1) (goS (i:Int) Y q)
 |[],_,h,_=>h
 |y::ys,_,h,hY=>fnd_go ys (fnd_add h (hY y (by simp))) fun z hz=>hY z (List.mem_cons_of_mem _ hz)
end
def zY (A:List lS):List aO:=(A.map (·.label)).foldl dP [cF]
def edT (T:List aO) (a:lS):Edge:=⟨a.from_,pos T a.label,a.to_⟩
def edA (A:List lS):List Edge:=(A.map (edT (zY A))).foldl dP []
theorem aTQ (A:List lS) (a:lS):zY (A++[a])=dP (zY A) a.label:=by unfold zY;simp
theorem aDX {A:List lS} {s:aO}:s∈zY A<->s=cF\/s∈A.map (·.label):=by unfold zY;rw [aOu];simp
theorem aSx (A:List lS):(zY A).Nodup:=aJV _ (by simp)
theorem edA_app (A:List lS) (a:lS):edA (A++[a])=dP (edA A) (edT (dP (zY A) a.label) a):=by
 unfold edA
 rw [aTQ,List.map_append,List.foldl_append]
 have:A.map (edT (dP (zY A) a.label))=A.map (edT (zY A)):=by
  apply List.map_congr_left
  intro b hb
  unfold edT
  rw [pos_addU (aDX.2 (.inr (List.mem_map_of_mem hb)))]
 rw [this];rfl
theorem aFR {A:List lS} {e:Edge}:e∈edA A<->∃ a∈A,edT (zY A) a=e:=by unfold edA;rw [aOu];simp
theorem aSy (A:List lS):(edA A).Nodup:=aJV _ (by simp)
theorem edA_len (A:List lS):(edA A).length<=A.length:=by
 have:=List.Nodup.length_le_of_subset (aSy A) (l₂:=A.map (edT (zY A))) (fun x hx=>by
  obtain ⟨a,h1,h2⟩:=aFR.1 hx
  exact List.mem_map.2 ⟨a,h1,h2⟩)
 simpa using this
theorem txA_len (A:List lS):(zY A).length<=A.length+1:=by
 have:=List.Nodup.length_le_of_subset (aSx A) (l₂:=cF::A.map (·.label)) (fun x hx=>by
  rcases aDX.1 hx with h|h
  ·simp [h]
  ·exact List.mem_cons_of_mem _ h)
 simpa using this
theorem tx_mono:∀ (B A:List lS),(zY A).length<=(zY (A++B)).length/\(edA A).length<=(edA (A++B)).length
 |[],A=>by simp
 |b::B,A=>by
  have h:=tx_mono B (A++[b])
  rw [List.append_assoc,List.singleton_append] at h
  have h1:=(xM (zY A) b.label).1
  have h2:=(xM (edA A) (edT (dP (zY A) b.label) b)).1
  rw [←aTQ] at h1
  rw [←edA_app] at h2
  omega
def bdB {β:Type} (q:List β × List lS):Bool:=decide (q.1.length<=40)&&decide ((zY q.2).length<=12)&&decide ((edA q.2).length<=300)
theorem aDY {β:Type} {q:List β × List lS}:bdB q=true<->q.1.length<=40/\(zY q.2).length<=12/\(edA q.2).length<=300:=by unfold bdB;simp [and_assoc]
theorem bd_pre {β:Type} {q r:List β × List lS} (h1:q.1 <+:r.1) (h2:q.2 <+:r.2) (h:bdB q=false):bdB r=false:=by
 cases hr:bdB r with
 |false=>rfl
 |true=>
  obtain ⟨a,b,c⟩:=aDY.1 hr
  obtain ⟨B,hB⟩:=h2
  have:=tx_mono B q.2
  rw [hB] at this
  have h1:=h1.length_le
  rw [←Bool.not_eq_true,aDY] at h
  omega
section
variable {β:Type} [DecidableEq β] {ok:β->Prop} {key:β->aO} {P:aO->Prop}
theorem inP {pin:(List β × List (aO × Int) × List lS × Int)->Option ((List β × List (aO × Int) × List lS × Int) ⊕ (List β × List (aO × Int) × List lS))} {Y:List (aO × β)} {i:Int}
  (h1:∀ (k:Nat) (x:List β) (M:List (aO × Int)) (A:List lS) (hk:k < Y.length),aIt ok key x M->x.length < 100000000->A.length < 100000000->∃ M',pin (x,M,A,(k:Int))=some (.inl (dP x Y[k].2,M',A++[⟨i,Y[k].1,(qS x Y[k].2:Int)⟩],((k+1:Nat):Int)))/\aIt ok key (dP x Y[k].2) M')
  (h2:∀ x M A,pin (x,M,A,(Y.length:Int))=some (.inr (x,M,A))):
  ∀ (j k:Nat) (x:List β) (M:List (aO × Int)) (A:List lS),k+j=Y.length->aIt ok key x M->x.length+j<=50000000->A.length+j<=50000000->
   ∃ M',loop pin (x,M,A,(k:Int))=some ((goS i (Y.drop k) (x,A)).1,M',(goS i (Y.drop k) (x,A)).2)/\aIt ok key (goS i (Y.drop k) (x,A)).1 M'
 |0,k,x,M,A,hk,hN,_,_=>by
  obtain rfl:k=Y.length:=by omega
  refine ⟨M,?_,?_⟩
  ·rw [List.drop_length];exact cQ (h2 x M A)
  ·rw [List.drop_length];exact hN
 |j+1,k,x,M,A,hk,hN,hx,hA=>by
  have hkY:k < Y.length:=by omega
  obtain ⟨M1,e1,e2⟩:=h1 k x M A hkY hN (by omega) (by omega)
  have:=(xM x Y[k].2).2
  obtain ⟨M',e3,e4⟩:=inP h1 h2 j (k+1) (dP x Y[k].2) M1 (A++[⟨i,Y[k].1,(qS x Y[k].2:Int)⟩]) (by omega) e2 (by omega) (by simp;omega)
  refine ⟨M',?_,?_⟩
  ·rw [iV e1,e3,List.drop_eq_getElem_cons hkY];rfl
  ·rw [List.drop_eq_getElem_cons hkY];exact e4
theorem inR {ρ:Type} {fail:ρ} {rin:(List β × List aO × List Edge × Int)->Option ((List β × List aO × List Edge × Int) ⊕ ((List β × List aO × List Edge) ⊕ ρ))} {Y:List (aO × β)} {i:Nat} (hY:∀ y∈Y,P y.1/\ok y.2)
  (h1:∀ (k:Nat) (x:List β) (T:List aO) (E:List Edge) (hk:k < Y.length),(∀ p∈x,ok p)->x.Nodup->x.length<=40->T.length<=12->E.length<=300->
   rin (x,T,E,(k:Int))=some (if 40 < (dP x Y[k].2).length\/12 < (dP T Y[k].1).length\/300 < (dP E ⟨(i:Int),pos (dP T Y[k].1) Y[k].1,(qS x Y[k].2:Int)⟩).length then .inr (.inr fail) else .inl (dP x Y[k].2,dP T Y[k].1,dP E ⟨(i:Int),pos (dP T Y[k].1) Y[k].1,(qS x Y[k].2:Int)⟩,((k+1:Nat):Int))))
  (h2:∀ x T E,rin (x,T,E,(Y.length:Int))=some (.inr (.inl (x,T,E)))):
  ∀ (j k:Nat) (q:List β × List lS),k+j=Y.length->Fnd ok P (i+1) q->bdB q=true->
   loop rin (q.1,zY q.2,edA q.2,(k:Int))=some (if bdB (goS (i:Int) (Y.drop k) q)=true then .inl ((goS (i:Int) (Y.drop k) q).1,zY (goS (i:Int) (Y.drop k) q).2,edA (goS (i:Int) (Y.drop k) q).2) else .inr fail)
 |0,k,q,hk,hF,hb=>by
  obtain rfl:k=Y.length:=by omega
  rw [List.drop_length]
  unfold goS
  rw [if_pos hb]
  exact cQ (h2 _ _ _)
 |j+1,k,q,hk,hF,hb=>by
  have hkY:k < Y.length:=by omega
  obtain ⟨b1,b2,b3⟩:=aDY.1 hb
  have hs:=h1 k q.1 (zY q.2) (edA q.2) hkY hF.g hF.nd b1 b2 b3
  have hF':=fnd_add (y:=Y[k]) hF (hY _ (List.getElem_mem hkY))
  have hT:dP (zY q.2) Y[k].1=zY (q.2++[⟨(i:Int),Y[k].1,(qS q.1 Y[k].2:Int)⟩]):=by rw [aTQ]
  have hE:dP (edA q.2) ⟨(i:Int),pos (dP (zY q.2) Y[k].1) Y[k].1,(qS q.1 Y[k].2:Int)⟩=edA (q.2++[⟨(i:Int),Y[k].1,(qS q.1 Y[k].2:Int)⟩]):=by rw [edA_app];rfl
  have hgo:goS (i:Int) (Y.drop k) q=goS (i:Int) (Y.drop (k+1)) (dP q.1 Y[k].2,q.2++[⟨(i:Int),Y[k].1,(qS q.1 Y[k].2:Int)⟩]):=by rw [List.drop_eq_getElem_cons hkY];rfl
  rw [hE,hT] at hs
  rw [hgo]
  by_cases hb':bdB (dP q.1 Y[k].2,q.2++[(⟨(i:Int),Y[k].1,(qS q.1 Y[k].2:Int)⟩:lS)])=true
  ·obtain ⟨c1,c2,c3⟩:=aDY.1 hb'
   simp only at c1 c2 c3
   rw [if_neg (by omega)] at hs
   rw [iV hs]
   exact inR hY h1 h2 j (k+1) (dP q.1 Y[k].2,q.2++[⟨(i:Int),Y[k].1,(qS q.1 Y[k].2:Int)⟩]) (by omega) hF' hb'
  ·have hb2:=hb'
   rw [aDY] at hb2
   simp only at hb2
   rw [if_pos (by omega)] at hs
   rw [cQ hs]
   have hpre:=aTP (i:=(i:Int)) (Y.drop (k+1)) (dP q.1 Y[k].2,q.2++[⟨(i:Int),Y[k].1,(qS q.1 Y[k].2:Int)⟩])
   rw [Bool.not_eq_true] at hb'
   rw [bd_pre hpre.1 hpre.2 hb',if_neg (by simp)]
def endP {ρ:Type} (failP:ρ) (M':List (aO × Int)):Option (List β × List lS)->(List β × List (aO × Int) × List lS) ⊕ ρ
 |none=>.inr failP
 |some q=>.inl (q.1,M',q.2)
def endR {ρ:Type} (failR:ρ):Option (List β × List lS)->(List β × List aO × List Edge) ⊕ ρ
 |none=>.inr failR
 |some z=>if bdB z=true then .inl (z.1,zY z.2,edA z.2) else .inr failR
theorem outS {mv:β->Option (List (aO × β))} {ρ ρ':Type} {failP:ρ} {failR:ρ'}
  {op:(List β × List (aO × Int) × List lS × Int)->Option ((List β × List (aO × Int) × List lS × Int) ⊕ ((List β × List (aO × Int) × List lS) ⊕ ρ))}
  {ro:(List β × List aO × List Edge × Int)->Option ((List β × List aO × List Edge × Int) ⊕ ((List β × List aO × List Edge) ⊕ ρ'))}
  (hmv:∀ p,ok p->∀ Y,mv p=some Y->Y.length<=200/\∀ y∈Y,P y.1/\ok y.2)
  (p1:∀ (i:Nat) (x:List β) (M:List (aO × Int)) (A:List lS) (hi:i < x.length) Y,ok x[i]->mv x[i]=some Y->aIt ok key x M->x.length<=40->A.length<=10000->∃ M',op (x,M,A,(i:Int))=some (if 40 < (goS (i:Int) Y (x,A)).1.length then .inr (.inr failP) else .inl ((goS (i:Int) Y (x,A)).1,M',(goS (i:Int) Y (x,A)).2,((i+1:Nat):Int)))/\aIt ok key (goS (i:Int) Y (x,A)).1 M')
  (p2:∀ (i:Nat) (x:List β) (M:List (aO × Int)) (A:List lS) (hi:i < x.length),ok x[i]->mv x[i]=none->aIt ok key x M->x.length<=40->A.length<=10000->op (x,M,A,(i:Int))=some (.inr (.inr failP)))
  (p3:∀ x M A,op (x,M,A,(x.length:Int))=some (.inr (.inl (x,M,A))))
  (r1:∀ (i:Nat) (q:List β × List lS) (hi:i < q.1.length) Y,ok q.1[i]->mv q.1[i]=some Y->Fnd ok P (i+1) q->bdB q=true->ro (q.1,zY q.2,edA q.2,(i:Int))=some (if bdB (goS (i:Int) Y q)=true then .inl ((goS (i:Int) Y q).1,zY (goS (i:Int) Y q).2,edA (goS (i:Int) Y q).2,((i+1:Nat):Int)) else .inr (.inr failR)))
  (r2:∀ (i:Nat) (q:List β × List lS) (hi:i < q.1.length),ok q.1[i]->mv q.1[i]=none->bdB q=true->ro (q.1,zY q.2,edA q.2,(i:Int))=some (.inr (.inr failR)))
  (r3:∀ x T E,ro (x,T,E,(x.length:Int))=some (.inr (.inl (x,T,E)))):
  ∀ (j i:Nat) (q:List β × List lS) (M:List (aO × Int)),i+j=41->i<=q.1.length->Fnd ok P i q->aIt ok key q.1 M->q.2.length<=200 * i->q.1.length<=40->
   ∃ r:Option (List β × List lS),(∃ M',loop op (q.1,M,q.2,(i:Int))=some (endP failP M' r))/\
    (∀ z,r=some z->Fnd ok P z.1.length z/\z.1.length<=40/\z.2.length<=8200/\q.1 <+:z.1)/\
    (bdB q=true->loop ro (q.1,zY q.2,edA q.2,(i:Int))=some (endR failR r))/\
    (bdB q=false->∀ z,r=some z->bdB z=false)
 |j,i,q,M,hj,hi,hF,hN,hA,hx=>by
  by_cases hiq:i < q.1.length
  ·cases j with
   |zero=>omega
   |succ j=>
   have hok:=hF.g _ (List.getElem_mem hiq)
   cases hm:mv q.1[i] with
   |none=>exact ⟨none,⟨M,cQ (p2 i q.1 M q.2 hiq hok hm hN hx (by omega))⟩,fun z h=>(by cases h),fun hb=>cQ (r2 i q hiq hok hm hb),fun _ z h=>(by cases h)⟩
   |some Y=>
    obtain ⟨hYl,hY⟩:=hmv _ hok Y hm
    obtain ⟨M1,e1,e2⟩:=p1 i q.1 M q.2 hiq Y hok hm hN hx (by omega)
    have hF':=fnd_go Y (hF.mono (Nat.le_succ i)) hY
    have hpre:=aTP (i:=(i:Int)) Y q
    have hln:=goS_len (i:=(i:Int)) Y q
    have hr:=r1 i q hiq Y hok hm (hF.mono (Nat.le_succ i))
    have e1:op (q.1,M,q.2,(i:Int))=some (if 40 < (goS (i:Int) Y q).1.length then .inr (.inr failP) else .inl ((goS (i:Int) Y q).1,M1,(goS (i:Int) Y q).2,((i+1:Nat):Int))):=e1
    have e2:aIt ok key (goS (i:Int) Y q).1 M1:=e2
    generalize goS (i:Int) Y q=q' at hF' hpre hln hr e1 e2
    by_cases h40:40 < q'.1.length
    ·rw [if_pos h40] at e1
     refine ⟨none,⟨M,cQ e1⟩,fun z h=>(by cases h),fun hb=>?_,fun _ z h=>(by cases h)⟩
     have hr:=hr hb
     rw [if_neg (by rw [aDY];omega)] at hr
     exact cQ hr
    ·rw [if_neg h40] at e1
     obtain ⟨r,⟨M',g1⟩,g2,g3,g4⟩:=outS hmv p1 p2 p3 r1 r2 r3 j (i+1) q' M1 (by omega) (by have:=hpre.1.length_le;omega) hF' e2 (by omega) (by omega)
     refine ⟨r,⟨M',by rw [iV e1];exact g1⟩,fun z hz=>?_,fun hb=>?_,fun hb z hz=>?_⟩
     ·obtain ⟨a,b,c,d⟩:=g2 z hz
      exact ⟨a,b,c,hpre.1.trans d⟩
     ·have hr:=hr hb
      by_cases hb':bdB q'=true
      ·rw [if_pos hb'] at hr
       rw [iV hr]
       exact g3 hb'
      ·rw [if_neg hb'] at hr
       rw [cQ hr]
       rw [Bool.not_eq_true] at hb'
       cases r with
       |none=>rfl
       |some z=>
        have:=g4 hb' z rfl
        simp only [endR,this,Bool.false_eq_true,if_false]
     ·exact g4 (bd_pre hpre.1 hpre.2 hb) z hz
  ·obtain rfl:i=q.1.length:=by omega
   refine ⟨some q,⟨M,cQ (p3 _ _ _)⟩,fun z hz=>?_,fun hb=>?_,fun hb z hz=>?_⟩
   ·cases hz
    exact ⟨hF,hx,by omega,List.prefix_refl _⟩
   ·simp only [endR,hb,if_true]
    exact cQ (r3 _ _ _)
   ·cases hz;exact hb
end
end Gv
namespace Gv
open Go
theorem isLab_lab {nm:aO} {vs:List Int} (h:rW nm vs):aIo (lab nm vs)=true:=by
 unfold aIo
 rw [aPv h]
 by_cases h0:vs.length=0
 ·rw [if_pos h0]
  have e:lab nm vs=nm:=by unfold lab;rw [if_pos h0]
  rw [e]
  exact h.1
 ·have hne:vs≠[]:=fun e=>h0 (by rw [e];rfl)
  rw [if_neg h0]
  simp only
  rw [List.dropLast_concat,aEj hne (fun v hv=>(h.pos v hv).1)]
  have ht:nm≠cF:=fun e=>hne (h.2.2.2 e)
  have ha:iJ nm=true:=by unfold iJ;rw [h.1];simpa using ht
  have hn:(vs.map Lib.itoa).all aJG=true:=by
   rw [List.all_map,List.all_eq_true]
   intro v hv
   have:=aCL.1 (List.all_eq_true.1 h.2.2.1 v hv)
   exact aLG this.1 this.2
  have h2:=h.2.1
  rw [ha,hn]
  simpa using h2
def LbM (s:aO):Prop:=∃ nm vs,rW nm vs/\s=lab nm vs
theorem LbM.lab {s:aO} (h:LbM s):aIo s=true:=by obtain ⟨nm,vs,h1,rfl⟩:=h;exact isLab_lab h1
theorem LbM.len {s:aO} (h:LbM s):s.length<=56:=by obtain ⟨nm,vs,h1,rfl⟩:=h;exact aSt h1
theorem aVD {α:Type} {a b:List α} (ha:a.Nodup) (hb:b.Nodup) (h:∀ x,x∈a<->x∈b):a.length=b.length:=((List.perm_ext_iff_of_nodup ha hb).2 h).length_eq
theorem finS {β:Type} {ok:β->Prop} {q:List β × List lS} (hF:Fnd ok LbM q.1.length q) (h1:1<=q.1.length) (h40:q.1.length<=40) (hA:q.2.length<=8200):
  ∃ t,aRX (q.1.length:Int) 0 (q.2.map (·.label)) q.2=some t/\aBv (q.1.length:Int) 0 (zY q.2) (edA q.2)=some t/\aBA t=some (bdB q)/\aHF sz t/\(bdB q=true->nV t):=by
 obtain ⟨x,A⟩:=q
 simp only at h1 h40 hA ⊢
 have har:=hF.ar
 simp only at har
 have htl:=txA_len A
 have hel:=edA_len A
 obtain ⟨M,_,j2,j3,j4⟩:=aUS (A.map (·.label)) (by simp;omega)
 rw [List.length_map] at j4
 have hMnd:M.Nodup:=j2.1.imp fun {a b} h e=>by subst e;rw [rV] at h;cases h
 have hTM:∀ s,s∈zY A<->s∈cF::M:=fun s=>by
  rw [aDX,List.mem_cons,j3 s]
  by_cases e:s=cF<;>simp [e]
 have hTl:(zY A).length=(cF::M).length:=aVD (aSx A) (List.nodup_cons.2 ⟨j2.2,hMnd⟩) hTM
 have hlab:=lts_arc (st:=(x.length:Int)) (ini:=0) j2 j3 (by simp;omega) (show A.length < 100000000 by omega) (by omega)
 refine ⟨_,hlab,?_,?_⟩
 ·refine make_gen (by omega) j2 (fun s=>?_) (by omega) (fun e he=>?_) (aTv _) (fun z=>?_) _ _
  ·rw [hTM s,List.mem_cons]
   constructor
   ·intro h;exact ⟨.inr h,fun e=>j2.2 (e ▸ h)⟩
   ·rintro ⟨h|h,h2⟩
    ·exact absurd h h2
    ·exact h
  ·obtain ⟨a,ha,rfl⟩:=aFR.1 he
   obtain ⟨i,hi,e1,e2⟩:=mY (aDX.2 (.inr (List.mem_map_of_mem ha)):a.label∈zY A)
   show 0<=pos (zY A) a.label/\pos (zY A) a.label < ((zY A).length:Int)
   rw [e1];omega
  ·rw [aQR,List.mem_map]
   have key:∀ a∈A,(zY A).getD (pos (zY A) a.label).toNat []=a.label:=fun a ha=>by
    obtain ⟨i,hi,e1,e2⟩:=mY (aDX.2 (.inr (List.mem_map_of_mem ha)):a.label∈zY A)
    rw [e1,Int.toNat_natCast,List.getD_eq_getElem?_getD,List.getElem?_eq_getElem hi]
    exact e2
   constructor
   ·rintro ⟨a,ha,rfl⟩
    refine ⟨_,aFR.2 ⟨a,ha,rfl⟩,?_⟩
    show _=(⟨a.from_,pos (cF::M) ((zY A).getD (pos (zY A) a.label).toNat []),a.to_⟩:Edge)
    rw [key a ha]
   ·rintro ⟨e,he,rfl⟩
    obtain ⟨a,ha,rfl⟩:=aFR.1 he
    refine ⟨a,ha,?_⟩
    show _=(⟨a.from_,pos (cF::M) ((zY A).getD (pos (zY A) a.label).toNat []),a.to_⟩:Edge)
    rw [key a ha]
 ·have hlm:∀ a∈A,a.label∈cF::M:=fun a ha=>(hTM _).1 (aDX.2 (.inr (List.mem_map_of_mem ha)))
  have hEl:(kD (srt dC (A.map fun a=>(⟨a.from_,pos (cF::M) a.label,a.to_⟩:Edge)))).length=(edA A).length:=by
   have hnd:((edA A).map fun e=>(⟨e.F,pos (cF::M) ((zY A).getD e.B.toNat []),e.To⟩:Edge)).Nodup:=by
    refine List.pairwise_map.2 (List.Pairwise.imp_of_mem (fun {a b} ha hb hne h=>hne ?_) (aSy A))
    obtain ⟨a,ha',rfl⟩:=aFR.1 ha
    obtain ⟨b,hb',rfl⟩:=aFR.1 hb
    clear ha hb
    have ha:=ha'
    have hb:=hb'
    obtain ⟨i,hi,e1,e2⟩:=mY (aDX.2 (.inr (List.mem_map_of_mem ha)):a.label∈zY A)
    obtain ⟨k,hk,e3,e4⟩:=mY (aDX.2 (.inr (List.mem_map_of_mem hb)):b.label∈zY A)
    simp only [edT,Edge.mk.injEq] at h ⊢
    rw [e1,e3,Int.toNat_natCast,Int.toNat_natCast,List.getD_eq_getElem?_getD,List.getD_eq_getElem?_getD,List.getElem?_eq_getElem hi,List.getElem?_eq_getElem hk] at h
    simp only [Option.getD_some] at h
    have:=pos_injG (by rw [e2];exact hlm a ha) (by rw [e4];exact hlm b hb) h.2.1
    rw [e2,e4] at this
    exact ⟨h.1,by rw [this],h.2.2⟩
   rw [←@List.length_map _ _ (edA A) (fun e=>(⟨e.F,pos (cF::M) ((zY A).getD e.B.toNat []),e.To⟩:Edge))]
   refine aVD (aUU (aTv _)) hnd fun z=>?_
   rw [aQR,List.mem_map,List.mem_map]
   have key:∀ a∈A,(zY A).getD (pos (zY A) a.label).toNat []=a.label:=fun a ha=>by
    obtain ⟨i,hi,e1,e2⟩:=mY (aDX.2 (.inr (List.mem_map_of_mem ha)):a.label∈zY A)
    rw [e1,Int.toNat_natCast,List.getD_eq_getElem?_getD,List.getElem?_eq_getElem hi]
    exact e2
   constructor
   ·rintro ⟨a,ha,rfl⟩
    refine ⟨_,aFR.2 ⟨a,ha,rfl⟩,?_⟩
    show (⟨a.from_,pos (cF::M) ((zY A).getD (pos (zY A) a.label).toNat []),a.to_⟩:Edge)=_
    rw [key a ha]
   ·rintro ⟨e,he,rfl⟩
    obtain ⟨a,ha,rfl⟩:=aFR.1 he
    refine ⟨a,ha,?_⟩
    show _=(⟨a.from_,pos (cF::M) ((zY A).getD (pos (zY A) a.label).toNat []),a.to_⟩:Edge)
    rw [key a ha]
  have hfit:aHF sz ⟨(x.length:Int),0,cF::M,kD (srt dC (A.map fun a=>(⟨a.from_,pos (cF::M) a.label,a.to_⟩:Edge)))⟩:=by
   refine ⟨by simp only [List.length_cons];unfold sz;omega,fun w hw=>?_,by simp only;rw [hEl];unfold sz;omega⟩
   rcases List.mem_cons.1 hw with rfl|hw
   ·simp [cF];decide
   ·obtain ⟨a,ha,rfl⟩:=List.mem_map.1 ((j3 _).1 hw).1
    obtain ⟨_,_,_,_,_,_,hl⟩:=har a ha
    have:=hl.len
    unfold sz;omega
  have hok:bdB (x,A)=true->nV ⟨(x.length:Int),0,cF::M,kD (srt dC (A.map fun a=>(⟨a.from_,pos (cF::M) a.label,a.to_⟩:Edge)))⟩:=fun hb=>by
   obtain ⟨b1,b2,b3⟩:=aDY.1 hb
   simp only at b1 b2 b3
   rw [hTl] at b2
   refine ⟨⟨by simp only;omega,by simp only;omega⟩,⟨Int.le_refl _,by simp only;omega⟩,⟨by simp,b2,fun _=>rfl,fun k hk1 hk=>?_⟩,edges_mk (by simp only;rw [hEl];exact b3) (aTv _) fun e he=>?_⟩
   ·obtain ⟨m,rfl⟩:∃ m,k=m+1:=⟨k - 1,by omega⟩
    have hm:m < M.length:=by simp only [List.length_cons] at hk;omega
    have hmem:=List.getElem_mem hm
    obtain ⟨a,ha,hae⟩:=List.mem_map.1 ((j3 _).1 hmem).1
    obtain ⟨_,_,_,_,_,_,hl⟩:=har a ha
    refine ⟨?_,((j3 _).1 hmem).2,fun h2=>?_⟩
    ·show aIo M[m]=true
     rw [←hae];exact hl.lab
    ·have:=List.pairwise_iff_getElem.1 j2.1 (m - 1) m (by omega) hm (by omega)
     simp only [List.getElem_cons_succ]
     have e:(cF::M)[m+1 - 1]'(by simp only [List.length_cons] at hk ⊢;omega)=M[m - 1]'(by omega):=by
      obtain ⟨k,rfl⟩:∃ k,m=k+1:=⟨m - 1,by omega⟩
      rfl
     rw [e];exact this
   ·simp only at he
    obtain ⟨a,ha,rfl⟩:=List.mem_map.1 (aQR.1 he)
    obtain ⟨f,t,g1,g2,g3,g4,_⟩:=har a ha
    obtain ⟨k,hk,e3,e4⟩:=mY (hlm a ha)
    refine ⟨⟨?_,?_⟩,⟨?_,?_⟩,?_,?_⟩<;>simp only<;>(first|(rw [g1];omega)|(rw [g2];omega)|(rw [e3];omega))
  refine ⟨?_,hfit,hok⟩
  rw [aUG _ (hfit.mono (by decide))]
  refine congrArg some ?_
  cases hb:bdB (x,A) with
  |true=>exact aFg (hok hb)
  |false=>
   refine vQ fun h=>?_
   rw [←Bool.not_eq_true,aDY] at hb
   simp only at hb
   have c1:=h.2.2.1.2.1
   have c2:=h.2.2.2.1
   simp only at c1 c2
   rw [hEl] at c2
   rw [hTl] at hb
   exact hb ⟨h40,c1,c2⟩
end Gv
namespace Gv
open Go
section
variable {β:Type} [DecidableEq β]
def whI (x:List β) (p:β):Int:=match whr x p with|some m=>(m:Int)|none=>-1
theorem schL {x:List β} {p:β} {step:(Int × Int)->Option ((Int × Int) ⊕ Int)} (hnd:x.Nodup)
  (h1:∀ (k:Nat) (tv:Int) (hk:k < x.length),step (tv,(k:Int))=some (.inl (if x[k]=p then (k:Int) else tv,((k+1:Nat):Int))))
  (h2:∀ tv,step (tv,(x.length:Int))=some (.inr tv)):∀ (j k:Nat),k+j=x.length->loop step (whI (x.take k) p,(k:Int))=some (whI x p)
 |0,k,hk=>by
  obtain rfl:k=x.length:=by omega
  rw [List.take_length]
  exact cQ (h2 _)
 |j+1,k,hk=>by
  have hkx:k < x.length:=by omega
  rw [iV (h1 k _ hkx),←schL hnd h1 h2 j (k+1) (by omega)]
  have ht:x.take (k+1)=x.take k++[x[k]]:=by rw [List.take_add_one];simp [hkx]
  unfold whI
  rw [ht,whr_app,List.length_take,Nat.min_eq_left (by omega)]
  cases hw:whr (x.take k) p with
  |none=>by_cases e:x[k]=p<;>simp [e]
  |some m=>
   have hne:x[k]≠p:=fun e=>by
    have:=aVA hw
    rw [List.getElem?_take] at this
    split at this
    ·rename_i hm
     obtain ⟨hm1,hm2⟩:=List.getElem?_eq_some_iff.1 this
     exact List.pairwise_iff_getElem.1 hnd m k hm1 hkx hm (by rw [hm2,e])
    ·cases this
   rw [if_neg hne]
theorem knwL {E:List β} {e:β} {step:(Bool × Int)->Option ((Bool × Int) ⊕ Bool)}
  (h1:∀ (k:Nat) (b:Bool) (hk:k < E.length),step (b,(k:Int))=some (.inl (b||decide (E[k]=e),((k+1:Nat):Int))))
  (h2:∀ b,step (b,(E.length:Int))=some (.inr b)):∀ (j k:Nat),k+j=E.length->loop step (decide (e∈E.take k),(k:Int))=some (decide (e∈E))
 |0,k,hk=>by
  obtain rfl:k=E.length:=by omega
  rw [List.take_length]
  exact cQ (h2 _)
 |j+1,k,hk=>by
  have hkx:k < E.length:=by omega
  rw [iV (h1 k _ hkx),←knwL h1 h2 j (k+1) (by omega)]
  have ht:E.take (k+1)=E.take k++[E[k]]:=by rw [List.take_add_one];simp [hkx]
  have:(decide (e∈E.take k)||decide (E[k]=e))=decide (e∈E.take (k+1)):=by
   rw [ht,Bool.eq_iff_iff,Bool.or_eq_true,decide_eq_true_eq,decide_eq_true_eq,decide_eq_true_eq,List.mem_append,List.mem_singleton]
   exact or_congr Iff.rfl eq_comm
  rw [this]
end
theorem aWO {T:List aO} {s:aO} (h:T.length < 1000000):aKh T s=some (dP T s,pos (dP T s) s):=by
 unfold aKh
 rw [aBI _ _ (by omega),aA]
 unfold dP
 by_cases hm:s∈T
 ·rw [if_pos hm,if_pos (by simpa using (pos_nat hm))]
 ·rw [if_neg hm,if_neg (by rw [aTq hm];simp),eO (by unfold gN;simp;omega),aA,aQN hm]
theorem aSz {l:List Definition} (hD:lQ l) {n:Nat} (p q:List GPoint) (hp:kP l n p) (hq:kP l n q) (h:rX p=rX q):p=q:=aTJ (hp.1.trans hq.1.symm) (hp.ok hD) (hq.ok hD) h
section
variable {l:List Definition} (hD:lQ l) {n:Nat} (hn:n<=3)
include hD hn
theorem fndS_eq {x:List (List GPoint)} {M:List (aO × Int)} {A:List lS} {p:List GPoint} (h:aIt (kP l n) rX x M) (hp:kP l n p) (hl:x.length < 100000000):∃ M',eD x M A p=some ((qS x p:Int),dP x p,M')/\aIt (kP l n) rX (dP x p) M':=by
 have hlen:=hp.1
 unfold eD fY
 rw [aJS (by omega) (hp.ok hD),aA,h p hp]
 unfold qS
 cases hw:whr x p with
 |some i=>
  have hm:p∈x:=by rw [←Decidable.not_not (p:=p∈x),←aGS,hw];simp
  refine ⟨M,?_,by unfold dP;rw [if_pos hm];exact h⟩
  unfold dP;rw [if_pos hm];rfl
 |none=>
  have hm:=aGS.1 hw
  have hput:=numK_put (aSz hD) h hp hw
  refine ⟨rY M (rX p) (x.length:Int),?_,by unfold dP;rw [if_neg hm];exact hput⟩
  unfold dP
  rw [if_neg hm]
  show (ob (some (rY M (rX p) (x.length:Int))) fun m24=>ob (zZ x ([p]:List (List GPoint))) fun xs31=>some ((x.length:Int),xs31,m24))=_
  rw [aA,eO (by unfold gN;simp;omega),aA]
theorem arcS_eq {x:List (List GPoint)} {M:List (aO × Int)} {A:List lS} {lbe:aO} {p:List GPoint} {i:Int} (h:aIt (kP l n) rX x M) (hp:kP l n p) (hl:x.length < 100000000) (hA:A.length < 100000000):∃ M',gZ lbe p x M A i=some (dP x p,M',A++[⟨i,lbe,(qS x p:Int)⟩])/\aIt (kP l n) rX (dP x p) M':=by
 obtain ⟨M',h1,h2⟩:=fndS_eq hD hn (A:=A) h hp hl
 refine ⟨M',?_,h2⟩
 unfold gZ kW
 rw [h1,aA,eO (by unfold gN;simp;omega),aA]
end
theorem aOQ {s:bE} {st:List GPoint} {X:List bC} {b:Bool} (h:rJ s st=some (X,b)) (hX:X.length<=6000000):yK s st=some (X.map (·.B),X.map (·.State),b):=by
 unfold yK
 rw [h,aA]
 have key:=aKo (step:=fun q:List aO × List (List GPoint) × Int=>sP (X,b) q.1 q.2.1 q.2.2) X (fun k a=>(a.1,a.2,(k:Int))) (fun l a=>(a.1++l.map (·.B),a.2++l.map (·.State))) (fun k (a:List aO × List (List GPoint))=>a.1.length=k/\a.2.length=k) (fun k a x l hk hx hI=>?_) (fun a _=>?_) (a:=([],[])) ⟨rfl,rfl⟩
 ·have key':loop (fun q:List aO × List (List GPoint) × Int=>sP (X,b) q.1 q.2.1 q.2.2) (([]:List aO),([]:List (List GPoint)),0)=some (X.map (·.B),X.map (·.State)):=by simpa using key
  rw [key',aA];rfl
 ·left
  refine ⟨(a.1++[x.B],a.2++[x.State]),?_,by simp [hI.1,hI.2],by simp⟩
  simp only [sP,bL hk,if_true,hx,aA,bI hk (show X.length < 4611686018427387904 by omega)]
  rw [eO (by unfold gN;simp;omega),aA,eO (by unfold gN;simp;omega),aA]
 ·simp only [sP,bO]
  simp
noncomputable def mvS (s:bE) (st:List GPoint):Option (List (aO × List GPoint)):=match iI s st with
 |some (X,true)=>some (X.map fun m=>(m.B,m.State))
 |_=>none
end Gv
namespace Gv
open Go
theorem aGT {s:bE} (hs:aJU s) {n:Nat} (hn:n<=3) {st:List GPoint} (hst:kP s.Definitions n st):
  (∃ X,iI s st=some (X,true)/\yK s st=some (X.map (·.B),X.map (·.State),true)/\mvS s st=some (X.map fun m=>(m.B,m.State))/\X.length<=200/\∀ y∈X,MvG s.Definitions n y)\/
  (∃ X,mvS s st=none/\iI s st=some (X,false)/\X.length<=6000000/\(∀ y∈X,MvG s.Definitions n y)/\∃ a b,yK s st=some (a,b,false)):=by
 rcases aWM hs hn hst with ⟨X,x1,x2,x3,x4⟩|⟨X,Y,x1,x2,x3,x4,x5⟩
 ·left
  refine ⟨X,x1,aOQ x2 (by omega),?_,x3,x4⟩
  unfold mvS;rw [x1]
 ·right
  refine ⟨X,?_,x1,x4,x5,_,_,aOQ x2 x3⟩
  unfold mvS;rw [x1]
section
variable {s:bE} (hs:aJU s) {n:Nat} (hn:n<=3)
include hs hn
theorem mvS_ok (p:List GPoint) (hp:kP s.Definitions n p) (Y:List (aO × List GPoint)) (h:mvS s p=some Y):Y.length<=200/\∀ y∈Y,LbM y.1/\kP s.Definitions n y.2:=by
 rcases aGT hs hn hp with ⟨X,x1,x2,x3,x4,x5⟩|⟨X,x1,_⟩
 ·rw [x3] at h
  cases h
  refine ⟨by simpa using x4,fun y hy=>?_⟩
  obtain ⟨m,hm,rfl⟩:=List.mem_map.1 hy
  exact ⟨(x5 m hm).lbl,(x5 m hm).st⟩
 ·rw [x1] at h;cases h
theorem inX {X:List bC} {b:Bool} {i:Int} (hX:X.length<=6000000) (hm:∀ y∈X,MvG s.Definitions n y) {x:List (List GPoint)} {M:List (aO × Int)} {A:List lS} (hN:aIt (kP s.Definitions n) rX x M) (hx:x.length<=40) (hA:A.length<=10000):
  ∃ M',loop (fun (t:(List (List GPoint) × (List (aO × Int)) × List lS × Int))=>fF i (X,b) t.1 t.2.1 t.2.2.1 t.2.2.2) (x,M,A,0)=some ((goS i (X.map fun m=>(m.B,m.State)) (x,A)).1,M',(goS i (X.map fun m=>(m.B,m.State)) (x,A)).2)/\aIt (kP s.Definitions n) rX (goS i (X.map fun m=>(m.B,m.State)) (x,A)).1 M':=by
 have hD:=hs.ok.defs
 have hl:(X.map fun m=>(m.B,m.State)).length=X.length:=by simp
 refine inP (pin:=fun t=>fF i (X,b) t.1 t.2.1 t.2.2.1 t.2.2.2) (Y:=X.map fun m=>(m.B,m.State)) (fun k x M A hk hN hx hA=>?_) (fun x M A=>?_) X.length 0 x M A (by omega) hN (by omega) (by omega)
 ·have hk':k < X.length:=by omega
  obtain ⟨M',m1,m2⟩:=arcS_eq hD hn (A:=A) (lbe:=X[k].B) (i:=i) hN (hm _ (List.getElem_mem hk')).st hx hA
  refine ⟨M',?_,by simpa using m2⟩
  show fF i (X,b) x M A (k:Int)=_
  unfold fF
  rw [if_pos (bL hk'),bH hk',aA,m1,aA,bI hk' (by omega)]
  simp
 ·show fF i (X,b) x M A ((X.map fun m=>(m.B,m.State)).length:Int)=_
  rw [hl]
  unfold fF
  rw [if_neg (by simp)]
theorem sysLoops (st:List GPoint) (M:List (aO × Int)) (hst:kP s.Definitions n st) (hM:aIt (kP s.Definitions n) rX [st] M):
  ∃ r:Option (List (List GPoint) × List lS),(∃ M',loop (fun (t:(List (List GPoint) × (List (aO × Int)) × List lS × Int))=>cO s t.1 t.2.1 t.2.2.1 t.2.2.2) ([st],M,[],0)=some (endP (⟨0,0,[],[]⟩,[],false) M' r))/\
   (∀ z,r=some z->Fnd (kP s.Definitions n) LbM z.1.length z/\z.1.length<=40/\z.2.length<=8200/\[st] <+:z.1)/\
   loop (fun (t:(List (List GPoint) × List aO × List Edge × Int))=>iL s t.1 t.2.1 t.2.2.1 t.2.2.2) ([st],[cF],[],0)=some (endR (⟨0,0,[],[]⟩,[],false) r):=by
 have key:=outS (ok:=kP s.Definitions n) (key:=rX) (P:=LbM) (mv:=mvS s) (failP:=((⟨0,0,[],[]⟩:iZ),([]:List (List GPoint)),false)) (failR:=((⟨0,0,[],[]⟩:iZ),([]:List (List GPoint)),false))
  (op:=fun (t:(List (List GPoint) × (List (aO × Int)) × List lS × Int))=>cO s t.1 t.2.1 t.2.2.1 t.2.2.2)
  (ro:=fun (t:(List (List GPoint) × List aO × List Edge × Int))=>iL s t.1 t.2.1 t.2.2.1 t.2.2.2) (mvS_ok hs hn)
  (fun i x M A hi Y hok hm hN hx hA=>?_) (fun i x M A hi hok hm hN hx hA=>?_) (fun x M A=>?_) (fun i q hi Y hok hm hF hb=>?_) (fun i q hi hok hm hb=>?_) (fun x T E=>?_) 41 0 ([st],[]) M rfl (by simp) ⟨fun p hp=>by rw [List.mem_singleton.1 hp];exact hst,by simp,fun a ha=>by cases ha⟩ hM (by simp) (by simp)
 ·obtain ⟨r,⟨M',h1⟩,h2,h3,_⟩:=key
  exact ⟨r,⟨M',h1⟩,h2,h3 rfl⟩
 ·rcases aGT hs hn hok with ⟨X,x1,x2,x3,x4,x5⟩|⟨X,x1,_⟩
  ·rw [x3] at hm
   cases hm
   obtain ⟨M',e1,e2⟩:=inX hs hn (b:=true) (i:=(i:Int)) (by omega) x5 hN hx hA
   refine ⟨M',?_,e2⟩
   show cO s x M A (i:Int)=_
   unfold cO mG
   rw [if_pos (bL hi),bH hi,aA,x1,aA,e1,aA]
   unfold mW
   rw [aA,if_neg (by simp)]
   unfold hQ
   simp only
   by_cases h40:40 < (goS (i:Int) (X.map fun m=>(m.B,m.State)) (x,A)).1.length
   ·rw [if_pos (by simp only [decide_eq_true_eq];omega),if_pos h40]
   ·rw [if_neg (by simp only [decide_eq_true_eq];omega),if_neg h40,bI hi (by omega)]
  ·rw [x1] at hm;cases hm
 ·rcases aGT hs hn hok with ⟨X,x1,x2,x3,x4,x5⟩|⟨X,x1,x2,x3,x4,_⟩
  ·rw [x3] at hm;cases hm
  ·obtain ⟨M',e1,e2⟩:=inX hs hn (b:=false) (i:=(i:Int)) x3 x4 hN hx hA
   show cO s x M A (i:Int)=_
   unfold cO mG
   rw [if_pos (bL hi),bH hi,aA,x2,aA,e1,aA]
   unfold mW
   rw [aA,if_pos (by simp)]
   rfl
 ·show cO s x M A (x.length:Int)=_
  unfold cO
  rw [if_neg (by simp)]
 ·rcases aGT hs hn hok with ⟨X,x1,x2,x3,x4,x5⟩|⟨X,x1,_⟩
  ·rw [x3] at hm
   cases hm
   have hl:(X.map fun m=>(m.B,m.State)).length=X.length:=by simp
   show iL s q.1 (zY q.2) (edA q.2) (i:Int)=_
   unfold iL
   rw [if_pos (bL hi),bH hi,aA,x2,aA,if_neg (by simp)]
   have hin:=inR (P:=LbM) (ok:=kP s.Definitions n) (fail:=((⟨0,0,[],[]⟩:iZ),([]:List (List GPoint)),false)) (Y:=X.map fun m=>(m.B,m.State)) (i:=i)
    (rin:=fun (t:(List (List GPoint) × List aO × List Edge × Int))=>kG (i:Int) (X.map (·.B),X.map (·.State),true) t.1 t.2.1 t.2.2.1 t.2.2.2) (fun y hy=>by
     obtain ⟨m,hm,rfl⟩:=List.mem_map.1 hy
     exact ⟨(x5 m hm).lbl,(x5 m hm).st⟩) (fun k x T E hk hg hnd hx hT hE=>?_) (fun x T E=>?_) X.length 0 q (by omega) hF hb
   ·rw [List.drop_zero] at hin
    have hin':loop (fun (t:(List (List GPoint) × List aO × List Edge × Int))=>kG (i:Int) (X.map (·.B),X.map (·.State),true) t.1 t.2.1 t.2.2.1 t.2.2.2) (q.1,zY q.2,edA q.2,0)=_:=hin
    rw [hin',aA]
    by_cases hb':bdB (goS (i:Int) (X.map fun m=>(m.B,m.State)) q)=true
    ·rw [if_pos hb',if_pos hb']
     show uD (i:Int) _ _ _=_
     unfold uD aAy
     rw [bI hi (by have:=(aDY.1 hb).1;omega)]
    ·rw [if_neg hb',if_neg hb']
   ·have hk':k < X.length:=by omega
    have hkL:k < (X.map (·.B)).length:=by simpa using hk'
    have hkS:k < (X.map (·.State)).length:=by simpa using hk'
    show kG (i:Int) (X.map (·.B),X.map (·.State),true) x T E (k:Int)=_
    unfold kG
    have hsch:=schL (x:=x) (p:=X[k].State) (step:=fun t:Int × Int=>kF (X.map (·.B),X.map (·.State),true) x (k:Int) t.1 t.2) hnd (fun m tv hm=>?_) (fun tv=>?_) x.length 0 (by omega)
    ·have hsch':loop (fun t:Int × Int=>kF (X.map (·.B),X.map (·.State),true) x (k:Int) t.1 t.2) (-1,0)=some (whI x X[k].State):=hsch
     rw [if_pos (bL hkL),hsch',aA]
     have tail:∀ x':List (List GPoint),x'.length=(dP x X[k].State).length->nZ (i:Int) (X.map (·.B),X.map (·.State),true) T E (k:Int) x' (qS x X[k].State:Int)=some (if 40 < (dP x X[k].State).length\/12 < (dP T X[k].B).length\/300 < (dP E ⟨(i:Int),pos (dP T X[k].B) X[k].B,(qS x X[k].State:Int)⟩).length then .inr (.inr (⟨0,0,[],[]⟩,[],false)) else .inl (x',dP T X[k].B,dP E ⟨(i:Int),pos (dP T X[k].B) X[k].B,(qS x X[k].State:Int)⟩,((k+1:Nat):Int))):=fun x' hx'=>by
      unfold nZ
      rw [bH hkL,aA,List.getElem_map,aWO (by omega),aA]
      have hkn:=knwL (E:=E) (e:=(⟨(i:Int),pos (dP T X[k].B) X[k].B,(qS x X[k].State:Int)⟩:Edge)) (step:=fun t:Bool × Int=>lM (i:Int) E (qS x X[k].State:Int) (dP T X[k].B,pos (dP T X[k].B) X[k].B) t.1 t.2) (fun m b hm=>?_) (fun b=>?_) E.length 0 (by omega)
      ·have hkn':loop (fun t:Bool × Int=>lM (i:Int) E (qS x X[k].State:Int) (dP T X[k].B,pos (dP T X[k].B) X[k].B) t.1 t.2) (false,0)=some (decide ((⟨(i:Int),pos (dP T X[k].B) X[k].B,(qS x X[k].State:Int)⟩:Edge)∈E)):=by simpa using hkn
       rw [hkn',aA]
       have j6:∀ E':List Edge,qI (k:Int) x' (dP T X[k].B,pos (dP T X[k].B) X[k].B) E'=some (if 40 < (dP x X[k].State).length\/12 < (dP T X[k].B).length\/300 < E'.length then .inr (.inr (⟨0,0,[],[]⟩,[],false)) else .inl (x',dP T X[k].B,E',((k+1:Nat):Int))):=fun E'=>by
        unfold qI uE aAz
        dsimp only
        rw [hx',bI hk' (by omega)]
        by_cases c1:40 < (dP x X[k].State).length
        ·rw [if_pos (by simp only [decide_eq_true_eq];omega),if_pos rfl,if_pos (.inl c1)]
        ·rw [if_neg (by simp only [decide_eq_true_eq];omega)]
         by_cases c2:12 < (dP T X[k].B).length
         ·rw [if_pos (by simp only [decide_eq_true_eq];omega),if_pos rfl,if_pos (.inr (.inl c2))]
         ·rw [if_neg (by simp only [decide_eq_true_eq];omega)]
          by_cases c3:300 < E'.length
          ·rw [if_pos (by simp only [decide_eq_true_eq];omega),if_pos (.inr (.inr c3))]
          ·rw [if_neg (by simp only [decide_eq_true_eq];omega),if_neg (by omega)]
       unfold aAA
       by_cases he:(⟨(i:Int),pos (dP T X[k].B) X[k].B,(qS x X[k].State:Int)⟩:Edge)∈E
       ·rw [decide_eq_true he,if_neg (by simp),j6]
        have:dP E ⟨(i:Int),pos (dP T X[k].B) X[k].B,(qS x X[k].State:Int)⟩=E:=addU_of he
        rw [this]
       ·rw [decide_eq_false he,if_pos (by simp)]
        simp only
        rw [eO (by unfold gN;simp;omega),aA,j6]
        have:dP E ⟨(i:Int),pos (dP T X[k].B) X[k].B,(qS x X[k].State:Int)⟩=E++[⟨(i:Int),pos (dP T X[k].B) X[k].B,(qS x X[k].State:Int)⟩]:=aVC he
        rw [this]
      ·show lM (i:Int) E (qS x X[k].State:Int) _ b (m:Int)=_
       unfold lM uF
       rw [if_pos (bL hm),bI hm (by omega)]
       cases b with
       |true=>rw [if_pos rfl,Bool.true_or]
       |false=>rw [if_neg (by simp),bH hm,aA,Bool.false_or]
      ·show lM (i:Int) E (qS x X[k].State:Int) _ b (E.length:Int)=_
       unfold lM
       rw [if_neg (by simp)]
     have hYk:(X.map fun m=>(m.B,m.State))[k]=(X[k].B,X[k].State):=by simp
     rw [hYk]
     simp only
     unfold sE whI
     cases hw:whr x X[k].State with
     |some m=>
      have hm:X[k].State∈x:=by rw [←Decidable.not_not (p:=X[k].State∈x),←aGS,hw];simp
      have ha:dP x X[k].State=x:=addU_of hm
      have hnu:qS x X[k].State=m:=by unfold qS;rw [hw]
      have:=tail x (by rw [ha])
      rw [hnu] at this
      simp only
      rw [if_neg (by simp),this,ha,hnu]
     |none=>
      have hm:=aGS.1 hw
      have ha:dP x X[k].State=x++[X[k].State]:=aVC hm
      have hnu:qS x X[k].State=x.length:=by unfold qS;rw [hw]
      have:=tail (x++[X[k].State]) (by rw [ha])
      rw [hnu] at this
      simp only
      rw [if_pos (by decide),bH hkS,aA,List.getElem_map,eO (by unfold gN;simp;omega),aA,this,ha,hnu]
    ·show kF (X.map (·.B),X.map (·.State),true) x (k:Int) tv (m:Int)=_
     unfold kF sF
     have hxm:=hg _ (List.getElem_mem hm)
     rw [if_pos (bL hm),bH hm,aA,bH hkS,aA,List.getElem_map,aLU _ _ (by rw [hxm.1];omega) hxm.val,aA,bI hm (by omega)]
     by_cases e:x[m]=X[k].State
     ·rw [decide_eq_true e,if_pos rfl,if_pos e]
     ·rw [decide_eq_false e,if_neg (by simp),if_neg e]
    ·show kF (X.map (·.B),X.map (·.State),true) x (k:Int) tv (x.length:Int)=_
     unfold kF
     rw [if_neg (by simp)]
   ·show kG (i:Int) (X.map (·.B),X.map (·.State),true) x T E ((X.map fun m=>(m.B,m.State)).length:Int)=_
    unfold kG
    rw [hl,if_neg (by simp)]
  ·rw [x1] at hm;cases hm
 ·rcases aGT hs hn hok with ⟨X,x1,x2,x3,x4,x5⟩|⟨X,x1,x2,x3,x4,a,b,x5⟩
  ·rw [x3] at hm;cases hm
  ·show iL s q.1 (zY q.2) (edA q.2) (i:Int)=_
   unfold iL
   rw [if_pos (bL hi),bH hi,aA,x5,aA,if_pos (by simp)]
 ·show iL s x T E (x.length:Int)=_
  unfold iL
  rw [if_neg (by simp)]
end
theorem sys_both {s:bE} (hs:aJU s):
  (∃ t x,kX s=some (t,x,true)/\uG s=some (t,x,true)/\aHF sz t/\nV t/\x.length<=40/\x.length=t.N.toNat/\x.Nodup/\∀ p∈x,kP s.Definitions s.Components.length p)\/
  (∃ t x u y,kX s=some (t,x,false)/\uG s=some (u,y,false)):=by
 have hn3:=hs.ok.n3
 obtain ⟨s1,s2⟩:=aWL hs.ok
 have hst:=start_ok hs
 have hD:=hs.ok.defs
 generalize stT0 s=st at s1 s2 hst
 obtain ⟨M1,m1,m2⟩:=fndS_eq hD hn3 (x:=[]) (M:=[]) (A:=[]) (p:=st) (fun q _=>by simp [iQ,whr]) hst (by simp)
 have ha:dP ([]:List (List GPoint)) st=[st]:=by unfold dP;simp
 rw [ha] at m1 m2
 obtain ⟨r,⟨M',r1⟩,r2,r3⟩:=sysLoops hs hn3 st M1 hst m2
 have eI:∀ q,(ob (some (endP ((⟨0,0,[],[]⟩:iZ),([]:List (List GPoint)),false) M' r)) fun r=>match r with|.inl r=>dX r.1 r.2.1 r.2.2|.inr r=>some r)=some q->kX s=some q:=fun q hq=>by
  unfold kX
  rw [s1,aA]
  unfold lC
  rw [m1,aA]
  rw [show loop (fun (t:(List (List GPoint) × (List (aO × Int)) × List lS × Int))=>cO s t.1 t.2.1 t.2.2.1 t.2.2.2) (((qS ([]:List (List GPoint)) st:Int),[st],M1).2.1,((qS ([]:List (List GPoint)) st:Int),[st],M1).2.2,[],0)=_ from r1]
  refine (congrArg (fun o=>ob o fun r38=>some (r38.1,r38.2.1,r38.2.2)) hq).trans ?_
  rfl
 have eS:∀ q,(ob (some (endR ((⟨0,0,[],[]⟩:iZ),([]:List (List GPoint)),false) r)) fun r=>match r with|.inl r=>lL r.1 r.2.1 r.2.2|.inr r=>some r)=some q->uG s=some q:=fun q hq=>by
  unfold uG
  rw [s2,aA]
  exact (congrArg (fun o=>ob o fun r=>match r with|.inl r=>lL r.1 r.2.1 r.2.2|.inr r=>some r) r3).trans hq
 cases r with
 |none=>exact .inr ⟨_,_,_,_,eI _ rfl,eS _ rfl⟩
 |some z=>
  obtain ⟨z1,z2,z3,z4⟩:=r2 z rfl
  have h1:1<=z.1.length:=by have:=z4.length_le;simpa using this
  obtain ⟨t,t1,t2,t3,t4,t5⟩:=finS z1 h1 z2 z3
  have gI:dX z.1 M' z.2=some (t,z.1,bdB z):=by
   unfold dX jL
   rw [labelsOfG (by omega),aA,t1,aA,show (⟨t.N,t.I,t.L,t.E⟩:iZ)=t from rfl,t3,aA]
  cases hb:bdB z with
  |true=>
   left
   have hSt:t.N=(z.1.length:Int):=by
    have:=t2
    unfold aBv aHq at this
    cases hj:aEe (zY z.2) with
    |none=>rw [hj] at this;cases this
    |some r10=>
     rw [hj,aA] at this
     cases hlp:loop (fun (s:(List Edge × Int))=>rL (zY z.2) (edA z.2) r10 s.1 s.2) (([]:List Edge),0) with
     |none=>rw [hlp] at this;cases this
     |some r=>rw [hlp,aA] at this;cases this;rfl
   refine ⟨t,z.1,eI _ ?_,eS _ ?_,t4,t5 hb,z2,by rw [hSt];simp,z1.nd,z1.g⟩
   ·rw [aA]
    show dX z.1 M' z.2=_
    rw [gI,hb]
   ·rw [aA]
    simp only [endR,hb,if_true]
    show lL z.1 (zY z.2) (edA z.2)=_
    unfold lL
    rw [t2,aA]
  |false=>
   right
   refine ⟨t,z.1,⟨0,0,[],[]⟩,[],eI _ ?_,eS _ ?_⟩
   ·rw [aA]
    show dX z.1 M' z.2=_
    rw [gI,hb]
   ·rw [aA]
    simp only [endR,hb,Bool.false_eq_true,if_false]
end Gv
namespace Gv
open Go
theorem cmpV_eq {a b:List Int} (ha:a.length < 1000000) (hb:b.length < 1000000):vG a b=some (sA a b):=by
 unfold vG
 have j1:xV a b=some (if a.length < b.length then -1 else if b.length < a.length then 1 else 0):=by
  unfold xV
  by_cases h1:a.length < b.length
  ·rw [if_pos (by simp;omega),if_pos h1]
  ·rw [if_neg (by simp;omega),if_neg h1]
   by_cases h2:b.length < a.length
   ·rw [if_pos (by simp;omega),if_pos h2]
   ·rw [if_neg (by simp;omega),if_neg h2]
 have key:∀ (j k:Nat),k+j=a.length->k<=b.length->∃ r,loop (fun s:Int=>kH a b s) (k:Int)=some r/\((r=.inl ()/\sA (a.drop k) (b.drop k)=if a.length < b.length then -1 else if b.length < a.length then 1 else 0)\/r=.inr (sA (a.drop k) (b.drop k))):=by
  intro j
  induction j with
  |zero=>
   intro k hk hkb
   obtain rfl:k=a.length:=by omega
   refine ⟨.inl (),cQ ?_,.inl ⟨rfl,?_⟩⟩
   ·unfold kH oA
    rw [if_neg (by simp),if_neg (by simp)]
   ·rw [List.drop_eq_nil_of_le (Nat.le_refl _)]
    by_cases h:a.length < b.length
    ·rw [if_pos h,List.drop_eq_getElem_cons h];rfl
    ·rw [if_neg h,if_neg (by omega),List.drop_eq_nil_of_le (by omega)];rfl
  |succ j ih=>
   intro k hk hkb
   have hka:k < a.length:=by omega
   by_cases hb2:k < b.length
   ·have e1:=List.drop_eq_getElem_cons hka
    have e2:=List.drop_eq_getElem_cons hb2
    have hs:kH a b (k:Int)=if a[k] < b[k] then some (.inr (.inr (-1))) else if b[k] < a[k] then some (.inr (.inr 1)) else some (.inl ((k+1:Nat):Int)):=by
     unfold kH oA
     rw [if_pos (bL hka),if_pos (bL hb2),bH hka,aA,bH hb2,aA,bI hka (by omega)]
     by_cases h1:a[k] < b[k]
     ·rw [if_pos (by simpa using h1),if_pos h1]
     ·rw [if_neg (by simpa using h1),if_neg h1]
      by_cases h2:b[k] < a[k]
      ·rw [if_pos (by simpa using h2),if_pos h2]
      ·rw [if_neg (by simpa using h2),if_neg h2]
    by_cases h1:a[k] < b[k]
    ·rw [if_pos h1] at hs
     exact ⟨_,cQ hs,.inr (by rw [e1,e2];simp [sA,h1])⟩
    ·by_cases h2:b[k] < a[k]
     ·rw [if_neg h1,if_pos h2] at hs
      exact ⟨_,cQ hs,.inr (by rw [e1,e2];simp [sA,h1,h2])⟩
     ·rw [if_neg h1,if_neg h2] at hs
      obtain ⟨r,r1,r2⟩:=ih (k+1) (by omega) (by omega)
      have:sA (a.drop k) (b.drop k)=sA (a.drop (k+1)) (b.drop (k+1)):=by rw [e1,e2];simp [sA,h1,h2]
      exact ⟨r,by rw [iV hs];exact r1,by rw [this];exact r2⟩
   ·refine ⟨.inl (),cQ ?_,.inl ⟨rfl,?_⟩⟩
    ·unfold kH oA
     rw [if_pos (bL hka),if_neg (by simp;omega)]
    ·rw [List.drop_eq_getElem_cons hka,List.drop_eq_nil_of_le (show b.length<=k by omega),if_neg (by omega),if_pos (by omega)];rfl
 obtain ⟨r,r1,r2⟩:=key a.length 0 (by omega) (by omega)
 have r1':loop (fun s:Int=>kH a b s) 0=some r:=r1
 rw [r1',aA]
 simp only [List.drop_zero] at r2
 rcases r2 with ⟨rfl,h⟩|rfl
 ·rw [h];exact j1
 ·rfl
theorem aRG {a b:GPoint} (ha:a.Values.length < 1000000) (hb:b.Values.length < 1000000):aAB a b=some (aCi a b):=by
 unfold aAB
 rw [cmpV_eq (by simp) (by simp),aA,cmpV_eq ha hb,aA]
 unfold aCi
 simp only [sA]
 by_cases h1:a.Definition < b.Definition
 ·simp [h1]
 ·by_cases h2:b.Definition < a.Definition
  ·simp [h1,h2]
  ·by_cases h3:a.Part < b.Part
   ·simp [h1,h2,h3]
   ·by_cases h4:b.Part < a.Part
    ·simp [h1,h2,h3,h4]
    ·simp [h1,h2,h3,h4]
noncomputable def cano (st:List GPoint):List GPoint:=srt tA st
theorem aSA (st:List GPoint):(cano st).Perm st:=List.mergeSort_perm _ _
theorem kP.cano {l:List Definition} {n:Nat} {st:List GPoint} (h:kP l n st):kP l n (cano st):=
 ⟨by rw [(aSA st).length_eq];exact h.1,fun p hp=>h.2 p ((aSA st).mem_iff.1 hp)⟩
theorem clone_eq {st:List GPoint} (hl:st.length < 1000000) (hv:∀ p∈st,p.Values.length < 1000000):oV st=some st:=by
 unfold oV
 rw [qO (step:=fun t:List GPoint × Int=>kJ st t.1 t.2) st id id (fun k out x hk ho hx=>?_) (fun out=>by simp only [kJ,bO];rfl),aA]
 ·simp [aCS]
 ·have hm:x∈st:=by rw [bH hk] at hx;cases hx;exact List.getElem_mem hk
  have:=hv x hm
  simp only [kJ,rS,bY,bL hk,if_true,hx,aA,eO (show ([]:List Int).length+x.Values.length<=gN by unfold gN;simp;omega),List.nil_append]
  rw [eO (by unfold gN;simp;omega),aA,bI hk (by omega)];rfl
theorem aTR {st:List GPoint} (hl:st.length < 1000000) (hv:∀ p∈st,p.Values.length < 1000000):aCw st=some (cano st):=by
 unfold aCw
 rw [clone_eq hl hv,aA]
 unfold aJZ
 rw [if_pos ⟨by unfold gN;omega,fun p hp=>by have:=hv p hp;unfold gN;omega⟩,aA]
 rfl
theorem shiftL {x:GPoint} {out:List GPoint} {at_:Nat} (ha:at_<=out.length) (hl:out.length < 1000000):∀ (j k:Nat) (o:List GPoint),k=at_+j->k<=out.length->o=out.take k++x::out.drop k->
  ∃ y,loop (fun s:List GPoint × Int=>oL (at_:Int) s.1 s.2) (o,(k:Int))=some (out.take at_++y::out.drop at_)
 |0,k,o,hk,hkl,ho=>by
  obtain rfl:k=at_:=by omega
  refine ⟨x,?_⟩
  rw [←ho]
  apply cQ
  show oL (k:Int) o (k:Int)=_
  unfold oL
  rw [if_neg (by simp)]
 |j+1,k,o,hk,hkl,ho=>by
  have hk1:k - 1 < out.length:=by omega
  have hol:o.length=out.length+1:=by rw [ho];simp;omega
  have e1:wr ((k:Int) - 1)=((k - 1:Nat):Int):=by rw [eV (by omega) (by omega)];omega
  have e2:o[k - 1]'(by omega)=out[k - 1]:=by
   subst ho
   rw [List.getElem_append_left (by simp;omega),List.getElem_take]
  have hs:oL (at_:Int) o (k:Int)=some (.inl (o.set k out[k - 1],((k - 1:Nat):Int))):=by
   unfold oL
   rw [if_pos (by simp;omega),e1,bH (show k - 1 < o.length by omega),aA,bH (show k < o.length by omega),aA,mL _ (show k < o.length by omega),aA,e2]
  rw [iV hs]
  refine shiftL (x:=out[k - 1]) ha hl j (k - 1) _ (by omega) (by omega) ?_
  subst ho
  rw [List.set_append_right _ _ (by simp;omega)]
  have hlen:(out.take k).length=k:=by simp;omega
  rw [hlen,Nat.sub_self,List.set_cons_zero]
  have h1:out.take k=out.take (k - 1)++[out[k - 1]]:=by
   have:=List.take_add_one (l:=out) (i:=k - 1)
   rw [show k - 1+1=k by omega,List.getElem?_eq_getElem hk1] at this
   exact this
  have h2:out.drop (k - 1)=out[k - 1]::out.drop k:=by
   have:=List.drop_eq_getElem_cons hk1
   rwa [show k - 1+1=k by omega] at this
  rw [h1,h2,List.append_assoc];rfl
theorem placeL {r4 out:List GPoint} {i:Nat} (hi:i < r4.length) (hl:out.length < 1000000) (hv:∀ p∈out,p.Values.length < 1000000) (hx:r4[i].Values.length < 1000000):∀ (j:Nat),j<=out.length->∃ at_,at_<=j/\
  loop (fun s:Int=>rM r4 out (i:Int) s) (j:Int)=some (at_:Int)/\(∀ m (hm:m < out.length),at_<=m->m < j->tA r4[i] out[m]=true)/\(∀ m (hm:m < out.length),at_=m+1->tA r4[i] out[m]=false)
 |0,hj=>by
  refine ⟨0,Nat.le_refl _,?_,fun m _ _ h=>absurd h (by omega),fun m _ h=>absurd h (by omega)⟩
  apply cQ
  show rM r4 out (i:Int) ((0:Nat):Int)=_
  unfold rM aAC
  rw [if_neg (by simp),if_neg (by simp)]
 |j+1,hj=>by
  have hj1:j < out.length:=by omega
  have e1:wr (((j+1:Nat):Int) - 1)=(j:Int):=by rw [eV (by omega) (by omega)];omega
  have hs:rM r4 out (i:Int) ((j+1:Nat):Int)=if tA r4[i] out[j]=true then some (.inl (j:Int)) else some (.inr ((j+1:Nat):Int)):=by
   unfold rM aAC
   rw [if_pos (by simp only [decide_eq_true_eq];omega),bH hi,aA,e1,bH hj1,aA,aRG hx (hv _ (List.getElem_mem hj1)),aA]
   rfl
  by_cases hlt:tA r4[i] out[j]=true
  ·rw [if_pos hlt] at hs
   obtain ⟨at_,a1,a2,a3,a4⟩:=placeL hi hl hv hx j (by omega)
   refine ⟨at_,by omega,by rw [iV hs];exact a2,fun m hm h1 h2=>?_,a4⟩
   by_cases e:m=j
   ·subst e;exact hlt
   ·exact a3 m hm h1 (by omega)
  ·rw [if_neg hlt] at hs
   refine ⟨j+1,Nat.le_refl _,cQ hs,fun m hm h1 h2=>by omega,fun m hm e=>?_⟩
   obtain rfl:m=j:=by omega
   rw [Bool.not_eq_true] at hlt
   exact hlt
def OrdP (l:List GPoint):Prop:=l.Pairwise fun a b=>(!tA b a)=true
theorem ptLe_tr {a b c:GPoint} (h1:tA b a=false) (h2:tA c b=false):tA c a=false:=by
 cases hx:tA c a with
 |false=>rfl
 |true=>
  rcases aQH a b with g|g|g
  ·have:=aNd hx g;rw [h2] at this;cases this
  ·subst g;rw [h2] at hx;cases hx
  ·rw [h1] at g;cases g
theorem ptLt_as {a b:GPoint} (h:tA a b=true):tA b a=false:=by
 cases hx:tA b a with
 |false=>rfl
 |true=>have:=aNd h hx;rw [aQG] at this;cases this
theorem ins_ord {out:List GPoint} {x:GPoint} {at_:Nat} (ha:at_<=out.length) (ho:OrdP out) (h1:∀ m (hm:m < out.length),at_<=m->tA x out[m]=true) (h2:∀ h:0 < at_,tA x (out[at_ - 1]'(by omega))=false):OrdP (out.take at_++x::out.drop at_):=by
 unfold OrdP at ho ⊢
 rw [List.pairwise_append,List.pairwise_cons]
 refine ⟨ho.sublist (List.take_sublist _ _),⟨fun b hb=>?_,ho.sublist (List.drop_sublist _ _)⟩,fun a ha' b hb=>?_⟩
 ·obtain ⟨m,hm,rfl⟩:=List.getElem_of_mem hb
  rw [List.length_drop] at hm
  rw [List.getElem_drop,ptLt_as (h1 (at_+m) (by omega) (by omega))];rfl
 ·obtain ⟨m,hm,rfl⟩:=List.getElem_of_mem ha'
  rw [List.length_take] at hm
  rw [List.getElem_take]
  have hx:tA x out[m]=false:=by
   have h3:=h2 (by omega)
   by_cases e:m=at_ - 1
   ·subst e;exact h3
   ·have:=List.pairwise_iff_getElem.1 ho m (at_ - 1) (by omega) (by omega) (by omega)
    simp only [Bool.not_eq_eq_eq_not,Bool.not_true] at this
    exact ptLe_tr this h3
  rcases List.mem_cons.1 hb with rfl|hb
  ·rw [hx];rfl
  ·obtain ⟨q,hq,rfl⟩:=List.getElem_of_mem hb
   rw [List.length_drop] at hq
   rw [List.getElem_drop]
   exact List.pairwise_iff_getElem.1 ho m (at_+q) (by omega) (by omega) (by omega)
theorem aRd {st:List GPoint} (hl:st.length < 100000) (hv:∀ p∈st,p.Values.length < 1000000):aEf st=some (cano st):=by
 unfold aEf
 rw [aGR _ (by omega) hv,aA]
 have key:=xL (step:=fun s:List GPoint × Int=>oM st s.1 s.2) st.length (fun k (o:List GPoint)=>(o,(k:Int))) (fun k o=>o.Perm (st.take k)/\OrdP o) (fun r=>r.Perm st/\OrdP r) (fun k o hk hI=>?_) (fun o hI=>?_) st.length 0 [] (by omega) ⟨by simp,List.Pairwise.nil⟩
 ·obtain ⟨r,h1,h2,h3⟩:=key
  have h1':loop (fun s:List GPoint × Int=>oM st s.1 s.2) ([],0)=some r:=h1
  rw [h1',aA]
  exact congrArg some (srtP_of h2 h3)
 ·obtain ⟨hp,ho⟩:=hI
  have hol:o.length=k:=by rw [hp.length_eq,List.length_take];omega
  have hvo:∀ p∈o,p.Values.length < 1000000:=fun p hp'=>hv p (List.mem_of_mem_take (hp.mem_iff.1 hp'))
  obtain ⟨at_,a1,a2,a3,a4⟩:=placeL (r4:=st) (out:=o) hk (by omega) hvo (hv _ (List.getElem_mem hk)) o.length (Nat.le_refl _)
  have hz:∃ y,loop (fun s:List GPoint × Int=>oL (at_:Int) s.1 s.2) (o++[⟨0,0,[]⟩],(o.length:Int))=some (o.take at_++y::o.drop at_):=shiftL (x:=⟨0,0,[]⟩) a1 (by omega) (o.length - at_) o.length _ (by omega) (Nat.le_refl _) (by simp)
  obtain ⟨y,hy⟩:=hz
  have hlen:(o.take at_).length=at_:=by simp;omega
  refine ⟨o.take at_++st[k]::o.drop at_,?_,?_,?_⟩
  ·show oM st o (k:Int)=_
   unfold oM
   rw [if_pos (bL hk),a2,aA]
   unfold aDO
   have hw:wr (((o++[(⟨0,0,[]⟩:GPoint)]).length:Int) - 1)=(o.length:Int):=by
    have:(o++[(⟨0,0,[]⟩:GPoint)]).length=o.length+1:=by simp
    rw [this,eV (by omega) (by omega)];omega
   rw [eO (by unfold gN;simp;omega),aA,hw,hy,aA]
   unfold aDN aDM
   have hin:at_ < (o.take at_++y::o.drop at_).length:=by simp;omega
   rw [bH hk,aA,bH hin,aA,mL _ hin,aA,bI hk (by omega),List.set_append_right _ _ (by omega),hlen,Nat.sub_self,List.set_cons_zero]
  ·have ht:st.take (k+1)=st.take k++[st[k]]:=by rw [List.take_add_one,List.getElem?_eq_getElem hk];rfl
   rw [ht]
   refine (List.perm_middle).trans ?_
   rw [List.take_append_drop]
   exact (List.Perm.cons _ hp).trans (List.perm_append_singleton _ _).symm
  ·exact ins_ord a1 ho (fun m hm h=>a3 m hm h hm) fun h=>a4 (at_ - 1) (by omega) (by omega)
 ·obtain ⟨hp,ho⟩:=hI
  refine ⟨o,?_,by simpa using hp,ho⟩
  show oM st o (st.length:Int)=_
  unfold oM
  rw [if_neg (by simp)]
end Gv
namespace Gv
open Go
section
variable {l:List Definition} (hD:lQ l) {n:Nat} (hn:n<=3)
noncomputable def caL (x:List (List GPoint)):List (List GPoint):=x.map cano
theorem aNv {x:List (List GPoint)} {i:Nat} (hi:i < x.length):(caL x)[i]'(by unfold caL;simpa using hi)=cano x[i]:=by unfold caL;simp
theorem vS (x:List (List GPoint)):(caL x).length=x.length:=by unfold caL;simp
include hD hn
theorem key_ker {x:List (List GPoint)} (hx:∀ p∈x,kP l n p):Ker ((caL x).map rX) (caL x):=by
 refine ⟨by simp,fun i j hi hj=>?_⟩
 rw [List.length_map] at hi hj
 rw [List.getElem?_map,List.getElem?_map,List.getElem?_eq_getElem hi,List.getElem?_eq_getElem hj]
 simp only [Option.map_some,Option.some.injEq]
 rw [vS] at hi hj
 constructor
 ·intro h
  rw [aNv hi,aNv hj] at h ⊢
  exact aSz hD _ _ (hx _ (List.getElem_mem hi)).cano (hx _ (List.getElem_mem hj)).cano h
 ·intro h;rw [h]
theorem part_i {r:iZ × List (List GPoint) × Int} (hl:r.2.1.length<=40) (hx:∀ p∈r.2.1,kP l n p):
  loop (fun (s:((List (aO × Int)) × List Int × Int))=>fG r s.1 s.2.1 s.2.2) (([]:(List (aO × Int))),[],0)=some (cn (caL r.2.1)):=by
 obtain ⟨t,x,c⟩:=r
 simp only at hl hx ⊢
 rw [←aQP (key_ker hD hn hx)]
 have hKl:((caL x).map rX).length=x.length:=by simp [vS]
 have key:=xL (step:=fun (s:((List (aO × Int)) × List Int × Int))=>fG (t,x,c) s.1 s.2.1 s.2.2) x.length (fun k (s:List (aO × Int) × List Int)=>(s.1,s.2,(k:Int)))
  (fun k s=>s=(mq 0 (dd (((caL x).map rX).take k)),cn (((caL x).map rX).take k))) (fun q=>q=cn ((caL x).map rX)) (fun k s hk hI=>?_) (fun s hI=>?_) x.length 0 ([],[]) (by omega) rfl
 ·obtain ⟨q,h1,rfl⟩:=key
  exact h1
 ·subst hI
  have hkK:k < ((caL x).map rX).length:=by omega
  have hkc:k < (caL x).length:=by rw [vS];exact hk
  have hp:=hx _ (List.getElem_mem hk)
  have hpl:=hp.1
  have t1:((caL x).map rX).take (k+1)=((caL x).map rX).take k++[rX (cano x[k])]:=by
   rw [List.take_add_one,List.getElem?_eq_getElem hkK,List.getElem_map,aNv hk];rfl
  refine ⟨_,?_,rfl⟩
  show fG (t,x,c) (mq 0 (dd (((caL x).map rX).take k))) (cn (((caL x).map rX).take k)) (k:Int)=_
  have hcl:(cn (((caL x).map rX).take k)).length=k:=by rw [aJN,List.length_take];omega
  unfold fG jZ
  rw [if_pos (bL hk),bH hk,aA,aTR (by omega) hp.val,aA,aJS (by rw [(hp.cano).1];omega) (hp.cano.ok hD),aA,mq_len,aA,bI hk (by omega),t1,aPu,aHM,aOd]
  unfold aJL
  rw [List.map_id]
  generalize rX (cano x[k])=K at *
  by_cases hm:K∈dd (((caL x).map rX).take k)
  ·rw [mget_in hm,if_neg (by simp),if_pos hm,if_pos (show id K∈_ from hm),eO (by unfold gN;simp;omega),aA];rfl
  ·have hp:=aTt (k:=0) hm
   rw [Nat.zero_add] at hp
   rw [aUP hm,if_pos (by simp),if_neg hm,if_neg (show ¬ id K∈_ from hm),hp]
   have hg:iQ (mq 0 (dd (((caL x).map rX).take k)++[K])) K=some ((dd (((caL x).map rX).take k)).length:Int):=by
    rw [←hp,aLV,if_pos rfl]
   rw [hg,eO (by unfold gN;simp;omega),aA];rfl
 ·subst hI
  refine ⟨_,?_,rfl⟩
  show fG (t,x,c) _ _ (x.length:Int)=_
  unfold fG
  rw [if_neg (by simp),←hKl,List.take_length]
theorem find_s {r:iZ × List (List GPoint) × Bool} (hl:r.2.1.length<=40) (hx:∀ p∈r.2.1,kP l n p) {i:Nat} (hi:i < r.2.1.length):
  ∀ (j k:Nat),k+j=i->(∀ m (hm:m < k) (hmx:m < r.2.1.length),(caL r.2.1)[m]'(by rw [vS];exact hmx)≠(caL r.2.1)[i]'(by rw [vS];exact hi))->loop (fun s:Int=>gG r ((fi (caL r.2.1)).take i) (i:Int) s) (k:Int)=some (pos (caL r.2.1) ((caL r.2.1)[i]'(by rw [vS];exact hi))):=by
 obtain ⟨t,x,c⟩:=r
 simp only at hl hx hi ⊢
 have hic:i < (caL x).length:=by rw [vS];exact hi
 intro j
 induction j with
 |zero=>
  intro k hk hn0
  obtain rfl:k=i:=by omega
  have:pos (caL x) (caL x)[k]=(k:Int):=by
   rw [pos_take hic,if_neg]
   intro hm
   obtain ⟨m,hm1,hm2⟩:=List.getElem_of_mem hm
   rw [List.length_take] at hm1
   rw [List.getElem_take] at hm2
   exact hn0 m (by omega) (by omega) hm2
  rw [this]
  apply cQ
  unfold gG
  rw [if_neg (by simp)]
 |succ j ih=>
  intro k hk hn0
  have hki:k < i:=by omega
  have hkx:k < x.length:=by omega
  have hkc:k < (caL x).length:=by rw [vS];omega
  have hp:=hx _ (List.getElem_mem hi)
  have hq:=hx _ (List.getElem_mem hkx)
  have h1:=hp.1
  have h2:=hq.1
  have hft:k < ((fi (caL x)).take i).length:=by rw [List.length_take,fi_len,vS];omega
  have hfe:((fi (caL x)).take i)[k]=pos (caL x) (caL x)[k]:=by rw [List.getElem_take];unfold fi;rw [List.getElem_map]
  have hs:gG (t,x,c) ((fi (caL x)).take i) (i:Int) (k:Int)=if (caL x)[i]=(caL x)[k] then some (.inr (pos (caL x) (caL x)[k])) else some (.inl ((k+1:Nat):Int)):=by
   unfold gG
   rw [if_pos (bL hki),bH hi,aA,bH hkx,aA,aRd (by omega) hp.val,aA,aRd (by omega) hq.val,aA,aLU _ _ (by rw [hp.cano.1];omega) hp.cano.val,aA,bH hft,aA,hfe,bI hki (by omega),aNv hi,aNv hkx]
   by_cases e:cano x[i]=cano x[k]
   ·rw [decide_eq_true e,if_pos rfl,if_pos e]
   ·rw [decide_eq_false e,if_neg (by simp),if_neg e]
  by_cases e:(caL x)[i]=(caL x)[k]
  ·rw [if_pos e] at hs
   rw [cQ hs,e]
  ·rw [if_neg e] at hs
   rw [iV hs]
   exact ih (k+1) (by omega) fun m hm hmx=>by
    by_cases h:m=k
    ·subst h;exact fun h=>e h.symm
    ·exact hn0 m (by omega) hmx
theorem part_s {r:iZ × List (List GPoint) × Bool} (hl:r.2.1.length<=40) (hx:∀ p∈r.2.1,kP l n p):
  loop (fun (s:(List Int × Int))=>fA r s.1 s.2) (([]:List Int),0)=some (fi (caL r.2.1)):=by
 have hfl:(fi (caL r.2.1)).length=r.2.1.length:=by rw [fi_len,vS]
 have key:=xL (step:=fun (s:(List Int × Int))=>fA r s.1 s.2) r.2.1.length (fun k (s:List Int)=>(s,(k:Int)))
  (fun k s=>s=(fi (caL r.2.1)).take k) (fun q=>q=fi (caL r.2.1)) (fun k s hk hI=>?_) (fun s hI=>?_) r.2.1.length 0 [] (by omega) rfl
 ·obtain ⟨q,h1,rfl⟩:=key
  exact h1
 ·subst hI
  refine ⟨_,?_,rfl⟩
  show fA r ((fi (caL r.2.1)).take k) (k:Int)=_
  have hf:=find_s hD hn hl hx hk k 0 (by omega) (fun m hm _=>by omega)
  have hf':loop (fun s:Int=>gG r ((fi (caL r.2.1)).take k) (k:Int) s) 0=_:=hf
  unfold fA
  rw [if_pos (bL hk),hf',aA]
  unfold rN mO
  rw [eO (by unfold gN;simp;omega),aA,bI hk (by omega)]
  have:(fi (caL r.2.1)).take (k+1)=(fi (caL r.2.1)).take k++[pos (caL r.2.1) ((caL r.2.1)[k]'(by rw [vS];exact hk))]:=by
   rw [List.take_add_one,List.getElem?_eq_getElem (by omega)]
   unfold fi
   rw [List.getElem_map];rfl
  rw [this]
 ·subst hI
  refine ⟨_,?_,rfl⟩
  show fA r _ (r.2.1.length:Int)=_
  unfold fA
  rw [if_neg (by simp),←hfl,List.take_length]
end
theorem good_sy {s:bE} (hz:zSys s<=sz) (h:SysOk s):aJU s:=by
 have hf:=aJP hz
 have h5:=hf.5;have h7:=hf.7;have h9:=hf.9
 unfold sz at h5 h7 h9
 exact ⟨h,by omega,by omega,by omega⟩
theorem sym_both {s:bE} (hz:zSys s<=sz):∃ xs c,kB s=some (xs,c)/\mC s=some (xs,c)/\xs.length<=40:=by
 obtain ⟨B,v1,v2,v3⟩:=aWH hz
 unfold kB mC aCT
 rw [v1,v2,aA,aA]
 cases B with
 |false=>exact ⟨[],1,rfl,rfl,by simp⟩
 |true=>
  have hs:=good_sy hz (v3 rfl)
  have hn3:=hs.ok.n3
  rw [if_neg (by simp),if_neg (by simp)]
  rcases sys_both hs with ⟨t,x,g1,g2,g3,g4,g5,g6,g7,g8⟩|⟨t,x,u,y,g1,g2⟩
  ·rw [g1,g2,aA,aA,if_neg (by simp),aA,if_neg (by simp),if_neg (by simp)]
   rw [part_i hs.ok.defs hn3 (r:=(t,x,0)) g5 g8,aA,part_s hs.ok.defs hn3 (r:=(t,x,true)) g5 g8,aA]
   unfold rT mN
   have hl1:(cn (caL x)).length=x.length:=by rw [aJN,vS]
   have hl2:(fi (caL x)).length=x.length:=by rw [fi_len,vS]
   rw [normal_eq _ (by rw [hl1];omega),norm_eq _ (by rw [hl2];omega),cn_fi,aA,aA,aQP (cn_ker (caL x))]
   exact ⟨_,0,rfl,rfl,by rw [hl1];exact g5⟩
  ·rw [g1,g2,aA,aA,if_pos (by simp),aA,if_pos (by simp),if_pos (by simp)]
   exact ⟨[],5,rfl,rfl,by simp⟩
theorem lawSym (aS:bE) (h:aNl 9223372036854775807 aS):kA aS=some true:=by
 obtain ⟨r,hr,h1⟩:=aRD h
 unfold kA
 rw [hr,aA]
 by_cases hn:r < 0
 ·rw [if_pos (by simpa using hn)]
 rw [if_neg (by simpa using hn)]
 have hz:=h1 (by omega)
 have hf:=aJP hz
 have ht:rO aS=some aS:=aVd (aJP (n:=gN) (by unfold sz at hz;unfold gN;omega))
 obtain ⟨xs,c,g1,g2,g3⟩:=sym_both hz
 have e1:=aOF xs xs (by omega)
 have e3:=aVf aS aS hf
 rw [decide_eq_true rfl] at e1 e3
 obtain ⟨k,m1,m2⟩:=aRF hz
 have n1:=aLa (a:=xs) (k:=1) (by omega) (by omega) (by omega)
 have n2:=aRw (n:=xs.length) (k:=1) (by omega) (by omega) (by omega)
 have hbne:(c != c)=false:=by simp
 rw [ht,aA,g2,aA,aA,g1,aA,e1,aA,if_neg (by simp),hbne]
 unfold gD
 rw [if_neg (by simp),ht,aA,e3,aA,if_neg (by simp),m1,aA,if_neg (by simp;omega),e1,aA,if_neg (by simp),hbne]
 unfold eT
 rw [if_neg (by simp),n1,aA]
 simp only
 rw [n2,aA,if_neg (by simp;omega),if_neg (by simp),ht,aA,g1,aA,e1,aA,if_neg (by simp),hbne]
 unfold gC
 simp only
 rw [if_neg (by simp),n2,aA,if_neg (by simp;omega),if_neg (by simp)]
end Gv
