/- A system is explored: what both sides do, whatever the states are. -/
import Derived.Test.YtokmmhfhaoanmaaGreatDoorJP340
import Derived.Test.YtokmmhfhaoanmaaGreatDoorJLW
set_option linter.all false
namespace Gv
open Go
theorem aUA {β:Type} [DecidableEq β] {l:List β} {x y:β}:y∈dF l x<->y∈l\/y=x:=by
 unfold dF
 split
 ·rename_i h
  exact ⟨.inl,fun g=>g.elim id (fun e=>e ▸ h)⟩
 ·simp
theorem addU_of {β:Type} [DecidableEq β] {l:List β} {x:β} (h:x∈l):dF l x=l:=if_pos h
theorem aUB {β:Type} [DecidableEq β] {l:List β} {x:β} (h:x∉l):dF l x=l++[x]:=if_neg h
theorem aNK {β:Type} [DecidableEq β] {y:β}:∀ (xs l:List β),y∈xs.foldl dF l<->y∈l\/y∈xs
 |[],l=>by simp
 |x::xs,l=>by
  rw [List.foldl_cons,aNK xs,aUA,List.mem_cons,or_assoc]
theorem aJp {β:Type} [DecidableEq β]:∀ (xs:List β) {l:List β},l.Nodup->(xs.foldl dF l).Nodup
 |[],_,h=>h
 |x::xs,_,h=>aJp xs (aLn h)
theorem pos_addU {T:List aH} {s u:aH} (h:s∈T):pos (dF T u) s=pos T s:=by
 have hs:s∈dF T u:=aUA.2 (.inl h)
 obtain ⟨i,hi,h1,h2⟩:=xL h
 obtain ⟨j,hj,h3,h4⟩:=xL hs
 unfold dF at *
 split
 ·rfl
 ·rename_i hu
  rw [if_neg hu] at *
  unfold pos
  rw [List.findIdx?_append]
  have:T.findIdx? (fun x=>s == x)≠none:=by
   rw [Ne,List.findIdx?_eq_none_iff]
   intro hn
   have:=hn s h
   simp at this
  cases hf:T.findIdx? (fun x=>s == x) with
  |none=>exact absurd hf this
  |some k=>rfl
section
variable {β:Type} [DecidableEq β]
def aHW (ok:β->Prop) (key:β->aH) (x:List β) (M:List (aH × Int)):Prop:=∀ p,ok p->qL M (key p)=(whr x p).map fun i=>(i:Int)
theorem numK_put {ok:β->Prop} {key:β->aH} (hk:∀ p q,ok p->ok q->key p=key q->p=q) {x:List β} {M:List (aH × Int)} {p:β} (h:aHW ok key x M) (hp:ok p) (hn:whr x p=none):aHW ok key (x++[p]) (vA M (key p) (x.length:Int)):=by
 intro q hq
 rw [aQl,whr_app,h q hq]
 by_cases e:key q=key p
 ·have:=hk _ _ hq hp e
  subst this
  rw [if_pos rfl,hn];simp
 ·have hne:p≠q:=fun h=>e (by rw [h])
  rw [if_neg e,if_neg hne]
  cases whr x q<;>rfl
def goS (i:Int):List (aH × β)->List β × List lN->List β × List lN
 |[],q=>q
 |y::ys,q=>goS i ys (dF q.1 y.2,q.2++[⟨i,y.1,(qK q.1 y.2:Int)⟩])
theorem numU_lt (x:List β) (p:β):qK x p < (dF x p).length:=(List.getElem?_eq_some_iff.1 (numU_at x p)).1
theorem addU_pre (x:List β) (p:β):x <+:dF x p:=by
 unfold dF;split
 ·exact List.prefix_refl _
 ·exact List.prefix_append _ _
theorem aSR {i:Int}:∀ (Y:List (aH × β)) (q:List β × List lN),q.1 <+:(goS i Y q).1/\q.2 <+:(goS i Y q).2
 |[],q=>⟨List.prefix_refl _,List.prefix_refl _⟩
 |y::ys,q=>by
  obtain ⟨h1,h2⟩:=aSR ys (dF q.1 y.2,q.2++[⟨i,y.1,(qK q.1 y.2:Int)⟩])
  exact ⟨(addU_pre _ _).trans h1,(List.prefix_append _ _).trans h2⟩
theorem goS_len {i:Int}:∀ (Y:List (aH × β)) (q:List β × List lN),(goS i Y q).1.length<=q.1.length+Y.length/\(goS i Y q).2.length=q.2.length+Y.length
 |[],q=>⟨Nat.le_refl _,rfl⟩
 |y::ys,q=>by
  obtain ⟨h1,h2⟩:=goS_len (i:=i) ys (dF q.1 y.2,q.2++[⟨i,y.1,(qK q.1 y.2:Int)⟩])
  have:=(wQ q.1 y.2).2
  simp only [List.length_append,List.length_cons,List.length_nil] at h1 h2 ⊢
  unfold goS
  omega
structure Fnd (ok:β->Prop) (P:aH->Prop) (i:Nat) (q:List β × List lN):Prop where
 g:∀ p∈q.1,ok p
 nd:q.1.Nodup
 ar:∀ a∈q.2,∃ f t:Nat,a.from_=(f:Int)/\a.to_=(t:Int)/\f < i/\t < q.1.length/\P a.label
theorem Fnd.mono {ok:β->Prop} {P:aH->Prop} {i j:Nat} {q:List β × List lN} (h:Fnd ok P i q) (hij:i<=j):Fnd ok P j q:=
 ⟨h.g,h.nd,fun a ha=>by obtain ⟨f,t,h1,h2,h3,h4⟩:=h.ar a ha;exact ⟨f,t,h1,h2,by omega,h4⟩⟩
theorem fnd_add {ok:β->Prop} {P:aH->Prop} {i:Nat} {q:List β × List lN} {y:aH × β} (h:Fnd ok P (i+1) q) (hy:P y.1/\ok y.2):Fnd ok P (i+1) (dF q.1 y.2,q.2++[⟨(i:Int),y.1,(qK q.1 y.2:Int)⟩]):=by
 refine ⟨aEB h.g hy.2,aLn h.nd,fun a ha=>?_⟩
 have hl:=wQ q.1 y.2
 rcases List.mem_append.1 ha with ha|ha
 ·obtain ⟨f,t,h1,h2,h3,h4,h5⟩:=h.ar a ha
  exact ⟨f,t,h1,h2,h3,by simp only;omega,h5⟩
 ·rw [List.mem_singleton.1 ha]
  exact ⟨i,qK q.1 y.2,rfl,rfl,by omega,numU_lt _ _,hy.1⟩
theorem fnd_go {ok:β->Prop} {P:aH->Prop} {i:Nat}:∀ (Y:List (aH × β)) {q:List β × List lN},Fnd ok P (i+1) q->(∀ y∈Y,P y.1/\ok y.2)->Fnd ok P (i+1) (goS (i:Int) Y q)
 |[],_,h,_=>h
 |y::ys,_,h,hY=>fnd_go ys (fnd_add h (hY y (by simp))) fun z hz=>hY z (List.mem_cons_of_mem _ hz)
end
def yS (A:List lN):List aH:=(A.map (·.label)).foldl dF [bS]
def edT (T:List aH) (a:lN):Edge:=⟨a.from_,pos T a.label,a.to_⟩
def edA (A:List lN):List Edge:=(A.map (edT (yS A))).foldl dF []
theorem aSS (A:List lN) (a:lN):yS (A++[a])=dF (yS A) a.label:=by unfold yS;simp
theorem aDl {A:List lN} {s:aH}:s∈yS A<->s=bS\/s∈A.map (·.label):=by unfold yS;rw [aNK];simp
theorem aRB (A:List lN):(yS A).Nodup:=aJp _ (by simp)
theorem edA_app (A:List lN) (a:lN):edA (A++[a])=dF (edA A) (edT (dF (yS A) a.label) a):=by
 unfold edA
 rw [aSS,List.map_append,List.foldl_append]
 have:A.map (edT (dF (yS A) a.label))=A.map (edT (yS A)):=by
  apply List.map_congr_left
  intro b hb
  unfold edT
  rw [pos_addU (aDl.2 (.inr (List.mem_map_of_mem hb)))]
 rw [this];rfl
theorem aFp {A:List lN} {e:Edge}:e∈edA A<->∃ a∈A,edT (yS A) a=e:=by unfold edA;rw [aNK];simp
theorem aRC (A:List lN):(edA A).Nodup:=aJp _ (by simp)
theorem edA_len (A:List lN):(edA A).length<=A.length:=by
 have:=List.Nodup.length_le_of_subset (aRC A) (l₂:=A.map (edT (yS A))) (fun x hx=>by
  obtain ⟨a,h1,h2⟩:=aFp.1 hx
  exact List.mem_map.2 ⟨a,h1,h2⟩)
 simpa using this
theorem txA_len (A:List lN):(yS A).length<=A.length+1:=by
 have:=List.Nodup.length_le_of_subset (aRB A) (l₂:=bS::A.map (·.label)) (fun x hx=>by
  rcases aDl.1 hx with h|h
  ·simp [h]
  ·exact List.mem_cons_of_mem _ h)
 simpa using this
theorem tx_mono:∀ (B A:List lN),(yS A).length<=(yS (A++B)).length/\(edA A).length<=(edA (A++B)).length
 |[],A=>by simp
 |b::B,A=>by
  have h:=tx_mono B (A++[b])
  rw [List.append_assoc,List.singleton_append] at h
  have h1:=(wQ (yS A) b.label).1
  have h2:=(wQ (edA A) (edT (dF (yS A) b.label) b)).1
  rw [←aSS] at h1
  rw [←edA_app] at h2
  omega
def bdB {β:Type} (q:List β × List lN):Bool:=decide (q.1.length<=40)&&decide ((yS q.2).length<=12)&&decide ((edA q.2).length<=300)
theorem aDm {β:Type} {q:List β × List lN}:bdB q=true<->q.1.length<=40/\(yS q.2).length<=12/\(edA q.2).length<=300:=by unfold bdB;simp [and_assoc]
theorem bd_pre {β:Type} {q r:List β × List lN} (h1:q.1 <+:r.1) (h2:q.2 <+:r.2) (h:bdB q=false):bdB r=false:=by
 cases hr:bdB r with
 |false=>rfl
 |true=>
  obtain ⟨a,b,c⟩:=aDm.1 hr
  obtain ⟨B,hB⟩:=h2
  have:=tx_mono B q.2
  rw [hB] at this
  have h1:=h1.length_le
  rw [←Bool.not_eq_true,aDm] at h
  omega
section
variable {β:Type} [DecidableEq β] {ok:β->Prop} {key:β->aH} {P:aH->Prop}
theorem inP {pin:(List β × List (aH × Int) × List lN × Int)->Option ((List β × List (aH × Int) × List lN × Int) ⊕ (List β × List (aH × Int) × List lN))} {Y:List (aH × β)} {i:Int}
  (h1:∀ (k:Nat) (x:List β) (M:List (aH × Int)) (A:List lN) (hk:k < Y.length),aHW ok key x M->x.length < 100000000->A.length < 100000000->∃ M',pin (x,M,A,(k:Int))=some (.inl (dF x Y[k].2,M',A++[⟨i,Y[k].1,(qK x Y[k].2:Int)⟩],((k+1:Nat):Int)))/\aHW ok key (dF x Y[k].2) M')
  (h2:∀ x M A,pin (x,M,A,(Y.length:Int))=some (.inr (x,M,A))):
  ∀ (j k:Nat) (x:List β) (M:List (aH × Int)) (A:List lN),k+j=Y.length->aHW ok key x M->x.length+j<=50000000->A.length+j<=50000000->
   ∃ M',loop pin (x,M,A,(k:Int))=some ((goS i (Y.drop k) (x,A)).1,M',(goS i (Y.drop k) (x,A)).2)/\aHW ok key (goS i (Y.drop k) (x,A)).1 M'
 |0,k,x,M,A,hk,hN,_,_=>by
  obtain rfl:k=Y.length:=by omega
  refine ⟨M,?_,?_⟩
  ·rw [List.drop_length];exact bA (h2 x M A)
  ·rw [List.drop_length];exact hN
 |j+1,k,x,M,A,hk,hN,hx,hA=>by
  have hkY:k < Y.length:=by omega
  obtain ⟨M1,e1,e2⟩:=h1 k x M A hkY hN (by omega) (by omega)
  have:=(wQ x Y[k].2).2
  obtain ⟨M',e3,e4⟩:=inP h1 h2 j (k+1) (dF x Y[k].2) M1 (A++[⟨i,Y[k].1,(qK x Y[k].2:Int)⟩]) (by omega) e2 (by omega) (by simp;omega)
  refine ⟨M',?_,?_⟩
  ·rw [fD e1,e3,List.drop_eq_getElem_cons hkY];rfl
  ·rw [List.drop_eq_getElem_cons hkY];exact e4
theorem inR {ρ:Type} {fail:ρ} {rin:(List β × List aH × List Edge × Int)->Option ((List β × List aH × List Edge × Int) ⊕ ((List β × List aH × List Edge) ⊕ ρ))} {Y:List (aH × β)} {i:Nat} (hY:∀ y∈Y,P y.1/\ok y.2)
  (h1:∀ (k:Nat) (x:List β) (T:List aH) (E:List Edge) (hk:k < Y.length),(∀ p∈x,ok p)->x.Nodup->x.length<=40->T.length<=12->E.length<=300->
   rin (x,T,E,(k:Int))=some (if 40 < (dF x Y[k].2).length\/12 < (dF T Y[k].1).length\/300 < (dF E ⟨(i:Int),pos (dF T Y[k].1) Y[k].1,(qK x Y[k].2:Int)⟩).length then .inr (.inr fail) else .inl (dF x Y[k].2,dF T Y[k].1,dF E ⟨(i:Int),pos (dF T Y[k].1) Y[k].1,(qK x Y[k].2:Int)⟩,((k+1:Nat):Int))))
  (h2:∀ x T E,rin (x,T,E,(Y.length:Int))=some (.inr (.inl (x,T,E)))):
  ∀ (j k:Nat) (q:List β × List lN),k+j=Y.length->Fnd ok P (i+1) q->bdB q=true->
   loop rin (q.1,yS q.2,edA q.2,(k:Int))=some (if bdB (goS (i:Int) (Y.drop k) q)=true then .inl ((goS (i:Int) (Y.drop k) q).1,yS (goS (i:Int) (Y.drop k) q).2,edA (goS (i:Int) (Y.drop k) q).2) else .inr fail)
 |0,k,q,hk,hF,hb=>by
  obtain rfl:k=Y.length:=by omega
  rw [List.drop_length]
  unfold goS
  rw [if_pos hb]
  exact bA (h2 _ _ _)
 |j+1,k,q,hk,hF,hb=>by
  have hkY:k < Y.length:=by omega
  obtain ⟨b1,b2,b3⟩:=aDm.1 hb
  have hs:=h1 k q.1 (yS q.2) (edA q.2) hkY hF.g hF.nd b1 b2 b3
  have hF':=fnd_add (y:=Y[k]) hF (hY _ (List.getElem_mem hkY))
  have hT:dF (yS q.2) Y[k].1=yS (q.2++[⟨(i:Int),Y[k].1,(qK q.1 Y[k].2:Int)⟩]):=by rw [aSS]
  have hE:dF (edA q.2) ⟨(i:Int),pos (dF (yS q.2) Y[k].1) Y[k].1,(qK q.1 Y[k].2:Int)⟩=edA (q.2++[⟨(i:Int),Y[k].1,(qK q.1 Y[k].2:Int)⟩]):=by rw [edA_app];rfl
  have hgo:goS (i:Int) (Y.drop k) q=goS (i:Int) (Y.drop (k+1)) (dF q.1 Y[k].2,q.2++[⟨(i:Int),Y[k].1,(qK q.1 Y[k].2:Int)⟩]):=by rw [List.drop_eq_getElem_cons hkY];rfl
  rw [hE,hT] at hs
  rw [hgo]
  by_cases hb':bdB (dF q.1 Y[k].2,q.2++[(⟨(i:Int),Y[k].1,(qK q.1 Y[k].2:Int)⟩:lN)])=true
  ·obtain ⟨c1,c2,c3⟩:=aDm.1 hb'
   simp only at c1 c2 c3
   rw [if_neg (by omega)] at hs
   rw [fD hs]
   exact inR hY h1 h2 j (k+1) (dF q.1 Y[k].2,q.2++[⟨(i:Int),Y[k].1,(qK q.1 Y[k].2:Int)⟩]) (by omega) hF' hb'
  ·have hb2:=hb'
   rw [aDm] at hb2
   simp only at hb2
   rw [if_pos (by omega)] at hs
   rw [bA hs]
   have hpre:=aSR (i:=(i:Int)) (Y.drop (k+1)) (dF q.1 Y[k].2,q.2++[⟨(i:Int),Y[k].1,(qK q.1 Y[k].2:Int)⟩])
   rw [Bool.not_eq_true] at hb'
   rw [bd_pre hpre.1 hpre.2 hb',if_neg (by simp)]
def endP {ρ:Type} (failP:ρ) (M':List (aH × Int)):Option (List β × List lN)->(List β × List (aH × Int) × List lN) ⊕ ρ
 |none=>.inr failP
 |some q=>.inl (q.1,M',q.2)
def endR {ρ:Type} (failR:ρ):Option (List β × List lN)->(List β × List aH × List Edge) ⊕ ρ
 |none=>.inr failR
 |some z=>if bdB z=true then .inl (z.1,yS z.2,edA z.2) else .inr failR
theorem outS {mv:β->Option (List (aH × β))} {ρ ρ':Type} {failP:ρ} {failR:ρ'}
  {op:(List β × List (aH × Int) × List lN × Int)->Option ((List β × List (aH × Int) × List lN × Int) ⊕ ((List β × List (aH × Int) × List lN) ⊕ ρ))}
  {ro:(List β × List aH × List Edge × Int)->Option ((List β × List aH × List Edge × Int) ⊕ ((List β × List aH × List Edge) ⊕ ρ'))}
  (hmv:∀ p,ok p->∀ Y,mv p=some Y->Y.length<=200/\∀ y∈Y,P y.1/\ok y.2)
  (p1:∀ (i:Nat) (x:List β) (M:List (aH × Int)) (A:List lN) (hi:i < x.length) Y,ok x[i]->mv x[i]=some Y->aHW ok key x M->x.length<=40->A.length<=10000->∃ M',op (x,M,A,(i:Int))=some (if 40 < (goS (i:Int) Y (x,A)).1.length then .inr (.inr failP) else .inl ((goS (i:Int) Y (x,A)).1,M',(goS (i:Int) Y (x,A)).2,((i+1:Nat):Int)))/\aHW ok key (goS (i:Int) Y (x,A)).1 M')
  (p2:∀ (i:Nat) (x:List β) (M:List (aH × Int)) (A:List lN) (hi:i < x.length),ok x[i]->mv x[i]=none->aHW ok key x M->x.length<=40->A.length<=10000->op (x,M,A,(i:Int))=some (.inr (.inr failP)))
  (p3:∀ x M A,op (x,M,A,(x.length:Int))=some (.inr (.inl (x,M,A))))
  (r1:∀ (i:Nat) (q:List β × List lN) (hi:i < q.1.length) Y,ok q.1[i]->mv q.1[i]=some Y->Fnd ok P (i+1) q->bdB q=true->ro (q.1,yS q.2,edA q.2,(i:Int))=some (if bdB (goS (i:Int) Y q)=true then .inl ((goS (i:Int) Y q).1,yS (goS (i:Int) Y q).2,edA (goS (i:Int) Y q).2,((i+1:Nat):Int)) else .inr (.inr failR)))
  (r2:∀ (i:Nat) (q:List β × List lN) (hi:i < q.1.length),ok q.1[i]->mv q.1[i]=none->bdB q=true->ro (q.1,yS q.2,edA q.2,(i:Int))=some (.inr (.inr failR)))
  (r3:∀ x T E,ro (x,T,E,(x.length:Int))=some (.inr (.inl (x,T,E)))):
  ∀ (j i:Nat) (q:List β × List lN) (M:List (aH × Int)),i+j=41->i<=q.1.length->Fnd ok P i q->aHW ok key q.1 M->q.2.length<=200 * i->q.1.length<=40->
   ∃ r:Option (List β × List lN),(∃ M',loop op (q.1,M,q.2,(i:Int))=some (endP failP M' r))/\
    (∀ z,r=some z->Fnd ok P z.1.length z/\z.1.length<=40/\z.2.length<=8200/\q.1 <+:z.1)/\
    (bdB q=true->loop ro (q.1,yS q.2,edA q.2,(i:Int))=some (endR failR r))/\
    (bdB q=false->∀ z,r=some z->bdB z=false)
 |j,i,q,M,hj,hi,hF,hN,hA,hx=>by
  by_cases hiq:i < q.1.length
  ·cases j with
   |zero=>omega
   |succ j=>
   have hok:=hF.g _ (List.getElem_mem hiq)
   cases hm:mv q.1[i] with
   |none=>exact ⟨none,⟨M,bA (p2 i q.1 M q.2 hiq hok hm hN hx (by omega))⟩,fun z h=>(by cases h),fun hb=>bA (r2 i q hiq hok hm hb),fun _ z h=>(by cases h)⟩
   |some Y=>
    obtain ⟨hYl,hY⟩:=hmv _ hok Y hm
    obtain ⟨M1,e1,e2⟩:=p1 i q.1 M q.2 hiq Y hok hm hN hx (by omega)
    have hF':=fnd_go Y (hF.mono (Nat.le_succ i)) hY
    have hpre:=aSR (i:=(i:Int)) Y q
    have hln:=goS_len (i:=(i:Int)) Y q
    have hr:=r1 i q hiq Y hok hm (hF.mono (Nat.le_succ i))
    have e1:op (q.1,M,q.2,(i:Int))=some (if 40 < (goS (i:Int) Y q).1.length then .inr (.inr failP) else .inl ((goS (i:Int) Y q).1,M1,(goS (i:Int) Y q).2,((i+1:Nat):Int))):=e1
    have e2:aHW ok key (goS (i:Int) Y q).1 M1:=e2
    generalize goS (i:Int) Y q=q' at hF' hpre hln hr e1 e2
    by_cases h40:40 < q'.1.length
    ·rw [if_pos h40] at e1
     refine ⟨none,⟨M,bA e1⟩,fun z h=>(by cases h),fun hb=>?_,fun _ z h=>(by cases h)⟩
     have hr:=hr hb
     rw [if_neg (by rw [aDm];omega)] at hr
     exact bA hr
    ·rw [if_neg h40] at e1
     obtain ⟨r,⟨M',g1⟩,g2,g3,g4⟩:=outS hmv p1 p2 p3 r1 r2 r3 j (i+1) q' M1 (by omega) (by have:=hpre.1.length_le;omega) hF' e2 (by omega) (by omega)
     refine ⟨r,⟨M',by rw [fD e1];exact g1⟩,fun z hz=>?_,fun hb=>?_,fun hb z hz=>?_⟩
     ·obtain ⟨a,b,c,d⟩:=g2 z hz
      exact ⟨a,b,c,hpre.1.trans d⟩
     ·have hr:=hr hb
      by_cases hb':bdB q'=true
      ·rw [if_pos hb'] at hr
       rw [fD hr]
       exact g3 hb'
      ·rw [if_neg hb'] at hr
       rw [bA hr]
       rw [Bool.not_eq_true] at hb'
       cases r with
       |none=>rfl
       |some z=>
        have:=g4 hb' z rfl
        simp only [endR,this,Bool.false_eq_true,if_false]
     ·exact g4 (bd_pre hpre.1 hpre.2 hb) z hz
  ·obtain rfl:i=q.1.length:=by omega
   refine ⟨some q,⟨M,bA (p3 _ _ _)⟩,fun z hz=>?_,fun hb=>?_,fun hb z hz=>?_⟩
   ·cases hz
    exact ⟨hF,hx,by omega,List.prefix_refl _⟩
   ·simp only [endR,hb,if_true]
    exact bA (r3 _ _ _)
   ·cases hz;exact hb
end
end Gv
namespace Gv
open Go
theorem isLab_lab {nm:aH} {vs:List Int} (h:rN nm vs):aHS (lab nm vs)=true:=by
 unfold aHS
 rw [aOI h]
 by_cases h0:vs.length=0
 ·rw [if_pos h0]
  have e:lab nm vs=nm:=by unfold lab;rw [if_pos h0]
  rw [e]
  exact h.1
 ·have hne:vs≠[]:=fun e=>h0 (by rw [e];rfl)
  rw [if_neg h0]
  simp only
  rw [List.dropLast_concat,aDz hne (fun v hv=>(h.pos v hv).1)]
  have ht:nm≠bS:=fun e=>hne (h.2.2.2 e)
  have ha:iB nm=true:=by unfold iB;rw [h.1];simpa using ht
  have hn:(vs.map Lib.itoa).all aJg=true:=by
   rw [List.all_map,List.all_eq_true]
   intro v hv
   have:=aCd.1 (List.all_eq_true.1 h.2.2.1 v hv)
   exact aKZ this.1 this.2
  have h2:=h.2.1
  rw [ha,hn]
  simpa using h2
def LbM (s:aH):Prop:=∃ nm vs,rN nm vs/\s=lab nm vs
theorem LbM.lab {s:aH} (h:LbM s):aHS s=true:=by obtain ⟨nm,vs,h1,rfl⟩:=h;exact isLab_lab h1
theorem LbM.len {s:aH} (h:LbM s):s.length<=56:=by obtain ⟨nm,vs,h1,rfl⟩:=h;exact aRx h1
theorem aUC {α:Type} {a b:List α} (ha:a.Nodup) (hb:b.Nodup) (h:∀ x,x∈a<->x∈b):a.length=b.length:=((List.perm_ext_iff_of_nodup ha hb).2 h).length_eq
theorem finS {β:Type} {ok:β->Prop} {q:List β × List lN} (hF:Fnd ok LbM q.1.length q) (h1:1<=q.1.length) (h40:q.1.length<=40) (hA:q.2.length<=8200):
  ∃ t,aRd (q.1.length:Int) 0 (q.2.map (·.label)) q.2=some t/\aAX (q.1.length:Int) 0 (yS q.2) (edA q.2)=some t/\aBc t=some (bdB q)/\aHj sz t/\(bdB q=true->nE t):=by
 obtain ⟨x,A⟩:=q
 simp only at h1 h40 hA ⊢
 have har:=hF.ar
 simp only at har
 have htl:=txA_len A
 have hel:=edA_len A
 obtain ⟨M,_,j2,j3,j4⟩:=aTQ (A.map (·.label)) (by simp;omega)
 rw [List.length_map] at j4
 have hMnd:M.Nodup:=j2.1.imp fun {a b} h e=>by subst e;rw [rM] at h;cases h
 have hTM:∀ s,s∈yS A<->s∈bS::M:=fun s=>by
  rw [aDl,List.mem_cons,j3 s]
  by_cases e:s=bS<;>simp [e]
 have hTl:(yS A).length=(bS::M).length:=aUC (aRB A) (List.nodup_cons.2 ⟨j2.2,hMnd⟩) hTM
 have hlab:=lts_arc (st:=(x.length:Int)) (ini:=0) j2 j3 (by simp;omega) (show A.length < 100000000 by omega) (by omega)
 refine ⟨_,hlab,?_,?_⟩
 ·refine make_gen (by omega) j2 (fun s=>?_) (by omega) (fun e he=>?_) (aSz _) (fun z=>?_) _ _
  ·rw [hTM s,List.mem_cons]
   constructor
   ·intro h;exact ⟨.inr h,fun e=>j2.2 (e ▸ h)⟩
   ·rintro ⟨h|h,h2⟩
    ·exact absurd h h2
    ·exact h
  ·obtain ⟨a,ha,rfl⟩:=aFp.1 he
   obtain ⟨i,hi,e1,e2⟩:=xL (aDl.2 (.inr (List.mem_map_of_mem ha)):a.label∈yS A)
   show 0<=pos (yS A) a.label/\pos (yS A) a.label < ((yS A).length:Int)
   rw [e1];omega
  ·rw [aPY,List.mem_map]
   have key:∀ a∈A,(yS A).getD (pos (yS A) a.label).toNat []=a.label:=fun a ha=>by
    obtain ⟨i,hi,e1,e2⟩:=xL (aDl.2 (.inr (List.mem_map_of_mem ha)):a.label∈yS A)
    rw [e1,Int.toNat_natCast,List.getD_eq_getElem?_getD,List.getElem?_eq_getElem hi]
    exact e2
   constructor
   ·rintro ⟨a,ha,rfl⟩
    refine ⟨_,aFp.2 ⟨a,ha,rfl⟩,?_⟩
    show _=(⟨a.from_,pos (bS::M) ((yS A).getD (pos (yS A) a.label).toNat []),a.to_⟩:Edge)
    rw [key a ha]
   ·rintro ⟨e,he,rfl⟩
    obtain ⟨a,ha,rfl⟩:=aFp.1 he
    refine ⟨a,ha,?_⟩
    show _=(⟨a.from_,pos (bS::M) ((yS A).getD (pos (yS A) a.label).toNat []),a.to_⟩:Edge)
    rw [key a ha]
 ·have hlm:∀ a∈A,a.label∈bS::M:=fun a ha=>(hTM _).1 (aDl.2 (.inr (List.mem_map_of_mem ha)))
  have hEl:(gX (srt cO (A.map fun a=>(⟨a.from_,pos (bS::M) a.label,a.to_⟩:Edge)))).length=(edA A).length:=by
   have hnd:((edA A).map fun e=>(⟨e.F,pos (bS::M) ((yS A).getD e.B.toNat []),e.To⟩:Edge)).Nodup:=by
    refine List.pairwise_map.2 (List.Pairwise.imp_of_mem (fun {a b} ha hb hne h=>hne ?_) (aRC A))
    obtain ⟨a,ha',rfl⟩:=aFp.1 ha
    obtain ⟨b,hb',rfl⟩:=aFp.1 hb
    clear ha hb
    have ha:=ha'
    have hb:=hb'
    obtain ⟨i,hi,e1,e2⟩:=xL (aDl.2 (.inr (List.mem_map_of_mem ha)):a.label∈yS A)
    obtain ⟨k,hk,e3,e4⟩:=xL (aDl.2 (.inr (List.mem_map_of_mem hb)):b.label∈yS A)
    simp only [edT,Edge.mk.injEq] at h ⊢
    rw [e1,e3,Int.toNat_natCast,Int.toNat_natCast,List.getD_eq_getElem?_getD,List.getD_eq_getElem?_getD,List.getElem?_eq_getElem hi,List.getElem?_eq_getElem hk] at h
    simp only [Option.getD_some] at h
    have:=pos_injG (by rw [e2];exact hlm a ha) (by rw [e4];exact hlm b hb) h.2.1
    rw [e2,e4] at this
    exact ⟨h.1,by rw [this],h.2.2⟩
   rw [←@List.length_map _ _ (edA A) (fun e=>(⟨e.F,pos (bS::M) ((yS A).getD e.B.toNat []),e.To⟩:Edge))]
   refine aUC (aTS (aSz _)) hnd fun z=>?_
   rw [aPY,List.mem_map,List.mem_map]
   have key:∀ a∈A,(yS A).getD (pos (yS A) a.label).toNat []=a.label:=fun a ha=>by
    obtain ⟨i,hi,e1,e2⟩:=xL (aDl.2 (.inr (List.mem_map_of_mem ha)):a.label∈yS A)
    rw [e1,Int.toNat_natCast,List.getD_eq_getElem?_getD,List.getElem?_eq_getElem hi]
    exact e2
   constructor
   ·rintro ⟨a,ha,rfl⟩
    refine ⟨_,aFp.2 ⟨a,ha,rfl⟩,?_⟩
    show (⟨a.from_,pos (bS::M) ((yS A).getD (pos (yS A) a.label).toNat []),a.to_⟩:Edge)=_
    rw [key a ha]
   ·rintro ⟨e,he,rfl⟩
    obtain ⟨a,ha,rfl⟩:=aFp.1 he
    refine ⟨a,ha,?_⟩
    show _=(⟨a.from_,pos (bS::M) ((yS A).getD (pos (yS A) a.label).toNat []),a.to_⟩:Edge)
    rw [key a ha]
  have hfit:aHj sz ⟨(x.length:Int),0,bS::M,gX (srt cO (A.map fun a=>(⟨a.from_,pos (bS::M) a.label,a.to_⟩:Edge)))⟩:=by
   refine ⟨by simp only [List.length_cons];unfold sz;omega,fun w hw=>?_,by simp only;rw [hEl];unfold sz;omega⟩
   rcases List.mem_cons.1 hw with rfl|hw
   ·simp [bS];decide
   ·obtain ⟨a,ha,rfl⟩:=List.mem_map.1 ((j3 _).1 hw).1
    obtain ⟨_,_,_,_,_,_,hl⟩:=har a ha
    have:=hl.len
    unfold sz;omega
  have hok:bdB (x,A)=true->nE ⟨(x.length:Int),0,bS::M,gX (srt cO (A.map fun a=>(⟨a.from_,pos (bS::M) a.label,a.to_⟩:Edge)))⟩:=fun hb=>by
   obtain ⟨b1,b2,b3⟩:=aDm.1 hb
   simp only at b1 b2 b3
   rw [hTl] at b2
   refine ⟨⟨by simp only;omega,by simp only;omega⟩,⟨Int.le_refl _,by simp only;omega⟩,⟨by simp,b2,fun _=>rfl,fun k hk1 hk=>?_⟩,edges_mk (by simp only;rw [hEl];exact b3) (aSz _) fun e he=>?_⟩
   ·obtain ⟨m,rfl⟩:∃ m,k=m+1:=⟨k - 1,by omega⟩
    have hm:m < M.length:=by simp only [List.length_cons] at hk;omega
    have hmem:=List.getElem_mem hm
    obtain ⟨a,ha,hae⟩:=List.mem_map.1 ((j3 _).1 hmem).1
    obtain ⟨_,_,_,_,_,_,hl⟩:=har a ha
    refine ⟨?_,((j3 _).1 hmem).2,fun h2=>?_⟩
    ·show aHS M[m]=true
     rw [←hae];exact hl.lab
    ·have:=List.pairwise_iff_getElem.1 j2.1 (m - 1) m (by omega) hm (by omega)
     simp only [List.getElem_cons_succ]
     have e:(bS::M)[m+1 - 1]'(by simp only [List.length_cons] at hk ⊢;omega)=M[m - 1]'(by omega):=by
      obtain ⟨k,rfl⟩:∃ k,m=k+1:=⟨m - 1,by omega⟩
      rfl
     rw [e];exact this
   ·simp only at he
    obtain ⟨a,ha,rfl⟩:=List.mem_map.1 (aPY.1 he)
    obtain ⟨f,t,g1,g2,g3,g4,_⟩:=har a ha
    obtain ⟨k,hk,e3,e4⟩:=xL (hlm a ha)
    refine ⟨⟨?_,?_⟩,⟨?_,?_⟩,?_,?_⟩<;>simp only<;>(first|(rw [g1];omega)|(rw [g2];omega)|(rw [e3];omega))
  refine ⟨?_,hfit,hok⟩
  rw [aTH _ (hfit.mono (by decide))]
  refine congrArg some ?_
  cases hb:bdB (x,A) with
  |true=>exact aEF (hok hb)
  |false=>
   refine uW fun h=>?_
   rw [←Bool.not_eq_true,aDm] at hb
   simp only at hb
   have c1:=h.2.2.1.2.1
   have c2:=h.2.2.2.1
   simp only at c1 c2
   rw [hEl] at c2
   rw [hTl] at hb
   exact hb ⟨h40,c1,c2⟩
end Gv
namespace Gv
open Go
section
variable {β:Type} [DecidableEq β]
def whI (x:List β) (p:β):Int:=match whr x p with|some m=>(m:Int)|none=>-1
theorem schL {x:List β} {p:β} {step:(Int × Int)->Option ((Int × Int) ⊕ Int)} (hnd:x.Nodup)
  (h1:∀ (k:Nat) (tv:Int) (hk:k < x.length),step (tv,(k:Int))=some (.inl (if x[k]=p then (k:Int) else tv,((k+1:Nat):Int))))
  (h2:∀ tv,step (tv,(x.length:Int))=some (.inr tv)):∀ (j k:Nat),k+j=x.length->loop step (whI (x.take k) p,(k:Int))=some (whI x p)
 |0,k,hk=>by
  obtain rfl:k=x.length:=by omega
  rw [List.take_length]
  exact bA (h2 _)
 |j+1,k,hk=>by
  have hkx:k < x.length:=by omega
  rw [fD (h1 k _ hkx),←schL hnd h1 h2 j (k+1) (by omega)]
  have ht:x.take (k+1)=x.take k++[x[k]]:=by rw [List.take_add_one];simp [hkx]
  unfold whI
  rw [ht,whr_app,List.length_take,Nat.min_eq_left (by omega)]
  cases hw:whr (x.take k) p with
  |none=>by_cases e:x[k]=p<;>simp [e]
  |some m=>
   have hne:x[k]≠p:=fun e=>by
    have:=aUz hw
    rw [List.getElem?_take] at this
    split at this
    ·rename_i hm
     obtain ⟨hm1,hm2⟩:=List.getElem?_eq_some_iff.1 this
     exact List.pairwise_iff_getElem.1 hnd m k hm1 hkx hm (by rw [hm2,e])
    ·cases this
   rw [if_neg hne]
theorem knwL {E:List β} {e:β} {step:(Bool × Int)->Option ((Bool × Int) ⊕ Bool)}
  (h1:∀ (k:Nat) (b:Bool) (hk:k < E.length),step (b,(k:Int))=some (.inl (b||decide (E[k]=e),((k+1:Nat):Int))))
  (h2:∀ b,step (b,(E.length:Int))=some (.inr b)):∀ (j k:Nat),k+j=E.length->loop step (decide (e∈E.take k),(k:Int))=some (decide (e∈E))
 |0,k,hk=>by
  obtain rfl:k=E.length:=by omega
  rw [List.take_length]
  exact bA (h2 _)
 |j+1,k,hk=>by
  have hkx:k < E.length:=by omega
  rw [fD (h1 k _ hkx),←knwL h1 h2 j (k+1) (by omega)]
  have ht:E.take (k+1)=E.take k++[E[k]]:=by rw [List.take_add_one];simp [hkx]
  have:(decide (e∈E.take k)||decide (E[k]=e))=decide (e∈E.take (k+1)):=by
   rw [ht,Bool.eq_iff_iff,Bool.or_eq_true,decide_eq_true_eq,decide_eq_true_eq,decide_eq_true_eq,List.mem_append,List.mem_singleton]
   exact or_congr Iff.rfl eq_comm
  rw [this]
end
theorem aVU {T:List aH} {s:aH} (h:T.length < 1000000):aJD T s=some (dF T s,pos (dF T s) s):=by
 unfold aJD
 rw [aBm _ _ (by omega),aA]
 unfold dF
 by_cases hm:s∈T
 ·rw [if_pos hm,if_pos (by simpa using (pos_nat hm))]
 ·rw [if_neg hm,if_neg (by rw [pos_not hm];simp),dM (by unfold fG;simp;omega),aA,pos_snoc hm]
theorem stKey_inj {l:List Definition} (hD:lK l) {n:Nat} (p q:List GPoint) (hp:lI l n p) (hq:lI l n q) (h:aEA p=aEA q):p=q:=aSJ (hp.1.trans hq.1.symm) (hp.ok hD) (hq.ok hD) h
section
variable {l:List Definition} (hD:lK l) {n:Nat} (hn:n<=3)
include hD hn
theorem fndS_eq {x:List (List GPoint)} {M:List (aH × Int)} {A:List lN} {p:List GPoint} (h:aHW (lI l n) aEA x M) (hp:lI l n p) (hl:x.length < 100000000):∃ M',dV x M A p=some ((qK x p:Int),dF x p,M')/\aHW (lI l n) aEA (dF x p) M':=by
 have hlen:=hp.1
 unfold dV fU
 rw [aOe (by omega) (hp.ok hD),aA,h p hp]
 unfold qK
 cases hw:whr x p with
 |some i=>
  have hm:p∈x:=by rw [←Decidable.not_not (p:=p∈x),←aGu,hw];simp
  refine ⟨M,?_,by unfold dF;rw [if_pos hm];exact h⟩
  unfold dF;rw [if_pos hm];rfl
 |none=>
  have hm:=aGu.1 hw
  have hput:=numK_put (stKey_inj hD) h hp hw
  refine ⟨vA M (aEA p) (x.length:Int),?_,by unfold dF;rw [if_neg hm];exact hput⟩
  unfold dF
  rw [if_neg hm]
  show (ob (some (vA M (aEA p) (x.length:Int))) fun m24=>ob (wR x ([p]:List (List GPoint))) fun xs31=>some ((x.length:Int),xs31,m24))=_
  rw [aA,dM (by unfold fG;simp;omega),aA]
theorem arcS_eq {x:List (List GPoint)} {M:List (aH × Int)} {A:List lN} {lbe:aH} {p:List GPoint} {i:Int} (h:aHW (lI l n) aEA x M) (hp:lI l n p) (hl:x.length < 100000000) (hA:A.length < 100000000):∃ M',gO lbe p x M A i=some (dF x p,M',A++[⟨i,lbe,(qK x p:Int)⟩])/\aHW (lI l n) aEA (dF x p) M':=by
 obtain ⟨M',h1,h2⟩:=fndS_eq hD hn (A:=A) h hp hl
 refine ⟨M',?_,h2⟩
 unfold gO kN
 rw [h1,aA,dM (by unfold fG;simp;omega),aA]
end
theorem aOh {s:aR} {st:List GPoint} {X:List aN} {b:Bool} (h:rD s st=some (X,b)) (hX:X.length<=6000000):rE s st=some (X.map (·.B),X.map (·.State),b):=by
 unfold rE
 rw [h,aA]
 have key:=aGk (step:=fun q:List aH × List (List GPoint) × Int=>rZ (X,b) q.1 q.2.1 q.2.2) X (fun k a=>(a.1,a.2,(k:Int))) (fun l a=>(a.1++l.map (·.B),a.2++l.map (·.State))) (fun k (a:List aH × List (List GPoint))=>a.1.length=k/\a.2.length=k) (fun k a x l hk hx hI=>?_) (fun a _=>?_) (a:=([],[])) ⟨rfl,rfl⟩
 ·have key':loop (fun q:List aH × List (List GPoint) × Int=>rZ (X,b) q.1 q.2.1 q.2.2) (([]:List aH),([]:List (List GPoint)),0)=some (X.map (·.B),X.map (·.State)):=by simpa using key
  rw [key',aA];rfl
 ·left
  refine ⟨(a.1++[x.B],a.2++[x.State]),?_,by simp [hI.1,hI.2],by simp⟩
  simp only [rZ,aY hk,if_true,hx,aA,aV hk (show X.length < 4611686018427387904 by omega)]
  rw [dM (by unfold fG;simp;omega),aA,dM (by unfold fG;simp;omega),aA]
 ·simp only [rZ,bE]
  simp
noncomputable def mvS (s:aR) (st:List GPoint):Option (List (aH × List GPoint)):=match fR s st with
 |some (X,true)=>some (X.map fun m=>(m.B,m.State))
 |_=>none
end Gv
namespace Gv
open Go
theorem mvS_facts {s:aR} (hs:aFG s) {n:Nat} (hn:n<=3) {st:List GPoint} (hst:lI s.Definitions n st):
  (∃ X,fR s st=some (X,true)/\rE s st=some (X.map (·.B),X.map (·.State),true)/\mvS s st=some (X.map fun m=>(m.B,m.State))/\X.length<=200/\∀ y∈X,MvG s.Definitions n y)\/
  (∃ X,mvS s st=none/\fR s st=some (X,false)/\X.length<=6000000/\(∀ y∈X,MvG s.Definitions n y)/\∃ a b,rE s st=some (a,b,false)):=by
 rcases aVS hs hn hst with ⟨X,x1,x2,x3,x4⟩|⟨X,Y,x1,x2,x3,x4,x5⟩
 ·left
  refine ⟨X,x1,aOh x2 (by omega),?_,x3,x4⟩
  unfold mvS;rw [x1]
 ·right
  refine ⟨X,?_,x1,x4,x5,_,_,aOh x2 x3⟩
  unfold mvS;rw [x1]
section
variable {s:aR} (hs:aFG s) {n:Nat} (hn:n<=3)
include hs hn
end
end Gv
namespace Gv
open Go
theorem cmpV_eq {a b:List Int} (ha:a.length < 1000000) (hb:b.length < 1000000):uI a b=some (nA a b):=by
 unfold uI
 have j1:wX a b=some (if a.length < b.length then -1 else if b.length < a.length then 1 else 0):=by
  unfold wX
  by_cases h1:a.length < b.length
  ·rw [if_pos (by simp;omega),if_pos h1]
  ·rw [if_neg (by simp;omega),if_neg h1]
   by_cases h2:b.length < a.length
   ·rw [if_pos (by simp;omega),if_pos h2]
   ·rw [if_neg (by simp;omega),if_neg h2]
 have key:∀ (j k:Nat),k+j=a.length->k<=b.length->∃ r,loop (fun s:Int=>jR a b s) (k:Int)=some r/\((r=.inl ()/\nA (a.drop k) (b.drop k)=if a.length < b.length then -1 else if b.length < a.length then 1 else 0)\/r=.inr (nA (a.drop k) (b.drop k))):=by
  intro j
  induction j with
  |zero=>
   intro k hk hkb
   obtain rfl:k=a.length:=by omega
   refine ⟨.inl (),bA ?_,.inl ⟨rfl,?_⟩⟩
   ·unfold jR nF
    rw [if_neg (by simp),if_neg (by simp)]
   ·rw [List.drop_eq_nil_of_le (Nat.le_refl _)]
    by_cases h:a.length < b.length
    ·rw [if_pos h,List.drop_eq_getElem_cons h];rfl
    ·rw [if_neg h,if_neg (by omega),List.drop_eq_nil_of_le (by omega)];rfl
  |succ j ih=>
   intro k hk hkb
   have hka:k < a.length:=by omega
   by_cases hb2:k < b.length
   ·have e1:=List.drop_eq_getElem_cons hka
    have e2:=List.drop_eq_getElem_cons hb2
    have hs:jR a b (k:Int)=if a[k] < b[k] then some (.inr (.inr (-1))) else if b[k] < a[k] then some (.inr (.inr 1)) else some (.inl ((k+1:Nat):Int)):=by
     unfold jR nF
     rw [if_pos (aY hka),if_pos (aY hb2),aU hka,aA,aU hb2,aA,aV hka (by omega)]
     by_cases h1:a[k] < b[k]
     ·rw [if_pos (by simpa using h1),if_pos h1]
     ·rw [if_neg (by simpa using h1),if_neg h1]
      by_cases h2:b[k] < a[k]
      ·rw [if_pos (by simpa using h2),if_pos h2]
      ·rw [if_neg (by simpa using h2),if_neg h2]
    by_cases h1:a[k] < b[k]
    ·rw [if_pos h1] at hs
     exact ⟨_,bA hs,.inr (by rw [e1,e2];simp [nA,h1])⟩
    ·by_cases h2:b[k] < a[k]
     ·rw [if_neg h1,if_pos h2] at hs
      exact ⟨_,bA hs,.inr (by rw [e1,e2];simp [nA,h1,h2])⟩
     ·rw [if_neg h1,if_neg h2] at hs
      obtain ⟨r,r1,r2⟩:=ih (k+1) (by omega) (by omega)
      have:nA (a.drop k) (b.drop k)=nA (a.drop (k+1)) (b.drop (k+1)):=by rw [e1,e2];simp [nA,h1,h2]
      exact ⟨r,by rw [fD hs];exact r1,by rw [this];exact r2⟩
   ·refine ⟨.inl (),bA ?_,.inl ⟨rfl,?_⟩⟩
    ·unfold jR nF
     rw [if_pos (aY hka),if_neg (by simp;omega)]
    ·rw [List.drop_eq_getElem_cons hka,List.drop_eq_nil_of_le (show b.length<=k by omega),if_neg (by omega),if_pos (by omega)];rfl
 obtain ⟨r,r1,r2⟩:=key a.length 0 (by omega) (by omega)
 have r1':loop (fun s:Int=>jR a b s) 0=some r:=r1
 rw [r1',aA]
 simp only [List.drop_zero] at r2
 rcases r2 with ⟨rfl,h⟩|rfl
 ·rw [h];exact j1
 ·rfl
theorem aKz {a b:GPoint} (ha:a.Values.length < 1000000) (hb:b.Values.length < 1000000):uJ a b=some (jC a b):=by
 unfold uJ
 rw [cmpV_eq (by simp) (by simp),aA,cmpV_eq ha hb,aA]
 unfold jC
 simp only [nA]
 by_cases h1:a.Definition < b.Definition
 ·simp [h1]
 ·by_cases h2:b.Definition < a.Definition
  ·simp [h1,h2]
  ·by_cases h3:a.Part < b.Part
   ·simp [h1,h2,h3]
   ·by_cases h4:b.Part < a.Part
    ·simp [h1,h2,h3,h4]
    ·simp [h1,h2,h3,h4]
noncomputable def cano (st:List GPoint):List GPoint:=srt sK st
theorem aRD (st:List GPoint):(cano st).Perm st:=List.mergeSort_perm _ _
theorem lI.cano {l:List Definition} {n:Nat} {st:List GPoint} (h:lI l n st):lI l n (cano st):=
 ⟨by rw [(aRD st).length_eq];exact h.1,fun p hp=>h.2 p ((aRD st).mem_iff.1 hp)⟩
theorem clone_eq {st:List GPoint} (hl:st.length < 1000000) (hv:∀ p∈st,p.Values.length < 1000000):oD st=some st:=by
 unfold oD
 rw [lH (step:=fun t:List GPoint × Int=>jX st t.1 t.2) st id id (fun k out x hk ho hx=>?_) (fun out=>by simp only [jX,bE];rfl),aA]
 ·simp [aCi]
 ·have hm:x∈st:=by rw [aU hk] at hx;cases hx;exact List.getElem_mem hk
  have:=hv x hm
  simp only [jX,lU,bG,aY hk,if_true,hx,aA,dM (show ([]:List Int).length+x.Values.length<=fG by unfold fG;simp;omega),List.nil_append]
  rw [dM (by unfold fG;simp;omega),aA,aV hk (by omega)];rfl
theorem aMP {st:List GPoint} (hl:st.length < 1000000) (hv:∀ p∈st,p.Values.length < 1000000):yH st=some (cano st):=by
 unfold yH
 rw [clone_eq hl hv,aA]
 unfold aJw
 rw [if_pos ⟨by unfold fG;omega,fun p hp=>by have:=hv p hp;unfold fG;omega⟩,aA]
 rfl
theorem shiftL {x:GPoint} {out:List GPoint} {at_:Nat} (ha:at_<=out.length) (hl:out.length < 1000000):∀ (j k:Nat) (o:List GPoint),k=at_+j->k<=out.length->o=out.take k++x::out.drop k->
  ∃ y,loop (fun s:List GPoint × Int=>nW (at_:Int) s.1 s.2) (o,(k:Int))=some (out.take at_++y::out.drop at_)
 |0,k,o,hk,hkl,ho=>by
  obtain rfl:k=at_:=by omega
  refine ⟨x,?_⟩
  rw [←ho]
  apply bA
  show nW (k:Int) o (k:Int)=_
  unfold nW
  rw [if_neg (by simp)]
 |j+1,k,o,hk,hkl,ho=>by
  have hk1:k - 1 < out.length:=by omega
  have hol:o.length=out.length+1:=by rw [ho];simp;omega
  have e1:wr ((k:Int) - 1)=((k - 1:Nat):Int):=by rw [eG (by omega) (by omega)];omega
  have e2:o[k - 1]'(by omega)=out[k - 1]:=by
   subst ho
   rw [List.getElem_append_left (by simp;omega),List.getElem_take]
  have hs:nW (at_:Int) o (k:Int)=some (.inl (o.set k out[k - 1],((k - 1:Nat):Int))):=by
   unfold nW
   rw [if_pos (by simp;omega),e1,aU (show k - 1 < o.length by omega),aA,aU (show k < o.length by omega),aA,oO _ (show k < o.length by omega),aA,e2]
  rw [fD hs]
  refine shiftL (x:=out[k - 1]) ha hl j (k - 1) _ (by omega) (by omega) ?_
  subst ho
  rw [List.set_append_right _ _ (by simp;omega)]
  have hlen:(out.take k).length=k:=by simp;omega
  rw [hlen,Nat.sub_self,List.set_cons_zero]
  have h1:out.take k=out.take (k - 1)++[out[k - 1]]:=by
   have:=List.take_add_one (l:=out) (i:=k - 1)
   rw [show k - 1+1=k by omega,List.getElem?_eq_getElem hk1] at this
   exact this
  have h2:out.drop (k - 1)=out[k - 1]::out.drop k:=by
   have:=List.drop_eq_getElem_cons hk1
   rwa [show k - 1+1=k by omega] at this
  rw [h1,h2,List.append_assoc];rfl
theorem placeL {r4 out:List GPoint} {i:Nat} (hi:i < r4.length) (hl:out.length < 1000000) (hv:∀ p∈out,p.Values.length < 1000000) (hx:r4[i].Values.length < 1000000):∀ (j:Nat),j<=out.length->∃ at_,at_<=j/\
  loop (fun s:Int=>rA r4 out (i:Int) s) (j:Int)=some (at_:Int)/\(∀ m (hm:m < out.length),at_<=m->m < j->sK r4[i] out[m]=true)/\(∀ m (hm:m < out.length),at_=m+1->sK r4[i] out[m]=false)
 |0,hj=>by
  refine ⟨0,Nat.le_refl _,?_,fun m _ _ h=>absurd h (by omega),fun m _ h=>absurd h (by omega)⟩
  apply bA
  show rA r4 out (i:Int) ((0:Nat):Int)=_
  unfold rA aAa
  rw [if_neg (by simp),if_neg (by simp)]
 |j+1,hj=>by
  have hj1:j < out.length:=by omega
  have e1:wr (((j+1:Nat):Int) - 1)=(j:Int):=by rw [eG (by omega) (by omega)];omega
  have hs:rA r4 out (i:Int) ((j+1:Nat):Int)=if sK r4[i] out[j]=true then some (.inl (j:Int)) else some (.inr ((j+1:Nat):Int)):=by
   unfold rA aAa
   rw [if_pos (by simp only [decide_eq_true_eq];omega),aU hi,aA,e1,aU hj1,aA,aKz hx (hv _ (List.getElem_mem hj1)),aA]
   rfl
  by_cases hlt:sK r4[i] out[j]=true
  ·rw [if_pos hlt] at hs
   obtain ⟨at_,a1,a2,a3,a4⟩:=placeL hi hl hv hx j (by omega)
   refine ⟨at_,by omega,by rw [fD hs];exact a2,fun m hm h1 h2=>?_,a4⟩
   by_cases e:m=j
   ·subst e;exact hlt
   ·exact a3 m hm h1 (by omega)
  ·rw [if_neg hlt] at hs
   refine ⟨j+1,Nat.le_refl _,bA hs,fun m hm h1 h2=>by omega,fun m hm e=>?_⟩
   obtain rfl:m=j:=by omega
   rw [Bool.not_eq_true] at hlt
   exact hlt
def OrdP (l:List GPoint):Prop:=l.Pairwise fun a b=>(!sK b a)=true
theorem ptLe_tr {a b c:GPoint} (h1:sK b a=false) (h2:sK c b=false):sK c a=false:=by
 cases hx:sK c a with
 |false=>rfl
 |true=>
  rcases aPS a b with g|g|g
  ·have:=aMw hx g;rw [h2] at this;cases this
  ·subst g;rw [h2] at hx;cases hx
  ·rw [h1] at g;cases g
theorem ptLt_as {a b:GPoint} (h:sK a b=true):sK b a=false:=by
 cases hx:sK b a with
 |false=>rfl
 |true=>have:=aMw h hx;rw [aPR] at this;cases this
theorem ins_ord {out:List GPoint} {x:GPoint} {at_:Nat} (ha:at_<=out.length) (ho:OrdP out) (h1:∀ m (hm:m < out.length),at_<=m->sK x out[m]=true) (h2:∀ h:0 < at_,sK x (out[at_ - 1]'(by omega))=false):OrdP (out.take at_++x::out.drop at_):=by
 unfold OrdP at ho ⊢
 rw [List.pairwise_append,List.pairwise_cons]
 refine ⟨ho.sublist (List.take_sublist _ _),⟨fun b hb=>?_,ho.sublist (List.drop_sublist _ _)⟩,fun a ha' b hb=>?_⟩
 ·obtain ⟨m,hm,rfl⟩:=List.getElem_of_mem hb
  rw [List.length_drop] at hm
  rw [List.getElem_drop,ptLt_as (h1 (at_+m) (by omega) (by omega))];rfl
 ·obtain ⟨m,hm,rfl⟩:=List.getElem_of_mem ha'
  rw [List.length_take] at hm
  rw [List.getElem_take]
  have hx:sK x out[m]=false:=by
   have h3:=h2 (by omega)
   by_cases e:m=at_ - 1
   ·subst e;exact h3
   ·have:=List.pairwise_iff_getElem.1 ho m (at_ - 1) (by omega) (by omega) (by omega)
    simp only [Bool.not_eq_eq_eq_not,Bool.not_true] at this
    exact ptLe_tr this h3
  rcases List.mem_cons.1 hb with rfl|hb
  ·rw [hx];rfl
  ·obtain ⟨q,hq,rfl⟩:=List.getElem_of_mem hb
   rw [List.length_drop] at hq
   rw [List.getElem_drop]
   exact List.pairwise_iff_getElem.1 ho m (at_+q) (by omega) (by omega) (by omega)
theorem aQn {st:List GPoint} (hl:st.length < 100000) (hv:∀ p∈st,p.Values.length < 1000000):aDr st=some (cano st):=by
 unfold aDr
 rw [aGt _ (by omega) hv,aA]
 have key:=aEu (step:=fun s:List GPoint × Int=>nX st s.1 s.2) st.length (fun k (o:List GPoint)=>(o,(k:Int))) (fun k o=>o.Perm (st.take k)/\OrdP o) (fun r=>r.Perm st/\OrdP r) (fun k o hk hI=>?_) (fun o hI=>?_) st.length 0 [] (by omega) ⟨by simp,List.Pairwise.nil⟩
 ·obtain ⟨r,h1,h2,h3⟩:=key
  have h1':loop (fun s:List GPoint × Int=>nX st s.1 s.2) ([],0)=some r:=h1
  rw [h1',aA]
  exact congrArg some (srtP_of h2 h3)
 ·obtain ⟨hp,ho⟩:=hI
  have hol:o.length=k:=by rw [hp.length_eq,List.length_take];omega
  have hvo:∀ p∈o,p.Values.length < 1000000:=fun p hp'=>hv p (List.mem_of_mem_take (hp.mem_iff.1 hp'))
  obtain ⟨at_,a1,a2,a3,a4⟩:=placeL (r4:=st) (out:=o) hk (by omega) hvo (hv _ (List.getElem_mem hk)) o.length (Nat.le_refl _)
  have hz:∃ y,loop (fun s:List GPoint × Int=>nW (at_:Int) s.1 s.2) (o++[⟨0,0,[]⟩],(o.length:Int))=some (o.take at_++y::o.drop at_):=shiftL (x:=⟨0,0,[]⟩) a1 (by omega) (o.length - at_) o.length _ (by omega) (Nat.le_refl _) (by simp)
  obtain ⟨y,hy⟩:=hz
  have hlen:(o.take at_).length=at_:=by simp;omega
  refine ⟨o.take at_++st[k]::o.drop at_,?_,?_,?_⟩
  ·show nX st o (k:Int)=_
   unfold nX
   rw [if_pos (aY hk),a2,aA]
   unfold aCP
   have hw:wr (((o++[(⟨0,0,[]⟩:GPoint)]).length:Int) - 1)=(o.length:Int):=by
    have:(o++[(⟨0,0,[]⟩:GPoint)]).length=o.length+1:=by simp
    rw [this,eG (by omega) (by omega)];omega
   rw [dM (by unfold fG;simp;omega),aA,hw,hy,aA]
   unfold aCO aCN
   have hin:at_ < (o.take at_++y::o.drop at_).length:=by simp;omega
   rw [aU hk,aA,aU hin,aA,oO _ hin,aA,aV hk (by omega),List.set_append_right _ _ (by omega),hlen,Nat.sub_self,List.set_cons_zero]
  ·have ht:st.take (k+1)=st.take k++[st[k]]:=by rw [List.take_add_one,List.getElem?_eq_getElem hk];rfl
   rw [ht]
   refine (List.perm_middle).trans ?_
   rw [List.take_append_drop]
   exact (List.Perm.cons _ hp).trans (List.perm_append_singleton _ _).symm
  ·exact ins_ord a1 ho (fun m hm h=>a3 m hm h hm) fun h=>a4 (at_ - 1) (by omega) (by omega)
 ·obtain ⟨hp,ho⟩:=hI
  refine ⟨o,?_,by simpa using hp,ho⟩
  show nX st o (st.length:Int)=_
  unfold nX
  rw [if_neg (by simp)]
end Gv
namespace Gv
open Go
noncomputable def mvO (s:aR) (st:List GPoint):Option (List (aH × List GPoint)):=(mvS s st).map fun Y=>Y.map fun y=>(y.1,cano y.2)
theorem aGv {s:aR} (hs:aFG s) {n:Nat} (hn:n<=3) {st:List GPoint} (hst:lI s.Definitions n st):
  (∃ X,fR s st=some (X,true)/\rE s st=some (X.map (·.B),X.map (·.State),true)/\mvO s st=some (X.map fun m=>(m.B,cano m.State))/\X.length<=200/\∀ y∈X,MvG s.Definitions n y)\/
  (∃ X,mvO s st=none/\fR s st=some (X,false)/\X.length<=6000000/\(∀ y∈X,MvG s.Definitions n y)/\∃ a b,rE s st=some (a,b,false)):=by
 rcases mvS_facts hs hn hst with ⟨X,x1,x2,x3,x4,x5⟩|⟨X,x1,x2⟩
 ·left
  refine ⟨X,x1,x2,?_,x4,x5⟩
  unfold mvO
  rw [x3,Option.map_some,List.map_map];rfl
 ·right
  refine ⟨X,?_,x2⟩
  unfold mvO
  rw [x1];rfl
section
variable {s:aR} (hs:aFG s) {n:Nat} (hn:n<=3)
include hs hn
theorem mvO_ok (p:List GPoint) (hp:lI s.Definitions n p) (Y:List (aH × List GPoint)) (h:mvO s p=some Y):Y.length<=200/\∀ y∈Y,LbM y.1/\lI s.Definitions n y.2:=by
 rcases aGv hs hn hp with ⟨X,x1,x2,x3,x4,x5⟩|⟨X,x1,_⟩
 ·rw [x3] at h
  cases h
  refine ⟨by simpa using x4,fun y hy=>?_⟩
  obtain ⟨m,hm,rfl⟩:=List.mem_map.1 hy
  exact ⟨(x5 m hm).lbl,(x5 m hm).st.cano⟩
 ·rw [x1] at h;cases h
theorem inXO {X:List aN} {b:Bool} {i:Int} (hX:X.length<=6000000) (hm:∀ y∈X,MvG s.Definitions n y) {x:List (List GPoint)} {M:List (aH × Int)} {A:List lN} (hN:aHW (lI s.Definitions n) aEA x M) (hx:x.length<=40) (hA:A.length<=10000):
  ∃ M',loop (fun (t:(List (List GPoint) × (List (aH × Int)) × List lN × Int))=>fJ i (X,b) t.1 t.2.1 t.2.2.1 t.2.2.2) (x,M,A,0)=some ((goS i (X.map fun m=>(m.B,cano m.State)) (x,A)).1,M',(goS i (X.map fun m=>(m.B,cano m.State)) (x,A)).2)/\aHW (lI s.Definitions n) aEA (goS i (X.map fun m=>(m.B,cano m.State)) (x,A)).1 M':=by
 have hD:=hs.ok.defs
 have hl:(X.map fun m=>(m.B,cano m.State)).length=X.length:=by simp
 refine inP (pin:=fun t=>fJ i (X,b) t.1 t.2.1 t.2.2.1 t.2.2.2) (Y:=X.map fun m=>(m.B,cano m.State)) (fun k x M A hk hN hx hA=>?_) (fun x M A=>?_) X.length 0 x M A (by omega) hN (by omega) (by omega)
 ·have hk':k < X.length:=by omega
  obtain ⟨M',m1,m2⟩:=arcS_eq hD hn (A:=A) (lbe:=X[k].B) (i:=i) hN (hm _ (List.getElem_mem hk')).st.cano hx hA
  refine ⟨M',?_,by simpa using m2⟩
  show fJ i (X,b) x M A (k:Int)=_
  unfold fJ
  have hst:=(hm _ (List.getElem_mem hk')).st
  rw [if_pos (aY hk'),aU hk',aA,aMP (by rw [hst.1];omega) hst.val,aA,m1,aA,aV hk' (by omega)]
  simp
 ·show fJ i (X,b) x M A ((X.map fun m=>(m.B,cano m.State)).length:Int)=_
  rw [hl]
  unfold fJ
  rw [if_neg (by simp)]
theorem orbLoops (st:List GPoint) (M:List (aH × Int)) (hst:lI s.Definitions n st) (hM:aHW (lI s.Definitions n) aEA [st] M):
  ∃ r:Option (List (List GPoint) × List lN),(∃ M',loop (fun (t:(List (List GPoint) × (List (aH × Int)) × List lN × Int))=>bY s t.1 t.2.1 t.2.2.1 t.2.2.2) ([st],M,[],0)=some (endP (⟨0,0,[],[]⟩,[],false) M' r))/\
   (∀ z,r=some z->Fnd (lI s.Definitions n) LbM z.1.length z/\z.1.length<=40/\z.2.length<=8200/\[st] <+:z.1)/\
   loop (fun (t:(List (List GPoint) × List aH × List Edge × Int))=>gF s t.1 t.2.1 t.2.2.1 t.2.2.2) ([st],[bS],[],0)=some (endR (⟨0,0,[],[]⟩,[],false) r):=by
 have key:=outS (ok:=lI s.Definitions n) (key:=aEA) (P:=LbM) (mv:=mvO s) (failP:=((⟨0,0,[],[]⟩:iQ),([]:List (List GPoint)),false)) (failR:=((⟨0,0,[],[]⟩:iQ),([]:List (List GPoint)),false))
  (op:=fun (t:(List (List GPoint) × (List (aH × Int)) × List lN × Int))=>bY s t.1 t.2.1 t.2.2.1 t.2.2.2)
  (ro:=fun (t:(List (List GPoint) × List aH × List Edge × Int))=>gF s t.1 t.2.1 t.2.2.1 t.2.2.2) (mvO_ok hs hn)
  (fun i x M A hi Y hok hm hN hx hA=>?_) (fun i x M A hi hok hm hN hx hA=>?_) (fun x M A=>?_) (fun i q hi Y hok hm hF hb=>?_) (fun i q hi hok hm hb=>?_) (fun x T E=>?_) 41 0 ([st],[]) M rfl (by simp) ⟨fun p hp=>by rw [List.mem_singleton.1 hp];exact hst,by simp,fun a ha=>by cases ha⟩ hM (by simp) (by simp)
 ·obtain ⟨r,⟨M',h1⟩,h2,h3,_⟩:=key
  exact ⟨r,⟨M',h1⟩,h2,h3 rfl⟩
 ·rcases aGv hs hn hok with ⟨X,x1,x2,x3,x4,x5⟩|⟨X,x1,_⟩
  ·rw [x3] at hm
   cases hm
   obtain ⟨M',e1,e2⟩:=inXO hs hn (b:=true) (i:=(i:Int)) (by omega) x5 hN hx hA
   refine ⟨M',?_,e2⟩
   show bY s x M A (i:Int)=_
   unfold bY mU
   rw [if_pos (aY hi),aU hi,aA,x1,aA,e1,aA]
   unfold mY
   rw [aA,if_neg (by simp)]
   unfold gP
   simp only
   by_cases h40:40 < (goS (i:Int) (X.map fun m=>(m.B,cano m.State)) (x,A)).1.length
   ·rw [if_pos (by simp only [decide_eq_true_eq];omega),if_pos h40]
   ·rw [if_neg (by simp only [decide_eq_true_eq];omega),if_neg h40,aV hi (by omega)]
  ·rw [x1] at hm;cases hm
 ·rcases aGv hs hn hok with ⟨X,x1,x2,x3,x4,x5⟩|⟨X,x1,x2,x3,x4,_⟩
  ·rw [x3] at hm;cases hm
  ·obtain ⟨M',e1,e2⟩:=inXO hs hn (b:=false) (i:=(i:Int)) x3 x4 hN hx hA
   show bY s x M A (i:Int)=_
   unfold bY mU
   rw [if_pos (aY hi),aU hi,aA,x2,aA,e1,aA]
   unfold mY
   rw [aA,if_pos (by simp)]
   rfl
 ·show bY s x M A (x.length:Int)=_
  unfold bY
  rw [if_neg (by simp)]
 ·rcases aGv hs hn hok with ⟨X,x1,x2,x3,x4,x5⟩|⟨X,x1,_⟩
  ·rw [x3] at hm
   cases hm
   have hl:(X.map fun m=>(m.B,cano m.State)).length=X.length:=by simp
   show gF s q.1 (yS q.2) (edA q.2) (i:Int)=_
   unfold gF
   rw [if_pos (aY hi),aU hi,aA,x2,aA,if_neg (by simp)]
   have hin:=inR (P:=LbM) (ok:=lI s.Definitions n) (fail:=((⟨0,0,[],[]⟩:iQ),([]:List (List GPoint)),false)) (Y:=X.map fun m=>(m.B,cano m.State)) (i:=i)
    (rin:=fun (t:(List (List GPoint) × List aH × List Edge × Int))=>iY (i:Int) (X.map (·.B),X.map (·.State),true) t.1 t.2.1 t.2.2.1 t.2.2.2) (fun y hy=>by
     obtain ⟨m,hm,rfl⟩:=List.mem_map.1 hy
     exact ⟨(x5 m hm).lbl,(x5 m hm).st.cano⟩) (fun k x T E hk hg hnd hx hT hE=>?_) (fun x T E=>?_) X.length 0 q (by omega) hF hb
   ·rw [List.drop_zero] at hin
    have hin':loop (fun (t:(List (List GPoint) × List aH × List Edge × Int))=>iY (i:Int) (X.map (·.B),X.map (·.State),true) t.1 t.2.1 t.2.2.1 t.2.2.2) (q.1,yS q.2,edA q.2,0)=_:=hin
    rw [hin',aA]
    by_cases hb':bdB (goS (i:Int) (X.map fun m=>(m.B,cano m.State)) q)=true
    ·rw [if_pos hb',if_pos hb']
     show nH (i:Int) _ _ _=_
     unfold nH xA
     rw [aV hi (by have:=(aDm.1 hb).1;omega)]
    ·rw [if_neg hb',if_neg hb']
   ·have hk':k < X.length:=by omega
    have hkL:k < (X.map (·.B)).length:=by simpa using hk'
    have hkS:k < (X.map (·.State)).length:=by simpa using hk'
    show iY (i:Int) (X.map (·.B),X.map (·.State),true) x T E (k:Int)=_
    unfold iY
    have hsch:=schL (x:=x) (p:=cano X[k].State) (step:=fun t:Int × Int=>iX x (cano X[k].State) t.1 t.2) hnd (fun m tv hm=>?_) (fun tv=>?_) x.length 0 (by omega)
    ·have hsch':loop (fun t:Int × Int=>iX x (cano X[k].State) t.1 t.2) (-1,0)=some (whI x (cano X[k].State)):=hsch
     have hst:=(x5 _ (List.getElem_mem hk')).st
     rw [if_pos (aY hkL),aU hkS,aA,List.getElem_map,aQn (by rw [hst.1];omega) hst.val,aA,hsch',aA]
     have tail:∀ x':List (List GPoint),x'.length=(dF x (cano X[k].State)).length->mG (i:Int) (X.map (·.B),X.map (·.State),true) T E (k:Int) x' (qK x (cano X[k].State):Int)=some (if 40 < (dF x (cano X[k].State)).length\/12 < (dF T X[k].B).length\/300 < (dF E ⟨(i:Int),pos (dF T X[k].B) X[k].B,(qK x (cano X[k].State):Int)⟩).length then .inr (.inr (⟨0,0,[],[]⟩,[],false)) else .inl (x',dF T X[k].B,dF E ⟨(i:Int),pos (dF T X[k].B) X[k].B,(qK x (cano X[k].State):Int)⟩,((k+1:Nat):Int))):=fun x' hx'=>by
      unfold mG
      rw [aU hkL,aA,List.getElem_map,aVU (by omega),aA]
      have hkn:=knwL (E:=E) (e:=(⟨(i:Int),pos (dF T X[k].B) X[k].B,(qK x (cano X[k].State):Int)⟩:Edge)) (step:=fun t:Bool × Int=>jU (i:Int) E (qK x (cano X[k].State):Int) (dF T X[k].B,pos (dF T X[k].B) X[k].B) t.1 t.2) (fun m b hm=>?_) (fun b=>?_) E.length 0 (by omega)
      ·have hkn':loop (fun t:Bool × Int=>jU (i:Int) E (qK x (cano X[k].State):Int) (dF T X[k].B,pos (dF T X[k].B) X[k].B) t.1 t.2) (false,0)=some (decide ((⟨(i:Int),pos (dF T X[k].B) X[k].B,(qK x (cano X[k].State):Int)⟩:Edge)∈E)):=by simpa using hkn
       rw [hkn',aA]
       have j6:∀ E':List Edge,nJ (k:Int) x' (dF T X[k].B,pos (dF T X[k].B) X[k].B) E'=some (if 40 < (dF x (cano X[k].State)).length\/12 < (dF T X[k].B).length\/300 < E'.length then .inr (.inr (⟨0,0,[],[]⟩,[],false)) else .inl (x',dF T X[k].B,E',((k+1:Nat):Int))):=fun E'=>by
        unfold nJ nI xB
        dsimp only
        rw [hx',aV hk' (by omega)]
        by_cases c1:40 < (dF x (cano X[k].State)).length
        ·rw [if_pos (by simp only [decide_eq_true_eq];omega),if_pos rfl,if_pos (.inl c1)]
        ·rw [if_neg (by simp only [decide_eq_true_eq];omega)]
         by_cases c2:12 < (dF T X[k].B).length
         ·rw [if_pos (by simp only [decide_eq_true_eq];omega),if_pos rfl,if_pos (.inr (.inl c2))]
         ·rw [if_neg (by simp only [decide_eq_true_eq];omega)]
          by_cases c3:300 < E'.length
          ·rw [if_pos (by simp only [decide_eq_true_eq];omega),if_pos (.inr (.inr c3))]
          ·rw [if_neg (by simp only [decide_eq_true_eq];omega),if_neg (by omega)]
       unfold xC
       by_cases he:(⟨(i:Int),pos (dF T X[k].B) X[k].B,(qK x (cano X[k].State):Int)⟩:Edge)∈E
       ·rw [decide_eq_true he,if_neg (by simp),j6]
        have:dF E ⟨(i:Int),pos (dF T X[k].B) X[k].B,(qK x (cano X[k].State):Int)⟩=E:=addU_of he
        rw [this]
       ·rw [decide_eq_false he,if_pos (by simp)]
        simp only
        rw [dM (by unfold fG;simp;omega),aA,j6]
        have:dF E ⟨(i:Int),pos (dF T X[k].B) X[k].B,(qK x (cano X[k].State):Int)⟩=E++[⟨(i:Int),pos (dF T X[k].B) X[k].B,(qK x (cano X[k].State):Int)⟩]:=aUB he
        rw [this]
      ·show jU (i:Int) E (qK x (cano X[k].State):Int) _ b (m:Int)=_
       unfold jU rS
       rw [if_pos (aY hm),aV hm (by omega)]
       cases b with
       |true=>rw [if_pos rfl,Bool.true_or]
       |false=>rw [if_neg (by simp),aU hm,aA,Bool.false_or]
      ·show jU (i:Int) E (qK x (cano X[k].State):Int) _ b (E.length:Int)=_
       unfold jU
       rw [if_neg (by simp)]
     have hYk:(X.map fun m=>(m.B,cano m.State))[k]=(X[k].B,cano X[k].State):=by simp
     rw [hYk]
     simp only
     unfold qB whI
     cases hw:whr x (cano X[k].State) with
     |some m=>
      have hm:cano X[k].State∈x:=by rw [←Decidable.not_not (p:=cano X[k].State∈x),←aGu,hw];simp
      have ha:dF x (cano X[k].State)=x:=addU_of hm
      have hnu:qK x (cano X[k].State)=m:=by unfold qK;rw [hw]
      have:=tail x (by rw [ha])
      rw [hnu] at this
      simp only
      rw [if_neg (by simp),this,ha,hnu]
     |none=>
      have hm:=aGu.1 hw
      have ha:dF x (cano X[k].State)=x++[cano X[k].State]:=aUB hm
      have hnu:qK x (cano X[k].State)=x.length:=by unfold qK;rw [hw]
      have:=tail (x++[cano X[k].State]) (by rw [ha])
      rw [hnu] at this
      simp only
      rw [if_pos (by decide),dM (by unfold fG;simp;omega),aA,this,ha,hnu]
    ·show iX x (cano X[k].State) tv (m:Int)=_
     unfold iX qC
     have hxm:=hg _ (List.getElem_mem hm)
     rw [if_pos (aY hm),aU hm,aA,aLo _ _ (by rw [hxm.1];omega) hxm.val,aA,aV hm (by omega)]
     by_cases e:x[m]=cano X[k].State
     ·rw [decide_eq_true e,if_pos rfl,if_pos e]
     ·rw [decide_eq_false e,if_neg (by simp),if_neg e]
    ·show iX x (cano X[k].State) tv (x.length:Int)=_
     unfold iX
     rw [if_neg (by simp)]
   ·show iY (i:Int) (X.map (·.B),X.map (·.State),true) x T E ((X.map fun m=>(m.B,cano m.State)).length:Int)=_
    unfold iY
    rw [hl,if_neg (by simp)]
  ·rw [x1] at hm;cases hm
 ·rcases aGv hs hn hok with ⟨X,x1,x2,x3,x4,x5⟩|⟨X,x1,x2,x3,x4,a,b,x5⟩
  ·rw [x3] at hm;cases hm
  ·show gF s q.1 (yS q.2) (edA q.2) (i:Int)=_
   unfold gF
   rw [if_pos (aY hi),aU hi,aA,x5,aA,if_pos (by simp)]
 ·show gF s x T E (x.length:Int)=_
  unfold gF
  rw [if_neg (by simp)]
end
theorem orb_both {s:aR} (hs:aFG s):
  (∃ t x,fC (cano (stT0 s)) s=some (t,x,true)/\rH s=some (t,x,true)/\aHj sz t/\nE t/\x.length<=40/\x.length=t.N.toNat/\x.Nodup/\∀ p∈x,lI s.Definitions s.Components.length p)\/
  (∃ t x u y,fC (cano (stT0 s)) s=some (t,x,false)/\rH s=some (u,y,false)):=by
 have hn3:=hs.ok.n3
 obtain ⟨s1,s2⟩:=aQk hs.ok
 have hst0:=aUx hs
 have hD:=hs.ok.defs
 have e0:=aQn (st:=stT0 s) (by rw [hst0.1];omega) hst0.val
 have hst:=hst0.cano
 generalize cano (stT0 s)=st at hst e0 ⊢
 obtain ⟨M1,m1,m2⟩:=fndS_eq hD hn3 (x:=[]) (M:=[]) (A:=[]) (p:=st) (fun q _=>by simp [qL,whr]) hst (by simp)
 have ha:dF ([]:List (List GPoint)) st=[st]:=by unfold dF;simp
 rw [ha] at m1 m2
 obtain ⟨r,⟨M',r1⟩,r2,r3⟩:=orbLoops hs hn3 st M1 hst m2
 have eI:∀ q,(ob (some (endP ((⟨0,0,[],[]⟩:iQ),([]:List (List GPoint)),false) M' r)) fun r=>match r with|.inl r=>dL r.1 r.2.1 r.2.2|.inr r=>some r)=some q->fC st s=some q:=fun q hq=>by
  unfold fC
  rw [m1,aA]
  rw [show loop (fun (t:(List (List GPoint) × (List (aH × Int)) × List lN × Int))=>bY s t.1 t.2.1 t.2.2.1 t.2.2.2) (((qK ([]:List (List GPoint)) st:Int),[st],M1).2.1,((qK ([]:List (List GPoint)) st:Int),[st],M1).2.2,[],0)=_ from r1]
  exact hq
 have eS:∀ q,(ob (some (endR ((⟨0,0,[],[]⟩:iQ),([]:List (List GPoint)),false) r)) fun r=>match r with|.inl r=>jT r.1 r.2.1 r.2.2|.inr r=>some r)=some q->rH s=some q:=fun q hq=>by
  unfold rH
  rw [s2,aA,e0,aA]
  exact (congrArg (fun o=>ob o fun r=>match r with|.inl r=>jT r.1 r.2.1 r.2.2|.inr r=>some r) r3).trans hq
 cases r with
 |none=>exact .inr ⟨_,_,_,_,eI _ rfl,eS _ rfl⟩
 |some z=>
  obtain ⟨z1,z2,z3,z4⟩:=r2 z rfl
  have h1:1<=z.1.length:=by have:=z4.length_le;simpa using this
  obtain ⟨t,t1,t2,t3,t4,t5⟩:=finS z1 h1 z2 z3
  have gI:dL z.1 M' z.2=some (t,z.1,bdB z):=by
   unfold dL jA
   rw [labelsOfG (by omega),aA,t1,aA,show (⟨t.N,t.I,t.L,t.E⟩:iQ)=t from rfl,t3,aA]
  cases hb:bdB z with
  |true=>
   left
   have hSt:t.N=(z.1.length:Int):=by
    have:=t2
    unfold aAX aGP at this
    cases hj:aDv (yS z.2) with
    |none=>rw [hj] at this;cases this
    |some r10=>
     rw [hj,aA] at this
     cases hlp:loop (fun (s:(List Edge × Int))=>rG (yS z.2) (edA z.2) r10 s.1 s.2) (([]:List Edge),0) with
     |none=>rw [hlp] at this;cases this
     |some r=>rw [hlp,aA] at this;cases this;rfl
   refine ⟨t,z.1,eI _ ?_,eS _ ?_,t4,t5 hb,z2,by rw [hSt];simp,z1.nd,z1.g⟩
   ·rw [aA]
    show dL z.1 M' z.2=_
    rw [gI,hb]
   ·rw [aA]
    simp only [endR,hb,if_true]
    show jT z.1 (yS z.2) (edA z.2)=_
    unfold jT
    rw [t2,aA]
  |false=>
   right
   refine ⟨t,z.1,⟨0,0,[],[]⟩,[],eI _ ?_,eS _ ?_⟩
   ·rw [aA]
    show dL z.1 M' z.2=_
    rw [gI,hb]
   ·rw [aA]
    simp only [endR,hb,Bool.false_eq_true,if_false]
end Gv
namespace Gv
open Go
theorem aQo {α β:Type} {f:α->List β} {c:Nat}:∀ (l:List α),(∀ x∈l,(f x).length<=c)->(l.flatMap f).length<=c * l.length
 |[],_=>by simp
 |x::l,h=>by
  have h1:=aQo l fun y hy=>h y (List.mem_cons_of_mem _ hy)
  have h2:=h x (by simp)
  rw [List.flatMap_cons,List.length_append,List.length_cons,Nat.mul_succ];omega
theorem aVV {α:Type} {xs:List α} {k:Nat} {x:α} (h:ix xs (k:Int)=some x):x∈xs:=by
 rw [gK] at h;exact List.mem_of_getElem? h
def extO (n:Nat) (q:List Int):List (List Int):=((List.range n).filter fun v=>!(q.any fun z=>(Int.ofNat v) == z)).map fun v=>q++[Int.ofNat v]
def aDn (n:Nat):Nat->List (List Int)
 |0=>[[]]
 |v+1=>(aDn n v).flatMap (extO n)
theorem aJr {n:Nat}:∀ (v:Nat) (q:List Int),q∈aDn n v<->q.length=v/\q.Nodup/\∀ z∈q,0<=z/\z < n
 |0,q=>by
  unfold aDn
  rw [List.mem_singleton]
  constructor
  ·rintro rfl;exact ⟨rfl,List.nodup_nil,by simp⟩
  ·rintro ⟨h,_⟩;exact List.eq_nil_of_length_eq_zero h
 |v+1,q=>by
  unfold aDn
  rw [List.mem_flatMap]
  constructor
  ·rintro ⟨p,hp,hq⟩
   obtain ⟨h1,h2,h3⟩:=(aJr v p).1 hp
   unfold extO at hq
   obtain ⟨x,hx,rfl⟩:=List.mem_map.1 hq
   rw [List.mem_filter,List.mem_range] at hx
   have hn:Int.ofNat x∉p:=fun hm=>by
    have:=hx.2
    rw [Bool.not_eq_true',List.any_eq_false] at this
    have:=this _ hm
    simp at this
   refine ⟨by rw [List.length_append,h1];rfl,?_,fun z hz=>?_⟩
   ·rw [List.nodup_append]
    refine ⟨h2,by simp,fun a ha b hb=>?_⟩
    rw [List.mem_singleton] at hb
    subst hb
    intro e;exact hn (e ▸ ha)
   ·rcases List.mem_append.1 hz with hz|hz
    ·exact h3 z hz
    ·rw [List.mem_singleton] at hz
     subst hz
     exact ⟨Int.natCast_nonneg x,by show (x:Int) < n;omega⟩
  ·rintro ⟨h1,h2,h3⟩
   obtain ⟨p,z,rfl⟩:∃ p z,q=p++[z]:=by
    rcases List.eq_nil_or_concat q with rfl|⟨p,z,rfl⟩
    ·simp at h1
    ·exact ⟨p,z,by simp⟩
   rw [List.nodup_append] at h2
   obtain ⟨n1,n2,n3⟩:=h2
   rw [List.length_append] at h1
   have hz:=h3 z (by simp)
   refine ⟨p,(aJr v p).2 ⟨by simpa using h1,n1,fun y hy=>h3 y (List.mem_append_left _ hy)⟩,?_⟩
   unfold extO
   rw [List.mem_map]
   refine ⟨z.toNat,?_,by rw [show Int.ofNat z.toNat=z by show ((z.toNat:Nat):Int)=z;omega]⟩
   rw [List.mem_filter,List.mem_range,Bool.not_eq_true',List.any_eq_false]
   refine ⟨by omega,fun y hy e=>?_⟩
   have e1:(Int.ofNat z.toNat)=z:=by show ((z.toNat:Nat):Int)=z;omega
   rw [e1,beq_iff_eq] at e
   exact n3 y hy z (by simp) e.symm
theorem aUD {n:Nat} (q:List Int):(extO n q).length<=n:=by
 unfold extO
 rw [List.length_map]
 exact Nat.le_trans (List.length_filter_le _ _) (by rw [List.length_range];exact Nat.le_refl _)
theorem ext_loop {n:Nat} (hn:n<=3) {q:List Int} (hq:q.length<=100) {out:List (List Int)} (ho:out.length<=1000):loop (fun s:List (List Int) × Int=>lA (n:Int) q s.1 s.2) (out,0)=some (out++extO n q):=by
 have:=aAG (step:=fun s:List (List Int) × Int=>lA (n:Int) q s.1 s.2) n (fun k (a:List (List Int))=>(a,(k:Int)))
  (fun k a=>a++((List.range' k (n - k)).filter fun v=>!(q.any fun z=>(Int.ofNat v) == z)).map fun v=>q++[Int.ofNat v]) (fun k a=>a.length<=1000+k) (fun k a hk hI=>?_) (fun a hI=>?_) n 0 out (by omega) (by omega)
 ·rw [show loop (fun s:List (List Int) × Int=>lA (n:Int) q s.1 s.2) (out,0)=_ from this,Nat.sub_zero,←List.range_eq_range']
  rfl
 ·left
  have hr:List.range' k (n - k)=k::List.range' (k+1) (n - (k+1)):=by
   rw [show n - k=(n - (k+1))+1 by omega,List.range'_succ]
  have hw:=aV hk (show n < 4611686018427387904 by omega)
  have hc:eZ q (k:Int)=some (q.any fun z=>(Int.ofNat k) == z):=aSs q (k:Int) (by omega)
  rw [hr,List.filter_cons]
  cases hb:q.any (fun z=>(Int.ofNat k) == z) with
  |true=>
   refine ⟨a,?_,by omega,by simp⟩
   show lA (n:Int) q a (k:Int)=_
   unfold lA
   rw [if_pos (aY hk),hc,aA,hb,if_neg (by simp)]
   unfold yI
   rw [hw]
  |false=>
   refine ⟨a++[q++[(k:Int)]],?_,by rw [List.length_append,List.length_singleton];omega,?_⟩
   ·show lA (n:Int) q a (k:Int)=_
    unfold lA
    rw [if_pos (aY hk),hc,aA,hb,if_pos (by simp)]
    unfold bG
    rw [dM (by simp [fG];omega),aA,aA,List.nil_append,dM (by simp [fG];omega),aA,dM (by simp [fG];omega),aA]
    unfold yI
    rw [hw]
   ·rw [if_pos (by simp),List.map_cons,List.append_assoc];rfl
 ·show lA (n:Int) q a (n:Int)=_
  unfold lA
  rw [if_neg (by simp)]
  simp
theorem exts_loop {n:Nat} (hn:n<=3) {out:List (List Int)} (ho:out.length<=200) (hq:∀ q∈out,q.length<=100):loop (fun s:List (List Int) × Int=>oK (n:Int) out s.1 s.2) ([],0)=some (out.flatMap (extO n)):=by
 have:=aGk (step:=fun s:List (List Int) × Int=>oK (n:Int) out s.1 s.2) out (fun k (a:List (List Int))=>(a,(k:Int))) (fun l a=>a++l.flatMap (extO n)) (fun k a=>a.length<=3 * k) (fun k a x l hk hx hI=>?_) (fun a hI=>?_) (a:=[]) (by simp)
 ·rw [show loop (fun s:List (List Int) × Int=>oK (n:Int) out s.1 s.2) ([],0)=_ from this];rfl
 ·left
  have hI':a.length<=3 * k:=hI
  have hxl:=aUD (n:=n) x
  refine ⟨a++extO n x,?_,by rw [List.length_append];omega,by rw [List.flatMap_cons,List.append_assoc]⟩
  show oK (n:Int) out a (k:Int)=_
  unfold oK
  rw [if_pos (aY hk),hx,aA,ext_loop hn (hq x (aVV hx)) (by omega),aA]
  unfold aII aEZ
  rw [aV hk (by omega)]
 ·show oK (n:Int) out a (out.length:Int)=_
  unfold oK
  rw [if_neg (by simp)]
  simp
theorem aMQ {n:Nat} (hn:n<=3):∀ v,v<=3->(aDn n v).length<=3 ^ v
 |0,_=>by simp [aDn]
 |v+1,h=>by
  have h1:=aMQ hn v (by omega)
  have h2:=aQo (f:=extO n) (c:=3) (aDn n v) fun q _=>Nat.le_trans (aUD q) hn
  unfold aDn
  rw [Nat.pow_succ];omega
theorem orders_eq {n:Nat} (hn:n<=3):aIJ (n:Int)=some (aDn n n):=by
 unfold aIJ
 have:=aAG (step:=fun s:List (List Int) × Int=>qO (n:Int) s.1 s.2) n (fun k (a:List (List Int))=>(a,(k:Int))) (fun _ _=>aDn n n) (fun k a=>a=aDn n k) (fun k a hk hI=>?_) (fun a hI=>?_) n 0 [[]] (by omega) rfl
 ·rw [show loop (fun s:List (List Int) × Int=>qO (n:Int) s.1 s.2) ([[]],0)=_ from this,aA];rfl
 ·left
  subst hI
  have h1:=aMQ hn k (by omega)
  have h2:3 ^ k<=27:=by
   have:k=0\/k=1\/k=2:=by omega
   rcases this with rfl|rfl|rfl<;>decide
  refine ⟨aDn n (k+1),?_,rfl,rfl⟩
  show qO (n:Int) (aDn n k) (k:Int)=_
  unfold qO
  rw [if_pos (aY hk),exts_loop hn (by omega) (fun q hq=>by have:=((aJr k q).1 hq).1;omega),aA]
  unfold aIH aEY
  rw [aV hk (by omega)];rfl
 ·subst hI
  show qO (n:Int) (aDn n n) (n:Int)=_
  unfold qO
  rw [if_neg (by simp)]
end Gv
namespace Gv
open Go
def SmS (x:List GPoint):Prop:=x.length < 1000/\∀ p∈x,p.Values.length < 1000000
theorem cmpW_eq {a b:List Int} (ha:a.length < 1000000) (hb:b.length < 1000000):dH a b=some (nA a b):=by
 have e1:∀ {k:Nat} (h:k < a.length) (_:k < b.length),bB a b (k:Int)=if a[k] < b[k] then some (.inr (.inr (-1))) else if b[k] < a[k] then some (.inr (.inr 1)) else some (.inl ((k+1:Nat):Int)):=fun {k} h h2=>by
  unfold bB
  rw [if_pos (aY h),aU h,aA,if_neg (by simp;omega),aU h2,aA,aBj,aA,aV h (by omega)]
  unfold aMv
  by_cases h1:a[k] < b[k]
  ·simp [h1]
  ·by_cases h3:b[k] < a[k]
   ·simp [h1,h3]
   ·simp [h1,h3]
 have key:∀ (n k:Nat),k+n=a.length->k<=b.length->∃ x,loop (fun s:Int=>bB a b s) (k:Int)=some x/\((x=.inl ()/\nA (a.drop k) (b.drop k)=if a.length < b.length then -1 else 0)\/x=.inr (nA (a.drop k) (b.drop k))):=by
  intro n
  induction n with
  |zero=>
   intro k hk hkb
   obtain rfl:k=a.length:=by omega
   refine ⟨.inl (),bA ?_,.inl ⟨rfl,?_⟩⟩
   ·unfold bB
    rw [if_neg (by simp)]
   ·rw [List.drop_eq_nil_of_le (Nat.le_refl _)]
    by_cases hlt:a.length < b.length
    ·rw [if_pos hlt,List.drop_eq_getElem_cons hlt];rfl
    ·rw [if_neg hlt,List.drop_eq_nil_of_le (by omega)];rfl
  |succ n ih=>
   intro k hk hkb
   have hka:k < a.length:=by omega
   by_cases hbk:b.length<=k
   ·refine ⟨.inr 1,bA ?_,.inr ?_⟩
    ·unfold bB
     rw [if_pos (aY hka),aU hka,aA,if_pos (decide_eq_true (by omega))]
    ·rw [List.drop_eq_getElem_cons hka,List.drop_eq_nil_of_le hbk];rfl
   ·have hk2:k < b.length:=by omega
    have d1:=List.drop_eq_getElem_cons hka
    have d2:=List.drop_eq_getElem_cons hk2
    have h:=e1 hka hk2
    by_cases h1:a[k] < b[k]
    ·rw [if_pos h1] at h
     exact ⟨_,bA h,.inr (by rw [d1,d2];simp [nA,h1])⟩
    ·by_cases h3:b[k] < a[k]
     ·rw [if_neg h1,if_pos h3] at h
      exact ⟨_,bA h,.inr (by rw [d1,d2];simp [nA,h1,h3])⟩
     ·rw [if_neg h1,if_neg h3] at h
      obtain ⟨x,hx,h4⟩:=ih (k+1) (by omega) (by omega)
      have:nA (a.drop k) (b.drop k)=nA (a.drop (k+1)) (b.drop (k+1)):=by rw [d1,d2];simp [nA,h1,h3]
      exact ⟨x,by rw [fD h];exact hx,by rw [this];exact h4⟩
 unfold dH
 obtain ⟨x,hx,h⟩:=key a.length 0 (by omega) (by omega)
 have hx':loop (fun s:Int=>bB a b s) 0=some x:=hx
 rw [hx',aA]
 simp only [List.drop_zero] at h
 rcases h with ⟨rfl,h⟩|rfl
 ·rw [h]
  simp only
  unfold eH
  by_cases hlt:a.length < b.length
  ·rw [if_pos (by simpa using hlt),if_pos hlt]
  ·rw [if_neg (by simpa using hlt),if_neg hlt]
 ·rfl
theorem aMR {a b:GPoint} (ha:a.Values.length < 1000000) (hb:b.Values.length < 1000000):jY a b=some (jC a b):=by
 unfold jY
 rw [aBj,aA,aBj,aA,cmpW_eq ha hb,aA,Or_eq,aA]
 unfold jC or3 aMv
 refine congrArg some ?_
 by_cases h1:a.Definition < b.Definition
 ·simp [h1]
 ·by_cases h2:b.Definition < a.Definition
  ·simp [h1,h2]
  ·by_cases h3:a.Part < b.Part
   ·simp [h1,h2,h3]
   ·by_cases h4:b.Part < a.Part
    ·simp [h1,h2,h3,h4]
    ·simp [h1,h2,h3,h4]
theorem aST {a b:List GPoint} (ha:SmS a) (hb:SmS b):nL a b=some (iR a b):=by
 obtain ⟨ha1,va⟩:=ha
 obtain ⟨hb1,vb⟩:=hb
 have cp:∀ p∈a,∀ q∈b,jY p q=some (jC p q):=fun p hp q hq=>aMR (va p hp) (vb q hq)
 have e1:∀ {k:Nat} (h:k < a.length) (_:k < b.length),aK a b (k:Int)=if jC a[k] b[k]≠0 then some (.inr (.inr (jC a[k] b[k]))) else some (.inl ((k+1:Nat):Int)):=fun {k} h h2=>by
  unfold aK
  rw [if_pos (aY h),aU h,aA,if_neg (by simp;omega),aU h2,aA,cp _ (List.getElem_mem h) _ (List.getElem_mem h2),aA,aV h (by omega)]
  by_cases hc:jC a[k] b[k]=0
  ·rw [if_neg (by simp [hc]),if_neg (by simp [hc])]
  ·rw [if_pos (by simp [hc]),if_pos hc]
 have key:∀ (n k:Nat),k+n=a.length->k<=b.length->∃ x,loop (fun s:Int=>aK a b s) (k:Int)=some x/\((x=.inl ()/\iR (a.drop k) (b.drop k)=if a.length < b.length then -1 else 0)\/x=.inr (iR (a.drop k) (b.drop k))):=by
  intro n
  induction n with
  |zero=>
   intro k hk hkb
   obtain rfl:k=a.length:=by omega
   refine ⟨.inl (),bA ?_,.inl ⟨rfl,?_⟩⟩
   ·unfold aK
    rw [if_neg (by simp)]
   ·rw [List.drop_eq_nil_of_le (Nat.le_refl _)]
    by_cases hlt:a.length < b.length
    ·rw [if_pos hlt,List.drop_eq_getElem_cons hlt];rfl
    ·rw [if_neg hlt,List.drop_eq_nil_of_le (by omega)];rfl
  |succ n ih=>
   intro k hk hkb
   have hka:k < a.length:=by omega
   by_cases hbk:b.length<=k
   ·refine ⟨.inr 1,bA ?_,.inr ?_⟩
    ·unfold aK
     rw [if_pos (aY hka),aU hka,aA,if_pos (decide_eq_true (by omega))]
    ·rw [List.drop_eq_getElem_cons hka,List.drop_eq_nil_of_le hbk];rfl
   ·have hk2:k < b.length:=by omega
    have d1:=List.drop_eq_getElem_cons hka
    have d2:=List.drop_eq_getElem_cons hk2
    have h:=e1 hka hk2
    by_cases hc:jC a[k] b[k]=0
    ·rw [if_neg (by simp [hc])] at h
     obtain ⟨x,hx,h3⟩:=ih (k+1) (by omega) (by omega)
     have:iR (a.drop k) (b.drop k)=iR (a.drop (k+1)) (b.drop (k+1)):=by rw [d1,d2];simp [iR,hc]
     exact ⟨x,by rw [fD h];exact hx,by rw [this];exact h3⟩
    ·rw [if_pos hc] at h
     exact ⟨_,bA h,.inr (by rw [d1,d2];simp [iR,hc])⟩
 unfold nL bH
 obtain ⟨x,hx,h⟩:=key a.length 0 (by omega) (by omega)
 have hx':loop (fun s:Int=>aK a b s) 0=some x:=hx
 rw [hx',aA]
 simp only [List.drop_zero] at h
 rcases h with ⟨rfl,h⟩|rfl
 ·rw [h]
  simp only
  unfold bN
  by_cases hlt:a.length < b.length
  ·rw [if_pos (by simpa using hlt),if_pos hlt,aA]
  ·rw [if_neg (by simpa using hlt),if_neg hlt,aA]
 ·rfl
theorem aOi {a b:List GPoint} (ha:SmS a) (hb:SmS b):aEc a b=some (decide (a=b)):=by
 unfold aEc
 rw [aST ha hb,aA]
 by_cases e:a=b
 ·subst e
  have:=aHo a a
  have h0:iR a a=0:=by omega
  rw [h0];simp
 ·have:iR a b≠0:=fun h=>e (aLf h)
  rw [decide_eq_false e,beq_eq_false_iff_ne.2 this]
theorem aQp {α:Type} [DecidableEq α] {step:(List α × Int × Int)->Option ((List α × Int × Int) ⊕ (List α × Int))} (s:List α) (k:Nat) (h1:1<=k) (hk:k < s.length) (hd:gX (s.take (k+1))=s.take k)
  (hst:∀ (j w:Nat) s' x y,1<=j->k+j < s.length->s'.length=s.length->w < s.length->s'[k+j]?=some x->s'[k+j - 1]?=some y->x∈s->y∈s->step (s',(w:Int),(j:Int))=some (.inl (if x=y then (s',(w:Int),((j+1:Nat):Int)) else (s'.set w x,((w+1:Nat):Int),((j+1:Nat):Int)))))
  (hen:∀ s' w,step (s',w,((s.length - k:Nat):Int))=some (.inr (s',w))):∃ s' w,loop step (s,(k:Int),1)=some (s',((w:Nat):Int))/\s'.length=s.length/\w<=s.length/\s'.take w=gX s:=by
 have:=aEu (step:=step) (s.length - k) (fun j (a:List α × Nat)=>(a.1,(a.2:Int),(j:Int))) (fun j a=>1<=j/\a.1.length=s.length/\a.2<=k+j - 1/\a.1.take a.2=gX (s.take (k+j))/\∀ i,k+j - 1<=i->a.1[i]?=s[i]?)
  (fun r=>∃ w:Nat,r.2=(w:Int)/\r.1.length=s.length/\w<=s.length/\r.1.take w=gX s) (fun j a hj hI=>?_) (fun a hI=>?_) (s.length - k - 1) 1 (s,k) (by omega) ⟨Nat.le_refl _,rfl,by simp only;omega,by simp only;rw [hd],fun i _=>rfl⟩
 ·obtain ⟨⟨s',w⟩,hr,w',hw,h2,h3,h4⟩:=this
  simp only at hw h2 h3 h4
  subst hw
  exact ⟨s',w',hr,h2,h3,h4⟩
 ·obtain ⟨s',w⟩:=a
  obtain ⟨i1,i2,i3,i4,i5⟩:=hI
  simp only at i2 i3 i4 i5
  have hkj:k+j < s.length:=by omega
  have hx:s'[k+j]?=some s[k+j]:=by rw [i5 _ (by omega),List.getElem?_eq_getElem hkj]
  have hy:s'[k+j - 1]?=some (s[k+j - 1]'(by omega)):=by rw [i5 _ (by omega),List.getElem?_eq_getElem (by omega)]
  have hst':=hst j w s' _ _ i1 hkj i2 (by omega) hx hy (List.getElem_mem _) (List.getElem_mem _)
  have hdt:=aEw (s:=s) (m:=k+j) (by omega) hkj
  by_cases e:s[k+j]=s[k+j - 1]'(by omega)
  ·rw [if_pos e] at hst'
   rw [if_pos e.symm] at hdt
   refine ⟨(s',w),hst',by omega,i2,by simp only;omega,?_,fun i hi=>i5 i (by omega)⟩
   simp only;rw [i4,←Nat.add_assoc,hdt]
  ·rw [if_neg e] at hst'
   rw [if_neg (fun h=>e h.symm)] at hdt
   refine ⟨(s'.set w s[k+j],w+1),hst',by omega,by simp [i2],by simp only;omega,?_,fun i hi=>?_⟩
   ·simp only
    rw [←Nat.add_assoc,hdt,←i4,List.take_add_one,List.take_set_of_le (Nat.le_refl _)]
    simp [show w < s'.length by omega]
   ·simp only
    rw [List.getElem?_set_ne (by omega)]
    exact i5 i (by omega)
 ·obtain ⟨s',w⟩:=a
  obtain ⟨i1,i2,i3,i4,i5⟩:=hI
  simp only at i2 i3 i4 i5
  refine ⟨_,hen s' _,w,rfl,i2,by omega,?_⟩
  simp only
  rw [i4,List.take_of_length_le (by omega)]
theorem aUE (s:List (List GPoint)) (h:s.length < 1000000000) (hz:∀ x∈s,SmS x):cH s=some (gX s):=by
 unfold cH
 by_cases h2:s.length < 2
 ·rw [if_pos (by simp;omega)]
  rcases s with _|⟨a,_|⟨b,l⟩⟩
  ·rfl
  ·rfl
  ·simp at h2;omega
 rw [if_neg (by simp;omega)]
 have:=aMz (step:=fun k=>cB s k) s.length (fun k (_:Unit)=>(k:Int)) (fun k _=>1<=k/\gX (s.take k)=s.take k) (fun r=>r=.inr (gX s)\/(r=.inl ()/\gX s=s)) (fun k a hk hI=>?_) (fun a hI=>?_) (s.length - 1) 1 () (by omega) ⟨Nat.le_refl _,?_⟩
 ·obtain ⟨r,hr,hR⟩:=this
  rw [show (1:Int)=((1:Nat):Int) from rfl,hr,aA]
  rcases hR with rfl|⟨rfl,h⟩
  ·rfl
  ·rw [h];rfl
 ·obtain ⟨i1,i2⟩:=hI
  have hk1:wr ((k:Int) - 1)=((k - 1:Nat):Int):=by rw [eG (by omega) (by omega)];omega
  have hdt:=aEw (s:=s) (m:=k) i1 hk
  simp only [cB,aY hk,if_pos,aU hk,aA,hk1,aU (xs:=s) (k:=k - 1) (by omega),aOi (hz _ (List.getElem_mem hk)) (hz _ (List.getElem_mem (show k - 1 < s.length by omega))),cT,aV hk (show s.length < 4611686018427387904 by omega)]
  by_cases e:s[k]=s[k - 1]'(by omega)
  ·right
   rw [if_pos e.symm,i2] at hdt
   rw [if_pos (by simpa using e),aGn (by omega),aA]
   obtain ⟨s',w,hl,g1,g2,g3⟩:=aQp (step:=fun x:List (List GPoint) × Int × Int=>cA (k:Int) (s.drop k) x.1 x.2.1 x.2.2) s k i1 hk hdt (fun j w s' x y j1 j2 j3 j4 hx hy mx my=>by
    have hl:(s.drop k).length=s.length - k:=by simp
    have a1:(k:Int)+(j:Int)=((k+j:Nat):Int):=by omega
    have a2:wr ((j:Int) - 1)=((j - 1:Nat):Int):=by rw [eG (by omega) (by omega)];omega
    have a3:(k:Int)+((j - 1:Nat):Int)=((k+j - 1:Nat):Int):=by omega
    simp only [cA,hl,aY (show j < s.length - k by omega),if_pos,aU (xs:=s.drop k) (k:=j) (by omega),aA,a1,gK,hx,a2,List.getElem?_eq_getElem (show j - 1 < (s.drop k).length by omega),a3,hy,aOi (hz _ mx) (hz _ my),bZ,aV (show j < s.length - k by omega) (by omega),List.getElem?_eq_getElem (show w < s'.length by omega),oO (xs:=s') (k:=w) _ (by omega),aV j4 (show s.length < 4611686018427387904 by omega)]
    by_cases e:x=y<;>simp [e]) (fun s' w=>by
     have hl:(s.drop k).length=s.length - k:=by simp
     simp only [cA,hl,bE];rfl)
   rw [hl,aA]
   unfold cU
   simp only
   rw [aGn (by omega),aA,aLg _ (by omega),aA,slc_to (by simp;omega),aA]
   refine ⟨_,rfl,.inl ?_⟩
   rw [List.take_append_of_le_length (by simp;omega),List.take_take,Nat.min_self,g3]
  ·left
   rw [if_neg (by simpa using e)]
   refine ⟨(),rfl,by omega,?_⟩
   rw [hdt,if_neg (fun h=>e h.symm),i2,List.take_add_one]
   simp [hk]
 ·refine ⟨_,by simp only [cB,bE];rfl,.inr ⟨rfl,?_⟩⟩
  have:=hI.2
  rwa [List.take_of_length_le (by omega)] at this
 ·rcases s with _|⟨a,l⟩
  ·rfl
  ·rfl
end Gv
namespace Gv
open Go
theorem aJs {σ ρ:Type} {step:σ->Option (σ ⊕ ρ)} {s t:σ} {r:ρ} (h1:step s=some (.inl t)) (h2:step t=some (.inr r)):loop step s=some r:=by rw [fD h1,bA h2]
theorem loop_3 {σ ρ:Type} {step:σ->Option (σ ⊕ ρ)} {s t u:σ} {r:ρ} (h1:step s=some (.inl t)) (h2:step t=some (.inl u)) (h3:step u=some (.inr r)):loop step s=some r:=by rw [fD h1,aJs h2 h3]
theorem loop_4 {σ ρ:Type} {step:σ->Option (σ ⊕ ρ)} {s t u v:σ} {r:ρ} (h1:step s=some (.inl t)) (h2:step t=some (.inl u)) (h3:step u=some (.inl v)) (h4:step v=some (.inr r)):loop step s=some r:=by rw [fD h1,loop_3 h2 h3 h4]
theorem aJR {o o2 o3:List Int} {i k:Int} (h1:loop (fun (s:Int)=>aDc o s) (wr ((o.length:Int) - 2))=some i) (h0:¬ i < 0) (h2:loop (fun (s:Int)=>aGT o i s) (wr ((o.length:Int) - 1))=some k)
  (h3:aDb o i k=ob (loop (fun (s:(List Int × Int × Int))=>aDa s.1 s.2.1 s.2.2) (o2,wr (i+1),wr ((o2.length:Int) - 1))) fun r=>aGS r) (h4:loop (fun (s:(List Int × Int × Int))=>aDa s.1 s.2.1 s.2.2) (o2,wr (i+1),wr ((o2.length:Int) - 1))=some o3):iN o=some (true,o3):=by
 unfold iN
 rw [h1,aA]
 unfold aAj
 rw [if_neg (by simpa using h0),h2,aA,h3,h4,aA];rfl
theorem aQq {o:List Int} {i:Int} (h1:loop (fun (s:Int)=>aDc o s) (wr ((o.length:Int) - 2))=some i) (h0:i < 0):iN o=some (false,o):=by
 unfold iN
 rw [h1,aA]
 unfold aAj
 rw [if_pos (by simpa using h0)]
theorem n1:iN [0]=some (false,[0]):=aQq (i:=-1) (bA rfl) (by decide)
theorem n2a:iN [0,1]=some (true,[1,0]):=aJR (i:=0) (k:=1) (o2:=[1,0]) (bA rfl) (by decide) (bA rfl) rfl (bA rfl)
theorem n2b:iN [1,0]=some (false,[1,0]):=aQq (i:=-1) (aJs rfl rfl) (by decide)
theorem n3a:iN [0,1,2]=some (true,[0,2,1]):=aJR (i:=1) (k:=2) (o2:=[0,2,1]) (bA rfl) (by decide) (bA rfl) rfl (bA rfl)
theorem n3b:iN [0,2,1]=some (true,[1,0,2]):=aJR (i:=0) (k:=2) (o2:=[1,2,0]) (aJs rfl rfl) (by decide) (bA rfl) rfl (aJs rfl rfl)
theorem n3c:iN [1,0,2]=some (true,[1,2,0]):=aJR (i:=1) (k:=2) (o2:=[1,2,0]) (bA rfl) (by decide) (bA rfl) rfl (bA rfl)
theorem n3d:iN [1,2,0]=some (true,[2,0,1]):=aJR (i:=0) (k:=1) (o2:=[2,1,0]) (aJs rfl rfl) (by decide) (aJs rfl rfl) rfl (aJs rfl rfl)
theorem n3e:iN [2,0,1]=some (true,[2,1,0]):=aJR (i:=1) (k:=2) (o2:=[2,1,0]) (bA rfl) (by decide) (bA rfl) rfl (bA rfl)
theorem n3f:iN [2,1,0]=some (false,[2,1,0]):=aQq (i:=-1) (loop_3 rfl rfl rfl) (by decide)
theorem first1:oW 1=some [0]:=by unfold oW;rw [aJs rfl rfl,aA];rfl
theorem first2:oW 2=some [0,1]:=by unfold oW;rw [loop_3 rfl rfl rfl,aA];rfl
theorem first3:oW 3=some [0,1,2]:=by unfold oW;rw [loop_4 rfl rfl rfl rfl,aA];rfl
def ChainO:List Int->List (List Int)->Prop
 |o,[]=>∃ o',iN o=some (false,o')
 |o,p::ps=>iN o=some (true,p)/\ChainO p ps
theorem chain_of {n:Nat} (h1:1<=n) (h3:n<=3):∃ o ps,oW (n:Int)=some o/\ChainO o ps/\aDn n n=o::ps:=by
 have:n=1\/n=2\/n=3:=by omega
 rcases this with rfl|rfl|rfl
 ·exact ⟨[0],[],first1,⟨_,n1⟩,by decide⟩
 ·exact ⟨[0,1],[[1,0]],first2,⟨n2a,_,n2b⟩,by decide⟩
 ·exact ⟨[0,1,2],[[0,2,1],[1,0,2],[1,2,0],[2,0,1],[2,1,0]],first3,⟨n3a,n3b,n3c,n3d,n3e,_,n3f⟩,by decide⟩
def rX (st:List GPoint) (o:List Int):List GPoint:=o.map fun i=>st.getD i.toNat ⟨0,0,[]⟩
theorem aJt {st:List GPoint} (hs:SmS st) {o:List Int} (ho:o.length<=3):SmS (rX st o):=by
 refine ⟨by unfold rX;rw [List.length_map];omega,fun p hp=>?_⟩
 unfold rX at hp
 obtain ⟨i,hi,rfl⟩:=List.mem_map.1 hp
 rw [List.getD_eq_getElem?_getD]
 cases h:st[i.toNat]? with
 |none=>simp
 |some q=>exact hs.2 q (List.mem_of_getElem? h)
theorem at_ix {st:List GPoint} {i:Int} (h0:0<=i) (h1:i < st.length):ix st i=some (st.getD i.toNat ⟨0,0,[]⟩):=by
 obtain ⟨k,rfl⟩:∃ k:Nat,i=(k:Int):=⟨i.toNat,by omega⟩
 have hk:k < st.length:=by omega
 rw [aU hk,List.getD_eq_getElem?_getD,Int.toNat_natCast,List.getElem?_eq_getElem hk];rfl
theorem aUF {st:List GPoint} (hs:SmS st) {o:List Int} (ho:o.length<=3) (hz:∀ z∈o,0<=z/\z < (st.length:Int)):aEb st o=some (rX st o):=by
 unfold aEb
 rw [lH (step:=fun t:List GPoint × Int=>wI st o t.1 t.2) o (fun i=>st.getD i.toNat ⟨0,0,[]⟩) id (fun k out x hk hout hx=>?_) (fun out=>by simp only [wI,bE];rfl),aA]
 ·simp [aFE,rX]
 ·have hm:x∈o:=by rw [aU hk] at hx;cases hx;exact List.getElem_mem hk
  have hzx:=hz x hm
  have hv:(st.getD x.toNat ⟨0,0,[]⟩).Values.length < 1000000:=(aJt hs (o:=[x]) (by simp)).2 _ (by simp [rX])
  simp only [wI,lU,bG,aY hk,if_true,hx,aA,at_ix hzx.1 hzx.2,dM (show ([]:List Int).length+(st.getD x.toNat ⟨0,0,[]⟩).Values.length<=fG by unfold fG;simp only [List.length_nil];omega),List.nil_append]
  rw [dM (by unfold fG;simp;omega),aA,aV hk (by omega)]
theorem move_eq {st:List GPoint} (hs:SmS st) {o:List Int} (ho:o.length<=3) (hz:∀ z∈o,0<=z/\z < (st.length:Int)):aGa st o=some (rX st o):=by
 unfold aGa
 rw [lH (step:=fun t:List GPoint × Int=>aAi st o t.1 t.2) o (fun i=>st.getD i.toNat ⟨0,0,[]⟩) id (fun k out x hk hout hx=>?_) (fun out=>by simp only [aAi,bE];rfl),aA]
 ·simp [aGQ,rX]
 ·have hm:x∈o:=by rw [aU hk] at hx;cases hx;exact List.getElem_mem hk
  have hzx:=hz x hm
  have hv:(st.getD x.toNat ⟨0,0,[]⟩).Values.length < 1000000:=(aJt hs (o:=[x]) (by simp)).2 _ (by simp [rX])
  simp only [aAi,rR,aY hk,if_true,hx,aA,at_ix hzx.1 hzx.2,dM (show ([]:List Int).length+(st.getD x.toNat ⟨0,0,[]⟩).Values.length<=fG by unfold fG;simp only [List.length_nil];omega),List.nil_append]
  rw [dM (by unfold fG;simp;omega),aA,aV hk (by omega)]
noncomputable def orbL (st:List GPoint):List (List GPoint):=gX (srt vH ((aDn st.length st.length).map (rX st)))
theorem aSU {n:Nat} {q:List Int} (h:q∈aDn n n):q.length=n/\∀ z∈q,0<=z/\z < (n:Int):=⟨((aJr n q).1 h).1,fun z hz=>((aJr n q).1 h).2.2 z hz⟩
theorem orbit_i {st:List GPoint} (hs:SmS st) (h3:st.length<=3):aLZ st=some (orbL st):=by
 have hl:=aMQ h3 st.length h3
 have hl2:(aDn st.length st.length).length<=27:=by
  have:3 ^ st.length<=27:=by
   have:st.length=0\/st.length=1\/st.length=2\/st.length=3:=by omega
   rcases this with h|h|h|h<;>rw [h]<;>decide
  omega
 unfold aLZ
 rw [orders_eq h3,aA]
 rw [lH (step:=fun t:List (List GPoint) × Int=>aEe st (aDn st.length st.length) t.1 t.2) (aDn st.length st.length) (rX st) id (fun k out x hk hout hx=>?_) (fun out=>by simp only [aEe,bE];rfl),aA]
 ·show aEd ((aDn st.length st.length).map (rX st))=_
  have hg:∀ x∈(aDn st.length st.length).map (rX st),SmS x:=fun x hx=>by
   obtain ⟨o,ho,rfl⟩:=List.mem_map.1 hx
   exact aJt hs (by rw [(aSU ho).1];exact h3)
  unfold aEd aJx
  rw [if_pos ⟨by rw [List.length_map];unfold fG;omega,fun x hx=>⟨by have:=(hg x hx).1;unfold fG;omega,fun p hp=>by have:=(hg x hx).2 p hp;unfold fG;omega⟩⟩,aA,aUE _ (by unfold srt;rw [List.length_mergeSort,List.length_map];omega) (fun x hx=>hg x (by unfold srt at hx;exact List.mem_mergeSort.1 hx)),aA]
  rfl
 ·have hm:x∈aDn st.length st.length:=by rw [aU hk] at hx;cases hx;exact List.getElem_mem hk
  obtain ⟨b1,b2⟩:=aSU hm
  simp only [aEe,aY hk,if_true,hx,aA,aUF hs (by rw [b1];exact h3) b2]
  rw [dM (by unfold fG;simp;omega),aA,aV hk (by omega)]
theorem less_eq {a b:List GPoint} (ha:SmS a) (hb:SmS b) (hl:a.length=b.length):aGb a b=some (vH a b):=by
 have key:∀ (n k:Nat),k+n=a.length->∃ x,loop (fun s:Int=>uP a b s) (k:Int)=some x/\(match x with|.inl _=>iR (a.drop k) (b.drop k)=0|.inr v=>v=decide (iR (a.drop k) (b.drop k) < 0)):=by
  intro n
  induction n with
  |zero=>
   intro k hk
   obtain rfl:k=a.length:=by omega
   refine ⟨.inl (),bA ?_,?_⟩
   ·unfold uP
    rw [if_neg (by simp)]
   ·simp only
    rw [List.drop_eq_nil_of_le (Nat.le_refl _),List.drop_eq_nil_of_le (by omega)];rfl
  |succ n ih=>
   intro k hk
   have hka:k < a.length:=by omega
   have hkb:k < b.length:=by omega
   have hla:=ha.1
   have d1:=List.drop_eq_getElem_cons hka
   have d2:=List.drop_eq_getElem_cons hkb
   have h:uP a b (k:Int)=if jC a[k] b[k]≠0 then some (.inr (.inr (decide (jC a[k] b[k] < 0)))) else some (.inl ((k+1:Nat):Int)):=by
    unfold uP
    rw [if_pos (aY hka),aU hka,aA,aU hkb,aA,aKz (ha.2 _ (List.getElem_mem hka)) (hb.2 _ (List.getElem_mem hkb)),aA,aV hka (by omega)]
    by_cases hc:jC a[k] b[k]=0
    ·rw [if_neg (by simp [hc]),if_neg (by simp [hc])]
    ·rw [if_pos (by simp [hc]),if_pos hc]
   by_cases hc:jC a[k] b[k]=0
   ·rw [if_neg (by simp [hc])] at h
    obtain ⟨x,hx,h3⟩:=ih (k+1) (by omega)
    have:iR (a.drop k) (b.drop k)=iR (a.drop (k+1)) (b.drop (k+1)):=by rw [d1,d2];simp [iR,hc]
    exact ⟨x,by rw [fD h];exact hx,by rw [this];exact h3⟩
   ·rw [if_pos hc] at h
    exact ⟨_,bA h,by simp only;rw [d1,d2];simp [iR,hc]⟩
 unfold aGb
 obtain ⟨x,hx,h⟩:=key a.length 0 (by omega)
 have hx':loop (fun s:Int=>uP a b s) 0=some x:=hx
 rw [hx',aA]
 simp only [List.drop_zero] at h
 unfold vH
 cases x with
 |inl u=>
  simp only at h
  show aGR=_
  rw [h];rfl
 |inr v=>
  simp only at h
  rw [h]
theorem shiftS {x:List GPoint} {out:List (List GPoint)} {at_:Nat} (ha:at_<=out.length) (hl:out.length < 1000000):∀ (j k:Nat) (o:List (List GPoint)),k=at_+j->k<=out.length->o=out.take k++x::out.drop k->
  ∃ y,loop (fun s:List (List GPoint) × Int=>mD (at_:Int) s.1 s.2) (o,(k:Int))=some (out.take at_++y::out.drop at_)
 |0,k,o,hk,hkl,ho=>by
  obtain rfl:k=at_:=by omega
  refine ⟨x,?_⟩
  rw [←ho]
  apply bA
  show mD (k:Int) o (k:Int)=_
  unfold mD
  rw [if_neg (by simp)]
 |j+1,k,o,hk,hkl,ho=>by
  have hk1:k - 1 < out.length:=by omega
  have hol:o.length=out.length+1:=by rw [ho];simp;omega
  have e1:wr ((k:Int) - 1)=((k - 1:Nat):Int):=by rw [eG (by omega) (by omega)];omega
  have e2:o[k - 1]'(by omega)=out[k - 1]:=by
   subst ho
   rw [List.getElem_append_left (by simp;omega),List.getElem_take]
  have hs:mD (at_:Int) o (k:Int)=some (.inl (o.set k out[k - 1],((k - 1:Nat):Int))):=by
   unfold mD
   rw [if_pos (by simp;omega),e1,aU (show k - 1 < o.length by omega),aA,aU (show k < o.length by omega),aA,oO _ (show k < o.length by omega),aA,e2]
  rw [fD hs]
  refine shiftS (x:=out[k - 1]) ha hl j (k - 1) _ (by omega) (by omega) ?_
  subst ho
  rw [List.set_append_right _ _ (by simp;omega)]
  have hlen:(out.take k).length=k:=by simp;omega
  rw [hlen,Nat.sub_self,List.set_cons_zero]
  have h1:out.take k=out.take (k - 1)++[out[k - 1]]:=by
   have:=List.take_add_one (l:=out) (i:=k - 1)
   rw [show k - 1+1=k by omega,List.getElem?_eq_getElem hk1] at this
   exact this
  have h2:out.drop (k - 1)=out[k - 1]::out.drop k:=by
   have:=List.drop_eq_getElem_cons hk1
   rwa [show k - 1+1=k by omega] at this
  rw [h1,h2,List.append_assoc];rfl
theorem placeS {x:List GPoint} {out:List (List GPoint)} (hx:SmS x) (ho:∀ y∈out,SmS y/\y.length=x.length) (hl:out.length < 1000000):∀ (j:Nat),j<=out.length->∃ at_,at_<=j/\
  loop (fun s:Int=>oY out x s) (j:Int)=some (at_:Int)/\(∀ m (hm:m < out.length),at_<=m->m < j->vH x out[m]=true)/\(∀ m (hm:m < out.length),at_=m+1->vH x out[m]=false)
 |0,hj=>by
  refine ⟨0,Nat.le_refl _,?_,fun m _ _ h=>absurd h (by omega),fun m _ h=>absurd h (by omega)⟩
  apply bA
  show oY out x ((0:Nat):Int)=_
  unfold oY vX
  rw [if_neg (by simp),if_neg (by simp)]
 |j+1,hj=>by
  have hj1:j < out.length:=by omega
  have hy:=ho _ (List.getElem_mem hj1)
  have e1:wr (((j+1:Nat):Int) - 1)=(j:Int):=by rw [eG (by omega) (by omega)];omega
  have hs:oY out x ((j+1:Nat):Int)=if vH x out[j]=true then some (.inl (j:Int)) else some (.inr ((j+1:Nat):Int)):=by
   unfold oY vX
   rw [if_pos (by simp only [decide_eq_true_eq];omega),e1,aU hj1,aA,less_eq hx hy.1 hy.2.symm,aA]
  by_cases hlt:vH x out[j]=true
  ·rw [if_pos hlt] at hs
   obtain ⟨at_,a1,a2,a3,a4⟩:=placeS hx ho hl j (by omega)
   refine ⟨at_,by omega,by rw [fD hs];exact a2,fun m hm h1 h2=>?_,a4⟩
   by_cases e:m=j
   ·subst e;exact hlt
   ·exact a3 m hm h1 (by omega)
  ·rw [if_neg hlt] at hs
   refine ⟨j+1,Nat.le_refl _,bA hs,fun m hm h1 h2=>by omega,fun m hm e=>?_⟩
   obtain rfl:m=j:=by omega
   rw [Bool.not_eq_true] at hlt
   exact hlt
def StrS (l:List (List GPoint)):Prop:=l.Pairwise fun a b=>vH a b=true
theorem ins_str {out:List (List GPoint)} {x:List GPoint} {at_:Nat} (ha:at_<=out.length) (ho:StrS out) (h1:∀ m (hm:m < out.length),at_<=m->vH x out[m]=true) (h2:∀ m (hm:m < out.length),at_=m+1->vH out[m] x=true):StrS (out.take at_++x::out.drop at_):=by
 unfold StrS at ho ⊢
 rw [List.pairwise_append,List.pairwise_cons]
 refine ⟨ho.sublist (List.take_sublist _ _),⟨fun b hb=>?_,ho.sublist (List.drop_sublist _ _)⟩,fun a ha' b hb=>?_⟩
 ·obtain ⟨m,hm,rfl⟩:=List.getElem_of_mem hb
  rw [List.length_drop] at hm
  rw [List.getElem_drop]
  exact h1 (at_+m) (by omega) (by omega)
 ·obtain ⟨m,hm,rfl⟩:=List.getElem_of_mem ha'
  rw [List.length_take] at hm
  rw [List.getElem_take]
  have hx:vH out[m] x=true:=by
   have h3:=h2 (at_ - 1) (by omega) (by omega)
   by_cases e:m=at_ - 1
   ·subst e;exact h3
   ·exact aMx (List.pairwise_iff_getElem.1 ho m (at_ - 1) (by omega) (by omega) (by omega)) h3
  rcases List.mem_cons.1 hb with rfl|hb
  ·exact hx
  ·obtain ⟨q,hq,rfl⟩:=List.getElem_of_mem hb
   rw [List.length_drop] at hq
   rw [List.getElem_drop]
   exact List.pairwise_iff_getElem.1 ho m (at_+q) (by omega) (by omega) (by omega)
theorem put_orb {st:List GPoint} {out:List (List GPoint)} {o:List Int} (hs:SmS st) (h3:st.length<=3) (hob:o.length=st.length/\∀ z∈o,0<=z/\z < (st.length:Int)) (ho:∀ y∈out,SmS y/\y.length=st.length) (hl:out.length < 1000) (hstr:StrS out):
  ∃ out',StrS out'/\out'.length<=out.length+1/\(∀ y,y∈out'<->y∈out\/y=rX st o)/\oZ st out o=mC o out':=by
 obtain ⟨hol,hz⟩:=hob
 have hx:=aJt hs (o:=o) (by omega)
 have hxl:(rX st o).length=st.length:=by unfold rX;rw [List.length_map];exact hol
 have ho':∀ y∈out,SmS y/\y.length=(rX st o).length:=fun y hy=>by rw [hxl];exact ho y hy
 obtain ⟨at_,a1,a2,a3,a4⟩:=placeS hx ho' (by omega) out.length (Nat.le_refl _)
 unfold oZ
 rw [move_eq hs (by omega) hz,aA,a2,aA]
 have hins:(∀ m (hm:m < out.length),at_=m+1->vH out[m] (rX st o)=true)->∃ out',StrS out'/\out'.length<=out.length+1/\(∀ y,y∈out'<->y∈out\/y=rX st o)/\oX out o (rX st o) (at_:Int) true=mC o out':=fun h2=>by
  have hz:∃ y,loop (fun s:List (List GPoint) × Int=>mD (at_:Int) s.1 s.2) (out++[[]],(out.length:Int))=some (out.take at_++y::out.drop at_):=shiftS (x:=[]) a1 (by omega) (out.length - at_) out.length _ (by omega) (Nat.le_refl _) (by simp)
  obtain ⟨y,hy⟩:=hz
  have hlen:(out.take at_).length=at_:=by simp;omega
  refine ⟨out.take at_++rX st o::out.drop at_,ins_str a1 hstr (fun m hm h=>a3 m hm h hm) h2,by simp;omega,fun y=>?_,?_⟩
  ·rw [List.mem_append,List.mem_cons]
   conv=>rhs;rw [←List.take_append_drop at_ out,List.mem_append]
   constructor
   ·rintro (h|h|h)
    ·exact .inl (.inl h)
    ·exact .inr h
    ·exact .inl (.inr h)
   ·rintro ((h|h)|h)
    ·exact .inl h
    ·exact .inr (.inr h)
    ·exact .inr (.inl h)
  ·unfold oX
   have hw:wr (((out++[([]:List GPoint)]).length:Int) - 1)=(out.length:Int):=by
    have:(out++[([]:List GPoint)]).length=out.length+1:=by simp
    rw [this,eG (by omega) (by omega)];omega
   rw [if_pos rfl,dM (by unfold fG;simp;omega),aA,hw,hy,aA]
   unfold aBx
   have hin:at_ < (out.take at_++y::out.drop at_).length:=by simp;omega
   rw [aU hin,aA,oO _ hin,aA,List.set_append_right _ _ (by omega),hlen,Nat.sub_self,List.set_cons_zero]
 unfold aBy
 by_cases h0:at_=0
 ·subst h0
  rw [if_pos (by simp)]
  exact hins fun m hm h=>by omega
 ·have hm1:at_ - 1 < out.length:=by omega
  have e1:wr ((at_:Int) - 1)=((at_ - 1:Nat):Int):=by rw [eG (by omega) (by omega)];omega
  have hy:=ho _ (List.getElem_mem hm1)
  rw [if_neg (by simp;omega),e1,aU hm1,aA,aLo _ _ (by have:=hy.1.1;omega) hy.1.2,aA]
  by_cases e:out[at_ - 1]=rX st o
  ·rw [decide_eq_true e]
   refine ⟨out,hstr,by omega,fun y=>⟨.inl,fun h=>h.elim id fun h=>?_⟩,?_⟩
   ·rw [h,←e];exact List.getElem_mem hm1
   ·unfold oX
    rw [if_neg (by simp)]
  ·rw [decide_eq_false e]
   refine hins fun m hm h=>?_
   obtain rfl:m=at_ - 1:=by omega
   have:=a4 (at_ - 1) hm1 (by omega)
   rcases aMy (out[at_ - 1]) (rX st o) with g|g|g
   ·exact g
   ·exact absurd g e
   ·rw [g] at this;cases this
theorem aUH {st:List GPoint} (hs:SmS st) (h3:st.length<=3):∀ (ps:List (List Int)) (o:List Int) (out:List (List GPoint)),ChainO o ps->(∀ q∈o::ps,q.length=st.length/\∀ z∈q,0<=z/\z < (st.length:Int))->(∀ y∈out,SmS y/\y.length=st.length)->out.length+ps.length < 900->StrS out->
  ∃ r,loop (fun (s:(List (List GPoint) × List Int))=>oZ st s.1 s.2) (out,o)=some r/\StrS r/\∀ y,y∈r<->y∈out\/y∈(o::ps).map (rX st)
 |[],o,out,hc,hb,ho,hl,hstr=>by
  obtain ⟨o',hn⟩:=hc
  obtain ⟨out',b1,b2,b3,b4⟩:=put_orb hs h3 (hb o (by simp)) ho (by omega) hstr
  refine ⟨out',bA ?_,b1,fun y=>by rw [b3 y];simp⟩
  show oZ st out o=_
  rw [b4]
  unfold mC
  rw [hn,aA,if_pos (by simp)]
 |p::ps,o,out,hc,hb,ho,hl,hstr=>by
  obtain ⟨hn,hc⟩:=hc
  obtain ⟨out',b1,b2,b3,b4⟩:=put_orb hs h3 (hb o (by simp)) ho (by omega) hstr
  simp only [List.length_cons] at hl
  have hob:=hb o (by simp)
  obtain ⟨r,r1,r2,r3⟩:=aUH hs h3 ps p out' hc (fun q hq=>hb q (List.mem_cons_of_mem _ hq)) (fun y hy=>by
   rcases (b3 y).1 hy with h|h
   ·exact ho y h
   ·rw [h]
    exact ⟨aJt hs (by rw [hob.1];exact h3),by unfold rX;rw [List.length_map];exact hob.1⟩) (by omega) b1
  refine ⟨r,?_,r2,fun y=>?_⟩
  ·rw [fD]
   ·exact r1
   ·show oZ st out o=_
    rw [b4]
    unfold mC
    rw [hn,aA,if_neg (by simp)]
    rfl
  ·rw [r3 y,b3 y,List.map_cons (l:=p::ps),List.mem_cons,or_assoc]
theorem orbit_s {st:List GPoint} (hs:SmS st) (h1:1<=st.length) (h3:st.length<=3):∃ r,aDX st=some r/\r.length=(orbL st).length:=by
 obtain ⟨o,ps,c1,c2,c3⟩:=chain_of h1 h3
 have hl:=aMQ h3 st.length h3
 have hl2:(aDn st.length st.length).length<=27:=by
  have:3 ^ st.length<=27:=by
   have:st.length=1\/st.length=2\/st.length=3:=by omega
   rcases this with h|h|h<;>rw [h]<;>decide
  omega
 have hpl:ps.length<=27:=by rw [c3] at hl2;simp at hl2;omega
 obtain ⟨r,r1,r2,r3⟩:=aUH hs h3 ps o [] c2 (fun q hq=>aSU (c3 ▸ hq)) (fun y hy=>by cases hy) (by simp;omega) List.Pairwise.nil
 refine ⟨r,?_,?_⟩
 ·unfold aDX
  rw [c1,aA,r1,aA]
 ·have:orbL st=r:=aRi vH aPT aMx aMy r2 fun y=>by rw [r3 y,c3];simp
  rw [this]
theorem sum_i {n:Nat} (h1:1<=n) (h3:n<=3) {x:List (List GPoint)} (hx:∀ p∈x,SmS p/\p.length=n) (hl:x.length<=40) {r:iQ × List (List GPoint) × Int} {q:iQ × List (List GPoint) × Bool} (hr:r.2.1=x) (hq:q.2.1=x):
  ∃ z,loop (fun (s:(Int × Int))=>kA r s.1 s.2) (0,0)=some z/\loop (fun (s:(Int × Int))=>jV q s.1 s.2) (0,0)=some z:=by
 have key:∀ (j k:Nat) (a:Int),k+j=x.length->∃ z,loop (fun (s:(Int × Int))=>kA r s.1 s.2) (a,(k:Int))=some z/\loop (fun (s:(Int × Int))=>jV q s.1 s.2) (a,(k:Int))=some z:=by
  intro j
  induction j with
  |zero=>
   intro k a hk
   obtain rfl:k=x.length:=by omega
   refine ⟨a,bA ?_,bA ?_⟩
   ·show kA r a (x.length:Int)=_
    unfold kA
    rw [hr,if_neg (by simp)]
   ·show jV q a (x.length:Int)=_
    unfold jV
    rw [hq,if_neg (by simp)]
  |succ j ih=>
   intro k a hk
   have hkx:k < x.length:=by omega
   obtain ⟨g1,g2⟩:=hx _ (List.getElem_mem hkx)
   obtain ⟨o,o1,o2⟩:=orbit_s g1 (by omega) (by omega)
   obtain ⟨z,z1,z2⟩:=ih (k+1) (wr (a+((orbL x[k]).length:Int))) (by omega)
   refine ⟨z,?_,?_⟩
   ·rw [fD]
    ·exact z1
    ·show kA r a (k:Int)=_
     unfold kA
     rw [hr,if_pos (aY hkx),aU hkx,aA,orbit_i g1 (by omega),aA,aV hkx (by omega)]
   ·rw [fD]
    ·exact z2
    ·show jV q a (k:Int)=_
     unfold jV
     rw [hq,if_pos (aY hkx),aU hkx,aA,o1,aA,o2,aV hkx (by omega)]
 exact key x.length 0 0 (by omega)
theorem good_sy' {s:aR} (hz:zSys s<=sz) (h:SysOk s):aFG s:=by
 have hf:=aMI hz
 have h5:=hf.5;have h7:=hf.7;have h9:=hf.9
 unfold sz at h5 h7 h9
 exact ⟨h,by omega,by omega,by omega⟩
theorem tot_both {s:aR} (hz:zSys s<=sz):∃ q:Int × Int,aAx s=some q/\aAk s=some q:=by
 obtain ⟨B,v1,v2,v3⟩:=aVO hz
 unfold aAx aAk xH
 rw [v1,v2,aA,aA]
 cases B with
 |false=>exact ⟨(0,1),rfl,rfl⟩
 |true=>
  have hs:=good_sy' hz (v3 rfl)
  have hn3:=hs.ok.n3
  have hst0:=aUx hs
  rw [if_neg (by simp),if_neg (by simp),(aQk hs.ok).1,aA,aMP (by rw [hst0.1];omega) hst0.val,aA]
  rcases orb_both hs with ⟨t,x,g1,g2,g3,g4,g5,g6,g7,g8⟩|⟨t,x,u,y,g1,g2⟩
  ·rw [g1,g2,aA,aA,if_neg (by simp),aA,if_neg (by simp),if_neg (by simp)]
   obtain ⟨z,z1,z2⟩:=sum_i hs.ok.n1 hn3 (x:=x) (fun p hp=>⟨⟨by rw [(g8 p hp).1];omega,(g8 p hp).val⟩,(g8 p hp).1⟩) g5 (r:=(t,x,0)) (q:=(t,x,true)) rfl rfl
   rw [z1,z2,aA,aA]
   exact ⟨(z,0),rfl,rfl⟩
  ·rw [g1,g2,aA,aA,if_pos (by simp),aA,if_pos (by simp),if_pos (by simp)]
   exact ⟨(0,5),rfl,rfl⟩
theorem lawTot (aS:aR) (h:aMF 9223372036854775807 aS):pH aS=some true:=by
 obtain ⟨r,hr,h1⟩:=aQN h
 unfold pH
 rw [hr,aA]
 by_cases hn:r < 0
 ·rw [if_pos (by simpa using hn)]
 rw [if_neg (by simpa using hn)]
 have hz:=h1 (by omega)
 have hf:=aMI hz
 have ht:tP aS=some aS:=aUc (aMI (n:=fG) (by unfold sz at hz;unfold fG;omega))
 obtain ⟨q,g1,g2⟩:=tot_both hz
 have e3:=aUe aS aS hf
 rw [decide_eq_true rfl] at e3
 rw [ht,aA,g2,aA,aA,g1,aA,if_neg (by simp)]
 unfold jN
 rw [if_neg (by simp),ht,aA,e3,aA,if_neg (by simp)]
end Gv
