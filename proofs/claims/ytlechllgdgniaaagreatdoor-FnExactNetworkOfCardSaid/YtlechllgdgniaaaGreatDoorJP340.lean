/- A component is explored, on both sides. -/
import Derived.Test.YtlechllgdgniaaaGreatDoorJP327
import Derived.Test.YtlechllgdgniaaaGreatDoorJP90
set_option linter.all false
namespace Gv
open Go
theorem aNN {ν:Type} {k q:bK} {v:ν}:∀ {m:List (bK × ν)},oG (yF m k v) q=if q=k then some v else oG m q
 |[]=>by simp [yF,oG]
 |(x,u)::m=>by
  have ih:=aNN (k:=k) (q:=q) (v:=v) (m:=m)
  unfold yF
  by_cases e:k=x
  ·subst e
   rw [if_pos rfl,oG,oG]
   by_cases h:q=k
   ·rw [if_pos h,if_pos h]
   ·rw [if_neg h,if_neg h,if_neg h]
  ·rw [if_neg e,oG,oG,ih]
   by_cases h:q=x
   ·subst h
    rw [if_pos rfl,if_neg (fun h=>e h.symm),if_pos rfl]
   ·rw [if_neg h,if_neg h]
def whr {β:Type} [DecidableEq β] (x:List β) (p:β):Option Nat:=x.findIdx? fun y=>decide (y=p)
section
variable {β:Type} [DecidableEq β]
theorem whr_some {x:List β} {p:β} {i:Nat} (h:whr x p=some i):x[i]?=some p:=by
 unfold whr at h
 obtain ⟨h1,h2,_⟩:=List.findIdx?_eq_some_iff_getElem.1 h
 rw [List.getElem?_eq_getElem h1]
 simpa using h2
theorem aEK {x:List β} {p:β}:whr x p=none<->p∉x:=by
 unfold whr
 rw [List.findIdx?_eq_none_iff]
 constructor
 ·intro h hp
  have:=h p hp
  simp at this
 ·intro h y hy
  have:y≠p:=fun e=>h (e ▸ hy)
  simp [this]
theorem whr_app (x:List β) (p q:β):whr (x++[q]) p=match whr x p with|some i=>some i|none=>if q=p then some x.length else none:=by
 unfold whr
 rw [List.findIdx?_append]
 cases h:x.findIdx? fun y=>decide (y=p) with
 |some i=>rfl
 |none=>by_cases e:q=p<;>simp [e,List.findIdx?_cons]
def numU (x:List β) (p:β):Nat:=match whr x p with|some i=>i|none=>x.length
theorem numU_at (x:List β) (p:β):(vP x p)[numU x p]?=some p:=by
 unfold numU vP
 cases h:whr x p with
 |some i=>rw [if_pos (by rw [←Decidable.not_not (p:=p∈x),←aEK,h];simp)];exact whr_some h
 |none=>rw [if_neg (aEK.1 h)];simp
end
def NumM (l:List Definition) (x:List bS) (M:List (bK × Int)):Prop:=∀ p,PtG l p->oG M (ptT p)=(whr x p).map fun i=>(i:Int)
section
variable {l:List Definition} (hD:nU l)
include hD
theorem num_put {x:List bS} {M:List (bK × Int)} {p:bS} (h:NumM l x M) (hp:PtG l p) (hn:whr x p=none):NumM l (x++[p]) (yF M (ptT p) (x.length:Int)):=by
 intro q hq
 rw [aNN,whr_app,h q hq]
 by_cases e:ptT q=ptT p
 ·have:=ptT_inj (hq.ok hD) (hp.ok hD) e
  subst this
  rw [if_pos rfl,hn];simp
 ·have hne:p≠q:=fun h=>e (by rw [h])
  rw [if_neg e,if_neg hne]
  cases whr x q<;>rfl
theorem fndG_eq {x:List bS} {M:List (bK × Int)} {A:List vQ} {p:bS} (h:NumM l x M) (hp:PtG l p) (hl:x.length < 100000000):∃ M',gC x M A p=some ((numU x p:Int),vP x p,M')/\NumM l (vP x p) M':=by
 unfold gC gH
 rw [aLy (hp.ok hD),aF,h p hp]
 unfold numU
 cases hw:whr x p with
 |some i=>
  have hm:p∈x:=by rw [←Decidable.not_not (p:=p∈x),←aEK,hw];simp
  refine ⟨M,?_,by unfold vP;rw [if_pos hm];exact h⟩
  unfold vP;rw [if_pos hm];rfl
 |none=>
  have hm:=aEK.1 hw
  have hput:=num_put hD h hp hw
  refine ⟨yF M (ptT p) (x.length:Int),?_,by unfold vP;rw [if_neg hm];exact hput⟩
  unfold vP
  rw [if_neg hm]
  show (ob (some (yF M (ptT p) (x.length:Int))) fun m43=>ob (apd x ([p]:List bS)) fun xs64=>some ((x.length:Int),xs64,m43))=_
  rw [aF,gK (by unfold jU;simp;omega),aF]
theorem arc_eq {x:List bS} {M:List (bK × Int)} {A:List vQ} {lbe:bK} {p:bS} {i:Int} (h:NumM l x M) (hp:PtG l p) (hl:x.length < 100000000) (hA:A.length < 100000000):∃ M',jD lbe p x M A i=some (vP x p,M',A++[⟨i,lbe,(numU x p:Int)⟩])/\NumM l (vP x p) M':=by
 obtain ⟨M',h1,h2⟩:=fndG_eq hD (A:=A) h hp hl
 refine ⟨M',?_,h2⟩
 unfold jD jO
 rw [h1,aF,gK (by unfold jU;simp;omega),aF]
end
def edI (A:List vQ):List Edge:=A.mapIdx fun i a=>⟨a.from_,(i:Int),a.to_⟩
theorem aMs (A:List vQ):(edI A).length=A.length:=by unfold edI;simp
theorem edI_app (A:List vQ) (a:vQ):edI (A++[a])=edI A++[⟨a.from_,(A.length:Int),a.to_⟩]:=by unfold edI;simp [List.mapIdx_append]
theorem sch_eq {r:List dM × Bool} {x:List bS} {i:Nat} {y:dM} (hi:ix r.1 (i:Int)=some y) (hv:∀ p∈x,p.Values.length < 1000000) (hl:x.length < 100000000):∀ (j k:Nat),k+j=x.length->(∀ m,m < k->x[m]?≠some y.Next)->
  loop (fun (s:(Int × Int))=>iS r x (i:Int) s.1 s.2) (-1,(k:Int))=some (match whr x y.Next with|some m=>(m:Int)|none=>-1)
 |0,k,hk,hn=>by
  obtain rfl:k=x.length:=by omega
  have:whr x y.Next=none:=by
   rw [aEK]
   intro hm
   obtain ⟨m,h1,h2⟩:=List.getElem_of_mem hm
   exact hn m h1 (by rw [List.getElem?_eq_getElem h1,h2])
  rw [this]
  apply jZ
  unfold iS kI
  rw [if_neg (by simp),if_neg (by simp)]
 |j+1,k,hk,hn=>by
  have hkx:k < x.length:=by omega
  have hstep:iS r x (i:Int) (-1) (k:Int)=some (.inl (if x[k]=y.Next then (k:Int) else -1,((k+1:Nat):Int))):=by
   unfold iS kI oO
   rw [if_pos (cU hkx),if_pos (by decide),cV hkx,aF,hi,aF,aKt _ _ (by have:=hv _ (List.getElem_mem hkx);omega),aF,cT hkx (by omega)]
   by_cases e:x[k]=y.Next
   ·rw [decide_eq_true e,if_pos rfl,if_pos e]
   ·rw [decide_eq_false e,if_neg (by simp),if_neg e]
  rw [yO (s':=(if x[k]=y.Next then (k:Int) else -1,((k+1:Nat):Int))) hstep]
  by_cases e:x[k]=y.Next
  ·rw [if_pos e]
   have hw:whr x y.Next=some k:=by
    unfold whr
    rw [List.findIdx?_eq_some_iff_getElem]
    refine ⟨hkx,by simpa using e,fun m hm=>?_⟩
    have:=hn m hm
    rw [List.getElem?_eq_getElem (by omega)] at this
    intro hd
    exact this (congrArg some (of_decide_eq_true hd))
   rw [hw]
   apply jZ
   show iS r x (i:Int) (k:Int) ((k+1:Nat):Int)=_
   unfold iS kI
   split
   ·rw [if_neg (by simp)]
   ·rw [if_neg (by simp)]
  ·rw [if_neg e]
   exact sch_eq hi hv hl j (k+1) (by omega) fun m hm=>by
    by_cases h:m=k
    ·subst h;rw [List.getElem?_eq_getElem hkx];simpa using e
    ·exact hn m (by omega)
end Gv
namespace Gv
open Go
structure Inn (l:List Definition) (i:Nat) (X:List dM) (x:List bS) (A:List vQ):Prop where
 g:∀ p∈x,PtG l p
 ar:∀ a∈A,∃ f t:Nat,a.from_=(f:Int)/\a.to_=(t:Int)/\f<=i/\t < x.length/\∃ nm vs,LbOk nm vs/\a.label=lab nm vs
 cur:∀ a∈A,a.from_=(i:Int)->∃ y∈X,y.B=a.label/\x[a.to_.toNat]?=some y.Next
 nd:A.Nodup
section
variable {l:List Definition} (hD:nU l)
include hD
theorem innG {X:List dM} {i:Nat} (b:Bool) (hX:∀ y∈X,aGb l y) (hnd:X.Nodup) (hXl:X.length<=6000000):∀ (j a:Nat) (x:List bS) (M:List (bK × Int)) (A:List vQ),a+j=X.length->i < x.length->Inn l i (X.take a) x A->NumM l x M->x.length+j<=50000000->A.length+j<=50000000->
  ∃ x' M' A',loop (fun (s:(List bS × (List (bK × Int)) × List vQ × Int))=>gR (i:Int) (X,b) s.1 s.2.1 s.2.2.1 s.2.2.2) (x,M,A,(a:Int))=some (x',M',A')/\
   loop (fun (s:(List bS × List bK × List Edge × Int))=>lG (i:Int) (X,b) s.1 s.2.1 s.2.2.1 s.2.2.2) (x,A.map (·.label),edI A,(a:Int))=some (x',A'.map (·.label),edI A')/\
   NumM l x' M'/\Inn l i X x' A'/\x.length<=x'.length/\A'.length=A.length+j
 |0,a,x,M,A,ha,hi,hI,hN,hl,hlA=>by
  obtain rfl:a=X.length:=by omega
  rw [List.take_length] at hI
  refine ⟨x,M,A,?_,?_,hN,hI,Nat.le_refl _,by omega⟩
  ·apply jZ
   unfold gR
   rw [if_neg (by simp)]
  ·apply jZ
   unfold lG
   rw [if_neg (by simp)]
 |j+1,a,x,M,A,ha,hi,hI,hN,hl,hlA=>by
  have haX:a < X.length:=by omega
  have hy:=hX X[a] (List.getElem_mem haX)
  obtain ⟨M1,m1,m2⟩:=arc_eq hD (A:=A) (lbe:=X[a].B) (i:=(i:Int)) hN hy.2 (by omega) (by omega)
  have hal:=aId x X[a].Next
  have hat:=numU_at x X[a].Next
  have hpre:∀ (m:Nat) (p:bS),x[m]?=some p->(vP x X[a].Next)[m]?=some p:=fun m p hm=>by
   unfold vP;split
   ·exact hm
   ·rw [List.getElem?_append_left (List.getElem?_eq_some_iff.1 hm).1];exact hm
  have hnew:(⟨(i:Int),X[a].B,(numU x X[a].Next:Int)⟩:vQ)∉A:=fun hm=>by
   obtain ⟨y,hyX,hyl,hyt⟩:=hI.cur _ hm rfl
   simp only [Int.toNat_natCast] at hyt hyl
   have h2:=hpre _ _ hyt
   rw [hat] at h2
   simp only [Option.some.injEq] at h2
   have:y=X[a]:=by
    cases hya:X[a]
    rw [hya] at h2 hyl
    cases y
    simp only at h2 hyl
    rw [hyl,h2]
   rw [this] at hyX
   obtain ⟨m,hm1,hm2⟩:=List.getElem_of_mem hyX
   rw [List.length_take] at hm1
   rw [List.getElem_take] at hm2
   exact List.pairwise_iff_getElem.1 hnd m a (by omega) haX (by omega) hm2
  have hI1:Inn l i (X.take (a+1)) (vP x X[a].Next) (A++[⟨(i:Int),X[a].B,(numU x X[a].Next:Int)⟩]):=by
   refine ⟨aNH hI.g hy.2,fun c hc=>?_,fun c hc hf=>?_,List.nodup_append.2 ⟨hI.nd,by simp,fun u hu v hv e=>hnew (by rw [List.mem_singleton.1 hv] at e;exact e ▸ hu)⟩⟩
   ·rcases List.mem_append.1 hc with hc|hc
    ·obtain ⟨f,t,h1,h2,h3,h4,h5⟩:=hI.ar c hc
     exact ⟨f,t,h1,h2,h3,by omega,h5⟩
    ·rw [List.mem_singleton.1 hc]
     exact ⟨i,numU x X[a].Next,rfl,rfl,Nat.le_refl _,(List.getElem?_eq_some_iff.1 hat).1,hy.1⟩
   ·rcases List.mem_append.1 hc with hc|hc
    ·obtain ⟨y,h1,h2,h3⟩:=hI.cur c hc hf
     exact ⟨y,by rw [List.take_succ];exact List.mem_append_left _ h1,h2,hpre _ _ h3⟩
    ·rw [List.mem_singleton.1 hc]
     exact ⟨X[a],List.mem_iff_getElem.2 ⟨a,by rw [List.length_take];omega,List.getElem_take⟩,rfl,by simpa using hat⟩
  obtain ⟨x',M',A',e1,e2,e3,e4,e5,e6⟩:=innG b hX hnd hXl j (a+1) (vP x X[a].Next) M1 (A++[⟨(i:Int),X[a].B,(numU x X[a].Next:Int)⟩]) (by omega) (by omega) hI1 m2 (by omega) (by simp;omega)
  refine ⟨x',M',A',?_,?_,e3,e4,by omega,by rw [e6];simp;omega⟩
  ·rw [yO]
   ·exact e1
   ·show gR (i:Int) (X,b) x M A (a:Int)=_
    unfold gR
    rw [if_pos (cU haX),cV haX,aF,m1,aF,cT haX (by omega)]
  ·rw [yO]
   ·exact e2
   ·show lG (i:Int) (X,b) x (A.map (·.label)) (edI A) (a:Int)=_
    have hsch:=sch_eq (r:=(X,b)) (x:=x) (i:=a) (y:=X[a]) (cV haX) (fun p hp=>by have:=(hI.g p hp).2.1;omega) (by omega) x.length 0 (by omega) (fun m hm=>by omega)
    unfold lG
    rw [if_pos (cU haX)]
    refine (congrArg (fun o=>ob o fun r=>mH (i:Int) (X,b) x (A.map (·.label)) (edI A) (a:Int) r) hsch).trans ?_
    rw [aF]
    have hj6:∀ (pts:List bS) (to:Int),mG (i:Int) (X,b) (A.map (·.label)) (edI A) (a:Int) pts to=some (.inl (pts,(A++[(⟨(i:Int),X[a].B,to⟩:vQ)]).map (·.label),edI (A++[(⟨(i:Int),X[a].B,to⟩:vQ)]),((a+1:Nat):Int))):=fun pts to=>by
     unfold mG sW
     have hw:wr (((A.map (fun y:vQ=>y.label)++[X[a].B]).length:Int) - 1)=(A.length:Int):=by
      have hlen:(A.map (fun y:vQ=>y.label)++[X[a].B]).length=A.length+1:=by simp
      rw [hlen,eT (by omega) (by omega)];omega
     rw [cV haX,aF,gK (by unfold jU;simp;omega),aF,hw,gK (by rw [aMs];unfold jU;simp;omega),aF,cT haX (by omega),edI_app]
     simp
    unfold mH numU vP
    cases hw:whr x X[a].Next with
    |some m=>
     have hm:X[a].Next∈x:=by rw [←Decidable.not_not (p:=X[a].Next∈x),←aEK,hw];simp
     rw [if_neg (by simp),hj6,if_pos hm]
    |none=>
     rw [if_pos (by decide),cV haX,aF,gK (by unfold jU;simp;omega),aF,hj6,if_neg (aEK.1 hw)]
end
structure OutI (l:List Definition) (i:Nat) (x:List bS) (A:List vQ):Prop where
 g:∀ p∈x,PtG l p
 ar:∀ a∈A,∃ f t:Nat,a.from_=(f:Int)/\a.to_=(t:Int)/\f < i/\t < x.length/\∃ nm vs,LbOk nm vs/\a.label=lab nm vs
 nd:A.Nodup
 le:i<=x.length
theorem outG {s:cP} (hD:nU s.Definitions):∀ (j i:Nat) (x:List bS) (M:List (bK × Int)) (A:List vQ),i+j=41->OutI s.Definitions i x A->NumM s.Definitions x M->A.length<=200 * i->x.length<=40->
  ∃ r,loop (fun (t:(List bS × (List (bK × Int)) × List vQ × Int))=>eD s t.1 t.2.1 t.2.2.1 t.2.2.2) (x,M,A,(i:Int))=some r/\
   (r=.inr (⟨0,0,[],[]⟩,[],false)\/∃ x' M' A',r=.inl (x',M',A')/\OutI s.Definitions x'.length x' A'/\x.length<=x'.length/\x'.length<=40/\A'.length<=8200/\A.length<=A'.length)/\
   (A.length<=300->loop (fun (t:(List bS × List bK × List Edge × Int))=>gO s t.1 t.2.1 t.2.2.1 t.2.2.2) (x,A.map (·.label),edI A,(i:Int))=
    some (match r with|.inr _=>.inr (⟨0,0,[],[]⟩,false)|.inl (x',_,A')=>if A'.length<=300 then .inl (x',A'.map (·.label),edI A') else .inr (⟨0,0,[],[]⟩,false)))
 |j,i,x,M,A,hj,hO,hN,hA,hx=>by
  by_cases hi:i < x.length
  ·cases j with
   |zero=>omega
   |succ j=>
   have hI:Inn s.Definitions i (([]:List dM)) x A:=⟨hO.g,fun a ha=>by
    obtain ⟨f,t,h1,h2,h3,h4,h5⟩:=hO.ar a ha
    exact ⟨f,t,h1,h2,by omega,h4,h5⟩,fun a ha hf=>by
    obtain ⟨f,t,h1,h2,h3,h4,h5⟩:=hO.ar a ha
    omega,hO.nd⟩
   rcases aSX hD (hO.g x[i] (List.getElem_mem hi)) with ⟨X,x1,x2,x3,x4,x5⟩|⟨X,Y,x1,x2,x3,x4,x5⟩
   ·obtain ⟨x',M',A',e1,e2,e3,e4,e5,e6⟩:=innG hD (i:=i) true x4 x5 (by omega) X.length 0 x M A (by omega) hi (by simpa using hI) hN (by omega) (by omega)
    have pc:gP x[i] x M A (i:Int) s=some (true,x',M',A'):=by
     unfold gP
     rw [x1,aF]
     refine (congrArg (fun o=>ob o fun r=>gQ (X,true) r.1 r.2.1 r.2.2) e1).trans ?_
     rfl
    have rs:∀ q,iP (i:Int) x' (A'.map (·.label)) (edI A')=q->gO s x (A.map (·.label)) (edI A) (i:Int)=q:=fun q hq=>by
     unfold gO
     have x2':rW s.Definitions x[i]=some (X,true):=x2
     rw [if_pos (cU hi),cV hi,aF,x2',aF,if_neg (by simp)]
     refine (congrArg (fun o=>ob o fun r=>iP (i:Int) r.1 r.2.1 r.2.2) e2).trans ?_
     rw [aF];exact hq
    by_cases h40:40 < x'.length
    ·refine ⟨.inr (⟨0,0,[],[]⟩,[],false),?_,.inl rfl,fun _=>?_⟩
     ·apply jZ
      show eD s x M A (i:Int)=_
      unfold eD
      rw [if_pos (cU hi),cV hi,aF,pc,aF,if_neg (by simp)]
      unfold iE
      rw [if_pos (by simp;omega)]
     ·apply jZ
      refine rs _ ?_
      unfold iP kH
      rw [if_pos (by simp;omega),if_pos rfl]
    ·have hO':OutI s.Definitions (i+1) x' A':=⟨e4.g,fun a ha=>by
      obtain ⟨f,t,h1,h2,h3,h4,h5⟩:=e4.ar a ha
      exact ⟨f,t,h1,h2,by omega,h4,h5⟩,e4.nd,by omega⟩
     obtain ⟨r,r1,r2,r3⟩:=outG hD j (i+1) x' M' A' (by omega) hO' e3 (by omega) (by omega)
     refine ⟨r,?_,?_,fun h300=>?_⟩
     ·rw [yO]
      ·exact r1
      ·show eD s x M A (i:Int)=_
       unfold eD
       rw [if_pos (cU hi),cV hi,aF,pc,aF,if_neg (by simp)]
       unfold iE
       rw [if_neg (by simp;omega),cT hi (by omega)]
     ·rcases r2 with h|⟨x2',M2,A2,h1,h2,h3,h4,h5,h6⟩
      ·exact .inl h
      ·exact .inr ⟨x2',M2,A2,h1,h2,by omega,h4,h5,by omega⟩
     ·by_cases hE:300 < A'.length
      ·have hstop:loop (fun (t:(List bS × List bK × List Edge × Int))=>gO s t.1 t.2.1 t.2.2.1 t.2.2.2) (x,A.map (·.label),edI A,(i:Int))=some (.inr (⟨0,0,[],[]⟩,false)):=by
        apply jZ
        refine rs _ ?_
        unfold iP kH
        rw [if_neg (by simp;omega),aMs,if_pos (by simp;omega)]
       rw [hstop]
       rcases r2 with h|⟨x2',M2,A2,h1,h2,h3,h4,h5,h6⟩
       ·rw [h]
       ·rw [h1]
        show _=some (if A2.length<=300 then _ else _)
        rw [if_neg (by omega)]
      ·rw [yO]
       ·exact r3 (by omega)
       ·refine rs _ ?_
        unfold iP kH sV
        rw [if_neg (by simp;omega),aMs,if_neg (by simp;omega),cT hi (by omega)]
   ·obtain ⟨x',M',A',e1,e2,e3,e4,e5,e6⟩:=innG hD (i:=i) false x4 x5 x3 X.length 0 x M A (by omega) hi (by simpa using hI) hN (by omega) (by omega)
    refine ⟨.inr (⟨0,0,[],[]⟩,[],false),?_,.inl rfl,fun _=>?_⟩
    ·apply jZ
     show eD s x M A (i:Int)=_
     have pc:gP x[i] x M A (i:Int) s=some (false,x',M',A'):=by
      unfold gP
      rw [x1,aF]
      refine (congrArg (fun o=>ob o fun r=>gQ (X,false) r.1 r.2.1 r.2.2) e1).trans ?_
      rfl
     unfold eD
     rw [if_pos (cU hi),cV hi,aF,pc,aF,if_pos (by simp)]
     rfl
    ·apply jZ
     show gO s x (A.map (·.label)) (edI A) (i:Int)=_
     unfold gO
     have x2':rW s.Definitions x[i]=some (Y,false):=x2
     rw [if_pos (cU hi),cV hi,aF,x2',aF,if_pos (by simp)]
  ·have hie:i=x.length:=by have:=hO.le;omega
   subst hie
   refine ⟨.inl (x,M,A),?_,.inr ⟨x,M,A,rfl,hO,Nat.le_refl _,hx,by omega,Nat.le_refl _⟩,fun h300=>?_⟩
   ·apply jZ
    show eD s x M A (x.length:Int)=_
    unfold eD
    rw [if_neg (by simp)]
   ·apply jZ
    show gO s x (A.map (·.label)) (edI A) (x.length:Int)=some (.inr (if A.length<=300 then _ else _))
    rw [if_pos h300]
    unfold gO
    rw [if_neg (by simp)]
end Gv
namespace Gv
open Go
theorem lts_arc {st ini:Int} {labels M:List bK} {arcs:List vQ} (hM:pN M) (hm:∀ s,s∈M<->s∈labels/\s≠eO) (h1:labels.length < 100000000) (h2:arcs.length < 100000000) (h3:M.length < 1000000):
  i_lts st ini labels arcs=some ⟨st,ini,eO::M,jQ (srt dT (arcs.map fun a=>(⟨a.from_,pos (eO::M) a.label,a.to_⟩:Edge)))⟩:=by
 unfold i_lts
 rw [show ([116,97,117]:bK)=eO from rfl,gK (by simp [jU];omega),aF]
 have e1:aFw ([eO]++labels)=some (srt aBm ([eO]++labels)):=by unfold aFw;rw [if_pos (by simp [jU];omega)]
 rw [e1,aF,aRk _ (by unfold srt;rw [List.length_mergeSort];simp;omega),aF]
 rw [srt_dedup aBm aOY aRg aKY hM.lab (fun x=>?_)]
 ·rw [aBC (step:=fun s:List Edge × Int=>aHC arcs (eO::M) s.1 s.2) arcs (fun a=>(⟨a.from_,pos (eO::M) a.label,a.to_⟩:Edge)) id (fun k out x hk ho hx=>?_) (fun out=>by simp only [aHC,cK];rfl),aF]
  ·unfold aHB
   have e2:aDX (id (arcs.map fun a=>(⟨a.from_,pos (eO::M) a.label,a.to_⟩:Edge)))=some (srt dT (arcs.map fun a=>(⟨a.from_,pos (eO::M) a.label,a.to_⟩:Edge))):=by
    unfold aDX;rw [if_pos (by simp [jU];omega)];rfl
   rw [e2,aF,aOk _ (by unfold srt;rw [List.length_mergeSort,List.length_map];omega),aF]
  ·simp only [aHC,cU hk,if_pos,hx,aF,Index_str _ _ (show (eO::M).length < 4611686018427387904 by simp;omega),cT hk (show arcs.length < 4611686018427387904 by omega)]
   rw [gK (by simp [jU];omega),aF]
 ·by_cases e:x=eO
  ·subst e;simp
  ·simp [e,hm x]
theorem pos_injG {xs:List bK} {a b:bK} (ha:a∈xs) (hb:b∈xs) (h:pos xs a=pos xs b):a=b:=by
 obtain ⟨i,hi,h1,h2⟩:=aMp ha
 obtain ⟨j,hj,h3,h4⟩:=aMp hb
 rw [h1,h3] at h
 have:i=j:=by omega
 subst this
 rw [←h2,h4]
theorem labelsOfG {arcs:List vQ} (h:arcs.length < 2000000):aBx arcs=some (arcs.map (·.label)):=aRl h
theorem compK {s:cP} (hs:SysOk s) {k:Int} (hk:0<=k/\k<=(s.Components.length:Int) - 1):∃ t u b,jK s k=some (t,b)/\lY s k=some (u,b)/\(b=true->t=u)/\lP sz t:=by
 have hn3:=hs.n3
 have hf0:lP sz ⟨0,0,[],[]⟩:=⟨Nat.zero_le _,fun s hs=>(by cases hs),Nat.zero_le _⟩
 obtain ⟨s1,s2⟩:=aSY hs
 have hlen:(stT0 s).length=s.Components.length:=by unfold stT0;simp
 have hkn:k.toNat < (stT0 s).length:=by omega
 have hix:ix (stT0 s) k=some (stT0 s)[k.toNat]:=by unfold ix;rw [if_pos hk.1];simp [hkn]
 have hp:=aRP hs (stT0 s)[k.toNat] (List.getElem_mem hkn)
 generalize (stT0 s)[k.toNat]=p at hix hp
 have hD:=hs.defs
 obtain ⟨M1,m1,m2⟩:=fndG_eq hD (x:=[]) (M:=[]) (A:=[]) (p:=p) (fun q _=>by simp [oG,whr]) hp (by simp)
 have ha:vP ([]:List bS) p=[p]:=by unfold vP;simp
 rw [ha] at m1 m2
 obtain ⟨r,r1,r2,r3⟩:=outG hD 41 0 [p] M1 [] (by omega) ⟨fun q hq=>by rw [List.mem_singleton.1 hq];exact hp,fun a ha=>(by cases ha),List.nodup_nil,by simp⟩ m2 (by simp) (by simp)
 have r3':=r3 (by simp)
 have eI:∀ q,(ob (some r) fun r=>match r with|.inl r=>fO r.1 r.2.1 r.2.2|.inr r=>some r)=q->jB p s=q:=fun q hq=>by
  unfold jB
  rw [m1,aF]
  exact (congrArg (fun o=>ob o fun r=>match r with|.inl r=>fO r.1 r.2.1 r.2.2|.inr r=>some r) r1).trans hq
 have eS:∀ q,(ob (some (match r with|.inr _=>(.inr (⟨0,0,[],[]⟩,false):(List bS × List bK × List Edge) ⊕ (eP × Bool))|.inl (x',_,A')=>if A'.length<=300 then (.inl (x',A'.map (fun a:vQ=>a.label),edI A')) else .inr (⟨0,0,[],[]⟩,false))) fun r=>match r with|.inl r=>iB r.1 r.2.1 r.2.2|.inr r=>some r)=q->lY s k=q:=fun q hq=>by
  unfold lY
  rw [s2,aF,hix,aF]
  exact (congrArg (fun o=>ob o fun r=>match r with|.inl r=>iB r.1 r.2.1 r.2.2|.inr r=>some r) r3').trans hq
 have fin:∀ (t:eP) (b:Bool) (z:List bS) (u:eP),jB p s=some (t,z,b)->lY s k=some (u,b)->(b=true->t=u)->lP sz t->∃ t u b,jK s k=some (t,b)/\lY s k=some (u,b)/\(b=true->t=u)/\lP sz t:=fun t b z u h1 h2 h3 h4=>by
  refine ⟨t,u,b,?_,h2,h3,h4⟩
  unfold jK
  rw [s1,aF,hix,aF,h1,aF]
 rcases r2 with rfl|⟨x',M',A',rfl,g1,g2,g3,g4,g5⟩
 ·exact fin ⟨0,0,[],[]⟩ false [] ⟨0,0,[],[]⟩ (eI _ rfl) (eS _ rfl) (fun h=>rfl) hf0
 ·have hM:=aRo (A'.map (·.label)) (by simp;omega)
  obtain ⟨M,_,j2,j3,j4⟩:=hM
  rw [List.length_map] at j4
  have hlab:=lts_arc (st:=(x'.length:Int)) (ini:=0) j2 j3 (by simp;omega) (show A'.length < 100000000 by omega) (by omega)
  let E:List Edge:=A'.map fun a=>(⟨a.from_,pos (eO::M) a.label,a.to_⟩:Edge)
  have hlm:∀ a∈A',a.label∈eO::M:=fun a ha=>by
   by_cases ht:a.label=eO
   ·rw [ht];simp
   ·exact List.mem_cons_of_mem _ ((j3 _).2 ⟨List.mem_map_of_mem ha,ht⟩)
  have hEn:E.Nodup:=by
   refine List.pairwise_map.2 (List.Pairwise.imp_of_mem (fun {a b} ha hb hne h=>hne ?_) g1.nd)
   simp only [Edge.mk.injEq] at h
   have:=pos_injG (hlm a ha) (hlm b hb) h.2.1
   cases a;cases b
   simp only at h this
   rw [h.1,h.2.2,this]
  have hEl:(jQ (srt dT E)).length=A'.length:=by
   have hp:=(List.perm_ext_iff_of_nodup (aRq (srtE_SE E)) hEn).2 (fun x=>aRs)
   rw [hp.length_eq];simp [E]
  have hfit:lP sz ⟨(x'.length:Int),0,eO::M,jQ (srt dT E)⟩:=by
   refine ⟨by simp only [List.length_cons];unfold sz;omega,fun w hw=>?_,by simp only;rw [hEl];unfold sz;omega⟩
   rcases List.mem_cons.1 hw with rfl|hw
   ·simp [eO];decide
   ·obtain ⟨a,ha,rfl⟩:=List.mem_map.1 ((j3 _).1 hw).1
    obtain ⟨_,_,_,_,_,_,nm,vs,ho,hl⟩:=g1.ar a ha
    have:=labLn ho
    rw [hl];unfold sz;omega
  have hfit9:lP 999999999 ⟨(x'.length:Int),0,eO::M,jQ (srt dT E)⟩:=hfit.mono (by decide)
  have eI':=eI (some (⟨(x'.length:Int),0,eO::M,jQ (srt dT E)⟩,x',cl (lK ⟨(x'.length:Int),0,eO::M,jQ (srt dT E)⟩))) (by
   rw [aF]
   show fO x' M' A'=_
   unfold fO kU
   rw [labelsOfG (by omega),aF,hlab,aF,aRf _ hfit9,aF])
  by_cases h300:A'.length<=300
  ·have hmake:=make_gen (texts:=A'.map (·.label)) (edges:=edI A') (Eo:=jQ (srt dT E)) (by simp;omega) j2 j3 (by rw [aMs];omega) (fun e he=>by
     unfold edI at he
     obtain ⟨i,hi,rfl⟩:=List.mem_mapIdx.1 he
     simp only [List.length_map];omega) (srtE_SE E) (fun x=>by
     rw [aRs]
     simp only [E,List.mem_map]
     unfold edI
     constructor
     ·rintro ⟨a,ha,rfl⟩
      obtain ⟨i,hi,rfl⟩:=List.getElem_of_mem ha
      refine ⟨_,List.mem_mapIdx.2 ⟨i,hi,rfl⟩,?_⟩
      simp [hi]
     ·rintro ⟨e,he,rfl⟩
      obtain ⟨i,hi,rfl⟩:=List.mem_mapIdx.1 he
      refine ⟨A'[i],List.getElem_mem hi,?_⟩
      simp [hi]) (x'.length:Int) 0
   exact fin _ _ x' _ eI' (eS _ (by
    rw [aF]
    show (match (if A'.length<=300 then (.inl (x',A'.map (·.label),edI A'):(List bS × List bK × List Edge) ⊕ (eP × Bool)) else .inr (⟨0,0,[],[]⟩,false)) with|.inl r=>iB r.1 r.2.1 r.2.2|.inr r=>some r)=_
    rw [if_pos h300]
    show iB x' (A'.map (·.label)) (edI A')=_
    unfold iB
    rw [hmake,aF,l11Is_eq _ hfit9,aF])) (fun _=>rfl) hfit
  ·have hno:cl (lK ⟨(x'.length:Int),0,eO::M,jQ (srt dT E)⟩)=false:=nA fun h=>by
    have:=h.2.2.2.1
    simp only at this
    omega
   rw [hno] at eI'
   exact fin _ false x' ⟨0,0,[],[]⟩ eI' (eS _ (by
    rw [aF]
    show (match (if A'.length<=300 then (.inl (x',A'.map (·.label),edI A'):(List bS × List bK × List Edge) ⊕ (eP × Bool)) else .inr (⟨0,0,[],[]⟩,false)) with|.inl r=>iB r.1 r.2.1 r.2.2|.inr r=>some r)=_
    rw [if_neg h300])) (fun h=>by cases h) hfit
end Gv
namespace Gv
open Go
end Gv
namespace Gv
open Go
theorem ownL {β:Type} {step:(List β × Int)->Option ((List β × Int) ⊕ List β)} {a:List β} (h:a.length<=1099511627776)
  (hs:∀ (k:Nat) (out:List β) x,k < a.length->out.length<=a.length->x∈a->ix a (k:Int)=some x->step (out,(k:Int))=some (.inl (out++[x],((k+1:Nat):Int)))) (hs':∀ out,step (out,(a.length:Int))=some (.inr out)):
  loop step ([],0)=some a:=by
 have key:=aBC (step:=step) a id id (fun k out x hk ho hx=>?_) (fun out=>by rw [hs' out];rfl)
 ·rw [key];simp
 ·exact hs k out x hk (by omega) (by rw [cV hk] at hx;cases hx;exact List.getElem_mem hk) hx
theorem l03Own_eq {e:List bP} (h:e.length<=sz):aHw e=some e:=by
 unfold aHw
 rw [gK (by unfold sz at h;simp [jU];omega),aF,List.nil_append]
theorem aQu {e:List (List bP)} (h:e.length<=sz) (hx:∀ x∈e,x.length<=sz):aCx e=some e:=by
 have hl:e.length<=1048576:=h
 unfold aCx
 rw [ownL (a:=e) (by omega) (fun k out x hk ho hm hi=>?_) (fun out=>by simp only [aAw,cK];rfl),aF]
 ·rfl
 ·simp only [aAw,cU hk,if_true,hi,aF,l03Own_eq (hx x hm),cT hk (show e.length < 4611686018427387904 by omega)]
  rw [gK (by simp [jU];omega),aF]
theorem aOx {e:List Part} (h:e.length<=sz) (hx:∀ x∈e,aBi sz x):aAx e=some e:=by
 have hl:e.length<=1048576:=h
 unfold aAx
 rw [ownL (a:=e) (by omega) (fun k out x hk ho hm hi=>?_) (fun out=>by simp only [xR,cK];rfl),aF]
 ·rfl
 ·simp only [xR,cU hk,if_true,hi,aF,aQu (hx x hm).2.1 (hx x hm).2.2,cT hk (show e.length < 4611686018427387904 by omega)]
  rw [gK (by simp [jU];omega),aF]
theorem l05Own_eq {s:cP} (h:aIr sz s):aHx s=some s:=by
 obtain ⟨h1,h2,h3,h4,h5,h6,h7,h8,h9,h10⟩:=h
 have g1:s.Definitions.length<=1048576:=h1
 have g3:s.Components.length<=1048576:=h3
 have g5:s.Meetings.length<=1048576:=h5
 have g7:s.Allowed.length<=1048576:=h7
 have g9:s.Hidden.length<=1048576:=h9
 unfold aHx
 rw [ownL (a:=s.Definitions) (by omega) (fun k out x hk ho hm hi=>?_) (fun out=>by simp only [aEY,cK];rfl),aF]
 ·unfold aCz
  rw [ownL (a:=s.Components) (by omega) (fun k out x hk ho hm hi=>?_) (fun out=>by simp only [aEX,cK];rfl),aF]
  ·unfold aCy
   rw [gK (by simp [jU];omega),aF,gK (by simp [jU];omega),aF,gK (by simp [jU];omega),aF]
   simp
  ·have hv:x.Values.length<=1048576:=h4 x hm
   simp only [aEX,cU hk,if_true,hi,aF,tM,cT hk (show s.Components.length < 4611686018427387904 by omega)]
   rw [gK (by simp [jU];omega),aF,aF,gK (by simp [jU];omega),aF,List.nil_append]
 ·simp only [aEY,cU hk,if_true,hi,aF,aOx (h2 x hm).2.1 (h2 x hm).2.2,cT hk (show s.Definitions.length < 4611686018427387904 by omega)]
  rw [gK (by simp [jU];omega),aF]
theorem with_eq {ps:List eP} {ms:List bV} {al hi:List bK} (h1:ms.length<=sz) (h2:al.length<=sz) (h3:hi.length<=sz):tY ⟨[],ms,al,hi⟩ ps=some ⟨ps,ms,al,hi⟩:=by
 unfold sz at h1 h2 h3
 unfold tY fP gU
 simp only
 rw [gK (by simp [jU];omega),aF,aF,gK (by simp [jU];omega),aF,aF,gK (by simp [jU];omega),aF,aF]
 simp
theorem netLoops {s:cP} (hs:SysOk s):∀ (n k:Nat) (out:List eP),k+n=s.Components.length->out.length=k->(∀ t∈out,lP sz t)->∃ r,
  loop (fun q:List eP × Int=>nP s q.1 q.2) (out,(k:Int))=some (match r with|some l=>.inl l|none=>.inr (⟨[],[],[],[]⟩,5))/\
  loop (fun q:List eP × Int=>yJ s q.1 q.2) (out,(k:Int))=some (match r with|some l=>.inl l|none=>.inr (⟨[],[],[],[]⟩,false))/\
  (∀ l,r=some l->l.length=s.Components.length/\∀ t∈l,lP sz t):=by
 have hn3:=hs.n3
 intro n
 induction n with
 |zero=>
  intro k out hk ho hf
  obtain rfl:k=s.Components.length:=by omega
  refine ⟨some out,?_,?_,fun l h=>by cases h;exact ⟨ho,hf⟩⟩
  ·exact aKi (by simp only [nP,cK];rfl)
  ·exact aKi (by simp only [yJ,cK];rfl)
 |succ n ih=>
  intro k out hk ho hf
  have hkl:k < s.Components.length:=by omega
  obtain ⟨t,u,b,h1,h2,h3,h4⟩:=compK hs (k:=(k:Int)) ⟨by omega,by omega⟩
  cases b with
  |false=>
   refine ⟨none,?_,?_,fun l h=>by cases h⟩
   ·exact aKi (by simp only [nP,cU hkl,if_true,h1,aF,Bool.not_false,if_true])
   ·exact aKi (by simp only [yJ,cU hkl,if_true,h2,aF,Bool.not_false,if_true])
  |true=>
   obtain rfl:=h3 rfl
   obtain ⟨r,r1,r2,r3⟩:=ih (k+1) (out++[t]) (by omega) (by simp [ho]) (fun x hx=>by
    rcases List.mem_append.1 hx with hx|hx
    ·exact hf x hx
    ·rw [List.mem_singleton.1 hx];exact h4)
   have ea:apd out [t]=some (out++[t]):=gK (by simp [jU];omega)
   refine ⟨r,?_,?_,r3⟩
   ·rw [←r1]
    exact aRn (by simp only [nP,cU hkl,if_true,h1,aF,Bool.not_true,Bool.false_eq_true,if_false,ea,cT hkl (show s.Components.length < 4611686018427387904 by omega)])
   ·rw [←r2]
    exact aRn (by simp only [yJ,cU hkl,if_true,h2,aF,Bool.not_true,Bool.false_eq_true,if_false,ea,cT hkl (show s.Components.length < 4611686018427387904 by omega)])
theorem net_both {s:cP} (hz:zSys s<=sz):∃ n c,zU s=some (n,c)/\aCJ s=some (n,c)/\aGL sz n:=by
 obtain ⟨B,v1,v2,v3⟩:=aSR hz
 have hf:=aIb hz
 have hf0:aGL sz ⟨[],[],[],[]⟩:=⟨Nat.zero_le _,fun s hs=>(by cases hs),Nat.zero_le _,fun s hs=>(by cases hs),Nat.zero_le _,fun s hs=>(by cases hs),Nat.zero_le _,fun s hs=>(by cases hs)⟩
 unfold zU aCJ
 rw [v1,v2,aF,aF]
 cases B with
 |false=>exact ⟨_,1,rfl,rfl,hf0⟩
 |true=>
  have hs:=v3 rfl
  have hn3:=hs.n3
  rw [if_neg (by simp),if_neg (by simp)]
  unfold aMn
  rw [l05Own_eq hf,aF]
  obtain ⟨r,r1,r2,r3⟩:=netLoops hs s.Components.length 0 [] (by omega) rfl (fun t ht=>by cases ht)
  have r1':loop (fun q:List eP × Int=>nP s q.1 q.2) ([],0)=_:=r1
  have r2':loop (fun q:List eP × Int=>yJ s q.1 q.2) ([],0)=_:=r2
  rw [r1',r2',aF,aF]
  cases r with
  |none=>exact ⟨_,5,rfl,rfl,hf0⟩
  |some l=>
   obtain ⟨g1,g2⟩:=r3 l rfl
   refine ⟨⟨l,s.Meetings,s.Allowed,s.Hidden⟩,0,?_,?_,⟨by rw [g1];exact hf.3,g2,hf.5,hf.6,hf.7,hf.8,hf.9,hf.10⟩⟩
   ·show qP s l=_
    unfold qP
    rw [with_eq hf.5 hf.7 hf.9,aF]
   ·show (ob (aBw s l) fun r44=>if (!r44.2) then (some (⟨[],[],[],[]⟩,5)) else (some (r44.1,0)))=_
    unfold aBw
    rw [aF,if_neg (by simp)]
theorem lawNet (aS:cP) (h:aIr 9223372036854775807 aS):rP aS=some true:=by
 obtain ⟨r,hr,h1⟩:=aOq h
 unfold rP
 rw [hr,aF]
 by_cases hn:r < 0
 ·rw [if_pos (by simpa using hn)]
 rw [if_neg (by simpa using hn)]
 have hz:=h1 (by omega)
 have hf:=aIb hz
 have ht:rK aS=some aS:=aRD (aIb (n:=jU) (by unfold sz at hz;unfold jU;omega))
 obtain ⟨t,c,g1,g2,g3⟩:=net_both hz
 have e1:=aQi t t g3
 have e3:=aRF aS aS hf
 rw [decide_eq_true rfl] at e1 e3
 obtain ⟨k,m1,m2⟩:=aOs hz
 obtain ⟨q,Ps,Ms,As,Hs,n1,n2,n3⟩:=mark_net g3
 have hbne:(c != c)=false:=by simp
 rw [ht,aF,g2,aF,aF,g1,aF,e1,aF,if_neg (by simp),hbne]
 unfold lC
 rw [if_neg (by simp),ht,aF,e3,aF,if_neg (by simp),m1,aF,if_neg (by simp;omega),e1,aF,if_neg (by simp),hbne]
 unfold jL
 rw [if_neg (by simp),n1,aF]
 simp only
 rw [n2,aF,if_neg (by simp;omega),if_neg (by simp),ht,aF,g1,aF,e1,aF,if_neg (by simp),hbne]
 unfold lB
 simp only
 rw [if_neg (by simp),n2,aF,if_neg (by simp;omega),if_neg (by simp)]
end Gv
