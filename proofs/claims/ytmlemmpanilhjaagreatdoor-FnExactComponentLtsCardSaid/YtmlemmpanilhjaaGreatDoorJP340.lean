/- A component is explored, on both sides. -/
import Derived.Test.YtmlemmpanilhjaaGreatDoorJP327
import Derived.Test.YtmlemmpanilhjaaGreatDoorJP90
set_option linter.all false
namespace Gv
open Go
theorem aME {ν:Type} {k q:bL} {v:ν}:∀ {m:List (bL × ν)},nR (xC m k v) q=if q=k then some v else nR m q
 |[]=>by simp [xC,nR]
 |(x,u)::m=>by
  have ih:=aME (k:=k) (q:=q) (v:=v) (m:=m)
  unfold xC
  by_cases e:k=x
  ·subst e
   rw [if_pos rfl,nR,nR]
   by_cases h:q=k
   ·rw [if_pos h,if_pos h]
   ·rw [if_neg h,if_neg h,if_neg h]
  ·rw [if_neg e,nR,nR,ih]
   by_cases h:q=x
   ·subst h
    rw [if_pos rfl,if_neg (fun h=>e h.symm),if_pos rfl]
   ·rw [if_neg h,if_neg h]
def whr {β:Type} [DecidableEq β] (x:List β) (p:β):Option Nat:=x.findIdx? fun y=>decide (y=p)
section
variable {β:Type} [DecidableEq β]
theorem whr_some {x:List β} {p:β} {i:Nat} (h:whr x p=some i):x[i]?=some p:=by
 unfold whr at h
 obtain ⟨h1,h2,_⟩:=List.findIdx?_eq_some_iff_getElem.1 h
 rw [List.getElem?_eq_getElem h1]
 simpa using h2
theorem aDM {x:List β} {p:β}:whr x p=none<->p∉x:=by
 unfold whr
 rw [List.findIdx?_eq_none_iff]
 constructor
 ·intro h hp
  have:=h p hp
  simp at this
 ·intro h y hy
  have:y≠p:=fun e=>h (e ▸ hy)
  simp [this]
theorem whr_app (x:List β) (p q:β):whr (x++[q]) p=match whr x p with|some i=>some i|none=>if q=p then some x.length else none:=by
 unfold whr
 rw [List.findIdx?_append]
 cases h:x.findIdx? fun y=>decide (y=p) with
 |some i=>rfl
 |none=>by_cases e:q=p<;>simp [e,List.findIdx?_cons]
def numU (x:List β) (p:β):Nat:=match whr x p with|some i=>i|none=>x.length
theorem numU_at (x:List β) (p:β):(uS x p)[numU x p]?=some p:=by
 unfold numU uS
 cases h:whr x p with
 |some i=>rw [if_pos (by rw [←Decidable.not_not (p:=p∈x),←aDM,h];simp)];exact whr_some h
 |none=>rw [if_neg (aDM.1 h)];simp
end
def NumM (l:List Definition) (x:List bO) (M:List (bL × Int)):Prop:=∀ p,PtG l p->nR M (ptT p)=(whr x p).map fun i=>(i:Int)
section
variable {l:List Definition} (hD:nE l)
include hD
theorem num_put {x:List bO} {M:List (bL × Int)} {p:bO} (h:NumM l x M) (hp:PtG l p) (hn:whr x p=none):NumM l (x++[p]) (xC M (ptT p) (x.length:Int)):=by
 intro q hq
 rw [aME,whr_app,h q hq]
 by_cases e:ptT q=ptT p
 ·have:=ptT_inj (hq.ok hD) (hp.ok hD) e
  subst this
  rw [if_pos rfl,hn];simp
 ·have hne:p≠q:=fun h=>e (by rw [h])
  rw [if_neg e,if_neg hne]
  cases whr x q<;>rfl
theorem fndG_eq {x:List bO} {M:List (bL × Int)} {A:List uT} {p:bO} (h:NumM l x M) (hp:PtG l p) (hl:x.length < 100000000):∃ M',fZ x M A p=some ((numU x p:Int),uS x p,M')/\NumM l (uS x p) M':=by
 unfold fZ gF
 rw [aKu (hp.ok hD),aF,h p hp]
 unfold numU
 cases hw:whr x p with
 |some i=>
  have hm:p∈x:=by rw [←Decidable.not_not (p:=p∈x),←aDM,hw];simp
  refine ⟨M,?_,by unfold uS;rw [if_pos hm];exact h⟩
  unfold uS;rw [if_pos hm];rfl
 |none=>
  have hm:=aDM.1 hw
  have hput:=num_put hD h hp hw
  refine ⟨xC M (ptT p) (x.length:Int),?_,by unfold uS;rw [if_neg hm];exact hput⟩
  unfold uS
  rw [if_neg hm]
  show (ob (some (xC M (ptT p) (x.length:Int))) fun m43=>ob (apd x ([p]:List bO)) fun xs64=>some ((x.length:Int),xs64,m43))=_
  rw [aF,jH (by unfold kM;simp;omega),aF]
theorem arc_eq {x:List bO} {M:List (bL × Int)} {A:List uT} {lbe:bL} {p:bO} {i:Int} (h:NumM l x M) (hp:PtG l p) (hl:x.length < 100000000) (hA:A.length < 100000000):∃ M',iX lbe p x M A i=some (uS x p,M',A++[⟨i,lbe,(numU x p:Int)⟩])/\NumM l (uS x p) M':=by
 obtain ⟨M',h1,h2⟩:=fndG_eq hD (A:=A) h hp hl
 refine ⟨M',?_,h2⟩
 unfold iX jI
 rw [h1,aF,jH (by unfold kM;simp;omega),aF]
end
def edI (A:List uT):List Edge:=A.mapIdx fun i a=>⟨a.from_,(i:Int),a.to_⟩
theorem aLj (A:List uT):(edI A).length=A.length:=by unfold edI;simp
theorem edI_app (A:List uT) (a:uT):edI (A++[a])=edI A++[⟨a.from_,(A.length:Int),a.to_⟩]:=by unfold edI;simp [List.mapIdx_append]
theorem sch_eq {r:List dK × Bool} {x:List bO} {i:Nat} {y:dK} (hi:ix r.1 (i:Int)=some y) (hv:∀ p∈x,p.Values.length < 1000000) (hl:x.length < 100000000):∀ (j k:Nat),k+j=x.length->(∀ m,m < k->x[m]?≠some y.Next)->
  loop (fun (s:(Int × Int))=>iN r x (i:Int) s.1 s.2) (-1,(k:Int))=some (match whr x y.Next with|some m=>(m:Int)|none=>-1)
 |0,k,hk,hn=>by
  obtain rfl:k=x.length:=by omega
  have:whr x y.Next=none:=by
   rw [aDM]
   intro hm
   obtain ⟨m,h1,h2⟩:=List.getElem_of_mem hm
   exact hn m h1 (by rw [List.getElem?_eq_getElem h1,h2])
  rw [this]
  apply jT
  unfold iN kC
  rw [if_neg (by simp),if_neg (by simp)]
 |j+1,k,hk,hn=>by
  have hkx:k < x.length:=by omega
  have hstep:iN r x (i:Int) (-1) (k:Int)=some (.inl (if x[k]=y.Next then (k:Int) else -1,((k+1:Nat):Int))):=by
   unfold iN kC nY
   rw [if_pos (cY hkx),if_pos (by decide),cZ hkx,aF,hi,aF,aJr _ _ (by have:=hv _ (List.getElem_mem hkx);omega),aF,cV hkx (by omega)]
   by_cases e:x[k]=y.Next
   ·rw [decide_eq_true e,if_pos rfl,if_pos e]
   ·rw [decide_eq_false e,if_neg (by simp),if_neg e]
  rw [xM (s':=(if x[k]=y.Next then (k:Int) else -1,((k+1:Nat):Int))) hstep]
  by_cases e:x[k]=y.Next
  ·rw [if_pos e]
   have hw:whr x y.Next=some k:=by
    unfold whr
    rw [List.findIdx?_eq_some_iff_getElem]
    refine ⟨hkx,by simpa using e,fun m hm=>?_⟩
    have:=hn m hm
    rw [List.getElem?_eq_getElem (by omega)] at this
    intro hd
    exact this (congrArg some (of_decide_eq_true hd))
   rw [hw]
   apply jT
   show iN r x (i:Int) (k:Int) ((k+1:Nat):Int)=_
   unfold iN kC
   split
   ·rw [if_neg (by simp)]
   ·rw [if_neg (by simp)]
  ·rw [if_neg e]
   exact sch_eq hi hv hl j (k+1) (by omega) fun m hm=>by
    by_cases h:m=k
    ·subst h;rw [List.getElem?_eq_getElem hkx];simpa using e
    ·exact hn m (by omega)
end Gv
namespace Gv
open Go
structure Inn (l:List Definition) (i:Nat) (X:List dK) (x:List bO) (A:List uT):Prop where
 g:∀ p∈x,PtG l p
 ar:∀ a∈A,∃ f t:Nat,a.from_=(f:Int)/\a.to_=(t:Int)/\f<=i/\t < x.length/\∃ nm vs,LbOk nm vs/\a.label=lab nm vs
 cur:∀ a∈A,a.from_=(i:Int)->∃ y∈X,y.B=a.label/\x[a.to_.toNat]?=some y.Next
 nd:A.Nodup
section
variable {l:List Definition} (hD:nE l)
include hD
theorem innG {X:List dK} {i:Nat} (b:Bool) (hX:∀ y∈X,aEZ l y) (hnd:X.Nodup) (hXl:X.length<=6000000):∀ (j a:Nat) (x:List bO) (M:List (bL × Int)) (A:List uT),a+j=X.length->i < x.length->Inn l i (X.take a) x A->NumM l x M->x.length+j<=50000000->A.length+j<=50000000->
  ∃ x' M' A',loop (fun (s:(List bO × (List (bL × Int)) × List uT × Int))=>gN (i:Int) (X,b) s.1 s.2.1 s.2.2.1 s.2.2.2) (x,M,A,(a:Int))=some (x',M',A')/\
   loop (fun (s:(List bO × List bL × List Edge × Int))=>kU (i:Int) (X,b) s.1 s.2.1 s.2.2.1 s.2.2.2) (x,A.map (·.label),edI A,(a:Int))=some (x',A'.map (·.label),edI A')/\
   NumM l x' M'/\Inn l i X x' A'/\x.length<=x'.length/\A'.length=A.length+j
 |0,a,x,M,A,ha,hi,hI,hN,hl,hlA=>by
  obtain rfl:a=X.length:=by omega
  rw [List.take_length] at hI
  refine ⟨x,M,A,?_,?_,hN,hI,Nat.le_refl _,by omega⟩
  ·apply jT
   unfold gN
   rw [if_neg (by simp)]
  ·apply jT
   unfold kU
   rw [if_neg (by simp)]
 |j+1,a,x,M,A,ha,hi,hI,hN,hl,hlA=>by
  have haX:a < X.length:=by omega
  have hy:=hX X[a] (List.getElem_mem haX)
  obtain ⟨M1,m1,m2⟩:=arc_eq hD (A:=A) (lbe:=X[a].B) (i:=(i:Int)) hN hy.2 (by omega) (by omega)
  have hal:=aGW x X[a].Next
  have hat:=numU_at x X[a].Next
  have hpre:∀ (m:Nat) (p:bO),x[m]?=some p->(uS x X[a].Next)[m]?=some p:=fun m p hm=>by
   unfold uS;split
   ·exact hm
   ·rw [List.getElem?_append_left (List.getElem?_eq_some_iff.1 hm).1];exact hm
  have hnew:(⟨(i:Int),X[a].B,(numU x X[a].Next:Int)⟩:uT)∉A:=fun hm=>by
   obtain ⟨y,hyX,hyl,hyt⟩:=hI.cur _ hm rfl
   simp only [Int.toNat_natCast] at hyt hyl
   have h2:=hpre _ _ hyt
   rw [hat] at h2
   simp only [Option.some.injEq] at h2
   have:y=X[a]:=by
    cases hya:X[a]
    rw [hya] at h2 hyl
    cases y
    simp only at h2 hyl
    rw [hyl,h2]
   rw [this] at hyX
   obtain ⟨m,hm1,hm2⟩:=List.getElem_of_mem hyX
   rw [List.length_take] at hm1
   rw [List.getElem_take] at hm2
   exact List.pairwise_iff_getElem.1 hnd m a (by omega) haX (by omega) hm2
  have hI1:Inn l i (X.take (a+1)) (uS x X[a].Next) (A++[⟨(i:Int),X[a].B,(numU x X[a].Next:Int)⟩]):=by
   refine ⟨aMy hI.g hy.2,fun c hc=>?_,fun c hc hf=>?_,List.nodup_append.2 ⟨hI.nd,by simp,fun u hu v hv e=>hnew (by rw [List.mem_singleton.1 hv] at e;exact e ▸ hu)⟩⟩
   ·rcases List.mem_append.1 hc with hc|hc
    ·obtain ⟨f,t,h1,h2,h3,h4,h5⟩:=hI.ar c hc
     exact ⟨f,t,h1,h2,h3,by omega,h5⟩
    ·rw [List.mem_singleton.1 hc]
     exact ⟨i,numU x X[a].Next,rfl,rfl,Nat.le_refl _,(List.getElem?_eq_some_iff.1 hat).1,hy.1⟩
   ·rcases List.mem_append.1 hc with hc|hc
    ·obtain ⟨y,h1,h2,h3⟩:=hI.cur c hc hf
     exact ⟨y,by rw [List.take_succ];exact List.mem_append_left _ h1,h2,hpre _ _ h3⟩
    ·rw [List.mem_singleton.1 hc]
     exact ⟨X[a],List.mem_iff_getElem.2 ⟨a,by rw [List.length_take];omega,List.getElem_take⟩,rfl,by simpa using hat⟩
  obtain ⟨x',M',A',e1,e2,e3,e4,e5,e6⟩:=innG b hX hnd hXl j (a+1) (uS x X[a].Next) M1 (A++[⟨(i:Int),X[a].B,(numU x X[a].Next:Int)⟩]) (by omega) (by omega) hI1 m2 (by omega) (by simp;omega)
  refine ⟨x',M',A',?_,?_,e3,e4,by omega,by rw [e6];simp;omega⟩
  ·rw [xM]
   ·exact e1
   ·show gN (i:Int) (X,b) x M A (a:Int)=_
    unfold gN
    rw [if_pos (cY haX),cZ haX,aF,m1,aF,cV haX (by omega)]
  ·rw [xM]
   ·exact e2
   ·show kU (i:Int) (X,b) x (A.map (·.label)) (edI A) (a:Int)=_
    have hsch:=sch_eq (r:=(X,b)) (x:=x) (i:=a) (y:=X[a]) (cZ haX) (fun p hp=>by have:=(hI.g p hp).2.1;omega) (by omega) x.length 0 (by omega) (fun m hm=>by omega)
    unfold kU
    rw [if_pos (cY haX)]
    refine (congrArg (fun o=>ob o fun r=>lT (i:Int) (X,b) x (A.map (·.label)) (edI A) (a:Int) r) hsch).trans ?_
    rw [aF]
    have hj6:∀ (pts:List bO) (to:Int),lS (i:Int) (X,b) (A.map (·.label)) (edI A) (a:Int) pts to=some (.inl (pts,(A++[(⟨(i:Int),X[a].B,to⟩:uT)]).map (·.label),edI (A++[(⟨(i:Int),X[a].B,to⟩:uT)]),((a+1:Nat):Int))):=fun pts to=>by
     unfold lS rZ
     have hw:wr (((A.map (fun y:uT=>y.label)++[X[a].B]).length:Int) - 1)=(A.length:Int):=by
      have hlen:(A.map (fun y:uT=>y.label)++[X[a].B]).length=A.length+1:=by simp
      rw [hlen,fL (by omega) (by omega)];omega
     rw [cZ haX,aF,jH (by unfold kM;simp;omega),aF,hw,jH (by rw [aLj];unfold kM;simp;omega),aF,cV haX (by omega),edI_app]
     simp
    unfold lT numU uS
    cases hw:whr x X[a].Next with
    |some m=>
     have hm:X[a].Next∈x:=by rw [←Decidable.not_not (p:=X[a].Next∈x),←aDM,hw];simp
     rw [if_neg (by simp),hj6,if_pos hm]
    |none=>
     rw [if_pos (by decide),cZ haX,aF,jH (by unfold kM;simp;omega),aF,hj6,if_neg (aDM.1 hw)]
end
structure OutI (l:List Definition) (i:Nat) (x:List bO) (A:List uT):Prop where
 g:∀ p∈x,PtG l p
 ar:∀ a∈A,∃ f t:Nat,a.from_=(f:Int)/\a.to_=(t:Int)/\f < i/\t < x.length/\∃ nm vs,LbOk nm vs/\a.label=lab nm vs
 nd:A.Nodup
 le:i<=x.length
theorem outG {s:cW} (hD:nE s.Definitions):∀ (j i:Nat) (x:List bO) (M:List (bL × Int)) (A:List uT),i+j=41->OutI s.Definitions i x A->NumM s.Definitions x M->A.length<=200 * i->x.length<=40->
  ∃ r,loop (fun (t:(List bO × (List (bL × Int)) × List uT × Int))=>eC s t.1 t.2.1 t.2.2.1 t.2.2.2) (x,M,A,(i:Int))=some r/\
   (r=.inr (⟨0,0,[],[]⟩,[],false)\/∃ x' M' A',r=.inl (x',M',A')/\OutI s.Definitions x'.length x' A'/\x.length<=x'.length/\x'.length<=40/\A'.length<=8200/\A.length<=A'.length)/\
   (A.length<=300->loop (fun (t:(List bO × List bL × List Edge × Int))=>gK s t.1 t.2.1 t.2.2.1 t.2.2.2) (x,A.map (·.label),edI A,(i:Int))=
    some (match r with|.inr _=>.inr (⟨0,0,[],[]⟩,false)|.inl (x',_,A')=>if A'.length<=300 then .inl (x',A'.map (·.label),edI A') else .inr (⟨0,0,[],[]⟩,false)))
 |j,i,x,M,A,hj,hO,hN,hA,hx=>by
  by_cases hi:i < x.length
  ·cases j with
   |zero=>omega
   |succ j=>
   have hI:Inn s.Definitions i (([]:List dK)) x A:=⟨hO.g,fun a ha=>by
    obtain ⟨f,t,h1,h2,h3,h4,h5⟩:=hO.ar a ha
    exact ⟨f,t,h1,h2,by omega,h4,h5⟩,fun a ha hf=>by
    obtain ⟨f,t,h1,h2,h3,h4,h5⟩:=hO.ar a ha
    omega,hO.nd⟩
   rcases aRn hD (hO.g x[i] (List.getElem_mem hi)) with ⟨X,x1,x2,x3,x4,x5⟩|⟨X,Y,x1,x2,x3,x4,x5⟩
   ·obtain ⟨x',M',A',e1,e2,e3,e4,e5,e6⟩:=innG hD (i:=i) true x4 x5 (by omega) X.length 0 x M A (by omega) hi (by simpa using hI) hN (by omega) (by omega)
    have pc:gL x[i] x M A (i:Int) s=some (true,x',M',A'):=by
     unfold gL
     rw [x1,aF]
     refine (congrArg (fun o=>ob o fun r=>gM (X,true) r.1 r.2.1 r.2.2) e1).trans ?_
     rfl
    have rs:∀ q,iL (i:Int) x' (A'.map (·.label)) (edI A')=q->gK s x (A.map (·.label)) (edI A) (i:Int)=q:=fun q hq=>by
     unfold gK
     have x2':rC s.Definitions x[i]=some (X,true):=x2
     rw [if_pos (cY hi),cZ hi,aF,x2',aF,if_neg (by simp)]
     refine (congrArg (fun o=>ob o fun r=>iL (i:Int) r.1 r.2.1 r.2.2) e2).trans ?_
     rw [aF];exact hq
    by_cases h40:40 < x'.length
    ·refine ⟨.inr (⟨0,0,[],[]⟩,[],false),?_,.inl rfl,fun _=>?_⟩
     ·apply jT
      show eC s x M A (i:Int)=_
      unfold eC
      rw [if_pos (cY hi),cZ hi,aF,pc,aF,if_neg (by simp)]
      unfold iA
      rw [if_pos (by simp;omega)]
     ·apply jT
      refine rs _ ?_
      unfold iL kB
      rw [if_pos (by simp;omega),if_pos rfl]
    ·have hO':OutI s.Definitions (i+1) x' A':=⟨e4.g,fun a ha=>by
      obtain ⟨f,t,h1,h2,h3,h4,h5⟩:=e4.ar a ha
      exact ⟨f,t,h1,h2,by omega,h4,h5⟩,e4.nd,by omega⟩
     obtain ⟨r,r1,r2,r3⟩:=outG hD j (i+1) x' M' A' (by omega) hO' e3 (by omega) (by omega)
     refine ⟨r,?_,?_,fun h300=>?_⟩
     ·rw [xM]
      ·exact r1
      ·show eC s x M A (i:Int)=_
       unfold eC
       rw [if_pos (cY hi),cZ hi,aF,pc,aF,if_neg (by simp)]
       unfold iA
       rw [if_neg (by simp;omega),cV hi (by omega)]
     ·rcases r2 with h|⟨x2',M2,A2,h1,h2,h3,h4,h5,h6⟩
      ·exact .inl h
      ·exact .inr ⟨x2',M2,A2,h1,h2,by omega,h4,h5,by omega⟩
     ·by_cases hE:300 < A'.length
      ·have hstop:loop (fun (t:(List bO × List bL × List Edge × Int))=>gK s t.1 t.2.1 t.2.2.1 t.2.2.2) (x,A.map (·.label),edI A,(i:Int))=some (.inr (⟨0,0,[],[]⟩,false)):=by
        apply jT
        refine rs _ ?_
        unfold iL kB
        rw [if_neg (by simp;omega),aLj,if_pos (by simp;omega)]
       rw [hstop]
       rcases r2 with h|⟨x2',M2,A2,h1,h2,h3,h4,h5,h6⟩
       ·rw [h]
       ·rw [h1]
        show _=some (if A2.length<=300 then _ else _)
        rw [if_neg (by omega)]
      ·rw [xM]
       ·exact r3 (by omega)
       ·refine rs _ ?_
        unfold iL kB rY
        rw [if_neg (by simp;omega),aLj,if_neg (by simp;omega),cV hi (by omega)]
   ·obtain ⟨x',M',A',e1,e2,e3,e4,e5,e6⟩:=innG hD (i:=i) false x4 x5 x3 X.length 0 x M A (by omega) hi (by simpa using hI) hN (by omega) (by omega)
    refine ⟨.inr (⟨0,0,[],[]⟩,[],false),?_,.inl rfl,fun _=>?_⟩
    ·apply jT
     show eC s x M A (i:Int)=_
     have pc:gL x[i] x M A (i:Int) s=some (false,x',M',A'):=by
      unfold gL
      rw [x1,aF]
      refine (congrArg (fun o=>ob o fun r=>gM (X,false) r.1 r.2.1 r.2.2) e1).trans ?_
      rfl
     unfold eC
     rw [if_pos (cY hi),cZ hi,aF,pc,aF,if_pos (by simp)]
     rfl
    ·apply jT
     show gK s x (A.map (·.label)) (edI A) (i:Int)=_
     unfold gK
     have x2':rC s.Definitions x[i]=some (Y,false):=x2
     rw [if_pos (cY hi),cZ hi,aF,x2',aF,if_pos (by simp)]
  ·have hie:i=x.length:=by have:=hO.le;omega
   subst hie
   refine ⟨.inl (x,M,A),?_,.inr ⟨x,M,A,rfl,hO,Nat.le_refl _,hx,by omega,Nat.le_refl _⟩,fun h300=>?_⟩
   ·apply jT
    show eC s x M A (x.length:Int)=_
    unfold eC
    rw [if_neg (by simp)]
   ·apply jT
    show gK s x (A.map (·.label)) (edI A) (x.length:Int)=some (.inr (if A.length<=300 then _ else _))
    rw [if_pos h300]
    unfold gK
    rw [if_neg (by simp)]
end Gv
namespace Gv
open Go
theorem lts_arc {st ini:Int} {labels M:List bL} {arcs:List uT} (hM:oU M) (hm:∀ s,s∈M<->s∈labels/\s≠eK) (h1:labels.length < 100000000) (h2:arcs.length < 100000000) (h3:M.length < 1000000):
  i_lts st ini labels arcs=some ⟨st,ini,eK::M,jK (srt dP (arcs.map fun a=>(⟨a.from_,pos (eK::M) a.label,a.to_⟩:Edge)))⟩:=by
 unfold i_lts
 rw [show ([116,97,117]:bL)=eK from rfl,jH (by simp [kM];omega),aF]
 have e1:aEy ([eK]++labels)=some (srt aAG ([eK]++labels)):=by unfold aEy;rw [if_pos (by simp [kM];omega)]
 rw [e1,aF,aPI _ (by unfold srt;rw [List.length_mergeSort];simp;omega),aF]
 rw [srt_dedup aAG aNK aPE aJU hM.lab (fun x=>?_)]
 ·rw [aCU (step:=fun s:List Edge × Int=>aGw arcs (eK::M) s.1 s.2) arcs (fun a=>(⟨a.from_,pos (eK::M) a.label,a.to_⟩:Edge)) id (fun k out x hk ho hx=>?_) (fun out=>by simp only [aGw,cN];rfl),aF]
  ·unfold aGv
   have e2:aDd (id (arcs.map fun a=>(⟨a.from_,pos (eK::M) a.label,a.to_⟩:Edge)))=some (srt dP (arcs.map fun a=>(⟨a.from_,pos (eK::M) a.label,a.to_⟩:Edge))):=by
    unfold aDd;rw [if_pos (by simp [kM];omega)];rfl
   rw [e2,aF,aMX _ (by unfold srt;rw [List.length_mergeSort,List.length_map];omega),aF]
  ·simp only [aGw,cY hk,if_pos,hx,aF,Index_str _ _ (show (eK::M).length < 4611686018427387904 by simp;omega),cV hk (show arcs.length < 4611686018427387904 by omega)]
   rw [jH (by simp [kM];omega),aF]
 ·by_cases e:x=eK
  ·subst e;simp
  ·simp [e,hm x]
theorem pos_injG {xs:List bL} {a b:bL} (ha:a∈xs) (hb:b∈xs) (h:pos xs a=pos xs b):a=b:=by
 obtain ⟨i,hi,h1,h2⟩:=aLg ha
 obtain ⟨j,hj,h3,h4⟩:=aLg hb
 rw [h1,h3] at h
 have:i=j:=by omega
 subst this
 rw [←h2,h4]
theorem labelsOfG {arcs:List uT} (h:arcs.length < 2000000):aAP arcs=some (arcs.map (·.label)):=aPJ h
theorem compK {s:cW} (hs:SysOk s) {k:Int} (hk:0<=k/\k<=(s.Components.length:Int) - 1):∃ t u b,jC s k=some (t,b)/\lM s k=some (u,b)/\(b=true->t=u)/\oT sz t:=by
 have hn3:=hs.n3
 have hf0:oT sz ⟨0,0,[],[]⟩:=⟨Nat.zero_le _,fun s hs=>(by cases hs),Nat.zero_le _⟩
 obtain ⟨s1,s2⟩:=aRo hs
 have hlen:(stT0 s).length=s.Components.length:=by unfold stT0;simp
 have hkn:k.toNat < (stT0 s).length:=by omega
 have hix:ix (stT0 s) k=some (stT0 s)[k.toNat]:=by unfold ix;rw [if_pos hk.1];simp [hkn]
 have hp:=aQj hs (stT0 s)[k.toNat] (List.getElem_mem hkn)
 generalize (stT0 s)[k.toNat]=p at hix hp
 have hD:=hs.defs
 obtain ⟨M1,m1,m2⟩:=fndG_eq hD (x:=[]) (M:=[]) (A:=[]) (p:=p) (fun q _=>by simp [nR,whr]) hp (by simp)
 have ha:uS ([]:List bO) p=[p]:=by unfold uS;simp
 rw [ha] at m1 m2
 obtain ⟨r,r1,r2,r3⟩:=outG hD 41 0 [p] M1 [] (by omega) ⟨fun q hq=>by rw [List.mem_singleton.1 hq];exact hp,fun a ha=>(by cases ha),List.nodup_nil,by simp⟩ m2 (by simp) (by simp)
 have r3':=r3 (by simp)
 have eI:∀ q,(ob (some r) fun r=>match r with|.inl r=>fN r.1 r.2.1 r.2.2|.inr r=>some r)=q->iU p s=q:=fun q hq=>by
  unfold iU
  rw [m1,aF]
  exact (congrArg (fun o=>ob o fun r=>match r with|.inl r=>fN r.1 r.2.1 r.2.2|.inr r=>some r) r1).trans hq
 have eS:∀ q,(ob (some (match r with|.inr _=>(.inr (⟨0,0,[],[]⟩,false):(List bO × List bL × List Edge) ⊕ (iW × Bool))|.inl (x',_,A')=>if A'.length<=300 then (.inl (x',A'.map (fun a:uT=>a.label),edI A')) else .inr (⟨0,0,[],[]⟩,false))) fun r=>match r with|.inl r=>hJ r.1 r.2.1 r.2.2|.inr r=>some r)=q->lM s k=q:=fun q hq=>by
  unfold lM
  rw [s2,aF,hix,aF]
  exact (congrArg (fun o=>ob o fun r=>match r with|.inl r=>hJ r.1 r.2.1 r.2.2|.inr r=>some r) r3').trans hq
 have fin:∀ (t:iW) (b:Bool) (z:List bO) (u:iW),iU p s=some (t,z,b)->lM s k=some (u,b)->(b=true->t=u)->oT sz t->∃ t u b,jC s k=some (t,b)/\lM s k=some (u,b)/\(b=true->t=u)/\oT sz t:=fun t b z u h1 h2 h3 h4=>by
  refine ⟨t,u,b,?_,h2,h3,h4⟩
  unfold jC
  rw [s1,aF,hix,aF,h1,aF]
 rcases r2 with rfl|⟨x',M',A',rfl,g1,g2,g3,g4,g5⟩
 ·exact fin ⟨0,0,[],[]⟩ false [] ⟨0,0,[],[]⟩ (eI _ rfl) (eS _ rfl) (fun h=>rfl) hf0
 ·have hM:=aPL (A'.map (·.label)) (by simp;omega)
  obtain ⟨M,_,j2,j3,j4⟩:=hM
  rw [List.length_map] at j4
  have hlab:=lts_arc (st:=(x'.length:Int)) (ini:=0) j2 j3 (by simp;omega) (show A'.length < 100000000 by omega) (by omega)
  let E:List Edge:=A'.map fun a=>(⟨a.from_,pos (eK::M) a.label,a.to_⟩:Edge)
  have hlm:∀ a∈A',a.label∈eK::M:=fun a ha=>by
   by_cases ht:a.label=eK
   ·rw [ht];simp
   ·exact List.mem_cons_of_mem _ ((j3 _).2 ⟨List.mem_map_of_mem ha,ht⟩)
  have hEn:E.Nodup:=by
   refine List.pairwise_map.2 (List.Pairwise.imp_of_mem (fun {a b} ha hb hne h=>hne ?_) g1.nd)
   simp only [Edge.mk.injEq] at h
   have:=pos_injG (hlm a ha) (hlm b hb) h.2.1
   cases a;cases b
   simp only at h this
   rw [h.1,h.2.2,this]
  have hEl:(jK (srt dP E)).length=A'.length:=by
   have hp:=(List.perm_ext_iff_of_nodup (aPN (srtE_SE E)) hEn).2 (fun x=>aPP)
   rw [hp.length_eq];simp [E]
  have hfit:oT sz ⟨(x'.length:Int),0,eK::M,jK (srt dP E)⟩:=by
   refine ⟨by simp only [List.length_cons];unfold sz;omega,fun w hw=>?_,by simp only;rw [hEl];unfold sz;omega⟩
   rcases List.mem_cons.1 hw with rfl|hw
   ·simp [eK];decide
   ·obtain ⟨a,ha,rfl⟩:=List.mem_map.1 ((j3 _).1 hw).1
    obtain ⟨_,_,_,_,_,_,nm,vs,ho,hl⟩:=g1.ar a ha
    have:=labLn ho
    rw [hl];unfold sz;omega
  have hfit9:oT 999999999 ⟨(x'.length:Int),0,eK::M,jK (srt dP E)⟩:=hfit.mono (by decide)
  have eI':=eI (some (⟨(x'.length:Int),0,eK::M,jK (srt dP E)⟩,x',cl (lA ⟨(x'.length:Int),0,eK::M,jK (srt dP E)⟩))) (by
   rw [aF]
   show fN x' M' A'=_
   unfold fN kK
   rw [labelsOfG (by omega),aF,hlab,aF,aPD _ hfit9,aF])
  by_cases h300:A'.length<=300
  ·have hmake:=make_gen (texts:=A'.map (·.label)) (edges:=edI A') (Eo:=jK (srt dP E)) (by simp;omega) j2 j3 (by rw [aLj];omega) (fun e he=>by
     unfold edI at he
     obtain ⟨i,hi,rfl⟩:=List.mem_mapIdx.1 he
     simp only [List.length_map];omega) (srtE_SE E) (fun x=>by
     rw [aPP]
     simp only [E,List.mem_map]
     unfold edI
     constructor
     ·rintro ⟨a,ha,rfl⟩
      obtain ⟨i,hi,rfl⟩:=List.getElem_of_mem ha
      refine ⟨_,List.mem_mapIdx.2 ⟨i,hi,rfl⟩,?_⟩
      simp [hi]
     ·rintro ⟨e,he,rfl⟩
      obtain ⟨i,hi,rfl⟩:=List.mem_mapIdx.1 he
      refine ⟨A'[i],List.getElem_mem hi,?_⟩
      simp [hi]) (x'.length:Int) 0
   exact fin _ _ x' _ eI' (eS _ (by
    rw [aF]
    show (match (if A'.length<=300 then (.inl (x',A'.map (·.label),edI A'):(List bO × List bL × List Edge) ⊕ (iW × Bool)) else .inr (⟨0,0,[],[]⟩,false)) with|.inl r=>hJ r.1 r.2.1 r.2.2|.inr r=>some r)=_
    rw [if_pos h300]
    show hJ x' (A'.map (·.label)) (edI A')=_
    unfold hJ
    rw [hmake,aF,l11Is_eq _ hfit9,aF])) (fun _=>rfl) hfit
  ·have hno:cl (lA ⟨(x'.length:Int),0,eK::M,jK (srt dP E)⟩)=false:=mL fun h=>by
    have:=h.2.2.2.1
    simp only at this
    omega
   rw [hno] at eI'
   exact fin _ false x' ⟨0,0,[],[]⟩ eI' (eS _ (by
    rw [aF]
    show (match (if A'.length<=300 then (.inl (x',A'.map (·.label),edI A'):(List bO × List bL × List Edge) ⊕ (iW × Bool)) else .inr (⟨0,0,[],[]⟩,false)) with|.inl r=>hJ r.1 r.2.1 r.2.2|.inr r=>some r)=_
    rw [if_neg h300])) (fun h=>by cases h) hfit
theorem comp_both {s:cW} (hz:zSys s<=sz) (k:Int):∃ t c,pU s k=some (t,c)/\sX s k=some (t,c)/\oT sz t:=by
 obtain ⟨B,v1,v2,v3⟩:=aRh hz
 have hf0:oT sz ⟨0,0,[],[]⟩:=⟨Nat.zero_le _,fun s hs=>(by cases hs),Nat.zero_le _⟩
 unfold pU sX
 rw [v1,v2,aF,aF]
 cases B with
 |false=>exact ⟨_,1,rfl,rfl,hf0⟩
 |true=>
  have hs:=v3 rfl
  have hn3:=hs.n3
  rw [if_neg (by simp),if_neg (by simp),aKd _ _ (by omega) (by omega),tQ,aF,aF,fL (by omega) (by omega)]
  by_cases hk:0<=k/\k<=(s.Components.length:Int) - 1
  ·have e:(decide (0<=k)&&decide (k<=(s.Components.length:Int) - 1))=true:=by simp [hk.1,hk.2]
   rw [e,if_neg (by simp),if_neg (by simp)]
   obtain ⟨t,u,b,h1,h2,h3,h4⟩:=compK hs hk
   rw [h1,h2,aF,aF]
   cases b with
   |false=>exact ⟨_,5,rfl,rfl,hf0⟩
   |true=>rw [←h3 rfl];exact ⟨_,0,rfl,rfl,h4⟩
  ·have e:(decide (0<=k)&&decide (k<=(s.Components.length:Int) - 1))=false:=by
    rw [Bool.and_eq_false_iff]
    by_cases h:0<=k
    ·right;simp;omega
    ·left;simpa using h
   rw [e]
   exact ⟨_,2,rfl,rfl,hf0⟩
end Gv
namespace Gv
open Go
theorem mark_lts {t:iW} (hf:oT sz t):∃ k Ls Es,aCQ t.N t.I t.L t.E 1=some (k,Ls,Es)/\aCR ⟨t.N,t.I,Ls,Es⟩ 1=some k/\0<=k:=by
 have h:=aQO hf t.N t.I
 obtain ⟨f1,_,f3⟩:=hf
 unfold sz at f1 f3
 refine ⟨_,_,_,h,?_,by omega⟩
 unfold aCR
 simp only
 rw [aMa (by omega) (by omega) (by omega),aF,if_neg (by simp only [decide_eq_true_eq];omega),aOD (by omega) (by omega) (by omega),aF,if_neg (by simp only [decide_eq_true_eq];omega)]
theorem lawComp (aS:cW) (aK:Int) (h:aJk 9223372036854775807 aS):nJ aS aK=some true:=by
 obtain ⟨r,hr,h1⟩:=aNc h
 unfold nJ
 rw [hr,aF]
 by_cases hn:r < 0
 ·rw [if_pos (by simpa using hn)]
 rw [if_neg (by simpa using hn)]
 have hz:=h1 (by omega)
 have hf:=aJn hz
 have ht:qR aS=some aS:=aPY (aJn (n:=kM) (by unfold sz at hz;unfold kM;omega))
 obtain ⟨t,c,g1,g2,g3⟩:=comp_both hz aK
 have e1:=eqLts_eq t t (g3.mono (by decide))
 have e3:=aQa aS aS hf
 rw [decide_eq_true rfl] at e1 e3
 obtain ⟨k,m1,m2⟩:=aNe hz
 obtain ⟨q,Ls,Es,n1,n2,n3⟩:=mark_lts g3
 have hbne:(c != c)=false:=by simp
 rw [ht,aF,g2,aF,aF,g1,aF,e1,aF,if_neg (by simp),hbne]
 unfold jF
 rw [if_neg (by simp),ht,aF,e3,aF,if_neg (by simp),m1,aF,if_neg (by simp;omega),e1,aF,if_neg (by simp),hbne]
 unfold iH
 rw [if_neg (by simp),n1,aF]
 simp only
 rw [n2,aF,if_neg (by simp;omega),if_neg (by simp),ht,aF,g1,aF,e1,aF,if_neg (by simp),hbne]
 unfold jE
 simp only
 rw [if_neg (by simp),n2,aF,if_neg (by simp;omega),if_neg (by simp)]
end Gv
