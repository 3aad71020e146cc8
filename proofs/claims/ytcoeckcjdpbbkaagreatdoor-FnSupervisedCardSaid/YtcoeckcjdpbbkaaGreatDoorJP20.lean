/- Validity of plants, on both sides. -/
import Derived.Test.YtcoeckcjdpbbkaaGreatDoorJP12
set_option linter.all false
namespace Gv
open Go
def aDp (lo hi:Int) (xs:List Int):Prop:=∀ k,(hk:k < xs.length)->(lo<=xs[k]/\xs[k]<=hi)/\(1<=k->(xs[k - 1]'(by omega)) < xs[k])
theorem aDp.nat {lo hi:Int} {xs:List Int} (h:aDp lo hi xs) (hlo:0<=lo) (k:Nat) (hk:k < xs.length):lo+k<=xs[k]:=by
 induction k with
 |zero=>have:=(h 0 hk).1.1;omega
 |succ k ih=>
  have h1:=ih (by omega)
  have h2:=(h (k+1) hk).2 (by omega)
  simp only [Nat.add_sub_cancel] at h2
  omega
theorem aDp.len {hi:Int} {xs:List Int} (h:aDp 0 hi xs) (hh:-1<=hi):(xs.length:Int)<=hi+1:=by
 by_cases h0:xs.length=0
 ·omega
 ·have h1:=h.nat (Int.le_refl 0) (xs.length - 1) (by omega)
  have h2:=(h (xs.length - 1) (by omega)).1.2
  omega
theorem aRs (xs:List Int) (lo hi:Int) (h:xs.length < 1000000000):aEt xs lo hi=some (cl (aDp lo hi xs)):=by
 unfold aEt
 have:=wC (step:=fun s=>zU xs lo hi s) xs.length 0 (fun k=>∀ hk:k < xs.length,(lo<=xs[k]/\xs[k]<=hi)/\(1<=k->(xs[k - 1]'(by omega)) < xs[k])) (.inr false) (.inl ()) (Nat.zero_le _) (fun k h0 hk=>?_) (by simp only [zU,aS];rfl)
 ·rw [show (0:Int)=((0:Nat):Int) from rfl,this,aA]
  by_cases hs:aDp lo hi xs
  ·rw [if_pos (jL fun k _ hk _=>hs k hk),jL hs];rfl
  ·rw [if_neg (by rw [oX];exact fun h=>hs fun k hk=>h k (by omega) hk hk),kF hs]
 ·simp only [zU,aV hk,if_pos,aX hk,aA,zQ,aQ hk (show xs.length < 4611686018427387904 by omega),aIc]
  by_cases hl:lo<=xs[k]/\xs[k]<=hi
  ·rw [if_neg (by simp [hl.1,hl.2])]
   by_cases h1:1<=k
   ·have hk1:wr ((k:Int) - 1)=((k - 1:Nat):Int):=by rw [dE (by omega) (by omega)];omega
    rw [decide_eq_true (p:=(0:Int) < (k:Int)) (by omega),hk1,aX (xs:=xs) (k:=k - 1) (by omega)]
    simp only [if_pos,aA]
    by_cases a:(xs[k - 1]'(by omega)) < xs[k]
    ·rw [if_neg (by simp only [decide_eq_true_eq];omega),jL (fun _=>⟨hl,fun _=>a⟩)];rfl
    ·rw [if_pos (by simp only [decide_eq_true_eq];omega),kF (fun h=>a ((h hk).2 h1))];rfl
   ·rw [decide_eq_false (p:=(0:Int) < (k:Int)) (by omega),jL (fun _=>⟨hl,fun h=>absurd h h1⟩)];rfl
  ·rw [if_pos (by rw [uD hl];rfl),kF (fun h=>hl (h hk).1)];rfl
theorem aRt (t:aP) (xs:List Int) (h:xs.length < 1000000000) (ht:-9223372036854775807<=t.N/\t.N<=9223372036854775807):xR t xs=some (cl (aDp 0 (t.N - 1) xs)):=by
 unfold xR
 have:=wC (step:=fun s=>nJ t xs s) xs.length 0 (fun k=>∀ hk:k < xs.length,(0<=xs[k]/\xs[k]<=t.N - 1)/\(1<=k->(xs[k - 1]'(by omega)) < xs[k])) (.inr false) (.inl ()) (Nat.zero_le _) (fun k h0 hk=>?_) (by simp only [nJ,aS];rfl)
 ·have this':loop (fun s=>nJ t xs s) 0=_:=this
  rw [this',aA]
  by_cases hs:aDp 0 (t.N - 1) xs
  ·rw [if_pos (jL fun k _ hk _=>hs k hk),jL hs];rfl
  ·rw [if_neg (by rw [oX];exact fun h=>hs fun k hk=>h k (by omega) hk hk),kF hs]
 ·simp only [nJ,aV hk,if_pos,aX hk,aA,rB,aQ hk (show xs.length < 4611686018427387904 by omega),aJk t _ ht]
  by_cases hl:0<=xs[k]/\xs[k]<=t.N - 1
  ·rw [if_neg (by simp only [decide_eq_true hl.1,decide_eq_true hl.2];decide)]
   by_cases h1:1<=k
   ·have hk1:wr ((k:Int) - 1)=((k - 1:Nat):Int):=by rw [dE (by omega) (by omega)];omega
    rw [decide_eq_true (p:=(0:Int) < (k:Int)) (by omega),hk1,aX (xs:=xs) (k:=k - 1) (by omega)]
    simp only [if_pos,aA]
    by_cases a:(xs[k - 1]'(by omega)) < xs[k]
    ·rw [if_neg (by simp only [decide_eq_true_eq];omega),jL (fun _=>⟨hl,fun _=>a⟩)];rfl
    ·rw [if_pos (by simp only [decide_eq_true_eq];omega),kF (fun h=>a ((h hk).2 h1))];rfl
   ·rw [decide_eq_false (p:=(0:Int) < (k:Int)) (by omega),jL (fun _=>⟨hl,fun h=>absurd h h1⟩)];rfl
  ·rw [if_pos (by rw [uD hl];rfl),kF (fun h=>hl (h hk).1)];rfl
def aER (xs:List aH):Prop:=xs.length<=12/\(∀ s∈xs,uB s=true)/\∀ k,1<=k->(hk:k < xs.length)->wY (xs[k - 1]'(by omega)) xs[k]=true
theorem aOi (xs:List aH) (h:xs.length < 1000000000):aBx xs=some (xs.all uB):=by
 unfold aBx
 rw [aGp (step:=fun s=>aAs xs s) xs uB (.inr false) (.inl ()) (fun k x hk hx=>by
  simp only [aAs,aV hk,if_pos,hx,aA,aJW,aQ hk (show xs.length < 4611686018427387904 by omega)]
  cases uB x<;>rfl) (by simp only [aAs,aS];rfl),aA]
 cases xs.all uB<;>rfl
theorem aRu (xs:List aH) (h:xs.length < 1000000000):aEu xs=some (cl (aER xs)):=by
 unfold aEu
 by_cases h12:12 < xs.length
 ·rw [if_pos (by simp only [decide_eq_true_eq];omega),kF (fun h:aER xs=>absurd h.1 (by omega))];rfl
 rw [if_neg (by simp only [decide_eq_true_eq];omega),aOi xs h,aA]
 cases ha:xs.all uB with
 |false=>rw [kF (fun h:aER xs=>by have:=List.all_eq_true.2 h.2.1;rw [ha] at this;cases this)];rfl
 |true=>
  have ha':=List.all_eq_true.1 ha
  unfold zW
  simp only [Bool.not_true,Bool.false_eq_true,if_false]
  cases xs with
  |nil=>
   rw [bA,show zV [] 1=some (.inr (.inl ())) from rfl,aA]
   rw [jL (P:=aER []) ⟨by simp,by simp,by intro k _ hk;simp at hk⟩];rfl
  |cons a l=>
   have:=wC (step:=fun s=>zV (a::l) s) (a::l).length 1 (fun k=>∀ hk:k < (a::l).length,wY ((a::l)[k - 1]'(by omega)) (a::l)[k]=true) (.inr false) (.inl ()) (by simp) (fun k h0 hk=>?_) (by simp only [zV,aS];rfl)
   ·rw [show (1:Int)=((1:Nat):Int) from rfl,this,aA]
    by_cases hs:∀ k,1<=k->k < (a::l).length->∀ hk:k < (a::l).length,wY ((a::l)[k - 1]'(by omega)) (a::l)[k]=true
    ·rw [if_pos (jL hs),jL (P:=aER (a::l)) ⟨by omega,ha',fun k h1 hk=>hs k h1 hk hk⟩];rfl
    ·rw [if_neg (by rw [oX];exact hs),kF (P:=aER (a::l)) (fun h=>hs fun k h1 hk _=>h.2.2 k h1 hk)]
   ·have hk1:wr ((k:Int) - 1)=((k - 1:Nat):Int):=by rw [dE (by omega) (by omega)];omega
    simp only [zV,aV hk,if_pos,hk1,aX (xs:=a::l) (k:=k - 1) (by omega),aX hk,aA,aQ hk (show (a::l).length < 4611686018427387904 by omega)]
    rw [aGr (b:=wY ((a::l)[k - 1]'(by omega)) (a::l)[k]) ⟨fun h _=>h,fun h=>h hk⟩]
    cases wY ((a::l)[k - 1]'(by omega)) (a::l)[k]<;>rfl
theorem aSV (xs:List aH) (h:xs.length < 1000000000) (h2:∀ s∈xs,s.length < 1000000000):aGj xs=some (cl (aER xs)):=by
 unfold aGj
 have:=wC (step:=fun s=>aBN xs s) xs.length 0 (fun k=>∀ hk:k < xs.length,uB xs[k]=true/\(1<=k->wY (xs[k - 1]'(by omega)) xs[k]=true)) (.inr false) (.inl ()) (Nat.zero_le _) (fun k h0 hk=>?_) (by simp only [aBN,aS];rfl)
 ·rw [show (0:Int)=((0:Nat):Int) from rfl,this,aA]
  by_cases hs:∀ k,0<=k->k < xs.length->∀ hk:k < xs.length,uB xs[k]=true/\(1<=k->wY (xs[k - 1]'(by omega)) xs[k]=true)
  ·rw [if_pos (jL hs)]
   unfold aGM
   have e:decide ((xs.length:Int)<=12)=cl (aER xs):=by
    rw [aGr (P:=aER xs) (b:=decide ((xs.length:Int)<=12))]
    simp only [decide_eq_true_eq]
    refine ⟨fun h=>⟨by omega,fun s hs'=>?_,fun k h1 hk=>(hs k (by omega) hk hk).2 h1⟩,fun h=>by have:=h.1;omega⟩
    obtain ⟨k,hk,rfl⟩:=List.getElem_of_mem hs'
    exact (hs k (by omega) hk hk).1
   simp only [e]
  ·rw [if_neg (by rw [oX];exact hs),kF (P:=aER xs) (fun h=>hs fun k h1 hk _=>⟨h.2.1 _ (List.getElem_mem hk),fun h1=>h.2.2 k h1 hk⟩)]
 ·simp only [aBN,aV hk,if_pos,aX hk,aA,aBM,aQ hk (show xs.length < 4611686018427387904 by omega),aLj _ (show xs[k].length < 4611686018427387904 by have:=h2 _ (List.getElem_mem hk);omega)]
  cases ha:uB xs[k] with
  |false=>rw [kF (fun h=>by have:=(h hk).1;rw [ha] at this;cases this)];rfl
  |true=>
   simp only [Bool.not_true,Bool.false_eq_true,if_false]
   by_cases h1:1<=k
   ·have hk1:wr ((k:Int) - 1)=((k - 1:Nat):Int):=by rw [dE (by omega) (by omega)];omega
    rw [decide_eq_true (p:=(0:Int) < (k:Int)) (by omega),if_pos rfl,hk1,aX (xs:=xs) (k:=k - 1) (by omega),aA,ltB_ge]
    rw [aGr (b:=wY (xs[k - 1]'(by omega)) xs[k]) ⟨fun h _=>⟨ha,fun _=>h⟩,fun h=>(h hk).2 h1⟩]
    cases wY (xs[k - 1]'(by omega)) xs[k]<;>rfl
   ·rw [decide_eq_false (p:=(0:Int) < (k:Int)) (by omega),jL (fun _=>⟨ha,fun h=>absurd h h1⟩)];rfl
def bB (t:aP):Prop:=aT t/\aAP t
def eJ (p:aO):Prop:=bB p.S/\aDp 0 (p.S.N - 1) p.M/\aER p.C
structure iO (n:Nat) (p:aO):Prop where
 sys:eZ n p.S
 marks:p.M.length<=n
 len:p.C.length<=n
 names:∀ s∈p.C,s.length<=n
theorem iO.mono {a b:Nat} {p:aO} (h:iO a p) (hab:a<=b):iO b p:=⟨h.sys.mono hab,Nat.le_trans h.marks hab,Nat.le_trans h.len hab,fun s hs=>Nat.le_trans (h.names s hs) hab⟩
theorem aJn (t:aP) (hf:eZ 999999999 t):aCr t=some (cl (bB t)):=by
 unfold aCr
 rw [l11Is_eq t hf,aA]
 by_cases hv:aT t
 ·rw [if_pos (jL hv),aPU t (by have:=hf.2.2;omega),aA]
  unfold aDM bB
  rw [cl_and,jL hv,Bool.true_and]
 ·rw [if_neg (by rw [oX];exact hv),kF (P:=bB t) (fun h=>hv h.1)];rfl
theorem wr_st {t:aP} (h:aT t):wr (t.N - 1)=t.N - 1:=by have:=h.1;rw [dE (by omega) (by omega)]
theorem aRv (p:aO) (hf:iO 999999999 p):aIn p=some (cl (eJ p)):=by
 unfold aIn
 rw [aJn _ hf.sys,aA]
 by_cases hv:bB p.S
 ·rw [if_pos (jL hv),wr_st hv.1,aRs _ _ _ (by have:=hf.marks;omega),aA]
  by_cases hr:aDp 0 (p.S.N - 1) p.M
  ·rw [if_pos (jL hr),aRu _ (by have:=hf.len;omega),aA]
   unfold aEv
   rw [aRm (P:=eJ p) (Q:=aER p.C) ⟨fun h=>h.2.2,fun h=>⟨hv,hr,h⟩⟩]
  ·rw [if_neg (by rw [oX];exact hr),kF (P:=eJ p) (fun h=>hr h.2.1)];rfl
 ·rw [if_neg (by rw [oX];exact hv),kF (P:=eJ p) (fun h=>hv h.1)];rfl
theorem aAr (p:aO) (hf:iO 999999999 p):rC p=some (cl (eJ p)):=by
 unfold rC
 rw [aMY _ hf.sys,aA]
 change (if cl (bB p.S)=true then _ else _)=_
 by_cases hv:bB p.S
 ·rw [if_pos (jL hv),aRt _ _ (by have:=hf.marks;omega) (by have:=hv.1.1;omega),aA]
  by_cases hr:aDp 0 (p.S.N - 1) p.M
  ·rw [if_pos (jL hr),aSV _ (by have:=hf.len;omega) (fun s hs=>by have:=hf.names s hs;omega),aA]
   unfold vD
   rw [aRm (P:=eJ p) (Q:=aER p.C) ⟨fun h=>h.2.2,fun h=>⟨hv,hr,h⟩⟩]
  ·rw [if_neg (by rw [oX];exact hr),kF (P:=eJ p) (fun h=>hr h.2.1)];rfl
 ·rw [if_neg (by rw [oX];exact hv),kF (P:=eJ p) (fun h=>hv h.1)];rfl
theorem aQa (p:aO) (r:aP) (hf:iO 999999999 p) (hr:eZ 999999999 r):uJ p [r]=some (if cl (eJ p/\bB r)=true then 0 else 1):=by
 unfold uJ
 rw [aAr p hf,aA]
 by_cases hp:eJ p
 ·rw [if_neg (by rw [jL hp];simp)]
  have e:cD [r]=some (if cl (bB r)=true then -1 else 0):=by
   unfold cD
   rw [bA]
   simp only [bW]
   rw [show decide ((0:Int) < (([r]:List aP).length:Int))=true from rfl,if_pos rfl,show ix [r] 0=some r from rfl,aA]
   unfold aBQ
   rw [aMY r hr,aA,aA]
   by_cases hd:bB r
   ·rw [if_neg (by rw [show cl (aT r/\aAP r)=true from jL hd];simp),if_pos (jL hd)]
    rw [show wr (0+1)=1 from rfl]
    simp only
    rw [bA]
    rfl
   ·rw [if_pos (by rw [show cl (aT r/\aAP r)=false from kF hd];rfl),if_neg (by rw [oX];exact hd)]
    rfl
  unfold cM
  rw [e,aA,aA]
  unfold xS
  by_cases hd:bB r
  ·simp only [jL hd,jL (P:=eJ p/\bB r) ⟨hp,hd⟩,if_true];rfl
  ·simp only [kF hd,kF (P:=eJ p/\bB r) (fun h=>hd h.2),Bool.false_eq_true,if_false];rfl
 ·rw [if_pos (by rw [kF hp];rfl),if_neg (by rw [oX];exact fun h=>hp h.1)];rfl
end Gv
namespace Gv
open Option.some renaming inj→zI
open Go
theorem aAR (xs:List aH) (v:aH) (h:xs.length < 4611686018427387904):yE xs v=some (pos xs v):=by
 unfold yE pos
 rw [qR (step:=fun s=>aDI xs v s) xs (fun x=>v == x) (fun k x hk hx=>by
  simp only [aDI,aV hk,if_pos,hx,aA,aQ hk h]
  rw [show (x == v)=(v == x) from by rw [Bool.eq_iff_iff,beq_iff_eq,beq_iff_eq];exact eq_comm]) (by simp only [aDI,aS];rfl),aA]
 cases xs.findIdx? (fun x=>v == x)<;>rfl
theorem aSW (t:aP) (k n:Int) (h:t.E.length < 1000000000):aGf t k n=some ((t.E.filter fun e=>e.F == k&&e.B == n).map (·.To)):=by
 unfold aGf
 rw [aBi (step:=fun s:List Int × Int=>aBz t k n s.1 s.2) t.E (fun e=>e.F == k&&e.B == n) (·.To) id (fun j out x hk ho hx=>?_) (fun out=>by simp only [aBz,aS];rfl),aA]
 ·simp [aGL]
 ·simp only [aBz,aV hk,if_pos,hx,aA,aDN,aBy,aQ hk (show t.E.length < 4611686018427387904 by omega)]
  rw [bX (by simp [hX];omega),aA]
  cases x.F == k<;>cases x.B == n<;>rfl
def alo (r:aP) (k:Int) (s:aH):Option Int:=if s∈r.L then (if goF r k s < 0 then none else some (goF r k s)) else some k
theorem aLQ {α:Type} [BEq α] [LawfulBEq α] {xs:List α} {a:α} (h:a∈xs):0<=pos xs a:=by
 obtain ⟨i,_,e,_⟩:=mS h
 omega
theorem aLR {α:Type} [BEq α] [LawfulBEq α] {xs:List α} {a:α} (h:a∉xs):pos xs a=-1:=by
 unfold pos
 rw [List.findIdx?_eq_none_iff.2 (fun x hx=>by simp;intro e;subst e;exact h hx)]
theorem labs_any {xs:List aH} {s:aH}:(xs.any fun x=>s == x)=decide (s∈xs):=by
 refine Bool.eq_iff_iff.2 ?_
 simp only [List.any_eq_true,beq_iff_eq,decide_eq_true_eq]
 exact ⟨fun ⟨x,hx,e⟩=>e ▸ hx,fun h=>⟨s,h,rfl⟩⟩
theorem aES {r:aP} (hr:bB r) (k:Int) (s:aH):∃ z,jT r k s=some (z,(alo r k s).isSome)/\∀ j,alo r k s=some j->z=j:=by
 have h12:=hr.1.2.2.1.2.1
 unfold jT alo
 rw [aJY _ _ (by omega),aA,labs_any]
 by_cases hs:s∈r.L
 ·rw [if_neg (by simp [hs]),step_eq hr.1 hr.2,aA,if_pos hs]
  refine ⟨goF r k s,?_,fun j hj=>?_⟩
  ·by_cases hg:goF r k s < 0
   ·rw [if_pos hg,decide_eq_false (by omega)];rfl
   ·rw [if_neg hg,decide_eq_true (by omega)];rfl
  ·split at hj
   ·cases hj
   ·exact zI hj
 ·rw [if_pos (by simp [hs]),if_neg hs]
  exact ⟨k,rfl,fun j hj=>zI hj⟩
theorem aDW {t:aP} (hv:aT t) {e:Edge} (he:e∈t.E) {s:aH} (hs:s∈t.L):(kC t e == s)=(e.B == pos t.L s):=by
 obtain ⟨i,hi,e1,e2⟩:=mS hs
 have hin:=eB hv he
 have ht:=oQ hin
 obtain ⟨_,_,h0,h1⟩:=hin
 have hl:e.B.toNat < t.L.length:=by omega
 have ht2:t.L[e.B.toNat]=kC t e:=by
  rw [aOr h0 hl] at ht
  exact zI ht
 rw [e1]
 refine Bool.eq_iff_iff.2 ?_
 simp only [beq_iff_eq]
 constructor
 ·intro h
  have:=aJZ hv.2.2.1 hl hi (by rw [ht2,h,e2])
  omega
 ·intro h
  have:e.B.toNat=i:=by omega
  subst this
  rw [←ht2,e2]
theorem aRw {r:aP} (hr:bB r) (k:Int) (s:aH):∃ z,aJQ r k s=some (z,(alo r k s).isSome)/\∀ j,alo r k s=some j->z=j:=by
 have h12:=hr.1.2.2.1.2.1
 have h300:=hr.1.2.2.2.1
 unfold aJQ alo
 rw [aAR _ _ (by omega),aA]
 by_cases hs:s∈r.L
 ·have hp:=aLQ hs
  rw [if_neg (by simp only [decide_eq_true_eq];omega),aSW _ _ _ (by omega),aA,if_pos hs]
  have e1:(r.E.filter fun e=>e.F == k&&e.B == pos r.L s)=(r.E.find? (hit r k s)).toList:=by
   rw [←hit_one hr.1 hr.2]
   refine List.filter_congr fun e he=>?_
   unfold hit
   rw [aDW hr.1 he hs]
  rw [e1]
  unfold goF
  cases hf:r.E.find? (hit r k s) with
  |none=>
   refine ⟨0,?_,fun j hj=>?_⟩
   ·simp
   ·simp at hj
  |some e=>
   have hin:=(eB hr.1 (List.mem_of_find?_eq_some hf)).2.1.1
   refine ⟨e.To,?_,fun j hj=>?_⟩
   ·simp only [Option.toList_some,List.map_cons,List.map_nil,List.length_singleton]
    rw [if_neg (by decide),show ix [e.To] 0=some e.To from rfl,aA,if_neg (by omega)];rfl
   ·simp only at hj
    rw [if_neg (by omega)] at hj
    exact zI hj
 ·rw [if_pos (by rw [aLR hs];rfl),if_neg hs]
  exact ⟨k,rfl,fun j hj=>zI hj⟩
theorem aGX {r:aP} (hr:aT r) {k j:Int} {s:aH} (hk:0<=k/\k<=r.N - 1) (h:alo r k s=some j):0<=j/\j<=r.N - 1:=by
 unfold alo at h
 split at h
 ·split at h
  ·cases h
  ·cases h
   have:=goF_lt hr k s
   omega
 ·cases h;exact hk
theorem aSX (a b:List Int) (h:a.length < 4611686018427387904):aGg a b=some (decide (a=b)):=by
 unfold aGg
 by_cases e:a.length=b.length
 ·rw [if_neg (by simp [e])]
  refine Eq.trans ?_ (aML e (step:=fun s=>aDO a b s) ?_ ?_)
  ·rfl
  ·intro k x y hk hx hy
   simp only [aDO,aV hk,if_pos,hx,hy,aA,aQ hk h]
   by_cases e:x=y<;>simp [e]
  ·simp only [aDO,aS];rfl
 ·rw [if_pos (by simp only [bne_iff_ne,ne_eq];omega)]
  have:¬ a=b:=fun h=>e (by rw [h])
  simp [this]
theorem aKK (xs:List (List Int)) (v:List Int) (h:xs.length < 4611686018427387904) (h2:∀ x∈xs,x.length < 1000000000):aBA xs v=some (pos xs v):=by
 unfold aBA pos
 rw [qR (step:=fun s=>aFk xs v s) xs (fun x=>v == x) (fun k x hk hx=>by
  obtain ⟨hk',rfl⟩:=oW hx
  simp only [aFk,aV hk,if_pos,hx,aA,aQ hk h,aSX _ _ (show xs[k].length < 4611686018427387904 by have:=h2 _ (List.getElem_mem hk');omega)]
  rw [show decide (xs[k]=v)=(v == xs[k]) from by rw [Bool.eq_iff_iff,decide_eq_true_eq,beq_iff_eq];exact eq_comm]) (by simp only [aFk,aS];rfl),aA]
 cases xs.findIdx? (fun x=>v == x)<;>rfl
def R2 (q:Int × Int):List Int:=[q.1,q.2]
theorem R2_inj {a b:Int × Int} (h:R2 a=R2 b):a=b:=by
 unfold R2 at h
 simp only [List.cons.injEq,and_true] at h
 exact Prod.ext h.1 h.2
theorem aQb (F:List (Int × Int)) (q:Int × Int):pos (F.map R2) (R2 q)=pos F q:=by
 unfold pos
 rw [List.findIdx?_map]
 have:((fun x=>R2 q == x) ∘ R2)=fun x=>q == x:=by
  funext x
  refine Bool.eq_iff_iff.2 ?_
  simp only [Function.comp,beq_iff_eq]
  exact ⟨R2_inj,fun h=>by rw [h]⟩
 rw [this]
theorem aGY {α:Type} [BEq α] [LawfulBEq α] {a:List α} {q:α}:0<=pos a q<->q∈a:=by
 refine ⟨fun h=>?_,aLQ⟩
 apply Classical.byContradiction
 intro hn
 rw [aLR hn] at h
 omega
theorem pos_pre {α:Type} [BEq α] [LawfulBEq α] {a b:List α} (h:a <+:b) {q:α} (hq:q∈a):pos b q=pos a q:=by
 obtain ⟨c,rfl⟩:=h
 unfold pos
 have:(a.findIdx? fun x=>q == x).isSome:=by rw [List.findIdx?_isSome,List.any_eq_true];exact ⟨q,hq,by simp⟩
 rw [List.findIdx?_append]
 cases hx:a.findIdx? fun x=>q == x with
 |none=>rw [hx] at this;cases this
 |some i=>rfl
theorem pos_snoc {α:Type} [BEq α] [LawfulBEq α] {a:List α} {q:α} (hq:q∉a):pos (a++[q]) q=(a.length:Int):=by
 unfold pos
 rw [List.findIdx?_append,List.findIdx?_eq_none_iff.2 (fun x hx=>by simp;intro e;subst e;exact hq hx)]
 simp
def sK (p:aO) (r:aP) (q:Int × Int) (es:List Edge):List (Int × Int × Int):=es.filterMap fun e=>(alo r q.2 (kC p.S e)).map fun k=>(e.B,e.To,k)
def bG (p:aO) (q:Int × Int):List Edge:=p.S.E.filter fun e=>e.F == q.1
def aCv (F:List (Int × Int)) (q:Int × Int):List (Int × Int):=if q∈F then F else F++[q]
def aDq:List (Int × Int)->List (Int × Int × Int)->List (Int × Int)
 |F,[]=>F
 |F,x::l=>aDq (aCv F x.2) l
def edQ (i:Int):List (Int × Int)->List (Int × Int × Int)->List Edge
 |_,[]=>[]
 |F,x::l=>⟨i,x.1,pos (aCv F x.2) x.2⟩::edQ i (aCv F x.2) l
def xQ (p:aO) (r:aP):Nat->Nat->List (Int × Int) × List Edge->List (Int × Int) × List Edge
 |0,_,s=>s
 |n+1,i,s=>match s.1[i]? with
  |none=>s
  |some q=>xQ p r n (i+1) (aDq s.1 (sK p r q (bG p q)),s.2++edQ (i:Int) s.1 (sK p r q (bG p q)))
def inB (p:aO) (r:aP) (q:Int × Int):Prop:=(0<=q.1/\q.1<=p.S.N - 1)/\0<=q.2/\q.2<=r.N - 1
def WQ2 (p:aO) (r:aP) (F:List (Int × Int)):Prop:=F.Nodup/\∀ q∈F,inB p r q
theorem WQ2.len {p:aO} {r:aP} (hp:aT p.S) (hr:aT r) {F:List (Int × Int)} (h:WQ2 p r F):F.length<=1600:=by
 have h1:=hp.1
 have h2:=hr.1
 have:=List.Nodup.length_le_of_subset (l₂:=(List.range 40).flatMap fun (i:Nat)=>(List.range 40).map fun (j:Nat)=>((i:Int),(j:Int))) h.1 (fun q hq=>by
  have:=h.2 q hq
  unfold inB at this
  rw [List.mem_flatMap]
  refine ⟨q.1.toNat,by rw [List.mem_range];omega,?_⟩
  rw [List.mem_map]
  exact ⟨q.2.toNat,by rw [List.mem_range];omega,Prod.ext (by simp only;omega) (by simp only;omega)⟩)
 have e:((List.range 40).flatMap fun (i:Nat)=>(List.range 40).map fun (j:Nat)=>((i:Int),(j:Int))).length=1600:=by decide+kernel
 omega
theorem aNk (F:List (Int × Int)) (q:Int × Int):F <+:aCv F q:=by
 unfold aCv;split
 ·exact List.prefix_refl _
 ·exact List.prefix_append _ _
theorem aRx (F:List (Int × Int)) (q:Int × Int):q∈aCv F q:=by
 unfold aCv;split
 ·assumption
 ·simp
theorem WQ2.ins {p:aO} {r:aP} {F:List (Int × Int)} (h:WQ2 p r F) {q:Int × Int} (hq:inB p r q):WQ2 p r (aCv F q):=by
 unfold aCv
 split
 ·exact h
 ·rename_i hn
  refine ⟨?_,fun x hx=>?_⟩
  ·rw [List.nodup_append]
   exact ⟨h.1,by simp,fun x hx y hy=>by simp at hy;subst hy;exact fun e=>hn (e ▸ hx)⟩
  ·rcases List.mem_append.1 hx with hx|hx
   ·exact h.2 x hx
   ·simp at hx;subst hx;exact hq
theorem aET:∀ (l:List (Int × Int × Int)) (F:List (Int × Int)),F <+:aDq F l
 |[],_=>List.prefix_refl _
 |x::l,F=>(aNk F x.2).trans (aET l (aCv F x.2))
theorem WQ2.add {p:aO} {r:aP}:∀ {l:List (Int × Int × Int)} {F:List (Int × Int)},WQ2 p r F->(∀ x∈l,inB p r x.2)->WQ2 p r (aDq F l)
 |[],_,h,_=>h
 |x::l,F,h,hl=>by
  show WQ2 p r (aDq (aCv F x.2) l)
  exact WQ2.add (h.ins (hl x (by simp))) (fun y hy=>hl y (by simp [hy]))
theorem edQ_len (i:Int):∀ (l:List (Int × Int × Int)) (F:List (Int × Int)),(edQ i F l).length=l.length
 |[],_=>rfl
 |x::l,F=>by simp [edQ,edQ_len i l (aCv F x.2)]
theorem aQc {p:aO} {r:aP} (hp:aT p.S) (hr:aT r) {q:Int × Int} (hq:inB p r q) {es:List Edge} (hes:∀ e∈es,e∈p.S.E):∀ x∈sK p r q es,inB p r x.2:=by
 intro x hx
 unfold sK at hx
 rw [List.mem_filterMap] at hx
 obtain ⟨e,he,hx⟩:=hx
 rw [Option.map_eq_some_iff] at hx
 obtain ⟨k,hk,rfl⟩:=hx
 exact ⟨(eB hp (hes e he)).2.1,aGX hr hq.2 hk⟩
theorem pX {p:aO} {q:Int × Int}:∀ e∈bG p q,e∈p.S.E:=fun _ he=>(List.mem_filter.1 he).1
theorem aLS (p:aO) (r:aP) (q:Int × Int) (es:List Edge):(sK p r q es).length<=es.length:=List.length_filterMap_le _ _
theorem uF {p:aO} (hp:aT p.S) (q:Int × Int):(bG p q).length<=300:=Nat.le_trans (List.length_filter_le _ _) hp.2.2.2.1
theorem xQ_pre (p:aO) (r:aP):∀ (n i:Nat) (s:List (Int × Int) × List Edge),s.1 <+:(xQ p r n i s).1/\s.2 <+:(xQ p r n i s).2
 |0,_,_=>⟨List.prefix_refl _,List.prefix_refl _⟩
 |n+1,i,s=>by
  unfold xQ
  split
  ·exact ⟨List.prefix_refl _,List.prefix_refl _⟩
  ·rename_i q _
   have:=xQ_pre p r n (i+1) (aDq s.1 (sK p r q (bG p q)),s.2++edQ (i:Int) s.1 (sK p r q (bG p q)))
   exact ⟨(aET _ _).trans this.1,(List.prefix_append _ _).trans this.2⟩
def bE (p:aO) (r:aP):List (Int × Int) × List Edge:=xQ p r 1601 0 ([(p.S.I,r.I)],[])
theorem aNl {p:aO} {r:aP} (hp:aT p.S) (hr:aT r):WQ2 p r [(p.S.I,r.I)]:=
 ⟨by simp,fun q hq=>by simp at hq;subst hq;exact ⟨hp.2.1,hr.2.1⟩⟩
theorem aNm {p:aO} {r:aP} (hp:bB p.S) (hr:bB r) {i:Nat} {q:Int × Int} {F:List (Int × Int)} {ed:List Edge} (hw:WQ2 p r F) (hi:F[i]?=some q) (hed:ed.length<=300 * i) (h16:i<=1600):
  loop (fun s:List (List Int) × List Edge × Int=>vT p r (i:Int) (bG p q) s.1 s.2.1 s.2.2) (F.map R2,ed,0)=some ((aDq F (sK p r q (bG p q))).map R2,ed++edQ (i:Int) F (sK p r q (bG p q))):=by
 have hol:=uF hp.1 q
 have:=jY (step:=fun s:List (List Int) × List Edge × Int=>vT p r (i:Int) (bG p q) s.1 s.2.1 s.2.2) (bG p q) (fun k (a:List (Int × Int) × List Edge)=>(a.1.map R2,a.2,(k:Int)))
  (fun l a=>((aDq a.1 (sK p r q l)).map R2,a.2++edQ (i:Int) a.1 (sK p r q l))) (fun k a=>WQ2 p r a.1/\a.1[i]?=some q/\a.2.length<=300 * i+k) (fun k a e l hk hx hI=>?_) (fun a hI=>by simp only [vT,aS];simp [sK,aDq,edQ]) (a:=(F,ed)) ⟨hw,hi,by simp only;omega⟩
 ·exact this
 ·obtain ⟨F,ed⟩:=a
  obtain ⟨hw,hi,hed⟩:=hI
  simp only at hw hi hed
  obtain ⟨hk',rfl⟩:=oW hx
  left
  have hil:i < F.length:=(List.getElem?_eq_some_iff.1 hi).1
  have h16':=hw.len hp.1 hr.1
  have he:(bG p q)[k]∈p.S.E:=pX _ (List.getElem_mem hk')
  have hq:inB p r q:=hw.2 q (List.mem_of_getElem? hi)
  generalize (bG p q)[k]=e at he hx
  have hrow:ix (F.map R2) (i:Int)=some (R2 q):=by rw [lR,List.getElem?_map,hi];rfl
  obtain ⟨z,hz,hzj⟩:=aRw hr q.2 (kC p.S e)
  simp only [vT,aV hk,if_pos,hrow,aA,show ix (R2 q) 1=some q.2 from rfl,hx,oQ (eB hp.1 he),hz,sC,aQ hk (show (bG p q).length < 4611686018427387904 by omega)]
  cases ha:alo r q.2 (kC p.S e) with
  |none=>
   refine ⟨(F,ed),rfl,⟨hw,hi,by simp only;omega⟩,?_⟩
   simp only [sK,List.filterMap_cons,ha,Option.map_none]
  |some j=>
   obtain rfl:=hzj j ha
   have hx2:inB p r (e.To,z):=⟨(eB hp.1 he).2.1,aGX hr.1 hq.2 ha⟩
   have hwi:=hw.ins hx2
   rw [show ([e.To,z]:List Int)=R2 (e.To,z) from rfl]
   simp only [Option.isSome_some,Bool.not_true,Bool.false_eq_true,if_false]
   rw [aKK _ _ (by simp;omega) (fun x hx=>by obtain ⟨y,_,rfl⟩:=List.mem_map.1 hx;simp [R2]),aA,aQb]
   refine ⟨(aCv F (e.To,z),ed++[⟨(i:Int),e.B,pos (aCv F (e.To,z)) (e.To,z)⟩]),?_,⟨hwi,?_,by simp;omega⟩,?_⟩
   ·unfold zZ
    have a1:∀ X:Edge,rZ ed [X]=some (ed++[X]):=fun X=>bX (by simp [hX];omega)
    have a2:rZ (F.map R2) [R2 (e.To,z)]=some (F.map R2++[R2 (e.To,z)]):=bX (by simp [hX];omega)
    have hw1:=aQ hk (show (bG p q).length < 4611686018427387904 by omega)
    by_cases hm:(e.To,z)∈F
    ·rw [if_neg (by simp only [decide_eq_true_eq];have:=aLQ hm;omega),a1,aA]
     simp only [sC,aCv,if_pos hm,hw1]
    ·rw [if_pos (by rw [aLR hm];rfl),a2,aA,a1,aA]
     simp only [sC,aCv,if_neg hm,pos_snoc hm,List.map_append,List.map_cons,List.map_nil,List.length_map,hw1]
   ·obtain ⟨c,hc⟩:=aNk F (e.To,z)
    simp only
    rw [←hc,List.getElem?_append_left hil];exact hi
   ·simp only [sK,List.filterMap_cons,ha,Option.map_some,aDq,edQ,List.append_assoc,List.cons_append,List.nil_append]
theorem aRy {p:aO} {r:aP} (hp:bB p.S) (hr:bB r):aEw p r=some ((bE p r).1.map R2,(bE p r).2,decide (40 < (bE p r).1.length)||decide (300 < (bE p r).2.length)):=by
 unfold aEw
 have:=loop_eq (step:=fun s:List (List Int) × List Edge × Int=>aAa p r s.1 s.2.1 s.2.2)
  (fun s=>∃ (i:Nat) (F:List (Int × Int)) (ed:List Edge),s=(F.map R2,ed,(i:Int))/\i<=F.length/\WQ2 p r F/\ed.length<=300 * i/\xQ p r (1601 - i) i (F,ed)=bE p r)
  (fun s=>1601 - s.2.2.toNat) ((bE p r).1.map R2,(bE p r).2) (fun s hI=>?_) (s:=([[p.S.I,r.I]],[],0)) ⟨0,[(p.S.I,r.I)],[],rfl,by simp,aNl hp.1 hr.1,by simp,rfl⟩
 ·rw [this,aA]
  unfold zY zX
  simp only [List.length_map]
  by_cases h40:40 < (bE p r).1.length
  ·rw [if_pos (by simp only [decide_eq_true_eq];omega),decide_eq_true h40];rfl
  ·rw [if_neg (by simp only [decide_eq_true_eq];omega),decide_eq_false h40,Bool.false_or]
   exact congrArg some (by rw [decide_eq_decide.2 (show ((300:Int) < ((bE p r).2.length:Int))<->300 < (bE p r).2.length by omega)])
 ·obtain ⟨i,F,ed,rfl,hi,hw,hed,hx⟩:=hI
  have h16:=hw.len hp.1 hr.1
  simp only
  by_cases hil:i < F.length
  ·have hq:F[i]?=some F[i]:=List.getElem?_eq_getElem hil
   have hqB:=hw.2 F[i] (List.getElem_mem hil)
   rw [show 1601 - i=(1600 - i)+1 by omega] at hx
   unfold xQ at hx
   rw [hq] at hx
   simp only at hx
   have hrow:ix (F.map R2) (i:Int)=some (R2 F[i]):=by rw [lR,List.getElem?_map,hq];rfl
   simp only [aAa,List.length_map,aV hil,if_pos,hrow,aA,show ix (R2 F[i]) 0=some F[i].1 from rfl]
   rw [aOP _ _ (by have:=hp.1.2.2.2.1;omega),aA]
   rw [show (p.S.E.filter fun e=>e.F == F[i].1)=bG p F[i] from rfl,aNm hp hr hw hq hed (by omega),aA]
   left
   have hsl:=aLS p r F[i] (bG p F[i])
   have hol:=uF hp.1 F[i]
   refine ⟨_,rfl,⟨i+1,aDq F (sK p r F[i] (bG p F[i])),ed++edQ (i:Int) F (sK p r F[i] (bG p F[i])),?_,?_,WQ2.add hw (aQc hp.1 hr.1 hqB pX),?_,?_⟩,?_⟩
   ·simp only [aQ hil (show F.length < 4611686018427387904 by omega)]
   ·have:=(aET (sK p r F[i] (bG p F[i])) F).length_le;omega
   ·rw [List.length_append,edQ_len];omega
   ·rw [show 1601 - (i+1)=1600 - i by omega];exact hx
   ·simp only [aQ hil (show F.length < 4611686018427387904 by omega),Int.toNat_natCast];omega
  ·right
   obtain rfl:i=F.length:=by omega
   rw [show 1601 - F.length=(1600 - F.length)+1 by omega] at hx
   unfold xQ at hx
   rw [List.getElem?_eq_none (Nat.le_refl _)] at hx
   simp only at hx
   rw [←hx]
   simp only [aAa,List.length_map,aS]
   simp
end Gv
namespace Gv
open Go
def mq {κ:Type} (k:Nat):List κ->List (κ × Int)
 |[]=>[]
 |q::l=>(q,(k:Int))::mq (k+1) l
theorem aQd {κ:Type} [DecidableEq κ] [BEq κ] [LawfulBEq κ] {q:κ}:∀ {a:List κ} {k:Nat},mU (mq k a) q=match a.findIdx? (fun x=>q == x) with|none=>none|some i=>some ((k+i:Nat):Int)
 |[],k=>rfl
 |x::l,k=>by
  have ih:=aQd (q:=q) (a:=l) (k:=k+1)
  unfold mq mU
  rw [List.findIdx?_cons]
  by_cases e:q=x
  ·subst e
   rw [if_pos rfl,if_pos (by simp)];rfl
  ·rw [if_neg e,if_neg (by simpa using e),ih]
   cases l.findIdx? (fun x=>q == x) with
   |none=>rfl
   |some i=>simp only [Option.map_some];congr 2;omega
theorem aLT {κ:Type} [DecidableEq κ] {q:κ}:∀ {a:List κ} {k:Nat},q∉a->wV (mq k a) q ((k+a.length:Nat):Int)=mq k (a++[q])
 |[],k,_=>by simp [mq,wV]
 |x::l,k,hn=>by
  have ih:=aLT (q:=q) (a:=l) (k:=k+1) (fun hy=>hn (by simp [hy]))
  have e:¬ q=x:=fun hk=>hn (by rw [hk];simp)
  simp only [mq,wV,List.cons_append,if_neg e]
  rw [←ih]
  congr 3
  simp;omega
theorem aIp {κ:Type} [DecidableEq κ] [BEq κ] [LawfulBEq κ] {q:κ} {a:List κ} (h:q∈a):mU (mq 0 a) q=some (pos a q):=by
 obtain ⟨i,hi,e,_⟩:=mS h
 rw [aQd]
 unfold pos at e ⊢
 cases hx:a.findIdx? (fun x=>q == x) with
 |none=>rw [hx] at e;simp only at e;omega
 |some j=>simp
theorem aNn {κ:Type} [DecidableEq κ] [BEq κ] [LawfulBEq κ] {q:κ} {a:List κ} (h:q∉a):mU (mq 0 a) q=none:=by
 rw [aQd,List.findIdx?_eq_none_iff.2 (fun x hx=>by simp;intro e;subst e;exact h hx)]
structure Pth (F:List (Int × Int)) (P:List (List aH)):Prop where
 len:P.length=F.length
 small:∀ (j:Nat) x,P[j]?=some x->x.length<=j
theorem aOV {F:List (Int × Int)} {P:List (List aH)} (hF:F.length<=1600) (hP:Pth F P) {path:List aH} (hp:path.length<=F.length) (q:Int × Int) (a0 a1:Int) (a2:List aH) (a3:List Edge) (a4:List Int) (a5:List aH) (a6 a7:Int) (a8:List aH) (a9:List Edge):
  ∃ P',oB q path a0 a1 a2 a3 a4 a5 a6 a7 a8 a9 (F.map R2) (mq 0 F) P=some ((aCv F q).map R2,mq 0 (aCv F q),P')/\Pth (aCv F q) P'/\P <+:P':=by
 unfold oB aCv
 by_cases hm:q∈F
 ·rw [aIp hm,if_neg (by simp),if_pos hm]
  exact ⟨P,rfl,hP,List.prefix_refl _⟩
 ·rw [aNn hm,if_pos (by simp),if_neg hm]
  have h1:wV (mq 0 F) q (((F.map R2).length:Nat):Int)=mq 0 (F++[q]):=by
   have:=aLT (k:=0) hm
   rw [Nat.zero_add] at this
   rw [List.length_map];exact this
  have h2:rZ (F.map R2) [([q.1,q.2]:List Int)]=some ((F++[q]).map R2):=by
   rw [bX (by simp [hX];omega)]
   simp [R2]
  have h3:rZ P [path]=some (P++[path]):=bX (by have:=hP.len;simp [hX];omega)
  refine ⟨P++[path],?_,⟨by simp [hP.len],fun j x hx=>?_⟩,List.prefix_append _ _⟩
  ·rw [h1,aA,h2,aA,h3,aA]
  ·by_cases hj:j < P.length
   ·rw [List.getElem?_append_left hj] at hx
    exact hP.small j x hx
   ·rw [List.getElem?_append_right (by omega)] at hx
    have hj2:j - P.length=0:=by
     have:=(List.getElem?_eq_some_iff.1 hx).1
     simp at this;omega
    rw [hj2] at hx
    simp at hx
    subst hx
    have:=hP.len
    omega
theorem next_eq {p:aO} {r:aP} (hp:bB p.S) (hr:bB r) {i:Nat} {q:Int × Int} {F:List (Int × Int)} {P:List (List aH)} (hw:WQ2 p r F) (hi:F[i]?=some q) (hP:Pth F P):
  ∃ P',vE p.S.N p.S.I p.S.L p.S.E p.M p.C r.N r.I r.L r.E (F.map R2) (mq 0 F) P (R2 q) (i:Int)
   =some ((aDq F (sK p r q (bG p q))).map R2,mq 0 (aDq F (sK p r q (bG p q))),P')/\Pth (aDq F (sK p r q (bG p q))) P':=by
 unfold vE
 rw [show ix (R2 q) 0=some q.1 from rfl,aA,show (⟨p.S.N,p.S.I,p.S.L,p.S.E⟩:aP)=p.S from rfl,aGT _ _ (by have:=hp.1.2.2.2.1;omega),aA]
 rw [show (p.S.E.filter fun e=>e.F == q.1)=bG p q from rfl]
 have hol:=uF hp.1 q
 generalize hFF:aDq F (sK p r q (bG p q))=FF
 have:=dZ (step:=fun s:List (List Int) × List ((Int × Int) × Int) × List (List aH) × Int=>lX p.S.N p.S.I p.S.L p.S.E p.M p.C r.N r.I r.L r.E (R2 q) (i:Int) (bG p q) s.1 s.2.1 s.2.2.1 s.2.2.2)
  (bG p q).length (fun k (a:List (Int × Int) × List (List aH))=>(a.1.map R2,mq 0 a.1,a.2,(k:Int))) (fun k a=>WQ2 p r a.1/\a.1[i]?=some q/\Pth a.1 a.2/\aDq a.1 (sK p r q ((bG p q).drop k))=FF)
  (fun x=>∃ P',x=(FF.map R2,mq 0 FF,P')/\Pth FF P') (fun k a hk hI=>?_) (fun a hI=>?_) (bG p q).length 0 (F,P) (by omega) ⟨hw,hi,hP,hFF⟩
 ·obtain ⟨x,hx,P',rfl,hP'⟩:=this
  have hx':loop (fun s:List (List Int) × List ((Int × Int) × Int) × List (List aH) × Int=>lX p.S.N p.S.I p.S.L p.S.E p.M p.C r.N r.I r.L r.E (R2 q) (i:Int) (bG p q) s.1 s.2.1 s.2.2.1 s.2.2.2) (F.map R2,mq 0 F,P,0)=_:=hx
  rw [hx',aA]
  exact ⟨P',rfl,hP'⟩
 ·obtain ⟨F,P⟩:=a
  obtain ⟨hw,hi,hP,hFF⟩:=hI
  simp only at hw hi hP hFF
  have hil:i < F.length:=(List.getElem?_eq_some_iff.1 hi).1
  have h16:=hw.len hp.1 hr.1
  have he:(bG p q)[k]∈p.S.E:=pX _ (List.getElem_mem hk)
  have hq:inB p r q:=hw.2 q (List.mem_of_getElem? hi)
  rw [List.drop_eq_getElem_cons hk] at hFF
  obtain ⟨z,hz,hzj⟩:=aES hr q.2 (kC p.S (bG p q)[k])
  have hw1:=aQ hk (show (bG p q).length < 4611686018427387904 by omega)
  simp only [lX,aV hk,if_pos,aX hk,aA,show ix (R2 q) 1=some q.2 from rfl,oQ (eB hp.1 he),show (⟨r.N,r.I,r.L,r.E⟩:aP)=r from rfl,hz]
  cases ha:alo r q.2 (kC p.S (bG p q)[k]) with
  |none=>
   simp only [sK,List.filterMap_cons,ha,Option.map_none] at hFF
   exact ⟨(F,P),by simp [lW,hw1],hw,hi,hP,hFF⟩
  |some j=>
   obtain rfl:=hzj j ha
   simp only [sK,List.filterMap_cons,ha,Option.map_some,aDq] at hFF
   have hx2:inB p r ((bG p q)[k].To,z):=⟨(eB hp.1 he).2.1,aGX hr.1 hq.2 ha⟩
   have hPi:i < P.length:=by rw [hP.len];exact hil
   have hpi:=hP.small i P[i] (List.getElem?_eq_getElem hPi)
   unfold aAu bT
   rw [aX hPi,aA,bX (by simp [hX];omega),aA,aA,List.nil_append,bX (by simp [hX];omega),aA]
   obtain ⟨P',h1,h2,_⟩:=aOV h16 hP (path:=P[i]++[kC p.S (bG p q)[k]]) (by simp;omega) ((bG p q)[k].To,z) p.S.N p.S.I p.S.L p.S.E p.M p.C r.N r.I r.L r.E
   refine ⟨(aCv F ((bG p q)[k].To,z),P'),?_,hw.ins hx2,?_,h2,hFF⟩
   ·simp only [Option.isSome_some,if_true]
    rw [h1,aA]
    simp only [aAK,aA,lW,hw1]
   ·obtain ⟨c,hc⟩:=aNk F ((bG p q)[k].To,z)
    simp only
    rw [←hc,List.getElem?_append_left hil];exact hi
 ·obtain ⟨_,_,hP,hFF⟩:=hI
  rw [List.drop_length] at hFF
  have hFF':a.1=FF:=hFF
  refine ⟨(FF.map R2,mq 0 FF,a.2),by simp only [lX,aS];rw [hFF'];rfl,a.2,rfl,by rw [←hFF'];exact hP⟩
theorem aIU {p:aO} {r:aP} (hp:bB p.S) (hr:bB r):∃ P,yQ p r=some ((bE p r).1.map R2,mq 0 (bE p r).1,P):=by
 unfold yQ
 obtain ⟨P0,h1,h2,_⟩:=aOV (F:=[]) (P:=[]) (by simp) ⟨rfl,by simp⟩ (path:=[]) (by simp) (p.S.I,r.I) p.S.N p.S.I p.S.L p.S.E p.M p.C r.N r.I r.L r.E
 have e0:aCv [] (p.S.I,r.I)=[(p.S.I,r.I)]:=rfl
 rw [e0] at h1 h2
 rw [show oB ⟨p.S.I,r.I⟩ [] p.S.N p.S.I p.S.L p.S.E p.M p.C r.N r.I r.L r.E [] ([]:List ((Int × Int) × Int)) []=_ from h1,aA]
 have:=qS (step:=fun s:List (List Int) × List ((Int × Int) × Int) × List (List aH) × Int=>vF p r s.1 s.2.1 s.2.2.1 s.2.2.2)
  (fun s=>∃ (i:Nat) (F:List (Int × Int)) (P:List (List aH)) (ed:List Edge),s=(F.map R2,mq 0 F,P,(i:Int))/\i<=F.length/\WQ2 p r F/\Pth F P/\xQ p r (1601 - i) i (F,ed)=bE p r)
  (fun s=>1601 - s.2.2.2.toNat) (fun x=>∃ P,x=((bE p r).1.map R2,mq 0 (bE p r).1,P)) (fun s hI=>?_) (s:=([(p.S.I,r.I)].map R2,mq 0 [(p.S.I,r.I)],P0,0)) ⟨0,[(p.S.I,r.I)],P0,[],rfl,by simp,aNl hp.1 hr.1,h2,rfl⟩
 ·obtain ⟨x,hx,P,rfl⟩:=this
  rw [hx,aA]
  exact ⟨P,rfl⟩
 ·obtain ⟨i,F,P,ed,rfl,hi,hw,hP,hx⟩:=hI
  have h16:=hw.len hp.1 hr.1
  simp only
  by_cases hil:i < F.length
  ·have hq:F[i]?=some F[i]:=List.getElem?_eq_getElem hil
   have hqB:=hw.2 F[i] (List.getElem_mem hil)
   rw [show 1601 - i=(1600 - i)+1 by omega] at hx
   unfold xQ at hx
   rw [hq] at hx
   simp only at hx
   have hrow:ix (F.map R2) (i:Int)=some (R2 F[i]):=by rw [lR,List.getElem?_map,hq];rfl
   obtain ⟨P',h1,h2⟩:=next_eq hp hr hw hq hP
   simp only [vF,List.length_map,aV hil,if_pos,hrow,aA,h1]
   left
   refine ⟨_,rfl,⟨i+1,aDq F (sK p r F[i] (bG p F[i])),P',_,?_,?_,WQ2.add hw (aQc hp.1 hr.1 hqB pX),h2,by rw [show 1601 - (i+1)=1600 - i by omega];exact hx⟩,?_⟩
   ·simp only [aQ hil (show F.length < 4611686018427387904 by omega)]
   ·have:=(aET (sK p r F[i] (bG p F[i])) F).length_le;omega
   ·simp only [aQ hil (show F.length < 4611686018427387904 by omega),Int.toNat_natCast];omega
  ·right
   obtain rfl:i=F.length:=by omega
   rw [show 1601 - F.length=(1600 - F.length)+1 by omega] at hx
   unfold xQ at hx
   rw [List.getElem?_eq_none (Nat.le_refl _)] at hx
   simp only at hx
   refine ⟨(F.map R2,mq 0 F,P),?_,P,?_⟩
   ·simp only [vF,List.length_map,aS];rfl
   ·rw [←hx]
end Gv
namespace Gv
open Go
theorem aGZ {α:Type} (lt:α->α->Bool) (irr:∀ a,lt a a=false) (tr:∀ {a b c},lt a b=true->lt b c=true->lt a c=true) (tri:∀ a b,lt a b=true\/a=b\/lt b a=true) {xs:List α} (hn:xs.Nodup):(srt lt xs).Pairwise fun a b=>lt a b=true:=by
 have asy:∀ {a b},lt a b=true->lt b a=false:=fun {a b} h=>by
  cases hx:lt b a with
  |false=>rfl
  |true=>have:=tr h hx;rw [irr] at this;cases this
 have h1:(srt lt xs).Pairwise fun a b=>(!lt b a)=true:=by
  refine List.pairwise_mergeSort (le:=fun a b=>!lt b a) (fun a b c h1 h2=>?_) (fun a b=>?_) xs
  ·simp only [Bool.not_eq_true'] at *
   rcases tri a b with h|h|h
   ·rcases tri b c with g|g|g
    ·exact asy (tr h g)
    ·subst g;exact asy h
    ·rw [g] at h2;cases h2
   ·subst h;exact h2
   ·rw [h] at h1;cases h1
  ·rcases tri a b with h|h|h
   ·rw [asy h];rfl
   ·subst h;rw [irr];rfl
   ·rw [asy h];simp
 have h2:(srt lt xs).Nodup:=(List.mergeSort_perm xs _).nodup_iff.2 hn
 refine (h1.and h2).imp fun {a b} h=>?_
 obtain ⟨h3,h4⟩:=h
 simp only [Bool.not_eq_true'] at h3
 rcases tri a b with h|h|h
 ·exact h
 ·exact absurd h h4
 ·rw [h] at h3;cases h3
theorem aTa (a:List Int):sL a a=false:=by
 have:∀ a:List Int,nV a a=0:=fun a=>by
  induction a with
  |nil=>rfl
  |cons x l ih=>simp [nV,ih]
 simp [sL,this]
def qLt (a b:Int × Int):Bool:=decide (a.1 < b.1)||(a.1 == b.1&&decide (a.2 < b.2))
theorem aIq {a b:Int × Int}:qLt a b=true<->a.1 < b.1\/(a.1=b.1/\a.2 < b.2):=by unfold qLt;simp
theorem aLU (a b:Int × Int):sL (R2 a) (R2 b)=qLt a b:=by
 refine Bool.eq_iff_iff.2 ?_
 rw [aIq]
 unfold sL R2 nV
 simp only [decide_eq_true_eq]
 split
 ·constructor
  ·intro _;exact .inl (by assumption)
  ·intro _;omega
 ·split
  ·constructor
   ·intro h;omega
   ·intro h;omega
  ·unfold nV
   split
   ·constructor
    ·intro _;exact .inr ⟨by omega,by assumption⟩
    ·intro _;omega
   ·split
    ·constructor
     ·intro h;omega
     ·intro h;omega
    ·constructor
     ·intro h;simp [nV] at h
     ·intro h;omega
theorem aHa (a:Int × Int):qLt a a=false:=by
 cases h:qLt a a with
 |false=>rfl
 |true=>rw [aIq] at h;omega
theorem aNo {a b c:Int × Int} (h1:qLt a b=true) (h2:qLt b c=true):qLt a c=true:=by
 rw [aIq] at *;omega
theorem aKa (a b:Int × Int):qLt a b=true\/a=b\/qLt b a=true:=by
 rw [aIq,aIq]
 have:a=b<->a.1=b.1/\a.2=b.2:=⟨fun h=>by rw [h];exact ⟨rfl,rfl⟩,fun h=>Prod.ext h.1 h.2⟩
 rw [this];omega
def eG (F:List (Int × Int)):List (Int × Int):=srt qLt F
theorem aIr (F:List (Int × Int)):(eG F).Perm F:=List.mergeSort_perm _ _
theorem oR {F:List (Int × Int)} {q:Int × Int}:q∈eG F<->q∈F:=(aIr F).mem_iff
theorem aIf (F:List (Int × Int)):(eG F).length=F.length:=(aIr F).length_eq
theorem ordQ_row (F:List (Int × Int)):srt sL (F.map R2)=(eG F).map R2:=by
 unfold eG srt
 exact (List.map_mergeSort (r:=fun a b=>!qLt b a) (s:=fun a b=>!sL b a) (f:=R2) (l:=F) (fun a _ b _=>by rw [aLU])).symm
theorem aRz {F:List (Int × Int)} (h:F.Nodup):(eG F).Pairwise fun a b=>qLt a b=true:=aGZ qLt aHa (fun h1 h2=>aNo h1 h2) aKa h
theorem aNp {F:List (Int × Int)} (h:F.Nodup):(eG F).Nodup:=(aIr F).nodup_iff.2 h
variable {p:aO} {r:aP}
theorem aRA:∀ {l:List (Int × Int × Int)} {F:List (Int × Int)} {x:Int × Int × Int},x∈l->x.2∈aDq F l
 |y::l,F,x,h=>by
  rcases List.mem_cons.1 h with rfl|h
  ·exact (aET l (aCv F x.2)).subset (aRx F x.2)
  ·exact aRA (F:=aCv F y.2) h
theorem xQ_W (hp:aT p.S) (hr:aT r):∀ {n i:Nat} {s:List (Int × Int) × List Edge},WQ2 p r s.1->WQ2 p r (xQ p r n i s).1
 |0,_,_,h=>h
 |n+1,i,s,h=>by
  unfold xQ
  split
  ·exact h
  ·rename_i q hq
   exact xQ_W hp hr (n:=n) (WQ2.add h (aQc hp hr (h.2 q (List.mem_of_getElem? hq)) pX))
theorem pre_get {α:Type} {a b:List α} (h:a <+:b) {i:Nat} {x:α} (hx:a[i]?=some x):b[i]?=some x:=by
 obtain ⟨c,rfl⟩:=h
 rw [List.getElem?_append_left (List.getElem?_eq_some_iff.1 hx).1];exact hx
def aIV (p:aO) (r:aP) (FF:List (Int × Int)):Nat->List (Int × Int)->List Edge
 |_,[]=>[]
 |i,q::l=>(sK p r q (bG p q)).map (fun x=>⟨(i:Int),x.1,pos FF x.2⟩)++aIV p r FF (i+1) l
theorem edQ_map (i:Int) {FF:List (Int × Int)}:∀ {l:List (Int × Int × Int)} {F:List (Int × Int)},aDq F l <+:FF->edQ i F l=l.map fun x=>⟨i,x.1,pos FF x.2⟩
 |[],_,_=>rfl
 |x::l,F,h=>by
  have h':aDq (aCv F x.2) l <+:FF:=h
  have h2:=(aET l (aCv F x.2)).trans h'
  simp only [edQ,List.map_cons,edQ_map i h',pos_pre h2 (aRx F x.2)]
theorem aNq (hp:aT p.S) (hr:aT r):∀ {n i:Nat} {s:List (Int × Int) × List Edge},WQ2 p r s.1->1601<=n+i->i<=s.1.length->
  (xQ p r n i s).2=s.2++aIV p r (xQ p r n i s).1 i ((xQ p r n i s).1.drop i)/\∀ q∈(xQ p r n i s).1.drop i,∀ x∈sK p r q (bG p q),x.2∈(xQ p r n i s).1
 |0,i,s,h,hn,hi=>by have:=h.len hp hr;omega
 |n+1,i,s,h,hn,hi=>by
  unfold xQ
  cases hq:s.1[i]? with
  |none=>
   simp only
   have:s.1.length<=i:=by
    apply Classical.byContradiction
    intro hc
    rw [List.getElem?_eq_getElem (by omega)] at hq;cases hq
   rw [List.drop_eq_nil_of_le this]
   exact ⟨by simp [aIV],by simp⟩
  |some q=>
   simp only
   have hil:=(List.getElem?_eq_some_iff.1 hq).1
   have hpre:=aET (sK p r q (bG p q)) s.1
   have ih:=aNq hp hr (n:=n) (i:=i+1) (s:=(aDq s.1 (sK p r q (bG p q)),s.2++edQ (i:Int) s.1 (sK p r q (bG p q)))) (WQ2.add h (aQc hp hr (h.2 q (List.mem_of_getElem? hq)) pX)) (by omega) (by have:=hpre.length_le;simp only;omega)
   have hx:=(xQ_pre p r n (i+1) (aDq s.1 (sK p r q (bG p q)),s.2++edQ (i:Int) s.1 (sK p r q (bG p q)))).1
   generalize xQ p r n (i+1) (aDq s.1 (sK p r q (bG p q)),s.2++edQ (i:Int) s.1 (sK p r q (bG p q)))=res at ih hx
   simp only at ih hx
   have hg:=pre_get (hpre.trans hx) hq
   obtain ⟨hl,hg'⟩:=List.getElem?_eq_some_iff.1 hg
   rw [List.drop_eq_getElem_cons hl,hg']
   refine ⟨?_,fun a ha x hxa=>?_⟩
   ·rw [ih.1]
    simp only [aIV,edQ_map (i:Int) hx,List.append_assoc]
   ·rcases List.mem_cons.1 ha with rfl|ha
    ·exact hx.subset (aRA hxa)
    ·exact ih.2 a ha x hxa
theorem aCc (hp:aT p.S) (hr:aT r):WQ2 p r (bE p r).1:=xQ_W hp hr (aNl hp hr)
theorem aGt (hp:aT p.S) (hr:aT r):(bE p r).2=aIV p r (bE p r).1 0 (bE p r).1:=by
 have:=(aNq hp hr (n:=1601) (i:=0) (s:=([(p.S.I,r.I)],[])) (aNl hp hr) (by omega) (by simp)).1
 rw [List.drop_zero,List.nil_append] at this
 exact this
theorem pY (hp:aT p.S) (hr:aT r) {q:Int × Int} (hq:q∈(bE p r).1):∀ x∈sK p r q (bG p q),x.2∈(bE p r).1:=by
 have:=(aNq hp hr (n:=1601) (i:=0) (s:=([(p.S.I,r.I)],[])) (aNl hp hr) (by omega) (by simp)).2
 exact this q (by rw [List.drop_zero];exact hq)
theorem aGu (p:aO) (r:aP):(bE p r).1[0]?=some (p.S.I,r.I):=pre_get (xQ_pre p r 1601 0 ([(p.S.I,r.I)],[])).1 rfl
theorem aIs (FF:List (Int × Int)):∀ (i:Nat) (l:List (Int × Int)),(aIV p r FF i l).length=(l.map fun q=>(sK p r q (bG p q)).length).sum
 |_,[]=>rfl
 |i,q::l=>by simp [aIV,aIs FF (i+1) l]
theorem aKL {FF:List (Int × Int)} {e:Edge}:∀ {i:Nat} {l:List (Int × Int)},e∈aIV p r FF i l<->∃ (j:Nat) (q:Int × Int) (x:Int × Int × Int),l[j]?=some q/\x∈sK p r q (bG p q)/\e=⟨((i+j:Nat):Int),x.1,pos FF x.2⟩
 |i,[]=>by simp [aIV]
 |i,q::l=>by
  unfold aIV
  rw [List.mem_append,List.mem_map,aKL (i:=i+1) (l:=l)]
  constructor
  ·rintro (⟨x,hx,rfl⟩|⟨j,q',x,hj,hx,rfl⟩)
   ·exact ⟨0,q,x,rfl,hx,rfl⟩
   ·exact ⟨j+1,q',x,by simpa using hj,hx,by rw [show i+(j+1)=i+1+j by omega]⟩
  ·rintro ⟨j,q',x,hj,hx,rfl⟩
   cases j with
   |zero=>
    simp at hj;subst hj
    exact .inl ⟨x,hx,rfl⟩
   |succ j=>exact .inr ⟨j,q',x,by simpa using hj,hx,by rw [show i+(j+1)=i+1+j by omega]⟩
theorem aQe {q:Int × Int} {es:List Edge} {x:Int × Int × Int} (h:x∈sK p r q es):∃ e∈es,x.1=e.B:=by
 unfold sK at h
 rw [List.mem_filterMap] at h
 obtain ⟨e,he,h⟩:=h
 rw [Option.map_eq_some_iff] at h
 obtain ⟨k,_,rfl⟩:=h
 exact ⟨e,he,rfl⟩
theorem outE_pair (hp:bB p.S) (q:Int × Int):(bG p q).Pairwise fun a b=>a.B < b.B:=by
 have h1:p.S.E.Pairwise uE:=List.pairwise_iff_getElem.2 fun i j hi hj hij=>aEP hp.1 hp.2 hij hj
 have h2:(bG p q).Pairwise uE:=h1.filter _
 refine h2.imp_of_mem ?_
 intro a b ha hb h
 have ha':=(List.mem_filter.1 ha).2
 have hb':=(List.mem_filter.1 hb).2
 simp only [beq_iff_eq] at ha' hb'
 unfold uE at h
 omega
theorem aRB {q:Int × Int}:∀ {es:List Edge},(es.Pairwise fun a b=>a.B < b.B)->(sK p r q es).Pairwise fun a b=>a.1 < b.1
 |[],_=>List.Pairwise.nil
 |e::es,h=>by
  rw [List.pairwise_cons] at h
  have ih:=aRB (q:=q) h.2
  unfold sK at ih ⊢
  rw [List.filterMap_cons]
  cases alo r q.2 (kC p.S e) with
  |none=>simpa using ih
  |some k=>
   simp only [Option.map_some]
   rw [List.pairwise_cons]
   refine ⟨fun x hx=>?_,ih⟩
   obtain ⟨e',he',hl⟩:=aQe (es:=es) (p:=p) (r:=r) (q:=q) hx
   rw [hl]
   exact h.1 e' he'
end Gv
namespace Gv
open Go
theorem aOj (a b:Int × Int):aBC (R2 a) (R2 b)=some (nV (R2 a) (R2 b)):=by
 unfold aBC
 have s0:nX (R2 a) (R2 b) 0=some (if a.1 < b.1 then .inr (.inr (-1)) else if b.1 < a.1 then .inr (.inr 1) else .inl 1):=by
  unfold nX vA
  rw [show decide ((0:Int) < ((R2 a).length:Int))=true from rfl,if_pos rfl,show decide ((0:Int) < ((R2 b).length:Int))=true from rfl,if_pos rfl,show ix (R2 a) 0=some a.1 from rfl,aA,show ix (R2 b) 0=some b.1 from rfl,aA]
  by_cases h1:a.1 < b.1
  ·simp [h1]
  ·by_cases h2:b.1 < a.1
   ·simp [h1,h2]
   ·simp [h1,h2,wr]
 have s1:nX (R2 a) (R2 b) 1=some (if a.2 < b.2 then .inr (.inr (-1)) else if b.2 < a.2 then .inr (.inr 1) else .inl 2):=by
  unfold nX vA
  rw [show decide ((1:Int) < ((R2 a).length:Int))=true from rfl,if_pos rfl,show decide ((1:Int) < ((R2 b).length:Int))=true from rfl,if_pos rfl,show ix (R2 a) 1=some a.2 from rfl,aA,show ix (R2 b) 1=some b.2 from rfl,aA]
  by_cases h1:a.2 < b.2
  ·simp [h1]
  ·by_cases h2:b.2 < a.2
   ·simp [h1,h2]
   ·simp [h1,h2,wr]
 have s2:nX (R2 a) (R2 b) 2=some (.inr (.inl ())):=rfl
 rw [bA,s0]
 by_cases h1:a.1 < b.1
 ·simp [h1,R2,nV]
 ·by_cases h2:b.1 < a.1
  ·simp [h1,h2,R2,nV]
  ·simp only [h1,h2,if_false]
   rw [bA,s1]
   by_cases h3:a.2 < b.2
   ·simp [h1,h2,h3,R2,nV]
   ·by_cases h4:b.2 < a.2
    ·simp [h1,h2,h3,h4,R2,nV]
    ·simp only [h3,h4,if_false]
     rw [bA,s2,aA]
     simp [aDi,h1,h2,h3,h4,R2,nV]
def insL (q:Int × Int):List (Int × Int)->List (Int × Int)
 |[]=>[]
 |x::l=>if qLt x q=true then x::insL q l else if x=q then x::l else q::x::l
def insD (q:Int × Int):List (Int × Int)->Bool
 |[]=>false
 |x::l=>if qLt x q=true then insD q l else true
def aIB (l:List (Int × Int)) (q:Int × Int):List (Int × Int):=if insD q l=true then insL q l else insL q l++[q]
theorem aNr (q:Int × Int):aIB [] q=[q]:=rfl
theorem aKM (x:Int × Int) (l:List (Int × Int)) (q:Int × Int):aIB (x::l) q=if qLt x q=true then x::aIB l q else if x=q then x::l else q::x::l:=by
 simp only [aIB,insL,insD]
 by_cases h:qLt x q=true
 ·simp only [h,if_true]
  split<;>rfl
 ·simp only [h,if_false]
  simp
theorem aNs {q x:Int × Int}:∀ {l:List (Int × Int)},x∈aIB l q<->x=q\/x∈l
 |[]=>by simp [aNr]
 |y::l=>by
  rw [aKM]
  split
  ·rw [List.mem_cons,aNs (l:=l),List.mem_cons]
   constructor
   ·rintro (h|h|h)<;>simp [h]
   ·rintro (h|h|h)<;>simp [h]
  ·split
   ·rename_i _ h
    subst h
    simp
   ·simp
theorem aNt (q:Int × Int):∀ (l:List (Int × Int)),(aIB l q).length<=l.length+1
 |[]=>by simp [aNr]
 |y::l=>by
  rw [aKM]
  have:=aNt q l
  split
  ·simp;omega
  ·split<;>simp
theorem aLn {q:Int × Int}:∀ {l:List (Int × Int)},(l.Pairwise fun a b=>qLt a b=true)->(aIB l q).Pairwise fun a b=>qLt a b=true
 |[],_=>by simp [aNr]
 |y::l,h=>by
  rw [aKM]
  rw [List.pairwise_cons] at h
  split
  ·rename_i hy
   rw [List.pairwise_cons]
   refine ⟨fun x hx=>?_,aLn h.2⟩
   rcases aNs.1 hx with rfl|hx
   ·exact hy
   ·exact h.1 x hx
  ·split
   ·exact List.pairwise_cons.2 h
   ·rename_i h1 h2
    have hq:qLt q y=true:=by
     rcases aKa y q with g|g|g
     ·exact absurd g h1
     ·exact absurd g h2
     ·exact g
    rw [List.pairwise_cons]
    refine ⟨fun x hx=>?_,List.pairwise_cons.2 h⟩
    rcases List.mem_cons.1 hx with rfl|hx
    ·exact hq
    ·exact aNo hq (h.1 x hx)
theorem aQg (Q:List (Int × Int)) (q:Int × Int) (h:Q.length < 1000000000):aCX (Q.map R2) (R2 q)=some ((aIB Q q).map R2):=by
 unfold aCX
 have hc:∀ x:Int × Int,decide (0<=nV (R2 x) (R2 q))=!qLt x q:=fun x=>by
  rw [←aLU];unfold sL
  refine Bool.eq_iff_iff.2 ?_
  simp only [decide_eq_true_eq,Bool.not_eq_true',decide_eq_false_iff_not];omega
 have hc2:∀ x:Int × Int,qLt x q=false->(0 < nV (R2 x) (R2 q)<->x≠q):=fun x hx=>by
  rw [←aLU] at hx
  unfold sL at hx
  simp only [decide_eq_false_iff_not] at hx
  constructor
  ·intro h e;subst e
   have:=aTa (R2 x)
   have:∀ a:List Int,nV a a=0:=fun a=>by
    induction a with
    |nil=>rfl
    |cons x l ih=>simp [nV,ih]
   rw [this] at h;omega
  ·intro hne
   apply Classical.byContradiction
   intro hn
   have h0:nV (R2 x) (R2 q)=0:=by omega
   rcases aKa x q with g|g|g
   ·rw [←aLU] at g;unfold sL at g;simp only [decide_eq_true_eq] at g;omega
   ·exact hne g
   ·rw [aIq] at g
    unfold R2 nV at h0
    split at h0
    ·omega
    ·split at h0
     ·omega
     ·unfold nV at h0
      split at h0
      ·omega
      ·split at h0<;>omega
 have:=jY (step:=fun s:List (List Int) × Bool × Int=>xG (Q.map R2) (R2 q) s.1 s.2.1 s.2.2) Q (fun k (a:List (List Int) × Bool)=>(a.1,a.2,(k:Int)))
  (fun l a=>if a.2=true then (a.1++l.map R2,true) else (a.1++(insL q l).map R2,insD q l)) (fun k a=>a.1.length<=k+1/\(a.2=false->a.1.length<=k)) (fun k a x l hk hx hI=>?_) (fun a hI=>?_) (a:=([],false)) ⟨by simp,by simp⟩
 ·rw [show ((0:Nat):Int)=0 from rfl] at this
  rw [this,aA]
  simp only [Bool.false_eq_true,if_false,List.nil_append]
  unfold aBE aBD aIB
  have hl:(insL q Q).length<=Q.length+1:=by
   have:=aNt q Q
   unfold aIB at this
   split at this
   ·exact this
   ·simp at this;omega
  cases insD q Q with
  |true=>rfl
  |false=>
   simp only [Bool.not_false,if_true,Bool.false_eq_true,if_false]
   rw [bX (by simp [hX];omega),aA,List.map_append];rfl
 ·obtain ⟨out,done⟩:=a
  simp only at hI
  have hI1:=hI.1
  have hx':ix (Q.map R2) (k:Int)=some (R2 x):=by
   obtain ⟨hk',rfl⟩:=oW hx
   rw [lR];simp [hk']
  have a1:∀ X:List Int,rZ out [X]=some (out++[X]):=fun X=>bX (by simp [hX];omega)
  have a2:∀ X Y:List Int,rZ (out++[X]) [Y]=some (out++[X]++[Y]):=fun X Y=>bX (by simp [hX];omega)
  have hw1:=aQ hk (show Q.length < 4611686018427387904 by omega)
  simp only [xG,List.length_map,aV hk,if_pos,hx',aA,aOj,hc]
  left
  cases done with
  |true=>
   simp only [Bool.not_true,Bool.false_eq_true,if_false,tC,kL,a1,aA,hw1]
   exact ⟨(out++[R2 x],true),rfl,⟨by simp;omega,fun h=>by cases h⟩,by simp⟩
  |false=>
   have hI2:=hI.2 rfl
   simp only [Bool.not_false,if_true,tC]
   cases hq:qLt x q with
   |true=>
    simp only [Bool.not_true,Bool.false_eq_true,if_false,kL,a1,aA,hw1]
    exact ⟨(out++[R2 x],false),rfl,⟨by simp;omega,fun _=>by simp;omega⟩,by simp [insL,insD,hq]⟩
   |false=>
    simp only [Bool.not_false,if_true]
    by_cases hne:x=q
    ·rw [if_neg (by simp only [decide_eq_true_eq];rw [hc2 x hq];exact fun h=>h hne)]
     simp only [kL,a1,aA,hw1]
     refine ⟨(out++[R2 x],true),rfl,⟨by simp;omega,fun h=>by cases h⟩,?_⟩
     simp only [insL,insD,hq,if_true,Bool.false_eq_true,if_false,if_pos hne,List.append_assoc];rfl
    ·rw [if_pos (by simp only [decide_eq_true_eq];rw [hc2 x hq];exact hne),a1,aA]
     simp only [kL,a2,aA,hw1]
     refine ⟨(out++[R2 q]++[R2 x],true),rfl,⟨by simp;omega,fun h=>by cases h⟩,?_⟩
     simp only [insL,insD,hq,if_true,Bool.false_eq_true,if_false,if_neg hne,List.append_assoc];rfl
 ·simp only [xG,List.length_map,aS]
  obtain ⟨out,done⟩:=a
  cases done<;>simp [insL,insD]
end Gv
namespace Gv
open Go
theorem aEU (a:Edge):bK a a=false:=by
 cases h:bK a a with
 |false=>rfl
 |true=>exact absurd rfl (aKI h)
theorem aCw {a b c:Edge} (h1:bK a b=true) (h2:bK b c=true):bK a c=true:=by
 rw [mG] at *;omega
theorem aLo (a b:Edge):bK a b=true\/a=b\/bK b a=true:=by
 rw [mG,mG]
 obtain ⟨a1,a2,a3⟩:=a
 obtain ⟨b1,b2,b3⟩:=b
 simp only [Edge.mk.injEq]
 omega
def SE (l:List Edge):Prop:=l.Pairwise fun a b=>bK a b=true
theorem put_find (l:List Edge) (e:Edge) (h:l.length < 1000000000):∃ a:Nat,loop (fun s:Int=>aAW l e s) (l.length:Int)=some (a:Int)/\a<=l.length/\(∀ (j:Nat) x,a<=j->l[j]?=some x->bK e x=true)/\(∀ (x:Edge),0 < a->l[a - 1]?=some x->bK e x=false):=by
 have key:=qS (step:=fun s:Int=>aAW l e s) (fun s=>∃ a:Nat,s=(a:Int)/\a<=l.length/\∀ (j:Nat) x,a<=j->l[j]?=some x->bK e x=true) (fun s=>s.toNat)
  (fun x=>∃ a:Nat,x=(a:Int)/\a<=l.length/\(∀ (j:Nat) x,a<=j->l[j]?=some x->bK e x=true)/\(∀ (x:Edge),0 < a->l[a - 1]?=some x->bK e x=false)) (fun s hI=>?_) (s:=(l.length:Int)) ⟨l.length,rfl,Nat.le_refl _,fun j x hj hx=>by
   rw [List.getElem?_eq_none (by omega)] at hx;cases hx⟩
 ·obtain ⟨r,h1,a,rfl,h2⟩:=key
  exact ⟨a,h1,h2⟩
 ·obtain ⟨a,rfl,ha,hall⟩:=hI
  by_cases h0:0 < a
  ·have hk1:wr ((a:Int) - 1)=((a - 1:Nat):Int):=by rw [dE (by omega) (by omega)];omega
   have hx:l[a - 1]?=some l[a - 1]:=List.getElem?_eq_getElem (by omega)
   simp only [aAW]
   rw [decide_eq_true (p:=(0:Int) < (a:Int)) (by omega),if_pos rfl,hk1,aX (xs:=l) (k:=a - 1) (by omega),aA,aMX,aA]
   unfold aCT
   cases he:bK e l[a - 1] with
   |true=>
    left
    refine ⟨_,by rw [if_pos rfl,hk1],⟨a - 1,rfl,by omega,fun j x hj hx2=>?_⟩,by simp;omega⟩
    by_cases e1:j=a - 1
    ·subst e1;rw [hx] at hx2;cases hx2;exact he
    ·exact hall j x (by omega) hx2
   |false=>
    right
    refine ⟨_,by rw [if_neg (by simp)],a,rfl,ha,hall,fun x _ hx2=>?_⟩
    rw [hx] at hx2;cases hx2;exact he
  ·right
   refine ⟨_,by simp only [aAW];rw [decide_eq_false (p:=(0:Int) < (a:Int)) (by omega),if_neg (by simp)];unfold aCT;rw [if_neg (by simp)],a,rfl,ha,hall,fun x h=>absurd h h0⟩
theorem put_shift (l:List Edge) (a:Nat) (ha:a<=l.length) (h:l.length < 1000000000):∃ z:Edge,loop (fun s:List Edge × Int=>aCS (a:Int) s.1 s.2) (l++[⟨0,0,0⟩],(l.length:Int))=some (l.take a++z::l.drop a):=by
 have key:=qS (step:=fun s:List Edge × Int=>aCS (a:Int) s.1 s.2) (fun s=>∃ (k:Nat) (z:Edge),s=(l.take k++z::l.drop k,(k:Int))/\a<=k/\k<=l.length) (fun s=>s.2.toNat)
  (fun x=>∃ z:Edge,x=l.take a++z::l.drop a) (fun s hI=>?_) (s:=(l++[⟨0,0,0⟩],(l.length:Int))) ⟨l.length,⟨0,0,0⟩,by simp,ha,Nat.le_refl _⟩
 ·obtain ⟨r,h1,z,rfl⟩:=key
  exact ⟨z,h1⟩
 ·obtain ⟨k,z,rfl,hak,hk⟩:=hI
  simp only [aCS]
  have hlen:(l.take k++z::l.drop k).length=l.length+1:=by simp;omega
  by_cases h0:a < k
  ·have hk1:wr ((k:Int) - 1)=((k - 1:Nat):Int):=by rw [dE (by omega) (by omega)];omega
   rw [decide_eq_true (p:=(a:Int) < (k:Int)) (by omega),if_pos rfl,hk1,aX (xs:=l.take k++z::l.drop k) (k:=k - 1) (by omega),aA,aX (by omega),aA,vO _ (by omega),aA]
   left
   refine ⟨_,rfl,⟨k - 1,l[k - 1],?_,by omega,by omega⟩,by simp;omega⟩
   have e1:(l.take k++z::l.drop k)[k - 1]'(by omega)=l[k - 1]:=by
    rw [List.getElem_append_left (by simp;omega),List.getElem_take]
   rw [e1]
   have e2:(l.take k++z::l.drop k).set k l[k - 1]=l.take k++l[k - 1]::l.drop k:=by
    rw [List.set_append_right _ _ (by rw [List.length_take];omega)]
    simp [Nat.min_eq_left hk]
   have e3:l.take k=l.take (k - 1)++[l[k - 1]]:=by
    have:=List.take_add_one (l:=l) (i:=k - 1)
    rw [show k - 1+1=k by omega,List.getElem?_eq_getElem (by omega)] at this
    exact this
   have e4:l.drop (k - 1)=l[k - 1]::l.drop k:=by
    have:=List.drop_eq_getElem_cons (l:=l) (i:=k - 1) (by omega)
    rw [show k - 1+1=k by omega] at this
    exact this
   simp only [Prod.mk.injEq,and_true]
   show (l.take k++z::l.drop k).set k ⟨l[k - 1].F,l[k - 1].B,l[k - 1].To⟩=_
   rw [show (⟨l[k - 1].F,l[k - 1].B,l[k - 1].To⟩:Edge)=l[k - 1] from rfl,e2,e3,e4,List.append_assoc];rfl
  ·obtain rfl:k=a:=by omega
   right
   rw [decide_eq_false (p:=(k:Int) < (k:Int)) (by omega),if_neg (by simp)]
   exact ⟨_,rfl,z,rfl⟩
theorem aOW (l:List Edge) (e:Edge) (h:l.length < 1000000000) (hs:SE l):∃ l',aHN l e=some l'/\SE l'/\(∀ x,x∈l'<->x=e\/x∈l)/\l'.length<=l.length+1:=by
 unfold aHN
 obtain ⟨a,h1,ha,hge,hlt⟩:=put_find l e h
 rw [h1,aA]
 have hbefore:∀ x∈l.take a,bK x e=true\/x=e:=fun x hx=>by
  obtain ⟨j,hj,rfl⟩:=List.getElem_of_mem hx
  rw [List.length_take] at hj
  rw [List.getElem_take]
  have hla:l[a - 1]?=some (l[a - 1]'(by omega)):=List.getElem?_eq_getElem (by omega)
  have hf:=hlt _ (by omega) hla
  have hle:bK l[a - 1] e=true\/l[a - 1]=e:=by
   rcases aLo l[a - 1] e with g|g|g
   ·exact .inl g
   ·exact .inr g
   ·rw [g] at hf;cases hf
  by_cases e1:j=a - 1
  ·subst e1;exact hle
  ·have hp:=List.pairwise_iff_getElem.1 hs j (a - 1) (by omega) (by omega) (by omega)
   rcases hle with g|g
   ·exact .inl (aCw hp g)
   ·rw [g] at hp;exact .inl hp
 have hafter:∀ x∈l.drop a,bK e x=true:=fun x hx=>by
  obtain ⟨j,hj,rfl⟩:=List.getElem_of_mem hx
  rw [List.length_drop] at hj
  exact hge (a+j) _ (by omega) (by rw [List.getElem_drop];exact List.getElem?_eq_getElem (by omega))
 have hput:e∉l->∃ l',aAV l e (a:Int) false=some l'/\SE l'/\(∀ x,x∈l'<->x=e\/x∈l)/\l'.length<=l.length+1:=fun hne=>by
  unfold aAV
  rw [if_neg (by simp),bX (by simp [hX];omega),aA]
  have hk1:wr (((l++([⟨0,0,0⟩]:List Edge)).length:Int) - 1)=(l.length:Int):=by
   simp only [List.length_append,List.length_cons,List.length_nil]
   rw [dE (by omega) (by omega)];omega
  rw [hk1]
  obtain ⟨z,hz⟩:=put_shift l a ha h
  rw [hz,aA]
  unfold aFh
  have hl:(l.take a++z::l.drop a).length=l.length+1:=by simp;omega
  rw [aX (by omega),aA,vO _ (by omega),aA]
  have e2:(l.take a++z::l.drop a).set a (⟨e.F,e.B,e.To⟩:Edge)=l.take a++e::l.drop a:=by
   rw [List.set_append_right _ _ (by rw [List.length_take];omega)]
   simp [Nat.min_eq_left ha]
  rw [e2]
  refine ⟨_,rfl,?_,fun x=>?_,by simp;omega⟩
  ·have hs':(l.take a++l.drop a).Pairwise fun a b=>bK a b=true:=by rw [List.take_append_drop];exact hs
   rw [List.pairwise_append] at hs'
   unfold SE
   rw [List.pairwise_append,List.pairwise_cons]
   refine ⟨hs'.1,⟨hafter,hs'.2.1⟩,fun x hx y hy=>?_⟩
   have hxe:bK x e=true:=by
    rcases hbefore x hx with g|g
    ·exact g
    ·subst g;exact absurd (List.mem_of_mem_take hx) hne
   rcases List.mem_cons.1 hy with rfl|hy
   ·exact hxe
   ·exact aCw hxe (hafter y hy)
  ·rw [List.mem_append,List.mem_cons]
   conv=>rhs;rw [←List.take_append_drop a l,List.mem_append]
   constructor
   ·rintro (g|g|g)<;>simp [g]
   ·rintro (g|g|g)<;>simp [g]
 unfold aFi
 by_cases h0:0 < a
 ·have hk1:wr ((a:Int) - 1)=((a - 1:Nat):Int):=by rw [dE (by omega) (by omega)];omega
  rw [decide_eq_true (p:=(0:Int) < (a:Int)) (by omega),if_pos rfl,hk1,aX (xs:=l) (k:=a - 1) (by omega),aA]
  by_cases he:l[a - 1]=e
  ·rw [decide_eq_true he]
   refine ⟨l,rfl,hs,fun x=>⟨.inr,?_⟩,by omega⟩
   rintro (rfl|hx)
   ·rw [←he];exact List.getElem_mem _
   ·exact hx
  ·rw [decide_eq_false he]
   refine hput fun hm=>?_
   rw [←List.take_append_drop a l,List.mem_append] at hm
   rcases hm with hm|hm
   ·obtain ⟨j,hj,hje⟩:=List.getElem_of_mem hm
    rw [List.length_take] at hj
    rw [List.getElem_take] at hje
    by_cases e1:j=a - 1
    ·subst e1;exact he hje
    ·have hp:=List.pairwise_iff_getElem.1 hs j (a - 1) (by omega) (by omega) (by omega)
     rw [hje] at hp
     have:=hlt _ h0 (List.getElem?_eq_getElem (by omega))
     rw [hp] at this;cases this
   ·have:=hafter e hm
    rw [aEU] at this;cases this
 ·rw [decide_eq_false (p:=(0:Int) < (a:Int)) (by omega),if_neg (by simp)]
  refine hput fun hm=>?_
  obtain rfl:a=0:=by omega
  have:=hafter e (by simpa using hm)
  rw [aEU] at this;cases this
theorem aTb {xs:List aH} (h:pW xs):aCp xs=some xs:=by
 obtain ⟨h1,h12,h0,hk⟩:=h
 unfold aCp
 rw [show ([([116,97,117]:aH)]:List aH)=[bL] from rfl]
 have:=rV (step:=fun s:List aH × Int=>jJ xs s.1 s.2) xs.length (fun k (_:Unit)=>(if k=0 then [bL] else xs.take k,(k:Int))) (fun _ _=>xs) (fun _ _=>True) (fun k a hk' _=>?_) (fun a _=>?_) xs.length 0 () (by omega) trivial
 ·rw [show ((0:Nat):Int)=0 from rfl,if_pos rfl] at this
  rw [this];rfl
 ·left
  refine ⟨(),?_,trivial,rfl⟩
  have hw1:=aQ hk' (show xs.length < 4611686018427387904 by omega)
  show jJ xs (if k=0 then [bL] else xs.take k) (k:Int)=some (.inl (if k+1=0 then [bL] else xs.take (k+1),((k+1:Nat):Int)))
  rw [if_neg (show ¬ k+1=0 by omega)]
  by_cases hk0:k=0
  ·subst hk0
   have e0:=h0 (by omega)
   rw [if_pos rfl]
   simp only [jJ,aV hk',if_pos,aX hk',aA,e0]
   rw [show yE [bL] bL=some 0 from by rw [aAR _ _ (by simp)];rfl,aA,if_pos (by decide)]
   unfold qZ
   rw [hw1]
   rw [show xs.take (0+1)=[bL] from by rw [List.take_add_one,List.getElem?_eq_getElem (by omega),e0];rfl]
  ·rw [if_neg hk0]
   have hn:xs[k]∉xs.take k:=fun hm=>by
    obtain ⟨j,hj,hje⟩:=List.getElem_of_mem hm
    rw [List.length_take] at hj
    rw [List.getElem_take] at hje
    have:=aJZ (xs:=xs) ⟨h1,h12,h0,hk⟩ (i:=j) (j:=k) (by omega) hk' hje
    omega
   have hlt:(xs.take k).length=k:=by rw [List.length_take];omega
   simp only [jJ,aV hk',if_pos,aX hk',aA]
   rw [aAR _ _ (by omega),aA,aLR hn,if_neg (by decide)]
   have hfind:loop (fun s:Int=>mO (xs.take k) xs[k] s) 1=some (k:Int):=by
    have:=rV (step:=fun s:Int=>mO (xs.take k) xs[k] s) k (fun i (_:Unit)=>(i:Int)) (fun _ _=>(k:Int)) (fun i _=>1<=i) (fun i a hi h1i=>?_) (fun a _=>?_) (k - 1) 1 () (by omega) (Nat.le_refl _)
    ·exact this
    ·left
     refine ⟨(),?_,by omega,rfl⟩
     have hi':i < (xs.take k).length:=by omega
     have hl:=aPV (xs:=xs) ⟨h1,h12,h0,hk⟩ (i:=i) (j:=k) h1i hi hk'
     simp only [mO]
     rw [aV hi',if_pos rfl,aX hi',aA,List.getElem_take,hl]
     unfold yF
     rw [if_pos rfl,aQ hi (show k < 4611686018427387904 by omega)]
    ·simp only [mO]
     rw [show decide ((k:Int) < ((xs.take k).length:Int))=false from decide_eq_false (by omega),if_neg (by simp)];rfl
   rw [hfind,aA]
   unfold aBr
   rw [bX (by simp [hX];omega),aA]
   have hk1:wr (((xs.take k++([([]:aH)]:List aH)).length:Int) - 1)=(k:Int):=by
    simp only [List.length_append,List.length_cons,List.length_nil,hlt]
    rw [dE (by omega) (by omega)];omega
   rw [hk1,bA]
   have:uL (k:Int) (xs.take k++[([]:aH)]) (k:Int)=some (.inr (xs.take k++[([]:aH)])):=by
    unfold uL
    rw [show decide ((k:Int) < (k:Int))=false from decide_eq_false (by omega)];rfl
   simp only [this]
   rw [aA]
   unfold aBq qZ
   rw [aX (by simp;omega),aA,vO _ (by simp;omega),aA,hw1]
   have e2:(xs.take k++[([]:aH)]).set k xs[k]=xs.take (k+1):=by
    rw [List.set_append_right _ _ (by omega),hlt,Nat.sub_self,List.take_add_one,List.getElem?_eq_getElem hk'];rfl
   rw [e2]
 ·rw [if_neg (by omega),List.take_length]
  simp only [jJ,aS];rfl
theorem aKb {xs:List aH} (h:pW xs) {k:Nat} (hk:k < xs.length):pos xs xs[k]=(k:Int):=by
 obtain ⟨i,hi,e,g⟩:=mS (List.getElem_mem hk)
 have:=aJZ h hi hk g
 omega
theorem aTc {labels:List aH} (hL:pW labels) {edges EE:List Edge} (hlen:edges.length < 1000000) (hin:∀ e∈edges,0<=e.B/\e.B < labels.length) (hEE:SE EE) (hm:∀ e,e∈edges<->e∈EE) (st ini:Int):
  qG st ini labels edges=some ⟨st,ini,labels,EE⟩:=by
 unfold qG
 rw [aTb hL,aA]
 have key:=dZ (step:=fun s:List Edge × Int=>mP labels edges labels s.1 s.2) edges.length (fun k (a:List Edge)=>(a,(k:Int))) (fun k a=>SE a/\(∀ x,x∈a<->x∈edges.take k)/\a.length<=k)
  (fun x=>x=EE) (fun k a hk hI=>?_) (fun a hI=>?_) edges.length 0 [] (by omega) ⟨List.Pairwise.nil,by simp,by simp⟩
 ·obtain ⟨x,hx,hx2⟩:=key
  have hx':loop (fun s:List Edge × Int=>mP labels edges labels s.1 s.2) (([]:List Edge),0)=some x:=hx
  rw [hx',aA,hx2];rfl
 ·obtain ⟨hs,hmem,hl⟩:=hI
  have hi:=hin _ (List.getElem_mem hk)
  simp only [mP,aV hk,if_pos,aX hk,aA]
  have h12:=hL.2.1
  rw [aOr hi.1 (show edges[k].B.toNat < labels.length by omega),aA,aAR _ _ (by omega),aA,aKb hL]
  rw [show (⟨edges[k].F,((edges[k].B.toNat:Nat):Int),edges[k].To⟩:Edge)=edges[k] from by
   have:((edges[k].B.toNat:Nat):Int)=edges[k].B:=by omega
   rw [this]]
  obtain ⟨l',h1,h2,h3,h4⟩:=aOW a edges[k] (by omega) hs
  rw [h1,aA]
  refine ⟨l',by rw [aQ hk (show edges.length < 4611686018427387904 by omega)],h2,fun x=>?_,by omega⟩
  rw [h3,hmem,List.take_add_one,List.getElem?_eq_getElem hk,List.mem_append]
  simp only [Option.toList_some,List.mem_singleton]
  constructor
  ·rintro (g|g)<;>simp [g]
  ·rintro (g|g)<;>simp [g]
 ·obtain ⟨hs,hmem,hl⟩:=hI
  rw [List.take_length] at hmem
  refine ⟨a,by simp only [mP,aS];rfl,?_⟩
  exact aAQ (R:=fun a b=>bK a b=true) (fun a h=>by rw [aEU] at h;cases h) (fun h1 h2=>aCw h1 h2) hs hEE fun x=>(hmem x).trans (hm x)
end Gv
namespace Gv
open Go
variable {p:aO} {r:aP}
theorem aCx {α:Type} [BEq α] [LawfulBEq α] {xs:List α} (h:xs.Nodup) {j:Nat} {q:α} (hj:xs[j]?=some q):pos xs q=(j:Int):=by
 obtain ⟨hl,e⟩:=List.getElem?_eq_some_iff.1 hj
 obtain ⟨i,hi,e1,e2⟩:=mS (List.mem_of_getElem? hj)
 have:=(List.getElem_inj h).1 (e2.trans e.symm)
 omega
theorem uU {α:Type} [BEq α] [LawfulBEq α] {xs:List α} {q:α} (h:q∈xs):∃ j:Nat,pos xs q=(j:Int)/\xs[j]?=some q:=by
 obtain ⟨i,hi,e1,e2⟩:=mS h
 exact ⟨i,e1,by rw [List.getElem?_eq_getElem hi,e2]⟩
def kq:List (Int × Int)->List Bool->List (Int × Int)
 |q::F,b::bs=>if b=true then q::kq F bs else kq F bs
 |_,_=>[]
theorem aIg:∀ (F:List (Int × Int)) (bs:List Bool),(kq F bs).Sublist F
 |[],bs=>by cases bs<;>exact List.Sublist.refl _
 |q::F,[]=>List.nil_sublist _
 |q::F,b::bs=>by
  unfold kq
  split
  ·exact (aIg F bs).cons_cons q
  ·exact (aIg F bs).cons q
theorem kq_mem:∀ {F:List (Int × Int)} {bs:List Bool} {q:Int × Int},q∈kq F bs<->∃ i:Nat,F[i]?=some q/\bs[i]?=some true
 |[],bs,q=>by cases bs<;>simp [kq]
 |a::F,[],q=>by simp [kq]
 |a::F,b::bs,q=>by
  have ih:=kq_mem (F:=F) (bs:=bs) (q:=q)
  unfold kq
  constructor
  ·intro h
   split at h
   ·rename_i hb
    rcases List.mem_cons.1 h with rfl|h
    ·exact ⟨0,rfl,by simp [hb]⟩
    ·obtain ⟨i,h1,h2⟩:=ih.1 h
     exact ⟨i+1,by simpa using h1,by simpa using h2⟩
   ·obtain ⟨i,h1,h2⟩:=ih.1 h
    exact ⟨i+1,by simpa using h1,by simpa using h2⟩
  ·rintro ⟨i,h1,h2⟩
   cases i with
   |zero=>
    simp at h1 h2
    subst h1 h2
    simp
   |succ i=>
    have:=ih.2 ⟨i,by simpa using h1,by simpa using h2⟩
    split
    ·exact List.mem_cons_of_mem _ this
    ·exact this
theorem aNu {F:List (Int × Int)} (hF:F.Nodup) {bs:List Bool} {i:Nat} {q:Int × Int} (hi:F[i]?=some q):q∈kq F bs<->bs[i]?=some true:=by
 rw [kq_mem]
 constructor
 ·rintro ⟨j,h1,h2⟩
  obtain ⟨hj,e1⟩:=List.getElem?_eq_some_iff.1 h1
  obtain ⟨hl,e2⟩:=List.getElem?_eq_some_iff.1 hi
  obtain rfl:=(List.getElem_inj hF).1 (e1.trans e2.symm)
  exact h2
 ·exact fun h=>⟨i,hi,h⟩
theorem kq_all:∀ (F:List (Int × Int)),kq F (List.replicate F.length true)=F
 |[]=>rfl
 |q::F=>by simp only [List.length_cons,List.replicate_succ,kq,if_true,kq_all F]
def sucK (p:aO) (r:aP) (K:List (Int × Int)) (q:Int × Int):List (Int × Int × Int):=(sK p r q (bG p q)).filter fun x=>decide (x.2∈K)
def edK (p:aO) (r:aP) (K:List (Int × Int)):Nat->List (Int × Int)->List Edge
 |_,[]=>[]
 |i,q::l=>(sucK p r K q).map (fun x=>⟨(i:Int),x.1,pos K x.2⟩)++edK p r K (i+1) l
def EK (p:aO) (r:aP) (K:List (Int × Int)):List Edge:=edK p r (eG K) 0 (eG K)
def fV (p:aO) (r:aP) (K:List (Int × Int)):aP:=⟨((eG K).length:Int),pos (eG K) (p.S.I,r.I),p.S.L,EK p r K⟩
theorem aRD {K:List (Int × Int)} {q:Int × Int} {x:Int × Int × Int}:x∈sucK p r K q<->x∈sK p r q (bG p q)/\x.2∈K:=by
 unfold sucK;rw [List.mem_filter,decide_eq_true_iff]
theorem aNw (p:aO) (r:aP) (K:List (Int × Int)) (q:Int × Int):(sucK p r K q).length<=(sK p r q (bG p q)).length:=List.length_filter_le _ _
theorem aQh {K:List (Int × Int)} {e:Edge}:∀ {i:Nat} {l:List (Int × Int)},e∈edK p r K i l<->∃ (j:Nat) (q:Int × Int) (x:Int × Int × Int),l[j]?=some q/\x∈sucK p r K q/\e=⟨((i+j:Nat):Int),x.1,pos K x.2⟩
 |i,[]=>by simp [edK]
 |i,q::l=>by
  unfold edK
  rw [List.mem_append,List.mem_map,aQh (i:=i+1) (l:=l)]
  constructor
  ·rintro (⟨x,hx,rfl⟩|⟨j,q',x,hj,hx,rfl⟩)
   ·exact ⟨0,q,x,rfl,hx,rfl⟩
   ·exact ⟨j+1,q',x,by simpa using hj,hx,by rw [show i+(j+1)=i+1+j by omega]⟩
  ·rintro ⟨j,q',x,hj,hx,rfl⟩
   cases j with
   |zero=>
    simp at hj;subst hj
    exact .inl ⟨x,hx,rfl⟩
   |succ j=>exact .inr ⟨j,q',x,by simpa using hj,hx,by rw [show i+(j+1)=i+1+j by omega]⟩
theorem edK_from {K:List (Int × Int)} {i:Nat} {l:List (Int × Int)} {e:Edge} (h:e∈edK p r K i l):(i:Int)<=e.F:=by
 obtain ⟨j,_,_,_,_,rfl⟩:=aQh.1 h
 simp only;omega
theorem aNx (hp:bB p.S) (K:List (Int × Int)):∀ (i:Nat) (l:List (Int × Int)),(edK p r K i l).Pairwise uE
 |_,[]=>List.Pairwise.nil
 |i,q::l=>by
  unfold edK
  rw [List.pairwise_append]
  refine ⟨?_,aNx hp K (i+1) l,fun a ha b hb=>?_⟩
  ·rw [List.pairwise_map]
   exact ((aRB (outE_pair hp q)).filter _).imp fun h=>.inr ⟨rfl,h⟩
  ·obtain ⟨x,_,rfl⟩:=List.mem_map.1 ha
   have:=edK_from hb
   exact .inl (by simp only;omega)
theorem aQi (hp:aT p.S) (K:List (Int × Int)):∀ (i:Nat) (l:List (Int × Int)),(edK p r K i l).length<=300 * l.length
 |_,[]=>by simp [edK]
 |i,q::l=>by
  have h1:=aLS p r q (bG p q)
  have h2:=uF hp q
  have h3:=aNw p r K q
  have h4:=aQi hp K (i+1) l
  simp only [edK,List.length_append,List.length_map,List.length_cons];omega
theorem aFK {K:List (Int × Int)} (hK:K.Nodup) {e:Edge}:e∈EK p r K<->∃ (q:Int × Int) (x:Int × Int × Int),q∈K/\x∈sK p r q (bG p q)/\x.2∈K/\e=⟨pos (eG K) q,x.1,pos (eG K) x.2⟩:=by
 unfold EK
 rw [aQh]
 constructor
 ·rintro ⟨j,q,x,hj,hx,rfl⟩
  obtain ⟨h1,h2⟩:=aRD.1 hx
  exact ⟨q,x,oR.1 (List.mem_of_getElem? hj),h1,oR.1 h2,by rw [aCx (aNp hK) hj,Nat.zero_add]⟩
 ·rintro ⟨q,x,hq,hx,hk,rfl⟩
  obtain ⟨j,h1,h2⟩:=uU (oR.2 hq)
  exact ⟨j,q,x,h2,aRD.2 ⟨hx,oR.2 hk⟩,by rw [h1,Nat.zero_add]⟩
theorem EK_SE (hp:bB p.S) (K:List (Int × Int)):SE (EK p r K):=(aNx hp (eG K) 0 (eG K)).imp fun h=>aOU h
theorem aGv (hp:aT p.S) {q:Int × Int} {x:Int × Int × Int} (h:x∈sK p r q (bG p q)):0<=x.1/\x.1 < p.S.L.length:=by
 obtain ⟨e,he,hl⟩:=aQe h
 have:=(eB hp (pX _ he)).2.2
 omega
theorem foldO {F:List (Int × Int)}:∀ {Q:List (Int × Int)},(Q.Pairwise fun a b=>qLt a b=true)->((F.foldl aIB Q).Pairwise fun a b=>qLt a b=true)/\(∀ x,x∈F.foldl aIB Q<->x∈F\/x∈Q):=by
 induction F with
 |nil=>intro Q h;exact ⟨h,by simp⟩
 |cons q F ih=>
  intro Q h
  obtain ⟨h1,h2⟩:=ih (aLn (q:=q) h)
  refine ⟨h1,fun x=>?_⟩
  rw [List.foldl_cons,h2,aNs,List.mem_cons]
  constructor
  ·rintro (g|g|g)<;>simp [g]
  ·rintro ((g|g)|g)<;>simp [g]
theorem foldO_ord {F:List (Int × Int)} (h:F.Nodup):F.foldl aIB []=eG F:=by
 obtain ⟨h1,h2⟩:=foldO (F:=F) (Q:=[]) List.Pairwise.nil
 exact aAQ (R:=fun a b=>qLt a b=true) (fun a h=>by rw [aHa] at h;cases h) (fun h1 h2=>aNo h1 h2) h1 (aRz h) fun x=>by rw [h2,oR];simp
theorem aRE (F:List (Int × Int)) (keep:List Bool) (hk:keep.length=F.length) (h:F.length<=1600):loop (fun s:List (List Int) × Int=>iJ (F.map R2) keep s.1 s.2) (([]:List (List Int)),0)=some (((kq F keep).foldl aIB []).map R2):=by
 have:=rV (step:=fun s:List (List Int) × Int=>iJ (F.map R2) keep s.1 s.2) F.length (fun k (Q:List (Int × Int))=>(Q.map R2,(k:Int))) (fun k Q=>((kq (F.drop k) (keep.drop k)).foldl aIB Q).map R2) (fun k Q=>Q.length<=k)
  (fun k Q hk' hI=>?_) (fun Q hI=>by simp only [iJ,List.length_map,aS];simp [kq]) F.length 0 [] (by omega) (by simp)
 ·exact this
 ·left
  have hx':ix (F.map R2) (k:Int)=some (R2 F[k]):=by rw [lR];simp [hk']
  have hkeep:ix keep (k:Int)=some keep[k]:=by rw [lR,List.getElem?_eq_getElem]
  rw [List.drop_eq_getElem_cons hk',List.drop_eq_getElem_cons (show k < keep.length by omega)]
  simp only [iJ,List.length_map,aV hk',if_pos,hkeep,aA,hx',kq]
  by_cases hb:keep[k]=true
  ·rw [if_pos hb,if_pos hb,aQg _ _ (by omega),aA]
   unfold iI
   rw [aQ hk' (show F.length < 4611686018427387904 by omega)]
   exact ⟨aIB Q F[k],rfl,by have:=aNt F[k] Q;omega,rfl⟩
  ·rw [if_neg hb,if_neg hb]
   unfold iI
   rw [aQ hk' (show F.length < 4611686018427387904 by omega)]
   exact ⟨Q,rfl,by omega,rfl⟩
theorem aRF (F O:List (Int × Int)) (keep:List Bool) (hk:keep.length=F.length) (ed:List Edge) (hO:O.length<=1600) (hed:ed.length < 1000000) (g:Edge->Edge) (hg:∀ e∈ed,∃ (i j:Nat) (a b:Int × Int),e.F=(i:Int)/\e.To=(j:Int)/\F[i]?=some a/\F[j]?=some b/\g e=⟨pos O a,e.B,pos O b⟩):
  loop (fun s:List Edge × Int=>dN (F.map R2) ed keep (O.map R2) s.1 s.2) (([]:List Edge),0)=some ((ed.filter fun e=>keep.getD e.F.toNat false&&keep.getD e.To.toNat false).map g):=by
 have:=jY (step:=fun s:List Edge × Int=>dN (F.map R2) ed keep (O.map R2) s.1 s.2) ed (fun k (a:List Edge)=>(a,(k:Int))) (fun l a=>a++(l.filter fun e=>keep.getD e.F.toNat false&&keep.getD e.To.toNat false).map g) (fun k a=>a.length<=k) (fun k out x l hk' hx hI=>?_) (fun out hI=>by simp only [dN,aS];simp) (a:=[]) (by simp)
 ·have this':loop (fun s:List Edge × Int=>dN (F.map R2) ed keep (O.map R2) s.1 s.2) (([]:List Edge),0)=_:=this
  rw [this',List.nil_append]
 ·obtain ⟨hk2,rfl⟩:=oW hx
  left
  obtain ⟨i,j,a,b,e1,e2,f1,f2,hge⟩:=hg _ (List.getElem_mem hk2)
  have hil:=(List.getElem?_eq_some_iff.1 f1).1
  have hjl:=(List.getElem?_eq_some_iff.1 f2).1
  have k1:ix keep (i:Int)=some keep[i]:=by rw [lR,List.getElem?_eq_getElem]
  have k2:ix keep (j:Int)=some keep[j]:=by rw [lR,List.getElem?_eq_getElem]
  have r1:ix (F.map R2) (i:Int)=some (R2 a):=by rw [lR,List.getElem?_map,f1];rfl
  have r2:ix (F.map R2) (j:Int)=some (R2 b):=by rw [lR,List.getElem?_map,f2];rfl
  have hrow:∀ q,aBA (O.map R2) (R2 q)=some (pos O q):=fun q=>by rw [aKK _ _ (by simp;omega) (fun x hx=>by obtain ⟨y,_,rfl⟩:=List.mem_map.1 hx;simp [R2]),aQb]
  have c1:keep.getD (ed[k]).F.toNat false=keep[i]:=by rw [e1,Int.toNat_natCast,List.getD_eq_getElem?_getD,List.getElem?_eq_getElem (show i < keep.length by omega)];rfl
  have c2:keep.getD (ed[k]).To.toNat false=keep[j]:=by rw [e2,Int.toNat_natCast,List.getD_eq_getElem?_getD,List.getElem?_eq_getElem (show j < keep.length by omega)];rfl
  rw [List.filter_cons,c1,c2]
  by_cases h1:keep[i]=true
  ·by_cases h2:keep[j]=true
   ·rw [h1,h2]
    refine ⟨out++[g ed[k]],?_,?_,?_⟩
    rotate_left
    ·simp;omega
    ·simp
    simp only [dN,aV hk2,if_pos,hx,aA,e1,e2,k1,k2,h1,h2,fJ,r1,r2,hrow]
    have hI':out.length<=k:=hI
    have hl:out.length+1<=hX:=by unfold hX;omega
    rw [bX hl,aA]
    unfold fI
    rw [aQ hk2 (show ed.length < 4611686018427387904 by omega),hge]
   ·have h2:keep[j]=false:=by simpa using h2
    rw [h1,h2]
    refine ⟨out,?_,Nat.le_succ_of_le hI,by simp⟩
    simp only [dN,aV hk2,if_pos,hx,aA,e1,e2,k1,k2,h1,h2,fJ]
    simp [fI,aQ hk2 (show ed.length < 4611686018427387904 by omega)]
  ·have h1:keep[i]=false:=by simpa using h1
   rw [h1]
   refine ⟨out,?_,Nat.le_succ_of_le hI,by simp⟩
   simp only [dN,aV hk2,if_pos,hx,aA,e1,e2,k1,k2,h1,fJ]
   simp [fI,aQ hk2 (show ed.length < 4611686018427387904 by omega)]
theorem R2_rows {F:List (Int × Int)}:∀ x∈F.map R2,x.length < 1000000000:=fun x hx=>by obtain ⟨y,_,rfl⟩:=List.mem_map.1 hx;simp [R2]
theorem aBj (hp:aT p.S) (hr:aT r):(bE p r).1.length<=1600:=(aCc hp hr).len hp hr
theorem aKc (hp:bB p.S) (hr:bB r):∀ e∈(bE p r).2,∃ (q:Int × Int) (x:Int × Int × Int) (i j:Nat),(bE p r).1[i]?=some q/\x∈sK p r q (bG p q)/\(bE p r).1[j]?=some x.2/\e=⟨(i:Int),x.1,(j:Int)⟩:=fun e he=>by
 rw [aGt hp.1 hr.1] at he
 obtain ⟨i,q,x,hi,hx,rfl⟩:=aKL.1 he
 have hq:=List.mem_of_getElem? hi
 obtain ⟨j,e1,e2⟩:=uU (pY hp.1 hr.1 hq x hx)
 exact ⟨q,x,i,j,hi,hx,e2,by rw [e1,Nat.zero_add]⟩
theorem aQj (hp:bB p.S) (hr:bB r) {q:Int × Int} {x:Int × Int × Int} {i j:Nat} (hi:(bE p r).1[i]?=some q) (hx:x∈sK p r q (bG p q)) (hj:(bE p r).1[j]?=some x.2):(⟨(i:Int),x.1,(j:Int)⟩:Edge)∈(bE p r).2:=by
 rw [aGt hp.1 hr.1,aKL]
 exact ⟨i,q,x,hi,hx,by rw [aCx (aCc hp.1 hr.1).1 hj,Nat.zero_add]⟩
theorem aRG (hp:bB p.S) (hr:bB r):(bE p r).2.length < 1000000:=by
 rw [aGt hp.1 hr.1,aIs]
 have:∀ l:List (Int × Int),(l.map fun q=>(sK p r q (bG p q)).length).sum<=300 * l.length:=fun l=>by
  induction l with
  |nil=>simp
  |cons q l ih=>
   have h1:=aLS p r q (bG p q)
   have h2:=uF hp.1 q
   simp only [List.map_cons,List.sum_cons,List.length_cons];omega
 have:=this (bE p r).1
 have:=aBj hp.1 hr.1
 omega
theorem build_eq (hp:bB p.S) (hr:bB r) (b:Bool) (keep:List Bool) (hk:keep.length=(bE p r).1.length):oJ p r ((bE p r).1.map R2) (bE p r).2 b keep=some (fV p r (kq (bE p r).1 keep),(eG (kq (bE p r).1 keep)).map R2):=by
 have hW:=aCc hp.1 hr.1
 have hF:=aBj hp.1 hr.1
 have hsub:=aIg (bE p r).1 keep
 have hKn:(kq (bE p r).1 keep).Nodup:=hsub.nodup hW.1
 have hO:(eG (kq (bE p r).1 keep)).length<=1600:=by rw [aIf];exact Nat.le_trans hsub.length_le hF
 have hlen:=aRG hp hr
 unfold oJ
 rw [aRE _ keep hk hF,aA,foldO_ord hKn]
 unfold kP
 have hf:=aKc hp hr
 generalize hO':eG (kq (bE p r).1 keep)=O at hO
 let g:Edge->Edge:=fun e=>⟨pos O ((bE p r).1.getD e.F.toNat (0,0)),e.B,pos O ((bE p r).1.getD e.To.toNat (0,0))⟩
 have hgv:∀ {i j:Nat} {a b:Int × Int} {n:Int},(bE p r).1[i]?=some a->(bE p r).1[j]?=some b->g ⟨(i:Int),n,(j:Int)⟩=⟨pos O a,n,pos O b⟩:=fun h1 h3=>by
  simp only [g,Int.toNat_natCast,List.getD_eq_getElem?_getD,h1,h3,Option.getD_some]
 have hg:∀ e∈(bE p r).2,∃ (i j:Nat) (a b:Int × Int),e.F=(i:Int)/\e.To=(j:Int)/\(bE p r).1[i]?=some a/\(bE p r).1[j]?=some b/\g e=⟨pos O a,e.B,pos O b⟩:=fun e he=>by
  obtain ⟨q,x,i,j,h1,h2,h3,rfl⟩:=hf e he
  exact ⟨i,j,q,x.2,rfl,rfl,h1,h3,hgv h1 h3⟩
 rw [aRF (bE p r).1 O keep hk (bE p r).2 hO hlen g hg,aA]
 unfold kO
 rw [show ix ((bE p r).1.map R2) 0=some (R2 (p.S.I,r.I)) from by
  rw [show (0:Int)=((0:Nat):Int) from rfl,lR,List.getElem?_map,aGu];rfl,aA]
 rw [aKK _ _ (by simp;omega) R2_rows,aA,aQb]
 simp only [List.length_map]
 have hkd:∀ {i:Nat} {q:Int × Int},(bE p r).1[i]?=some q->(keep.getD i false=true<->q∈kq (bE p r).1 keep):=fun {i q} hi=>by
  rw [aNu hW.1 hi,List.getD_eq_getElem?_getD]
  cases keep[i]?<;>simp
 have hmem:∀ e,e∈((bE p r).2.filter fun e=>keep.getD e.F.toNat false&&keep.getD e.To.toNat false).map g<->e∈EK p r (kq (bE p r).1 keep):=fun e=>by
  rw [List.mem_map,aFK hKn,hO']
  constructor
  ·rintro ⟨e0,he0,rfl⟩
   obtain ⟨h0,hc⟩:=List.mem_filter.1 he0
   obtain ⟨q,x,i,j,h1,h2,h3,rfl⟩:=hf e0 h0
   simp only [Int.toNat_natCast,Bool.and_eq_true] at hc
   exact ⟨q,x,(hkd h1).1 hc.1,h2,(hkd h3).1 hc.2,hgv h1 h3⟩
  ·rintro ⟨q,x,hq,hx,hx2,rfl⟩
   obtain ⟨i,_,h1⟩:=uU (hsub.subset hq)
   obtain ⟨j,_,h3⟩:=uU (hsub.subset hx2)
   refine ⟨⟨(i:Int),x.1,(j:Int)⟩,List.mem_filter.2 ⟨aQj hp hr h1 hx h3,?_⟩,hgv h1 h3⟩
   simp only [Int.toNat_natCast,Bool.and_eq_true]
   exact ⟨(hkd h1).2 hq,(hkd h3).2 hx2⟩
 rw [aTc hp.1.2.2.1 (by rw [List.length_map];exact Nat.lt_of_le_of_lt (List.length_filter_le _ _) hlen) (fun e he=>by
  obtain ⟨q,x,_,hx,_,rfl⟩:=(aFK hKn).1 ((hmem e).1 he)
  exact aGv hp.1 hx) (EK_SE hp _) hmem,aA]
 subst hO'
 rfl
end Gv
namespace Gv
open Go
variable {p:aO} {r:aP}
theorem pW.cons {xs:List aH} (h:pW xs):∃ L,xs=bL::L/\rW L:=by
 obtain ⟨h1,h12,h0,hk⟩:=h
 cases xs with
 |nil=>simp at h1
 |cons a L=>
  have e:=h0 (by simp)
  simp only [List.getElem_cons_zero] at e
  subst e
  refine ⟨L,rfl,List.pairwise_iff_getElem.2 fun i j hi hj hij=>?_,fun hm=>?_⟩
  ·have:=aPV (xs:=bL::L) ⟨h1,h12,h0,hk⟩ (i:=i+1) (j:=j+1) (by omega) (by omega) (by simp;omega)
   simpa using this
  ·obtain ⟨j,hj,e⟩:=List.getElem_of_mem hm
   have:=(hk (j+1) (by omega) (by simp;omega)).2.1
   simp only [List.getElem_cons_succ] at this
   exact this e
theorem txt_cons {L:List aH} (hL:p.S.L=bL::L) {e:Edge} (h:1<=e.B):kC p.S e=L.getD (e.B - 1).toNat []:=by
 unfold kC
 rw [hL,show e.B.toNat=(e.B - 1).toNat+1 by omega]
 simp
theorem aNy (hp:bB p.S) {q:Int × Int} {x:Int × Int × Int} (h:x∈sK p r q (bG p q)):1<=x.1:=by
 obtain ⟨e,he,hl⟩:=aQe h
 have hm:=pX _ he
 have h0:=(eB hp.1 hm).2.2.1
 obtain ⟨k,hk,rfl⟩:=List.getElem_of_mem hm
 have:=(hp.2 k hk).1
 omega
theorem aTf (hp:bB p.S) (hr:bB r) {L:List aH} (hL:p.S.L=bL::L) (O:List (Int × Int)) (q:Int × Int) (i:Nat) {arcs:List Arc} (ha:arcs.length < 1000000) (x10:List (List Int)) (x11:List ((Int × Int) × Int)) (x12:List (List aH)):
  pO p.S.N p.S.I p.S.L p.S.E p.M p.C r.N r.I r.L r.E x10 x11 x12 (R2 q) (mq 0 O) arcs (i:Int)
   =some (arcs++((sucK p r O q).map fun x=>(⟨(i:Int),x.1,pos O x.2⟩:Edge)).map (aNj L)):=by
 unfold pO
 rw [show ix (R2 q) 0=some q.1 from rfl,aA,show (⟨p.S.N,p.S.I,p.S.L,p.S.E⟩:aP)=p.S from rfl,aGT _ _ (by have:=hp.1.2.2.2.1;omega),aA]
 rw [show (p.S.E.filter fun e=>e.F == q.1)=bG p q from rfl]
 have hol:=uF hp.1 q
 have:=jY (step:=fun s:List Arc × Int=>iZ p.S.L r.N r.I r.L r.E (R2 q) (mq 0 O) (i:Int) (bG p q) s.1 s.2) (bG p q) (fun k (a:List Arc)=>(a,(k:Int)))
  (fun l a=>a++(((sK p r q l).filter fun x=>decide (x.2∈O)).map fun x=>(⟨(i:Int),x.1,pos O x.2⟩:Edge)).map (aNj L)) (fun k a=>a.length<=arcs.length+k) (fun k a e l hk hx hI=>?_) (fun a hI=>by simp only [iZ,aS];simp [sK]) (a:=arcs) (by simp)
 ·have this':loop (fun s:List Arc × Int=>iZ p.S.L r.N r.I r.L r.E (R2 q) (mq 0 O) (i:Int) (bG p q) s.1 s.2) (arcs,0)=_:=this
  rw [this',aA];rfl
 ·obtain ⟨hk',rfl⟩:=oW hx
  left
  have he:=pX _ (List.getElem_mem hk')
  have heo:(bG p q)[k]∈bG p q:=List.getElem_mem hk'
  obtain ⟨z,hz,hzj⟩:=aES hr q.2 (kC p.S (bG p q)[k])
  have hI':a.length<=arcs.length+k:=hI
  have hl:a.length+1<=hX:=by unfold hX;omega
  have hw1:=aQ hk (show (bG p q).length < 4611686018427387904 by omega)
  simp only [iZ,aV hk,if_pos,hx,aA,show ix (R2 q) 1=some q.2 from rfl,oQ (eB hp.1 he),show (⟨r.N,r.I,r.L,r.E⟩:aP)=r from rfl,hz]
  cases haq:alo r q.2 (kC p.S (bG p q)[k]) with
  |none=>
   refine ⟨a,by simp [gH,hw1],Nat.le_succ_of_le hI',?_⟩
   simp only [sK,List.filterMap_cons,haq,Option.map_none]
  |some j=>
   obtain rfl:=hzj j haq
   have hmem:((bG p q)[k].B,(bG p q)[k].To,z)∈sK p r q (bG p q):=by
    unfold sK
    rw [List.mem_filterMap]
    exact ⟨_,heo,by rw [haq];rfl⟩
   have h1:=aNy hp hmem
   simp only at h1
   by_cases hO:((bG p q)[k].To,z)∈O
   ·refine ⟨a++[⟨(i:Int),kC p.S (bG p q)[k],pos O ((bG p q)[k].To,z)⟩],?_,by rw [List.length_append];exact Nat.succ_le_succ hI',?_⟩
    ·simp only [Option.isSome_some,if_true]
     unfold nC
     rw [aIp hO]
     simp only [Option.isSome_some,if_true,Option.getD_some]
     rw [bX hl,aA,aA]
     simp only [gH,hw1]
    ·simp only [sK,List.filterMap_cons,haq,Option.map_some,List.filter_cons,decide_eq_true hO,if_true,List.map_cons,List.append_assoc,List.cons_append,List.nil_append]
     rw [show aNj L (⟨(i:Int),(bG p q)[k].B,pos O ((bG p q)[k].To,z)⟩:Edge)=⟨(i:Int),kC p.S (bG p q)[k],pos O ((bG p q)[k].To,z)⟩ from by
      unfold aNj;rw [txt_cons hL h1]]
   ·refine ⟨a,?_,Nat.le_succ_of_le hI',?_⟩
    ·simp only [Option.isSome_some,if_true]
     unfold nC
     rw [aNn hO]
     simp [gH,hw1]
    ·simp only [sK,List.filterMap_cons,haq,Option.map_some,List.filter_cons,decide_eq_false hO];simp
theorem R2_nodup {F:List (Int × Int)} (h:F.Nodup):(F.map R2).Nodup:=by
 unfold List.Nodup at *
 rw [List.pairwise_map]
 exact h.imp fun h e=>h (R2_inj e)
theorem aQk (F:List (Int × Int)) (keep:List Bool) (hk:keep.length=F.length) (h:F.length<=1600):loop (fun s:List (List Int) × Int=>gS (F.map R2) keep s.1 s.2) (([]:List (List Int)),0)=some ((kq F keep).map R2):=by
 have:=rV (step:=fun s:List (List Int) × Int=>gS (F.map R2) keep s.1 s.2) F.length (fun k (Q:List (List Int))=>(Q,(k:Int))) (fun k Q=>Q++(kq (F.drop k) (keep.drop k)).map R2) (fun k Q=>Q.length<=k)
  (fun k Q hk' hI=>?_) (fun Q hI=>by simp only [gS,List.length_map,aS];simp [kq]) F.length 0 [] (by omega) (by simp)
 ·exact this
 ·left
  have hI':Q.length<=k:=hI
  have hl:Q.length+1<=hX:=by unfold hX;omega
  have hx':ix (F.map R2) (k:Int)=some (R2 F[k]):=by rw [lR];simp [hk']
  have hkeep:ix keep (k:Int)=some keep[k]:=by rw [lR,List.getElem?_eq_getElem]
  have hcl:bP (R2 F[k])=some (R2 F[k]):=by
   unfold bP
   rw [bX (by simp [hX,R2]),aA,List.nil_append]
  rw [List.drop_eq_getElem_cons hk',List.drop_eq_getElem_cons (show k < keep.length by omega)]
  simp only [gS,List.length_map,aV hk',if_pos,hkeep,aA,hx',kq,hcl]
  by_cases hb:keep[k]=true
  ·rw [if_pos hb,if_pos hb,bX hl,aA]
   unfold gR
   rw [aQ hk' (show F.length < 4611686018427387904 by omega)]
   exact ⟨Q++[R2 F[k]],rfl,by rw [List.length_append];exact Nat.succ_le_succ hI',by rw [List.map_cons,List.append_assoc];rfl⟩
  ·rw [if_neg hb,if_neg hb]
   unfold gR
   rw [aQ hk' (show F.length < 4611686018427387904 by omega)]
   exact ⟨Q,rfl,Nat.le_succ_of_le hI',rfl⟩
theorem aOX (hp:bB p.S) (hr:bB r) (M:List ((Int × Int) × Int)) (P:List (List aH)) (keep:List Bool) (hk:keep.length=(bE p r).1.length) (hi0:(p.S.I,r.I)∈kq (bE p r).1 keep):
  jU p.S.N p.S.I p.S.L p.S.E p.M p.C r.N r.I r.L r.E ((bE p r).1.map R2) M P keep=some (fV p r (kq (bE p r).1 keep),(eG (kq (bE p r).1 keep)).map R2):=by
 have hW:=aCc hp.1 hr.1
 have hF:=aBj hp.1 hr.1
 have hsub:=aIg (bE p r).1 keep
 have hKn:(kq (bE p r).1 keep).Nodup:=hsub.nodup hW.1
 unfold jU
 rw [aQk _ keep hk hF,aA]
 have hKl:(kq (bE p r).1 keep).length<=1600:=Nat.le_trans hsub.length_le hF
 clear hsub
 generalize kq (bE p r).1 keep=K at hKn hKl hi0
 have hO:(eG K).length<=1600:=by rw [aIf];exact hKl
 have hOn:=aNp hKn
 unfold nM
 have e2:aEh (K.map R2)=some ((eG K).map R2):=by
  unfold aEh
  rw [if_pos ⟨by simp [hX];omega,R2_nodup hKn,fun x hx=>by obtain ⟨y,_,rfl⟩:=List.mem_map.1 hx;simp [R2,hX]⟩,ordQ_row]
 rw [e2,aA]
 have e3:=rV (step:=fun s:List ((Int × Int) × Int) × Int=>gQ ((eG K).map R2) s.1 s.2) (eG K).length (fun k (_:Unit)=>(mq 0 ((eG K).take k),(k:Int))) (fun _ _=>mq 0 (eG K)) (fun _ _=>True) (fun k a hk _=>?_) (fun a _=>?_) (eG K).length 0 () (by omega) trivial
 ·have e3':loop (fun s:List ((Int × Int) × Int) × Int=>gQ ((eG K).map R2) s.1 s.2) (([]:List ((Int × Int) × Int)),0)=_:=e3
  rw [e3',aA]
  unfold nL
  obtain ⟨L,hL,hLs⟩:=hp.1.2.2.1.cons
  have e4:=rV (step:=fun s:List Arc × Int=>gP p.S.N p.S.I p.S.L p.S.E p.M p.C r.N r.I r.L r.E ((bE p r).1.map R2) M P ((eG K).map R2) (mq 0 (eG K)) s.1 s.2) (eG K).length (fun k (a:List Arc)=>(a,(k:Int)))
   (fun k a=>a++(edK p r (eG K) k ((eG K).drop k)).map (aNj L)) (fun k a=>a.length<=300 * k) (fun k a hk hI=>?_) (fun a _=>by simp only [gP,List.length_map,aS];simp [edK]) (eG K).length 0 [] (by omega) (by simp)
  ·have e4':loop (fun s:List Arc × Int=>gP p.S.N p.S.I p.S.L p.S.E p.M p.C r.N r.I r.L r.E ((bE p r).1.map R2) M P ((eG K).map R2) (mq 0 (eG K)) s.1 s.2) (([]:List Arc),0)=_:=e4
   rw [e4',aA]
   simp only [List.drop_zero,List.nil_append]
   rw [show edK p r (eG K) 0 (eG K)=EK p r K from rfl]
   unfold nK
   have hlab:∀ e∈EK p r K,1<=e.B/\e.B<=L.length:=fun e he=>by
    obtain ⟨q,x,_,hx,_,rfl⟩:=(aFK hKn).1 he
    have h1:=aNy hp hx
    have h2:=(aGv hp.1 hx).2
    rw [hL] at h2
    simp only [List.length_cons] at h2 ⊢
    omega
   have hback:=arcs_back hLs hlab
   have hinit:(p.S.I,r.I)∈eG K:=oR.2 hi0
   have h12:=hp.1.2.2.1.2.1
   have hEl:(EK p r K).length<=300 * (eG K).length:=aQi hp.1 _ _ _
   rw [show (⟨p.S.I,r.I⟩:Int × Int)=(p.S.I,r.I) from rfl,aIp hinit,Option.getD_some]
   rw [lts_eq (labels:=p.S.L) (M:=L) hLs (fun s hs=>by rw [hL];simp [hs]) (by omega) (by simp;omega) (by rw [hback];exact EK_SE hp K) (by rw [hL] at h12;simp at h12;omega),aA,hback]
   unfold fV
   rw [List.length_map,←hL]
  ·left
   have hrow:ix ((eG K).map R2) (k:Int)=some (R2 (eG K)[k]):=by rw [lR];simp [hk]
   simp only [gP,List.length_map,aV hk,if_pos,hrow,aA]
   rw [aTf hp hr hL (eG K) (eG K)[k] k (by omega),aA,aQ hk (show (eG K).length < 4611686018427387904 by omega)]
   have hsl:=aLS p r (eG K)[k] (bG p (eG K)[k])
   have hsk:=aNw p r (eG K) (eG K)[k]
   have hol:=uF hp.1 (eG K)[k]
   refine ⟨_,rfl,by simp;omega,?_⟩
   rw [List.drop_eq_getElem_cons hk]
   simp only [edK,List.map_append,List.append_assoc]
 ·left
  have hrow:ix ((eG K).map R2) (k:Int)=some (R2 (eG K)[k]):=by rw [lR];simp [hk]
  have hn:(eG K)[k]∉(eG K).take k:=fun hm=>by
   obtain ⟨j,hj,e⟩:=List.getElem_of_mem hm
   rw [List.length_take] at hj
   rw [List.getElem_take] at e
   have:=(List.getElem_inj hOn).1 e
   omega
  have hput:=aLT (k:=0) hn
  rw [Nat.zero_add,List.length_take,Nat.min_eq_left (by omega)] at hput
  have hput':wV (mq 0 ((eG K).take k)) (⟨(eG K)[k].1,(eG K)[k].2⟩:Int × Int) (k:Int)=mq 0 ((eG K).take k++[(eG K)[k]]):=hput
  refine ⟨(),?_,trivial,rfl⟩
  simp only [gQ,List.length_map,aV hk,if_pos,hrow,aA,show ix (R2 (eG K)[k]) 0=some (eG K)[k].1 from rfl,show ix (R2 (eG K)[k]) 1=some (eG K)[k].2 from rfl,hput',aQ hk (show (eG K).length < 4611686018427387904 by omega)]
  rw [List.take_add_one,List.getElem?_eq_getElem hk];rfl
 ·rw [List.take_length]
  simp only [gQ,List.length_map,aS];rfl
end Gv
namespace Gv
open Go
variable {p:aO} {r:aP}
def mkQ (M:List Int):Nat->List (Int × Int)->List Int
 |_,[]=>[]
 |k,q::l=>if M.any (fun x=>q.1 == x)=true then (k:Int)::mkQ M (k+1) l else mkQ M (k+1) l
def zeroP:aO:=⟨⟨0,0,[],[]⟩,[],[]⟩
abbrev OQ (p:aO) (r:aP):List (Int × Int):=eG (bE p r).1
abbrev EE (p:aO) (r:aP):List Edge:=EK p r (bE p r).1
abbrev uK (p:aO) (r:aP):aP:=fV p r (bE p r).1
noncomputable def PP (p:aO) (r:aP):aO × List (List Int) × Int:=
 if cl (eJ p/\bB r)=true then
  if 40 < (OQ p r).length\/300 < (EE p r).length then (zeroP,[],5) else (⟨uK p r,mkQ p.M 0 (OQ p r),p.C⟩,(OQ p r).map R2,0)
 else (zeroP,[],1)
theorem aQl (p:aO) (r:aP):(OQ p r).length=(bE p r).1.length:=aIf _
theorem aRI (hp:aT p.S) (hr:aT r):(OQ p r).length<=1600:=by rw [aQl];exact (aCc hp hr).len hp hr
theorem edK_sum (K:List (Int × Int)):∀ (i:Nat) (l:List (Int × Int)),(edK p r K i l).length=(l.map fun q=>(sucK p r K q).length).sum
 |_,[]=>rfl
 |i,q::l=>by simp [edK,edK_sum K (i+1) l]
theorem EK_sum (K:List (Int × Int)):(EK p r K).length=(K.map fun q=>(sucK p r K q).length).sum:=by
 unfold EK
 rw [edK_sum,((aIr K).map _).sum_nat]
 congr 1
 refine List.map_congr_left fun q _=>?_
 unfold sucK
 congr 2
 funext x
 exact decide_eq_decide.2 oR
theorem sum_sub:∀ {K F:List (Int × Int)} {f g:(Int × Int)->Nat},K.Sublist F->(∀ q,f q<=g q)->(K.map f).sum<=(F.map g).sum:=by
 intro K F f g h hfg
 induction h with
 |slnil=>simp
 |cons a _ ih=>simp only [List.map_cons,List.sum_cons];omega
 |cons_cons a _ ih=>have:=hfg a;simp only [List.map_cons,List.sum_cons];omega
theorem EE_len (hp:aT p.S) (hr:aT r):(EE p r).length=(bE p r).2.length:=by
 rw [aGt hp hr,aIs,EK_sum]
 congr 1
 refine List.map_congr_left fun q hq=>?_
 unfold sucK
 congr 1
 exact List.filter_eq_self.2 fun x hx=>decide_eq_true (pY hp hr hq x hx)
theorem EK_le {K:List (Int × Int)} (hp:aT p.S) (hr:aT r) (h:K.Sublist (bE p r).1):(EK p r K).length<=(bE p r).2.length:=by
 rw [aGt hp hr,aIs,EK_sum]
 exact sum_sub h fun q=>aNw p r K q
theorem mkQ_in (M:List Int):∀ (l:List (Int × Int)) (k:Nat),∀ x∈mkQ M k l,(k:Int)<=x/\x < (k+l.length:Nat)
 |[],_=>by simp [mkQ]
 |q::l,k=>by
  intro x hx
  unfold mkQ at hx
  have ih:=mkQ_in M l (k+1)
  simp only [List.length_cons]
  split at hx
  ·rcases List.mem_cons.1 hx with rfl|hx
   ·omega
   ·have:=ih x hx;omega
  ·have:=ih x hx;omega
theorem aRJ (M:List Int):∀ (l:List (Int × Int)) (k:Nat),(mkQ M k l).Pairwise fun a b=>a < b
 |[],_=>List.Pairwise.nil
 |q::l,k=>by
  unfold mkQ
  have ih:=aRJ M l (k+1)
  split
  ·rw [List.pairwise_cons]
   exact ⟨fun x hx=>by have:=mkQ_in M l (k+1) x hx;omega,ih⟩
  ·exact ih
theorem mkQ_len (M:List Int):∀ (l:List (Int × Int)) (k:Nat),(mkQ M k l).length<=l.length
 |[],_=>by simp [mkQ]
 |q::l,k=>by
  unfold mkQ
  have ih:=mkQ_len M l (k+1)
  split<;>simp<;>omega
theorem rise_of {hi:Int} {xs:List Int} (h1:∀ x∈xs,0<=x/\x<=hi) (h2:xs.Pairwise fun a b=>a < b):aDp 0 hi xs:=
 fun k hk=>⟨h1 _ (List.getElem_mem hk),fun h=>List.pairwise_iff_getElem.1 h2 (k - 1) k (by omega) hk (by omega)⟩
theorem aHb (p:aO) (r:aP):(p.S.I,r.I)∈(bE p r).1:=List.mem_of_getElem? (aGu p r)
theorem EK_in {K:List (Int × Int)} (hd:bB p.S) (hK:K.Nodup):∀ e∈EK p r K,aAO (fV p r K) e:=fun e he=>by
 obtain ⟨q,x,hq,hx,hx2,rfl⟩:=(aFK hK).1 he
 obtain ⟨j,hj,f1,_⟩:=mS (oR.2 hq)
 obtain ⟨k,hk,f2,_⟩:=mS (oR.2 hx2)
 have hl:=aGv hd.1 hx
 refine ⟨?_,?_,?_⟩<;>(simp only [fV];omega)
theorem aQm {K:List (Int × Int)} (hd:bB p.S) (hK:K.Nodup) (hi:(p.S.I,r.I)∈K):bB (fV p r K)<->¬ (40 < (eG K).length\/300 < (EK p r K).length):=by
 constructor
 ·rintro ⟨⟨hs,_,_,he,_⟩,_⟩ h
  have hs2:((eG K).length:Int)<=40:=hs.2
  have he2:(EK p r K).length<=300:=he
  omega
 ·intro h
  have hpos:1<=(eG K).length:=List.length_pos_of_mem (oR.2 hi)
  obtain ⟨i,hi,e1,_⟩:=mS (oR.2 hi)
  have hEin:=EK_in (r:=r) hd hK
  have hpair:=aNx (r:=r) hd (eG K) 0 (eG K)
  refine ⟨⟨⟨by simp only [fV];omega,by simp only [fV];omega⟩,⟨by simp only [fV];omega,by simp only [fV];omega⟩,hd.1.2.2.1,by show (EK p r K).length<=300;omega,fun k hk=>⟨hEin _ (List.getElem_mem hk),fun h1=>?_⟩⟩,fun k hk=>⟨?_,fun h1 hc=>?_⟩⟩
  ·exact List.pairwise_iff_getElem.1 (EK_SE hd K) (k - 1) k (by have:k < (EK p r K).length:=hk;omega) hk (by omega)
  ·have hm:(fV p r K).E[k]∈EK p r K:=List.getElem_mem hk
   obtain ⟨q,x,_,hx,_,e⟩:=(aFK hK).1 hm
   rw [e]
   have:=aNy hd hx
   simp only;omega
  ·have hk':k < (EK p r K).length:=hk
   have hpair':(EK p r K).Pairwise uE:=hpair
   have:=List.pairwise_iff_getElem.1 hpair' (k - 1) k (by omega) hk' (by omega)
   unfold uE at this
   have h3:((EK p r K)[k]'hk').F=((EK p r K)[k - 1]'(by omega)).F/\((EK p r K)[k]'hk').B=((EK p r K)[k - 1]'(by omega)).B:=hc
   omega
theorem aLV (hp:eJ p) (hr:bB r):eJ ⟨uK p r,mkQ p.M 0 (OQ p r),p.C⟩<->¬ (40 < (OQ p r).length\/300 < (EE p r).length):=by
 obtain ⟨hd,_,hn⟩:=hp
 rw [←aQm hd (aCc hd.1 hr.1).1 (aHb p r)]
 refine ⟨fun h=>h.1,fun h=>⟨h,?_,hn⟩⟩
 refine rise_of (fun x hx=>?_) (aRJ _ _ _)
 have:=mkQ_in _ _ _ x hx
 show (0:Int)<=x/\x<=((OQ p r).length:Int) - 1
 omega
theorem aKN (hp:eJ p) (hr:bB r) (hf:iO 999999999 p):iO 999999999 ⟨uK p r,mkQ p.M 0 (OQ p r),p.C⟩:=by
 have hO:=aRI hp.1.1 hr.1
 have hE:(EE p r).length<=300 * (OQ p r).length:=aQi hp.1.1 _ _ _
 have hM:=mkQ_len p.M (OQ p r) 0
 exact ⟨⟨hf.sys.1,hf.sys.2.1,by show (EE p r).length<=_;omega⟩,by show (mkQ p.M 0 (OQ p r)).length<=_;omega,hf.len,hf.names⟩
theorem aCd (p:aO) (r:aP) (hf:iO 999999999 p) (hr:eZ 999999999 r):nD p r=some (PP p r):=by
 unfold nD PP
 rw [aQa p r hf hr,aA]
 by_cases h:eJ p/\bB r
 ·obtain ⟨hp,hd⟩:=h
  rw [jL (P:=eJ p/\bB r) ⟨hp,hd⟩]
  simp only [if_true]
  rw [if_neg (by decide)]
  obtain ⟨P,hP⟩:=aIU hp.1 hd
  have hF:=(aCc hp.1.1 hd.1).len hp.1.1 hd.1
  have hF1:1<=(bE p r).1.length:=List.length_pos_of_mem (List.mem_of_getElem? (aGu p r))
  rw [hP,aA]
  simp only [List.length_map]
  rw [aOQ true _ hF1 (by omega),aA,aOX hp.1 hd _ _ _ (by simp) (by rw [kq_all];exact aHb p r),aA,kq_all]
  unfold bT
  rw [bX (by have:=hf.len;simp [hX];omega),aA,aA,List.nil_append]
  unfold wM
  have hO:=aRI hp.1.1 hd.1
  have:=rV (step:=fun s:List Int × Int=>nO p (uK p r,(OQ p r).map R2) s.1 s.2) (OQ p r).length (fun k (a:List Int)=>(a,(k:Int)))
   (fun k a=>a++mkQ p.M k ((OQ p r).drop k)) (fun k a=>a.length<=k) (fun k a hk hI=>?_) (fun a hI=>by simp only [nO,List.length_map,aS];simp [mkQ]) (OQ p r).length 0 [] (by omega) (by simp)
  ·have this':loop (fun s:List Int × Int=>nO p (uK p r,(OQ p r).map R2) s.1 s.2) (([]:List Int),0)=_:=this
   rw [this',aA]
   simp only [List.drop_zero,List.nil_append]
   unfold wL
   simp only
   have hv:=aAr _ (aKN hp hd hf)
   rw [show (⟨⟨(uK p r).N,(uK p r).I,(uK p r).L,(uK p r).E⟩,mkQ p.M 0 (OQ p r),p.C⟩:aO)=⟨uK p r,mkQ p.M 0 (OQ p r),p.C⟩ from rfl,hv,aA]
   by_cases hbig:40 < (OQ p r).length\/300 < (EE p r).length
   ·rw [if_pos hbig,if_pos (by rw [kF (fun h=>(aLV hp hd).1 h hbig)];rfl)];rfl
   ·rw [if_neg hbig,if_neg (by rw [jL ((aLV hp hd).2 hbig)];simp)]
  ·left
   have hrow:ix ((OQ p r).map R2) (k:Int)=some (R2 (OQ p r)[k]):=by rw [lR];simp [hk]
   have hw1:=aQ hk (show (OQ p r).length < 4611686018427387904 by omega)
   rw [List.drop_eq_getElem_cons hk]
   simp only [nO,List.length_map,aV hk,if_pos,hrow,aA,show ix (R2 (OQ p r)[k]) 0=some (OQ p r)[k].1 from rfl]
   unfold nB
   rw [uS _ _ (by have:=hf.marks;omega),aA,aA]
   by_cases hm:(p.M.any fun x=>(OQ p r)[k].1 == x)=true
   ·rw [if_pos hm,bX (by simp [hX];omega),aA]
    refine ⟨a++[(k:Int)],by simp only [nN,hw1],by simp;omega,?_⟩
    simp only [mkQ,if_pos hm,List.append_assoc,List.cons_append,List.nil_append]
   ·rw [if_neg hm]
    refine ⟨a,by simp only [nN,hw1],by omega,?_⟩
    simp only [mkQ,if_neg hm]
 ·rw [kF h]
  simp only [Bool.false_eq_true,if_false]
  rw [if_pos (by decide)];rfl
theorem l00Has_eq (xs:List Int) (v:Int) (h:xs.length < 1000000000):aHQ xs v=some (xs.any fun x=>v == x):=by
 unfold aHQ
 have:=aGp (step:=fun s=>aFl xs v s) xs (fun x=>!(v == x)) (.inr true) (.inl ()) (fun k x hk hx=>by
  simp only [aFl,aV hk,if_pos,hx,aA,aQ hk (show xs.length < 4611686018427387904 by omega)]
  rw [show (x == v)=(v == x) from by rw [Bool.eq_iff_iff,beq_iff_eq,beq_iff_eq];exact eq_comm]
  cases v == x<;>rfl) (by simp only [aFl,aS];rfl)
 rw [this,aA]
 have e:(xs.all fun x=>!(v == x))=!(xs.any fun x=>v == x):=by simp [List.all_eq_not_any_not]
 rw [e]
 cases xs.any fun x=>v == x<;>rfl
end Gv
namespace Gv
open Go
inductive Co (E:Nat->Nat->Prop) (m A:Nat->Prop):Nat->Prop
 |base {i:Nat}:A i->m i->Co E m A i
 |step {i j:Nat}:A i->E i j->Co E m A j->Co E m A i
section
variable {E U:Nat->Nat->Prop} {m flt A B:Nat->Prop}
theorem Co.mem {i:Nat} (h:Co E m A i):A i:=by cases h<;>assumption
theorem Co.mono (hAB:∀ i,A i->B i) {i:Nat} (h:Co E m A i):Co E m B i:=by
 induction h with
 |base h1 h2=>exact .base (hAB _ h1) h2
 |step h1 h2 _ ih=>exact .step (hAB _ h1) h2 ih
structure Stb (E U:Nat->Nat->Prop) (m flt S:Nat->Prop):Prop where
 co:∀ i,S i->Co E m S i
 ok:∀ i,S i->¬ flt i
 un:∀ i j,S i->U i j->S j
end
def on (a:List Bool) (i:Nat):Prop:=a[i]?=some true
theorem aOY {a:List Bool} {i:Nat} (h:on a i):i < a.length:=(List.getElem?_eq_some_iff.1 h).1
theorem mT {a:List Bool} {i:Nat}:a.getD i false=true<->on a i:=by
 unfold on
 rw [List.getD_eq_getElem?_getD]
 cases a[i]?<;>simp
theorem on_not {a:List Bool} {i:Nat} (hi:i < a.length):¬ on a i<->a[i]?=some false:=by
 unfold on
 rw [List.getElem?_eq_getElem hi]
 cases a[i]<;>simp
theorem yA {a:List Bool} {i j:Nat} {b:Bool} (hi:i < a.length):on (a.set i b) j<->if j=i then b=true else on a j:=by
 unfold on
 split
 ·rename_i h;subst h
  rw [List.getElem?_set_self hi];simp
 ·rename_i h
  rw [List.getElem?_set_ne (Ne.symm h)]
theorem on_ext {a b:List Bool} (hl:a.length=b.length) (h:∀ i,on a i<->on b i):a=b:=by
 refine List.ext_getElem? fun i=>?_
 by_cases hi:i < a.length
 ·have:=h i
  unfold on at this
  rw [List.getElem?_eq_getElem hi,List.getElem?_eq_getElem (show i < b.length by omega)] at this ⊢
  cases ha:a[i]<;>cases hb:b[i]<;>simp_all
 ·rw [List.getElem?_eq_none (by omega),List.getElem?_eq_none (by omega)]
theorem aHc {n i:Nat} {b:Bool}:on (List.replicate n b) i<->i < n/\b=true:=by
 unfold on
 rw [List.getElem?_replicate]
 split
 ·simp_all
 ·constructor
  ·intro h;cases h
  ·intro h;omega
theorem aNz:∀ {a b:List Bool},a.length=b.length->(∀ i,on b i->on a i)->b.count true<=a.count true/\(b≠a->b.count true < a.count true)
 |[],[],_,_=>by simp
 |x::a,y::b,hl,h=>by
  obtain ⟨h1,h2⟩:=aNz (a:=a) (b:=b) (by simpa using hl) fun i hi=>by
   have:=h (i+1) (by unfold on at hi ⊢;simpa using hi)
   unfold on at this ⊢;simpa using this
  have h0:y=true->x=true:=fun e=>by
   have:=h 0 (by unfold on;simp [e])
   unfold on at this;simpa using this
  simp only [List.count_cons]
  cases x<;>cases y<;>simp_all
  all_goals omega
theorem aRK {step:List Bool->Option (List Bool ⊕ List Bool)} (I:List Bool->Prop) (Q:List Bool->List Bool->Prop)
  (h:∀ a,I a->∃ b,I b/\b.length=a.length/\(∀ i,on b i->on a i)/\Q a b/\step a=some (if b=a then .inr a else .inl b)):∀ n a,a.count true<=n->I a->∃ a',loop step a=some a'/\I a'/\Q a' a':=by
 intro n
 induction n with
 |zero=>
  intro a hn hI
  obtain ⟨b,hb,hl,hs,hq,e⟩:=h a hI
  have:=aNz hl.symm hs
  by_cases hab:b=a
  ·rw [if_pos hab] at e
   subst hab
   exact ⟨_,by rw [bA,e],hI,hq⟩
  ·have:=this.2 hab;omega
 |succ n ih=>
  intro a hn hI
  obtain ⟨b,hb,hl,hs,hq,e⟩:=h a hI
  have:=aNz hl.symm hs
  by_cases hab:b=a
  ·rw [if_pos hab] at e
   subst hab
   exact ⟨_,by rw [bA,e],hI,hq⟩
  ·have h1:=this.2 hab
   rw [if_neg hab] at e
   obtain ⟨a',e',h2,h3⟩:=ih b (by omega) hb
   exact ⟨a',by rw [bA,e];exact e',h2,h3⟩
end Gv
namespace Gv
open Go
theorem off_get {m:List Bool} {i:Nat} (hi:i < m.length) (h:m.getD i false=false):m[i]?=some false:=by
 rw [List.getD_eq_getElem?_getD,List.getElem?_eq_getElem hi] at h
 rw [List.getElem?_eq_getElem hi];simpa using h
structure aLF (n:Nat) (P:Nat->Prop) (m0 m:List Bool):Prop where
 len:m.length=n
 has:∀ i,on m0 i->on m i
 ok:∀ i,on m i->P i
theorem aLF.flip {n:Nat} {P:Nat->Prop} {m0 m:List Bool} (h:aLF n P m0 m) {q:Nat} (hq:q < n) (hp:P q):aLF n P m0 (m.set q true):=by
 have hq':q < m.length:=by rw [h.len];exact hq
 refine ⟨by rw [List.length_set];exact h.len,fun i hi=>?_,fun i hi=>?_⟩
 ·rw [yA hq'];split
  ·rfl
  ·exact h.has i hi
 ·rw [yA hq'] at hi;split at hi
  ·rename_i e;subst e;exact hp
  ·exact h.ok i hi
theorem aOZ {ed:List Edge} {n:Nat} (c:Edge->Bool) (a b:Edge->Nat) {inner:List Bool × Bool × Int->Option ((List Bool × Bool × Int) ⊕ (List Bool × Bool))} {outer:List Bool × Bool->Option ((List Bool × Bool) ⊕ List Bool)}
  (hi:∀ (k:Nat) (hk:k < ed.length) m ag,m.length=n->inner (m,ag,(k:Int))=some (.inl (if (c ed[k]&&(m.getD (a ed[k]) false&&!m.getD (b ed[k]) false))=true then (m.set (b ed[k]) true,true,((k+1:Nat):Int)) else (m,ag,((k+1:Nat):Int)))))
  (he:∀ m ag,inner (m,ag,(ed.length:Int))=some (.inr (m,ag)))
  (ho:∀ m,m.length=n->outer (m,true)=ob (loop inner (m,false,0)) fun r=>some (.inl r))
  (ho2:∀ m,outer (m,false)=some (.inr m)) (hb:∀ e∈ed,b e < n) (P:Nat->Prop) {m0:List Bool} (hm:m0.length=n) (hP0:∀ i,on m0 i->P i) (hP:∀ e∈ed,c e=true->P (a e)->P (b e)):
  ∃ m,loop outer (m0,true)=some m/\aLF n P m0 m/\∀ e∈ed,c e=true->on m (a e)->on m (b e):=by
 refine aLl (α:=List Bool) id false (aLF n P m0) (fun m=>∀ e∈ed,c e=true->on m (a e)->on m (b e)) (fun m hG=>?_) (fun m=>ho2 m) (m0.count false) m0 (Nat.le_refl _) ⟨hm,fun _ h=>h,hP0⟩
 have:=dZ (step:=inner) ed.length (fun i (s:List Bool × Bool)=>(s.1,s.2,(i:Int)))
  (fun i s=>Adv false (aLF n P m0) m s.1 s.2/\(s.2=false->∀ i',i' < i->∀ h:i' < ed.length,c ed[i']=true->on m (a ed[i'])->on m (b ed[i']))) (fun r=>Adv false (aLF n P m0) m r.1 r.2/\(r.2=false->∀ e∈ed,c e=true->on m (a e)->on m (b e))) (fun i s hi' hI=>?_) (fun s hI=>?_) ed.length 0 (m,false) (by omega) ⟨Adv.refl hG,fun _ i' h=>by omega⟩
 ·obtain ⟨r,hr,hA,hc⟩:=this
  have hr':loop inner (m,false,0)=some r:=hr
  simp only [id]
  rw [ho m hG.len,hr',aA]
  exact ⟨r.1,r.2,rfl,hA,hc⟩
 ·obtain ⟨m',ag⟩:=s
  obtain ⟨hA,hc⟩:=hI
  simp only at hA hc
  have hmem:ed[i]∈ed:=List.getElem_mem hi'
  rw [hi i hi' m' ag hA.good.len]
  by_cases ht:(c ed[i]&&(m'.getD (a ed[i]) false&&!m'.getD (b ed[i]) false))=true
  ·rw [if_pos ht]
   simp only [Bool.and_eq_true,Bool.not_eq_true'] at ht
   have hbn:=hb _ hmem
   exact ⟨(m'.set (b ed[i]) true,true),rfl,hA.flip (off_get (by rw [hA.good.len];exact hbn) ht.2.2) (hA.good.flip hbn (hP _ hmem ht.1 (hA.good.ok _ (mT.1 ht.2.1)))),fun h=>by cases h⟩
  ·rw [if_neg ht]
   refine ⟨(m',ag),rfl,hA,fun hf i' h1 h2 h3 h4=>?_⟩
   by_cases hii:i' < i
   ·exact hc hf i' hii h2 h3 h4
   ·obtain rfl:i'=i:=by omega
    obtain rfl:=hA.eq hf
    rw [←mT] at h4 ⊢
    rw [h3,h4] at ht
    simpa using ht
 ·obtain ⟨m',ag⟩:=s
  refine ⟨(m',ag),he m' ag,hI.1,fun hf e hem=>?_⟩
  obtain ⟨i',hi',rfl⟩:=List.mem_iff_getElem.1 hem
  exact hI.2 hf i' hi' hi'
theorem sat_nodes {n:Nat} (t:Nat->List Bool->Bool) {inner:List Bool × Bool × Int->Option ((List Bool × Bool × Int) ⊕ (List Bool × Bool))} {outer:List Bool × Bool->Option ((List Bool × Bool) ⊕ List Bool)}
  (hi:∀ (k:Nat) (_:k < n) m ag,m.length=n->inner (m,ag,(k:Int))=some (.inl (if (t k m&&!m.getD k false)=true then (m.set k true,true,((k+1:Nat):Int)) else (m,ag,((k+1:Nat):Int)))))
  (he:∀ m ag,inner (m,ag,(n:Int))=some (.inr (m,ag)))
  (ho:∀ m,m.length=n->outer (m,true)=ob (loop inner (m,false,0)) fun r=>some (.inl r))
  (ho2:∀ m,outer (m,false)=some (.inr m)) (P:Nat->Prop) {m0:List Bool} (hm:m0.length=n) (hP0:∀ i,on m0 i->P i) (hP:∀ k m,k < n->m.length=n->(∀ i,on m i->P i)->t k m=true->P k):
  ∃ m,loop outer (m0,true)=some m/\aLF n P m0 m/\∀ k,k < n->t k m=true->on m k:=by
 refine aLl (α:=List Bool) id false (aLF n P m0) (fun m=>∀ k,k < n->t k m=true->on m k) (fun m hG=>?_) (fun m=>ho2 m) (m0.count false) m0 (Nat.le_refl _) ⟨hm,fun _ h=>h,hP0⟩
 have:=dZ (step:=inner) n (fun i (s:List Bool × Bool)=>(s.1,s.2,(i:Int)))
  (fun i s=>Adv false (aLF n P m0) m s.1 s.2/\(s.2=false->∀ k,k < i->t k m=true->on m k)) (fun r=>Adv false (aLF n P m0) m r.1 r.2/\(r.2=false->∀ k,k < n->t k m=true->on m k)) (fun i s hi' hI=>?_) (fun s hI=>?_) n 0 (m,false) (by omega) ⟨Adv.refl hG,fun _ i' h=>by omega⟩
 ·obtain ⟨r,hr,hA,hc⟩:=this
  have hr':loop inner (m,false,0)=some r:=hr
  simp only [id]
  rw [ho m hG.len,hr',aA]
  exact ⟨r.1,r.2,rfl,hA,hc⟩
 ·obtain ⟨m',ag⟩:=s
  obtain ⟨hA,hc⟩:=hI
  simp only at hA hc
  rw [hi i hi' m' ag hA.good.len]
  by_cases ht:(t i m'&&!m'.getD i false)=true
  ·rw [if_pos ht]
   simp only [Bool.and_eq_true,Bool.not_eq_true'] at ht
   exact ⟨(m'.set i true,true),rfl,hA.flip (off_get (by rw [hA.good.len];exact hi') ht.2) (hA.good.flip hi' (hP _ _ hi' hA.good.len hA.good.ok ht.1)),fun h=>by cases h⟩
  ·rw [if_neg ht]
   refine ⟨(m',ag),rfl,hA,fun hf k h1 h2=>?_⟩
   by_cases hii:k < i
   ·exact hc hf k hii h2
   ·obtain rfl:k=i:=by omega
    obtain rfl:=hA.eq hf
    rw [←mT]
    rw [h2] at ht
    simpa using ht
 ·obtain ⟨m',ag⟩:=s
  exact ⟨(m',ag),he m' ag,hI⟩
theorem Co.sat {E:Nat->Nat->Prop} {m A:Nat->Prop} {g:List Bool} (h0:∀ i,A i->m i->on g i) (h1:∀ i j,A i->E i j->A j->on g j->on g i) {i:Nat} (h:Co E m A i):on g i:=by
 induction h with
 |base a b=>exact h0 _ a b
 |step a b c ih=>exact h1 _ _ a b c.mem ih
end Gv
namespace Gv
open Go
def vis (out:List Int) (i:Nat):Prop:=0<=out.getD i (-1)
theorem vis_lt {out:List Int} {i:Nat} (h:vis out i):i < out.length:=by
 apply Classical.byContradiction
 intro hc
 unfold vis at h
 rw [List.getD_eq_getElem?_getD,List.getElem?_eq_none (by omega)] at h
 simp at h
theorem aCL {out:List Int} {j i:Nat} {v:Int} (hj:j < out.length) (hv:0<=v):vis (out.set j v) i<->i=j\/vis out i:=by
 unfold vis
 rw [List.getD_eq_getElem?_getD,List.getD_eq_getElem?_getD]
 by_cases e:i=j
 ·subst e
  rw [List.getElem?_set_self hj];simp [hv]
 ·rw [List.getElem?_set_ne (Ne.symm e)];simp [e]
def neg (out:List Int):Nat:=out.countP fun x=>decide (x < 0)
theorem aLW {v:Int} (hv:0<=v):∀ {out:List Int} {j:Nat} (_:j < out.length),¬ vis out j->neg (out.set j v)+1=neg out
 |[],j,h,_=>by simp at h
 |x::l,0,_,hn=>by
  unfold vis at hn
  simp at hn
  simp only [neg,List.set_cons_zero,List.countP_cons]
  rw [if_neg (by simp only [decide_eq_true_eq];omega),if_pos (by simpa using hn)]
 |x::l,j+1,h,hn=>by
  have ih:=aLW hv (out:=l) (j:=j) (by simpa using h) (by unfold vis at hn ⊢;simpa using hn)
  simp only [neg,List.set_cons_succ,List.countP_cons] at ih ⊢
  omega
structure Bfs (ed:List Edge) (src dst:Edge->Nat) (n:Nat) (P:Nat->Prop) (q:Option Nat) (s:List Int × List Int):Prop where
 len:s.1.length=n
 ok:∀ i,vis s.1 i->P i
 todo:∀ x∈s.2,∃ i:Nat,x=(i:Int)/\vis s.1 i
 done:∀ i,vis s.1 i->(i:Int)∉s.2->some i≠q->∀ e∈ed,src e=i->vis s.1 (dst e)
 top:∀ i,s.1.getD i (-1)<=(n:Int) - neg s.1
theorem Bfs.put {ed:List Edge} {src dst:Edge->Nat} {n:Nat} {P:Nat->Prop} {q:Nat} {s:List Int × List Int} (h:Bfs ed src dst n P (some q) s) (hq:vis s.1 q) {j:Nat} (hj:j < n) (hn:¬ vis s.1 j) (hp:P j):
  Bfs ed src dst n P (some q) (s.1.set j (s.1.getD q (-1)+1),s.2++[(j:Int)])/\neg (s.1.set j (s.1.getD q (-1)+1))+(s.2++[(j:Int)]).length=neg s.1+s.2.length:=by
 have hj':j < s.1.length:=by rw [h.len];exact hj
 have hv:0<=s.1.getD q (-1)+1:=by unfold vis at hq;omega
 have hng:=aLW hv hj' hn
 refine ⟨⟨by rw [List.length_set];exact h.len,fun i hi=>?_,fun x hx=>?_,fun i hi hm hne e he hs=>?_,fun i=>?_⟩,by simp only [List.length_append,List.length_singleton];omega⟩
 ·rcases (aCL hj' hv).1 hi with rfl|hi
  ·exact hp
  ·exact h.ok i hi
 ·rcases List.mem_append.1 hx with hx|hx
  ·obtain ⟨i,rfl,hi⟩:=h.todo x hx
   exact ⟨i,rfl,(aCL hj' hv).2 (.inr hi)⟩
  ·simp at hx;subst hx
   exact ⟨j,rfl,(aCL hj' hv).2 (.inl rfl)⟩
 ·rw [List.mem_append] at hm
  rcases (aCL hj' hv).1 hi with rfl|hi
  ·exact absurd (.inr (by simp)) hm
  ·exact (aCL hj' hv).2 (.inr (h.done i hi (fun x=>hm (.inl x)) hne e he hs))
 ·have ht:=h.top i
  have hq':=h.top q
  simp only
  by_cases e:i=j
  ·subst e
   rw [List.getD_eq_getElem?_getD,List.getElem?_set_self hj']
   simp only [Option.getD_some];omega
  ·rw [List.getD_eq_getElem?_getD,List.getElem?_set_ne (Ne.symm e),←List.getD_eq_getElem?_getD];omega
open Classical in
theorem aRL {ed:List Edge} {n:Nat} (hn:n < 1000000) (src dst:Edge->Nat) {inner:Int->List Int × List Int × Int->Option ((List Int × List Int × Int) ⊕ (List Int × List Int))} {outer:List Int × List Int->Option ((List Int × List Int) ⊕ List Int)}
  (hi:∀ (q:Nat) (k:Nat) (hk:k < ed.length) out todo,out.length=n->q < n->todo.length<=n->(∀ i,out.getD i (-1)<=(n:Int))->inner (q:Int) (out,todo,(k:Int))=some (.inl (if src ed[k]=q/\¬ vis out (dst ed[k]) then (out.set (dst ed[k]) (wr (out.getD q (-1)+1)),todo++[(dst ed[k]:Int)],((k+1:Nat):Int)) else (out,todo,((k+1:Nat):Int)))))
  (he:∀ (q:Nat) out todo,inner (q:Int) (out,todo,(ed.length:Int))=some (.inr (out,todo)))
  (ho:∀ out (q:Nat) todo,out.length=n->q < n->todo.length<=n->outer (out,(q:Int)::todo)=ob (loop (inner (q:Int)) (out,todo,0)) fun r=>some (.inl r))
  (ho2:∀ out,outer (out,[])=some (.inr out)) (hb:∀ e∈ed,dst e < n) (P:Nat->Prop) (hP:∀ e∈ed,P (src e)->P (dst e)) {s0:List Int × List Int} (h0:Bfs ed src dst n P none s0) (hm:neg s0.1+s0.2.length<=n):
  ∃ out,loop outer s0=some out/\out.length=n/\(∀ i,vis out i->P i)/\(∀ i,vis out i->∀ e∈ed,src e=i->vis out (dst e))/\∀ i,vis s0.1 i->vis out i:=by
 refine qS (step:=outer) (fun s=>Bfs ed src dst n P none s/\neg s.1+s.2.length<=n/\∀ i,vis s0.1 i->vis s.1 i) (fun s=>neg s.1+s.2.length) (fun out=>out.length=n/\(∀ i,vis out i->P i)/\(∀ i,vis out i->∀ e∈ed,src e=i->vis out (dst e))/\∀ i,vis s0.1 i->vis out i) (fun s hI=>?_) ⟨h0,hm,fun _ h=>h⟩
 obtain ⟨out,todo⟩:=s
 obtain ⟨hB,hle,hmo⟩:=hI
 cases todo with
 |nil=>
  right
  exact ⟨out,ho2 out,hB.len,hB.ok,fun i hi e he hs=>hB.done i hi (by simp) (by simp) e he hs,hmo⟩
 |cons x todo=>
  left
  obtain ⟨q,rfl,hq⟩:=hB.todo x (by simp)
  have hqn:q < n:=by have h1:=vis_lt hq;have h2:=hB.len;simp only at h1 h2;omega
  have hle':neg out+(todo.length+1)<=n:=hle
  rw [ho out q todo hB.len hqn (by omega)]
  have hB1:Bfs ed src dst n P (some q) (out,todo):=⟨hB.len,hB.ok,fun x hx=>hB.todo x (by simp [hx]),fun i hi hm hne e he hs=>hB.done i hi (by simp only [List.mem_cons,not_or];exact ⟨fun h=>hne (by rw [show i=q by omega]),hm⟩) (by simp) e he hs,hB.top⟩
  have:=dZ (step:=inner (q:Int)) ed.length (fun i (s:List Int × List Int)=>(s.1,s.2,(i:Int)))
   (fun k s=>Bfs ed src dst n P (some q) s/\neg s.1+s.2.length=neg out+todo.length/\(∀ i,vis out i->vis s.1 i)/\∀ k',k' < k->∀ h:k' < ed.length,src ed[k']=q->vis s.1 (dst ed[k'])) (fun r=>Bfs ed src dst n P (some q) r/\neg r.1+r.2.length=neg out+todo.length/\(∀ i,vis out i->vis r.1 i)/\∀ e∈ed,src e=q->vis r.1 (dst e)) (fun k s hk hI=>?_) (fun s hI=>?_) ed.length 0 (out,todo) (by omega) ⟨hB1,rfl,fun _ h=>h,fun k' h=>by omega⟩
  ·obtain ⟨r,hr,hR,hc,hv,hall⟩:=this
   have hr':loop (inner (q:Int)) (out,todo,0)=some r:=hr
   rw [hr',aA]
   refine ⟨r,rfl,⟨⟨hR.len,hR.ok,hR.todo,fun i hi hm _ e he hs=>?_,hR.top⟩,by omega,fun i hi=>hv i (hmo i hi)⟩,?_⟩
   ·by_cases hiq:i=q
    ·subst hiq;exact hall e he hs
    ·exact hR.done i hi hm (by simpa using hiq) e he hs
   ·simp only [List.length_cons];omega
  ·obtain ⟨o,td⟩:=s
   obtain ⟨hS,hc,hv,hall⟩:=hI
   simp only at hc hv hall
   have hmem:ed[k]∈ed:=List.getElem_mem hk
   have hvq:=hv q hq
   have htop:∀ i,o.getD i (-1)<=(n:Int):=fun i=>by have:=hS.top i;simp only at this;omega
   rw [hi q k hk o td hS.len hqn (by omega) htop]
   by_cases ht:src ed[k]=q/\¬ vis o (dst ed[k])
   ·rw [if_pos ht]
    have hp:P (dst ed[k]):=hP _ hmem (by rw [ht.1];exact hS.ok q hvq)
    obtain ⟨g1,g2⟩:=hS.put hvq (hb _ hmem) ht.2 hp
    have hw:wr (o.getD q (-1)+1)=o.getD q (-1)+1:=by
     have h1:=htop q
     have h2:0<=o.getD q (-1):=hvq
     rw [dE (by omega) (by omega)]
    have hol:dst ed[k] < o.length:=by have:=hS.len;simp only at this;rw [this];exact hb _ hmem
    have h0:(0:Int)<=o.getD q (-1)+1:=by have h2:0<=o.getD q (-1):=hvq;omega
    rw [hw]
    refine ⟨(o.set (dst ed[k]) (o.getD q (-1)+1),td++[(dst ed[k]:Int)]),rfl,g1,by simp only at g2 ⊢;omega,fun i h=>(aCL hol h0).2 (.inr (hv i h)),fun k' h1 h2 h3=>?_⟩
    by_cases hkk:k' < k
    ·exact (aCL hol h0).2 (.inr (hall k' hkk h2 h3))
    ·obtain rfl:k'=k:=by omega
     exact (aCL hol h0).2 (.inl rfl)
   ·rw [if_neg ht]
    refine ⟨(o,td),rfl,hS,hc,hv,fun k' h1 h2 h3=>?_⟩
    by_cases hkk:k' < k
    ·exact hall k' hkk h2 h3
    ·obtain rfl:k'=k:=by omega
     exact Classical.byContradiction fun hx=>ht ⟨h3,hx⟩
  ·obtain ⟨o,td⟩:=s
   obtain ⟨hS,hc,hv,hall⟩:=hI
   refine ⟨(o,td),he q o td,hS,hc,hv,fun e hem hs=>?_⟩
   obtain ⟨i',hi',rfl⟩:=List.mem_iff_getElem.1 hem
   exact hall i' hi' hi' hs
end Gv
namespace Gv
open Go
section
variable {E U:Nat->Nat->Prop} {m flt:Nat->Prop} {n:Nat}
theorem trim_a {step:List Bool->Option (List Bool ⊕ List Bool)} (h:∀ a,a.length=n->∃ b,b.length=n/\(∀ i,on b i<->Co E m (on a) i/\∀ j,U i j->Co E m (on a) j)/\step a=some (if b=a then .inr a else .inl b))
  {a0:List Bool} (hl:a0.length=n) (h0:∀ i,on a0 i<->i < n/\¬ flt i):∃ a,loop step a0=some a/\a.length=n/\Stb E U m flt (on a)/\∀ S,(∀ i,S i->i < n)->Stb E U m flt S->∀ i,S i->on a i:=by
 obtain ⟨a,e,⟨i1,i2,i3⟩,q⟩:=aRK (step:=step) (fun a=>a.length=n/\(∀ i,on a i->¬ flt i)/\∀ S,(∀ i,S i->i < n)->Stb E U m flt S->∀ i,S i->on a i) (fun a b=>∀ i,on b i<->Co E m (on a) i/\∀ j,U i j->Co E m (on a) j) (fun a hI=>by
  obtain ⟨h1,h2,h3⟩:=hI
  obtain ⟨b,g1,g2,g3⟩:=h a h1
  have sub:∀ i,on b i->on a i:=fun i hi=>((g2 i).1 hi).1.mem
  refine ⟨b,⟨g1,fun i hi=>h2 i (sub i hi),fun S hn hS i hi=>(g2 i).2 ⟨(hS.co i hi).mono (h3 S hn hS),fun j hj=>(hS.co j (hS.un i j hi hj)).mono (h3 S hn hS)⟩⟩,by omega,sub,g2,g3⟩) (a0.count true) a0 (Nat.le_refl _) ⟨hl,fun i hi=>((h0 i).1 hi).2,fun S hn hS i hi=>(h0 i).2 ⟨hn i hi,hS.ok i hi⟩⟩
 exact ⟨a,e,i1,⟨fun i hi=>((q i).1 hi).1,i2,fun i j hi hj=>(((q i).1 hi).2 j hj).mem⟩,i3⟩
theorem trim_b {step:List Bool->Option (List Bool ⊕ List Bool)} (h:∀ a,a.length=n->∃ b,b.length=n/\(∀ i,on b i<->on a i/\Co E m (on a) i/\¬ flt i/\∀ j,U i j->on a j)/\step a=some (if b=a then .inr a else .inl b))
  {a0:List Bool} (hl:a0.length=n) (h0:∀ i,on a0 i<->i < n):∃ a,loop step a0=some a/\a.length=n/\Stb E U m flt (on a)/\∀ S,(∀ i,S i->i < n)->Stb E U m flt S->∀ i,S i->on a i:=by
 obtain ⟨a,e,⟨i1,i3⟩,q⟩:=aRK (step:=step) (fun a=>a.length=n/\∀ S,(∀ i,S i->i < n)->Stb E U m flt S->∀ i,S i->on a i) (fun a b=>∀ i,on b i<->on a i/\Co E m (on a) i/\¬ flt i/\∀ j,U i j->on a j) (fun a hI=>by
  obtain ⟨h1,h3⟩:=hI
  obtain ⟨b,g1,g2,g3⟩:=h a h1
  refine ⟨b,⟨g1,fun S hn hS i hi=>(g2 i).2 ⟨h3 S hn hS i hi,(hS.co i hi).mono (h3 S hn hS),hS.ok i hi,fun j hj=>h3 S hn hS j (hS.un i j hi hj)⟩⟩,by omega,fun i hi=>((g2 i).1 hi).1,g2,g3⟩) (a0.count true) a0 (Nat.le_refl _) ⟨hl,fun S hn hS i hi=>(h0 i).2 (hn i hi)⟩
 exact ⟨a,e,i1,⟨fun i hi=>((q i).1 hi).2.1,fun i hi=>((q i).1 hi).2.2.1,fun i j hi hj=>((q i).1 hi).2.2.2 j hj⟩,i3⟩
end
variable {p:aO} {r:aP}
def ctl (p:aO) (s:aH):Bool:=p.C.any fun x=>(iF 40 s).1 == x
def lb (p:aO) (l:Int):aH:=p.S.L.getD l.toNat []
def gE (p:aO) (r:aP) (i j:Nat):Prop:=∃ e∈(bE p r).2,e.F=(i:Int)/\e.To=(j:Int)
def gU (p:aO) (r:aP) (i j:Nat):Prop:=∃ e∈(bE p r).2,e.F=(i:Int)/\e.To=(j:Int)/\ctl p (lb p e.B)=false
def mkB (p:aO) (q:Int × Int):Bool:=p.M.any fun x=>q.1 == x
def blk (p:aO) (r:aP) (q:Int × Int):List Edge:=(bG p q).filter fun e=>(alo r q.2 (kC p.S e)).isNone
def fltB (p:aO) (r:aP) (q:Int × Int):Bool:=(blk p r q).any fun e=>!ctl p (kC p.S e)
def gM (p:aO) (r:aP) (i:Nat):Prop:=∃ q,(bE p r).1[i]?=some q/\mkB p q=true
def gF (p:aO) (r:aP) (i:Nat):Prop:=∃ q,(bE p r).1[i]?=some q/\fltB p r q=true
theorem aQn (hp:bB p.S) (hr:bB r) {i j:Nat} {q:Int × Int} (hi:(bE p r).1[i]?=some q):gE p r i j<->∃ x∈sK p r q (bG p q),(bE p r).1[j]?=some x.2:=by
 constructor
 ·rintro ⟨e,he,h1,h2⟩
  obtain ⟨q',x,i',j',f1,f2,f3,rfl⟩:=aKc hp hr e he
  simp only at h1 h2
  obtain rfl:i'=i:=by omega
  obtain rfl:j'=j:=by omega
  rw [hi] at f1;cases f1
  exact ⟨x,f2,f3⟩
 ·rintro ⟨x,hx,hj⟩
  exact ⟨_,aQj hp hr hi hx hj,rfl,rfl⟩
theorem aQo (hp:bB p.S) (hr:bB r) {i j:Nat} {q:Int × Int} (hi:(bE p r).1[i]?=some q):gU p r i j<->∃ x∈sK p r q (bG p q),(bE p r).1[j]?=some x.2/\ctl p (lb p x.1)=false:=by
 constructor
 ·rintro ⟨e,he,h1,h2,h3⟩
  obtain ⟨q',x,i',j',f1,f2,f3,rfl⟩:=aKc hp hr e he
  simp only at h1 h2 h3
  obtain rfl:i'=i:=by omega
  obtain rfl:j'=j:=by omega
  rw [hi] at f1;cases f1
  exact ⟨x,f2,f3,h3⟩
 ·rintro ⟨x,hx,hj,hc⟩
  exact ⟨_,aQj hp hr hi hx hj,rfl,rfl,hc⟩
end Gv
namespace Gv
open Go
inductive Rt (t:aP):Nat->Prop
 |init:Rt t t.I.toNat
 |step {e:Edge}:e∈t.E->Rt t e.F.toNat->Rt t e.To.toNat
noncomputable def RL (t:aP):List Int:=((List.range t.N.toNat).filter fun k=>cl (Rt t k)).map Int.ofNat
theorem RL_pair (t:aP):(RL t).Pairwise fun a b=>a < b:=by
 unfold RL
 rw [List.pairwise_map]
 refine (List.Pairwise.filter _ List.pairwise_lt_range).imp fun h=>?_
 simp only [Int.ofNat_eq_natCast];omega
theorem aQp (t:aP):(RL t).length<=t.N.toNat:=by
 unfold RL
 rw [List.length_map]
 exact Nat.le_trans (List.length_filter_le _ _) (by simp)
theorem posI_lt {S:List Int} (hS:S.Pairwise fun a b=>a < b) {a b:Int} (ha:a∈S) (hb:b∈S) (h:a < b):pos S a < pos S b:=by
 obtain ⟨i,e1,h1⟩:=uU ha
 obtain ⟨j,e2,h2⟩:=uU hb
 obtain ⟨hi,f1⟩:=List.getElem?_eq_some_iff.1 h1
 obtain ⟨hj,f2⟩:=List.getElem?_eq_some_iff.1 h2
 rw [e1,e2]
 rcases Nat.lt_trichotomy i j with g|g|g
 ·omega
 ·subst g;omega
 ·have:=List.pairwise_iff_getElem.1 hS j i hj hi g
  omega
def aLp (t:aP) (S:List Int):List Edge:=t.E.filterMap fun e=>if 0<=pos S e.F/\0<=pos S e.To then some ⟨pos S e.F,e.B,pos S e.To⟩ else none
def aEV (t:aP) (S:List Int):aP:=⟨(S.length:Int),pos S t.I,t.L,aLp t S⟩
theorem aIt (t:aP) (S:List Int):(aLp t S).length<=t.E.length:=List.length_filterMap_le _ _
theorem aRM {t:aP} (hE:SE t.E) {S:List Int} (hS:S.Pairwise fun a b=>a < b):SE (aLp t S):=by
 unfold SE aLp
 rw [List.pairwise_filterMap]
 refine hE.imp fun {a b} h x hx y hy=>?_
 simp only [Option.ite_none_right_eq_some,Option.some.injEq] at hx hy
 obtain ⟨⟨a1,a2⟩,rfl⟩:=hx
 obtain ⟨⟨b1,b2⟩,rfl⟩:=hy
 rw [aGY] at a1 a2 b1 b2
 rw [mG] at h ⊢
 simp only
 rcases h with h|⟨h1,h|⟨h2,h⟩⟩
 ·exact .inl (posI_lt hS a1 b1 h)
 ·exact .inr ⟨by rw [h1],.inl h⟩
 ·exact .inr ⟨by rw [h1],.inr ⟨h2,posI_lt hS a2 b2 h⟩⟩
theorem aNB {t:aP} (hv:aT t):SE t.E:=by
 refine List.pairwise_iff_getElem.2 fun i j hi hj hij=>?_
 exact aGS (R:=fun a b=>bK a b=true) (fun h1 h2=>aCw h1 h2) (fun k h1 hk=>(hv.2.2.2.2 k hk).2 h1) hij hj
end Gv
namespace Gv
open Go
theorem aLq (xs:List Int) (v:Int) (h:xs.length < 4611686018427387904):aAI xs v=some (pos xs v):=by
 unfold aAI pos
 rw [qR (step:=fun s=>aCF xs v s) xs (fun x=>v == x) (fun k x hk hx=>by
  simp only [aCF,aV hk,if_pos,hx,aA,aQ hk h]
  rw [show (x == v)=(v == x) from by rw [Bool.eq_iff_iff,beq_iff_eq,beq_iff_eq];exact eq_comm]) (by simp only [aCF,aS];rfl),aA]
 cases xs.findIdx? (fun x=>v == x)<;>rfl
theorem aTj {t:aP} (hv:aT t) {S:List Int} (hS:S.length < 1000000000):aGh t S=some (aEV t S):=by
 have h300:=hv.2.2.2.1
 have h12:=hv.2.2.1.2.1
 unfold aGh
 rw [aLq _ _ (by omega),aA,bX (by simp [hX];omega),aA,List.nil_append]
 have:=jY (step:=fun s:List Edge × Int=>yI t S s.1 s.2) t.E (fun k (a:List Edge)=>(a,(k:Int)))
  (fun l a=>a++l.filterMap fun e=>if 0<=pos S e.F/\0<=pos S e.To then some (⟨pos S e.F,e.B,pos S e.To⟩:Edge) else none) (fun k a=>a.length<=k) (fun k out x l hk' hx hI=>?_) (fun out hI=>by simp only [yI,aS];simp) (a:=[]) (by simp)
 ·have this':loop (fun s:List Edge × Int=>yI t S s.1 s.2) (([]:List Edge),0)=_:=this
  rw [this',aA,List.nil_append];rfl
 ·left
  have hI':out.length<=k:=hI
  have hw:=aQ hk' (show t.E.length < 4611686018427387904 by omega)
  simp only [yI,aV hk',if_pos,hx,aA,aLq S _ (show S.length < 4611686018427387904 by omega)]
  rw [List.filterMap_cons]
  by_cases h1:0<=pos S x.F
  ·rw [if_pos (decide_eq_true h1)]
   by_cases h2:0<=pos S x.To
   ·rw [if_pos ⟨h1,h2⟩]
    simp only [yH,uN,decide_eq_true h2,if_pos]
    rw [bX (show out.length+1<=hX by unfold hX;omega),aA,hw]
    exact ⟨_,rfl,by simp;omega,by simp⟩
   ·rw [if_neg (fun h=>h2 h.2)]
    simp only [yH,uN,decide_eq_false h2,hw]
    exact ⟨out,by simp,by omega,rfl⟩
  ·rw [if_neg (by simpa using h1),if_neg (fun h=>h1 h.1)]
   simp only [yH,uN,hw]
   exact ⟨out,by simp,by omega,rfl⟩
theorem Rt_lt {t:aP} (hv:aT t) {i:Nat} (h:Rt t i):i < t.N.toNat:=by
 cases h with
 |init=>have:=hv.2.1;have:=hv.1;omega
 |step he _=>have:=(eB hv he).2.1;have:=hv.1;omega
theorem aPa {n:Nat} (hn:n < 1000000) (f:Nat->Bool) {step:List Int × Int->Option ((List Int × Int) ⊕ List Int)}
  (h:∀ (k:Nat) out,k < n->out.length<=k->step (out,(k:Int))=some (.inl (if f k=true then out++[(k:Int)] else out,((k+1:Nat):Int)))) (h':∀ out,step (out,(n:Int))=some (.inr out)):
  loop step ([],0)=some (((List.range n).filter f).map Int.ofNat):=by
 have:=rV (step:=step) n (fun k (a:List Int)=>(a,(k:Int))) (fun k a=>a++(((List.range n).drop k).filter f).map Int.ofNat) (fun k a=>a.length<=k) (fun k a hk hI=>?_) (fun a _=>?_) n 0 [] (by omega) (by simp)
 ·have this':loop step ([],0)=_:=this
  rw [this'];simp
 ·left
  rw [h k a hk hI]
  have hd:(List.range n).drop k=k::(List.range n).drop (k+1):=by
   rw [List.drop_eq_getElem_cons (by simpa using hk)];simp
  rw [hd,List.filter_cons]
  by_cases hf:f k=true
  ·rw [if_pos hf,if_pos hf]
   exact ⟨_,rfl,by simp;omega,by simp⟩
  ·rw [if_neg hf,if_neg hf]
   exact ⟨a,rfl,by omega,rfl⟩
 ·rw [h',List.drop_of_length_le (by simp)];simp
theorem aRN {t:aP} (hv:aT t):aEA t=some (RL t):=by
 obtain ⟨n,hn⟩:∃ n:Nat,t.N=(n:Int):=⟨t.N.toNat,by have:=hv.1;omega⟩
 obtain ⟨i,hi⟩:∃ i:Nat,t.I=(i:Int):=⟨t.I.toNat,by have:=hv.2.1;omega⟩
 have hn40:n<=40:=by have:=hv.1;omega
 have hin:i < n:=by have:=hv.2.1;omega
 have h300:=hv.2.2.2.1
 have hed:∀ e∈t.E,∃ a b:Nat,e.F=(a:Int)/\e.To=(b:Int)/\a < n/\b < n:=fun e he=>by
  obtain ⟨h1,h2,_⟩:=eB hv he
  exact ⟨e.F.toNat,e.To.toNat,by omega,by omega,by omega,by omega⟩
 have rl:(List.replicate n false).length=n:=List.length_replicate
 have hon0:∀ j,on ((List.replicate n false).set i true) j<->j=i:=fun j=>by
  rw [yA (by rw [rl];exact hin)]
  split
  ·simp_all
  ·rename_i h;rw [aHc];simp [h]
 unfold aEA
 rw [hn,aIb _ (by simp [hX];omega),aA,hi,aX (by rw [rl];exact hin),aA,vO _ (by rw [rl];exact hin),aA]
 obtain ⟨m,hm,hS,hc⟩:=aOZ (ed:=t.E) (n:=n) (fun _=>true) (fun e=>e.F.toNat) (fun e=>e.To.toNat) (inner:=fun s:List Bool × Bool × Int=>aAd t s.1 s.2.1 s.2.2) (outer:=fun s:List Bool × Bool=>aEz t s.1 s.2)
  (fun k hk m ag hm=>by
   obtain ⟨a,b,ea,eb,ha,hb⟩:=hed _ (List.getElem_mem hk)
   have hw:=aQ hk (show t.E.length < 4611686018427387904 by omega)
   have g1:ix m (a:Int)=some (m.getD a false):=by rw [aX (by omega)];simp [List.getD_eq_getElem?_getD,show a < m.length by omega]
   have g2:ix m (b:Int)=some (m.getD b false):=by rw [aX (by omega)];simp [List.getD_eq_getElem?_getD,show b < m.length by omega]
   simp only [aAd,aV hk,if_pos,aX hk,aA,ea,eb,g1,g2,Int.toNat_natCast,Bool.true_and]
   cases h1:m.getD a false with
   |false=>simp [sE,sD,hw]
   |true=>
    cases h2:m.getD b false with
    |true=>simp [sE,sD,hw]
    |false=>simp [sE,sD,hw,aX hk,eb,g2,vO (xs:=m) true (show b < m.length by omega)])
  (fun m ag=>by simp only [aAd,aS];rfl) (fun m _=>rfl) (fun m=>rfl) (fun e he=>by obtain ⟨a,b,ea,eb,ha,hb⟩:=hed e he;simp only [eb,Int.toNat_natCast];exact hb) (Rt t) (m0:=(List.replicate n false).set i true) (by simp) (fun j hj=>by
   rw [(hon0 j).1 hj]
   have:=Rt.init (t:=t)
   rwa [hi,Int.toNat_natCast] at this) (fun e he _ h=>Rt.step he h)
 rw [hm,aA]
 unfold aCG
 have key:∀ j,on m j<->Rt t j:=fun j=>⟨hS.ok j,fun h=>by
  induction h with
  |init=>rw [hi,Int.toNat_natCast];exact hS.has i ((hon0 i).2 rfl)
  |step he _ ih=>exact hc _ he rfl ih⟩
 have:=aPa (n:=n) (by omega) (fun k=>cl (Rt t k)) (step:=fun s:List Int × Int=>aAc t m s.1 s.2) (fun k out hk ho=>by
  have hkm:k < m.length:=by rw [hS.len];exact hk
  have hw:=aQ hk (show n < 4611686018427387904 by omega)
  have hb:m[k]=cl (Rt t k):=by
   rw [aGr (b:=m[k])]
   rw [←key k];unfold on;rw [List.getElem?_eq_getElem hkm];simp
  simp only [aAc,hn,aV hk,if_pos,aX hkm,aA,hb,aAb,hw]
  split
  ·rw [bX (show out.length+1<=hX by unfold hX;omega),aA]
  ·rfl) (fun out=>by simp only [aAc,hn,aS];rfl)
 rw [this,aA]
 unfold RL
 rw [hn,Int.toNat_natCast];rfl
theorem aNC (k:Int) (S:List Int) (h:S.length < 4611686018427387904):vY k S=some (pos S k):=by
 unfold vY
 rw [aOL _ _ h,aA]
theorem Clone_str (xs:List aH) (h:xs.length<=hX):bT xs=some xs:=by
 unfold bT
 rw [bX (by simpa using h),aA,List.nil_append]
theorem part_eq {t:aP} (hv:aT t) {S:List Int} (hS:S.length < 1000000000) (hp:S.Pairwise fun a b=>a < b):aEE t S=some (aEV t S):=by
 have h300:=hv.2.2.2.1
 have h12:=hv.2.2.1.2.1
 unfold aEE
 rw [aNC _ _ (by omega),aA,Clone_str _ (by unfold hX;omega),aA]
 unfold aCJ
 have:=jY (step:=fun s:List Edge × Int=>wA t S s.1 s.2) t.E (fun k (a:List Edge)=>(a,(k:Int)))
  (fun l a=>a++l.filterMap fun e=>if 0<=pos S e.F/\0<=pos S e.To then some (⟨pos S e.F,e.B,pos S e.To⟩:Edge) else none) (fun k a=>a.length<=k) (fun k out x l hk' hx hI=>?_) (fun out hI=>by simp only [wA,aS];simp) (a:=[]) (by simp)
 ·have this':loop (fun s:List Edge × Int=>wA t S s.1 s.2) ([],0)=some (aLp t S):=this
  rw [this',aA]
  unfold aCI aAF
  have hl:=aIt t S
  rw [if_pos (by unfold hX;omega),aRo _ aJl (aRM (aNB hv) hp),aA];rfl
 ·left
  have hI':out.length<=k:=hI
  have hw:=aQ hk' (show t.E.length < 4611686018427387904 by omega)
  simp only [wA,aV hk',if_pos,hx,aA,aNC _ S (show S.length < 4611686018427387904 by omega)]
  rw [List.filterMap_cons]
  by_cases h1:0<=pos S x.F
  ·rw [if_pos (decide_eq_true h1)]
   by_cases h2:0<=pos S x.To
   ·rw [if_pos ⟨h1,h2⟩]
    simp only [vZ,sI,decide_eq_true h2,if_pos]
    rw [bX (show out.length+1<=hX by unfold hX;omega),aA,hw]
    exact ⟨_,rfl,by simp;omega,by simp⟩
   ·rw [if_neg (fun h=>h2 h.2)]
    simp only [vZ,sI,decide_eq_false h2,hw]
    exact ⟨out,by simp,by omega,rfl⟩
  ·rw [if_neg (by simpa using h1),if_neg (fun h=>h1 h.1)]
   simp only [vZ,sI,hw]
   exact ⟨out,by simp,by omega,rfl⟩
end Gv
namespace Gv
open Go
theorem aND (b:Int) (n:Nat) (h1:1<=n) (h:n<=100000):fB [b] (n:Int)=some (List.replicate n b):=by
 unfold fB
 rw [if_neg (by simp)]
 unfold gA
 have hm:aKX (rY (([b]:List Int).length:Int)) (rY (n:Int))=some (0,(n:Int)):=by
  have e1:rY (([b]:List Int).length:Int)=1:=by simp [rY]
  have e2:rY (n:Int)=(n:Int):=by unfold rY;omega
  rw [e1,e2];unfold aKX
  rw [if_pos ⟨by omega,by omega,by omega,by omega⟩]
  simp only [Int.one_mul,Option.some.injEq,Prod.mk.injEq]
  omega
 rw [hm,aA]
 simp only
 rw [if_neg (by simp),decide_eq_false (p:=(9223372036854775807:Int) < (n:Int)) (by omega)]
 unfold eE
 rw [if_neg (by simp)]
 unfold fZ
 simp only
 rw [dE (by omega) (by omega),aIb _ (by simp [hX];omega),aA]
 have hmin:Nat.min ([b]:List Int).length (List.replicate n (0:Int)).length=1:=by
  show min _ _=1
  simp;omega
 rw [hmin]
 have ho:ovw (List.replicate n (0:Int)) 0 (([b]:List Int).take 1)=some (b::List.replicate (n - 1) (0:Int)):=by
  unfold ovw
  rw [if_pos ⟨by omega,by simp;omega⟩]
  simp
 rw [ho,aA]
 have hL:=qS (step:=fun s:List Int × Int=>fY s.1 s.2) (fun s=>1<=s.2/\s.2<=n/\s.1.length=n/\s.1.take s.2.toNat=List.replicate s.2.toNat b) (fun s=>(n - s.2).toNat) (fun r=>r=List.replicate n b) (fun s hI=>?_) (s:=(b::List.replicate (n - 1) (0:Int),1)) ⟨by simp,by simp only;omega,by simp;omega,by simp⟩
 ·obtain ⟨r,hr,hR⟩:=hL
  rw [show (((1:Nat):Int))=1 from rfl,hr,aA,hR];rfl
 ·obtain ⟨m,i⟩:=s
  obtain ⟨h1,h2,h3,h4⟩:=hI
  simp only at h1 h2 h3 h4 ⊢
  obtain ⟨k,rfl⟩:∃ k:Nat,i=(k:Int):=⟨i.toNat,by omega⟩
  rw [Int.toNat_natCast] at h4
  unfold fY
  by_cases hk:k < n
  ·left
   have s1:qT m (k:Int) (m.length:Int)=some (m.drop k):=by
    unfold qT;rw [if_pos ⟨by omega,by omega,by omega⟩]
    rw [Int.toNat_natCast,Int.toNat_natCast,List.take_of_length_le (by simp)]
   have s2:qT m 0 (k:Int)=some (m.take k):=by
    unfold qT;rw [if_pos ⟨by omega,by omega,by omega⟩];simp
   rw [h3] at s1 ⊢
   rw [if_pos (aV hk),s1,aA,s2,aA,h4]
   have hl:(m.drop k).length=n - k:=by simp [h3]
   rw [hl,List.length_replicate]
   generalize hd:Nat.min k (n - k)=d
   have hd1:d<=k/\d<=n - k/\1<=d:=by
    have:Nat.min k (n - k)=min k (n - k):=rfl
    omega
   have hov:ovw m (k:Int) ((List.replicate k b).take d)=some (List.replicate (k+d) b++m.drop (k+d)):=by
    unfold ovw
    have hl2:((List.replicate k b).take d).length=d:=by simp;omega
    rw [if_pos ⟨by omega,by rw [hl2,Int.toNat_natCast];omega⟩,hl2,Int.toNat_natCast,h4,List.take_replicate]
    rw [show min d k=d by omega,List.replicate_append_replicate]
   rw [hov,aA]
   have hw:wr ((k:Int)+((d:Nat):Int))=((k+d:Nat):Int):=by rw [dE (by omega) (by omega)];omega
   rw [hw]
   refine ⟨_,rfl,⟨by simp only;omega,by simp only;omega,by simp [h3];omega,?_⟩,by simp only;omega⟩
   simp only [Int.toNat_natCast]
   rw [List.take_append_of_le_length (by simp),List.take_of_length_le (by simp)]
  ·right
   obtain rfl:k=n:=by omega
   rw [h3,if_neg (by simp)]
   rw [List.take_of_length_le (by omega)] at h4
   exact ⟨_,rfl,h4⟩
theorem aLr {xs:List Int} {k:Nat} (h:k < xs.length):ix xs (k:Int)=some (xs.getD k (-1)):=by
 rw [aX h];simp [List.getD_eq_getElem?_getD,h]
theorem aQq {t:aP} (hv:aT t):∃ out,lA t [t.I] true=some out/\out.length=t.N.toNat/\∀ i,vis out i<->Rt t i:=by
 obtain ⟨n,hn⟩:∃ n:Nat,t.N=(n:Int):=⟨t.N.toNat,by have:=hv.1;omega⟩
 obtain ⟨i,hi⟩:∃ i:Nat,t.I=(i:Int):=⟨t.I.toNat,by have:=hv.2.1;omega⟩
 have hn40:1<=n/\n<=40:=by have:=hv.1;omega
 have hin:i < n:=by have:=hv.2.1;omega
 have h300:=hv.2.2.2.1
 have hed:∀ e∈t.E,∃ a b:Nat,e.F=(a:Int)/\e.To=(b:Int)/\a < n/\b < n:=fun e he=>by
  obtain ⟨h1,h2,_⟩:=eB hv he
  exact ⟨e.F.toNat,e.To.toNat,by omega,by omega,by omega,by omega⟩
 have rl:(List.replicate n (-1:Int)).length=n:=List.length_replicate
 have nv:∀ j,¬ vis (List.replicate n (-1:Int)) j:=fun j h=>by
  unfold vis at h
  rw [List.getD_eq_getElem?_getD,List.getElem?_replicate] at h
  split at h<;>simp at h
 have hn0:neg (List.replicate n (-1:Int))=n:=by unfold neg;rw [List.countP_replicate];simp
 have hns:=aLW (v:=0) (Int.le_refl 0) (out:=List.replicate n (-1:Int)) (j:=i) (by rw [rl];exact hin) (nv i)
 have hv0:∀ j,vis ((List.replicate n (-1:Int)).set i 0) j<->j=i:=fun j=>by
  rw [aCL (by rw [rl];exact hin) (Int.le_refl 0)]
  exact ⟨fun h=>h.resolve_right (nv j),.inl⟩
 unfold lA
 rw [hn,aND _ n hn40.1 (by omega),aA]
 unfold bP
 rw [bX (by simp [hX]),aA,aA,List.nil_append,hi]
 rw [bA]
 simp only [gG]
 rw [if_pos (by simp),show ix [(i:Int)] 0=some (i:Int) from rfl,aA,aX (by rw [rl];exact hin),aA,vO _ (by rw [rl];exact hin),aA]
 simp only
 rw [bA]
 simp only [gG]
 rw [if_neg (by simp [wr]),aA]
 unfold pP
 obtain ⟨out,h1,h2,h3,h4,h5⟩:=aRL (ed:=t.E) (n:=n) (by omega) (fun e=>e.F.toNat) (fun e=>e.To.toNat) (inner:=fun q (s:List Int × List Int × Int)=>iB t true q s.1 s.2.1 s.2.2) (outer:=fun s:List Int × List Int=>mA t true s.1 s.2)
  (fun q k hk out todo hl hq htd htop=>by
   obtain ⟨a,b,ea,eb,ha,hb⟩:=hed _ (List.getElem_mem hk)
   have hw:=aQ hk (show t.E.length < 4611686018427387904 by omega)
   have hx:=aX hk
   generalize t.E[k]=e at hx ea eb ⊢
   obtain ⟨eF,eL,eT⟩:=e
   simp only at ea eb
   subst ea eb
   simp only [iB,aV hk,if_pos,hx,aA,Bool.not_true,Bool.false_eq_true,if_false,lZ,Int.toNat_natCast]
   by_cases hqa:a=q
   ·subst hqa
    rw [if_pos (by simp),aLr (by omega),aA]
    unfold iA
    by_cases hvb:vis out b
    ·rw [if_neg (by unfold vis at hvb;simp only [decide_eq_true_eq];omega),if_neg (fun h=>h.2 hvb)]
     simp only [eP,hw]
    ·rw [if_pos (by unfold vis at hvb;simp only [decide_eq_true_eq];omega),if_pos ⟨rfl,hvb⟩,aLr (by omega),aA,aLr (by omega),aA,vO _ (by omega),aA,bX (by simp [hX];omega),aA]
     simp only [eP,hw]
   ·rw [if_neg (by simp;omega),if_neg (fun h=>hqa h.1)]
    unfold iA
    rw [if_neg (by simp)]
    simp only [eP,hw])
  (fun q out todo=>by simp only [iB,aS];rfl)
  (fun out q todo hl hq htd=>by
   have hs:qT ((q:Int)::todo) 1 (((q:Int)::todo).length:Int)=some todo:=by
    unfold qT
    rw [if_pos ⟨by omega,by simp;omega,by simp⟩]
    simp
   simp only [mA]
   rw [if_pos (by simp),show ix ((q:Int)::todo) 0=some (q:Int) from rfl,aA,hs,aA]
   rfl)
  (fun out=>rfl) (fun e he=>by obtain ⟨a,b,ea,eb,ha,hb⟩:=hed e he;simp only [eb,Int.toNat_natCast];exact hb) (Rt t) (fun e he h=>Rt.step he h) (s0:=((List.replicate n (-1:Int)).set i 0,[(i:Int)]))
  ⟨by
    simp,fun j hj=>by
    rw [(hv0 j).1 hj]
    have:=Rt.init (t:=t)
    rwa [hi,Int.toNat_natCast] at this,fun x hx=>by simp at hx;exact ⟨i,hx,(hv0 i).2 rfl⟩,fun j hj hm=>by rw [(hv0 j).1 hj] at hm;simp at hm,fun j=>by
    simp only
    by_cases e:j=i
    ·subst e
     rw [List.getD_eq_getElem?_getD,List.getElem?_set_self (by rw [rl];exact hin)]
     simp only [Option.getD_some];omega
    ·have:¬ vis ((List.replicate n (-1:Int)).set i 0) j:=fun h=>e ((hv0 j).1 h)
     unfold vis at this;omega⟩ (by simp only [List.length_singleton];omega)
 rw [h1,aA]
 refine ⟨out,rfl,by rw [h2];rfl,fun j=>⟨h3 j,fun h=>?_⟩⟩
 induction h with
 |init=>rw [hi,Int.toNat_natCast];exact h5 i ((hv0 i).2 rfl)
 |step he _ ih=>exact h4 _ ih _ he rfl
theorem aOl {xs far:List Int} {p:Int->Bool} (hl:xs.length < 1000000) (hp:∀ x∈xs,pQ x far=some (p x)):dY xs far=some (xs.filter fun x=>!p x):=by
 unfold dY
 have e:dJ xs far=some (match xs.findIdx? p with|none=>-1|some i=>(i:Int)):=by
  unfold dJ
  rw [qR (step:=fun s=>cU xs far s) xs p (fun k x hk hx=>by
   obtain ⟨hk',rfl⟩:=oW hx
   simp only [cU,aV hk,if_pos,hx,aA,hp _ (List.getElem_mem hk'),aQ hk (show xs.length < 4611686018427387904 by omega)]) (by simp only [cU,aS];rfl),aA]
  cases xs.findIdx? p<;>rfl
 rw [e,aA]
 cases hf:xs.findIdx? p with
 |none=>
  have:xs.filter (fun x=>!p x)=xs:=List.filter_eq_self.2 fun x hx=>by have:=List.findIdx?_eq_none_iff.1 hf x hx;simp [this]
  rw [if_pos (by rfl),this]
 |some i0=>
  obtain ⟨hi0,hpi,hlt⟩:=List.findIdx?_eq_some_iff_getElem.1 hf
  rw [if_neg (by simp)]
  have:=dZ (step:=fun s:List Int × Int × Int=>cJ far s.1 s.2.1 s.2.2) xs.length (fun j (a:List Int × Nat)=>(a.1,(a.2:Int),(j:Int)))
   (fun j a=>a.1.length=xs.length/\a.2 < j/\a.1.take a.2=(xs.take j).filter (fun x=>!p x)/\a.1.drop j=xs.drop j) (fun r=>∃ i:Nat,r.2=(i:Int)/\r.1.length=xs.length/\i<=xs.length/\r.1.take i=xs.filter fun x=>!p x) (fun j a hj hI=>?_) (fun a hI=>?_) (xs.length - (i0+1)) (i0+1) (xs,i0) (by omega) ⟨rfl,by simp,?_,rfl⟩
  ·obtain ⟨r,hr,i,h1,h2,h3,h4⟩:=this
   have hr':loop (fun s:List Int × Int × Int=>cJ far s.1 s.2.1 s.2.2) (xs,(i0:Int),((i0+1:Nat):Int))=some r:=hr
   simp only
   rw [aQ (n:=xs.length) hi0 (by omega),hr',aA]
   unfold eQ
   have s1:qT r.1 (i:Int) (r.1.length:Int)=some (r.1.drop i):=by
    unfold qT;rw [if_pos ⟨by omega,by omega,by omega⟩]
    rw [Int.toNat_natCast,Int.toNat_natCast,List.take_of_length_le (by simp)]
   rw [h1,s1,aA]
   have o1:ovw r.1 (i:Int) (List.replicate (r.1.drop i).length (0:Int))=some (r.1.take i++List.replicate (r.1.drop i).length (0:Int)):=by
    unfold ovw
    rw [if_pos ⟨by omega,by simp only [Int.toNat_natCast,List.length_replicate,List.length_drop];omega⟩]
    simp only [Int.toNat_natCast,List.length_replicate,List.length_drop]
    rw [List.drop_of_length_le (by omega),List.append_nil]
   rw [o1,aA]
   have s2:qT (r.1.take i++List.replicate (r.1.drop i).length (0:Int)) 0 (i:Int)=some (r.1.take i):=by
    unfold qT;rw [if_pos ⟨by omega,by omega,by simp;omega⟩]
    simp only [Int.toNat_natCast,Int.toNat_zero,List.drop_zero,Nat.sub_zero]
    rw [List.take_append_of_le_length (by simp;omega),List.take_of_length_le (by simp;omega)]
   rw [s2,aA,h4]
  ·obtain ⟨s,i⟩:=a
   obtain ⟨h1,h2,h3,h4⟩:=hI
   simp only at h1 h2 h3 h4
   have hsj:s[j]'(by omega)=xs[j]:=by
    have a1:=List.drop_eq_getElem_cons (l:=s) (i:=j) (by omega)
    have a2:=List.drop_eq_getElem_cons (l:=xs) (i:=j) hj
    rw [a1,a2] at h4
    exact (List.cons.inj h4).1
   have hd:s.drop (j+1)=xs.drop (j+1):=by
    rw [←List.drop_drop (i:=1) (j:=j),←List.drop_drop (i:=1) (j:=j),h4]
   have ht:(xs.take (j+1)).filter (fun x=>!p x)=(xs.take j).filter (fun x=>!p x)++(if p xs[j]=true then [] else [xs[j]]):=by
    rw [List.take_add_one,List.getElem?_eq_getElem hj,List.filter_append]
    simp only [Option.toList_some]
    cases hq:p xs[j]<;>simp [hq]
   have hw:=aQ hj (show xs.length < 4611686018427387904 by omega)
   simp only [cJ,h1,aV hj,if_pos,aX (xs:=s) (k:=j) (by omega),aA,hsj,hp _ (List.getElem_mem hj),dB,hw]
   cases hpj:p xs[j] with
   |true=>
    refine ⟨(s,i),rfl,h1,by simp only;omega,?_,hd⟩
    rw [ht,hpj];simpa using h3
   |false=>
    simp only [Bool.not_false,if_pos]
    rw [aX (by omega),aA,vO _ (by omega),aA,aQ (show i < xs.length by omega) (by omega)]
    refine ⟨(s.set i xs[j],i+1),rfl,by simpa using h1,by simp only;omega,?_,?_⟩
    ·rw [ht,hpj]
     simp only [Bool.false_eq_true,if_false]
     rw [List.take_add_one,List.getElem?_set_self (by omega),List.take_set_of_le (Nat.le_refl _),h3];rfl
    ·simp only
     rw [List.drop_set_of_lt (by omega)];exact hd
  ·obtain ⟨s,i⟩:=a
   obtain ⟨h1,h2,h3,h4⟩:=hI
   simp only at h1 h2 h3 h4
   refine ⟨(s,(i:Int)),by simp only [cJ,h1,aS];rfl,i,rfl,h1,by omega,?_⟩
   rw [List.take_length] at h3;exact h3
  ·rw [List.take_add_one,List.getElem?_eq_getElem hi0,List.filter_append]
   simp only [Option.toList_some]
   rw [List.filter_eq_self.2 (fun x hx=>by
    obtain ⟨j,hj,rfl⟩:=List.getElem_of_mem hx
    rw [List.length_take] at hj
    rw [List.getElem_take]
    have:=hlt j (by omega)
    simpa using this)]
   simp [hpi]
theorem aKe {t:aP} (hv:aT t):qN t=some (RL t):=by
 obtain ⟨n,hn⟩:∃ n:Nat,t.N=(n:Int):=⟨t.N.toNat,by have:=hv.1;omega⟩
 have hn40:n<=40:=by have:=hv.1;omega
 obtain ⟨out,h1,h2,h3⟩:=aQq hv
 rw [hn,Int.toNat_natCast] at h2
 unfold qN
 rw [h1,aA]
 have hu:aMA t.N=some ((List.range n).map Int.ofNat):=by
  unfold aMA
  have:=aPa (n:=n) (by omega) (fun _=>true) (step:=fun s:List Int × Int=>aIo t.N s.1 s.2) (fun k out hk ho=>by
   simp only [aIo,hn,aV hk,if_pos,aQ hk (show n < 4611686018427387904 by omega)]
   rw [bX (show out.length+([(k:Int)]:List Int).length<=hX by simp [hX];omega),aA]) (fun out=>by simp only [aIo,hn,aS];rfl)
  rw [this,aA,List.filter_eq_self.2 (fun _ _=>rfl)];rfl
 rw [hu,aA,aOl (p:=fun k=>decide (out.getD k.toNat (-1) < 0)) (by simp;omega) (fun x hx=>by
  obtain ⟨k,hk,rfl⟩:=List.mem_map.1 hx
  rw [List.mem_range] at hk
  simp only [pQ,Int.ofNat_eq_natCast,aLr (show k < out.length by omega),aA,Int.toNat_natCast]),aA]
 unfold RL
 rw [hn,Int.toNat_natCast,List.filter_map]
 congr 2
 refine List.filter_congr fun k _=>?_
 rw [aGr (P:=Rt t k) (b:=!decide (out.getD k (-1) < 0)) (by rw [←h3 k];unfold vis;simp)]
 rfl
end Gv
namespace Gv
open Go
variable {p:aO} {r:aP}
theorem aRO (n:Nat) (h:n<=2000):aEx (n:Int)=some (List.replicate n true):=by
 unfold aEx
 rw [aIb _ (by simp [hX];omega),aA]
 have:=rV (step:=fun s:List Bool × Int=>vU (n:Int) s.1 s.2) n (fun k (a:List Bool)=>(a,(k:Int))) (fun _ _=>List.replicate n true) (fun k a=>a.length=n/\∀ i,on a i<->i < k) (fun k a hk hI=>?_) (fun a hI=>?_) n 0 (List.replicate n false) (by omega) ⟨by simp,fun i=>by rw [aHc];simp⟩
 ·have this':loop (fun s:List Bool × Int=>vU (n:Int) s.1 s.2) (List.replicate n false,0)=_:=this
  rw [this',aA];rfl
 ·left
  obtain ⟨h1,h2⟩:=hI
  simp only [vU,aV hk,if_pos,aX (show k < a.length by omega),aA,vO _ (show k < a.length by omega),aQ hk (show n < 4611686018427387904 by omega)]
  refine ⟨a.set k true,rfl,⟨by simpa using h1,fun i=>?_⟩,by trivial⟩
  rw [yA (by omega)]
  split
  ·simp;omega
  ·rw [h2];omega
 ·obtain ⟨h1,h2⟩:=hI
  simp only [vU,aS]
  have:a=List.replicate n true:=on_ext (by simpa using h1) fun i=>by rw [h2,aHc];simp
  rw [this];rfl
theorem aLG (s:aH) (h:s.length < 4611686018427387904):aBB s=some (iF 40 s).1:=by
 unfold aBB
 rw [aMN s h,aA]
 have ha:=aDU 40 s
 have hl:=(aOM 40 s).1
 have:qT s 0 ((iF 40 s).1.length:Int)=some (iF 40 s).1:=by
  unfold qT
  rw [if_pos ⟨by omega,by omega,by omega⟩]
  simp only [Int.toNat_natCast,Int.toNat_zero,List.drop_zero,Nat.sub_zero]
  congr 1
  generalize iF 40 s=c at ha ⊢
  rw [ha,List.take_append_of_le_length (Nat.le_refl _),List.take_length]
 rw [this];rfl
theorem lb_ix (hv:aT p.S) {l:Int} (h0:0<=l) (h1:l < p.S.L.length):ix p.S.L l=some (lb p l):=by
 obtain ⟨k,rfl⟩:∃ k:Nat,l=(k:Int):=⟨l.toNat,by omega⟩
 rw [aX (by omega)]
 unfold lb
 simp [List.getD_eq_getElem?_getD,show k < p.S.L.length by omega]
structure aKO (p:aO):Prop where
 labs:∀ s∈p.S.L,s.length < 1000000000
 ctl:p.C.length < 1000000000
theorem iO.small (h:iO 999999999 p):aKO p:=⟨fun s hs=>by have:=h.sys.2.1 s hs;omega,by have:=h.len;omega⟩
theorem lb_mem {l:Int} (h0:0<=l) (h1:l < p.S.L.length):lb p l∈p.S.L:=by
 unfold lb
 rw [List.getD_eq_getElem?_getD,List.getElem?_eq_getElem (show l.toNat < p.S.L.length by omega)]
 exact List.getElem_mem _
theorem aRP (hs:aKO p) (hv:aT p.S) (F:List (List Int)) (E:List Edge) (b:Bool) {l:Int} (h0:0<=l) (h1:l < p.S.L.length):jG p r F E b l=some (ctl p (lb p l)):=by
 unfold jG
 rw [lb_ix hv h0 h1,aA,aLG _ (by have:=hs.labs _ (lb_mem h0 h1);omega),aA,aAR _ _ (by have:=hs.ctl;omega),aA,aPS]
 rfl
theorem aTk (hp:bB p.S) (hr:bB r) (E:List Edge) (b:Bool) {F:List (Int × Int)} {i:Nat} {q:Int × Int} (hi:F[i]?=some q):lJ p r (F.map R2) E b (i:Int)=some ((blk p r q).map (·.B)):=by
 have hrow:ix (F.map R2) (i:Int)=some (R2 q):=by rw [lR,List.getElem?_map,hi];rfl
 have hol:=uF hp.1 q
 unfold lJ
 rw [hrow,aA,show ix (R2 q) 0=some q.1 from rfl,aA,aOP _ _ (by have:=hp.1.2.2.2.1;omega),aA]
 rw [show (p.S.E.filter fun e=>e.F == q.1)=bG p q from rfl]
 have:=jY (step:=fun s:List Int × Int=>gC p r (R2 q) (bG p q) s.1 s.2) (bG p q) (fun k (a:List Int)=>(a,(k:Int)))
  (fun l a=>a++(l.filter fun e=>(alo r q.2 (kC p.S e)).isNone).map (·.B)) (fun k a=>a.length<=k) (fun k out x l hk' hx hI=>?_) (fun out hI=>by simp only [gC,aS];simp) (a:=[]) (by simp)
 ·have this':loop (fun s:List Int × Int=>gC p r (R2 q) (bG p q) s.1 s.2) (([]:List Int),0)=_:=this
  rw [this',aA];rfl
 ·left
  have hI':out.length<=k:=hI
  obtain ⟨hk2,rfl⟩:=oW hx
  have he:=pX _ (List.getElem_mem hk2)
  have hw:=aQ hk' (show (bG p q).length < 4611686018427387904 by omega)
  obtain ⟨z,hz,_⟩:=aRw hr q.2 (kC p.S (bG p q)[k])
  simp only [gC,aV hk',if_pos,show ix (R2 q) 1=some q.2 from rfl,hx,aA,oQ (eB hp.1 he),hz]
  rw [List.filter_cons]
  cases alo r q.2 (kC p.S (bG p q)[k]) with
  |none=>
   simp only [Option.isSome_none,Option.isNone_none,Bool.not_false,if_pos]
   rw [bX (show out.length+([(bG p q)[k].B]:List Int).length<=hX by simp [hX];omega),aA]
   simp only [gB,hw]
   exact ⟨_,rfl,by simp;omega,by simp⟩
  |some z=>
   simp only [Option.isSome_some,Option.isNone_some,Bool.not_true,Bool.false_eq_true,if_false,gB,hw]
   exact ⟨out,rfl,by omega,rfl⟩
theorem aQr {q:Int × Int}:∀ e∈blk p r q,e∈p.S.E:=fun e he=>pX e (List.mem_filter.1 he).1
theorem aRQ (hv:aT p.S) (q:Int × Int):(blk p r q).length<=300:=Nat.le_trans (List.length_filter_le _ _) (uF hv q)
theorem aTl (hs:aKO p) (hp:bB p.S) (hr:bB r) (E:List Edge) (b:Bool) {F:List (Int × Int)} {i:Nat} {q:Int × Int} (hi:F[i]?=some q):∃ z,oI p r (F.map R2) E b (i:Int)=some z/\(z < 0<->fltB p r q=false):=by
 have hbl:=aRQ (r:=r) hp.1 q
 have hlab:∀ e∈blk p r q,0<=e.B/\e.B < p.S.L.length:=fun e he=>by
  have:=(eB hp.1 (aQr e he)).2.2;omega
 unfold oI
 rw [aTk hp hr E b hi,aA]
 have:=jY (step:=fun s:Int=>kN p r (F.map R2) E b ((blk p r q).map (·.B)) s) ((blk p r q).map (·.B)) (fun k (_:Unit)=>(k:Int)) (fun l _=>(match l.find? (fun x=>!ctl p (lb p x)) with|none=>.inl ()|some x=>.inr x:Unit ⊕ Int)) (fun _ _=>True) (fun k a x l hk hx _=>?_) (fun a _=>by simp only [kN,aS];rfl) (a:=()) trivial
 ·have this':loop (fun s:Int=>kN p r (F.map R2) E b ((blk p r q).map (·.B)) s) 0=_:=this
  rw [this',aA]
  have hany:fltB p r q=((blk p r q).map (·.B)).any fun x=>!ctl p (lb p x):=by
   unfold fltB;rw [List.any_map];rfl
  cases hf:((blk p r q).map (·.B)).find? (fun x=>!ctl p (lb p x)) with
  |none=>
   refine ⟨-1,rfl,?_⟩
   rw [hany,List.any_eq_false]
   exact ⟨fun _ x hx=>by have:=List.find?_eq_none.1 hf x hx;simpa using this,fun _=>by omega⟩
  |some x=>
   refine ⟨x,rfl,?_⟩
   have hm:=List.mem_of_find?_eq_some hf
   have hx:=List.find?_some hf
   obtain ⟨e,he,rfl⟩:=List.mem_map.1 hm
   have:=hlab e he
   rw [hany,List.any_eq_false]
   exact ⟨fun h=>by omega,fun h=>absurd hx (h _ hm)⟩
 ·obtain ⟨hk2,rfl⟩:=oW hx
  have hl:=hlab _ (List.getElem_mem (show k < (blk p r q).length by simpa using hk2))
  have hw:=aQ hk (show ((blk p r q).map (·.B)).length < 4611686018427387904 by simp;omega)
  simp only [kN,aV hk,if_pos,hx,aA,hw]
  have hl':0<=((blk p r q).map (·.B))[k]/\((blk p r q).map (·.B))[k] < p.S.L.length:=by simpa using hl
  rw [aRP hs hp.1 _ _ _ hl'.1 hl'.2,aA,List.find?_cons]
  cases ctl p (lb p ((blk p r q).map (·.B))[k]) with
  |true=>left;exact ⟨(),by simp,trivial,by simp⟩
  |false=>right;simp
theorem aRR (a b:List Bool) (h:a.length=b.length) (hl:a.length < 4611686018427387904):aEy a b=some (decide (a=b)):=by
 unfold aEy
 refine Eq.trans ?_ (aML h (step:=fun s=>aCE a b s) ?_ ?_)
 ·rfl
 ·intro k x y hk hx hy
  simp only [aCE,aV hk,if_pos,hx,hy,aA,aQ hk hl]
  by_cases e:x=y<;>simp [e]
 ·simp only [aCE,aS];rfl
abbrev FQ (p:aO) (r:aP):List (Int × Int):=(bE p r).1
theorem gM_iff {i:Nat} {q:Int × Int} (hi:(FQ p r)[i]?=some q):gM p r i<->mkB p q=true:=
 ⟨fun ⟨q',h1,h2⟩=>by rw [show (bE p r).1[i]?=some q from hi] at h1;cases h1;exact h2,fun h=>⟨q,hi,h⟩⟩
theorem gF_iff {i:Nat} {q:Int × Int} (hi:(FQ p r)[i]?=some q):gF p r i<->fltB p r q=true:=
 ⟨fun ⟨q',h1,h2⟩=>by rw [show (bE p r).1[i]?=some q from hi] at h1;cases h1;exact h2,fun h=>⟨q,hi,h⟩⟩
theorem fin_nums (hp:bB p.S) (hr:bB r):∀ e∈(bE p r).2,∃ a b:Nat,e.F=(a:Int)/\e.To=(b:Int)/\a < (FQ p r).length/\b < (FQ p r).length/\0<=e.B/\e.B < p.S.L.length:=fun e he=>by
 obtain ⟨q,x,i,j,h1,h2,h3,rfl⟩:=aKc hp hr e he
 exact ⟨i,j,rfl,rfl,(List.getElem?_eq_some_iff.1 h1).1,(List.getElem?_eq_some_iff.1 h3).1,(aGv hp.1 h2).1,(aGv hp.1 h2).2⟩
theorem bgd {m:List Bool} {k:Nat} (h:k < m.length):ix m (k:Int)=some (m.getD k false):=by
 rw [aX h];simp [List.getD_eq_getElem?_getD,h]
theorem aTo (hm:p.M.length < 1000000000) (alive:List Bool) (hl:alive.length=(FQ p r).length) (hn:(FQ p r).length<=1600):∃ g,loop (fun s:List Bool × Int=>pE p ((FQ p r).map R2) alive s.1 s.2) (List.replicate (FQ p r).length false,0)=some g/\g.length=(FQ p r).length/\∀ i,on g i<->on alive i/\gM p r i:=by
 have:=dZ (step:=fun s:List Bool × Int=>pE p ((FQ p r).map R2) alive s.1 s.2) (FQ p r).length (fun k (a:List Bool)=>(a,(k:Int))) (fun k a=>a.length=(FQ p r).length/\∀ i,on a i<->i < k/\on alive i/\gM p r i) (fun g=>g.length=(FQ p r).length/\∀ i,on g i<->on alive i/\gM p r i) (fun k a hk hI=>?_) (fun a hI=>?_) (FQ p r).length 0 (List.replicate (FQ p r).length false) (by omega) ⟨by simp,fun i=>by rw [aHc];simp⟩
 ·exact this
 ·obtain ⟨h1,h2⟩:=hI
  have hq:(FQ p r)[k]?=some (FQ p r)[k]:=List.getElem?_eq_getElem hk
  have hrow:ix ((FQ p r).map R2) (k:Int)=some (R2 (FQ p r)[k]):=by rw [lR,List.getElem?_map,hq];rfl
  have hw:=aQ hk (show (FQ p r).length < 4611686018427387904 by omega)
  simp only [pE,hl,aV hk,if_pos,bgd (show k < alive.length by omega),aA,hrow,show ix (R2 (FQ p r)[k]) 0=some (FQ p r)[k].1 from rfl,l00Has_eq _ _ hm,aX (show k < a.length by omega),vO _ (show k < a.length by omega),tL,hw]
  have key:∀ b:Bool,(b=true<->on alive k/\gM p r k)->∀ i,on (a.set k b) i<->i < k+1/\on alive i/\gM p r i:=fun b hb i=>by
   rw [yA (by omega)]
   split
   ·rename_i e;subst e;rw [hb]
    exact ⟨fun h=>⟨by omega,h⟩,fun h=>h.2⟩
   ·rw [h2]
    exact ⟨fun h=>⟨by omega,h.2⟩,fun h=>⟨by omega,h.2⟩⟩
  cases ha:alive.getD k false with
  |true=>
   simp only [if_pos]
   exact ⟨_,rfl,by simpa using h1,key _ (by rw [gM_iff hq,←mT,ha];simp [mkB])⟩
  |false=>
   simp only [Bool.false_eq_true,if_false]
   exact ⟨_,rfl,by simpa using h1,key _ (by rw [←mT,ha];simp)⟩
 ·obtain ⟨h1,h2⟩:=hI
  exact ⟨a,by simp only [pE,hl,aS];rfl,h1,fun i=>by rw [h2];exact ⟨fun h=>h.2,fun h=>⟨by have:=aOY h.1;omega,h⟩⟩⟩
theorem trim_sat {ed:List Edge} {n:Nat} (hnum:∀ e∈ed,∃ a b:Nat,e.F=(a:Int)/\e.To=(b:Int)/\a < n/\b < n/\0<=e.B/\e.B < p.S.L.length) (hed:ed.length < 1000000) {alive g:List Bool} (hl:alive.length=n) (hg:g.length=n) (P:Nat->Prop) (h0:∀ i,on g i->P i) (hP:∀ e∈ed,on alive e.F.toNat->on alive e.To.toNat->P e.To.toNat->P e.F.toNat):
  ∃ m,loop (fun s:List Bool × Bool=>yL ed alive s.1 s.2) (g,true)=some m/\aLF n P g m/\∀ e∈ed,on alive e.F.toNat->on alive e.To.toNat->on m e.To.toNat->on m e.F.toNat:=by
 obtain ⟨m,h1,h2,h3⟩:=aOZ (ed:=ed) (n:=n) (fun e=>alive.getD e.F.toNat false&&alive.getD e.To.toNat false) (fun e=>e.To.toNat) (fun e=>e.F.toNat) (inner:=fun s:List Bool × Bool × Int=>tK ed alive s.1 s.2.1 s.2.2) (outer:=fun s:List Bool × Bool=>yL ed alive s.1 s.2)
  (fun k hk m ag hml=>by
   obtain ⟨a,c,ea,ec,ha,hc,_⟩:=hnum _ (List.getElem_mem hk)
   have hw:=aQ hk (show ed.length < 4611686018427387904 by omega)
   have hx:=aX hk
   generalize ed[k]=e at hx ea ec ⊢
   obtain ⟨eF,eL,eT⟩:=e
   simp only at ea ec
   subst ea ec
   simp only [tK,aV hk,if_pos,hx,aA,bgd (show a < alive.length by omega),bgd (show c < alive.length by omega),bgd (show a < m.length by omega),bgd (show c < m.length by omega),Int.toNat_natCast,lU,vC,vO true (show a < m.length by omega),hw]
   cases alive.getD a false<;>cases alive.getD c false<;>cases m.getD c false<;>cases m.getD a false<;>simp)
  (fun m ag=>by simp only [tK,aS];rfl) (fun m _=>rfl) (fun m=>rfl) (fun e he=>by obtain ⟨a,c,ea,ec,ha,hc,_⟩:=hnum e he;simp only [ea,Int.toNat_natCast];exact ha) P (m0:=g) hg h0 (fun e he hce h=>by
   simp only [Bool.and_eq_true,mT] at hce
   exact hP e he hce.1 hce.2 h)
 exact ⟨m,h1,h2,fun e he a b c=>h3 e he (by simp only [Bool.and_eq_true,mT];exact ⟨a,b⟩) c⟩
theorem aNE {k:Nat} {Q:Nat->Prop}:(∀ k',k' < k+1->Q k')<->(∀ k',k' < k->Q k')/\Q k:=by
 refine ⟨fun h=>⟨fun k' hk=>h k' (by omega),h k (by omega)⟩,fun h k' hk=>?_⟩
 by_cases e:k' < k
 ·exact h.1 k' e
 ·rw [show k'=k by omega];exact h.2
theorem trim_next {ed:List Edge} {n:Nat} {F:List (List Int)} {b:Bool} (hs:aKO p) (hv:aT p.S) (hnum:∀ e∈ed,∃ a b:Nat,e.F=(a:Int)/\e.To=(b:Int)/\a < n/\b < n/\0<=e.B/\e.B < p.S.L.length) (hed:ed.length < 1000000) {m:List Bool} (hml:m.length=n):
  ∃ next,loop (fun s:List Bool × Int=>qK p r F ed b m s.1 s.2) (m,0)=some next/\next.length=n/\∀ i,on next i<->on m i/\∀ e∈ed,e.F=(i:Int)->ctl p (lb p e.B)=false->on m e.To.toNat:=by
 have key0:=dZ (step:=fun s:List Bool × Int=>qK p r F ed b m s.1 s.2) ed.length (fun k (a:List Bool)=>(a,(k:Int))) (fun k a=>a.length=n/\∀ i,on a i<->on m i/\∀ k',k' < k->∀ h:k' < ed.length,ed[k'].F=(i:Int)->ctl p (lb p ed[k'].B)=false->on m ed[k'].To.toNat)
  (fun g=>g.length=n/\∀ i,on g i<->on m i/\∀ e∈ed,e.F=(i:Int)->ctl p (lb p e.B)=false->on m e.To.toNat) (fun k a hk hI=>?_) (fun a hI=>?_) ed.length 0 m (by omega) ⟨hml,fun i=>⟨fun h=>⟨h,fun k' h=>by omega⟩,fun h=>h.1⟩⟩
 ·exact key0
 ·obtain ⟨g1,g2⟩:=hI
  obtain ⟨c1,c2,ea,ec,ha,hc',l0,l1⟩:=hnum _ (List.getElem_mem hk)
  have hw:=aQ hk (show ed.length < 4611686018427387904 by omega)
  have step:∀ (a':List Bool),(∀ i,on a' i<->on a i/\(ed[k].F=(i:Int)->ctl p (lb p ed[k].B)=false->on m ed[k].To.toNat))->∀ i,on a' i<->on m i/\∀ k',k' < k+1->∀ h:k' < ed.length,ed[k'].F=(i:Int)->ctl p (lb p ed[k'].B)=false->on m ed[k'].To.toNat:=fun a' h i=>by
   rw [h,g2,and_assoc]
   exact and_congr_right fun _=>⟨fun x=>aNE.2 ⟨x.1,fun _=>x.2⟩,fun x=>⟨(aNE.1 x).1,(aNE.1 x).2 hk⟩⟩
  have hx:=aX hk
  generalize ed[k]=e at hx ea ec l0 l1 step ⊢
  obtain ⟨eF,eL,eT⟩:=e
  simp only at ea ec l0 l1
  subst ea ec
  simp only [qK,aV hk,if_pos,hx,aA,bgd (show c2 < m.length by omega)]
  cases hg:m.getD c2 false with
  |true=>
   simp only [Bool.not_true,Bool.false_eq_true,if_false,nZ,nY,hw]
   exact ⟨a,rfl,g1,step a fun i=>⟨fun h=>⟨h,fun _ _=>by simp only [Int.toNat_natCast];exact mT.1 hg⟩,fun h=>h.1⟩⟩
  |false=>
   simp only [Bool.not_false,if_pos]
   rw [aRP hs hv _ _ _ l0 l1,aA]
   have hoff:¬ on m c2:=fun h=>by rw [mT.2 h] at hg;cases hg
   cases hcl:ctl p (lb p eL) with
   |true=>
    simp only [Bool.not_true,nZ,Bool.false_eq_true,if_false,nY,hw]
    exact ⟨a,rfl,g1,step a fun i=>⟨fun h=>⟨h,fun _ h'=>by simp only [hcl] at h';cases h'⟩,fun h=>h.1⟩⟩
   |false=>
    simp only [Bool.not_false,nZ,if_pos,aX (show c1 < a.length by omega),aA,vO false (show c1 < a.length by omega),nY,hw]
    refine ⟨a.set c1 false,rfl,by simpa using g1,step _ fun i=>?_⟩
    rw [yA (by omega)]
    simp only [Int.toNat_natCast]
    split
    ·rename_i e;subst e
     exact ⟨fun h=>by (cases h),fun h=>absurd (h.2 rfl hcl) hoff⟩
    ·rename_i e
     exact ⟨fun h=>⟨h,fun h'=>absurd (by omega) e⟩,fun h=>h.1⟩
 ·obtain ⟨g1,g2⟩:=hI
  refine ⟨a,by simp only [qK,aS];rfl,g1,fun i=>?_⟩
  rw [g2]
  refine and_congr_right fun _=>⟨fun h e he=>?_,fun h k' _ hk'=>h _ (List.getElem_mem hk')⟩
  obtain ⟨k',hk',rfl⟩:=List.mem_iff_getElem.1 he
  exact h k' hk' hk'
theorem trim_step (hs:aKO p) (hm:p.M.length < 1000000000) (hp:bB p.S) (hr:bB r) (b:Bool) (alive:List Bool) (hl:alive.length=(FQ p r).length):
  ∃ next,next.length=(FQ p r).length/\(∀ i,on next i<->Co (gE p r) (gM p r) (on alive) i/\∀ j,gU p r i j->Co (gE p r) (gM p r) (on alive) j)/\tM p r ((FQ p r).map R2) (bE p r).2 b alive=some (if next=alive then .inr alive else .inl next):=by
 have hn:(FQ p r).length<=1600:=aBj hp.1 hr.1
 have hed:=aRG hp hr
 have hnum:=fin_nums hp hr
 unfold tM
 rw [hl,aIb _ (by simp [hX];omega),aA]
 obtain ⟨g,e1,e2,e3⟩:=aTo hm alive hl hn
 rw [e1,aA]
 unfold yM
 obtain ⟨m,hm',hS,hc⟩:=trim_sat hnum hed hl e2 (Co (gE p r) (gM p r) (on alive)) (fun j hj=>.base ((e3 j).1 hj).1 ((e3 j).1 hj).2) (fun e he h1 h2 h=>by
  obtain ⟨a,c,ea,ec,ha,hc,_⟩:=hnum e he
  exact .step h1 ⟨e,he,by rw [ea,Int.toNat_natCast],by rw [ec,Int.toNat_natCast]⟩ h)
 rw [hm',aA]
 have key:∀ j,on m j<->Co (gE p r) (gM p r) (on alive) j:=fun j=>⟨hS.ok j,Co.sat (fun i h1 h2=>hS.has i ((e3 i).2 ⟨h1,h2⟩)) (fun i j h1 ⟨e,he,f1,f2⟩ h2 h3=>by
  have:=hc e he (by rw [f1,Int.toNat_natCast];exact h1) (by rw [f2,Int.toNat_natCast];exact h2) (by rw [f2,Int.toNat_natCast];exact h3)
  rwa [f1,Int.toNat_natCast] at this)⟩
 unfold aAt
 have hml:=hS.len
 rw [bX (by simp [hX];omega),aA,List.nil_append]
 obtain ⟨next,h1,h2,h3⟩:=trim_next (r:=r) (F:=(FQ p r).map R2) (b:=b) hs hp.1 hnum hed hml
 rw [h1,aA]
 unfold aDk
 rw [aRR _ _ (by omega) (by omega),aA]
 refine ⟨next,h2,fun i=>?_,?_⟩
 ·rw [h3,key]
  refine and_congr_right fun _=>⟨fun h j ⟨e,he,f1,f2,f3⟩=>?_,fun h e he f1 f3=>?_⟩
  ·have:=h e he f1 f3
   rw [f2,Int.toNat_natCast] at this
   exact (key j).1 this
  ·obtain ⟨a,c,ea,ec,ha,hc,_⟩:=hnum e he
   rw [key]
   exact h _ ⟨e,he,f1,by rw [ec,Int.toNat_natCast],f3⟩
 ·by_cases e:next=alive
  ·rw [if_pos (by simpa using e),if_pos e]
  ·rw [if_neg (by simpa using e),if_neg e];rfl
theorem s_trim_eq (hs:aKO p) (hm:p.M.length < 1000000000) (hp:bB p.S) (hr:bB r) (b:Bool):∃ a,aBK p r ((FQ p r).map R2) (bE p r).2 b=some a/\a.length=(FQ p r).length/\Stb (gE p r) (gU p r) (gM p r) (gF p r) (on a)/\∀ S,(∀ i,S i->i < (FQ p r).length)->Stb (gE p r) (gU p r) (gM p r) (gF p r) S->∀ i,S i->on a i:=by
 have hn:(FQ p r).length<=1600:=aBj hp.1 hr.1
 unfold aBK
 rw [List.length_map,aRO _ (by omega),aA]
 have key0:=dZ (step:=fun s:List Bool × Int=>pF p r ((FQ p r).map R2) (bE p r).2 b s.1 s.2) (FQ p r).length (fun k (a:List Bool)=>(a,(k:Int))) (fun k a=>a.length=(FQ p r).length/\∀ i,on a i<->i < (FQ p r).length/\(i < k->¬ gF p r i)) (fun a=>a.length=(FQ p r).length/\∀ i,on a i<->i < (FQ p r).length/\¬ gF p r i) (fun k a hk hI=>?_) (fun a hI=>?_) (FQ p r).length 0 (List.replicate (FQ p r).length true) (by omega) ⟨by simp,fun i=>by rw [aHc];simp⟩
 ·obtain ⟨a0,h1,h2,h3⟩:=key0
  have h1':loop (fun s:List Bool × Int=>pF p r ((FQ p r).map R2) (bE p r).2 b s.1 s.2) (List.replicate (FQ p r).length true,0)=_:=h1
  rw [h1',aA]
  unfold tN
  obtain ⟨a,e,f1,f2,f3⟩:=trim_a (step:=fun s:List Bool=>tM p r ((FQ p r).map R2) (bE p r).2 b s) (fun a ha=>trim_step hs hm hp hr b a ha) h2 h3
  exact ⟨a,by rw [e];rfl,f1,f2,f3⟩
 ·obtain ⟨g1,g2⟩:=hI
  have hq:(FQ p r)[k]?=some (FQ p r)[k]:=List.getElem?_eq_getElem hk
  obtain ⟨z,hz,hzn⟩:=aTl hs hp hr (bE p r).2 b hq
  have hw:=aQ hk (show (FQ p r).length < 4611686018427387904 by omega)
  simp only [pF,g1,aV hk,if_pos,hz,aA,aX (show k < a.length by omega),vO _ (show k < a.length by omega),hw]
  refine ⟨_,rfl,by simpa using g1,fun i=>?_⟩
  rw [yA (by omega)]
  split
  ·rename_i e;subst e
   rw [decide_eq_true_iff,hzn,gF_iff hq]
   simp [hk]
  ·rename_i e
   rw [g2]
   exact and_congr_right fun _=>⟨fun h h'=>h (by omega),fun h h'=>h (by omega)⟩
 ·obtain ⟨g1,g2⟩:=hI
  exact ⟨a,by simp only [pF,g1,aS];rfl,g1,fun i=>by rw [g2];exact and_congr_right fun h=>⟨fun h'=>h' h,fun h' _=>h'⟩⟩
end Gv
namespace Gv
open Go
variable {p:aO} {r:aP}
theorem aNF {s nm:aH} {vs:List Int} (h:s.length < 1000000000) (e:xC s=some (nm,vs,true)):nm=(iF 40 s).1:=by
 have j2:∀ r1 v,mY s r1 v=some (nm,vs,true)->nm=r1.1:=fun r1 v e=>by
  have j1:∀ b,pK r1 v b=some (nm,vs,true)->nm=r1.1:=fun b e=>by
   unfold pK at e
   cases b with
   |true=>simp at e
   |false=>simp at e;exact e.1.symm
  unfold mY at e
  obtain ⟨x,_,e⟩:=aB e
  split at e<;>exact j1 _ e
 unfold xC l_Cut at e
 rw [if_pos (by omega),aA,cut_eq] at e
 simp only at e
 split at e
 ·obtain ⟨x,_,e⟩:=aB e
  obtain ⟨y,_,e⟩:=aB e
  obtain ⟨z,_,e⟩:=aB e
  split at e
  ·simp at e
  ·exact j2 _ _ e
 ·exact j2 _ _ e
theorem aQs {s:aH} (h:s.length < 1000000000) (hl:aDD s=true):aFn s=some (iF 40 s).1:=by
 have e:=aMV s h
 unfold aGa at e
 obtain ⟨x,hx,e⟩:=aB e
 obtain ⟨nm,vs,b⟩:=x
 rw [hl] at e
 simp at e
 subst e
 unfold aFn
 rw [hx,aA,aNF h hx]
theorem lab_is {xs:List aH} (h:pW xs):∀ s∈xs,aDD s=true:=fun s hs=>by
 obtain ⟨k,hk,rfl⟩:=List.getElem_of_mem hs
 by_cases h1:1<=k
 ·exact (h.2.2.2 k h1 hk).1
 ·obtain rfl:k=0:=by omega
  rw [h.2.2.1 hk];exact aOO
theorem aNG (hs:aKO p) (hv:aT p.S) {s:aH} (h:s∈p.S.L):lY p s=some (ctl p s):=by
 unfold lY
 rw [aQs (hs.labs s h) (lab_is hv.2.2.1 s h),aA,aJY _ _ (by have:=hs.ctl;omega),aA];rfl
theorem aIu (hv:aT p.S) {e:Edge} (he:e∈p.S.E):kC p.S e∈p.S.L:=by
 have:=(eB hv he).2.2
 exact lb_mem (p:=p) this.1 (by omega)
theorem aQt (hp:bB p.S) (hr:bB r) (F:List (List Int)) (M:List ((Int × Int) × Int)) (P:List (List aH)) (q:Int × Int):jV p.S.N p.S.I p.S.L p.S.E p.M p.C r.N r.I r.L r.E F M P (R2 q)=some ((blk p r q).map (kC p.S)):=by
 have hol:=uF hp.1 q
 unfold jV
 rw [show ix (R2 q) 0=some q.1 from rfl,aA,aGT _ _ (by have:=hp.1.2.2.2.1;exact Nat.lt_of_le_of_lt this (by decide)),aA]
 rw [show ((⟨p.S.N,p.S.I,p.S.L,p.S.E⟩:aP).E.filter fun e=>e.F == q.1)=bG p q from rfl]
 have:=jY (step:=fun s:List aH × Int=>fD p.S.L r.N r.I r.L r.E (R2 q) (bG p q) s.1 s.2) (bG p q) (fun k (a:List aH)=>(a,(k:Int)))
  (fun l a=>a++(l.filter fun e=>(alo r q.2 (kC p.S e)).isNone).map (kC p.S)) (fun k a=>a.length<=k) (fun k out x l hk' hx hI=>?_) (fun out hI=>by simp only [fD,aS];simp) (a:=[]) (by simp)
 ·have this':loop (fun s:List aH × Int=>fD p.S.L r.N r.I r.L r.E (R2 q) (bG p q) s.1 s.2) ([],0)=_:=this
  rw [this',aA];rfl
 ·left
  have hI':out.length<=k:=hI
  obtain ⟨hk2,rfl⟩:=oW hx
  have he:=pX _ (List.getElem_mem hk2)
  have hw:=aQ hk' (show (bG p q).length < 4611686018427387904 by omega)
  obtain ⟨z,hz,_⟩:=aES hr q.2 (kC p.S (bG p q)[k])
  have hz':jT ⟨r.N,r.I,r.L,r.E⟩ q.2 (kC p.S (bG p q)[k])=_:=hz
  simp only [fD,aV hk',if_pos,show ix (R2 q) 1=some q.2 from rfl,hx,aA,oQ (eB hp.1 he),hz']
  rw [List.filter_cons]
  cases alo r q.2 (kC p.S (bG p q)[k]) with
  |none=>
   simp only [Option.isSome_none,Option.isNone_none,Bool.not_false,if_pos]
   rw [bX (show out.length+([kC p.S (bG p q)[k]]:List aH).length<=hX by simp [hX];omega),aA]
   simp only [fC,hw]
   exact ⟨_,rfl,by simp;omega,by simp⟩
  |some z=>
   simp only [Option.isSome_some,Option.isNone_some,Bool.not_true,Bool.false_eq_true,if_false,fC,hw]
   exact ⟨out,rfl,by omega,rfl⟩
theorem aTp (hs:aKO p) (hp:bB p.S) (hr:bB r) (F:List (List Int)) (M:List ((Int × Int) × Int)) (P:List (List aH)) (q:Int × Int):∃ z,oL p.S.N p.S.I p.S.L p.S.E p.M p.C r.N r.I r.L r.E F M P (R2 q)=some z/\(z=[]<->fltB p r q=false):=by
 have hbl:=aRQ (r:=r) hp.1 q
 unfold oL
 rw [aQt hp hr,aA]
 have:=jY (step:=fun s:Int=>kT p.S.N p.S.I p.S.L p.S.E p.M p.C ((blk p r q).map (kC p.S)) s) ((blk p r q).map (kC p.S)) (fun k (_:Unit)=>(k:Int)) (fun l _=>(match l.find? (fun x=>!ctl p x) with|none=>.inl ()|some x=>.inr x:Unit ⊕ aH)) (fun _ _=>True) (fun k a x l hk hx _=>?_) (fun a _=>by simp only [kT,aS];rfl) (a:=()) trivial
 ·have this':loop (fun s:Int=>kT p.S.N p.S.I p.S.L p.S.E p.M p.C ((blk p r q).map (kC p.S)) s) 0=_:=this
  rw [this',aA]
  have hany:fltB p r q=((blk p r q).map (kC p.S)).any fun x=>!ctl p x:=by
   unfold fltB;rw [List.any_map];rfl
  cases hf:((blk p r q).map (kC p.S)).find? (fun x=>!ctl p x) with
  |none=>
   refine ⟨[],rfl,?_⟩
   rw [hany,List.any_eq_false]
   exact ⟨fun _ x hx=>by have:=List.find?_eq_none.1 hf x hx;simpa using this,fun _=>rfl⟩
  |some x=>
   refine ⟨x,rfl,?_⟩
   have hm:=List.mem_of_find?_eq_some hf
   have hx:=List.find?_some hf
   obtain ⟨e,he,rfl⟩:=List.mem_map.1 hm
   rw [hany,List.any_eq_false]
   refine ⟨fun h=>?_,fun h=>absurd hx (h _ hm)⟩
   have:=lab_is hp.1.2.2.1 _ (aIu hp.1 (aQr e he))
   rw [h] at this
   exact absurd this (by decide)
 ·obtain ⟨hk2,rfl⟩:=oW hx
  have hw:=aQ hk (show ((blk p r q).map (kC p.S)).length < 4611686018427387904 by simp;omega)
  have hmem:((blk p r q).map (kC p.S))[k]∈p.S.L:=by
   rw [List.getElem_map]
   exact aIu hp.1 (aQr _ (List.getElem_mem _))
  simp only [kT,aV hk,if_pos,hx,aA,hw]
  rw [show (⟨⟨p.S.N,p.S.I,p.S.L,p.S.E⟩,p.M,p.C⟩:aO)=p from rfl,aNG hs hp.1 hmem,aA,List.find?_cons]
  cases ctl p ((blk p r q).map (kC p.S))[k] with
  |true=>left;exact ⟨(),by simp,trivial,by simp⟩
  |false=>right;simp
theorem aNH (hp:bB p.S) (hr:bB r) {F:List (Int × Int)} {q:Int × Int} (hc:∀ x∈sK p r q (bG p q),x.2∈F) (f:Int × Int × Int->Bool) {step:Bool × Int->Option ((Bool × Int) ⊕ Bool)}
  (h:∀ (k:Nat) (hk:k < (bG p q).length) (a:Bool),(∀ z,alo r q.2 (kC p.S (bG p q)[k])=some z->step (a,(k:Int))=some (.inl (a||f ((bG p q)[k].B,(bG p q)[k].To,z),((k+1:Nat):Int))))/\(alo r q.2 (kC p.S (bG p q)[k])=none->step (a,(k:Int))=some (.inl (a,((k+1:Nat):Int)))))
  (h':∀ a,step (a,((bG p q).length:Int))=some (.inr a)):loop step (false,0)=some ((sK p r q (bG p q)).any f):=by
 have:=jY (step:=step) (bG p q) (fun k (a:Bool)=>(a,(k:Int))) (fun l a=>a||(sK p r q l).any f) (fun _ _=>True) (fun k a x l hk hx _=>?_) (fun a _=>by rw [h'];simp [sK]) (a:=false) trivial
 ·have this':loop step (false,0)=_:=this
  rw [this'];simp
 ·left
  obtain ⟨hk2,rfl⟩:=oW hx
  obtain ⟨h1,h2⟩:=h k hk2 a
  unfold sK
  rw [List.filterMap_cons]
  cases ha:alo r q.2 (kC p.S (bG p q)[k]) with
  |none=>exact ⟨a,h2 ha,trivial,rfl⟩
  |some z=>exact ⟨_,h1 z ha,trivial,by simp [Bool.or_assoc]⟩
theorem pos_bgd {F:List (Int × Int)} {m:List Bool} (hl:m.length=F.length) {y:Int × Int} (h:y∈F):ix m (pos F y)=some (m.getD (pos F y).toNat false):=by
 obtain ⟨j,e1,e2⟩:=uU h
 have:=(List.getElem?_eq_some_iff.1 e2).1
 rw [e1,bgd (by omega),Int.toNat_natCast]
def leadB (p:aO) (r:aP) (F:List (Int × Int)) (q:Int × Int) (out:List Bool):Bool:=(sK p r q (bG p q)).any fun x=>out.getD (pos F x.2).toNat false
def aQu (p:aO) (r:aP) (F:List (Int × Int)) (q:Int × Int) (keep:List Bool):Bool:=(sK p r q (bG p q)).any fun x=>!ctl p (lb p x.1)&&!keep.getD (pos F x.2).toNat false
theorem leads_eq (hp:bB p.S) (hr:bB r) {F:List (Int × Int)} (P:List (List aH)) {q:Int × Int} (hc:∀ x∈sK p r q (bG p q),x.2∈F) {out:List Bool} (hl:out.length=F.length):tO p.S.N p.S.I p.S.L p.S.E p.M p.C r.N r.I r.L r.E (F.map R2) (mq 0 F) P (R2 q) out=some (leadB p r F q out):=by
 have hol:=uF hp.1 q
 unfold tO uO
 rw [show ix (R2 q) 0=some q.1 from rfl,aA,aGT _ _ (by have:=hp.1.2.2.2.1;exact Nat.lt_of_le_of_lt this (by decide)),aA]
 rw [show ((⟨p.S.N,p.S.I,p.S.L,p.S.E⟩:aP).E.filter fun e=>e.F == q.1)=bG p q from rfl]
 have:=aNH hp hr hc (fun x=>out.getD (pos F x.2).toNat false) (step:=fun s:Bool × Int=>lK p.S.L r.N r.I r.L r.E (R2 q) out p.S.N p.S.I p.S.L p.S.E p.M p.C r.N r.I r.L r.E (F.map R2) (mq 0 F) P (bG p q) s.1 s.2) (fun k hk a=>?_) (fun a=>by simp only [lK,aS];rfl)
 ·rw [this];rfl
 ·have he:=pX _ (List.getElem_mem hk)
  have hw:=aQ hk (show (bG p q).length < 4611686018427387904 by omega)
  obtain ⟨z,hz,hzj⟩:=aES hr q.2 (kC p.S (bG p q)[k])
  have hz':jT ⟨r.N,r.I,r.L,r.E⟩ q.2 (kC p.S (bG p q)[k])=_:=hz
  simp only [lK,aV hk,if_pos,aX hk,show ix (R2 q) 1=some q.2 from rfl,aA,oQ (eB hp.1 he),hz']
  refine ⟨fun z' ha=>?_,fun ha=>?_⟩
  ·obtain rfl:=hzj z' ha
   have hm:((bG p q)[k].To,z)∈F:=hc ((bG p q)[k].B,(bG p q)[k].To,z) (by unfold sK;rw [List.mem_filterMap];exact ⟨_,List.getElem_mem hk,by rw [ha];rfl⟩)
   rw [ha]
   simp only [Option.isSome_some,if_pos]
   unfold sQ qE
   rw [show ((⟨(bG p q)[k].To,z⟩:Int × Int))=((bG p q)[k].To,z) from rfl,aIp hm,Option.getD_some,pos_bgd hl hm]
   cases a<;>simp [oU,jA,hw]
  ·rw [ha]
   simp [jA,hw]
theorem forced_eq (hs:aKO p) (hp:bB p.S) (hr:bB r) {F:List (Int × Int)} (P:List (List aH)) {q:Int × Int} (hc:∀ x∈sK p r q (bG p q),x.2∈F) {keep:List Bool} (hl:keep.length=F.length):oM p.S.N p.S.I p.S.L p.S.E p.M p.C r.N r.I r.L r.E (F.map R2) (mq 0 F) P (R2 q) p.S.N p.S.I p.S.L p.S.E p.M p.C r.N r.I r.L r.E (F.map R2) (mq 0 F) P keep=some (aQu p r F q keep):=by
 have hol:=uF hp.1 q
 unfold oM uQ
 rw [show ix (R2 q) 0=some q.1 from rfl,aA,aGT _ _ (by have:=hp.1.2.2.2.1;exact Nat.lt_of_le_of_lt this (by decide)),aA]
 rw [show ((⟨p.S.N,p.S.I,p.S.L,p.S.E⟩:aP).E.filter fun e=>e.F == q.1)=bG p q from rfl]
 have:=aNH hp hr hc (fun x=>!ctl p (lb p x.1)&&!keep.getD (pos F x.2).toNat false) (step:=fun s:Bool × Int=>lL p.S.L r.N r.I r.L r.E (R2 q) p.S.N p.S.I p.S.L p.S.E p.M p.C r.N r.I r.L r.E (F.map R2) (mq 0 F) P keep p.S.N p.S.I p.S.L p.S.E p.M p.C r.N r.I r.L r.E (F.map R2) (mq 0 F) P (bG p q) s.1 s.2) (fun k hk a=>?_) (fun a=>by simp only [lL,aS];rfl)
 ·rw [this];rfl
 ·have he:=pX _ (List.getElem_mem hk)
  have hw:=aQ hk (show (bG p q).length < 4611686018427387904 by omega)
  obtain ⟨z,hz,hzj⟩:=aES hr q.2 (kC p.S (bG p q)[k])
  have hz':jT ⟨r.N,r.I,r.L,r.E⟩ q.2 (kC p.S (bG p q)[k])=_:=hz
  simp only [lL,aV hk,if_pos,aX hk,show ix (R2 q) 1=some q.2 from rfl,aA,oQ (eB hp.1 he),hz']
  refine ⟨fun z' ha=>?_,fun ha=>?_⟩
  ·obtain rfl:=hzj z' ha
   have hm:((bG p q)[k].To,z)∈F:=hc ((bG p q)[k].B,(bG p q)[k].To,z) (by unfold sK;rw [List.mem_filterMap];exact ⟨_,List.getElem_mem hk,by rw [ha];rfl⟩)
   rw [ha]
   simp only [Option.isSome_some,if_pos]
   unfold oV uP
   rw [show ((⟨(bG p q)[k].To,z⟩:Int × Int))=((bG p q)[k].To,z) from rfl,aIp hm,Option.getD_some,pos_bgd hl hm]
   rw [show (⟨⟨p.S.N,p.S.I,p.S.L,p.S.E⟩,p.M,p.C⟩:aO)=p from rfl,aNG hs hp.1 (aIu hp.1 he),aA,show lb p (bG p q)[k].B=kC p.S (bG p q)[k] from rfl]
   cases a<;>cases ctl p (kC p.S (bG p q)[k])<;>simp [lF,qA,jB,hw]
  ·rw [ha]
   simp [jB,hw]
theorem aPb (hp:bB p.S) (hr:bB r) {i:Nat} {q:Int × Int} (hi:(FQ p r)[i]?=some q) (out:List Bool):leadB p r (FQ p r) q out=true<->∃ j,gE p r i j/\on out j:=by
 unfold leadB
 rw [List.any_eq_true]
 constructor
 ·rintro ⟨x,hx,h⟩
  have hm:=pY hp.1 hr.1 (List.mem_of_getElem? hi) x hx
  obtain ⟨j,e1,e2⟩:=uU hm
  rw [show FQ p r=(bE p r).1 from rfl,e1,Int.toNat_natCast,mT] at h
  exact ⟨j,(aQn hp hr hi).2 ⟨x,hx,e2⟩,h⟩
 ·rintro ⟨j,he,h⟩
  obtain ⟨x,hx,hj⟩:=(aQn hp hr hi).1 he
  refine ⟨x,hx,?_⟩
  rw [aCx (aCc hp.1 hr.1).1 hj,Int.toNat_natCast,mT];exact h
theorem aNI (hp:bB p.S) (hr:bB r) {i:Nat} {q:Int × Int} (hi:(FQ p r)[i]?=some q) (keep:List Bool):aQu p r (FQ p r) q keep=false<->∀ j,gU p r i j->on keep j:=by
 unfold aQu
 rw [List.any_eq_false]
 constructor
 ·intro h j hj
  obtain ⟨x,hx,e2,hc⟩:=(aQo hp hr hi).1 hj
  have:=h x hx
  rw [aCx (aCc hp.1 hr.1).1 e2,Int.toNat_natCast,hc] at this
  rw [←mT]
  simpa using this
 ·intro h x hx
  have hm:=pY hp.1 hr.1 (List.mem_of_getElem? hi) x hx
  obtain ⟨j,e1,e2⟩:=uU hm
  rw [show FQ p r=(bE p r).1 from rfl,e1,Int.toNat_natCast]
  cases hc:ctl p (lb p x.1) with
  |true=>simp
  |false=>
   have:=h j ((aQo hp hr hi).2 ⟨x,hx,e2,hc⟩)
   rw [mT.2 this];simp
theorem aTq (hm:p.M.length < 1000000000) (hp:bB p.S) (hr:bB r) (P:List (List aH)) (keep:List Bool) (hk:keep.length=(FQ p r).length):∃ g,iQ p.S.N p.S.I p.S.L p.S.E p.M p.C r.N r.I r.L r.E ((FQ p r).map R2) (mq 0 (FQ p r)) P keep=some g/\g.length=(FQ p r).length/\∀ i,on g i<->Co (gE p r) (gM p r) (on keep) i:=by
 have hn:(FQ p r).length<=1600:=aBj hp.1 hr.1
 unfold iQ
 rw [List.length_map,aIb _ (by simp [hX];omega),aA]
 obtain ⟨g,h1,h2,h3⟩:=sat_nodes (n:=(FQ p r).length) (fun k m=>keep.getD k false&&(mkB p ((FQ p r).getD k (0,0))||leadB p r (FQ p r) ((FQ p r).getD k (0,0)) m)) (inner:=fun s:List Bool × Bool × Int=>fU p.S.N p.S.I p.S.L p.S.E p.M p.C r.N r.I r.L r.E ((FQ p r).map R2) (mq 0 (FQ p r)) P keep s.1 s.2.1 s.2.2) (outer:=fun s:List Bool × Bool=>oD p.S.N p.S.I p.S.L p.S.E p.M p.C r.N r.I r.L r.E ((FQ p r).map R2) (mq 0 (FQ p r)) P keep s.1 s.2)
  (fun k hk' m ag hl=>by
   have hq:(FQ p r)[k]?=some (FQ p r)[k]:=List.getElem?_eq_getElem hk'
   have hgd:(FQ p r).getD k (0,0)=(FQ p r)[k]:=by rw [List.getD_eq_getElem?_getD,hq];rfl
   have hrow:ix ((FQ p r).map R2) (k:Int)=some (R2 (FQ p r)[k]):=by rw [lR,List.getElem?_map,hq];rfl
   have hw:=aQ hk' (show (FQ p r).length < 4611686018427387904 by omega)
   have hlead:=leads_eq hp hr P (fun x hx=>pY hp.1 hr.1 (List.getElem_mem hk') x hx) hl
   rw [hgd]
   simp only [fU,List.length_map,aV hk',if_pos,hrow,aA,bgd (show k < keep.length by omega),bgd (show k < m.length by omega),fT,show ix (R2 (FQ p r)[k]) 0=some (FQ p r)[k].1 from rfl,nB,uS _ _ (show p.M.length < 4611686018427387904 by omega),hlead,fS,eM,vO true (show k < m.length by omega),hw]
   rw [show (p.M.any fun x=>(FQ p r)[k].1 == x)=mkB p (FQ p r)[k] from rfl]
   cases keep.getD k false<;>cases m.getD k false<;>cases mkB p (FQ p r)[k]<;>cases leadB p r (FQ p r) (FQ p r)[k] m<;>simp)
  (fun m ag=>by simp only [fU,List.length_map,aS];rfl) (fun m _=>rfl) (fun m=>rfl) (Co (gE p r) (gM p r) (on keep)) (m0:=List.replicate (FQ p r).length false) (by simp) (fun i hi=>by rw [aHc] at hi;cases hi.2) (fun k m hk' _ hP ht=>by
   have hq:(FQ p r)[k]?=some (FQ p r)[k]:=List.getElem?_eq_getElem hk'
   have hgd:(FQ p r).getD k (0,0)=(FQ p r)[k]:=by rw [List.getD_eq_getElem?_getD,hq];rfl
   simp only [hgd,Bool.and_eq_true,Bool.or_eq_true] at ht
   rw [mT] at ht
   rcases ht.2 with h|h
   ·exact .base ht.1 ((gM_iff hq).2 h)
   ·obtain ⟨j,he,hj⟩:=(aPb hp hr hq m).1 h
    exact .step ht.1 he (hP j hj))
 rw [h1,aA]
 refine ⟨g,rfl,h2.len,fun i=>⟨h2.ok i,fun h=>?_⟩⟩
 have hq:∀ i,on keep i->(FQ p r)[i]?=some ((FQ p r).getD i (0,0)):=fun i hi=>by
  have:=aOY hi
  rw [List.getD_eq_getElem?_getD,List.getElem?_eq_getElem (show i < (FQ p r).length by omega)];rfl
 induction h with
 |@base i a b=>
  have:=aOY a
  refine h3 i (by omega) ?_
  simp only [Bool.and_eq_true,Bool.or_eq_true]
  exact ⟨mT.2 a,.inl ((gM_iff (hq i a)).1 b)⟩
 |@step i j a b c ih=>
  have:=aOY a
  refine h3 i (by omega) ?_
  simp only [Bool.and_eq_true,Bool.or_eq_true]
  exact ⟨mT.2 a,.inr ((aPb hp hr (hq i a) g).2 ⟨j,b,ih⟩)⟩
theorem aTr (a b:List Bool) (h:a.length=b.length) (hl:a.length < 4611686018427387904):gL a b=some (decide (a=b)):=by
 unfold gL
 rw [if_neg (by simp [h])]
 refine Eq.trans ?_ (aML h (step:=fun s=>iK a b s) ?_ ?_)
 ·rfl
 ·intro k x y hk hx hy
  simp only [iK,aV hk,if_pos,hx,hy,aA,aQ hk hl]
  by_cases e:x=y<;>simp [e]
 ·simp only [iK,aS];rfl
theorem kept_step (hs:aKO p) (hm:p.M.length < 1000000000) (hp:bB p.S) (hr:bB r) (P:List (List aH)) (keep:List Bool) (hk:keep.length=(FQ p r).length):∃ next,next.length=(FQ p r).length/\(∀ i,on next i<->on keep i/\Co (gE p r) (gM p r) (on keep) i/\¬ gF p r i/\∀ j,gU p r i j->on keep j)/\
  lO p.S.N p.S.I p.S.L p.S.E p.M p.C r.N r.I r.L r.E ((FQ p r).map R2) (mq 0 (FQ p r)) P keep=some (if next=keep then .inr keep else .inl next):=by
 have hn:(FQ p r).length<=1600:=aBj hp.1 hr.1
 obtain ⟨g,e1,e2,e3⟩:=aTq hm hp hr P keep hk
 unfold lO
 rw [e1,aA]
 unfold kA
 rw [bX (by simp [hX];omega),aA,aA,List.nil_append]
 have key0:=dZ (step:=fun s:List Bool × Int=>jD p.S.N p.S.I p.S.L p.S.E p.M p.C r.N r.I r.L r.E ((FQ p r).map R2) (mq 0 (FQ p r)) P keep g s.1 s.2) (FQ p r).length (fun k (a:List Bool)=>(a,(k:Int))) (fun k a=>a.length=(FQ p r).length/\∀ i,on a i<->on keep i/\(i < k->on g i/\¬ gF p r i/\∀ j,gU p r i j->on keep j)) (fun a=>a.length=(FQ p r).length/\∀ i,on a i<->on keep i/\(on g i/\¬ gF p r i/\∀ j,gU p r i j->on keep j)) (fun k a hk' hI=>?_) (fun a hI=>?_) (FQ p r).length 0 keep (by omega) ⟨hk,fun i=>by simp⟩
 ·obtain ⟨next,h1,h2,h3⟩:=key0
  have h1':loop (fun s:List Bool × Int=>jD p.S.N p.S.I p.S.L p.S.E p.M p.C r.N r.I r.L r.E ((FQ p r).map R2) (mq 0 (FQ p r)) P keep g s.1 s.2) (keep,0)=_:=h1
  rw [h1',aA]
  unfold lM
  rw [aTr _ _ (by omega) (by omega),aA]
  refine ⟨next,h2,fun i=>?_,?_⟩
  ·rw [h3,e3]
  ·by_cases e:next=keep
   ·rw [if_pos (by simpa using e),if_pos e]
   ·rw [if_neg (by simpa using e),if_neg e];rfl
 ·obtain ⟨g1,g2⟩:=hI
  have hq:(FQ p r)[k]?=some (FQ p r)[k]:=List.getElem?_eq_getElem hk'
  have hrow:ix ((FQ p r).map R2) (k:Int)=some (R2 (FQ p r)[k]):=by rw [lR,List.getElem?_map,hq];rfl
  have hw:=aQ hk' (show (FQ p r).length < 4611686018427387904 by omega)
  obtain ⟨z,hz,hzn⟩:=aTp hs hp hr ((FQ p r).map R2) (mq 0 (FQ p r)) P (FQ p r)[k]
  have hf:=forced_eq hs hp hr P (fun x hx=>pY hp.1 hr.1 (List.getElem_mem hk') x hx) hk
  simp only [jD,List.length_map,aV hk',if_pos,hrow,aA,bgd (show k < g.length by omega),hz,hf,jC,lN,aX (show k < a.length by omega),vO false (show k < a.length by omega),hw]
  have hyes:(on g k/\¬ gF p r k/\∀ j,gU p r k j->on keep j)->∀ i,on a i<->on keep i/\(i < k+1->on g i/\¬ gF p r i/\∀ j,gU p r i j->on keep j):=fun h i=>by
   rw [g2]
   refine and_congr_right fun _=>⟨fun h' hi=>?_,fun h' hi=>h' (by omega)⟩
   by_cases hik:i < k
   ·exact h' hik
   ·obtain rfl:i=k:=by omega
    exact h
  have hno:¬ (on g k/\¬ gF p r k/\∀ j,gU p r k j->on keep j)->∀ i,on (a.set k false) i<->on keep i/\(i < k+1->on g i/\¬ gF p r i/\∀ j,gU p r i j->on keep j):=fun h i=>by
   rw [yA (by omega)]
   split
   ·rename_i e;subst e
    exact ⟨fun h=>by (cases h),fun h'=>absurd (h'.2 (by omega)) h⟩
   ·rename_i e
    rw [g2]
    exact and_congr_right fun _=>⟨fun h' hi=>h' (by omega),fun h' hi=>h' (by omega)⟩
  have hl:(a.set k false).length=(FQ p r).length:=by simpa using g1
  cases hg:g.getD k false with
  |false=>
   simp only [Bool.not_false,if_pos]
   exact ⟨_,rfl,hl,hno fun h=>by rw [mT.2 h.1] at hg;cases hg⟩
  |true=>
   simp only [Bool.not_true,Bool.false_eq_true,if_false]
   have hon:=mT.1 hg
   by_cases hz0:z=[]
   ·have hnf:¬ gF p r k:=by rw [gF_iff hq,hzn.1 hz0];simp
    subst hz0
    rw [if_neg (by simp)]
    cases hb:aQu p r (FQ p r) (FQ p r)[k] keep with
    |false=>
     simp only [Bool.false_eq_true,if_false]
     exact ⟨_,rfl,g1,hyes ⟨hon,hnf,(aNI hp hr hq keep).1 hb⟩⟩
    |true=>
     simp only [if_pos]
     exact ⟨_,rfl,hl,hno fun h=>by rw [(aNI hp hr hq keep).2 h.2.2] at hb;cases hb⟩
   ·have hfl:gF p r k:=by
     rw [gF_iff hq]
     cases h:fltB p r (FQ p r)[k] with
     |true=>rfl
     |false=>exact absurd (hzn.2 h) hz0
    rw [if_pos (by simpa using hz0)]
    exact ⟨_,rfl,hl,hno fun h=>h.2.1 hfl⟩
 ·obtain ⟨g1,g2⟩:=hI
  exact ⟨a,by simp only [jD,List.length_map,aS];rfl,g1,fun i=>by rw [g2];exact and_congr_right fun h=>⟨fun h'=>h' (by have:=aOY h;omega),fun h' _=>h'⟩⟩
theorem i_kept_eq (hs:aKO p) (hm:p.M.length < 1000000000) (hp:bB p.S) (hr:bB r) (P:List (List aH)):∃ a,pR p.S.N p.S.I p.S.L p.S.E p.M p.C r.N r.I r.L r.E ((FQ p r).map R2) (mq 0 (FQ p r)) P=some a/\a.length=(FQ p r).length/\Stb (gE p r) (gU p r) (gM p r) (gF p r) (on a)/\∀ S,(∀ i,S i->i < (FQ p r).length)->Stb (gE p r) (gU p r) (gM p r) (gF p r) S->∀ i,S i->on a i:=by
 have hn:(FQ p r).length<=1600:=aBj hp.1 hr.1
 have hF1:1<=(FQ p r).length:=List.length_pos_of_mem (aHb p r)
 unfold pR
 rw [List.length_map,aOQ true _ hF1 (by omega),aA]
 obtain ⟨a,e,f1,f2,f3⟩:=trim_b (step:=fun s:List Bool=>lO p.S.N p.S.I p.S.L p.S.E p.M p.C r.N r.I r.L r.E ((FQ p r).map R2) (mq 0 (FQ p r)) P s) (fun a ha=>kept_step hs hm hp hr P a ha) (a0:=List.replicate (FQ p r).length true) (by simp) (fun i=>by rw [aHc];simp)
 exact ⟨a,by rw [e];rfl,f1,f2,f3⟩
end Gv
namespace Gv
open Go
end Gv
