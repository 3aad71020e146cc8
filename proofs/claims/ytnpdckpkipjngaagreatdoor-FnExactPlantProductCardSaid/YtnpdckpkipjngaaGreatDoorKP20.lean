/- Validity of plants, on both sides. -/
import Derived.Test.YtnpdckpkipjngaaGreatDoorKP12
set_option linter.all false
namespace Gv
open Go
def aAP (lo hi:Int) (xs:List Int):Prop:=∀ k,(hk:k < xs.length)→(lo≤xs[k]∧xs[k]≤hi)∧(1≤k→(xs[k - 1]'(by omega)) < xs[k])
theorem aAP.nat {lo hi:Int} {xs:List Int} (h:aAP lo hi xs) (hlo:0≤lo) (k:Nat) (hk:k < xs.length):lo+k≤xs[k]:=by
 induction k with
 |zero=>have:=(h 0 hk).1.1;omega
 |succ k ih=>
  have h1:=ih (by omega)
  have h2:=(h (k+1) hk).2 (by omega)
  simp only [Nat.add_sub_cancel] at h2
  omega
theorem aAP.len {hi:Int} {xs:List Int} (h:aAP 0 hi xs) (hh:-1≤hi):(xs.length:Int)≤hi+1:=by
 by_cases h0:xs.length=0
 ·omega
 ·have h1:=h.nat (Int.le_refl 0) (xs.length - 1) (by omega)
  have h2:=(h (xs.length - 1) (by omega)).1.2
  omega
theorem aNJ (xs:List Int) (lo hi:Int) (h:xs.length < 1000000000):aBH xs lo hi=some (cl (aAP lo hi xs)):=by
 unfold aBH
 have:=mN (step:=fun s=>qK xs lo hi s) xs.length 0 (fun k=>∀ hk:k < xs.length,(lo≤xs[k]∧xs[k]≤hi)∧(1≤k→(xs[k - 1]'(by omega)) < xs[k])) (.inr false) (.inl ()) (Nat.zero_le _) (fun k h0 hk=>?_) (by simp only [qK,bT];rfl)
 ·rw [show (0:Int)=((0:Nat):Int) from rfl,this,aI]
  by_cases hs:aAP lo hi xs
  ·rw [if_pos (jI fun k _ hk _=>hs k hk),jI hs];rfl
  ·rw [if_neg (by rw [iG];exact fun h=>hs fun k hk=>h k (by omega) hk hk),iL hs]
 ·simp only [qK,cB hk,if_pos,cO hk,aI,qJ,bV hk (show xs.length < 4611686018427387904 by omega),aFg]
  by_cases hl:lo≤xs[k]∧xs[k]≤hi
  ·rw [if_neg (by simp [hl.1,hl.2])]
   by_cases h1:1≤k
   ·have hk1:wr ((k:Int) - 1)=((k - 1:Nat):Int):=by rw [fL (by omega) (by omega)];omega
    rw [decide_eq_true (p:=(0:Int) < (k:Int)) (by omega),hk1,cO (xs:=xs) (k:=k - 1) (by omega)]
    simp only [if_pos,aI]
    by_cases a:(xs[k - 1]'(by omega)) < xs[k]
    ·rw [if_neg (by simp only [decide_eq_true_eq];omega),jI (fun _=>⟨hl,fun _=>a⟩)];rfl
    ·rw [if_pos (by simp only [decide_eq_true_eq];omega),iL (fun h=>a ((h hk).2 h1))];rfl
   ·rw [decide_eq_false (p:=(0:Int) < (k:Int)) (by omega),jI (fun _=>⟨hl,fun h=>absurd h h1⟩)];rfl
  ·rw [if_pos (by rw [oX hl];rfl),iL (fun h=>hl (h hk).1)];rfl
theorem aNK (t:cH) (xs:List Int) (h:xs.length < 1000000000) (ht:-9223372036854775807≤t.N∧t.N≤9223372036854775807):sL t xs=some (cl (aAP 0 (t.N - 1) xs)):=by
 unfold sL
 have:=mN (step:=fun s=>jF t xs s) xs.length 0 (fun k=>∀ hk:k < xs.length,(0≤xs[k]∧xs[k]≤t.N - 1)∧(1≤k→(xs[k - 1]'(by omega)) < xs[k])) (.inr false) (.inl ()) (Nat.zero_le _) (fun k h0 hk=>?_) (by simp only [jF,bT];rfl)
 ·have this':loop (fun s=>jF t xs s) 0=_:=this
  rw [this',aI]
  by_cases hs:aAP 0 (t.N - 1) xs
  ·rw [if_pos (jI fun k _ hk _=>hs k hk),jI hs];rfl
  ·rw [if_neg (by rw [iG];exact fun h=>hs fun k hk=>h k (by omega) hk hk),iL hs]
 ·simp only [jF,cB hk,if_pos,cO hk,aI,kQ,bV hk (show xs.length < 4611686018427387904 by omega),aGt t _ ht]
  by_cases hl:0≤xs[k]∧xs[k]≤t.N - 1
  ·rw [if_neg (by simp only [decide_eq_true hl.1,decide_eq_true hl.2];decide)]
   by_cases h1:1≤k
   ·have hk1:wr ((k:Int) - 1)=((k - 1:Nat):Int):=by rw [fL (by omega) (by omega)];omega
    rw [decide_eq_true (p:=(0:Int) < (k:Int)) (by omega),hk1,cO (xs:=xs) (k:=k - 1) (by omega)]
    simp only [if_pos,aI]
    by_cases a:(xs[k - 1]'(by omega)) < xs[k]
    ·rw [if_neg (by simp only [decide_eq_true_eq];omega),jI (fun _=>⟨hl,fun _=>a⟩)];rfl
    ·rw [if_pos (by simp only [decide_eq_true_eq];omega),iL (fun h=>a ((h hk).2 h1))];rfl
   ·rw [decide_eq_false (p:=(0:Int) < (k:Int)) (by omega),jI (fun _=>⟨hl,fun h=>absurd h h1⟩)];rfl
  ·rw [if_pos (by rw [oX hl];rfl),iL (fun h=>hl (h hk).1)];rfl
def aDw (xs:List aZ):Prop:=xs.length≤12∧(∀ s∈xs,pY s=true)∧∀ k,1≤k→(hk:k < xs.length)→qW (xs[k - 1]'(by omega)) xs[k]=true
theorem aKN (xs:List aZ) (h:xs.length < 1000000000):xR xs=some (xs.all pY):=by
 unfold xR
 rw [aFd (step:=fun s=>mJ xs s) xs pY (.inr false) (.inl ()) (fun k x hk hx=>by
  simp only [mJ,cB hk,if_pos,hx,aI,aGZ,bV hk (show xs.length < 4611686018427387904 by omega)]
  cases pY x<;>rfl) (by simp only [mJ,bT];rfl),aI]
 cases xs.all pY<;>rfl
theorem aNL (xs:List aZ) (h:xs.length < 1000000000):aBI xs=some (cl (aDw xs)):=by
 unfold aBI
 by_cases h12:12 < xs.length
 ·rw [if_pos (by simp only [decide_eq_true_eq];omega),iL (fun h:aDw xs=>absurd h.1 (by omega))];rfl
 rw [if_neg (by simp only [decide_eq_true_eq];omega),aKN xs h,aI]
 cases ha:xs.all pY with
 |false=>rw [iL (fun h:aDw xs=>by have:=List.all_eq_true.2 h.2.1;rw [ha] at this;cases this)];rfl
 |true=>
  have ha':=List.all_eq_true.1 ha
  unfold uQ
  simp only [Bool.not_true,Bool.false_eq_true,if_false]
  cases xs with
  |nil=>
   rw [bM,show nP [] 1=some (.inr (.inl ())) from rfl,aI]
   rw [jI (P:=aDw []) ⟨by simp,by simp,by intro k _ hk;simp at hk⟩];rfl
  |cons a l=>
   have:=mN (step:=fun s=>nP (a::l) s) (a::l).length 1 (fun k=>∀ hk:k < (a::l).length,qW ((a::l)[k - 1]'(by omega)) (a::l)[k]=true) (.inr false) (.inl ()) (by simp) (fun k h0 hk=>?_) (by simp only [nP,bT];rfl)
   ·rw [show (1:Int)=((1:Nat):Int) from rfl,this,aI]
    by_cases hs:∀ k,1≤k→k < (a::l).length→∀ hk:k < (a::l).length,qW ((a::l)[k - 1]'(by omega)) (a::l)[k]=true
    ·rw [if_pos (jI hs),jI (P:=aDw (a::l)) ⟨by omega,ha',fun k h1 hk=>hs k h1 hk hk⟩];rfl
    ·rw [if_neg (by rw [iG];exact hs),iL (P:=aDw (a::l)) (fun h=>hs fun k h1 hk _=>h.2.2 k h1 hk)]
   ·have hk1:wr ((k:Int) - 1)=((k - 1:Nat):Int):=by rw [fL (by omega) (by omega)];omega
    simp only [nP,cB hk,if_pos,hk1,cO (xs:=a::l) (k:=k - 1) (by omega),cO hk,aI,bV hk (show (a::l).length < 4611686018427387904 by omega)]
    rw [aAS (b:=qW ((a::l)[k - 1]'(by omega)) (a::l)[k]) ⟨fun h _=>h,fun h=>h hk⟩]
    cases qW ((a::l)[k - 1]'(by omega)) (a::l)[k]<;>rfl
theorem aOT (xs:List aZ) (h:xs.length < 1000000000) (h2:∀ s∈xs,s.length < 1000000000):aDh xs=some (cl (aDw xs)):=by
 unfold aDh
 have:=mN (step:=fun s=>tJ xs s) xs.length 0 (fun k=>∀ hk:k < xs.length,pY xs[k]=true∧(1≤k→qW (xs[k - 1]'(by omega)) xs[k]=true)) (.inr false) (.inl ()) (Nat.zero_le _) (fun k h0 hk=>?_) (by simp only [tJ,bT];rfl)
 ·rw [show (0:Int)=((0:Nat):Int) from rfl,this,aI]
  by_cases hs:∀ k,0≤k→k < xs.length→∀ hk:k < xs.length,pY xs[k]=true∧(1≤k→qW (xs[k - 1]'(by omega)) xs[k]=true)
  ·rw [if_pos (jI hs)]
   unfold yB
   have e:decide ((xs.length:Int)≤12)=cl (aDw xs):=by
    rw [aAS (P:=aDw xs) (b:=decide ((xs.length:Int)≤12))]
    simp only [decide_eq_true_eq]
    refine ⟨fun h=>⟨by omega,fun s hs'=>?_,fun k h1 hk=>(hs k (by omega) hk hk).2 h1⟩,fun h=>by have:=h.1;omega⟩
    obtain ⟨k,hk,rfl⟩:=List.getElem_of_mem hs'
    exact (hs k (by omega) hk hk).1
   simp only [e]
  ·rw [if_neg (by rw [iG];exact hs),iL (P:=aDw xs) (fun h=>hs fun k h1 hk _=>⟨h.2.1 _ (List.getElem_mem hk),fun h1=>h.2.2 k h1 hk⟩)]
 ·simp only [tJ,cB hk,if_pos,cO hk,aI,tI,bV hk (show xs.length < 4611686018427387904 by omega),aIh _ (show xs[k].length < 4611686018427387904 by have:=h2 _ (List.getElem_mem hk);omega)]
  cases ha:pY xs[k] with
  |false=>rw [iL (fun h=>by have:=(h hk).1;rw [ha] at this;cases this)];rfl
  |true=>
   simp only [Bool.not_true,Bool.false_eq_true,if_false]
   by_cases h1:1≤k
   ·have hk1:wr ((k:Int) - 1)=((k - 1:Nat):Int):=by rw [fL (by omega) (by omega)];omega
    rw [decide_eq_true (p:=(0:Int) < (k:Int)) (by omega),if_pos rfl,hk1,cO (xs:=xs) (k:=k - 1) (by omega),aI,aLY]
    rw [aAS (b:=qW (xs[k - 1]'(by omega)) xs[k]) ⟨fun h _=>⟨ha,fun _=>h⟩,fun h=>(h hk).2 h1⟩]
    cases qW (xs[k - 1]'(by omega)) xs[k]<;>rfl
   ·rw [decide_eq_false (p:=(0:Int) < (k:Int)) (by omega),jI (fun _=>⟨ha,fun h=>absurd h h1⟩)];rfl
def iS (t:cH):Prop:=cT t∧iQ t
def kT (p:cI):Prop:=iS p.S∧aAP 0 (p.S.N - 1) p.M∧aDw p.C
structure gG (n:Nat) (p:cI):Prop where
 sys:gZ n p.S
 marks:p.M.length≤n
 len:p.C.length≤n
 names:∀ s∈p.C,s.length≤n
theorem gG.mono {a b:Nat} {p:cI} (h:gG a p) (hab:a≤b):gG b p:=⟨h.sys.mono hab,Nat.le_trans h.marks hab,Nat.le_trans h.len hab,fun s hs=>Nat.le_trans (h.names s hs) hab⟩
theorem aJV (t:cH) (hf:gZ 999999999 t):aBn t=some (cl (iS t)):=by
 unfold aBn
 rw [aNq t hf,aI]
 by_cases hv:cT t
 ·rw [if_pos (jI hv),aHd t (by have:=hf.2.2;omega),aI]
  unfold xP iS
  rw [cl_and,jI hv,Bool.true_and]
 ·rw [if_neg (by rw [iG];exact hv),iL (P:=iS t) (fun h=>hv h.1)];rfl
theorem wr_st {t:cH} (h:cT t):wr (t.N - 1)=t.N - 1:=by have:=h.1;rw [fL (by omega) (by omega)]
theorem l29Is_eq (p:cI) (hf:gG 999999999 p):aGT p=some (cl (kT p)):=by
 unfold aGT
 rw [aJV _ hf.sys,aI]
 by_cases hv:iS p.S
 ·rw [if_pos (jI hv),wr_st hv.1,aNJ _ _ _ (by have:=hf.marks;omega),aI]
  by_cases hr:aAP 0 (p.S.N - 1) p.M
  ·rw [if_pos (jI hr),aNL _ (by have:=hf.len;omega),aI]
   unfold aAF
   rw [aNo (P:=kT p) (Q:=aDw p.C) ⟨fun h=>h.2.2,fun h=>⟨hv,hr,h⟩⟩]
  ·rw [if_neg (by rw [iG];exact hr),iL (P:=kT p) (fun h=>hr h.2.1)];rfl
 ·rw [if_neg (by rw [iG];exact hv),iL (P:=kT p) (fun h=>hv h.1)];rfl
theorem aFW (p:cI) (hf:gG 999999999 p):tK p=some (cl (kT p)):=by
 unfold tK
 rw [aHe _ hf.sys,aI]
 change (if cl (iS p.S)=true then _ else _)=_
 by_cases hv:iS p.S
 ·rw [if_pos (jI hv),aNK _ _ (by have:=hf.marks;omega) (by have:=hv.1.1;omega),aI]
  by_cases hr:aAP 0 (p.S.N - 1) p.M
  ·rw [if_pos (jI hr),aOT _ (by have:=hf.len;omega) (fun s hs=>by have:=hf.names s hs;omega),aI]
   unfold mL
   rw [aNo (P:=kT p) (Q:=aDw p.C) ⟨fun h=>h.2.2,fun h=>⟨hv,hr,h⟩⟩]
  ·rw [if_neg (by rw [iG];exact hr),iL (P:=kT p) (fun h=>hr h.2.1)];rfl
 ·rw [if_neg (by rw [iG];exact hv),iL (P:=kT p) (fun h=>hv h.1)];rfl
theorem aMp (p:cI) (r:cH) (hf:gG 999999999 p) (hr:gZ 999999999 r):aAE p [r]=some (if cl (kT p∧iS r)=true then 0 else 1):=by
 unfold aAE
 rw [aFW p hf,aI]
 by_cases hp:kT p
 ·rw [if_neg (by rw [jI hp];simp)]
  have e:dU [r]=some (if cl (iS r)=true then -1 else 0):=by
   unfold dU
   rw [bM]
   simp only [eJ]
   rw [show decide ((0:Int) < (([r]:List cH).length:Int))=true from rfl,if_pos rfl,show ix [r] 0=some r from rfl,aI]
   unfold yC
   rw [aHe r hr,aI,aI]
   by_cases hd:iS r
   ·rw [if_neg (by rw [show cl (cT r∧iQ r)=true from jI hd];simp),if_pos (jI hd)]
    rw [show wr (0+1)=1 from rfl]
    simp only
    rw [bM]
    rfl
   ·rw [if_pos (by rw [show cl (cT r∧iQ r)=false from iL hd];rfl),if_neg (by rw [iG];exact hd)]
    rfl
  unfold eK
  rw [e,aI,aI]
  unfold sM
  by_cases hd:iS r
  ·simp only [jI hd,jI (P:=kT p∧iS r) ⟨hp,hd⟩,if_true];rfl
  ·simp only [iL hd,iL (P:=kT p∧iS r) (fun h=>hd h.2),Bool.false_eq_true,if_false];rfl
 ·rw [if_pos (by rw [iL hp];rfl),if_neg (by rw [iG];exact fun h=>hp h.1)];rfl
end Gv
namespace Gv
open Option.some renaming inj→zI
open Go
theorem aEl (xs:List aZ) (v:aZ) (h:xs.length < 4611686018427387904):wC xs v=some (pos xs v):=by
 unfold wC pos
 rw [aBo (step:=fun s=>tF xs v s) xs (fun x=>v == x) (fun k x hk hx=>by
  simp only [tF,cB hk,if_pos,hx,aI,bV hk h]
  rw [show (x == v)=(v == x) from by rw [Bool.eq_iff_iff,beq_iff_eq,beq_iff_eq];exact eq_comm]) (by simp only [tF,bT];rfl),aI]
 cases xs.findIdx? (fun x=>v == x)<;>rfl
theorem aOU (t:cH) (k n:Int) (h:t.E.length < 1000000000):aDe t k n=some ((t.E.filter fun e=>e.F == k&&e.B == n).map (·.To)):=by
 unfold aDe
 rw [aCv (step:=fun s:List Int × Int=>tG t k n s.1 s.2) t.E (fun e=>e.F == k&&e.B == n) (·.To) id (fun j out x hk ho hx=>?_) (fun out=>by simp only [tG,bT];rfl),aI]
 ·simp [xS]
 ·simp only [tG,cB hk,if_pos,hx,aI,xU,xT,bV hk (show t.E.length < 4611686018427387904 by omega)]
  rw [eW (by simp [jJ];omega),aI]
  cases x.F == k<;>cases x.B == n<;>rfl
def alo (r:cH) (k:Int) (s:aZ):Option Int:=if s∈r.L then (if wP r k s < 0 then none else some (wP r k s)) else some k
theorem pos_nat {α:Type} [BEq α] [LawfulBEq α] {xs:List α} {a:α} (h:a∈xs):0≤pos xs a:=by
 obtain ⟨i,_,e,_⟩:=pQ h
 omega
theorem aMq {α:Type} [BEq α] [LawfulBEq α] {xs:List α} {a:α} (h:a∉xs):pos xs a=-1:=by
 unfold pos
 rw [List.findIdx?_eq_none_iff.2 (fun x hx=>by simp;intro e;subst e;exact h hx)]
theorem labs_any {xs:List aZ} {s:aZ}:(xs.any fun x=>s == x)=decide (s∈xs):=by
 refine Bool.eq_iff_iff.2 ?_
 simp only [List.any_eq_true,beq_iff_eq,decide_eq_true_eq]
 exact ⟨fun ⟨x,hx,e⟩=>e ▸ hx,fun h=>⟨s,h,rfl⟩⟩
theorem aNM {r:cH} (hr:iS r) (k:Int) (s:aZ):∃ z,wI r k s=some (z,(alo r k s).isSome)∧∀ j,alo r k s=some j→z=j:=by
 have h12:=hr.1.2.2.1.2.1
 unfold wI alo
 rw [aHb _ _ (by omega),aI,labs_any]
 by_cases hs:s∈r.L
 ·rw [if_neg (by simp [hs]),aIK hr.1 hr.2,aI,if_pos hs]
  refine ⟨wP r k s,?_,fun j hj=>?_⟩
  ·by_cases hg:wP r k s < 0
   ·rw [if_pos hg,decide_eq_false (by omega)];rfl
   ·rw [if_neg hg,decide_eq_true (by omega)];rfl
  ·split at hj
   ·cases hj
   ·exact zI hj
 ·rw [if_pos (by simp [hs]),if_neg hs]
  exact ⟨k,rfl,fun j hj=>zI hj⟩
theorem txt_label {t:cH} (hv:cT t) {e:Edge} (he:e∈t.E) {s:aZ} (hs:s∈t.L):(txt t e == s)=(e.B == pos t.L s):=by
 obtain ⟨i,hi,e1,e2⟩:=pQ hs
 have hin:=mD hv he
 have ht:=aAG hin
 obtain ⟨_,_,h0,h1⟩:=hin
 have hl:e.B.toNat < t.L.length:=by omega
 have ht2:t.L[e.B.toNat]=txt t e:=by
  rw [ix_of h0 hl] at ht
  exact zI ht
 rw [e1]
 refine Bool.eq_iff_iff.2 ?_
 simp only [beq_iff_eq]
 constructor
 ·intro h
  have:=aHf hv.2.2.1 hl hi (by rw [ht2,h,e2])
  omega
 ·intro h
  have:e.B.toNat=i:=by omega
  subst this
  rw [←ht2,e2]
theorem l29Go_eq {r:cH} (hr:iS r) (k:Int) (s:aZ):∃ z,aGU r k s=some (z,(alo r k s).isSome)∧∀ j,alo r k s=some j→z=j:=by
 have h12:=hr.1.2.2.1.2.1
 have h300:=hr.1.2.2.2.1
 unfold aGU alo
 rw [aEl _ _ (by omega),aI]
 by_cases hs:s∈r.L
 ·have hp:=pos_nat hs
  rw [if_neg (by simp only [decide_eq_true_eq];omega),aOU _ _ _ (by omega),aI,if_pos hs]
  have e1:(r.E.filter fun e=>e.F == k&&e.B == pos r.L s)=(r.E.find? (hit r k s)).toList:=by
   rw [←hit_one hr.1 hr.2]
   refine List.filter_congr fun e he=>?_
   unfold hit
   rw [txt_label hr.1 he hs]
  rw [e1]
  unfold wP
  cases hf:r.E.find? (hit r k s) with
  |none=>
   refine ⟨0,?_,fun j hj=>?_⟩
   ·simp
   ·simp at hj
  |some e=>
   have hin:=(mD hr.1 (List.mem_of_find?_eq_some hf)).2.1.1
   refine ⟨e.To,?_,fun j hj=>?_⟩
   ·simp only [Option.toList_some,List.map_cons,List.map_nil,List.length_singleton]
    rw [if_neg (by decide),show ix [e.To] 0=some e.To from rfl,aI,if_neg (by omega)];rfl
   ·simp only at hj
    rw [if_neg (by omega)] at hj
    exact zI hj
 ·rw [if_pos (by rw [aMq hs];rfl),if_neg hs]
  exact ⟨k,rfl,fun j hj=>zI hj⟩
theorem alo_in {r:cH} (hr:cT r) {k j:Int} {s:aZ} (hk:0≤k∧k≤r.N - 1) (h:alo r k s=some j):0≤j∧j≤r.N - 1:=by
 unfold alo at h
 split at h
 ·split at h
  ·cases h
  ·cases h
   have:=aCK hr k s
   omega
 ·cases h;exact hk
theorem aOW (a b:List Int) (h:a.length < 4611686018427387904):vW a b=some (decide (a=b)):=by
 unfold vW
 by_cases e:a.length=b.length
 ·rw [if_neg (by simp [e])]
  refine Eq.trans ?_ (aGV e (step:=fun s=>mP a b s) ?_ ?_)
  ·rfl
  ·intro k x y hk hx hy
   simp only [mP,cB hk,if_pos,hx,hy,aI,bV hk h]
   by_cases e:x=y<;>simp [e]
  ·simp only [mP,bT];rfl
 ·rw [if_pos (by simp only [bne_iff_ne,ne_eq];omega)]
  have:¬ a=b:=fun h=>e (by rw [h])
  simp [this]
theorem aHY (xs:List (List Int)) (v:List Int) (h:xs.length < 4611686018427387904) (h2:∀ x∈xs,x.length < 1000000000):xV xs v=some (pos xs v):=by
 unfold xV pos
 rw [aBo (step:=fun s=>wD xs v s) xs (fun x=>v == x) (fun k x hk hx=>by
  obtain ⟨hk',rfl⟩:=pN hx
  simp only [wD,cB hk,if_pos,hx,aI,bV hk h,aOW _ _ (show xs[k].length < 4611686018427387904 by have:=h2 _ (List.getElem_mem hk');omega)]
  rw [show decide (xs[k]=v)=(v == xs[k]) from by rw [Bool.eq_iff_iff,decide_eq_true_eq,beq_iff_eq];exact eq_comm]) (by simp only [wD,bT];rfl),aI]
 cases xs.findIdx? (fun x=>v == x)<;>rfl
def R2 (q:Int × Int):List Int:=[q.1,q.2]
theorem R2_inj {a b:Int × Int} (h:R2 a=R2 b):a=b:=by
 unfold R2 at h
 simp only [List.cons.injEq,and_true] at h
 exact Prod.ext h.1 h.2
theorem aMr (F:List (Int × Int)) (q:Int × Int):pos (F.map R2) (R2 q)=pos F q:=by
 unfold pos
 rw [List.findIdx?_map]
 have:((fun x=>R2 q == x) ∘ R2)=fun x=>q == x:=by
  funext x
  refine Bool.eq_iff_iff.2 ?_
  simp only [Function.comp,beq_iff_eq]
  exact ⟨R2_inj,fun h=>by rw [h]⟩
 rw [this]
theorem pos_pre {α:Type} [BEq α] [LawfulBEq α] {a b:List α} (h:a <+:b) {q:α} (hq:q∈a):pos b q=pos a q:=by
 obtain ⟨c,rfl⟩:=h
 unfold pos
 have:(a.findIdx? fun x=>q == x).isSome:=by rw [List.findIdx?_isSome,List.any_eq_true];exact ⟨q,hq,by simp⟩
 rw [List.findIdx?_append]
 cases hx:a.findIdx? fun x=>q == x with
 |none=>rw [hx] at this;cases this
 |some i=>rfl
theorem pos_snoc {α:Type} [BEq α] [LawfulBEq α] {a:List α} {q:α} (hq:q∉a):pos (a++[q]) q=(a.length:Int):=by
 unfold pos
 rw [List.findIdx?_append,List.findIdx?_eq_none_iff.2 (fun x hx=>by simp;intro e;subst e;exact hq hx)]
 simp
def suc (p:cI) (r:cH) (q:Int × Int) (es:List Edge):List (Int × Int × Int):=es.filterMap fun e=>(alo r q.2 (txt p.S e)).map fun k=>(e.B,e.To,k)
def fP (p:cI) (q:Int × Int):List Edge:=p.S.E.filter fun e=>e.F == q.1
def aAH (F:List (Int × Int)) (q:Int × Int):List (Int × Int):=if q∈F then F else F++[q]
def aBg:List (Int × Int)→List (Int × Int × Int)→List (Int × Int)
 |F,[]=>F
 |F,x::l=>aBg (aAH F x.2) l
def edQ (i:Int):List (Int × Int)→List (Int × Int × Int)→List Edge
 |_,[]=>[]
 |F,x::l=>⟨i,x.1,pos (aAH F x.2) x.2⟩::edQ i (aAH F x.2) l
def xQ (p:cI) (r:cH):Nat→Nat→List (Int × Int) × List Edge→List (Int × Int) × List Edge
 |0,_,s=>s
 |n+1,i,s=>match s.1[i]? with
  |none=>s
  |some q=>xQ p r n (i+1) (aBg s.1 (suc p r q (fP p q)),s.2++edQ (i:Int) s.1 (suc p r q (fP p q)))
def inB (p:cI) (r:cH) (q:Int × Int):Prop:=(0≤q.1∧q.1≤p.S.N - 1)∧0≤q.2∧q.2≤r.N - 1
def WQ2 (p:cI) (r:cH) (F:List (Int × Int)):Prop:=F.Nodup∧∀ q∈F,inB p r q
theorem WQ2.len {p:cI} {r:cH} (hp:cT p.S) (hr:cT r) {F:List (Int × Int)} (h:WQ2 p r F):F.length≤1600:=by
 have h1:=hp.1
 have h2:=hr.1
 have:=List.Nodup.length_le_of_subset (l₂:=(List.range 40).flatMap fun (i:Nat)=>(List.range 40).map fun (j:Nat)=>((i:Int),(j:Int))) h.1 (fun q hq=>by
  have:=h.2 q hq
  unfold inB at this
  rw [List.mem_flatMap]
  refine ⟨q.1.toNat,by rw [List.mem_range];omega,?_⟩
  rw [List.mem_map]
  exact ⟨q.2.toNat,by rw [List.mem_range];omega,Prod.ext (by simp only;omega) (by simp only;omega)⟩)
 have e:((List.range 40).flatMap fun (i:Nat)=>(List.range 40).map fun (j:Nat)=>((i:Int),(j:Int))).length=1600:=by decide+kernel
 omega
theorem aJW (F:List (Int × Int)) (q:Int × Int):F <+:aAH F q:=by
 unfold aAH;split
 ·exact List.prefix_refl _
 ·exact List.prefix_append _ _
theorem aNN (F:List (Int × Int)) (q:Int × Int):q∈aAH F q:=by
 unfold aAH;split
 ·assumption
 ·simp
theorem WQ2.ins {p:cI} {r:cH} {F:List (Int × Int)} (h:WQ2 p r F) {q:Int × Int} (hq:inB p r q):WQ2 p r (aAH F q):=by
 unfold aAH
 split
 ·exact h
 ·rename_i hn
  refine ⟨?_,fun x hx=>?_⟩
  ·rw [List.nodup_append]
   exact ⟨h.1,by simp,fun x hx y hy=>by simp at hy;subst hy;exact fun e=>hn (e ▸ hx)⟩
  ·rcases List.mem_append.1 hx with hx|hx
   ·exact h.2 x hx
   ·simp at hx;subst hx;exact hq
theorem aBT:∀ (l:List (Int × Int × Int)) (F:List (Int × Int)),F <+:aBg F l
 |[],_=>List.prefix_refl _
 |x::l,F=>(aJW F x.2).trans (aBT l (aAH F x.2))
theorem WQ2.add {p:cI} {r:cH}:∀ {l:List (Int × Int × Int)} {F:List (Int × Int)},WQ2 p r F→(∀ x∈l,inB p r x.2)→WQ2 p r (aBg F l)
 |[],_,h,_=>h
 |x::l,F,h,hl=>by
  show WQ2 p r (aBg (aAH F x.2) l)
  exact WQ2.add (h.ins (hl x (by simp))) (fun y hy=>hl y (by simp [hy]))
theorem edQ_len (i:Int):∀ (l:List (Int × Int × Int)) (F:List (Int × Int)),(edQ i F l).length=l.length
 |[],_=>rfl
 |x::l,F=>by simp [edQ,edQ_len i l (aAH F x.2)]
theorem aMs {p:cI} {r:cH} (hp:cT p.S) (hr:cT r) {q:Int × Int} (hq:inB p r q) {es:List Edge} (hes:∀ e∈es,e∈p.S.E):∀ x∈suc p r q es,inB p r x.2:=by
 intro x hx
 unfold suc at hx
 rw [List.mem_filterMap] at hx
 obtain ⟨e,he,hx⟩:=hx
 rw [Option.map_eq_some_iff] at hx
 obtain ⟨k,hk,rfl⟩:=hx
 exact ⟨(mD hp (hes e he)).2.1,alo_in hr hq.2 hk⟩
theorem yJ {p:cI} {q:Int × Int}:∀ e∈fP p q,e∈p.S.E:=fun _ he=>(List.mem_filter.1 he).1
theorem aIL (p:cI) (r:cH) (q:Int × Int) (es:List Edge):(suc p r q es).length≤es.length:=List.length_filterMap_le _ _
theorem aBU {p:cI} (hp:cT p.S) (q:Int × Int):(fP p q).length≤300:=Nat.le_trans (List.length_filter_le _ _) hp.2.2.2.1
theorem xQ_pre (p:cI) (r:cH):∀ (n i:Nat) (s:List (Int × Int) × List Edge),s.1 <+:(xQ p r n i s).1∧s.2 <+:(xQ p r n i s).2
 |0,_,_=>⟨List.prefix_refl _,List.prefix_refl _⟩
 |n+1,i,s=>by
  unfold xQ
  split
  ·exact ⟨List.prefix_refl _,List.prefix_refl _⟩
  ·rename_i q _
   have:=xQ_pre p r n (i+1) (aBg s.1 (suc p r q (fP p q)),s.2++edQ (i:Int) s.1 (suc p r q (fP p q)))
   exact ⟨(aBT _ _).trans this.1,(List.prefix_append _ _).trans this.2⟩
def iR (p:cI) (r:cH):List (Int × Int) × List Edge:=xQ p r 1601 0 ([(p.S.I,r.I)],[])
theorem aJX {p:cI} {r:cH} (hp:cT p.S) (hr:cT r):WQ2 p r [(p.S.I,r.I)]:=
 ⟨by simp,fun q hq=>by simp at hq;subst hq;exact ⟨hp.2.1,hr.2.1⟩⟩
theorem aJY {p:cI} {r:cH} (hp:iS p.S) (hr:iS r) {i:Nat} {q:Int × Int} {F:List (Int × Int)} {ed:List Edge} (hw:WQ2 p r F) (hi:F[i]?=some q) (hed:ed.length≤300 * i) (h16:i≤1600):
  loop (fun s:List (List Int) × List Edge × Int=>nS p r (i:Int) (fP p q) s.1 s.2.1 s.2.2) (F.map R2,ed,0)=some ((aBg F (suc p r q (fP p q))).map R2,ed++edQ (i:Int) F (suc p r q (fP p q))):=by
 have hol:=aBU hp.1 q
 have:=lR (step:=fun s:List (List Int) × List Edge × Int=>nS p r (i:Int) (fP p q) s.1 s.2.1 s.2.2) (fP p q) (fun k (a:List (Int × Int) × List Edge)=>(a.1.map R2,a.2,(k:Int)))
  (fun l a=>((aBg a.1 (suc p r q l)).map R2,a.2++edQ (i:Int) a.1 (suc p r q l))) (fun k a=>WQ2 p r a.1∧a.1[i]?=some q∧a.2.length≤300 * i+k) (fun k a e l hk hx hI=>?_) (fun a hI=>by simp only [nS,bT];simp [suc,aBg,edQ]) (a:=(F,ed)) ⟨hw,hi,by simp only;omega⟩
 ·exact this
 ·obtain ⟨F,ed⟩:=a
  obtain ⟨hw,hi,hed⟩:=hI
  simp only at hw hi hed
  obtain ⟨hk',rfl⟩:=pN hx
  left
  have hil:i < F.length:=(List.getElem?_eq_some_iff.1 hi).1
  have h16':=hw.len hp.1 hr.1
  have he:(fP p q)[k]∈p.S.E:=yJ _ (List.getElem_mem hk')
  have hq:inB p r q:=hw.2 q (List.mem_of_getElem? hi)
  generalize (fP p q)[k]=e at he hx
  have hrow:ix (F.map R2) (i:Int)=some (R2 q):=by rw [iT,List.getElem?_map,hi];rfl
  obtain ⟨z,hz,hzj⟩:=l29Go_eq hr q.2 (txt p.S e)
  simp only [nS,cB hk,if_pos,hrow,aI,show ix (R2 q) 1=some q.2 from rfl,hx,aAG (mD hp.1 he),hz,nR,bV hk (show (fP p q).length < 4611686018427387904 by omega)]
  cases ha:alo r q.2 (txt p.S e) with
  |none=>
   refine ⟨(F,ed),rfl,⟨hw,hi,by simp only;omega⟩,?_⟩
   simp only [suc,List.filterMap_cons,ha,Option.map_none]
  |some j=>
   obtain rfl:=hzj j ha
   have hx2:inB p r (e.To,z):=⟨(mD hp.1 he).2.1,alo_in hr.1 hq.2 ha⟩
   have hwi:=hw.ins hx2
   rw [show ([e.To,z]:List Int)=R2 (e.To,z) from rfl]
   simp only [Option.isSome_some,Bool.not_true,Bool.false_eq_true,if_false]
   rw [aHY _ _ (by simp;omega) (fun x hx=>by obtain ⟨y,_,rfl⟩:=List.mem_map.1 hx;simp [R2]),aI,aMr]
   refine ⟨(aAH F (e.To,z),ed++[⟨(i:Int),e.B,pos (aAH F (e.To,z)) (e.To,z)⟩]),?_,⟨hwi,?_,by simp;omega⟩,?_⟩
   ·unfold uT
    have a1:∀ X:Edge,vH ed [X]=some (ed++[X]):=fun X=>eW (by simp [jJ];omega)
    have a2:vH (F.map R2) [R2 (e.To,z)]=some (F.map R2++[R2 (e.To,z)]):=eW (by simp [jJ];omega)
    have hw1:=bV hk (show (fP p q).length < 4611686018427387904 by omega)
    by_cases hm:(e.To,z)∈F
    ·rw [if_neg (by simp only [decide_eq_true_eq];have:=pos_nat hm;omega),a1,aI]
     simp only [nR,aAH,if_pos hm,hw1]
    ·rw [if_pos (by rw [aMq hm];rfl),a2,aI,a1,aI]
     simp only [nR,aAH,if_neg hm,pos_snoc hm,List.map_append,List.map_cons,List.map_nil,List.length_map,hw1]
   ·obtain ⟨c,hc⟩:=aJW F (e.To,z)
    simp only
    rw [←hc,List.getElem?_append_left hil];exact hi
   ·simp only [suc,List.filterMap_cons,ha,Option.map_some,aBg,edQ,List.append_assoc,List.cons_append,List.nil_append]
theorem aNO {p:cI} {r:cH} (hp:iS p.S) (hr:iS r):aBJ p r=some ((iR p r).1.map R2,(iR p r).2,decide (40 < (iR p r).1.length)||decide (300 < (iR p r).2.length)):=by
 unfold aBJ
 have:=aLs (step:=fun s:List (List Int) × List Edge × Int=>qL p r s.1 s.2.1 s.2.2)
  (fun s=>∃ (i:Nat) (F:List (Int × Int)) (ed:List Edge),s=(F.map R2,ed,(i:Int))∧i≤F.length∧WQ2 p r F∧ed.length≤300 * i∧xQ p r (1601 - i) i (F,ed)=iR p r)
  (fun s=>1601 - s.2.2.toNat) ((iR p r).1.map R2,(iR p r).2) (fun s hI=>?_) (s:=([[p.S.I,r.I]],[],0)) ⟨0,[(p.S.I,r.I)],[],rfl,by simp,aJX hp.1 hr.1,by simp,rfl⟩
 ·rw [this,aI]
  unfold uS uR
  simp only [List.length_map]
  by_cases h40:40 < (iR p r).1.length
  ·rw [if_pos (by simp only [decide_eq_true_eq];omega),decide_eq_true h40];rfl
  ·rw [if_neg (by simp only [decide_eq_true_eq];omega),decide_eq_false h40,Bool.false_or]
   exact congrArg some (by rw [decide_eq_decide.2 (show ((300:Int) < ((iR p r).2.length:Int))↔300 < (iR p r).2.length by omega)])
 ·obtain ⟨i,F,ed,rfl,hi,hw,hed,hx⟩:=hI
  have h16:=hw.len hp.1 hr.1
  simp only
  by_cases hil:i < F.length
  ·have hq:F[i]?=some F[i]:=List.getElem?_eq_getElem hil
   have hqB:=hw.2 F[i] (List.getElem_mem hil)
   rw [show 1601 - i=(1600 - i)+1 by omega] at hx
   unfold xQ at hx
   rw [hq] at hx
   simp only at hx
   have hrow:ix (F.map R2) (i:Int)=some (R2 F[i]):=by rw [iT,List.getElem?_map,hq];rfl
   simp only [qL,List.length_map,cB hil,if_pos,hrow,aI,show ix (R2 F[i]) 0=some F[i].1 from rfl]
   rw [aLi _ _ (by have:=hp.1.2.2.2.1;omega),aI]
   rw [show (p.S.E.filter fun e=>e.F == F[i].1)=fP p F[i] from rfl,aJY hp hr hw hq hed (by omega),aI]
   left
   have hsl:=aIL p r F[i] (fP p F[i])
   have hol:=aBU hp.1 F[i]
   refine ⟨_,rfl,⟨i+1,aBg F (suc p r F[i] (fP p F[i])),ed++edQ (i:Int) F (suc p r F[i] (fP p F[i])),?_,?_,WQ2.add hw (aMs hp.1 hr.1 hqB yJ),?_,?_⟩,?_⟩
   ·simp only [bV hil (show F.length < 4611686018427387904 by omega)]
   ·have:=(aBT (suc p r F[i] (fP p F[i])) F).length_le;omega
   ·rw [List.length_append,edQ_len];omega
   ·rw [show 1601 - (i+1)=1600 - i by omega];exact hx
   ·simp only [bV hil (show F.length < 4611686018427387904 by omega),Int.toNat_natCast];omega
  ·right
   obtain rfl:i=F.length:=by omega
   rw [show 1601 - F.length=(1600 - F.length)+1 by omega] at hx
   unfold xQ at hx
   rw [List.getElem?_eq_none (Nat.le_refl _)] at hx
   simp only at hx
   rw [←hx]
   simp only [qL,List.length_map,bT]
   simp
end Gv
namespace Gv
open Go
def mq {κ:Type} (k:Nat):List κ→List (κ × Int)
 |[]=>[]
 |q::l=>(q,(k:Int))::mq (k+1) l
theorem aMt {κ:Type} [DecidableEq κ] [BEq κ] [LawfulBEq κ] {q:κ}:∀ {a:List κ} {k:Nat},mF (mq k a) q=match a.findIdx? (fun x=>q == x) with|none=>none|some i=>some ((k+i:Nat):Int)
 |[],k=>rfl
 |x::l,k=>by
  have ih:=aMt (q:=q) (a:=l) (k:=k+1)
  unfold mq mF
  rw [List.findIdx?_cons]
  by_cases e:q=x
  ·subst e
   rw [if_pos rfl,if_pos (by simp)];rfl
  ·rw [if_neg e,if_neg (by simpa using e),ih]
   cases l.findIdx? (fun x=>q == x) with
   |none=>rfl
   |some i=>simp only [Option.map_some];congr 2;omega
theorem aMu {κ:Type} [DecidableEq κ] {q:κ}:∀ {a:List κ} {k:Nat},q∉a→aEz (mq k a) q ((k+a.length:Nat):Int)=mq k (a++[q])
 |[],k,_=>by simp [mq,aEz]
 |x::l,k,hn=>by
  have ih:=aMu (q:=q) (a:=l) (k:=k+1) (fun hy=>hn (by simp [hy]))
  have e:¬ q=x:=fun hk=>hn (by rw [hk];simp)
  simp only [mq,aEz,List.cons_append,if_neg e]
  rw [←ih]
  congr 3
  simp;omega
theorem aMv {κ:Type} [DecidableEq κ] [BEq κ] [LawfulBEq κ] {q:κ} {a:List κ} (h:q∈a):mF (mq 0 a) q=some (pos a q):=by
 obtain ⟨i,hi,e,_⟩:=pQ h
 rw [aMt]
 unfold pos at e ⊢
 cases hx:a.findIdx? (fun x=>q == x) with
 |none=>rw [hx] at e;simp only at e;omega
 |some j=>simp
theorem mget_out {κ:Type} [DecidableEq κ] [BEq κ] [LawfulBEq κ] {q:κ} {a:List κ} (h:q∉a):mF (mq 0 a) q=none:=by
 rw [aMt,List.findIdx?_eq_none_iff.2 (fun x hx=>by simp;intro e;subst e;exact h hx)]
structure Pth (F:List (Int × Int)) (P:List (List aZ)):Prop where
 len:P.length=F.length
 small:∀ (j:Nat) x,P[j]?=some x→x.length≤j
theorem aLq {F:List (Int × Int)} {P:List (List aZ)} (hF:F.length≤1600) (hP:Pth F P) {path:List aZ} (hp:path.length≤F.length) (q:Int × Int) (a0 a1:Int) (a2:List aZ) (a3:List Edge) (a4:List Int) (a5:List aZ) (a6 a7:Int) (a8:List aZ) (a9:List Edge):
  ∃ P',kV q path a0 a1 a2 a3 a4 a5 a6 a7 a8 a9 (F.map R2) (mq 0 F) P=some ((aAH F q).map R2,mq 0 (aAH F q),P')∧Pth (aAH F q) P'∧P <+:P':=by
 unfold kV aAH
 by_cases hm:q∈F
 ·rw [aMv hm,if_neg (by simp),if_pos hm]
  exact ⟨P,rfl,hP,List.prefix_refl _⟩
 ·rw [mget_out hm,if_pos (by simp),if_neg hm]
  have h1:aEz (mq 0 F) q (((F.map R2).length:Nat):Int)=mq 0 (F++[q]):=by
   have:=aMu (k:=0) hm
   rw [Nat.zero_add] at this
   rw [List.length_map];exact this
  have h2:vH (F.map R2) [([q.1,q.2]:List Int)]=some ((F++[q]).map R2):=by
   rw [eW (by simp [jJ];omega)]
   simp [R2]
  have h3:vH P [path]=some (P++[path]):=eW (by have:=hP.len;simp [jJ];omega)
  refine ⟨P++[path],?_,⟨by simp [hP.len],fun j x hx=>?_⟩,List.prefix_append _ _⟩
  ·rw [h1,aI,h2,aI,h3,aI]
  ·by_cases hj:j < P.length
   ·rw [List.getElem?_append_left hj] at hx
    exact hP.small j x hx
   ·rw [List.getElem?_append_right (by omega)] at hx
    have hj2:j - P.length=0:=by
     have:=(List.getElem?_eq_some_iff.1 hx).1
     simp at this;omega
    rw [hj2] at hx
    simp at hx
    subst hx
    have:=hP.len
    omega
theorem next_eq {p:cI} {r:cH} (hp:iS p.S) (hr:iS r) {i:Nat} {q:Int × Int} {F:List (Int × Int)} {P:List (List aZ)} (hw:WQ2 p r F) (hi:F[i]?=some q) (hP:Pth F P):
  ∃ P',pX p.S.N p.S.I p.S.L p.S.E p.M p.C r.N r.I r.L r.E (F.map R2) (mq 0 F) P (R2 q) (i:Int)
   =some ((aBg F (suc p r q (fP p q))).map R2,mq 0 (aBg F (suc p r q (fP p q))),P')∧Pth (aBg F (suc p r q (fP p q))) P':=by
 unfold pX
 rw [show ix (R2 q) 0=some q.1 from rfl,aI,show (⟨p.S.N,p.S.I,p.S.L,p.S.E⟩:cH)=p.S from rfl,aJq _ _ (by have:=hp.1.2.2.2.1;omega),aI]
 rw [show (p.S.E.filter fun e=>e.F == q.1)=fP p q from rfl]
 have hol:=aBU hp.1 q
 generalize hFF:aBg F (suc p r q (fP p q))=FF
 have:=yH (step:=fun s:List (List Int) × List ((Int × Int) × Int) × List (List aZ) × Int=>iF p.S.N p.S.I p.S.L p.S.E p.M p.C r.N r.I r.L r.E (R2 q) (i:Int) (fP p q) s.1 s.2.1 s.2.2.1 s.2.2.2)
  (fP p q).length (fun k (a:List (Int × Int) × List (List aZ))=>(a.1.map R2,mq 0 a.1,a.2,(k:Int))) (fun k a=>WQ2 p r a.1∧a.1[i]?=some q∧Pth a.1 a.2∧aBg a.1 (suc p r q ((fP p q).drop k))=FF)
  (fun x=>∃ P',x=(FF.map R2,mq 0 FF,P')∧Pth FF P') (fun k a hk hI=>?_) (fun a hI=>?_) (fP p q).length 0 (F,P) (by omega) ⟨hw,hi,hP,hFF⟩
 ·obtain ⟨x,hx,P',rfl,hP'⟩:=this
  have hx':loop (fun s:List (List Int) × List ((Int × Int) × Int) × List (List aZ) × Int=>iF p.S.N p.S.I p.S.L p.S.E p.M p.C r.N r.I r.L r.E (R2 q) (i:Int) (fP p q) s.1 s.2.1 s.2.2.1 s.2.2.2) (F.map R2,mq 0 F,P,0)=_:=hx
  rw [hx',aI]
  exact ⟨P',rfl,hP'⟩
 ·obtain ⟨F,P⟩:=a
  obtain ⟨hw,hi,hP,hFF⟩:=hI
  simp only at hw hi hP hFF
  have hil:i < F.length:=(List.getElem?_eq_some_iff.1 hi).1
  have h16:=hw.len hp.1 hr.1
  have he:(fP p q)[k]∈p.S.E:=yJ _ (List.getElem_mem hk)
  have hq:inB p r q:=hw.2 q (List.mem_of_getElem? hi)
  rw [List.drop_eq_getElem_cons hk] at hFF
  obtain ⟨z,hz,hzj⟩:=aNM hr q.2 (txt p.S (fP p q)[k])
  have hw1:=bV hk (show (fP p q).length < 4611686018427387904 by omega)
  simp only [iF,cB hk,if_pos,cO hk,aI,show ix (R2 q) 1=some q.2 from rfl,aAG (mD hp.1 he),show (⟨r.N,r.I,r.L,r.E⟩:cH)=r from rfl,hz]
  cases ha:alo r q.2 (txt p.S (fP p q)[k]) with
  |none=>
   simp only [suc,List.filterMap_cons,ha,Option.map_none] at hFF
   exact ⟨(F,P),by simp [jS,hw1],hw,hi,hP,hFF⟩
  |some j=>
   obtain rfl:=hzj j ha
   simp only [suc,List.filterMap_cons,ha,Option.map_some,aBg] at hFF
   have hx2:inB p r ((fP p q)[k].To,z):=⟨(mD hp.1 he).2.1,alo_in hr.1 hq.2 ha⟩
   have hPi:i < P.length:=by rw [hP.len];exact hil
   have hpi:=hP.small i P[i] (List.getElem?_eq_getElem hPi)
   unfold vF eC
   rw [cO hPi,aI,eW (by simp [jJ];omega),aI,aI,List.nil_append,eW (by simp [jJ];omega),aI]
   obtain ⟨P',h1,h2,_⟩:=aLq h16 hP (path:=P[i]++[txt p.S (fP p q)[k]]) (by simp;omega) ((fP p q)[k].To,z) p.S.N p.S.I p.S.L p.S.E p.M p.C r.N r.I r.L r.E
   refine ⟨(aAH F ((fP p q)[k].To,z),P'),?_,hw.ins hx2,?_,h2,hFF⟩
   ·simp only [Option.isSome_some,if_true]
    rw [h1,aI]
    simp only [pK,aI,jS,hw1]
   ·obtain ⟨c,hc⟩:=aJW F ((fP p q)[k].To,z)
    simp only
    rw [←hc,List.getElem?_append_left hil];exact hi
 ·obtain ⟨_,_,hP,hFF⟩:=hI
  rw [List.drop_length] at hFF
  have hFF':a.1=FF:=hFF
  refine ⟨(FF.map R2,mq 0 FF,a.2),by simp only [iF,bT];rw [hFF'];rfl,a.2,rfl,by rw [←hFF'];exact hP⟩
theorem aKO {p:cI} {r:cH} (hp:iS p.S) (hr:iS r):∃ P,yD p r=some ((iR p r).1.map R2,mq 0 (iR p r).1,P):=by
 unfold yD
 obtain ⟨P0,h1,h2,_⟩:=aLq (F:=[]) (P:=[]) (by simp) ⟨rfl,by simp⟩ (path:=[]) (by simp) (p.S.I,r.I) p.S.N p.S.I p.S.L p.S.E p.M p.C r.N r.I r.L r.E
 have e0:aAH [] (p.S.I,r.I)=[(p.S.I,r.I)]:=rfl
 rw [e0] at h1 h2
 rw [show kV ⟨p.S.I,r.I⟩ [] p.S.N p.S.I p.S.L p.S.E p.M p.C r.N r.I r.L r.E [] ([]:List ((Int × Int) × Int)) []=_ from h1,aI]
 have:=aAi (step:=fun s:List (List Int) × List ((Int × Int) × Int) × List (List aZ) × Int=>mM p r s.1 s.2.1 s.2.2.1 s.2.2.2)
  (fun s=>∃ (i:Nat) (F:List (Int × Int)) (P:List (List aZ)) (ed:List Edge),s=(F.map R2,mq 0 F,P,(i:Int))∧i≤F.length∧WQ2 p r F∧Pth F P∧xQ p r (1601 - i) i (F,ed)=iR p r)
  (fun s=>1601 - s.2.2.2.toNat) (fun x=>∃ P,x=((iR p r).1.map R2,mq 0 (iR p r).1,P)) (fun s hI=>?_) (s:=([(p.S.I,r.I)].map R2,mq 0 [(p.S.I,r.I)],P0,0)) ⟨0,[(p.S.I,r.I)],P0,[],rfl,by simp,aJX hp.1 hr.1,h2,rfl⟩
 ·obtain ⟨x,hx,P,rfl⟩:=this
  rw [hx,aI]
  exact ⟨P,rfl⟩
 ·obtain ⟨i,F,P,ed,rfl,hi,hw,hP,hx⟩:=hI
  have h16:=hw.len hp.1 hr.1
  simp only
  by_cases hil:i < F.length
  ·have hq:F[i]?=some F[i]:=List.getElem?_eq_getElem hil
   have hqB:=hw.2 F[i] (List.getElem_mem hil)
   rw [show 1601 - i=(1600 - i)+1 by omega] at hx
   unfold xQ at hx
   rw [hq] at hx
   simp only at hx
   have hrow:ix (F.map R2) (i:Int)=some (R2 F[i]):=by rw [iT,List.getElem?_map,hq];rfl
   obtain ⟨P',h1,h2⟩:=next_eq hp hr hw hq hP
   simp only [mM,List.length_map,cB hil,if_pos,hrow,aI,h1]
   left
   refine ⟨_,rfl,⟨i+1,aBg F (suc p r F[i] (fP p F[i])),P',_,?_,?_,WQ2.add hw (aMs hp.1 hr.1 hqB yJ),h2,by rw [show 1601 - (i+1)=1600 - i by omega];exact hx⟩,?_⟩
   ·simp only [bV hil (show F.length < 4611686018427387904 by omega)]
   ·have:=(aBT (suc p r F[i] (fP p F[i])) F).length_le;omega
   ·simp only [bV hil (show F.length < 4611686018427387904 by omega),Int.toNat_natCast];omega
  ·right
   obtain rfl:i=F.length:=by omega
   rw [show 1601 - F.length=(1600 - F.length)+1 by omega] at hx
   unfold xQ at hx
   rw [List.getElem?_eq_none (Nat.le_refl _)] at hx
   simp only at hx
   refine ⟨(F.map R2,mq 0 F,P),?_,P,?_⟩
   ·simp only [mM,List.length_map,bT];rfl
   ·rw [←hx]
end Gv
namespace Gv
open Go
theorem aOZ {α:Type} (lt:α→α→Bool) (irr:∀ a,lt a a=false) (tr:∀ {a b c},lt a b=true→lt b c=true→lt a c=true) (tri:∀ a b,lt a b=true∨a=b∨lt b a=true) {xs:List α} (hn:xs.Nodup):(srt lt xs).Pairwise fun a b=>lt a b=true:=by
 have asy:∀ {a b},lt a b=true→lt b a=false:=fun {a b} h=>by
  cases hx:lt b a with
  |false=>rfl
  |true=>have:=tr h hx;rw [irr] at this;cases this
 have h1:(srt lt xs).Pairwise fun a b=>(!lt b a)=true:=by
  refine List.pairwise_mergeSort (le:=fun a b=>!lt b a) (fun a b c h1 h2=>?_) (fun a b=>?_) xs
  ·simp only [Bool.not_eq_true'] at *
   rcases tri a b with h|h|h
   ·rcases tri b c with g|g|g
    ·exact asy (tr h g)
    ·subst g;exact asy h
    ·rw [g] at h2;cases h2
   ·subst h;exact h2
   ·rw [h] at h1;cases h1
  ·rcases tri a b with h|h|h
   ·rw [asy h];rfl
   ·subst h;rw [irr];rfl
   ·rw [asy h];simp
 have h2:(srt lt xs).Nodup:=(List.mergeSort_perm xs _).nodup_iff.2 hn
 refine (h1.and h2).imp fun {a b} h=>?_
 obtain ⟨h3,h4⟩:=h
 simp only [Bool.not_eq_true'] at h3
 rcases tri a b with h|h|h
 ·exact h
 ·exact absurd h h4
 ·rw [h] at h3;cases h3
theorem aPa (a:List Int):nU a a=false:=by
 have:∀ a:List Int,kU a a=0:=fun a=>by
  induction a with
  |nil=>rfl
  |cons x l ih=>simp [kU,ih]
 simp [nU,this]
def qLt (a b:Int × Int):Bool:=decide (a.1 < b.1)||(a.1 == b.1&&decide (a.2 < b.2))
theorem aFC {a b:Int × Int}:qLt a b=true↔a.1 < b.1∨(a.1=b.1∧a.2 < b.2):=by unfold qLt;simp
theorem aIM (a b:Int × Int):nU (R2 a) (R2 b)=qLt a b:=by
 refine Bool.eq_iff_iff.2 ?_
 rw [aFC]
 unfold nU R2 kU
 simp only [decide_eq_true_eq]
 split
 ·constructor
  ·intro _;exact .inl (by assumption)
  ·intro _;omega
 ·split
  ·constructor
   ·intro h;omega
   ·intro h;omega
  ·unfold kU
   split
   ·constructor
    ·intro _;exact .inr ⟨by omega,by assumption⟩
    ·intro _;omega
   ·split
    ·constructor
     ·intro h;omega
     ·intro h;omega
    ·constructor
     ·intro h;simp [kU] at h
     ·intro h;omega
theorem qLt_irr (a:Int × Int):qLt a a=false:=by
 cases h:qLt a a with
 |false=>rfl
 |true=>rw [aFC] at h;omega
theorem qLt_tr {a b c:Int × Int} (h1:qLt a b=true) (h2:qLt b c=true):qLt a c=true:=by
 rw [aFC] at *;omega
theorem aMw (a b:Int × Int):qLt a b=true∨a=b∨qLt b a=true:=by
 rw [aFC,aFC]
 have:a=b↔a.1=b.1∧a.2=b.2:=⟨fun h=>by rw [h];exact ⟨rfl,rfl⟩,fun h=>Prod.ext h.1 h.2⟩
 rw [this];omega
def ordQ (F:List (Int × Int)):List (Int × Int):=srt qLt F
theorem aFD (F:List (Int × Int)):(ordQ F).Perm F:=List.mergeSort_perm _ _
theorem aNP {F:List (Int × Int)} {q:Int × Int}:q∈ordQ F↔q∈F:=(aFD F).mem_iff
theorem ordQ_len (F:List (Int × Int)):(ordQ F).length=F.length:=(aFD F).length_eq
theorem ordQ_row (F:List (Int × Int)):srt nU (F.map R2)=(ordQ F).map R2:=by
 unfold ordQ srt
 exact (List.map_mergeSort (r:=fun a b=>!qLt b a) (s:=fun a b=>!nU b a) (f:=R2) (l:=F) (fun a _ b _=>by rw [aIM])).symm
theorem aNQ {F:List (Int × Int)} (h:F.Nodup):(ordQ F).Pairwise fun a b=>qLt a b=true:=aOZ qLt qLt_irr (fun h1 h2=>qLt_tr h1 h2) aMw h
theorem aPc {F:List (Int × Int)} (h:F.Nodup):(ordQ F).Nodup:=(aFD F).nodup_iff.2 h
variable {p:cI} {r:cH}
theorem aNR:∀ {l:List (Int × Int × Int)} {F:List (Int × Int)} {x:Int × Int × Int},x∈l→x.2∈aBg F l
 |y::l,F,x,h=>by
  rcases List.mem_cons.1 h with rfl|h
  ·exact (aBT l (aAH F x.2)).subset (aNN F x.2)
  ·exact aNR (F:=aAH F y.2) h
theorem xQ_W (hp:cT p.S) (hr:cT r):∀ {n i:Nat} {s:List (Int × Int) × List Edge},WQ2 p r s.1→WQ2 p r (xQ p r n i s).1
 |0,_,_,h=>h
 |n+1,i,s,h=>by
  unfold xQ
  split
  ·exact h
  ·rename_i q hq
   exact xQ_W hp hr (n:=n) (WQ2.add h (aMs hp hr (h.2 q (List.mem_of_getElem? hq)) yJ))
theorem pre_get {α:Type} {a b:List α} (h:a <+:b) {i:Nat} {x:α} (hx:a[i]?=some x):b[i]?=some x:=by
 obtain ⟨c,rfl⟩:=h
 rw [List.getElem?_append_left (List.getElem?_eq_some_iff.1 hx).1];exact hx
def yK (p:cI) (r:cH) (FF:List (Int × Int)):Nat→List (Int × Int)→List Edge
 |_,[]=>[]
 |i,q::l=>(suc p r q (fP p q)).map (fun x=>⟨(i:Int),x.1,pos FF x.2⟩)++yK p r FF (i+1) l
theorem edQ_map (i:Int) {FF:List (Int × Int)}:∀ {l:List (Int × Int × Int)} {F:List (Int × Int)},aBg F l <+:FF→edQ i F l=l.map fun x=>⟨i,x.1,pos FF x.2⟩
 |[],_,_=>rfl
 |x::l,F,h=>by
  have h':aBg (aAH F x.2) l <+:FF:=h
  have h2:=(aBT l (aAH F x.2)).trans h'
  simp only [edQ,List.map_cons,edQ_map i h',pos_pre h2 (aNN F x.2)]
theorem aJZ (hp:cT p.S) (hr:cT r):∀ {n i:Nat} {s:List (Int × Int) × List Edge},WQ2 p r s.1→1601≤n+i→i≤s.1.length→
  (xQ p r n i s).2=s.2++yK p r (xQ p r n i s).1 i ((xQ p r n i s).1.drop i)∧∀ q∈(xQ p r n i s).1.drop i,∀ x∈suc p r q (fP p q),x.2∈(xQ p r n i s).1
 |0,i,s,h,hn,hi=>by have:=h.len hp hr;omega
 |n+1,i,s,h,hn,hi=>by
  unfold xQ
  cases hq:s.1[i]? with
  |none=>
   simp only
   have:s.1.length≤i:=by
    apply Classical.byContradiction
    intro hc
    rw [List.getElem?_eq_getElem (by omega)] at hq;cases hq
   rw [List.drop_eq_nil_of_le this]
   exact ⟨by simp [yK],by simp⟩
  |some q=>
   simp only
   have hil:=(List.getElem?_eq_some_iff.1 hq).1
   have hpre:=aBT (suc p r q (fP p q)) s.1
   have ih:=aJZ hp hr (n:=n) (i:=i+1) (s:=(aBg s.1 (suc p r q (fP p q)),s.2++edQ (i:Int) s.1 (suc p r q (fP p q)))) (WQ2.add h (aMs hp hr (h.2 q (List.mem_of_getElem? hq)) yJ)) (by omega) (by have:=hpre.length_le;simp only;omega)
   have hx:=(xQ_pre p r n (i+1) (aBg s.1 (suc p r q (fP p q)),s.2++edQ (i:Int) s.1 (suc p r q (fP p q)))).1
   generalize xQ p r n (i+1) (aBg s.1 (suc p r q (fP p q)),s.2++edQ (i:Int) s.1 (suc p r q (fP p q)))=res at ih hx
   simp only at ih hx
   have hg:=pre_get (hpre.trans hx) hq
   obtain ⟨hl,hg'⟩:=List.getElem?_eq_some_iff.1 hg
   rw [List.drop_eq_getElem_cons hl,hg']
   refine ⟨?_,fun a ha x hxa=>?_⟩
   ·rw [ih.1]
    simp only [yK,edQ_map (i:Int) hx,List.append_assoc]
   ·rcases List.mem_cons.1 ha with rfl|ha
    ·exact hx.subset (aNR hxa)
    ·exact ih.2 a ha x hxa
theorem fin_W (hp:cT p.S) (hr:cT r):WQ2 p r (iR p r).1:=xQ_W hp hr (aJX hp hr)
theorem aFE (hp:cT p.S) (hr:cT r):(iR p r).2=yK p r (iR p r).1 0 (iR p r).1:=by
 have:=(aJZ hp hr (n:=1601) (i:=0) (s:=([(p.S.I,r.I)],[])) (aJX hp hr) (by omega) (by simp)).1
 rw [List.drop_zero,List.nil_append] at this
 exact this
theorem aEm (hp:cT p.S) (hr:cT r) {q:Int × Int} (hq:q∈(iR p r).1):∀ x∈suc p r q (fP p q),x.2∈(iR p r).1:=by
 have:=(aJZ hp hr (n:=1601) (i:=0) (s:=([(p.S.I,r.I)],[])) (aJX hp hr) (by omega) (by simp)).2
 exact this q (by rw [List.drop_zero];exact hq)
theorem aFF (p:cI) (r:cH):(iR p r).1[0]?=some (p.S.I,r.I):=pre_get (xQ_pre p r 1601 0 ([(p.S.I,r.I)],[])).1 rfl
theorem aDx (FF:List (Int × Int)):∀ (i:Nat) (l:List (Int × Int)),(yK p r FF i l).length=(l.map fun q=>(suc p r q (fP p q)).length).sum
 |_,[]=>rfl
 |i,q::l=>by simp [yK,aDx FF (i+1) l]
theorem aDy {FF:List (Int × Int)} {e:Edge}:∀ {i:Nat} {l:List (Int × Int)},e∈yK p r FF i l↔∃ (j:Nat) (q:Int × Int) (x:Int × Int × Int),l[j]?=some q∧x∈suc p r q (fP p q)∧e=⟨((i+j:Nat):Int),x.1,pos FF x.2⟩
 |i,[]=>by simp [yK]
 |i,q::l=>by
  unfold yK
  rw [List.mem_append,List.mem_map,aDy (i:=i+1) (l:=l)]
  constructor
  ·rintro (⟨x,hx,rfl⟩|⟨j,q',x,hj,hx,rfl⟩)
   ·exact ⟨0,q,x,rfl,hx,rfl⟩
   ·exact ⟨j+1,q',x,by simpa using hj,hx,by rw [show i+(j+1)=i+1+j by omega]⟩
  ·rintro ⟨j,q',x,hj,hx,rfl⟩
   cases j with
   |zero=>
    simp at hj;subst hj
    exact .inl ⟨x,hx,rfl⟩
   |succ j=>exact .inr ⟨j,q',x,by simpa using hj,hx,by rw [show i+(j+1)=i+1+j by omega]⟩
theorem aMx {q:Int × Int} {es:List Edge} {x:Int × Int × Int} (h:x∈suc p r q es):∃ e∈es,x.1=e.B:=by
 unfold suc at h
 rw [List.mem_filterMap] at h
 obtain ⟨e,he,h⟩:=h
 rw [Option.map_eq_some_iff] at h
 obtain ⟨k,_,rfl⟩:=h
 exact ⟨e,he,rfl⟩
theorem outE_pair (hp:iS p.S) (q:Int × Int):(fP p q).Pairwise fun a b=>a.B < b.B:=by
 have h1:p.S.E.Pairwise aAO:=List.pairwise_iff_getElem.2 fun i j hi hj hij=>aNr hp.1 hp.2 hij hj
 have h2:(fP p q).Pairwise aAO:=h1.filter _
 refine h2.imp_of_mem ?_
 intro a b ha hb h
 have ha':=(List.mem_filter.1 ha).2
 have hb':=(List.mem_filter.1 hb).2
 simp only [beq_iff_eq] at ha' hb'
 unfold aAO at h
 omega
theorem aNT {q:Int × Int}:∀ {es:List Edge},(es.Pairwise fun a b=>a.B < b.B)→(suc p r q es).Pairwise fun a b=>a.1 < b.1
 |[],_=>List.Pairwise.nil
 |e::es,h=>by
  rw [List.pairwise_cons] at h
  have ih:=aNT (q:=q) h.2
  unfold suc at ih ⊢
  rw [List.filterMap_cons]
  cases alo r q.2 (txt p.S e) with
  |none=>simpa using ih
  |some k=>
   simp only [Option.map_some]
   rw [List.pairwise_cons]
   refine ⟨fun x hx=>?_,ih⟩
   obtain ⟨e',he',hl⟩:=aMx (es:=es) (p:=p) (r:=r) (q:=q) hx
   rw [hl]
   exact h.1 e' he'
theorem aPd {FF:List (Int × Int)} {i:Nat} {l:List (Int × Int)} {e:Edge} (h:e∈yK p r FF i l):(i:Int)≤e.F:=by
 obtain ⟨j,_,_,_,_,rfl⟩:=aDy.1 h
 simp only;omega
theorem aGx (hp:iS p.S) (FF:List (Int × Int)):∀ (i:Nat) (l:List (Int × Int)),(yK p r FF i l).Pairwise aAO
 |_,[]=>List.Pairwise.nil
 |i,q::l=>by
  unfold yK
  rw [List.pairwise_append]
  refine ⟨?_,aGx hp FF (i+1) l,fun a ha b hb=>?_⟩
  ·rw [List.pairwise_map]
   exact (aNT (outE_pair hp q)).imp fun h=>.inr ⟨rfl,h⟩
  ·obtain ⟨x,_,rfl⟩:=List.mem_map.1 ha
   have:=aPd hb
   exact .inl (by simp only;omega)
end Gv
namespace Gv
open Go
theorem aKQ (a b:Int × Int):xW (R2 a) (R2 b)=some (kU (R2 a) (R2 b)):=by
 unfold xW
 have s0:jL (R2 a) (R2 b) 0=some (if a.1 < b.1 then .inr (.inr (-1)) else if b.1 < a.1 then .inr (.inr 1) else .inl 1):=by
  unfold jL mK
  rw [show decide ((0:Int) < ((R2 a).length:Int))=true from rfl,if_pos rfl,show decide ((0:Int) < ((R2 b).length:Int))=true from rfl,if_pos rfl,show ix (R2 a) 0=some a.1 from rfl,aI,show ix (R2 b) 0=some b.1 from rfl,aI]
  by_cases h1:a.1 < b.1
  ·simp [h1]
  ·by_cases h2:b.1 < a.1
   ·simp [h1,h2]
   ·simp [h1,h2,wr]
 have s1:jL (R2 a) (R2 b) 1=some (if a.2 < b.2 then .inr (.inr (-1)) else if b.2 < a.2 then .inr (.inr 1) else .inl 2):=by
  unfold jL mK
  rw [show decide ((1:Int) < ((R2 a).length:Int))=true from rfl,if_pos rfl,show decide ((1:Int) < ((R2 b).length:Int))=true from rfl,if_pos rfl,show ix (R2 a) 1=some a.2 from rfl,aI,show ix (R2 b) 1=some b.2 from rfl,aI]
  by_cases h1:a.2 < b.2
  ·simp [h1]
  ·by_cases h2:b.2 < a.2
   ·simp [h1,h2]
   ·simp [h1,h2,wr]
 have s2:jL (R2 a) (R2 b) 2=some (.inr (.inl ())):=rfl
 rw [bM,s0]
 by_cases h1:a.1 < b.1
 ·simp [h1,R2,kU]
 ·by_cases h2:b.1 < a.1
  ·simp [h1,h2,R2,kU]
  ·simp only [h1,h2,if_false]
   rw [bM,s1]
   by_cases h3:a.2 < b.2
   ·simp [h1,h2,h3,R2,kU]
   ·by_cases h4:b.2 < a.2
    ·simp [h1,h2,h3,h4,R2,kU]
    ·simp only [h3,h4,if_false]
     rw [bM,s2,aI]
     simp [pW,h1,h2,h3,h4,R2,kU]
def insL (q:Int × Int):List (Int × Int)→List (Int × Int)
 |[]=>[]
 |x::l=>if qLt x q=true then x::insL q l else if x=q then x::l else q::x::l
def insD (q:Int × Int):List (Int × Int)→Bool
 |[]=>false
 |x::l=>if qLt x q=true then insD q l else true
def aFM (l:List (Int × Int)) (q:Int × Int):List (Int × Int):=if insD q l=true then insL q l else insL q l++[q]
theorem aKa (q:Int × Int):aFM [] q=[q]:=rfl
theorem aIa (x:Int × Int) (l:List (Int × Int)) (q:Int × Int):aFM (x::l) q=if qLt x q=true then x::aFM l q else if x=q then x::l else q::x::l:=by
 simp only [aFM,insL,insD]
 by_cases h:qLt x q=true
 ·simp only [h,if_true]
  split<;>rfl
 ·simp only [h,if_false]
  simp
theorem aKb {q x:Int × Int}:∀ {l:List (Int × Int)},x∈aFM l q↔x=q∨x∈l
 |[]=>by simp [aKa]
 |y::l=>by
  rw [aIa]
  split
  ·rw [List.mem_cons,aKb (l:=l),List.mem_cons]
   constructor
   ·rintro (h|h|h)<;>simp [h]
   ·rintro (h|h|h)<;>simp [h]
  ·split
   ·rename_i _ h
    subst h
    simp
   ·simp
theorem aKc (q:Int × Int):∀ (l:List (Int × Int)),(aFM l q).length≤l.length+1
 |[]=>by simp [aKa]
 |y::l=>by
  rw [aIa]
  have:=aKc q l
  split
  ·simp;omega
  ·split<;>simp
theorem aIo {q:Int × Int}:∀ {l:List (Int × Int)},(l.Pairwise fun a b=>qLt a b=true)→(aFM l q).Pairwise fun a b=>qLt a b=true
 |[],_=>by simp [aKa]
 |y::l,h=>by
  rw [aIa]
  rw [List.pairwise_cons] at h
  split
  ·rename_i hy
   rw [List.pairwise_cons]
   refine ⟨fun x hx=>?_,aIo h.2⟩
   rcases aKb.1 hx with rfl|hx
   ·exact hy
   ·exact h.1 x hx
  ·split
   ·exact List.pairwise_cons.2 h
   ·rename_i h1 h2
    have hq:qLt q y=true:=by
     rcases aMw y q with g|g|g
     ·exact absurd g h1
     ·exact absurd g h2
     ·exact g
    rw [List.pairwise_cons]
    refine ⟨fun x hx=>?_,List.pairwise_cons.2 h⟩
    rcases List.mem_cons.1 hx with rfl|hx
    ·exact hq
    ·exact qLt_tr hq (h.1 x hx)
theorem aMz (Q:List (Int × Int)) (q:Int × Int) (h:Q.length < 1000000000):aAB (Q.map R2) (R2 q)=some ((aFM Q q).map R2):=by
 unfold aAB
 have hc:∀ x:Int × Int,decide (0≤kU (R2 x) (R2 q))=!qLt x q:=fun x=>by
  rw [←aIM];unfold nU
  refine Bool.eq_iff_iff.2 ?_
  simp only [decide_eq_true_eq,Bool.not_eq_true',decide_eq_false_iff_not];omega
 have hc2:∀ x:Int × Int,qLt x q=false→(0 < kU (R2 x) (R2 q)↔x≠q):=fun x hx=>by
  rw [←aIM] at hx
  unfold nU at hx
  simp only [decide_eq_false_iff_not] at hx
  constructor
  ·intro h e;subst e
   have:=aPa (R2 x)
   have:∀ a:List Int,kU a a=0:=fun a=>by
    induction a with
    |nil=>rfl
    |cons x l ih=>simp [kU,ih]
   rw [this] at h;omega
  ·intro hne
   apply Classical.byContradiction
   intro hn
   have h0:kU (R2 x) (R2 q)=0:=by omega
   rcases aMw x q with g|g|g
   ·rw [←aIM] at g;unfold nU at g;simp only [decide_eq_true_eq] at g;omega
   ·exact hne g
   ·rw [aFC] at g
    unfold R2 kU at h0
    split at h0
    ·omega
    ·split at h0
     ·omega
     ·unfold kU at h0
      split at h0
      ·omega
      ·split at h0<;>omega
 have:=lR (step:=fun s:List (List Int) × Bool × Int=>oT (Q.map R2) (R2 q) s.1 s.2.1 s.2.2) Q (fun k (a:List (List Int) × Bool)=>(a.1,a.2,(k:Int)))
  (fun l a=>if a.2=true then (a.1++l.map R2,true) else (a.1++(insL q l).map R2,insD q l)) (fun k a=>a.1.length≤k+1∧(a.2=false→a.1.length≤k)) (fun k a x l hk hx hI=>?_) (fun a hI=>?_) (a:=([],false)) ⟨by simp,by simp⟩
 ·rw [show ((0:Nat):Int)=0 from rfl] at this
  rw [this,aI]
  simp only [Bool.false_eq_true,if_false,List.nil_append]
  unfold sI sH aFM
  have hl:(insL q Q).length≤Q.length+1:=by
   have:=aKc q Q
   unfold aFM at this
   split at this
   ·exact this
   ·simp at this;omega
  cases insD q Q with
  |true=>rfl
  |false=>
   simp only [Bool.not_false,if_true,Bool.false_eq_true,if_false]
   rw [eW (by simp [jJ];omega),aI,List.map_append];rfl
 ·obtain ⟨out,done⟩:=a
  simp only at hI
  have hI1:=hI.1
  have hx':ix (Q.map R2) (k:Int)=some (R2 x):=by
   obtain ⟨hk',rfl⟩:=pN hx
   rw [iT];simp [hk']
  have a1:∀ X:List Int,vH out [X]=some (out++[X]):=fun X=>eW (by simp [jJ];omega)
  have a2:∀ X Y:List Int,vH (out++[X]) [Y]=some (out++[X]++[Y]):=fun X Y=>eW (by simp [jJ];omega)
  have hw1:=bV hk (show Q.length < 4611686018427387904 by omega)
  simp only [oT,List.length_map,cB hk,if_pos,hx',aI,aKQ,hc]
  left
  cases done with
  |true=>
   simp only [Bool.not_true,Bool.false_eq_true,if_false,oS,iY,a1,aI,hw1]
   exact ⟨(out++[R2 x],true),rfl,⟨by simp;omega,fun h=>by cases h⟩,by simp⟩
  |false=>
   have hI2:=hI.2 rfl
   simp only [Bool.not_false,if_true,oS]
   cases hq:qLt x q with
   |true=>
    simp only [Bool.not_true,Bool.false_eq_true,if_false,iY,a1,aI,hw1]
    exact ⟨(out++[R2 x],false),rfl,⟨by simp;omega,fun _=>by simp;omega⟩,by simp [insL,insD,hq]⟩
   |false=>
    simp only [Bool.not_false,if_true]
    by_cases hne:x=q
    ·rw [if_neg (by simp only [decide_eq_true_eq];rw [hc2 x hq];exact fun h=>h hne)]
     simp only [iY,a1,aI,hw1]
     refine ⟨(out++[R2 x],true),rfl,⟨by simp;omega,fun h=>by cases h⟩,?_⟩
     simp only [insL,insD,hq,if_true,Bool.false_eq_true,if_false,if_pos hne,List.append_assoc];rfl
    ·rw [if_pos (by simp only [decide_eq_true_eq];rw [hc2 x hq];exact hne),a1,aI]
     simp only [iY,a2,aI,hw1]
     refine ⟨(out++[R2 q]++[R2 x],true),rfl,⟨by simp;omega,fun h=>by cases h⟩,?_⟩
     simp only [insL,insD,hq,if_true,Bool.false_eq_true,if_false,if_neg hne,List.append_assoc];rfl
 ·simp only [oT,List.length_map,bT]
  obtain ⟨out,done⟩:=a
  cases done<;>simp [insL,insD]
end Gv
namespace Gv
open Go
theorem aGy (a:Edge):dP a a=false:=by
 cases h:dP a a with
 |false=>rfl
 |true=>exact absurd rfl (aHN h)
theorem aGz {a b c:Edge} (h1:dP a b=true) (h2:dP b c=true):dP a c=true:=by
 rw [lX] at *;omega
theorem aNU (a b:Edge):dP a b=true∨a=b∨dP b a=true:=by
 rw [lX,lX]
 obtain ⟨a1,a2,a3⟩:=a
 obtain ⟨b1,b2,b3⟩:=b
 simp only [Edge.mk.injEq]
 omega
def SE (l:List Edge):Prop:=l.Pairwise fun a b=>dP a b=true
theorem put_find (l:List Edge) (e:Edge) (h:l.length < 1000000000):∃ a:Nat,loop (fun s:Int=>sJ l e s) (l.length:Int)=some (a:Int)∧a≤l.length∧(∀ (j:Nat) x,a≤j→l[j]?=some x→dP e x=true)∧(∀ (x:Edge),0 < a→l[a - 1]?=some x→dP e x=false):=by
 have key:=aAi (step:=fun s:Int=>sJ l e s) (fun s=>∃ a:Nat,s=(a:Int)∧a≤l.length∧∀ (j:Nat) x,a≤j→l[j]?=some x→dP e x=true) (fun s=>s.toNat)
  (fun x=>∃ a:Nat,x=(a:Int)∧a≤l.length∧(∀ (j:Nat) x,a≤j→l[j]?=some x→dP e x=true)∧(∀ (x:Edge),0 < a→l[a - 1]?=some x→dP e x=false)) (fun s hI=>?_) (s:=(l.length:Int)) ⟨l.length,rfl,Nat.le_refl _,fun j x hj hx=>by
   rw [List.getElem?_eq_none (by omega)] at hx;cases hx⟩
 ·obtain ⟨r,h1,a,rfl,h2⟩:=key
  exact ⟨a,h1,h2⟩
 ·obtain ⟨a,rfl,ha,hall⟩:=hI
  by_cases h0:0 < a
  ·have hk1:wr ((a:Int) - 1)=((a - 1:Nat):Int):=by rw [fL (by omega) (by omega)];omega
   have hx:l[a - 1]?=some l[a - 1]:=List.getElem?_eq_getElem (by omega)
   simp only [sJ]
   rw [decide_eq_true (p:=(0:Int) < (a:Int)) (by omega),if_pos rfl,hk1,cO (xs:=l) (k:=a - 1) (by omega),aI,aJo,aI]
   unfold wG
   cases he:dP e l[a - 1] with
   |true=>
    left
    refine ⟨_,by rw [if_pos rfl,hk1],⟨a - 1,rfl,by omega,fun j x hj hx2=>?_⟩,by simp;omega⟩
    by_cases e1:j=a - 1
    ·subst e1;rw [hx] at hx2;cases hx2;exact he
    ·exact hall j x (by omega) hx2
   |false=>
    right
    refine ⟨_,by rw [if_neg (by simp)],a,rfl,ha,hall,fun x _ hx2=>?_⟩
    rw [hx] at hx2;cases hx2;exact he
  ·right
   refine ⟨_,by simp only [sJ];rw [decide_eq_false (p:=(0:Int) < (a:Int)) (by omega),if_neg (by simp)];unfold wG;rw [if_neg (by simp)],a,rfl,ha,hall,fun x h=>absurd h h0⟩
theorem put_shift (l:List Edge) (a:Nat) (ha:a≤l.length) (h:l.length < 1000000000):∃ z:Edge,loop (fun s:List Edge × Int=>wE (a:Int) s.1 s.2) (l++[⟨0,0,0⟩],(l.length:Int))=some (l.take a++z::l.drop a):=by
 have key:=aAi (step:=fun s:List Edge × Int=>wE (a:Int) s.1 s.2) (fun s=>∃ (k:Nat) (z:Edge),s=(l.take k++z::l.drop k,(k:Int))∧a≤k∧k≤l.length) (fun s=>s.2.toNat)
  (fun x=>∃ z:Edge,x=l.take a++z::l.drop a) (fun s hI=>?_) (s:=(l++[⟨0,0,0⟩],(l.length:Int))) ⟨l.length,⟨0,0,0⟩,by simp,ha,Nat.le_refl _⟩
 ·obtain ⟨r,h1,z,rfl⟩:=key
  exact ⟨z,h1⟩
 ·obtain ⟨k,z,rfl,hak,hk⟩:=hI
  simp only [wE]
  have hlen:(l.take k++z::l.drop k).length=l.length+1:=by simp;omega
  by_cases h0:a < k
  ·have hk1:wr ((k:Int) - 1)=((k - 1:Nat):Int):=by rw [fL (by omega) (by omega)];omega
   rw [decide_eq_true (p:=(a:Int) < (k:Int)) (by omega),if_pos rfl,hk1,cO (xs:=l.take k++z::l.drop k) (k:=k - 1) (by omega),aI,cO (by omega),aI,wN _ (by omega),aI]
   left
   refine ⟨_,rfl,⟨k - 1,l[k - 1],?_,by omega,by omega⟩,by simp;omega⟩
   have e1:(l.take k++z::l.drop k)[k - 1]'(by omega)=l[k - 1]:=by
    rw [List.getElem_append_left (by simp;omega),List.getElem_take]
   rw [e1]
   have e2:(l.take k++z::l.drop k).set k l[k - 1]=l.take k++l[k - 1]::l.drop k:=by
    rw [List.set_append_right _ _ (by rw [List.length_take];omega)]
    simp [Nat.min_eq_left hk]
   have e3:l.take k=l.take (k - 1)++[l[k - 1]]:=by
    have:=List.take_add_one (l:=l) (i:=k - 1)
    rw [show k - 1+1=k by omega,List.getElem?_eq_getElem (by omega)] at this
    exact this
   have e4:l.drop (k - 1)=l[k - 1]::l.drop k:=by
    have:=List.drop_eq_getElem_cons (l:=l) (i:=k - 1) (by omega)
    rw [show k - 1+1=k by omega] at this
    exact this
   simp only [Prod.mk.injEq,and_true]
   show (l.take k++z::l.drop k).set k ⟨l[k - 1].F,l[k - 1].B,l[k - 1].To⟩=_
   rw [show (⟨l[k - 1].F,l[k - 1].B,l[k - 1].To⟩:Edge)=l[k - 1] from rfl,e2,e3,e4,List.append_assoc];rfl
  ·obtain rfl:k=a:=by omega
   right
   rw [decide_eq_false (p:=(k:Int) < (k:Int)) (by omega),if_neg (by simp)]
   exact ⟨_,rfl,z,rfl⟩
theorem l11Put_eq (l:List Edge) (e:Edge) (h:l.length < 1000000000) (hs:SE l):∃ l',aFa l e=some l'∧SE l'∧(∀ x,x∈l'↔x=e∨x∈l)∧l'.length≤l.length+1:=by
 unfold aFa
 obtain ⟨a,h1,ha,hge,hlt⟩:=put_find l e h
 rw [h1,aI]
 have hbefore:∀ x∈l.take a,dP x e=true∨x=e:=fun x hx=>by
  obtain ⟨j,hj,rfl⟩:=List.getElem_of_mem hx
  rw [List.length_take] at hj
  rw [List.getElem_take]
  have hla:l[a - 1]?=some (l[a - 1]'(by omega)):=List.getElem?_eq_getElem (by omega)
  have hf:=hlt _ (by omega) hla
  have hle:dP l[a - 1] e=true∨l[a - 1]=e:=by
   rcases aNU l[a - 1] e with g|g|g
   ·exact .inl g
   ·exact .inr g
   ·rw [g] at hf;cases hf
  by_cases e1:j=a - 1
  ·subst e1;exact hle
  ·have hp:=List.pairwise_iff_getElem.1 hs j (a - 1) (by omega) (by omega) (by omega)
   rcases hle with g|g
   ·exact .inl (aGz hp g)
   ·rw [g] at hp;exact .inl hp
 have hafter:∀ x∈l.drop a,dP e x=true:=fun x hx=>by
  obtain ⟨j,hj,rfl⟩:=List.getElem_of_mem hx
  rw [List.length_drop] at hj
  exact hge (a+j) _ (by omega) (by rw [List.getElem_drop];exact List.getElem?_eq_getElem (by omega))
 have hput:e∉l→∃ l',wF l e (a:Int) false=some l'∧SE l'∧(∀ x,x∈l'↔x=e∨x∈l)∧l'.length≤l.length+1:=fun hne=>by
  unfold wF
  rw [if_neg (by simp),eW (by simp [jJ];omega),aI]
  have hk1:wr (((l++([⟨0,0,0⟩]:List Edge)).length:Int) - 1)=(l.length:Int):=by
   simp only [List.length_append,List.length_cons,List.length_nil]
   rw [fL (by omega) (by omega)];omega
  rw [hk1]
  obtain ⟨z,hz⟩:=put_shift l a ha h
  rw [hz,aI]
  unfold aAC
  have hl:(l.take a++z::l.drop a).length=l.length+1:=by simp;omega
  rw [cO (by omega),aI,wN _ (by omega),aI]
  have e2:(l.take a++z::l.drop a).set a (⟨e.F,e.B,e.To⟩:Edge)=l.take a++e::l.drop a:=by
   rw [List.set_append_right _ _ (by rw [List.length_take];omega)]
   simp [Nat.min_eq_left ha]
  rw [e2]
  refine ⟨_,rfl,?_,fun x=>?_,by simp;omega⟩
  ·have hs':(l.take a++l.drop a).Pairwise fun a b=>dP a b=true:=by rw [List.take_append_drop];exact hs
   rw [List.pairwise_append] at hs'
   unfold SE
   rw [List.pairwise_append,List.pairwise_cons]
   refine ⟨hs'.1,⟨hafter,hs'.2.1⟩,fun x hx y hy=>?_⟩
   have hxe:dP x e=true:=by
    rcases hbefore x hx with g|g
    ·exact g
    ·subst g;exact absurd (List.mem_of_mem_take hx) hne
   rcases List.mem_cons.1 hy with rfl|hy
   ·exact hxe
   ·exact aGz hxe (hafter y hy)
  ·rw [List.mem_append,List.mem_cons]
   conv=>rhs;rw [←List.take_append_drop a l,List.mem_append]
   constructor
   ·rintro (g|g|g)<;>simp [g]
   ·rintro (g|g|g)<;>simp [g]
 unfold aAD
 by_cases h0:0 < a
 ·have hk1:wr ((a:Int) - 1)=((a - 1:Nat):Int):=by rw [fL (by omega) (by omega)];omega
  rw [decide_eq_true (p:=(0:Int) < (a:Int)) (by omega),if_pos rfl,hk1,cO (xs:=l) (k:=a - 1) (by omega),aI]
  by_cases he:l[a - 1]=e
  ·rw [decide_eq_true he]
   refine ⟨l,rfl,hs,fun x=>⟨.inr,?_⟩,by omega⟩
   rintro (rfl|hx)
   ·rw [←he];exact List.getElem_mem _
   ·exact hx
  ·rw [decide_eq_false he]
   refine hput fun hm=>?_
   rw [←List.take_append_drop a l,List.mem_append] at hm
   rcases hm with hm|hm
   ·obtain ⟨j,hj,hje⟩:=List.getElem_of_mem hm
    rw [List.length_take] at hj
    rw [List.getElem_take] at hje
    by_cases e1:j=a - 1
    ·subst e1;exact he hje
    ·have hp:=List.pairwise_iff_getElem.1 hs j (a - 1) (by omega) (by omega) (by omega)
     rw [hje] at hp
     have:=hlt _ h0 (List.getElem?_eq_getElem (by omega))
     rw [hp] at this;cases this
   ·have:=hafter e hm
    rw [aGy] at this;cases this
 ·rw [decide_eq_false (p:=(0:Int) < (a:Int)) (by omega),if_neg (by simp)]
  refine hput fun hm=>?_
  obtain rfl:a=0:=by omega
  have:=hafter e (by simpa using hm)
  rw [aGy] at this;cases this
theorem aPe {xs:List aZ} (h:qV xs):aDf xs=some xs:=by
 obtain ⟨h1,h12,h0,hk⟩:=h
 unfold aDf
 rw [show ([([116,97,117]:aZ)]:List aZ)=[dY] from rfl]
 have:=gT (step:=fun s:List aZ × Int=>mX xs s.1 s.2) xs.length (fun k (_:Unit)=>(if k=0 then [dY] else xs.take k,(k:Int))) (fun _ _=>xs) (fun _ _=>True) (fun k a hk' _=>?_) (fun a _=>?_) xs.length 0 () (by omega) trivial
 ·rw [show ((0:Nat):Int)=0 from rfl,if_pos rfl] at this
  rw [this];rfl
 ·left
  refine ⟨(),?_,trivial,rfl⟩
  have hw1:=bV hk' (show xs.length < 4611686018427387904 by omega)
  show mX xs (if k=0 then [dY] else xs.take k) (k:Int)=some (.inl (if k+1=0 then [dY] else xs.take (k+1),((k+1:Nat):Int)))
  rw [if_neg (show ¬ k+1=0 by omega)]
  by_cases hk0:k=0
  ·subst hk0
   have e0:=h0 (by omega)
   rw [if_pos rfl]
   simp only [mX,cB hk',if_pos,cO hk',aI,e0]
   rw [show wC [dY] dY=some 0 from by rw [aEl _ _ (by simp)];rfl,aI,if_pos (by decide)]
   unfold tH
   rw [hw1]
   rw [show xs.take (0+1)=[dY] from by rw [List.take_add_one,List.getElem?_eq_getElem (by omega),e0];rfl]
  ·rw [if_neg hk0]
   have hn:xs[k]∉xs.take k:=fun hm=>by
    obtain ⟨j,hj,hje⟩:=List.getElem_of_mem hm
    rw [List.length_take] at hj
    rw [List.getElem_take] at hje
    have:=aHf (xs:=xs) ⟨h1,h12,h0,hk⟩ (i:=j) (j:=k) (by omega) hk' hje
    omega
   have hlt:(xs.take k).length=k:=by rw [List.length_take];omega
   simp only [mX,cB hk',if_pos,cO hk',aI]
   rw [aEl _ _ (by omega),aI,aMq hn,if_neg (by decide)]
   have hfind:loop (fun s:Int=>pI (xs.take k) xs[k] s) 1=some (k:Int):=by
    have:=gT (step:=fun s:Int=>pI (xs.take k) xs[k] s) k (fun i (_:Unit)=>(i:Int)) (fun _ _=>(k:Int)) (fun i _=>1≤i) (fun i a hi h1i=>?_) (fun a _=>?_) (k - 1) 1 () (by omega) (Nat.le_refl _)
    ·exact this
    ·left
     refine ⟨(),?_,by omega,rfl⟩
     have hi':i < (xs.take k).length:=by omega
     have hl:=aMa (xs:=xs) ⟨h1,h12,h0,hk⟩ (i:=i) (j:=k) h1i hi hk'
     simp only [pI]
     rw [cB hi',if_pos rfl,cO hi',aI,List.getElem_take,hl]
     unfold yA
     rw [if_pos rfl,bV hi (show k < 4611686018427387904 by omega)]
    ·simp only [pI]
     rw [show decide ((k:Int) < ((xs.take k).length:Int))=false from decide_eq_false (by omega),if_neg (by simp)];rfl
   rw [hfind,aI]
   unfold xZ
   rw [eW (by simp [jJ];omega),aI]
   have hk1:wr (((xs.take k++([([]:aZ)]:List aZ)).length:Int) - 1)=(k:Int):=by
    simp only [List.length_append,List.length_cons,List.length_nil,hlt]
    rw [fL (by omega) (by omega)];omega
   rw [hk1,bM]
   have:xY (k:Int) (xs.take k++[([]:aZ)]) (k:Int)=some (.inr (xs.take k++[([]:aZ)])):=by
    unfold xY
    rw [show decide ((k:Int) < (k:Int))=false from decide_eq_false (by omega)];rfl
   simp only [this]
   rw [aI]
   unfold xX tH
   rw [cO (by simp;omega),aI,wN _ (by simp;omega),aI,hw1]
   have e2:(xs.take k++[([]:aZ)]).set k xs[k]=xs.take (k+1):=by
    rw [List.set_append_right _ _ (by omega),hlt,Nat.sub_self,List.take_add_one,List.getElem?_eq_getElem hk'];rfl
   rw [e2]
 ·rw [if_neg (by omega),List.take_length]
  simp only [mX,bT];rfl
theorem labs_pos {xs:List aZ} (h:qV xs) {k:Nat} (hk:k < xs.length):pos xs xs[k]=(k:Int):=by
 obtain ⟨i,hi,e,g⟩:=pQ (List.getElem_mem hk)
 have:=aHf h hi hk g
 omega
theorem aPf {labels:List aZ} (hL:qV labels) {edges EE:List Edge} (hlen:edges.length < 1000000) (hin:∀ e∈edges,0≤e.B∧e.B < labels.length) (hEE:SE EE) (hm:∀ e,e∈edges↔e∈EE) (st ini:Int):
  aDg st ini labels edges=some ⟨st,ini,labels,EE⟩:=by
 unfold aDg
 rw [aPe hL,aI]
 have key:=yH (step:=fun s:List Edge × Int=>pJ labels edges labels s.1 s.2) edges.length (fun k (a:List Edge)=>(a,(k:Int))) (fun k a=>SE a∧(∀ x,x∈a↔x∈edges.take k)∧a.length≤k)
  (fun x=>x=EE) (fun k a hk hI=>?_) (fun a hI=>?_) edges.length 0 [] (by omega) ⟨List.Pairwise.nil,by simp,by simp⟩
 ·obtain ⟨x,hx,hx2⟩:=key
  have hx':loop (fun s:List Edge × Int=>pJ labels edges labels s.1 s.2) (([]:List Edge),0)=some x:=hx
  rw [hx',aI,hx2];rfl
 ·obtain ⟨hs,hmem,hl⟩:=hI
  have hi:=hin _ (List.getElem_mem hk)
  simp only [pJ,cB hk,if_pos,cO hk,aI]
  have h12:=hL.2.1
  rw [ix_of hi.1 (show edges[k].B.toNat < labels.length by omega),aI,aEl _ _ (by omega),aI,labs_pos hL]
  rw [show (⟨edges[k].F,((edges[k].B.toNat:Nat):Int),edges[k].To⟩:Edge)=edges[k] from by
   have:((edges[k].B.toNat:Nat):Int)=edges[k].B:=by omega
   rw [this]]
  obtain ⟨l',h1,h2,h3,h4⟩:=l11Put_eq a edges[k] (by omega) hs
  rw [h1,aI]
  refine ⟨l',by rw [bV hk (show edges.length < 4611686018427387904 by omega)],h2,fun x=>?_,by omega⟩
  rw [h3,hmem,List.take_add_one,List.getElem?_eq_getElem hk,List.mem_append]
  simp only [Option.toList_some,List.mem_singleton]
  constructor
  ·rintro (g|g)<;>simp [g]
  ·rintro (g|g)<;>simp [g]
 ·obtain ⟨hs,hmem,hl⟩:=hI
  rw [List.take_length] at hmem
  refine ⟨a,by simp only [pJ,bT];rfl,?_⟩
  exact aEg (R:=fun a b=>dP a b=true) (fun a h=>by rw [aGy] at h;cases h) (fun h1 h2=>aGz h1 h2) hs hEE fun x=>(hmem x).trans (hm x)
end Gv
