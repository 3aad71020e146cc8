/- Validity of plants, on both sides. -/
import Derived.Test.YtmlgcbjkfcapaaaGreatDoorKP12
set_option linter.all false
namespace Gv
open Go
def aBi (lo hi:Int) (xs:List Int):Prop:=∀ k,(hk:k < xs.length)→(lo≤xs[k]∧xs[k]≤hi)∧(1≤k→(xs[k - 1]'(by omega)) < xs[k])
theorem aBi.nat {lo hi:Int} {xs:List Int} (h:aBi lo hi xs) (hlo:0≤lo) (k:Nat) (hk:k < xs.length):lo+k≤xs[k]:=by
 induction k with
 |zero=>have:=(h 0 hk).1.1;omega
 |succ k ih=>
  have h1:=ih (by omega)
  have h2:=(h (k+1) hk).2 (by omega)
  simp only [Nat.add_sub_cancel] at h2
  omega
theorem aBi.len {hi:Int} {xs:List Int} (h:aBi 0 hi xs) (hh:-1≤hi):(xs.length:Int)≤hi+1:=by
 by_cases h0:xs.length=0
 ·omega
 ·have h1:=h.nat (Int.le_refl 0) (xs.length - 1) (by omega)
  have h2:=(h (xs.length - 1) (by omega)).1.2
  omega
theorem aMD (xs:List Int) (lo hi:Int) (h:xs.length < 1000000000):aCe xs lo hi=some (cl (aBi lo hi xs)):=by
 unfold aCe
 have:=tL (step:=fun s=>tF xs lo hi s) xs.length 0 (fun k=>∀ hk:k < xs.length,(lo≤xs[k]∧xs[k]≤hi)∧(1≤k→(xs[k - 1]'(by omega)) < xs[k])) (.inr false) (.inl ()) (Nat.zero_le _) (fun k h0 hk=>?_) (by simp only [tF,cE];rfl)
 ·rw [show (0:Int)=((0:Nat):Int) from rfl,this,aJ]
  by_cases hs:aBi lo hi xs
  ·rw [if_pos (mJ fun k _ hk _=>hs k hk),mJ hs];rfl
  ·rw [if_neg (by rw [oS];exact fun h=>hs fun k hk=>h k (by omega) hk hk),lF hs]
 ·simp only [tF,cQ hk,if_pos,cZ hk,aJ,tE,cK hk (show xs.length < 4611686018427387904 by omega),aER]
  by_cases hl:lo≤xs[k]∧xs[k]≤hi
  ·rw [if_neg (by simp [hl.1,hl.2])]
   by_cases h1:1≤k
   ·have hk1:wr ((k:Int) - 1)=((k - 1:Nat):Int):=by rw [iM (by omega) (by omega)];omega
    rw [decide_eq_true (p:=(0:Int) < (k:Int)) (by omega),hk1,cZ (xs:=xs) (k:=k - 1) (by omega)]
    simp only [if_pos,aJ]
    by_cases a:(xs[k - 1]'(by omega)) < xs[k]
    ·rw [if_neg (by simp only [decide_eq_true_eq];omega),mJ (fun _=>⟨hl,fun _=>a⟩)];rfl
    ·rw [if_pos (by simp only [decide_eq_true_eq];omega),lF (fun h=>a ((h hk).2 h1))];rfl
   ·rw [decide_eq_false (p:=(0:Int) < (k:Int)) (by omega),mJ (fun _=>⟨hl,fun h=>absurd h h1⟩)];rfl
  ·rw [if_pos (by rw [rG hl];rfl),lF (fun h=>hl (h hk).1)];rfl
theorem aME (t:dB) (xs:List Int) (h:xs.length < 1000000000) (ht:-9223372036854775807≤t.N∧t.N≤9223372036854775807):uM t xs=some (cl (aBi 0 (t.N - 1) xs)):=by
 unfold uM
 have:=tL (step:=fun s=>lB t xs s) xs.length 0 (fun k=>∀ hk:k < xs.length,(0≤xs[k]∧xs[k]≤t.N - 1)∧(1≤k→(xs[k - 1]'(by omega)) < xs[k])) (.inr false) (.inl ()) (Nat.zero_le _) (fun k h0 hk=>?_) (by simp only [lB,cE];rfl)
 ·have this':loop (fun s=>lB t xs s) 0=_:=this
  rw [this',aJ]
  by_cases hs:aBi 0 (t.N - 1) xs
  ·rw [if_pos (mJ fun k _ hk _=>hs k hk),mJ hs];rfl
  ·rw [if_neg (by rw [oS];exact fun h=>hs fun k hk=>h k (by omega) hk hk),lF hs]
 ·simp only [lB,cQ hk,if_pos,cZ hk,aJ,mU,cK hk (show xs.length < 4611686018427387904 by omega),aFP t _ ht]
  by_cases hl:0≤xs[k]∧xs[k]≤t.N - 1
  ·rw [if_neg (by simp only [decide_eq_true hl.1,decide_eq_true hl.2];decide)]
   by_cases h1:1≤k
   ·have hk1:wr ((k:Int) - 1)=((k - 1:Nat):Int):=by rw [iM (by omega) (by omega)];omega
    rw [decide_eq_true (p:=(0:Int) < (k:Int)) (by omega),hk1,cZ (xs:=xs) (k:=k - 1) (by omega)]
    simp only [if_pos,aJ]
    by_cases a:(xs[k - 1]'(by omega)) < xs[k]
    ·rw [if_neg (by simp only [decide_eq_true_eq];omega),mJ (fun _=>⟨hl,fun _=>a⟩)];rfl
    ·rw [if_pos (by simp only [decide_eq_true_eq];omega),lF (fun h=>a ((h hk).2 h1))];rfl
   ·rw [decide_eq_false (p:=(0:Int) < (k:Int)) (by omega),mJ (fun _=>⟨hl,fun h=>absurd h h1⟩)];rfl
  ·rw [if_pos (by rw [rG hl];rfl),lF (fun h=>hl (h hk).1)];rfl
def aDH (xs:List aZ):Prop:=xs.length≤12∧(∀ s∈xs,sU s=true)∧∀ k,1≤k→(hk:k < xs.length)→wQ (xs[k - 1]'(by omega)) xs[k]=true
theorem aJR (xs:List aZ) (h:xs.length < 1000000000):yT xs=some (xs.all sU):=by
 unfold yT
 rw [aID (step:=fun s=>oT xs s) xs sU (.inr false) (.inl ()) (fun k x hk hx=>by
  simp only [oT,cQ hk,if_pos,hx,aJ,aGu,cK hk (show xs.length < 4611686018427387904 by omega)]
  cases sU x<;>rfl) (by simp only [oT,cE];rfl),aJ]
 cases xs.all sU<;>rfl
theorem aMF (xs:List aZ) (h:xs.length < 1000000000):aCf xs=some (cl (aDH xs)):=by
 unfold aCf
 by_cases h12:12 < xs.length
 ·rw [if_pos (by simp only [decide_eq_true_eq];omega),lF (fun h:aDH xs=>absurd h.1 (by omega))];rfl
 rw [if_neg (by simp only [decide_eq_true_eq];omega),aJR xs h,aJ]
 cases ha:xs.all sU with
 |false=>rw [lF (fun h:aDH xs=>by have:=List.all_eq_true.2 h.2.1;rw [ha] at this;cases this)];rfl
 |true=>
  have ha':=List.all_eq_true.1 ha
  unfold wG
  simp only [Bool.not_true,Bool.false_eq_true,if_false]
  cases xs with
  |nil=>
   rw [cN,show pP [] 1=some (.inr (.inl ())) from rfl,aJ]
   rw [mJ (P:=aDH []) ⟨by simp,by simp,by intro k _ hk;simp at hk⟩];rfl
  |cons a l=>
   have:=tL (step:=fun s=>pP (a::l) s) (a::l).length 1 (fun k=>∀ hk:k < (a::l).length,wQ ((a::l)[k - 1]'(by omega)) (a::l)[k]=true) (.inr false) (.inl ()) (by simp) (fun k h0 hk=>?_) (by simp only [pP,cE];rfl)
   ·rw [show (1:Int)=((1:Nat):Int) from rfl,this,aJ]
    by_cases hs:∀ k,1≤k→k < (a::l).length→∀ hk:k < (a::l).length,wQ ((a::l)[k - 1]'(by omega)) (a::l)[k]=true
    ·rw [if_pos (mJ hs),mJ (P:=aDH (a::l)) ⟨by omega,ha',fun k h1 hk=>hs k h1 hk hk⟩];rfl
    ·rw [if_neg (by rw [oS];exact hs),lF (P:=aDH (a::l)) (fun h=>hs fun k h1 hk _=>h.2.2 k h1 hk)]
   ·have hk1:wr ((k:Int) - 1)=((k - 1:Nat):Int):=by rw [iM (by omega) (by omega)];omega
    simp only [pP,cQ hk,if_pos,hk1,cZ (xs:=a::l) (k:=k - 1) (by omega),cZ hk,aJ,cK hk (show (a::l).length < 4611686018427387904 by omega)]
    rw [aDF (b:=wQ ((a::l)[k - 1]'(by omega)) (a::l)[k]) ⟨fun h _=>h,fun h=>h hk⟩]
    cases wQ ((a::l)[k - 1]'(by omega)) (a::l)[k]<;>rfl
theorem aNK (xs:List aZ) (h:xs.length < 1000000000) (h2:∀ s∈xs,s.length < 1000000000):aDr xs=some (cl (aDH xs)):=by
 unfold aDr
 have:=tL (step:=fun s=>vN xs s) xs.length 0 (fun k=>∀ hk:k < xs.length,sU xs[k]=true∧(1≤k→wQ (xs[k - 1]'(by omega)) xs[k]=true)) (.inr false) (.inl ()) (Nat.zero_le _) (fun k h0 hk=>?_) (by simp only [vN,cE];rfl)
 ·rw [show (0:Int)=((0:Nat):Int) from rfl,this,aJ]
  by_cases hs:∀ k,0≤k→k < xs.length→∀ hk:k < xs.length,sU xs[k]=true∧(1≤k→wQ (xs[k - 1]'(by omega)) xs[k]=true)
  ·rw [if_pos (mJ hs)]
   unfold zU
   have e:decide ((xs.length:Int)≤12)=cl (aDH xs):=by
    rw [aDF (P:=aDH xs) (b:=decide ((xs.length:Int)≤12))]
    simp only [decide_eq_true_eq]
    refine ⟨fun h=>⟨by omega,fun s hs'=>?_,fun k h1 hk=>(hs k (by omega) hk hk).2 h1⟩,fun h=>by have:=h.1;omega⟩
    obtain ⟨k,hk,rfl⟩:=List.getElem_of_mem hs'
    exact (hs k (by omega) hk hk).1
   simp only [e]
  ·rw [if_neg (by rw [oS];exact hs),lF (P:=aDH xs) (fun h=>hs fun k h1 hk _=>⟨h.2.1 _ (List.getElem_mem hk),fun h1=>h.2.2 k h1 hk⟩)]
 ·simp only [vN,cQ hk,if_pos,cZ hk,aJ,vM,cK hk (show xs.length < 4611686018427387904 by omega),aHq _ (show xs[k].length < 4611686018427387904 by have:=h2 _ (List.getElem_mem hk);omega)]
  cases ha:sU xs[k] with
  |false=>rw [lF (fun h=>by have:=(h hk).1;rw [ha] at this;cases this)];rfl
  |true=>
   simp only [Bool.not_true,Bool.false_eq_true,if_false]
   by_cases h1:1≤k
   ·have hk1:wr ((k:Int) - 1)=((k - 1:Nat):Int):=by rw [iM (by omega) (by omega)];omega
    rw [decide_eq_true (p:=(0:Int) < (k:Int)) (by omega),if_pos rfl,hk1,cZ (xs:=xs) (k:=k - 1) (by omega),aJ,ltB_ge]
    rw [aDF (b:=wQ (xs[k - 1]'(by omega)) xs[k]) ⟨fun h _=>⟨ha,fun _=>h⟩,fun h=>(h hk).2 h1⟩]
    cases wQ (xs[k - 1]'(by omega)) xs[k]<;>rfl
   ·rw [decide_eq_false (p:=(0:Int) < (k:Int)) (by omega),mJ (fun _=>⟨ha,fun h=>absurd h h1⟩)];rfl
def dP (t:dB):Prop:=dV t∧aAd t
def mK (p:cA):Prop:=dP p.S∧aBi 0 (p.S.N - 1) p.M∧aDH p.C
structure iX (n:Nat) (p:cA):Prop where
 sys:mY n p.S
 marks:p.M.length≤n
 len:p.C.length≤n
 names:∀ s∈p.C,s.length≤n
theorem iX.mono {a b:Nat} {p:cA} (h:iX a p) (hab:a≤b):iX b p:=⟨h.sys.mono hab,Nat.le_trans h.marks hab,Nat.le_trans h.len hab,fun s hs=>Nat.le_trans (h.names s hs) hab⟩
theorem aJg (t:dB) (hf:mY 999999999 t):aBL t=some (cl (dP t)):=by
 unfold aBL
 rw [l11Is_eq t hf,aJ]
 by_cases hv:dV t
 ·rw [if_pos (mJ hv),aLb t (by have:=hf.2.2;omega),aJ]
  unfold yS dP
  rw [cl_and,mJ hv,Bool.true_and]
 ·rw [if_neg (by rw [oS];exact hv),lF (P:=dP t) (fun h=>hv h.1)];rfl
theorem wr_st {t:dB} (h:dV t):wr (t.N - 1)=t.N - 1:=by have:=h.1;rw [iM (by omega) (by omega)]
theorem l29Is_eq (p:cA) (hf:iX 999999999 p):aGj p=some (cl (mK p)):=by
 unfold aGj
 rw [aJg _ hf.sys,aJ]
 by_cases hv:dP p.S
 ·rw [if_pos (mJ hv),wr_st hv.1,aMD _ _ _ (by have:=hf.marks;omega),aJ]
  by_cases hr:aBi 0 (p.S.N - 1) p.M
  ·rw [if_pos (mJ hr),aMF _ (by have:=hf.len;omega),aJ]
   unfold aAk
   rw [aMr (P:=mK p) (Q:=aDH p.C) ⟨fun h=>h.2.2,fun h=>⟨hv,hr,h⟩⟩]
  ·rw [if_neg (by rw [oS];exact hr),lF (P:=mK p) (fun h=>hr h.2.1)];rfl
 ·rw [if_neg (by rw [oS];exact hv),lF (P:=mK p) (fun h=>hv h.1)];rfl
theorem aFz (p:cA) (hf:iX 999999999 p):vO p=some (cl (mK p)):=by
 unfold vO
 rw [aMu _ hf.sys,aJ]
 change (if cl (dP p.S)=true then _ else _)=_
 by_cases hv:dP p.S
 ·rw [if_pos (mJ hv),aME _ _ (by have:=hf.marks;omega) (by have:=hv.1.1;omega),aJ]
  by_cases hr:aBi 0 (p.S.N - 1) p.M
  ·rw [if_pos (mJ hr),aNK _ (by have:=hf.len;omega) (fun s hs=>by have:=hf.names s hs;omega),aJ]
   unfold oX
   rw [aMr (P:=mK p) (Q:=aDH p.C) ⟨fun h=>h.2.2,fun h=>⟨hv,hr,h⟩⟩]
  ·rw [if_neg (by rw [oS];exact hr),lF (P:=mK p) (fun h=>hr h.2.1)];rfl
 ·rw [if_neg (by rw [oS];exact hv),lF (P:=mK p) (fun h=>hv h.1)];rfl
theorem aLg (p:cA) (r:dB) (hf:iX 999999999 p) (hr:mY 999999999 r):aAV p [r]=some (if cl (mK p∧dP r)=true then 0 else 1):=by
 unfold aAV
 rw [aFz p hf,aJ]
 by_cases hp:mK p
 ·rw [if_neg (by rw [mJ hp];simp)]
  have e:eD [r]=some (if cl (dP r)=true then -1 else 0):=by
   unfold eD
   rw [cN]
   simp only [eY]
   rw [show decide ((0:Int) < (([r]:List dB).length:Int))=true from rfl,if_pos rfl,show ix [r] 0=some r from rfl,aJ]
   unfold zV
   rw [aMu r hr,aJ,aJ]
   by_cases hd:dP r
   ·rw [if_neg (by rw [show cl (dV r∧aAd r)=true from mJ hd];simp),if_pos (mJ hd)]
    rw [show wr (0+1)=1 from rfl]
    simp only
    rw [cN]
    rfl
   ·rw [if_pos (by rw [show cl (dV r∧aAd r)=false from lF hd];rfl),if_neg (by rw [oS];exact hd)]
    rfl
  unfold eZ
  rw [e,aJ,aJ]
  unfold uN
  by_cases hd:dP r
  ·simp only [mJ hd,mJ (P:=mK p∧dP r) ⟨hp,hd⟩,if_true];rfl
  ·simp only [lF hd,lF (P:=mK p∧dP r) (fun h=>hd h.2),Bool.false_eq_true,if_false];rfl
 ·rw [if_pos (by rw [lF hp];rfl),if_neg (by rw [oS];exact fun h=>hp h.1)];rfl
end Gv
namespace Gv
open Option.some renaming inj→zI
open Go
theorem aCt (xs:List aZ) (v:aZ) (h:xs.length < 4611686018427387904):vF xs v=some (pos xs v):=by
 unfold vF pos
 rw [aAn (step:=fun s=>vE xs v s) xs (fun x=>v == x) (fun k x hk hx=>by
  simp only [vE,cQ hk,if_pos,hx,aJ,cK hk h]
  rw [show (x == v)=(v == x) from by rw [Bool.eq_iff_iff,beq_iff_eq,beq_iff_eq];exact eq_comm]) (by simp only [vE,cE];rfl),aJ]
 cases xs.findIdx? (fun x=>v == x)<;>rfl
theorem aNL (t:dB) (k n:Int) (h:t.E.length < 1000000000):aDm t k n=some ((t.E.filter fun e=>e.F == k&&e.B == n).map (·.To)):=by
 unfold aDm
 rw [aCJ (step:=fun s:List Int × Int=>vG t k n s.1 s.2) t.E (fun e=>e.F == k&&e.B == n) (·.To) id (fun j out x hk ho hx=>?_) (fun out=>by simp only [vG,cE];rfl),aJ]
 ·simp [yU]
 ·simp only [vG,cQ hk,if_pos,hx,aJ,yW,yV,cK hk (show t.E.length < 4611686018427387904 by omega)]
  rw [hJ (by simp [kT];omega),aJ]
  cases x.F == k<;>cases x.B == n<;>rfl
def alo (r:dB) (k:Int) (s:aZ):Option Int:=if s∈r.L then (if goF r k s < 0 then none else some (goF r k s)) else some k
theorem aLh {α:Type} [BEq α] [LawfulBEq α] {xs:List α} {a:α} (h:a∈xs):0≤pos xs a:=by
 obtain ⟨i,_,e,_⟩:=aAI h
 omega
theorem aHU {α:Type} [BEq α] [LawfulBEq α] {xs:List α} {a:α} (h:a∉xs):pos xs a=-1:=by
 unfold pos
 rw [List.findIdx?_eq_none_iff.2 (fun x hx=>by simp;intro e;subst e;exact h hx)]
theorem labs_any {xs:List aZ} {s:aZ}:(xs.any fun x=>s == x)=decide (s∈xs):=by
 refine Bool.eq_iff_iff.2 ?_
 simp only [List.any_eq_true,beq_iff_eq,decide_eq_true_eq]
 exact ⟨fun ⟨x,hx,e⟩=>e ▸ hx,fun h=>⟨s,h,rfl⟩⟩
theorem aEU {r:dB} (hr:dP r) (k:Int) (s:aZ):∃ z,lI r k s=some (z,(alo r k s).isSome)∧∀ j,alo r k s=some j→z=j:=by
 have h12:=hr.1.2.2.1.2.1
 unfold lI alo
 rw [aGw _ _ (by omega),aJ,labs_any]
 by_cases hs:s∈r.L
 ·rw [if_neg (by simp [hs]),step_eq hr.1 hr.2,aJ,if_pos hs]
  refine ⟨goF r k s,?_,fun j hj=>?_⟩
  ·by_cases hg:goF r k s < 0
   ·rw [if_pos hg,decide_eq_false (by omega)];rfl
   ·rw [if_neg hg,decide_eq_true (by omega)];rfl
  ·split at hj
   ·cases hj
   ·exact zI hj
 ·rw [if_pos (by simp [hs]),if_neg hs]
  exact ⟨k,rfl,fun j hj=>zI hj⟩
theorem txt_label {t:dB} (hv:dV t) {e:Edge} (he:e∈t.E) {s:aZ} (hs:s∈t.L):(txt t e == s)=(e.B == pos t.L s):=by
 obtain ⟨i,hi,e1,e2⟩:=aAI hs
 have hin:=lG hv he
 have ht:=aAe hin
 obtain ⟨_,_,h0,h1⟩:=hin
 have hl:e.B.toNat < t.L.length:=by omega
 have ht2:t.L[e.B.toNat]=txt t e:=by
  rw [ix_of h0 hl] at ht
  exact zI ht
 rw [e1]
 refine Bool.eq_iff_iff.2 ?_
 simp only [beq_iff_eq]
 constructor
 ·intro h
  have:=aGx hv.2.2.1 hl hi (by rw [ht2,h,e2])
  omega
 ·intro h
  have:e.B.toNat=i:=by omega
  subst this
  rw [←ht2,e2]
theorem aMG {r:dB} (hr:dP r) (k:Int) (s:aZ):∃ z,aFd r k s=some (z,(alo r k s).isSome)∧∀ j,alo r k s=some j→z=j:=by
 have h12:=hr.1.2.2.1.2.1
 have h300:=hr.1.2.2.2.1
 unfold aFd alo
 rw [aCt _ _ (by omega),aJ]
 by_cases hs:s∈r.L
 ·have hp:=aLh hs
  rw [if_neg (by simp only [decide_eq_true_eq];omega),aNL _ _ _ (by omega),aJ,if_pos hs]
  have e1:(r.E.filter fun e=>e.F == k&&e.B == pos r.L s)=(r.E.find? (hit r k s)).toList:=by
   rw [←hit_one hr.1 hr.2]
   refine List.filter_congr fun e he=>?_
   unfold hit
   rw [txt_label hr.1 he hs]
  rw [e1]
  unfold goF
  cases hf:r.E.find? (hit r k s) with
  |none=>
   refine ⟨0,?_,fun j hj=>?_⟩
   ·simp
   ·simp at hj
  |some e=>
   have hin:=(lG hr.1 (List.mem_of_find?_eq_some hf)).2.1.1
   refine ⟨e.To,?_,fun j hj=>?_⟩
   ·simp only [Option.toList_some,List.map_cons,List.map_nil,List.length_singleton]
    rw [if_neg (by decide),show ix [e.To] 0=some e.To from rfl,aJ,if_neg (by omega)];rfl
   ·simp only at hj
    rw [if_neg (by omega)] at hj
    exact zI hj
 ·rw [if_pos (by rw [aHU hs];rfl),if_neg hs]
  exact ⟨k,rfl,fun j hj=>zI hj⟩
theorem alo_in {r:dB} (hr:dV r) {k j:Int} {s:aZ} (hk:0≤k∧k≤r.N - 1) (h:alo r k s=some j):0≤j∧j≤r.N - 1:=by
 unfold alo at h
 split at h
 ·split at h
  ·cases h
  ·cases h
   have:=goF_lt hr k s
   omega
 ·cases h;exact hk
theorem aNN (a b:List Int) (h:a.length < 4611686018427387904):aDn a b=some (decide (a=b)):=by
 unfold aDn
 by_cases e:a.length=b.length
 ·rw [if_neg (by simp [e])]
  refine Eq.trans ?_ (aDD e (step:=fun s=>vH a b s) ?_ ?_)
  ·rfl
  ·intro k x y hk hx hy
   simp only [vH,cQ hk,if_pos,hx,hy,aJ,cK hk h]
   by_cases e:x=y<;>simp [e]
  ·simp only [vH,cE];rfl
 ·rw [if_pos (by simp only [bne_iff_ne,ne_eq];omega)]
  have:¬ a=b:=fun h=>e (by rw [h])
  simp [this]
theorem aHe (xs:List (List Int)) (v:List Int) (h:xs.length < 4611686018427387904) (h2:∀ x∈xs,x.length < 1000000000):yX xs v=some (pos xs v):=by
 unfold yX pos
 rw [aAn (step:=fun s=>xP xs v s) xs (fun x=>v == x) (fun k x hk hx=>by
  obtain ⟨hk',rfl⟩:=aAb hx
  simp only [xP,cQ hk,if_pos,hx,aJ,cK hk h,aNN _ _ (show xs[k].length < 4611686018427387904 by have:=h2 _ (List.getElem_mem hk');omega)]
  rw [show decide (xs[k]=v)=(v == xs[k]) from by rw [Bool.eq_iff_iff,decide_eq_true_eq,beq_iff_eq];exact eq_comm]) (by simp only [xP,cE];rfl),aJ]
 cases xs.findIdx? (fun x=>v == x)<;>rfl
def R2 (q:Int × Int):List Int:=[q.1,q.2]
theorem R2_inj {a b:Int × Int} (h:R2 a=R2 b):a=b:=by
 unfold R2 at h
 simp only [List.cons.injEq,and_true] at h
 exact Prod.ext h.1 h.2
theorem aLi (F:List (Int × Int)) (q:Int × Int):pos (F.map R2) (R2 q)=pos F q:=by
 unfold pos
 rw [List.findIdx?_map]
 have:((fun x=>R2 q == x) ∘ R2)=fun x=>q == x:=by
  funext x
  refine Bool.eq_iff_iff.2 ?_
  simp only [Function.comp,beq_iff_eq]
  exact ⟨R2_inj,fun h=>by rw [h]⟩
 rw [this]
theorem pos_iff {α:Type} [BEq α] [LawfulBEq α] {a:List α} {q:α}:0≤pos a q↔q∈a:=by
 refine ⟨fun h=>?_,aLh⟩
 apply Classical.byContradiction
 intro hn
 rw [aHU hn] at h
 omega
theorem pos_pre {α:Type} [BEq α] [LawfulBEq α] {a b:List α} (h:a <+:b) {q:α} (hq:q∈a):pos b q=pos a q:=by
 obtain ⟨c,rfl⟩:=h
 unfold pos
 have:(a.findIdx? fun x=>q == x).isSome:=by rw [List.findIdx?_isSome,List.any_eq_true];exact ⟨q,hq,by simp⟩
 rw [List.findIdx?_append]
 cases hx:a.findIdx? fun x=>q == x with
 |none=>rw [hx] at this;cases this
 |some i=>rfl
theorem pos_snoc {α:Type} [BEq α] [LawfulBEq α] {a:List α} {q:α} (hq:q∉a):pos (a++[q]) q=(a.length:Int):=by
 unfold pos
 rw [List.findIdx?_append,List.findIdx?_eq_none_iff.2 (fun x hx=>by simp;intro e;subst e;exact hq hx)]
 simp
def uT (p:cA) (r:dB) (q:Int × Int) (es:List Edge):List (Int × Int × Int):=es.filterMap fun e=>(alo r q.2 (txt p.S e)).map fun k=>(e.B,e.To,k)
def dF (p:cA) (q:Int × Int):List Edge:=p.S.E.filter fun e=>e.F == q.1
def aAY (F:List (Int × Int)) (q:Int × Int):List (Int × Int):=if q∈F then F else F++[q]
def aBD:List (Int × Int)→List (Int × Int × Int)→List (Int × Int)
 |F,[]=>F
 |F,x::l=>aBD (aAY F x.2) l
def edQ (i:Int):List (Int × Int)→List (Int × Int × Int)→List Edge
 |_,[]=>[]
 |F,x::l=>⟨i,x.1,pos (aAY F x.2) x.2⟩::edQ i (aAY F x.2) l
def xQ (p:cA) (r:dB):Nat→Nat→List (Int × Int) × List Edge→List (Int × Int) × List Edge
 |0,_,s=>s
 |n+1,i,s=>match s.1[i]? with
  |none=>s
  |some q=>xQ p r n (i+1) (aBD s.1 (uT p r q (dF p q)),s.2++edQ (i:Int) s.1 (uT p r q (dF p q)))
def inB (p:cA) (r:dB) (q:Int × Int):Prop:=(0≤q.1∧q.1≤p.S.N - 1)∧0≤q.2∧q.2≤r.N - 1
def WQ2 (p:cA) (r:dB) (F:List (Int × Int)):Prop:=F.Nodup∧∀ q∈F,inB p r q
theorem WQ2.len {p:cA} {r:dB} (hp:dV p.S) (hr:dV r) {F:List (Int × Int)} (h:WQ2 p r F):F.length≤1600:=by
 have h1:=hp.1
 have h2:=hr.1
 have:=List.Nodup.length_le_of_subset (l₂:=(List.range 40).flatMap fun (i:Nat)=>(List.range 40).map fun (j:Nat)=>((i:Int),(j:Int))) h.1 (fun q hq=>by
  have:=h.2 q hq
  unfold inB at this
  rw [List.mem_flatMap]
  refine ⟨q.1.toNat,by rw [List.mem_range];omega,?_⟩
  rw [List.mem_map]
  exact ⟨q.2.toNat,by rw [List.mem_range];omega,Prod.ext (by simp only;omega) (by simp only;omega)⟩)
 have e:((List.range 40).flatMap fun (i:Nat)=>(List.range 40).map fun (j:Nat)=>((i:Int),(j:Int))).length=1600:=by decide+kernel
 omega
theorem aJh (F:List (Int × Int)) (q:Int × Int):F <+:aAY F q:=by
 unfold aAY;split
 ·exact List.prefix_refl _
 ·exact List.prefix_append _ _
theorem aMH (F:List (Int × Int)) (q:Int × Int):q∈aAY F q:=by
 unfold aAY;split
 ·assumption
 ·simp
theorem WQ2.ins {p:cA} {r:dB} {F:List (Int × Int)} (h:WQ2 p r F) {q:Int × Int} (hq:inB p r q):WQ2 p r (aAY F q):=by
 unfold aAY
 split
 ·exact h
 ·rename_i hn
  refine ⟨?_,fun x hx=>?_⟩
  ·rw [List.nodup_append]
   exact ⟨h.1,by simp,fun x hx y hy=>by simp at hy;subst hy;exact fun e=>hn (e ▸ hx)⟩
  ·rcases List.mem_append.1 hx with hx|hx
   ·exact h.2 x hx
   ·simp at hx;subst hx;exact hq
theorem aCu:∀ (l:List (Int × Int × Int)) (F:List (Int × Int)),F <+:aBD F l
 |[],_=>List.prefix_refl _
 |x::l,F=>(aJh F x.2).trans (aCu l (aAY F x.2))
theorem WQ2.add {p:cA} {r:dB}:∀ {l:List (Int × Int × Int)} {F:List (Int × Int)},WQ2 p r F→(∀ x∈l,inB p r x.2)→WQ2 p r (aBD F l)
 |[],_,h,_=>h
 |x::l,F,h,hl=>by
  show WQ2 p r (aBD (aAY F x.2) l)
  exact WQ2.add (h.ins (hl x (by simp))) (fun y hy=>hl y (by simp [hy]))
theorem edQ_len (i:Int):∀ (l:List (Int × Int × Int)) (F:List (Int × Int)),(edQ i F l).length=l.length
 |[],_=>rfl
 |x::l,F=>by simp [edQ,edQ_len i l (aAY F x.2)]
theorem aLj {p:cA} {r:dB} (hp:dV p.S) (hr:dV r) {q:Int × Int} (hq:inB p r q) {es:List Edge} (hes:∀ e∈es,e∈p.S.E):∀ x∈uT p r q es,inB p r x.2:=by
 intro x hx
 unfold uT at hx
 rw [List.mem_filterMap] at hx
 obtain ⟨e,he,hx⟩:=hx
 rw [Option.map_eq_some_iff] at hx
 obtain ⟨k,hk,rfl⟩:=hx
 exact ⟨(lG hp (hes e he)).2.1,alo_in hr hq.2 hk⟩
theorem pH {p:cA} {q:Int × Int}:∀ e∈dF p q,e∈p.S.E:=fun _ he=>(List.mem_filter.1 he).1
theorem aHV (p:cA) (r:dB) (q:Int × Int) (es:List Edge):(uT p r q es).length≤es.length:=List.length_filterMap_le _ _
theorem sW {p:cA} (hp:dV p.S) (q:Int × Int):(dF p q).length≤300:=Nat.le_trans (List.length_filter_le _ _) hp.2.2.2.1
theorem xQ_pre (p:cA) (r:dB):∀ (n i:Nat) (s:List (Int × Int) × List Edge),s.1 <+:(xQ p r n i s).1∧s.2 <+:(xQ p r n i s).2
 |0,_,_=>⟨List.prefix_refl _,List.prefix_refl _⟩
 |n+1,i,s=>by
  unfold xQ
  split
  ·exact ⟨List.prefix_refl _,List.prefix_refl _⟩
  ·rename_i q _
   have:=xQ_pre p r n (i+1) (aBD s.1 (uT p r q (dF p q)),s.2++edQ (i:Int) s.1 (uT p r q (dF p q)))
   exact ⟨(aCu _ _).trans this.1,(List.prefix_append _ _).trans this.2⟩
def eG (p:cA) (r:dB):List (Int × Int) × List Edge:=xQ p r 1601 0 ([(p.S.I,r.I)],[])
theorem aJi {p:cA} {r:dB} (hp:dV p.S) (hr:dV r):WQ2 p r [(p.S.I,r.I)]:=
 ⟨by simp,fun q hq=>by simp at hq;subst hq;exact ⟨hp.2.1,hr.2.1⟩⟩
theorem aJj {p:cA} {r:dB} (hp:dP p.S) (hr:dP r) {i:Nat} {q:Int × Int} {F:List (Int × Int)} {ed:List Edge} (hw:WQ2 p r F) (hi:F[i]?=some q) (hed:ed.length≤300 * i) (h16:i≤1600):
  loop (fun s:List (List Int) × List Edge × Int=>pR p r (i:Int) (dF p q) s.1 s.2.1 s.2.2) (F.map R2,ed,0)=some ((aBD F (uT p r q (dF p q))).map R2,ed++edQ (i:Int) F (uT p r q (dF p q))):=by
 have hol:=sW hp.1 q
 have:=mA (step:=fun s:List (List Int) × List Edge × Int=>pR p r (i:Int) (dF p q) s.1 s.2.1 s.2.2) (dF p q) (fun k (a:List (Int × Int) × List Edge)=>(a.1.map R2,a.2,(k:Int)))
  (fun l a=>((aBD a.1 (uT p r q l)).map R2,a.2++edQ (i:Int) a.1 (uT p r q l))) (fun k a=>WQ2 p r a.1∧a.1[i]?=some q∧a.2.length≤300 * i+k) (fun k a e l hk hx hI=>?_) (fun a hI=>by simp only [pR,cE];simp [uT,aBD,edQ]) (a:=(F,ed)) ⟨hw,hi,by simp only;omega⟩
 ·exact this
 ·obtain ⟨F,ed⟩:=a
  obtain ⟨hw,hi,hed⟩:=hI
  simp only at hw hi hed
  obtain ⟨hk',rfl⟩:=aAb hx
  left
  have hil:i < F.length:=(List.getElem?_eq_some_iff.1 hi).1
  have h16':=hw.len hp.1 hr.1
  have he:(dF p q)[k]∈p.S.E:=pH _ (List.getElem_mem hk')
  have hq:inB p r q:=hw.2 q (List.mem_of_getElem? hi)
  generalize (dF p q)[k]=e at he hx
  have hrow:ix (F.map R2) (i:Int)=some (R2 q):=by rw [lQ,List.getElem?_map,hi];rfl
  obtain ⟨z,hz,hzj⟩:=aMG hr q.2 (txt p.S e)
  simp only [pR,cQ hk,if_pos,hrow,aJ,show ix (R2 q) 1=some q.2 from rfl,hx,aAe (lG hp.1 he),hz,pQ,cK hk (show (dF p q).length < 4611686018427387904 by omega)]
  cases ha:alo r q.2 (txt p.S e) with
  |none=>
   refine ⟨(F,ed),rfl,⟨hw,hi,by simp only;omega⟩,?_⟩
   simp only [uT,List.filterMap_cons,ha,Option.map_none]
  |some j=>
   obtain rfl:=hzj j ha
   have hx2:inB p r (e.To,z):=⟨(lG hp.1 he).2.1,alo_in hr.1 hq.2 ha⟩
   have hwi:=hw.ins hx2
   rw [show ([e.To,z]:List Int)=R2 (e.To,z) from rfl]
   simp only [Option.isSome_some,Bool.not_true,Bool.false_eq_true,if_false]
   rw [aHe _ _ (by simp;omega) (fun x hx=>by obtain ⟨y,_,rfl⟩:=List.mem_map.1 hx;simp [R2]),aJ,aLi]
   refine ⟨(aAY F (e.To,z),ed++[⟨(i:Int),e.B,pos (aAY F (e.To,z)) (e.To,z)⟩]),?_,⟨hwi,?_,by simp;omega⟩,?_⟩
   ·unfold wJ
    have a1:∀ X:Edge,apd ed [X]=some (ed++[X]):=fun X=>hJ (by simp [kT];omega)
    have a2:apd (F.map R2) [R2 (e.To,z)]=some (F.map R2++[R2 (e.To,z)]):=hJ (by simp [kT];omega)
    have hw1:=cK hk (show (dF p q).length < 4611686018427387904 by omega)
    by_cases hm:(e.To,z)∈F
    ·rw [if_neg (by simp only [decide_eq_true_eq];have:=aLh hm;omega),a1,aJ]
     simp only [pQ,aAY,if_pos hm,hw1]
    ·rw [if_pos (by rw [aHU hm];rfl),a2,aJ,a1,aJ]
     simp only [pQ,aAY,if_neg hm,pos_snoc hm,List.map_append,List.map_cons,List.map_nil,List.length_map,hw1]
   ·obtain ⟨c,hc⟩:=aJh F (e.To,z)
    simp only
    rw [←hc,List.getElem?_append_left hil];exact hi
   ·simp only [uT,List.filterMap_cons,ha,Option.map_some,aBD,edQ,List.append_assoc,List.cons_append,List.nil_append]
theorem aMI {p:cA} {r:dB} (hp:dP p.S) (hr:dP r):aCg p r=some ((eG p r).1.map R2,(eG p r).2,decide (40 < (eG p r).1.length)||decide (300 < (eG p r).2.length)):=by
 unfold aCg
 have:=loop_eq (step:=fun s:List (List Int) × List Edge × Int=>tG p r s.1 s.2.1 s.2.2)
  (fun s=>∃ (i:Nat) (F:List (Int × Int)) (ed:List Edge),s=(F.map R2,ed,(i:Int))∧i≤F.length∧WQ2 p r F∧ed.length≤300 * i∧xQ p r (1601 - i) i (F,ed)=eG p r)
  (fun s=>1601 - s.2.2.toNat) ((eG p r).1.map R2,(eG p r).2) (fun s hI=>?_) (s:=([[p.S.I,r.I]],[],0)) ⟨0,[(p.S.I,r.I)],[],rfl,by simp,aJi hp.1 hr.1,by simp,rfl⟩
 ·rw [this,aJ]
  unfold wI wH
  simp only [List.length_map]
  by_cases h40:40 < (eG p r).1.length
  ·rw [if_pos (by simp only [decide_eq_true_eq];omega),decide_eq_true h40];rfl
  ·rw [if_neg (by simp only [decide_eq_true_eq];omega),decide_eq_false h40,Bool.false_or]
   exact congrArg some (by rw [decide_eq_decide.2 (show ((300:Int) < ((eG p r).2.length:Int))↔300 < (eG p r).2.length by omega)])
 ·obtain ⟨i,F,ed,rfl,hi,hw,hed,hx⟩:=hI
  have h16:=hw.len hp.1 hr.1
  simp only
  by_cases hil:i < F.length
  ·have hq:F[i]?=some F[i]:=List.getElem?_eq_getElem hil
   have hqB:=hw.2 F[i] (List.getElem_mem hil)
   rw [show 1601 - i=(1600 - i)+1 by omega] at hx
   unfold xQ at hx
   rw [hq] at hx
   simp only at hx
   have hrow:ix (F.map R2) (i:Int)=some (R2 F[i]):=by rw [lQ,List.getElem?_map,hq];rfl
   simp only [tG,List.length_map,cQ hil,if_pos,hrow,aJ,show ix (R2 F[i]) 0=some F[i].1 from rfl]
   rw [aKq _ _ (by have:=hp.1.2.2.2.1;omega),aJ]
   rw [show (p.S.E.filter fun e=>e.F == F[i].1)=dF p F[i] from rfl,aJj hp hr hw hq hed (by omega),aJ]
   left
   have hsl:=aHV p r F[i] (dF p F[i])
   have hol:=sW hp.1 F[i]
   refine ⟨_,rfl,⟨i+1,aBD F (uT p r F[i] (dF p F[i])),ed++edQ (i:Int) F (uT p r F[i] (dF p F[i])),?_,?_,WQ2.add hw (aLj hp.1 hr.1 hqB pH),?_,?_⟩,?_⟩
   ·simp only [cK hil (show F.length < 4611686018427387904 by omega)]
   ·have:=(aCu (uT p r F[i] (dF p F[i])) F).length_le;omega
   ·rw [List.length_append,edQ_len];omega
   ·rw [show 1601 - (i+1)=1600 - i by omega];exact hx
   ·simp only [cK hil (show F.length < 4611686018427387904 by omega),Int.toNat_natCast];omega
  ·right
   obtain rfl:i=F.length:=by omega
   rw [show 1601 - F.length=(1600 - F.length)+1 by omega] at hx
   unfold xQ at hx
   rw [List.getElem?_eq_none (Nat.le_refl _)] at hx
   simp only at hx
   rw [←hx]
   simp only [tG,List.length_map,cE]
   simp
end Gv
namespace Gv
open Go
def mq {κ:Type} (k:Nat):List κ→List (κ × Int)
 |[]=>[]
 |q::l=>(q,(k:Int))::mq (k+1) l
theorem aLk {κ:Type} [DecidableEq κ] [BEq κ] [LawfulBEq κ] {q:κ}:∀ {a:List κ} {k:Nat},nY (mq k a) q=match a.findIdx? (fun x=>q == x) with|none=>none|some i=>some ((k+i:Nat):Int)
 |[],k=>rfl
 |x::l,k=>by
  have ih:=aLk (q:=q) (a:=l) (k:=k+1)
  unfold mq nY
  rw [List.findIdx?_cons]
  by_cases e:q=x
  ·subst e
   rw [if_pos rfl,if_pos (by simp)];rfl
  ·rw [if_neg e,if_neg (by simpa using e),ih]
   cases l.findIdx? (fun x=>q == x) with
   |none=>rfl
   |some i=>simp only [Option.map_some];congr 2;omega
theorem aLl {κ:Type} [DecidableEq κ] {q:κ}:∀ {a:List κ} {k:Nat},q∉a→aFW (mq k a) q ((k+a.length:Nat):Int)=mq k (a++[q])
 |[],k,_=>by simp [mq,aFW]
 |x::l,k,hn=>by
  have ih:=aLl (q:=q) (a:=l) (k:=k+1) (fun hy=>hn (by simp [hy]))
  have e:¬ q=x:=fun hk=>hn (by rw [hk];simp)
  simp only [mq,aFW,List.cons_append,if_neg e]
  rw [←ih]
  congr 3
  simp;omega
theorem aGy {κ:Type} [DecidableEq κ] [BEq κ] [LawfulBEq κ] {q:κ} {a:List κ} (h:q∈a):nY (mq 0 a) q=some (pos a q):=by
 obtain ⟨i,hi,e,_⟩:=aAI h
 rw [aLk]
 unfold pos at e ⊢
 cases hx:a.findIdx? (fun x=>q == x) with
 |none=>rw [hx] at e;simp only at e;omega
 |some j=>simp
theorem aMJ {κ:Type} [DecidableEq κ] [BEq κ] [LawfulBEq κ] {q:κ} {a:List κ} (h:q∉a):nY (mq 0 a) q=none:=by
 rw [aLk,List.findIdx?_eq_none_iff.2 (fun x hx=>by simp;intro e;subst e;exact h hx)]
structure Pth (F:List (Int × Int)) (P:List (List aZ)):Prop where
 len:P.length=F.length
 small:∀ (j:Nat) x,P[j]?=some x→x.length≤j
theorem aKv {F:List (Int × Int)} {P:List (List aZ)} (hF:F.length≤1600) (hP:Pth F P) {path:List aZ} (hp:path.length≤F.length) (q:Int × Int) (a0 a1:Int) (a2:List aZ) (a3:List Edge) (a4:List Int) (a5:List aZ) (a6 a7:Int) (a8:List aZ) (a9:List Edge):
  ∃ P',nD q path a0 a1 a2 a3 a4 a5 a6 a7 a8 a9 (F.map R2) (mq 0 F) P=some ((aAY F q).map R2,mq 0 (aAY F q),P')∧Pth (aAY F q) P'∧P <+:P':=by
 unfold nD aAY
 by_cases hm:q∈F
 ·rw [aGy hm,if_neg (by simp),if_pos hm]
  exact ⟨P,rfl,hP,List.prefix_refl _⟩
 ·rw [aMJ hm,if_pos (by simp),if_neg hm]
  have h1:aFW (mq 0 F) q (((F.map R2).length:Nat):Int)=mq 0 (F++[q]):=by
   have:=aLl (k:=0) hm
   rw [Nat.zero_add] at this
   rw [List.length_map];exact this
  have h2:apd (F.map R2) [([q.1,q.2]:List Int)]=some ((F++[q]).map R2):=by
   rw [hJ (by simp [kT];omega)]
   simp [R2]
  have h3:apd P [path]=some (P++[path]):=hJ (by have:=hP.len;simp [kT];omega)
  refine ⟨P++[path],?_,⟨by simp [hP.len],fun j x hx=>?_⟩,List.prefix_append _ _⟩
  ·rw [h1,aJ,h2,aJ,h3,aJ]
  ·by_cases hj:j < P.length
   ·rw [List.getElem?_append_left hj] at hx
    exact hP.small j x hx
   ·rw [List.getElem?_append_right (by omega)] at hx
    have hj2:j - P.length=0:=by
     have:=(List.getElem?_eq_some_iff.1 hx).1
     simp at this;omega
    rw [hj2] at hx
    simp at hx
    subst hx
    have:=hP.len
    omega
theorem next_eq {p:cA} {r:dB} (hp:dP p.S) (hr:dP r) {i:Nat} {q:Int × Int} {F:List (Int × Int)} {P:List (List aZ)} (hw:WQ2 p r F) (hi:F[i]?=some q) (hP:Pth F P):
  ∃ P',sO p.S.N p.S.I p.S.L p.S.E p.M p.C r.N r.I r.L r.E (F.map R2) (mq 0 F) P (R2 q) (i:Int)
   =some ((aBD F (uT p r q (dF p q))).map R2,mq 0 (aBD F (uT p r q (dF p q))),P')∧Pth (aBD F (uT p r q (dF p q))) P':=by
 unfold sO
 rw [show ix (R2 q) 0=some q.1 from rfl,aJ,show (⟨p.S.N,p.S.I,p.S.L,p.S.E⟩:dB)=p.S from rfl,aIU _ _ (by have:=hp.1.2.2.2.1;omega),aJ]
 rw [show (p.S.E.filter fun e=>e.F == q.1)=dF p q from rfl]
 have hol:=sW hp.1 q
 generalize hFF:aBD F (uT p r q (dF p q))=FF
 have:=sV (step:=fun s:List (List Int) × List ((Int × Int) × Int) × List (List aZ) × Int=>kG p.S.N p.S.I p.S.L p.S.E p.M p.C r.N r.I r.L r.E (R2 q) (i:Int) (dF p q) s.1 s.2.1 s.2.2.1 s.2.2.2)
  (dF p q).length (fun k (a:List (Int × Int) × List (List aZ))=>(a.1.map R2,mq 0 a.1,a.2,(k:Int))) (fun k a=>WQ2 p r a.1∧a.1[i]?=some q∧Pth a.1 a.2∧aBD a.1 (uT p r q ((dF p q).drop k))=FF)
  (fun x=>∃ P',x=(FF.map R2,mq 0 FF,P')∧Pth FF P') (fun k a hk hI=>?_) (fun a hI=>?_) (dF p q).length 0 (F,P) (by omega) ⟨hw,hi,hP,hFF⟩
 ·obtain ⟨x,hx,P',rfl,hP'⟩:=this
  have hx':loop (fun s:List (List Int) × List ((Int × Int) × Int) × List (List aZ) × Int=>kG p.S.N p.S.I p.S.L p.S.E p.M p.C r.N r.I r.L r.E (R2 q) (i:Int) (dF p q) s.1 s.2.1 s.2.2.1 s.2.2.2) (F.map R2,mq 0 F,P,0)=_:=hx
  rw [hx',aJ]
  exact ⟨P',rfl,hP'⟩
 ·obtain ⟨F,P⟩:=a
  obtain ⟨hw,hi,hP,hFF⟩:=hI
  simp only at hw hi hP hFF
  have hil:i < F.length:=(List.getElem?_eq_some_iff.1 hi).1
  have h16:=hw.len hp.1 hr.1
  have he:(dF p q)[k]∈p.S.E:=pH _ (List.getElem_mem hk)
  have hq:inB p r q:=hw.2 q (List.mem_of_getElem? hi)
  rw [List.drop_eq_getElem_cons hk] at hFF
  obtain ⟨z,hz,hzj⟩:=aEU hr q.2 (txt p.S (dF p q)[k])
  have hw1:=cK hk (show (dF p q).length < 4611686018427387904 by omega)
  simp only [kG,cQ hk,if_pos,cZ hk,aJ,show ix (R2 q) 1=some q.2 from rfl,aAe (lG hp.1 he),show (⟨r.N,r.I,r.L,r.E⟩:dB)=r from rfl,hz]
  cases ha:alo r q.2 (txt p.S (dF p q)[k]) with
  |none=>
   simp only [uT,List.filterMap_cons,ha,Option.map_none] at hFF
   exact ⟨(F,P),by simp [lY,hw1],hw,hi,hP,hFF⟩
  |some j=>
   obtain rfl:=hzj j ha
   simp only [uT,List.filterMap_cons,ha,Option.map_some,aBD] at hFF
   have hx2:inB p r ((dF p q)[k].To,z):=⟨(lG hp.1 he).2.1,alo_in hr.1 hq.2 ha⟩
   have hPi:i < P.length:=by rw [hP.len];exact hil
   have hpi:=hP.small i P[i] (List.getElem?_eq_getElem hPi)
   unfold wU dD
   rw [cZ hPi,aJ,hJ (by simp [kT];omega),aJ,aJ,List.nil_append,hJ (by simp [kT];omega),aJ]
   obtain ⟨P',h1,h2,_⟩:=aKv h16 hP (path:=P[i]++[txt p.S (dF p q)[k]]) (by simp;omega) ((dF p q)[k].To,z) p.S.N p.S.I p.S.L p.S.E p.M p.C r.N r.I r.L r.E
   refine ⟨(aAY F ((dF p q)[k].To,z),P'),?_,hw.ins hx2,?_,h2,hFF⟩
   ·simp only [Option.isSome_some,if_true]
    rw [h1,aJ]
    simp only [rV,aJ,lY,hw1]
   ·obtain ⟨c,hc⟩:=aJh F ((dF p q)[k].To,z)
    simp only
    rw [←hc,List.getElem?_append_left hil];exact hi
 ·obtain ⟨_,_,hP,hFF⟩:=hI
  rw [List.drop_length] at hFF
  have hFF':a.1=FF:=hFF
  refine ⟨(FF.map R2,mq 0 FF,a.2),by simp only [kG,cE];rw [hFF'];rfl,a.2,rfl,by rw [←hFF'];exact hP⟩
theorem aFA {p:cA} {r:dB} (hp:dP p.S) (hr:dP r):∃ P,vL p r=some ((eG p r).1.map R2,mq 0 (eG p r).1,P):=by
 unfold vL
 obtain ⟨P0,h1,h2,_⟩:=aKv (F:=[]) (P:=[]) (by simp) ⟨rfl,by simp⟩ (path:=[]) (by simp) (p.S.I,r.I) p.S.N p.S.I p.S.L p.S.E p.M p.C r.N r.I r.L r.E
 have e0:aAY [] (p.S.I,r.I)=[(p.S.I,r.I)]:=rfl
 rw [e0] at h1 h2
 rw [show nD ⟨p.S.I,r.I⟩ [] p.S.N p.S.I p.S.L p.S.E p.M p.C r.N r.I r.L r.E [] ([]:List ((Int × Int) × Int)) []=_ from h1,aJ]
 have:=vU (step:=fun s:List (List Int) × List ((Int × Int) × Int) × List (List aZ) × Int=>oW p r s.1 s.2.1 s.2.2.1 s.2.2.2)
  (fun s=>∃ (i:Nat) (F:List (Int × Int)) (P:List (List aZ)) (ed:List Edge),s=(F.map R2,mq 0 F,P,(i:Int))∧i≤F.length∧WQ2 p r F∧Pth F P∧xQ p r (1601 - i) i (F,ed)=eG p r)
  (fun s=>1601 - s.2.2.2.toNat) (fun x=>∃ P,x=((eG p r).1.map R2,mq 0 (eG p r).1,P)) (fun s hI=>?_) (s:=([(p.S.I,r.I)].map R2,mq 0 [(p.S.I,r.I)],P0,0)) ⟨0,[(p.S.I,r.I)],P0,[],rfl,by simp,aJi hp.1 hr.1,h2,rfl⟩
 ·obtain ⟨x,hx,P,rfl⟩:=this
  rw [hx,aJ]
  exact ⟨P,rfl⟩
 ·obtain ⟨i,F,P,ed,rfl,hi,hw,hP,hx⟩:=hI
  have h16:=hw.len hp.1 hr.1
  simp only
  by_cases hil:i < F.length
  ·have hq:F[i]?=some F[i]:=List.getElem?_eq_getElem hil
   have hqB:=hw.2 F[i] (List.getElem_mem hil)
   rw [show 1601 - i=(1600 - i)+1 by omega] at hx
   unfold xQ at hx
   rw [hq] at hx
   simp only at hx
   have hrow:ix (F.map R2) (i:Int)=some (R2 F[i]):=by rw [lQ,List.getElem?_map,hq];rfl
   obtain ⟨P',h1,h2⟩:=next_eq hp hr hw hq hP
   simp only [oW,List.length_map,cQ hil,if_pos,hrow,aJ,h1]
   left
   refine ⟨_,rfl,⟨i+1,aBD F (uT p r F[i] (dF p F[i])),P',_,?_,?_,WQ2.add hw (aLj hp.1 hr.1 hqB pH),h2,by rw [show 1601 - (i+1)=1600 - i by omega];exact hx⟩,?_⟩
   ·simp only [cK hil (show F.length < 4611686018427387904 by omega)]
   ·have:=(aCu (uT p r F[i] (dF p F[i])) F).length_le;omega
   ·simp only [cK hil (show F.length < 4611686018427387904 by omega),Int.toNat_natCast];omega
  ·right
   obtain rfl:i=F.length:=by omega
   rw [show 1601 - F.length=(1600 - F.length)+1 by omega] at hx
   unfold xQ at hx
   rw [List.getElem?_eq_none (Nat.le_refl _)] at hx
   simp only at hx
   refine ⟨(F.map R2,mq 0 F,P),?_,P,?_⟩
   ·simp only [oW,List.length_map,cE];rfl
   ·rw [←hx]
end Gv
namespace Gv
open Go
theorem aNQ {α:Type} (lt:α→α→Bool) (irr:∀ a,lt a a=false) (tr:∀ {a b c},lt a b=true→lt b c=true→lt a c=true) (tri:∀ a b,lt a b=true∨a=b∨lt b a=true) {xs:List α} (hn:xs.Nodup):(srt lt xs).Pairwise fun a b=>lt a b=true:=by
 have asy:∀ {a b},lt a b=true→lt b a=false:=fun {a b} h=>by
  cases hx:lt b a with
  |false=>rfl
  |true=>have:=tr h hx;rw [irr] at this;cases this
 have h1:(srt lt xs).Pairwise fun a b=>(!lt b a)=true:=by
  refine List.pairwise_mergeSort (le:=fun a b=>!lt b a) (fun a b c h1 h2=>?_) (fun a b=>?_) xs
  ·simp only [Bool.not_eq_true'] at *
   rcases tri a b with h|h|h
   ·rcases tri b c with g|g|g
    ·exact asy (tr h g)
    ·subst g;exact asy h
    ·rw [g] at h2;cases h2
   ·subst h;exact h2
   ·rw [h] at h1;cases h1
  ·rcases tri a b with h|h|h
   ·rw [asy h];rfl
   ·subst h;rw [irr];rfl
   ·rw [asy h];simp
 have h2:(srt lt xs).Nodup:=(List.mergeSort_perm xs _).nodup_iff.2 hn
 refine (h1.and h2).imp fun {a b} h=>?_
 obtain ⟨h3,h4⟩:=h
 simp only [Bool.not_eq_true'] at h3
 rcases tri a b with h|h|h
 ·exact h
 ·exact absurd h h4
 ·rw [h] at h3;cases h3
theorem aNR (a:List Int):qB a a=false:=by
 have:∀ a:List Int,mZ a a=0:=fun a=>by
  induction a with
  |nil=>rfl
  |cons x l ih=>simp [mZ,ih]
 simp [qB,this]
def qLt (a b:Int × Int):Bool:=decide (a.1 < b.1)||(a.1 == b.1&&decide (a.2 < b.2))
theorem aFg {a b:Int × Int}:qLt a b=true↔a.1 < b.1∨(a.1=b.1∧a.2 < b.2):=by unfold qLt;simp
theorem aHW (a b:Int × Int):qB (R2 a) (R2 b)=qLt a b:=by
 refine Bool.eq_iff_iff.2 ?_
 rw [aFg]
 unfold qB R2 mZ
 simp only [decide_eq_true_eq]
 split
 ·constructor
  ·intro _;exact .inl (by assumption)
  ·intro _;omega
 ·split
  ·constructor
   ·intro h;omega
   ·intro h;omega
  ·unfold mZ
   split
   ·constructor
    ·intro _;exact .inr ⟨by omega,by assumption⟩
    ·intro _;omega
   ·split
    ·constructor
     ·intro h;omega
     ·intro h;omega
    ·constructor
     ·intro h;simp [mZ] at h
     ·intro h;omega
theorem qLt_irr (a:Int × Int):qLt a a=false:=by
 cases h:qLt a a with
 |false=>rfl
 |true=>rw [aFg] at h;omega
theorem qLt_tr {a b c:Int × Int} (h1:qLt a b=true) (h2:qLt b c=true):qLt a c=true:=by
 rw [aFg] at *;omega
theorem aLm (a b:Int × Int):qLt a b=true∨a=b∨qLt b a=true:=by
 rw [aFg,aFg]
 have:a=b↔a.1=b.1∧a.2=b.2:=⟨fun h=>by rw [h];exact ⟨rfl,rfl⟩,fun h=>Prod.ext h.1 h.2⟩
 rw [this];omega
def jF (F:List (Int × Int)):List (Int × Int):=srt qLt F
theorem aFh (F:List (Int × Int)):(jF F).Perm F:=List.mergeSort_perm _ _
theorem uU {F:List (Int × Int)} {q:Int × Int}:q∈jF F↔q∈F:=(aFh F).mem_iff
theorem aGz (F:List (Int × Int)):(jF F).length=F.length:=(aFh F).length_eq
theorem ordQ_row (F:List (Int × Int)):srt qB (F.map R2)=(jF F).map R2:=by
 unfold jF srt
 exact (List.map_mergeSort (r:=fun a b=>!qLt b a) (s:=fun a b=>!qB b a) (f:=R2) (l:=F) (fun a _ b _=>by rw [aHW])).symm
theorem aMK {F:List (Int × Int)} (h:F.Nodup):(jF F).Pairwise fun a b=>qLt a b=true:=aNQ qLt qLt_irr (fun h1 h2=>qLt_tr h1 h2) aLm h
theorem aJk {F:List (Int × Int)} (h:F.Nodup):(jF F).Nodup:=(aFh F).nodup_iff.2 h
variable {p:cA} {r:dB}
theorem aML:∀ {l:List (Int × Int × Int)} {F:List (Int × Int)} {x:Int × Int × Int},x∈l→x.2∈aBD F l
 |y::l,F,x,h=>by
  rcases List.mem_cons.1 h with rfl|h
  ·exact (aCu l (aAY F x.2)).subset (aMH F x.2)
  ·exact aML (F:=aAY F y.2) h
theorem xQ_W (hp:dV p.S) (hr:dV r):∀ {n i:Nat} {s:List (Int × Int) × List Edge},WQ2 p r s.1→WQ2 p r (xQ p r n i s).1
 |0,_,_,h=>h
 |n+1,i,s,h=>by
  unfold xQ
  split
  ·exact h
  ·rename_i q hq
   exact xQ_W hp hr (n:=n) (WQ2.add h (aLj hp hr (h.2 q (List.mem_of_getElem? hq)) pH))
theorem pre_get {α:Type} {a b:List α} (h:a <+:b) {i:Nat} {x:α} (hx:a[i]?=some x):b[i]?=some x:=by
 obtain ⟨c,rfl⟩:=h
 rw [List.getElem?_append_left (List.getElem?_eq_some_iff.1 hx).1];exact hx
def aFB (p:cA) (r:dB) (FF:List (Int × Int)):Nat→List (Int × Int)→List Edge
 |_,[]=>[]
 |i,q::l=>(uT p r q (dF p q)).map (fun x=>⟨(i:Int),x.1,pos FF x.2⟩)++aFB p r FF (i+1) l
theorem edQ_map (i:Int) {FF:List (Int × Int)}:∀ {l:List (Int × Int × Int)} {F:List (Int × Int)},aBD F l <+:FF→edQ i F l=l.map fun x=>⟨i,x.1,pos FF x.2⟩
 |[],_,_=>rfl
 |x::l,F,h=>by
  have h':aBD (aAY F x.2) l <+:FF:=h
  have h2:=(aCu l (aAY F x.2)).trans h'
  simp only [edQ,List.map_cons,edQ_map i h',pos_pre h2 (aMH F x.2)]
theorem aJl (hp:dV p.S) (hr:dV r):∀ {n i:Nat} {s:List (Int × Int) × List Edge},WQ2 p r s.1→1601≤n+i→i≤s.1.length→
  (xQ p r n i s).2=s.2++aFB p r (xQ p r n i s).1 i ((xQ p r n i s).1.drop i)∧∀ q∈(xQ p r n i s).1.drop i,∀ x∈uT p r q (dF p q),x.2∈(xQ p r n i s).1
 |0,i,s,h,hn,hi=>by have:=h.len hp hr;omega
 |n+1,i,s,h,hn,hi=>by
  unfold xQ
  cases hq:s.1[i]? with
  |none=>
   simp only
   have:s.1.length≤i:=by
    apply Classical.byContradiction
    intro hc
    rw [List.getElem?_eq_getElem (by omega)] at hq;cases hq
   rw [List.drop_eq_nil_of_le this]
   exact ⟨by simp [aFB],by simp⟩
  |some q=>
   simp only
   have hil:=(List.getElem?_eq_some_iff.1 hq).1
   have hpre:=aCu (uT p r q (dF p q)) s.1
   have ih:=aJl hp hr (n:=n) (i:=i+1) (s:=(aBD s.1 (uT p r q (dF p q)),s.2++edQ (i:Int) s.1 (uT p r q (dF p q)))) (WQ2.add h (aLj hp hr (h.2 q (List.mem_of_getElem? hq)) pH)) (by omega) (by have:=hpre.length_le;simp only;omega)
   have hx:=(xQ_pre p r n (i+1) (aBD s.1 (uT p r q (dF p q)),s.2++edQ (i:Int) s.1 (uT p r q (dF p q)))).1
   generalize xQ p r n (i+1) (aBD s.1 (uT p r q (dF p q)),s.2++edQ (i:Int) s.1 (uT p r q (dF p q)))=res at ih hx
   simp only at ih hx
   have hg:=pre_get (hpre.trans hx) hq
   obtain ⟨hl,hg'⟩:=List.getElem?_eq_some_iff.1 hg
   rw [List.drop_eq_getElem_cons hl,hg']
   refine ⟨?_,fun a ha x hxa=>?_⟩
   ·rw [ih.1]
    simp only [aFB,edQ_map (i:Int) hx,List.append_assoc]
   ·rcases List.mem_cons.1 ha with rfl|ha
    ·exact hx.subset (aML hxa)
    ·exact ih.2 a ha x hxa
theorem aFC (hp:dV p.S) (hr:dV r):WQ2 p r (eG p r).1:=xQ_W hp hr (aJi hp hr)
theorem aDI (hp:dV p.S) (hr:dV r):(eG p r).2=aFB p r (eG p r).1 0 (eG p r).1:=by
 have:=(aJl hp hr (n:=1601) (i:=0) (s:=([(p.S.I,r.I)],[])) (aJi hp hr) (by omega) (by simp)).1
 rw [List.drop_zero,List.nil_append] at this
 exact this
theorem aAp (hp:dV p.S) (hr:dV r) {q:Int × Int} (hq:q∈(eG p r).1):∀ x∈uT p r q (dF p q),x.2∈(eG p r).1:=by
 have:=(aJl hp hr (n:=1601) (i:=0) (s:=([(p.S.I,r.I)],[])) (aJi hp hr) (by omega) (by simp)).2
 exact this q (by rw [List.drop_zero];exact hq)
theorem aFi (p:cA) (r:dB):(eG p r).1[0]?=some (p.S.I,r.I):=pre_get (xQ_pre p r 1601 0 ([(p.S.I,r.I)],[])).1 rfl
theorem aFj (FF:List (Int × Int)):∀ (i:Nat) (l:List (Int × Int)),(aFB p r FF i l).length=(l.map fun q=>(uT p r q (dF p q)).length).sum
 |_,[]=>rfl
 |i,q::l=>by simp [aFB,aFj FF (i+1) l]
theorem aHg {FF:List (Int × Int)} {e:Edge}:∀ {i:Nat} {l:List (Int × Int)},e∈aFB p r FF i l↔∃ (j:Nat) (q:Int × Int) (x:Int × Int × Int),l[j]?=some q∧x∈uT p r q (dF p q)∧e=⟨((i+j:Nat):Int),x.1,pos FF x.2⟩
 |i,[]=>by simp [aFB]
 |i,q::l=>by
  unfold aFB
  rw [List.mem_append,List.mem_map,aHg (i:=i+1) (l:=l)]
  constructor
  ·rintro (⟨x,hx,rfl⟩|⟨j,q',x,hj,hx,rfl⟩)
   ·exact ⟨0,q,x,rfl,hx,rfl⟩
   ·exact ⟨j+1,q',x,by simpa using hj,hx,by rw [show i+(j+1)=i+1+j by omega]⟩
  ·rintro ⟨j,q',x,hj,hx,rfl⟩
   cases j with
   |zero=>
    simp at hj;subst hj
    exact .inl ⟨x,hx,rfl⟩
   |succ j=>exact .inr ⟨j,q',x,by simpa using hj,hx,by rw [show i+(j+1)=i+1+j by omega]⟩
theorem aLn {q:Int × Int} {es:List Edge} {x:Int × Int × Int} (h:x∈uT p r q es):∃ e∈es,x.1=e.B:=by
 unfold uT at h
 rw [List.mem_filterMap] at h
 obtain ⟨e,he,h⟩:=h
 rw [Option.map_eq_some_iff] at h
 obtain ⟨k,_,rfl⟩:=h
 exact ⟨e,he,rfl⟩
theorem outE_pair (hp:dP p.S) (q:Int × Int):(dF p q).Pairwise fun a b=>a.B < b.B:=by
 have h1:p.S.E.Pairwise aES:=List.pairwise_iff_getElem.2 fun i j hi hj hij=>aMv hp.1 hp.2 hij hj
 have h2:(dF p q).Pairwise aES:=h1.filter _
 refine h2.imp_of_mem ?_
 intro a b ha hb h
 have ha':=(List.mem_filter.1 ha).2
 have hb':=(List.mem_filter.1 hb).2
 simp only [beq_iff_eq] at ha' hb'
 unfold aES at h
 omega
theorem aMM {q:Int × Int}:∀ {es:List Edge},(es.Pairwise fun a b=>a.B < b.B)→(uT p r q es).Pairwise fun a b=>a.1 < b.1
 |[],_=>List.Pairwise.nil
 |e::es,h=>by
  rw [List.pairwise_cons] at h
  have ih:=aMM (q:=q) h.2
  unfold uT at ih ⊢
  rw [List.filterMap_cons]
  cases alo r q.2 (txt p.S e) with
  |none=>simpa using ih
  |some k=>
   simp only [Option.map_some]
   rw [List.pairwise_cons]
   refine ⟨fun x hx=>?_,ih⟩
   obtain ⟨e',he',hl⟩:=aLn (es:=es) (p:=p) (r:=r) (q:=q) hx
   rw [hl]
   exact h.1 e' he'
end Gv
namespace Gv
open Go
theorem aJT (a b:Int × Int):zH (R2 a) (R2 b)=some (mZ (R2 a) (R2 b)):=by
 unfold zH
 have s0:lH (R2 a) (R2 b) 0=some (if a.1 < b.1 then .inr (.inr (-1)) else if b.1 < a.1 then .inr (.inr 1) else .inl 1):=by
  unfold lH oU
  rw [show decide ((0:Int) < ((R2 a).length:Int))=true from rfl,if_pos rfl,show decide ((0:Int) < ((R2 b).length:Int))=true from rfl,if_pos rfl,show ix (R2 a) 0=some a.1 from rfl,aJ,show ix (R2 b) 0=some b.1 from rfl,aJ]
  by_cases h1:a.1 < b.1
  ·simp [h1]
  ·by_cases h2:b.1 < a.1
   ·simp [h1,h2]
   ·simp [h1,h2,wr]
 have s1:lH (R2 a) (R2 b) 1=some (if a.2 < b.2 then .inr (.inr (-1)) else if b.2 < a.2 then .inr (.inr 1) else .inl 2):=by
  unfold lH oU
  rw [show decide ((1:Int) < ((R2 a).length:Int))=true from rfl,if_pos rfl,show decide ((1:Int) < ((R2 b).length:Int))=true from rfl,if_pos rfl,show ix (R2 a) 1=some a.2 from rfl,aJ,show ix (R2 b) 1=some b.2 from rfl,aJ]
  by_cases h1:a.2 < b.2
  ·simp [h1]
  ·by_cases h2:b.2 < a.2
   ·simp [h1,h2]
   ·simp [h1,h2,wr]
 have s2:lH (R2 a) (R2 b) 2=some (.inr (.inl ())):=rfl
 rw [cN,s0]
 by_cases h1:a.1 < b.1
 ·simp [h1,R2,mZ]
 ·by_cases h2:b.1 < a.1
  ·simp [h1,h2,R2,mZ]
  ·simp only [h1,h2,if_false]
   rw [cN,s1]
   by_cases h3:a.2 < b.2
   ·simp [h1,h2,h3,R2,mZ]
   ·by_cases h4:b.2 < a.2
    ·simp [h1,h2,h3,h4,R2,mZ]
    ·simp only [h3,h4,if_false]
     rw [cN,s2,aJ]
     simp [sF,h1,h2,h3,h4,R2,mZ]
def insL (q:Int × Int):List (Int × Int)→List (Int × Int)
 |[]=>[]
 |x::l=>if qLt x q=true then x::insL q l else if x=q then x::l else q::x::l
def insD (q:Int × Int):List (Int × Int)→Bool
 |[]=>false
 |x::l=>if qLt x q=true then insD q l else true
def aFs (l:List (Int × Int)) (q:Int × Int):List (Int × Int):=if insD q l=true then insL q l else insL q l++[q]
theorem aJm (q:Int × Int):aFs [] q=[q]:=rfl
theorem aHh (x:Int × Int) (l:List (Int × Int)) (q:Int × Int):aFs (x::l) q=if qLt x q=true then x::aFs l q else if x=q then x::l else q::x::l:=by
 simp only [aFs,insL,insD]
 by_cases h:qLt x q=true
 ·simp only [h,if_true]
  split<;>rfl
 ·simp only [h,if_false]
  simp
theorem aJn {q x:Int × Int}:∀ {l:List (Int × Int)},x∈aFs l q↔x=q∨x∈l
 |[]=>by simp [aJm]
 |y::l=>by
  rw [aHh]
  split
  ·rw [List.mem_cons,aJn (l:=l),List.mem_cons]
   constructor
   ·rintro (h|h|h)<;>simp [h]
   ·rintro (h|h|h)<;>simp [h]
  ·split
   ·rename_i _ h
    subst h
    simp
   ·simp
theorem aJo (q:Int × Int):∀ (l:List (Int × Int)),(aFs l q).length≤l.length+1
 |[]=>by simp [aJm]
 |y::l=>by
  rw [aHh]
  have:=aJo q l
  split
  ·simp;omega
  ·split<;>simp
theorem aHt {q:Int × Int}:∀ {l:List (Int × Int)},(l.Pairwise fun a b=>qLt a b=true)→(aFs l q).Pairwise fun a b=>qLt a b=true
 |[],_=>by simp [aJm]
 |y::l,h=>by
  rw [aHh]
  rw [List.pairwise_cons] at h
  split
  ·rename_i hy
   rw [List.pairwise_cons]
   refine ⟨fun x hx=>?_,aHt h.2⟩
   rcases aJn.1 hx with rfl|hx
   ·exact hy
   ·exact h.1 x hx
  ·split
   ·exact List.pairwise_cons.2 h
   ·rename_i h1 h2
    have hq:qLt q y=true:=by
     rcases aLm y q with g|g|g
     ·exact absurd g h1
     ·exact absurd g h2
     ·exact g
    rw [List.pairwise_cons]
    refine ⟨fun x hx=>?_,List.pairwise_cons.2 h⟩
    rcases List.mem_cons.1 hx with rfl|hx
    ·exact hq
    ·exact qLt_tr hq (h.1 x hx)
theorem aLp (Q:List (Int × Int)) (q:Int × Int) (h:Q.length < 1000000000):aAU (Q.map R2) (R2 q)=some ((aFs Q q).map R2):=by
 unfold aAU
 have hc:∀ x:Int × Int,decide (0≤mZ (R2 x) (R2 q))=!qLt x q:=fun x=>by
  rw [←aHW];unfold qB
  refine Bool.eq_iff_iff.2 ?_
  simp only [decide_eq_true_eq,Bool.not_eq_true',decide_eq_false_iff_not];omega
 have hc2:∀ x:Int × Int,qLt x q=false→(0 < mZ (R2 x) (R2 q)↔x≠q):=fun x hx=>by
  rw [←aHW] at hx
  unfold qB at hx
  simp only [decide_eq_false_iff_not] at hx
  constructor
  ·intro h e;subst e
   have:=aNR (R2 x)
   have:∀ a:List Int,mZ a a=0:=fun a=>by
    induction a with
    |nil=>rfl
    |cons x l ih=>simp [mZ,ih]
   rw [this] at h;omega
  ·intro hne
   apply Classical.byContradiction
   intro hn
   have h0:mZ (R2 x) (R2 q)=0:=by omega
   rcases aLm x q with g|g|g
   ·rw [←aHW] at g;unfold qB at g;simp only [decide_eq_true_eq] at g;omega
   ·exact hne g
   ·rw [aFg] at g
    unfold R2 mZ at h0
    split at h0
    ·omega
    ·split at h0
     ·omega
     ·unfold mZ at h0
      split at h0
      ·omega
      ·split at h0<;>omega
 have:=mA (step:=fun s:List (List Int) × Bool × Int=>qS (Q.map R2) (R2 q) s.1 s.2.1 s.2.2) Q (fun k (a:List (List Int) × Bool)=>(a.1,a.2,(k:Int)))
  (fun l a=>if a.2=true then (a.1++l.map R2,true) else (a.1++(insL q l).map R2,insD q l)) (fun k a=>a.1.length≤k+1∧(a.2=false→a.1.length≤k)) (fun k a x l hk hx hI=>?_) (fun a hI=>?_) (a:=([],false)) ⟨by simp,by simp⟩
 ·rw [show ((0:Nat):Int)=0 from rfl] at this
  rw [this,aJ]
  simp only [Bool.false_eq_true,if_false,List.nil_append]
  unfold uJ uI aFs
  have hl:(insL q Q).length≤Q.length+1:=by
   have:=aJo q Q
   unfold aFs at this
   split at this
   ·exact this
   ·simp at this;omega
  cases insD q Q with
  |true=>rfl
  |false=>
   simp only [Bool.not_false,if_true,Bool.false_eq_true,if_false]
   rw [hJ (by simp [kT];omega),aJ,List.map_append];rfl
 ·obtain ⟨out,done⟩:=a
  simp only at hI
  have hI1:=hI.1
  have hx':ix (Q.map R2) (k:Int)=some (R2 x):=by
   obtain ⟨hk',rfl⟩:=aAb hx
   rw [lQ];simp [hk']
  have a1:∀ X:List Int,apd out [X]=some (out++[X]):=fun X=>hJ (by simp [kT];omega)
  have a2:∀ X Y:List Int,apd (out++[X]) [Y]=some (out++[X]++[Y]):=fun X Y=>hJ (by simp [kT];omega)
  have hw1:=cK hk (show Q.length < 4611686018427387904 by omega)
  simp only [qS,List.length_map,cQ hk,if_pos,hx',aJ,aJT,hc]
  left
  cases done with
  |true=>
   simp only [Bool.not_true,Bool.false_eq_true,if_false,qR,kY,a1,aJ,hw1]
   exact ⟨(out++[R2 x],true),rfl,⟨by simp;omega,fun h=>by cases h⟩,by simp⟩
  |false=>
   have hI2:=hI.2 rfl
   simp only [Bool.not_false,if_true,qR]
   cases hq:qLt x q with
   |true=>
    simp only [Bool.not_true,Bool.false_eq_true,if_false,kY,a1,aJ,hw1]
    exact ⟨(out++[R2 x],false),rfl,⟨by simp;omega,fun _=>by simp;omega⟩,by simp [insL,insD,hq]⟩
   |false=>
    simp only [Bool.not_false,if_true]
    by_cases hne:x=q
    ·rw [if_neg (by simp only [decide_eq_true_eq];rw [hc2 x hq];exact fun h=>h hne)]
     simp only [kY,a1,aJ,hw1]
     refine ⟨(out++[R2 x],true),rfl,⟨by simp;omega,fun h=>by cases h⟩,?_⟩
     simp only [insL,insD,hq,if_true,Bool.false_eq_true,if_false,if_pos hne,List.append_assoc];rfl
    ·rw [if_pos (by simp only [decide_eq_true_eq];rw [hc2 x hq];exact hne),a1,aJ]
     simp only [kY,a2,aJ,hw1]
     refine ⟨(out++[R2 q]++[R2 x],true),rfl,⟨by simp;omega,fun h=>by cases h⟩,?_⟩
     simp only [insL,insD,hq,if_true,Bool.false_eq_true,if_false,if_neg hne,List.append_assoc];rfl
 ·simp only [qS,List.length_map,cE]
  obtain ⟨out,done⟩:=a
  cases done<;>simp [insL,insD]
end Gv
namespace Gv
open Go
theorem aFR (a:Edge):dX a a=false:=by
 cases h:dX a a with
 |false=>rfl
 |true=>exact absurd rfl (aHc h)
theorem aDZ {a b c:Edge} (h1:dX a b=true) (h2:dX b c=true):dX a c=true:=by
 rw [pZ] at *;omega
theorem aMN (a b:Edge):dX a b=true∨a=b∨dX b a=true:=by
 rw [pZ,pZ]
 obtain ⟨a1,a2,a3⟩:=a
 obtain ⟨b1,b2,b3⟩:=b
 simp only [Edge.mk.injEq]
 omega
def SE (l:List Edge):Prop:=l.Pairwise fun a b=>dX a b=true
theorem put_find (l:List Edge) (e:Edge) (h:l.length < 1000000000):∃ a:Nat,loop (fun s:Int=>uH l e s) (l.length:Int)=some (a:Int)∧a≤l.length∧(∀ (j:Nat) x,a≤j→l[j]?=some x→dX e x=true)∧(∀ (x:Edge),0 < a→l[a - 1]?=some x→dX e x=false):=by
 have key:=vU (step:=fun s:Int=>uH l e s) (fun s=>∃ a:Nat,s=(a:Int)∧a≤l.length∧∀ (j:Nat) x,a≤j→l[j]?=some x→dX e x=true) (fun s=>s.toNat)
  (fun x=>∃ a:Nat,x=(a:Int)∧a≤l.length∧(∀ (j:Nat) x,a≤j→l[j]?=some x→dX e x=true)∧(∀ (x:Edge),0 < a→l[a - 1]?=some x→dX e x=false)) (fun s hI=>?_) (s:=(l.length:Int)) ⟨l.length,rfl,Nat.le_refl _,fun j x hj hx=>by
   rw [List.getElem?_eq_none (by omega)] at hx;cases hx⟩
 ·obtain ⟨r,h1,a,rfl,h2⟩:=key
  exact ⟨a,h1,h2⟩
 ·obtain ⟨a,rfl,ha,hall⟩:=hI
  by_cases h0:0 < a
  ·have hk1:wr ((a:Int) - 1)=((a - 1:Nat):Int):=by rw [iM (by omega) (by omega)];omega
   have hx:l[a - 1]?=some l[a - 1]:=List.getElem?_eq_getElem (by omega)
   simp only [uH]
   rw [decide_eq_true (p:=(0:Int) < (a:Int)) (by omega),if_pos rfl,hk1,cZ (xs:=l) (k:=a - 1) (by omega),aJ,aIT,aJ]
   unfold xU
   cases he:dX e l[a - 1] with
   |true=>
    left
    refine ⟨_,by rw [if_pos rfl,hk1],⟨a - 1,rfl,by omega,fun j x hj hx2=>?_⟩,by simp;omega⟩
    by_cases e1:j=a - 1
    ·subst e1;rw [hx] at hx2;cases hx2;exact he
    ·exact hall j x (by omega) hx2
   |false=>
    right
    refine ⟨_,by rw [if_neg (by simp)],a,rfl,ha,hall,fun x _ hx2=>?_⟩
    rw [hx] at hx2;cases hx2;exact he
  ·right
   refine ⟨_,by simp only [uH];rw [decide_eq_false (p:=(0:Int) < (a:Int)) (by omega),if_neg (by simp)];unfold xU;rw [if_neg (by simp)],a,rfl,ha,hall,fun x h=>absurd h h0⟩
theorem put_shift (l:List Edge) (a:Nat) (ha:a≤l.length) (h:l.length < 1000000000):∃ z:Edge,loop (fun s:List Edge × Int=>xS (a:Int) s.1 s.2) (l++[⟨0,0,0⟩],(l.length:Int))=some (l.take a++z::l.drop a):=by
 have key:=vU (step:=fun s:List Edge × Int=>xS (a:Int) s.1 s.2) (fun s=>∃ (k:Nat) (z:Edge),s=(l.take k++z::l.drop k,(k:Int))∧a≤k∧k≤l.length) (fun s=>s.2.toNat)
  (fun x=>∃ z:Edge,x=l.take a++z::l.drop a) (fun s hI=>?_) (s:=(l++[⟨0,0,0⟩],(l.length:Int))) ⟨l.length,⟨0,0,0⟩,by simp,ha,Nat.le_refl _⟩
 ·obtain ⟨r,h1,z,rfl⟩:=key
  exact ⟨z,h1⟩
 ·obtain ⟨k,z,rfl,hak,hk⟩:=hI
  simp only [xS]
  have hlen:(l.take k++z::l.drop k).length=l.length+1:=by simp;omega
  by_cases h0:a < k
  ·have hk1:wr ((k:Int) - 1)=((k - 1:Nat):Int):=by rw [iM (by omega) (by omega)];omega
   rw [decide_eq_true (p:=(a:Int) < (k:Int)) (by omega),if_pos rfl,hk1,cZ (xs:=l.take k++z::l.drop k) (k:=k - 1) (by omega),aJ,cZ (by omega),aJ,sT _ (by omega),aJ]
   left
   refine ⟨_,rfl,⟨k - 1,l[k - 1],?_,by omega,by omega⟩,by simp;omega⟩
   have e1:(l.take k++z::l.drop k)[k - 1]'(by omega)=l[k - 1]:=by
    rw [List.getElem_append_left (by simp;omega),List.getElem_take]
   rw [e1]
   have e2:(l.take k++z::l.drop k).set k l[k - 1]=l.take k++l[k - 1]::l.drop k:=by
    rw [List.set_append_right _ _ (by rw [List.length_take];omega)]
    simp [Nat.min_eq_left hk]
   have e3:l.take k=l.take (k - 1)++[l[k - 1]]:=by
    have:=List.take_add_one (l:=l) (i:=k - 1)
    rw [show k - 1+1=k by omega,List.getElem?_eq_getElem (by omega)] at this
    exact this
   have e4:l.drop (k - 1)=l[k - 1]::l.drop k:=by
    have:=List.drop_eq_getElem_cons (l:=l) (i:=k - 1) (by omega)
    rw [show k - 1+1=k by omega] at this
    exact this
   simp only [Prod.mk.injEq,and_true]
   show (l.take k++z::l.drop k).set k ⟨l[k - 1].F,l[k - 1].B,l[k - 1].To⟩=_
   rw [show (⟨l[k - 1].F,l[k - 1].B,l[k - 1].To⟩:Edge)=l[k - 1] from rfl,e2,e3,e4,List.append_assoc];rfl
  ·obtain rfl:k=a:=by omega
   right
   rw [decide_eq_false (p:=(k:Int) < (k:Int)) (by omega),if_neg (by simp)]
   exact ⟨_,rfl,z,rfl⟩
theorem l11Put_eq (l:List Edge) (e:Edge) (h:l.length < 1000000000) (hs:SE l):∃ l',aEE l e=some l'∧SE l'∧(∀ x,x∈l'↔x=e∨x∈l)∧l'.length≤l.length+1:=by
 unfold aEE
 obtain ⟨a,h1,ha,hge,hlt⟩:=put_find l e h
 rw [h1,aJ]
 have hbefore:∀ x∈l.take a,dX x e=true∨x=e:=fun x hx=>by
  obtain ⟨j,hj,rfl⟩:=List.getElem_of_mem hx
  rw [List.length_take] at hj
  rw [List.getElem_take]
  have hla:l[a - 1]?=some (l[a - 1]'(by omega)):=List.getElem?_eq_getElem (by omega)
  have hf:=hlt _ (by omega) hla
  have hle:dX l[a - 1] e=true∨l[a - 1]=e:=by
   rcases aMN l[a - 1] e with g|g|g
   ·exact .inl g
   ·exact .inr g
   ·rw [g] at hf;cases hf
  by_cases e1:j=a - 1
  ·subst e1;exact hle
  ·have hp:=List.pairwise_iff_getElem.1 hs j (a - 1) (by omega) (by omega) (by omega)
   rcases hle with g|g
   ·exact .inl (aDZ hp g)
   ·rw [g] at hp;exact .inl hp
 have hafter:∀ x∈l.drop a,dX e x=true:=fun x hx=>by
  obtain ⟨j,hj,rfl⟩:=List.getElem_of_mem hx
  rw [List.length_drop] at hj
  exact hge (a+j) _ (by omega) (by rw [List.getElem_drop];exact List.getElem?_eq_getElem (by omega))
 have hput:e∉l→∃ l',xT l e (a:Int) false=some l'∧SE l'∧(∀ x,x∈l'↔x=e∨x∈l)∧l'.length≤l.length+1:=fun hne=>by
  unfold xT
  rw [if_neg (by simp),hJ (by simp [kT];omega),aJ]
  have hk1:wr (((l++([⟨0,0,0⟩]:List Edge)).length:Int) - 1)=(l.length:Int):=by
   simp only [List.length_append,List.length_cons,List.length_nil]
   rw [iM (by omega) (by omega)];omega
  rw [hk1]
  obtain ⟨z,hz⟩:=put_shift l a ha h
  rw [hz,aJ]
  unfold aAS
  have hl:(l.take a++z::l.drop a).length=l.length+1:=by simp;omega
  rw [cZ (by omega),aJ,sT _ (by omega),aJ]
  have e2:(l.take a++z::l.drop a).set a (⟨e.F,e.B,e.To⟩:Edge)=l.take a++e::l.drop a:=by
   rw [List.set_append_right _ _ (by rw [List.length_take];omega)]
   simp [Nat.min_eq_left ha]
  rw [e2]
  refine ⟨_,rfl,?_,fun x=>?_,by simp;omega⟩
  ·have hs':(l.take a++l.drop a).Pairwise fun a b=>dX a b=true:=by rw [List.take_append_drop];exact hs
   rw [List.pairwise_append] at hs'
   unfold SE
   rw [List.pairwise_append,List.pairwise_cons]
   refine ⟨hs'.1,⟨hafter,hs'.2.1⟩,fun x hx y hy=>?_⟩
   have hxe:dX x e=true:=by
    rcases hbefore x hx with g|g
    ·exact g
    ·subst g;exact absurd (List.mem_of_mem_take hx) hne
   rcases List.mem_cons.1 hy with rfl|hy
   ·exact hxe
   ·exact aDZ hxe (hafter y hy)
  ·rw [List.mem_append,List.mem_cons]
   conv=>rhs;rw [←List.take_append_drop a l,List.mem_append]
   constructor
   ·rintro (g|g|g)<;>simp [g]
   ·rintro (g|g|g)<;>simp [g]
 unfold aAT
 by_cases h0:0 < a
 ·have hk1:wr ((a:Int) - 1)=((a - 1:Nat):Int):=by rw [iM (by omega) (by omega)];omega
  rw [decide_eq_true (p:=(0:Int) < (a:Int)) (by omega),if_pos rfl,hk1,cZ (xs:=l) (k:=a - 1) (by omega),aJ]
  by_cases he:l[a - 1]=e
  ·rw [decide_eq_true he]
   refine ⟨l,rfl,hs,fun x=>⟨.inr,?_⟩,by omega⟩
   rintro (rfl|hx)
   ·rw [←he];exact List.getElem_mem _
   ·exact hx
  ·rw [decide_eq_false he]
   refine hput fun hm=>?_
   rw [←List.take_append_drop a l,List.mem_append] at hm
   rcases hm with hm|hm
   ·obtain ⟨j,hj,hje⟩:=List.getElem_of_mem hm
    rw [List.length_take] at hj
    rw [List.getElem_take] at hje
    by_cases e1:j=a - 1
    ·subst e1;exact he hje
    ·have hp:=List.pairwise_iff_getElem.1 hs j (a - 1) (by omega) (by omega) (by omega)
     rw [hje] at hp
     have:=hlt _ h0 (List.getElem?_eq_getElem (by omega))
     rw [hp] at this;cases this
   ·have:=hafter e hm
    rw [aFR] at this;cases this
 ·rw [decide_eq_false (p:=(0:Int) < (a:Int)) (by omega),if_neg (by simp)]
  refine hput fun hm=>?_
  obtain rfl:a=0:=by omega
  have:=hafter e (by simpa using hm)
  rw [aFR] at this;cases this
theorem aNT {xs:List aZ} (h:sD xs):aDo xs=some xs:=by
 obtain ⟨h1,h12,h0,hk⟩:=h
 unfold aDo
 rw [show ([([116,97,117]:aZ)]:List aZ)=[iH] from rfl]
 have:=mX (step:=fun s:List aZ × Int=>pC xs s.1 s.2) xs.length (fun k (_:Unit)=>(if k=0 then [iH] else xs.take k,(k:Int))) (fun _ _=>xs) (fun _ _=>True) (fun k a hk' _=>?_) (fun a _=>?_) xs.length 0 () (by omega) trivial
 ·rw [show ((0:Nat):Int)=0 from rfl,if_pos rfl] at this
  rw [this];rfl
 ·left
  refine ⟨(),?_,trivial,rfl⟩
  have hw1:=cK hk' (show xs.length < 4611686018427387904 by omega)
  show pC xs (if k=0 then [iH] else xs.take k) (k:Int)=some (.inl (if k+1=0 then [iH] else xs.take (k+1),((k+1:Nat):Int)))
  rw [if_neg (show ¬ k+1=0 by omega)]
  by_cases hk0:k=0
  ·subst hk0
   have e0:=h0 (by omega)
   rw [if_pos rfl]
   simp only [pC,cQ hk',if_pos,cZ hk',aJ,e0]
   rw [show vF [iH] iH=some 0 from by rw [aCt _ _ (by simp)];rfl,aJ,if_pos (by decide)]
   unfold vI
   rw [hw1]
   rw [show xs.take (0+1)=[iH] from by rw [List.take_add_one,List.getElem?_eq_getElem (by omega),e0];rfl]
  ·rw [if_neg hk0]
   have hn:xs[k]∉xs.take k:=fun hm=>by
    obtain ⟨j,hj,hje⟩:=List.getElem_of_mem hm
    rw [List.length_take] at hj
    rw [List.getElem_take] at hje
    have:=aGx (xs:=xs) ⟨h1,h12,h0,hk⟩ (i:=j) (j:=k) (by omega) hk' hje
    omega
   have hlt:(xs.take k).length=k:=by rw [List.length_take];omega
   simp only [pC,cQ hk',if_pos,cZ hk',aJ]
   rw [aCt _ _ (by omega),aJ,aHU hn,if_neg (by decide)]
   have hfind:loop (fun s:Int=>rR (xs.take k) xs[k] s) 1=some (k:Int):=by
    have:=mX (step:=fun s:Int=>rR (xs.take k) xs[k] s) k (fun i (_:Unit)=>(i:Int)) (fun _ _=>(k:Int)) (fun i _=>1≤i) (fun i a hi h1i=>?_) (fun a _=>?_) (k - 1) 1 () (by omega) (Nat.le_refl _)
    ·exact this
    ·left
     refine ⟨(),?_,by omega,rfl⟩
     have hi':i < (xs.take k).length:=by omega
     have hl:=aLc (xs:=xs) ⟨h1,h12,h0,hk⟩ (i:=i) (j:=k) h1i hi hk'
     simp only [rR]
     rw [cQ hi',if_pos rfl,cZ hi',aJ,List.getElem_take,hl]
     unfold zF
     rw [if_pos rfl,cK hi (show k < 4611686018427387904 by omega)]
    ·simp only [rR]
     rw [show decide ((k:Int) < ((xs.take k).length:Int))=false from decide_eq_false (by omega),if_neg (by simp)];rfl
   rw [hfind,aJ]
   unfold zD
   rw [hJ (by simp [kT];omega),aJ]
   have hk1:wr (((xs.take k++([([]:aZ)]:List aZ)).length:Int) - 1)=(k:Int):=by
    simp only [List.length_append,List.length_cons,List.length_nil,hlt]
    rw [iM (by omega) (by omega)];omega
   rw [hk1,cN]
   have:yZ (k:Int) (xs.take k++[([]:aZ)]) (k:Int)=some (.inr (xs.take k++[([]:aZ)])):=by
    unfold yZ
    rw [show decide ((k:Int) < (k:Int))=false from decide_eq_false (by omega)];rfl
   simp only [this]
   rw [aJ]
   unfold yY vI
   rw [cZ (by simp;omega),aJ,sT _ (by simp;omega),aJ,hw1]
   have e2:(xs.take k++[([]:aZ)]).set k xs[k]=xs.take (k+1):=by
    rw [List.set_append_right _ _ (by omega),hlt,Nat.sub_self,List.take_add_one,List.getElem?_eq_getElem hk'];rfl
   rw [e2]
 ·rw [if_neg (by omega),List.take_length]
  simp only [pC,cE];rfl
theorem labs_pos {xs:List aZ} (h:sD xs) {k:Nat} (hk:k < xs.length):pos xs xs[k]=(k:Int):=by
 obtain ⟨i,hi,e,g⟩:=aAI (List.getElem_mem hk)
 have:=aGx h hi hk g
 omega
theorem aNU {labels:List aZ} (hL:sD labels) {edges EE:List Edge} (hlen:edges.length < 1000000) (hin:∀ e∈edges,0≤e.B∧e.B < labels.length) (hEE:SE EE) (hm:∀ e,e∈edges↔e∈EE) (st ini:Int):
  aDp st ini labels edges=some ⟨st,ini,labels,EE⟩:=by
 unfold aDp
 rw [aNT hL,aJ]
 have key:=sV (step:=fun s:List Edge × Int=>rS labels edges labels s.1 s.2) edges.length (fun k (a:List Edge)=>(a,(k:Int))) (fun k a=>SE a∧(∀ x,x∈a↔x∈edges.take k)∧a.length≤k)
  (fun x=>x=EE) (fun k a hk hI=>?_) (fun a hI=>?_) edges.length 0 [] (by omega) ⟨List.Pairwise.nil,by simp,by simp⟩
 ·obtain ⟨x,hx,hx2⟩:=key
  have hx':loop (fun s:List Edge × Int=>rS labels edges labels s.1 s.2) (([]:List Edge),0)=some x:=hx
  rw [hx',aJ,hx2];rfl
 ·obtain ⟨hs,hmem,hl⟩:=hI
  have hi:=hin _ (List.getElem_mem hk)
  simp only [rS,cQ hk,if_pos,cZ hk,aJ]
  have h12:=hL.2.1
  rw [ix_of hi.1 (show edges[k].B.toNat < labels.length by omega),aJ,aCt _ _ (by omega),aJ,labs_pos hL]
  rw [show (⟨edges[k].F,((edges[k].B.toNat:Nat):Int),edges[k].To⟩:Edge)=edges[k] from by
   have:((edges[k].B.toNat:Nat):Int)=edges[k].B:=by omega
   rw [this]]
  obtain ⟨l',h1,h2,h3,h4⟩:=l11Put_eq a edges[k] (by omega) hs
  rw [h1,aJ]
  refine ⟨l',by rw [cK hk (show edges.length < 4611686018427387904 by omega)],h2,fun x=>?_,by omega⟩
  rw [h3,hmem,List.take_add_one,List.getElem?_eq_getElem hk,List.mem_append]
  simp only [Option.toList_some,List.mem_singleton]
  constructor
  ·rintro (g|g)<;>simp [g]
  ·rintro (g|g)<;>simp [g]
 ·obtain ⟨hs,hmem,hl⟩:=hI
  rw [List.take_length] at hmem
  refine ⟨a,by simp only [rS,cE];rfl,?_⟩
  exact aDW (R:=fun a b=>dX a b=true) (fun a h=>by rw [aFR] at h;cases h) (fun h1 h2=>aDZ h1 h2) hs hEE fun x=>(hmem x).trans (hm x)
end Gv
