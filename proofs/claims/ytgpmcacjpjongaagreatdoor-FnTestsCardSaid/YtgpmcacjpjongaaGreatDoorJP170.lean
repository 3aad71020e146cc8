/- Deleting from lists, in general; states that are quiet. -/
import Derived.Test.YtgpmcacjpjongaaGreatDoorJP140
set_option linter.all false
namespace Gv
open Go
theorem aNb {γ:Type} (z:γ) {xs:List γ} {p:γ->Bool} (hl:xs.length < 1000000) {r0:Option Int} (h0:r0=some (match xs.findIdx? p with|none=>-1|some i=>(i:Int)))
  {step:List γ × Int × Int->Option ((List γ × Int × Int) ⊕ (List γ × Int))}
  (hin:∀ (s:List γ) (i j:Nat) (x:γ),(hj:j < s.length)->i < j->s[j]=x->x∈xs->s.length=xs.length->step (s,(i:Int),(j:Int))=some (.inl (if p x=true then (s,(i:Int),((j+1:Nat):Int)) else (s.set i x,((i+1:Nat):Int),((j+1:Nat):Int)))))
  (hout:∀ (s:List γ) (i:Int),step (s,i,(s.length:Int))=some (.inr (s,i))):
  (ob r0 fun r=>if (r == (-1)) then some xs else ob (loop step (xs,r,wr (r+1))) fun q=>ob (nV q.1 q.2 (q.1.length:Int)) fun r35=>ob (ovw q.1 q.2 (List.replicate r35.length z)) fun xs41=>ob (nV xs41 0 q.2) fun r45=>some r45)=some (xs.filter fun x=>!p x):=by
 rw [h0,aA]
 cases hf:xs.findIdx? p with
 |none=>
  have:xs.filter (fun x=>!p x)=xs:=List.filter_eq_self.2 fun x hx=>by have:=List.findIdx?_eq_none_iff.1 hf x hx;simp [this]
  rw [if_pos (by rfl),this]
 |some i0=>
  obtain ⟨hi0,hpi,hlt⟩:=List.findIdx?_eq_some_iff_getElem.1 hf
  rw [if_neg (by simp)]
  have:=jJ (step:=step) xs.length (fun j (a:List γ × Nat)=>(a.1,(a.2:Int),(j:Int)))
   (fun j a=>a.1.length=xs.length/\a.2 < j/\a.1.take a.2=(xs.take j).filter (fun x=>!p x)/\a.1.drop j=xs.drop j) (fun r=>∃ i:Nat,r.2=(i:Int)/\r.1.length=xs.length/\i<=xs.length/\r.1.take i=xs.filter fun x=>!p x) (fun j a hj hI=>?_) (fun a hI=>?_) (xs.length - (i0+1)) (i0+1) (xs,i0) (by omega) ⟨rfl,by simp,?_,rfl⟩
  ·obtain ⟨r,hr,i,h1,h2,h3,h4⟩:=this
   have hr':loop step (xs,(i0:Int),((i0+1:Nat):Int))=some r:=hr
   simp only
   rw [bV (n:=xs.length) hi0 (by omega),hr',aA]
   have s1:nV r.1 (i:Int) (r.1.length:Int)=some (r.1.drop i):=by
    unfold nV;rw [if_pos ⟨by omega,by omega,by omega⟩]
    rw [Int.toNat_natCast,Int.toNat_natCast,List.take_of_length_le (by simp)]
   rw [h1,s1,aA]
   have o1:ovw r.1 (i:Int) (List.replicate (r.1.drop i).length z)=some (r.1.take i++List.replicate (r.1.drop i).length z):=by
    unfold ovw
    rw [if_pos ⟨by omega,by simp only [Int.toNat_natCast,List.length_replicate,List.length_drop];omega⟩]
    simp only [Int.toNat_natCast,List.length_replicate,List.length_drop]
    rw [List.drop_of_length_le (by omega),List.append_nil]
   rw [o1,aA]
   have s2:nV (r.1.take i++List.replicate (r.1.drop i).length z) 0 (i:Int)=some (r.1.take i):=by
    unfold nV;rw [if_pos ⟨by omega,by omega,by simp;omega⟩]
    simp only [Int.toNat_natCast,Int.toNat_zero,List.drop_zero,Nat.sub_zero]
    rw [List.take_append_of_le_length (by simp;omega),List.take_of_length_le (by simp;omega)]
   rw [s2,aA,h4]
  ·obtain ⟨s,i⟩:=a
   obtain ⟨h1,h2,h3,h4⟩:=hI
   simp only at h1 h2 h3 h4
   have hsj:s[j]'(by omega)=xs[j]:=by
    have a1:=List.drop_eq_getElem_cons (l:=s) (i:=j) (by omega)
    have a2:=List.drop_eq_getElem_cons (l:=xs) (i:=j) hj
    rw [a1,a2] at h4
    exact (List.cons.inj h4).1
   have hd:s.drop (j+1)=xs.drop (j+1):=by
    rw [←List.drop_drop (i:=1) (j:=j),←List.drop_drop (i:=1) (j:=j),h4]
   have ht:(xs.take (j+1)).filter (fun x=>!p x)=(xs.take j).filter (fun x=>!p x)++(if p xs[j]=true then [] else [xs[j]]):=by
    rw [List.take_add_one,List.getElem?_eq_getElem hj,List.filter_append]
    simp only [Option.toList_some]
    cases hq:p xs[j]<;>simp [hq]
   simp only [hin s i j _ (by omega) h2 hsj (List.getElem_mem hj) h1]
   cases hpj:p xs[j] with
   |true=>
    refine ⟨(s,i),rfl,h1,by simp only;omega,?_,hd⟩
    rw [ht,hpj];simpa using h3
   |false=>
    refine ⟨(s.set i xs[j],i+1),rfl,by simpa using h1,by simp only;omega,?_,?_⟩
    ·rw [ht,hpj]
     simp only [Bool.false_eq_true,if_false]
     rw [List.take_add_one,List.getElem?_set_self (by omega),List.take_set_of_le (Nat.le_refl _),h3];rfl
    ·simp only
     rw [List.drop_set_of_lt (by omega)];exact hd
  ·obtain ⟨s,i⟩:=a
   obtain ⟨h1,h2,h3,h4⟩:=hI
   simp only at h1 h2 h3 h4
   refine ⟨(s,(i:Int)),by rw [←h1];exact hout s i,i,rfl,h1,by omega,?_⟩
   rw [List.take_length] at h3;exact h3
  ·rw [List.take_add_one,List.getElem?_eq_getElem hi0,List.filter_append]
   simp only [Option.toList_some]
   rw [List.filter_eq_self.2 (fun x hx=>by
    obtain ⟨j,hj,rfl⟩:=List.getElem_of_mem hx
    rw [List.length_take] at hj
    rw [List.getElem_take]
    have:=hlt j (by omega)
    simpa using this)]
   simp [hpi]
theorem rdL_name {s nm:aF} {vs:List Int} (h:s.length < 1000000000) (e:tF s=some (nm,vs,true)):nm=(iG 40 s).1:=by
 have j2:∀ r1 v,lE s r1 v=some (nm,vs,true)->nm=r1.1:=fun r1 v e=>by
  have j1:∀ b,mY r1 v b=some (nm,vs,true)->nm=r1.1:=fun b e=>by
   unfold mY at e
   cases b with
   |true=>simp at e
   |false=>simp at e;exact e.1.symm
  unfold lE at e
  obtain ⟨x,_,e⟩:=aC e
  split at e<;>exact j1 _ e
 unfold tF l_Cut at e
 rw [if_pos (by omega),aA,cut_eq] at e
 simp only at e
 split at e
 ·obtain ⟨x,_,e⟩:=aC e
  obtain ⟨y,_,e⟩:=aC e
  obtain ⟨z,_,e⟩:=aC e
  split at e
  ·simp at e
  ·exact j2 _ _ e
 ·exact j2 _ _ e
theorem aLb {s:aF} (h:s.length < 1000000000) (hl:mC s=true):aBf s=some (iG 40 s).1:=by
 have e:=aHk s h
 unfold aCc at e
 obtain ⟨x,hx,e⟩:=aC e
 obtain ⟨nm,vs,b⟩:=x
 rw [hl] at e
 simp at e
 subst e
 unfold aBf
 rw [hx,aA,rdL_name h hx]
theorem lab_all {xs:List aF} (h:qW xs):∀ s∈xs,mC s=true:=fun s hs=>by
 obtain ⟨k,hk,rfl⟩:=List.getElem_of_mem hs
 by_cases h1:1<=k
 ·exact (h.2.2.2 k h1 hk).1
 ·obtain rfl:k=0:=by omega
  rw [h.2.2.1 hk];exact aLP
def nmL (s:aF):aF:=(iG 40 s).1
def aGH (I:List aF) (s:aF):Bool:=I.any fun x=>nmL s == x
theorem aLc {I:List aF} (hI:I.length < 1000000) {s:aF} (h:s.length < 1000000000) (hl:mC s=true):aEo I s=some (aGH I s):=by
 unfold aEo
 rw [aLb h hl,aA,aBY _ _ (by omega),aA];rfl
theorem output_eq {I:List aF} (hI:I.length < 1000000) {s:aF} (h:s.length < 1000000000):xZ s I=some (!(s == bU)&&!aGH I s):=by
 unfold xZ
 cases hs:s == ([116,97,117]:aF) with
 |true=>have:(s == bU)=true:=hs;rw [this];rfl
 |false=>
  have:(s == bU)=false:=hs
  rw [this,if_pos (by rfl),aMV s (by omega),aA,aHp _ _ (by omega),aA]
  unfold zO aGH nmL
  rw [←aME]
  congr 1
  by_cases h:0<=pos I (iG 40 s).1
  ·rw [decide_eq_false (by omega),decide_eq_true h];rfl
  ·rw [decide_eq_true (by omega),decide_eq_false h];rfl
section
variable {t:bF} {I:List aF}
def qui (t:bF) (I:List aF) (k:Int):Bool:=t.E.all fun e=>!(e.F == k)||aGH I (qY t e)
structure aEK (I:List aF):Prop where
 len:I.length < 1000000
 tau:bU∉I
theorem aNc (hv:bM t) (hf:cJ 999999999 t) {e:Edge} (he:e∈t.E):(qY t e).length < 1000000000/\mC (qY t e)=true/\qY t e∈t.L:=by
 obtain ⟨_,_,h0,h1⟩:=nJ hv he
 have hl:e.B.toNat < t.L.length:=by omega
 have:qY t e=t.L[e.B.toNat]:=by unfold qY;rw [List.getD_eq_getElem?_getD,List.getElem?_eq_getElem hl];rfl
 rw [this]
 have:=hf.2.1 _ (List.getElem_mem hl)
 exact ⟨by omega,lab_all hv.2.2.1 _ (List.getElem_mem hl),List.getElem_mem hl⟩
theorem upTo_lts (hv:bM t):aKb t.N=some ((List.range t.N.toNat).map Int.ofNat):=by
 have h40:=hv.1
 obtain ⟨n,hn⟩:∃ n:Nat,t.N=(n:Int):=⟨t.N.toNat,by omega⟩
 have hn40:n<=40:=by omega
 unfold aKb
 have:=aLU (n:=n) (by omega) (fun _=>true) (step:=fun s:List Int × Int=>aGv t.N s.1 s.2) (fun k out hk ho=>by
  simp only [aGv,hn,cF hk,if_pos,bV hk (show n < 4611686018427387904 by omega)]
  rw [cX (show out.length+([(k:Int)]:List Int).length<=kJ by simp [kJ];omega),aA]) (fun out=>by simp only [aGv,hn,cB];rfl)
 rw [this,aA,List.filter_eq_self.2 (fun _ _=>rfl),hn,Int.toNat_natCast];rfl
theorem isIn_tau (hI:aEK I):aGH I bU=false:=by
 rw [Bool.eq_false_iff]
 intro h
 unfold aGH at h
 rw [List.any_eq_true] at h
 obtain ⟨x,hx,hx'⟩:=h
 have:nmL bU=bU:=by decide
 rw [this,beq_iff_eq] at hx'
 exact hI.tau (hx' ▸ hx)
theorem qui_iff {k:Int}:qui t I k=true<->∀ e∈t.E,e.F=k->aGH I (qY t e)=true:=by
 unfold qui
 rw [List.all_eq_true]
 refine forall_congr' fun e=>forall_congr' fun he=>?_
 by_cases h:e.F=k
 ·simp [h]
 ·simp [h]
theorem cont_out {xs:List aF} (hl:xs.length < 1000000) (hI:aEK I) (hx:∀ s∈xs,s.length < 1000000000/\mC s=true):eS xs I=some (xs.any fun s=>!aGH I s):=by
 unfold eS fI
 rw [pU (step:=fun s=>dI xs I s) xs (fun s=>!aGH I s) (fun k x hk hx'=>by
  obtain ⟨_,rfl⟩:=mH hx'
  have:=hx _ (List.getElem_mem hk)
  simp only [dI,cF hk,if_pos,hx',aA,sA,aLc hI.len this.1 this.2,bV hk (show xs.length < 4611686018427387904 by omega)]) (by simp only [dI,cB];rfl),aA,←aHX]
 cases xs.findIdx? (fun s=>!aGH I s) with
 |none=>rfl
 |some i=>simp
theorem aOq (hv:bM t) (hf:cJ 999999999 t) (hI:aEK I) (k:Int):nD k t I=some (!qui t I k):=by
 unfold nD
 have h300:=hv.2.2.2.1
 have hl:=rdy_len (t:=t) k
 rw [ready_eq hv k,aA,cont_out (by omega) hI (fun s hs=>by
  obtain ⟨e,he,_,rfl⟩:=aMX.1 hs
  exact ⟨(aNc hv hf he).1,(aNc hv hf he).2.1⟩),aA]
 congr 1
 rw [Bool.eq_iff_iff,List.any_eq_true,Bool.not_eq_true',Bool.eq_false_iff,Ne,qui_iff]
 constructor
 ·rintro ⟨s,hs,h⟩ hq
  obtain ⟨e,he,h1,rfl⟩:=aMX.1 hs
  rw [hq e he h1] at h
  cases h
 ·intro h
  refine Classical.byContradiction fun hn=>h fun e he h1=>?_
  cases hx:aGH I (qY t e) with
  |true=>rfl
  |false=>exact absurd ⟨qY t e,aMX.2 ⟨e,he,h1,rfl⟩,by rw [hx];rfl⟩ hn
def aHu (t:bF) (I:List aF):List Int:=((List.range t.N.toNat).map Int.ofNat).filter (qui t I)
theorem quis_prog (hv:bM t) (hf:cJ 999999999 t) (hI:aEK I):rH t I=some (aHu t I):=by
 have h40:=hv.1
 unfold rH
 rw [upTo_lts hv,aA]
 generalize hxs:(List.range t.N.toNat).map Int.ofNat=xs
 have hl:xs.length < 1000000:=by rw [←hxs];simp;omega
 have key:=aNb (0:Int) (xs:=xs) (p:=fun k=>!qui t I k) hl (r0:=eG xs t I) ?_ (step:=fun s:List Int × Int × Int=>dZ t I s.1 s.2.1 s.2.2) (fun s i j x hj hij hx hm hsl=>?_) (fun s i=>?_)
 ·have e:gH xs t I=_:=key
  rw [e,aA]
  unfold aHu
  rw [hxs]
  simp only [Bool.not_not]
 ·unfold eG
  rw [pU (step:=fun s=>dN xs t I s) xs (fun k=>!qui t I k) (fun k x hk hx=>by
   obtain ⟨hk',rfl⟩:=mH hx
   simp only [dN,cF hk,if_pos,hx,aA,aOq hv hf hI,bV hk (show xs.length < 4611686018427387904 by omega)]) (by simp only [dN,cB];rfl),aA]
  cases xs.findIdx? (fun k=>!qui t I k)<;>rfl
 ·have hw:=bV hj (show s.length < 4611686018427387904 by omega)
  subst hx
  simp only [dZ,cF hj,if_pos,cN hj,aA,aOq hv hf hI,dY,hw]
  cases qui t I s[j] with
  |false=>rfl
  |true=>
   simp only [Bool.not_true,Bool.not_false,if_pos,Bool.false_eq_true,if_false]
   rw [cN (by omega),aA,aEz _ (by omega),aA,bV (show i < s.length by omega) (by omega)]
 ·simp only [dZ,cB];rfl
theorem quiet_ref (hv:bM t) (hf:cJ 999999999 t) (hI:aEK I) (k:Int):aCX t I k=some (qui t I k):=by
 have h300:=hv.2.2.2.1
 unfold aCX
 have:=wM (step:=fun s=>wF t I k s) t.E (fun e=>!(e.F == k)||aGH I (qY t e)) (.inr false) (.inl ()) (fun j e hj hx=>?_) ?_
 ·rw [this,aA]
  unfold qui
  cases (t.E.all fun e=>!(e.F == k)||aGH I (qY t e))<;>rfl
 ·obtain ⟨hj',rfl⟩:=mH hx
  have he:t.E[j]∈t.E:=List.getElem_mem hj
  have h1:=aNc hv hf he
  simp only [wF,cF hj,if_pos,hx,aA,wE,bV hj (show t.E.length < 4611686018427387904 by omega),aAm (nJ hv he)]
  generalize t.E[j]=e at he h1 ⊢
  cases hF:e.F == k with
  |false=>rfl
  |true=>
   simp only [if_pos,Bool.not_true,Bool.false_or]
   by_cases h0:e.B=0
   ·have:qY t e=bU:=(aMW hv he).2 h0
    rw [h0,this,isIn_tau hI];rfl
   ·have hne:(qY t e == bU)=false:=by
     rw [beq_eq_false_iff_ne]
     exact fun h=>h0 ((aMW hv he).1 h)
    rw [if_neg (by simpa using h0),output_eq hI.len h1.1,aA,hne]
    cases aGH I (qY t e)<;>rfl
 ·simp only [wF,cB];rfl
end
end Gv
namespace Gv
open Go
def dlt:aF:=[100,101,108,116,97]
structure aHv (t:bF) (I:List aF):Prop where
 hv:bM t
 hf:cJ 500 t
 inp:aEK I
 nod:∀ s∈t.L,nmL s≠dlt
 act:∀ s∈I,vH s=true
 inc:∀ k,1<=k->(hk:k < I.length)->vJ (I[k - 1]'(by omega)) I[k]=true
 ndl:dlt∉I
section
variable {t:bF} {I:List aF}
theorem aHv.fit (h:aHv t I):cJ 999999999 t:=h.hf.mono (by decide)
theorem aHv.dl (h:aHv t I):dlt∉t.L:=fun hm=>h.nod _ hm (by decide)
theorem aPk:(aHu t I).Nodup:=by
 unfold aHu
 refine List.Nodup.sublist List.filter_sublist ?_
 exact List.Pairwise.map _ (R:=fun a b:Nat=>a≠b) (fun a b h e=>h (by simp only [Int.ofNat_eq_natCast] at e;omega)) List.nodup_range
theorem quis_len (hv:bM t):(aHu t I).length<=40:=by
 have h40:=hv.1
 have:=List.length_filter_le (qui t I) ((List.range t.N.toNat).map Int.ofNat)
 rw [List.length_map,List.length_range] at this
 unfold aHu;omega
def suA (t:bF) (I M:List aF):List Edge:=(t.E.map fun e=>(⟨e.F,pos (bU::M) (qY t e),e.To⟩:Edge))++(aHu t I).map fun k=>(⟨k,pos (bU::M) dlt,k⟩:Edge)
theorem suA_nodup (h:aHv t I) {M:List aF} (hm:∀ s,s∈M<->s∈t.L++[dlt]/\s≠bU):(suA t I M).Nodup:=by
 have hin:∀ s,s∈t.L++[dlt]->s∈bU::M:=fun s hs=>by
  by_cases e:s=bU
  ·subst e;simp
  ·exact List.mem_cons_of_mem _ ((hm s).2 ⟨hs,e⟩)
 unfold suA
 rw [List.nodup_append]
 refine ⟨?_,?_,fun x hx y hy e=>?_⟩
 ·refine List.Pairwise.map _ (R:=fun e f:Edge=>e∈t.E/\f∈t.E/\e≠f) (fun e f ⟨he,hf,hne⟩ h'=>hne ?_) ?_
  ·simp only [Edge.mk.injEq] at h'
   exact edge_eq h'.1 (txt_lab h.hv he hf (pos_eq (hin _ (by simp [aHt h.hv he])) (hin _ (by simp [aHt h.hv hf])) h'.2.1)) h'.2.2
  ·exact (aOg (aKK h.hv)).imp_of_mem fun he hf h=>⟨he,hf,h⟩
 ·refine List.Pairwise.map _ (R:=fun a b:Int=>a≠b) (fun a b hab e=>hab ?_) aPk
  simp only [Edge.mk.injEq] at e
  exact e.1
 ·obtain ⟨e1,h1,rfl⟩:=List.mem_map.1 hx
  obtain ⟨k,h2,h3⟩:=List.mem_map.1 hy
  rw [←h3] at e
  simp only [Edge.mk.injEq] at e
  have:=pos_eq (hin _ (by simp [aHt h.hv h1])) (hin dlt (by simp)) e.2.1
  exact h.dl (this ▸ aHt h.hv h1)
theorem susp_ok (h:aHv t I):∃ S,gX t I=some S/\uT t I=some (S,cl (bM S))/\cJ 999999999 S:=by
 have h40:=h.hv.1
 have l12:=h.hv.2.2.1.2.1
 have h300:=h.hv.2.2.2.1
 have hq:=quis_len (I:=I) h.hv
 obtain ⟨M,_,hM,hm,hml⟩:=aIe (t.L++[dlt]) (by rw [List.length_append];simp;omega)
 rw [List.length_append,List.length_singleton] at hml
 have hnd:=suA_nodup h hm
 have hEE:SE (vE cA (suA t I M)):=aHq cA aAD xP aDR hnd
 have hEm:∀ x,x∈vE cA (suA t I M)<->x∈suA t I M:=fun x=>by unfold vE;rw [List.mem_mergeSort]
 have hEl:(vE cA (suA t I M)).length<=340:=by
  unfold vE
  rw [List.length_mergeSort]
  unfold suA
  rw [List.length_append,List.length_map,List.length_map];omega
 have hfit:cJ 999999999 ⟨t.N,t.I,bU::M,vE cA (suA t I M)⟩:=by
  refine ⟨by show (bU::M).length<=_;rw [List.length_cons];omega,fun s hs=>?_,by show (vE cA (suA t I M)).length<=_;omega⟩
  rcases List.mem_cons.1 hs with rfl|hs
  ·decide
  ·rcases List.mem_append.1 ((hm s).1 hs).1 with h'|h'
   ·exact h.fit.2.1 s h'
   ·rw [List.mem_singleton] at h';subst h';decide
 refine ⟨⟨t.N,t.I,bU::M,vE cA (suA t I M)⟩,?_,?_,hfit⟩
 ·unfold gX
  rw [arcs_eq (fun e he=>nJ h.hv he) (by omega),aA,quis_prog h.hv h.fit h.inp,aA]
  have key:=vC (step:=fun s:List mN × Int=>lX (aHu t I) s.1 s.2) (aHu t I) (fun j (o:List mN)=>(o,(j:Int)))
   (fun l o=>o++l.map fun k=>(⟨k,dlt,k⟩:mN)) (fun j o=>o.length<=300+j) (fun j o e l hj hx hI=>?_) (fun o _=>by simp only [lX,cB];simp) (a:=t.E.map fun e=>(⟨e.F,qY t e,e.To⟩:mN)) (by rw [List.length_map];omega)
  ·rw [show loop (fun s:List mN × Int=>lX (aHu t I) s.1 s.2) (t.E.map (fun e=>(⟨e.F,qY t e,e.To⟩:mN)),0)=_ from key,aA]
   unfold oX
   have e2:(((t.E.map fun e=>(⟨e.F,qY t e,e.To⟩:mN))++(aHu t I).map fun k=>(⟨k,dlt,k⟩:mN)).map fun x=>(⟨x.from_,pos (bU::M) x.label,x.to_⟩:Edge))=suA t I M:=by
    unfold suA
    rw [List.map_append,List.map_map,List.map_map];rfl
   rw [aCn (by omega),aA,cX (by simp [kJ];omega),aA,show ([[100,101,108,116,97]]:List aF)=[dlt] from rfl,
    lts_gen (M:=M) (Eo:=vE cA (suA t I M)) hM hm (by rw [List.length_append,List.length_singleton];omega) (by rw [List.length_append,List.length_map,List.length_map];omega) (by rw [e2];exact hnd) hEE (fun x=>by rw [e2];exact hEm x) (by omega),aA]
   rfl
  ·left
   obtain ⟨hj',rfl⟩:=mH hx
   refine ⟨o++[⟨(aHu t I)[j],dlt,(aHu t I)[j]⟩],?_,by simp;omega,by simp [List.append_assoc]⟩
   simp only [lX,hx,aA]
   rw [if_pos (cF hj),cX (by simp [kJ];omega),aA,bV hj (by omega)];rfl
 ·unfold uT
  rw [cX (by simp [kJ];omega),aA,List.nil_append,cX (by simp [kJ];omega),aA,cX (by simp [kJ];omega),aA,List.nil_append,show ([[100,101,108,116,97]]:List aF)=[dlt] from rfl]
  obtain ⟨n,hn⟩:∃ n:Nat,t.N=(n:Int):=⟨t.N.toNat,by omega⟩
  have hn40:n<=40:=by omega
  have hqs:aHu t I=((List.range n).filter fun i:Nat=>qui t I (i:Int)).map Int.ofNat:=by
   unfold aHu
   rw [hn,Int.toNat_natCast,List.filter_map];rfl
  have key:=vC (step:=fun s:List Edge × Int=>nT t I (t.L++[dlt]) s.1 s.2) (List.range n) (fun j (o:List Edge)=>(o,(j:Int)))
   (fun l o=>o++((l.filter fun i:Nat=>qui t I (i:Int)).map Int.ofNat).map fun k=>(⟨k,(t.L.length:Int),k⟩:Edge)) (fun j o=>o.length<=300+j) (fun j o i l hj hx hI=>?_) (fun o _=>by
    simp only [nT,hn,List.length_range,cB];simp) (a:=t.E) (by omega)
  ·rw [show loop (fun s:List Edge × Int=>nT t I (t.L++[dlt]) s.1 s.2) (t.E,0)=_ from key,aA,←hqs]
   unfold wS
   rw [aOf (M:=M) (Eo:=vE cA (suA t I M)) (by rw [List.length_append,List.length_singleton];omega) hM hm (by rw [List.length_append,List.length_map];omega) (fun e he=>?_) hEE (fun x=>?_),aA]
   ·unfold wR
    rw [aHY _ hfit,aA]
   ·rw [List.length_append,List.length_singleton]
    rcases List.mem_append.1 he with he|he
    ·have:=aKU h.hv he;omega
    ·obtain ⟨k,_,rfl⟩:=List.mem_map.1 he
     simp only;omega
   ·rw [hEm]
    unfold suA
    have ga:∀ e∈t.E,(t.L++[dlt]).getD e.B.toNat []=qY t e:=fun e he=>by
     have:=aKU h.hv he
     unfold qY
     rw [List.getD_eq_getElem?_getD,List.getD_eq_getElem?_getD,List.getElem?_append_left (by omega)]
    have gb:(t.L++[dlt]).getD (t.L.length:Int).toNat []=dlt:=by simp
    rw [List.mem_append,List.mem_map,List.mem_map]
    constructor
    ·rintro (⟨e,he,rfl⟩|⟨k,hk,rfl⟩)
     ·exact ⟨e,List.mem_append_left _ he,by rw [ga e he]⟩
     ·exact ⟨⟨k,(t.L.length:Int),k⟩,List.mem_append_right _ (List.mem_map.2 ⟨k,hk,rfl⟩),by simp only [gb]⟩
    ·rintro ⟨e,he,rfl⟩
     rcases List.mem_append.1 he with he|he
     ·exact .inl ⟨e,he,by rw [ga e he]⟩
     ·obtain ⟨k,hk,rfl⟩:=List.mem_map.1 he
      exact .inr ⟨k,hk,by simp only [gb]⟩
  ·left
   obtain ⟨hj',e⟩:=mH hx
   rw [List.getElem_range] at e
   subst e
   rw [List.length_range] at hj
   have hlen:wr (((t.L++[dlt]).length:Int) - 1)=(t.L.length:Int):=by rw [List.length_append,List.length_singleton,fX (by omega) (by omega)];omega
   refine ⟨if qui t I (j:Int)=true then o++[⟨(j:Int),(t.L.length:Int),(j:Int)⟩] else o,?_,by split<;>(try rw [List.length_append,List.length_singleton])<;>omega,?_⟩
   ·simp only [nT,hn,cF hj,if_pos,quiet_ref h.hv h.fit h.inp,aA,rI,hlen,bV hj (show n < 4611686018427387904 by omega)]
    cases qui t I (j:Int) with
    |true=>rw [if_pos rfl,cX (by simp [kJ];omega),aA];rfl
    |false=>rfl
   ·simp only [List.filter_cons]
    cases qui t I (j:Int)<;>simp
end
end Gv
namespace Gv
open Go
section
variable {S M:bF} {I:List aF}
noncomputable def folL (S:bF) (X:List Int) (s:aF):List Int:=(iB S X s).getD []
theorem folL_eq (hv:bM S) {X:List Int} (hX:X.length<=40) (s:aF):iB S X s=some (folL S X s):=by
 obtain ⟨R,h,_⟩:=aKW hv (S:=X) (by omega) s
 unfold folL
 rw [h];rfl
noncomputable def mute (S:bF) (I:List aF) (X:List Int) (s:aF):Bool:=aGH I s||decide ((folL S X s).length=0)
noncomputable def outs (S:bF) (I:List aF) (X:List Int):List aF:=S.L.tail.filter fun s=>!mute S I X s
noncomputable def unx (S M:bF) (I:List aF) (X Y:List Int):List aF:=(outs M I Y).filter fun s=>!(outs S I X).any fun x=>s == x
theorem mute_eq (hv:bM S) (hf:cJ 999999999 S) (hI:aEK I) {X:List Int} (hX:X.length<=40) {s:aF} (hs:s∈S.L.tail):kT s I S X=some (mute S I X s):=by
 obtain ⟨h1,_,h3⟩:=aAo hv hf hs
 unfold kT mute
 rw [aLc hI.len (by omega) h1,aA]
 cases aGH I s with
 |true=>rfl
 |false=>
  rw [if_neg (by simp),folL_eq hv hX,aA]
  unfold oY
  congr 1
  rw [Bool.false_or,Bool.eq_iff_iff,beq_iff_eq,decide_eq_true_eq]
  omega
theorem outs_eq (hv:bM S) (hf:cJ 999999999 S) (hI:aEK I) {X:List Int} (hX:X.length<=40):rT S I X=some (outs S I X):=by
 have l12:=hv.2.2.1.2.1
 unfold rT
 have hc:=(aEI hv).1
 have hsl:nV S.L 1 (S.L.length:Int)=some S.L.tail:=by
  rw [hc];exact aIg _ _
 have htl:S.L.tail.length<=12:=by rw [List.length_tail];omega
 rw [hsl,aA,aCn (by omega),aA]
 have hall:∀ s∈S.L.tail,kT s I S X=some (mute S I X s):=fun s hs=>mute_eq hv hf hI hX hs
 unfold outs
 generalize S.L.tail=xs at htl hall ⊢
 have key:=aNb ([]:aF) (xs:=xs) (p:=mute S I X) (by omega) (r0:=dV xs I S X) ?_ (step:=fun s:List aF × Int × Int=>dE I S X s.1 s.2.1 s.2.2) (fun s i j x hj hij hx hm hsl=>?_) (fun s i=>?_)
 ·have e:fB xs I S X=_:=key
  rw [e,aA]
 ·unfold dV
  rw [pU (step:=fun s=>dK xs I S X s) xs (mute S I X) (fun k x hk hx=>by
   obtain ⟨hk',rfl⟩:=mH hx
   simp only [dK,cF hk,if_pos,hx,aA,hall _ (List.getElem_mem hk),bV hk (show xs.length < 4611686018427387904 by omega)]) (by simp only [dK,cB];rfl),aA]
  cases xs.findIdx? (mute S I X)<;>rfl
 ·have hw:=bV hj (show s.length < 4611686018427387904 by omega)
  subst hx
  simp only [dE,cF hj,if_pos,cN hj,aA,hall _ hm,dD,hw]
  cases mute S I X s[j] with
  |true=>rfl
  |false=>
   simp only [Bool.not_false,if_pos,Bool.false_eq_true,if_false]
   rw [cN (by omega),aA,aEz _ (by omega),aA,bV (show i < s.length by omega) (by omega)]
 ·simp only [dE,cB];rfl
theorem aOr (hv:bM S) (X:List Int):(outs S I X).length<=12:=by
 have l12:=hv.2.2.1.2.1
 have:=List.length_filter_le (fun s=>!mute S I X s) S.L.tail
 rw [List.length_tail] at this
 unfold outs;omega
theorem unx_eq (hS:bM S) (fS:cJ 999999999 S) (hM:bM M) (fM:cJ 999999999 M) (hI:aEK I) {X Y:List Int} (hX:X.length<=40) (hY:Y.length<=40):mE S M I X Y=some (unx S M I X Y):=by
 unfold mE
 rw [outs_eq hM fM hI hY,aA,outs_eq hS fS hI hX,aA]
 have l1:=aOr (I:=I) hM Y
 have l2:=aOr (I:=I) hS X
 unfold unx aGw
 generalize outs M I Y=xs at l1 ⊢
 generalize outs S I X=ys at l2 ⊢
 have hall:∀ s,zN s ys=some (ys.any fun x=>s == x):=fun s=>by
  unfold zN
  rw [aBY _ _ (by omega),aA]
 rw [aCn (by omega),aA]
 have key:=aNb ([]:aF) (xs:=xs) (p:=fun s=>ys.any fun x=>s == x) (by omega) (r0:=dU xs ys) ?_ (step:=fun s:List aF × Int × Int=>dQ ys s.1 s.2.1 s.2.2) (fun s i j x hj hij hx hm hsl=>?_) (fun s i=>?_)
 ·have e:fW xs ys=_:=key
  rw [e,aA,aA]
 ·unfold dU
  rw [pU (step:=fun s=>dJ xs ys s) xs (fun s=>ys.any fun x=>s == x) (fun k x hk hx=>by
   obtain ⟨hk',rfl⟩:=mH hx
   simp only [dJ,cF hk,if_pos,hx,aA,hall,bV hk (show xs.length < 4611686018427387904 by omega)]) (by simp only [dJ,cB];rfl),aA]
  cases xs.findIdx? (fun s=>ys.any fun x=>s == x)<;>rfl
 ·have hw:=bV hj (show s.length < 4611686018427387904 by omega)
  subst hx
  simp only [dQ,cF hj,if_pos,cN hj,aA,hall,dP,hw]
  cases (ys.any fun x=>s[j] == x) with
  |true=>rfl
  |false=>
   simp only [Bool.not_false,if_pos,Bool.false_eq_true,if_false]
   rw [cN (by omega),aA,aEz _ (by omega),aA,bV (show i < s.length by omega) (by omega)]
 ·simp only [dQ,cB];rfl
theorem aOs (X:List Int):unx S S I X X=[]:=by
 unfold unx
 rw [List.filter_eq_nil_iff]
 intro s hs
 have:((outs S I X).any fun x=>s == x)=true:=List.any_eq_true.2 ⟨s,hs,beq_self_eq_true s⟩
 rw [this];simp
theorem unx_mem {X Y:List Int} {s:aF} (h:s∈unx S M I X Y):s∈M.L.tail:=(List.mem_filter.1 (List.mem_filter.1 h).1).1
theorem unx_ne (hM:bM M) (fM:cJ 999999999 M) {X Y:List Int} {s:aF} (h:s∈unx S M I X Y):s≠[]:=by
 obtain ⟨h1,_⟩:=aAo hM fM (unx_mem h)
 rintro rfl
 exact absurd h1 (by decide)
end
end Gv
namespace Gv
open Go
section
variable {a b:bF} {M:List aF} {fd:Int->Int->Bool}
section
variable {c0 c1:bF} {c2:List aF} {c3 c4:List (List Int)}
theorem ft_stepC (ha:aBo a) (hb:aBo b) (hM:M.length<=30) (hfd:∀ p q:Int,(-1<=p/\p < a.N)->(-1<=q/\q < b.N)->oP p q c0 c1 c2 c3 c4=some (fd p q)):Stp a b M fd fun s=>gU a b c0 c1 c2 c3 c4 M s.1 s.2:=by
 have hc:∀ (l:List (Int × Int)) (e:aS) (r:List aS),gU a b c0 c1 c2 c3 c4 M (mtt l) (e::r)=kG a b c0 c1 c2 c3 c4 M (mtt l) e r (decide (bN e.a e.b\/(e.a,e.b)∈l)):=by
  intro l e r
  unfold gU
  rw [if_pos (by simp),show ix (e::r) 0=some e from rfl,aA,aIg,aA]
  have hg:(oL (mtt l) (⟨e.a,e.b⟩:Int × Int)).getD false=decide ((e.a,e.b)∈l):=aKS (e.a,e.b) l
  rw [hg]
  by_cases h1:e.a < 0
  ·rw [if_pos (by simpa using h1)]
   by_cases h2:e.b < 0
   ·rw [if_pos (by simpa using h2),decide_eq_true (show bN e.a e.b\/(e.a,e.b)∈l from .inl ⟨h1,h2⟩)]
   ·rw [if_neg (by simpa using h2)]
    congr 1
    exact decide_eq_decide.2 ⟨.inr,fun h=>h.resolve_left fun g=>h2 g.2⟩
  ·rw [if_neg (by simpa using h1)]
   congr 1
   exact decide_eq_decide.2 ⟨.inr,fun h=>h.resolve_left fun g=>h1 g.1⟩
 refine ⟨fun l=>?_,fun l e r hr ht h=>?_,fun l e r hr ht h1 h2 h3 hin=>?_,fun l e r hr ht h1 h2 h3 hin=>?_⟩
 ·show gU a b c0 c1 c2 c3 c4 M (mtt l) []=_
  unfold gU
  rw [if_neg (by simp)]
 ·show gU a b c0 c1 c2 c3 c4 M (mtt l) (e::r)=_
  rw [hc,decide_eq_true h];rfl
 ·show gU a b c0 c1 c2 c3 c4 M (mtt l) (e::r)=_
  rw [hc,decide_eq_false (fun g=>g.elim h1 h2)]
  unfold kG
  rw [if_neg (by simp),aA,hfd _ _ hin.1 hin.2,aA,if_pos h3]
 ·show gU a b c0 c1 c2 c3 c4 M (mtt l) (e::r)=_
  rw [hc,decide_eq_false (fun g=>g.elim h1 h2)]
  unfold kG
  have hp:yG (mtt l) (⟨e.a,e.b⟩:Int × Int) true=mtt (l++[(e.a,e.b)]):=aKT h2
  rw [if_neg (by simp),aA,hfd _ _ hin.1 hin.2,aA,if_neg (by simpa using h3),ft_push ha hb hM hr ht,aA,hp]
  rfl
theorem first_C (ha:aBo a) (hb:aBo b) (ha0:a.I=0) (hb0:b.I=0) (hfd:∀ p q:Int,(-1<=p/\p < a.N)->(-1<=q/\q < b.N)->oP p q c0 c1 c2 c3 c4=some (fd p q)):∃ M r,Jn a b M/\uS a b c0 c1 c2 c3 c4=some (aJe r)/\FtRes a b M fd r:=by
 obtain ⟨M,hJ,hm⟩:=aKZ ha.1 hb.1
 have hlen:=hJ.len
 obtain ⟨r,h1,h2⟩:=aKY (ft_stepC (M:=M) ha hb (by omega) hfd) ha.1 hb.1 (by omega)
 refine ⟨M,r,hJ,?_,h2⟩
 unfold uS
 have h1':loop (fun s:List ((Int × Int) × Bool) × List aS=>gU a b c0 c1 c2 c3 c4 M s.1 s.2) (([]:List ((Int × Int) × Bool)),([⟨0,0,[]⟩]:List aS))=some r:=h1
 cases hx:cG [a.L,b.L] with
 |none=>rw [hx] at hm;cases hm
 |some X=>
  rw [hx,aA] at hm
  rw [aA]
  cases hy:aCV 1 0 X [] with
  |none=>rw [hy] at hm;cases hm
  |some Y=>
   rw [hy,aA] at hm
   rw [aA,hm,aA,ha0,hb0,h1',aA]
   cases r with
   |inl x=>rfl
   |inr x=>rfl
end
section
variable {c:Edge}
theorem s5_v2C:@xN=@iZ:=rfl
theorem ft_stepE (ha:aBo a) (hb:aBo b) (hM:M.length<=30) (hfd:∀ p q:Int,(-1<=p/\p < a.N)->(-1<=q/\q < b.N)->qR p q c=some (fd p q)):Stp a b M fd fun s=>eW a b c M s.1 s.2:=by
 have hc:∀ (l:List (Int × Int)) (e:aS) (r:List aS),eW a b c M (mtt l) (e::r)=iJ a b c M (mtt l) e r (decide (bN e.a e.b\/(e.a,e.b)∈l)):=by
  intro l e r
  unfold eW
  rw [if_pos (by simp),show ix (e::r) 0=some e from rfl,aA,aIg,aA]
  have hg:(oL (mtt l) (⟨e.a,e.b⟩:Int × Int)).getD false=decide ((e.a,e.b)∈l):=aKS (e.a,e.b) l
  rw [hg]
  by_cases h1:e.a < 0
  ·rw [if_pos (by simpa using h1)]
   by_cases h2:e.b < 0
   ·rw [if_pos (by simpa using h2),decide_eq_true (show bN e.a e.b\/(e.a,e.b)∈l from .inl ⟨h1,h2⟩)]
   ·rw [if_neg (by simpa using h2)]
    congr 1
    exact decide_eq_decide.2 ⟨.inr,fun h=>h.resolve_left fun g=>h2 g.2⟩
  ·rw [if_neg (by simpa using h1)]
   congr 1
   exact decide_eq_decide.2 ⟨.inr,fun h=>h.resolve_left fun g=>h1 g.1⟩
 refine ⟨fun l=>?_,fun l e r hr ht h=>?_,fun l e r hr ht h1 h2 h3 hin=>?_,fun l e r hr ht h1 h2 h3 hin=>?_⟩
 ·show eW a b c M (mtt l) []=_
  unfold eW
  rw [if_neg (by simp)]
 ·show eW a b c M (mtt l) (e::r)=_
  rw [hc,decide_eq_true h];rfl
 ·show eW a b c M (mtt l) (e::r)=_
  rw [hc,decide_eq_false (fun g=>g.elim h1 h2)]
  unfold iJ
  rw [if_neg (by simp),aA,hfd _ _ hin.1 hin.2,aA,if_pos h3]
 ·show eW a b c M (mtt l) (e::r)=_
  rw [hc,decide_eq_false (fun g=>g.elim h1 h2)]
  unfold iJ
  have hp:yG (mtt l) (⟨e.a,e.b⟩:Int × Int) true=mtt (l++[(e.a,e.b)]):=aKT h2
  rw [if_neg (by simp),aA,hfd _ _ hin.1 hin.2,aA,if_neg (by simpa using h3),s5_v2C,ft_push ha hb hM hr ht,aA,hp]
  rfl
theorem first_E (ha:aBo a) (hb:aBo b) (ha0:a.I=0) (hb0:b.I=0) (hfd:∀ p q:Int,(-1<=p/\p < a.N)->(-1<=q/\q < b.N)->qR p q c=some (fd p q)):∃ M r,Jn a b M/\nU a b c=some (aJe r)/\FtRes a b M fd r:=by
 obtain ⟨M,hJ,hm⟩:=aKZ ha.1 hb.1
 have hlen:=hJ.len
 obtain ⟨r,h1,h2⟩:=aKY (ft_stepE (M:=M) ha hb (by omega) hfd) ha.1 hb.1 (by omega)
 refine ⟨M,r,hJ,?_,h2⟩
 unfold nU
 have h1':loop (fun s:List ((Int × Int) × Bool) × List aS=>eW a b c M s.1 s.2) (([]:List ((Int × Int) × Bool)),([⟨0,0,[]⟩]:List aS))=some r:=h1
 cases hx:cG [a.L,b.L] with
 |none=>rw [hx] at hm;cases hm
 |some X=>
  rw [hx,aA] at hm
  rw [aA]
  cases hy:aCV 1 0 X [] with
  |none=>rw [hy] at hm;cases hm
  |some Y=>
   rw [hy,aA] at hm
   rw [aA,hm,aA,ha0,hb0,h1',aA]
   cases r with
   |inl x=>rfl
   |inr x=>rfl
end
end
end Gv
namespace Gv
open Go
section
variable {t:bF} {I:List aF}
theorem aHv.isz (h:aHv t I):∀ s∈I,s.length < 4611686018427387904->xD s=some true:=fun s hs hl=>by
 rw [aIZ s hl,h.act s hs]
theorem ltB_le {a b:aF} (h:vJ a b=true):(vJ b a||b == a)=false:=by
 rw [Bool.or_eq_false_iff]
 constructor
 ·exact aIF h
 ·rw [beq_eq_false_iff_ne]
  rintro rfl
  rw [nI] at h;cases h
theorem aOt (h:aHv t I) (hs:∀ s∈I,s.length < 1000000000):rG I=some true:=by
 have hl:=h.inp.len
 unfold rG
 rw [wM (step:=fun s=>nC I s) I (fun _=>true) (.inr false) (.inl ()) (fun k x hk hx=>by
  obtain ⟨_,rfl⟩:=mH hx
  simp only [nC,cF hk,if_pos,hx,aA,qN,bV hk (show I.length < 4611686018427387904 by omega)]
  by_cases h0:k=0
  ·subst h0;rfl
  ·have hk1:wr ((k:Int) - 1)=((k - 1:Nat):Int):=by rw [fX (by omega) (by omega)];omega
   rw [if_pos (by simp;omega),hk1,cN (by omega),aA,ltB_le (h.inc k (by omega) hk)];rfl) (by simp only [nC,cB];rfl),if_pos (by simp),aA]
 show qM I=some true
 unfold qM aEV gR fG
 rw [pU (step:=fun s=>dG I s) I (fun _=>false) (fun k x hk hx=>by
  obtain ⟨_,rfl⟩:=mH hx
  have:=hs _ (List.getElem_mem hk)
  simp only [dG,cF hk,if_pos,hx,aA,aBs,h.isz _ (List.getElem_mem hk) (by omega),bV hk (show I.length < 4611686018427387904 by omega)];rfl) (by simp only [dG,cB];rfl),aA]
 rw [show I.findIdx? (fun _=>false)=none from List.findIdx?_eq_none_iff.2 fun _ _=>rfl]
 rfl
theorem valid_if (h:aHv t I) (hs:∀ s∈I,s.length < 1000000000):fY t I=some true:=by
 have hl:=h.inp.len
 unfold fY
 rw [uE t h.fit,vD h.hv,aA,if_pos rfl,aOt h hs,aA,if_pos rfl,aBY _ _ (by omega),aA]
 have:(I.any fun x=>([100,101,108,116,97]:aF) == x)=false:=by
  rw [List.any_eq_false]
  intro x hx hq
  rw [beq_iff_eq] at hq
  subst hq
  exact h.ndl hx
 rw [this,if_pos (by rfl)]
 have l12:=h.hv.2.2.1.2.1
 unfold gS fH
 rw [pU (step:=fun s=>dH t.L s) t.L (fun _=>false) (fun k x hk hx=>by
  obtain ⟨_,rfl⟩:=mH hx
  have hm:=List.getElem_mem hk
  have:=h.fit.2.1 _ hm
  have h2:(nmL t.L[k] == ([100,101,108,116,97]:aF))=false:=by
   rw [beq_eq_false_iff_ne];exact h.nod _ hm
  simp only [dH,cF hk,if_pos,hx,aA,vO,aLb (show (t.L[k]).length < 1000000000 by omega) (lab_all h.hv.2.2.1 _ hm),bV hk (show t.L.length < 4611686018427387904 by omega)]
  unfold nmL at h2
  rw [h2]) (by simp only [dH,cB];rfl),aA]
 rw [show t.L.findIdx? (fun _=>false)=none from List.findIdx?_eq_none_iff.2 fun _ _=>rfl]
 rfl
structure Sus (t:bF) (I:List aF) (S:bF):Prop where
 prog:gX t I=some S
 ref:uT t I=some (S,cl (bM S))
 fit:cJ 999999999 S
 val:fY t I=some true
theorem sus_ex (h:aHv t I) (hs:∀ s∈I,s.length < 1000000000):∃ S,Sus t I S:=by
 obtain ⟨S,h1,h2,h3⟩:=susp_ok h
 exact ⟨S,h1,h2,h3,valid_if h hs⟩
section
variable {S:bF}
theorem susL_eq (h:Sus t I S):nP t I=some (if cl (bM S)=true then (S,0) else (⟨0,0,[],[]⟩,5)):=by
 unfold nP
 rw [h.val,aA,if_neg (by simp),h.prog,aA]
 unfold aIq
 rw [show (⟨S.N,S.I,S.L,S.E⟩:bF)=S from rfl,uE S h.fit,aA]
 cases cl (bM S)<;>rfl
def Aut (S:bF):Prop:=bM S/\Small (eA S)
theorem aIi (h:Sus t I S):gZ t I=some (if cl (Aut S)=true then (iM S,(eA S).1,0) else (⟨0,0,[],[]⟩,[],5)):=by
 unfold gZ
 rw [susL_eq h,aA]
 by_cases hv:bM S
 ·rw [vD hv,if_pos rfl,if_neg (by simp)]
  unfold aAA
  rw [uE S h.fit,vD hv,aA,if_neg (by simp),aGl hv h.fit,aA,aMc]
  by_cases hs:Small (eA S)
  ·rw [decide_eq_true hs,if_neg (by simp),aA,vD (show Aut S from ⟨hv,hs⟩),if_pos rfl]
   unfold detS
   rw [if_pos hs];rfl
  ·rw [decide_eq_false hs,if_pos (by rfl),aA,pV (show ¬ Aut S from fun h=>hs h.2),if_neg (by simp)]
 ·rw [pV hv,pV (show ¬ Aut S from fun h=>hv h.1)]
  rfl
theorem aOu (h:Sus t I S):∃ d X,aCh t I=some (d,X,cl (Aut S)):=by
 unfold aCh
 rw [h.ref,aA]
 by_cases hv:bM S
 ·rw [vD hv,if_neg (by simp),aPg hv,aA,aMc]
  by_cases hs:Small (eA S)
  ·rw [decide_eq_true hs,vD (show Aut S from ⟨hv,hs⟩)];exact ⟨_,_,rfl⟩
  ·rw [decide_eq_false hs,pV (show ¬ Aut S from fun h=>hs h.2)];exact ⟨_,_,rfl⟩
 ·rw [pV hv,if_pos (by rfl),pV (show ¬ Aut S from fun h=>hv h.1)];exact ⟨_,_,rfl⟩
end
end
end Gv
namespace Gv
open Go
section
variable {a b S M:bF} {I:List aF}
noncomputable def fdC (S M:bF) (I:List aF) (p q:Int):Bool:=decide (0<=p/\0<=q/\unx S M I ((eA S).1.getD p.toNat []) ((eA M).1.getD q.toNat [])≠[])
theorem Aut.det (h:Aut S):aBo (iM S):=aJz h.1 h.2
theorem Aut.at (h:Aut S) {p:Int} (h0:0<=p) (h1:p < (iM S).N):ix (eA S).1 p=some ((eA S).1.getD p.toNat [])/\((eA S).1.getD p.toNat []).length<=40:=by
 have h1:p < ((eA S).1.length:Int):=h1
 have hl:p.toNat < (eA S).1.length:=by omega
 have hg:(eA S).1.getD p.toNat []=(eA S).1[p.toNat]:=by rw [List.getD_eq_getElem?_getD,List.getElem?_eq_getElem hl];rfl
 rw [hg]
 refine ⟨?_,((aFi h.1).2.1 _ (List.getElem_mem hl)).len⟩
 obtain ⟨n,rfl⟩:∃ n:Nat,p=(n:Int):=⟨p.toNat,by omega⟩
 exact cN hl
theorem fdC_eq (hS:Aut S) (hM:Aut M) (fS:cJ 999999999 S) (fM:cJ 999999999 M) (hI:aEK I) (p q:Int) (hp:-1<=p/\p < (iM S).N) (hq:-1<=q/\q < (iM M).N):
  oP p q S M I (eA S).1 (eA M).1=some (fdC S M I p q):=by
 unfold oP fdC
 by_cases h1:0<=p
 ·rw [if_pos (by simpa using h1)]
  by_cases h2:0<=q
  ·obtain ⟨g1,g2⟩:=hS.at h1 hp.2
   obtain ⟨g3,g4⟩:=hM.at h2 hq.2
   rw [if_pos (by simpa using h2),g1,aA,g3,aA,unx_eq hS.1 fS hM.1 fM hI g2 g4,aA]
   unfold pO
   congr 1
   generalize unx S M I _ _=l
   cases l with
   |nil=>simp
   |cons x l=>simp;omega
  ·rw [if_neg (by simpa using h2),decide_eq_false (fun h=>h2 h.2.1)];rfl
 ·rw [if_neg (by simpa using h1),decide_eq_false (fun h=>h1 h.1)];rfl
def aIj (S M:bF) (I:List aF) (tr:List aF):Prop:=aft S tr≠[]/\aft M tr≠[]/\unx S M I (aft S tr) (aft M tr)≠[]
theorem getD_some {γ:Type} {l:List γ} {j:Nat} {x d:γ} (h:l[j]?=some x):l.getD j d=x:=by rw [List.getD_eq_getElem?_getD,h];rfl
theorem aNf (hS:Aut S) (hM:Aut M) {tr:List aF} (ht:∀ s∈tr,s≠bU):fdC S M I (jB (iM S) tr) (jB (iM M) tr)=true<->aIj S M I tr:=by
 unfold fdC aIj
 rw [decide_eq_true_eq]
 rcases aJD hS.1 hS.2 ht with ⟨h1,h2⟩|⟨j,h1,h2,h3⟩
 ·rw [h2,h1];simp
 ·rw [h3,Int.toNat_natCast,getD_some h1]
  rcases aJD hM.1 hM.2 ht with ⟨g1,g2⟩|⟨k,g1,g2,g3⟩
  ·rw [g2,g1];simp
  ·rw [g3,Int.toNat_natCast,getD_some g1]
   constructor
   ·intro h;exact ⟨h2,g2,h.2.2⟩
   ·intro h;exact ⟨by omega,by omega,h.2.2⟩
structure ConfR (S M:bF) (I:List aF) (r:Bool × List aF × aF × Int):Prop where
 code:r.2.2.2=0
 yes:r.1=true->∀ tr,OvL S M tr->¬ aIj S M I tr
 no:r.1=false->OvL S M r.2.1/\r.2.1.length<=2000/\aIj S M I r.2.1/\r.2.2.1≠[]/\∀ tr' s q,r.2.1=tr'++s::q->¬ aIj S M I tr'
theorem conf_ok (hI:aEK I) (sa:Sus a I S) (sb:Sus b I M) (hS:Aut S) (hM:Aut M):∃ r,kU a b I=some r/\ConfR S M I r:=by
 obtain ⟨J,r,hJ,h1,h2⟩:=first_C hS.det hM.det rfl rfl (fun p q hp hq=>fdC_eq hS hM sa.fit sb.fit hI p q hp hq)
 have e:kU a b I=(if (!(aJe r).2)=true then (some (true,[],([]:aF),0)) else (ob (jH S (aJe r).1) fun r178=>
   ob (jH M (aJe r).1) fun r184=>ob (mE S M I r178 r184) fun r200=>ob (ix r200 0) fun e208=>some (false,(aJe r).1,e208,0))):=by
  unfold kU
  rw [sa.val,aA,if_neg (by simp),sb.val,aA]
  unfold rU
  rw [if_neg (by simp),aIi sa,aA,aIi sb,aA,vD hS,vD hM,if_pos rfl,if_pos rfl,if_neg (by simp)]
  unfold wD
  rw [if_neg (by simp),sa.prog,aA,sb.prog,aA]
  unfold aAM
  have h1':uS ⟨(iM S).N,(iM S).I,(iM S).L,(iM S).E⟩ ⟨(iM M).N,(iM M).I,(iM M).L,(iM M).E⟩ ⟨S.N,S.I,S.L,S.E⟩ ⟨M.N,M.I,M.L,M.E⟩ I (eA S).1 (eA M).1=some (aJe r):=h1
  rw [h1',aA]
 cases r with
 |inl u=>
  refine ⟨(true,[],[],0),e,⟨rfl,fun _ tr htr hb=>?_,fun h=>by cases h⟩⟩
  have ht:∀ s∈tr,s≠bU:=fun s hs=>(htr s hs).2
  have hf:fdC S M I (jB (iM S) tr) (jB (iM M) tr)=true:=(aNf hS hM ht).2 hb
  have hx:∀ tr,OvM J tr->bN (jB (iM S) tr) (jB (iM M) tr)\/fdC S M I (jB (iM S) tr) (jB (iM M) tr)=false:=h2
  rcases hx tr ((jn_ov hJ).2 htr) with h|h
  ·exact hb.1 ((aMZ hS.1 hS.2 ht).1 h.1)
  ·rw [h] at hf;cases hf
 |inr x=>
  obtain ⟨w,v⟩:=x
  obtain ⟨k0,k1,k2,k3,k4,k5⟩:v=true/\w.length<=2000/\OvM J w/\¬ bN (jB (iM S) w) (jB (iM M) w)/\fdC S M I (jB (iM S) w) (jB (iM M) w)=true/\∀ tr' s q,w=tr'++s::q->¬ bN (jB (iM S) tr') (jB (iM M) tr')/\fdC S M I (jB (iM S) tr') (jB (iM M) tr')=false:=h2
  subst k0
  have hov:=(jn_ov hJ).1 k2
  have ht:∀ s∈w,s≠bU:=fun s hs=>(hov s hs).2
  have hb:=(aNf (I:=I) hS hM ht).1 k4
  have e2:kU a b I=ob (jH S w) fun r178=>ob (jH M w) fun r184=>ob (mE S M I r178 r184) fun r200=>ob (ix r200 0) fun e208=>some (false,w,e208,0):=e
  rw [aGo hS.1 (by omega),aA,aGo hM.1 (by omega),aA,unx_eq hS.1 sa.fit hM.1 sb.fit hI (aEJ hS.1 w).len (aEJ hM.1 w).len,aA] at e2
  obtain ⟨x,l,hl⟩:∃ x l,unx S M I (aft S w) (aft M w)=x::l:=by
   cases hu:unx S M I (aft S w) (aft M w) with
   |nil=>exact absurd hu hb.2.2
   |cons x l=>exact ⟨x,l,rfl⟩
  rw [hl,show ix (x::l) 0=some x from rfl,aA] at e2
  refine ⟨_,e2,⟨rfl,(fun h=>by cases h),fun _=>⟨hov,k1,hb,?_,fun tr' s q hw hb'=>?_⟩⟩⟩
  ·exact unx_ne hM.1 sb.fit (hl ▸ List.mem_cons_self)
  ·have hw:w=tr'++s::q:=hw
   have ht':∀ s∈tr',s≠bU:=fun x hx=>ht x (by rw [hw];exact List.mem_append_left _ hx)
   have:=(k5 tr' s q hw).2
   rw [(aNf hS hM ht').2 hb'] at this
   cases this
theorem conf_self (hI:aEK I) (sa:Sus a I S) (hS:Aut S):∃ r,kU a a I=some r/\r.2.2.2=0/\r.1=true:=by
 obtain ⟨r,h1,h2⟩:=conf_ok hI sa sa hS hS
 refine ⟨r,h1,h2.code,?_⟩
 cases hr:r.1 with
 |true=>rfl
 |false=>exact absurd (aOs _) (h2.no hr).2.2.1.2.2
theorem aIK (sa:Sus a I S) (sb:Sus b I M) (h:¬ (Aut S/\Aut M)):kU a b I=some (false,[],[],5):=by
 unfold kU
 rw [sa.val,aA,if_neg (by simp),sb.val,aA]
 unfold rU
 rw [if_neg (by simp),aIi sa,aA,aIi sb,aA]
 by_cases h1:Aut S
 ·rw [vD h1,pV (fun g=>h ⟨h1,g⟩)];rfl
 ·rw [pV h1];rfl
theorem aOv (sa:Sus a I S) (sb:Sus b I M) (va:sK a I=some true) (vb:sK b I=some true) (h:¬ (Aut S/\Aut M)):aCZ a b I=some (false,[],[],5):=by
 obtain ⟨d1,X1,e1⟩:=aOu sa
 obtain ⟨d2,X2,e2⟩:=aOu sb
 unfold aCZ
 rw [va,aA,if_neg (by simp),vb,aA]
 unfold wI
 rw [if_neg (by simp),e1,aA,e2,aA]
 by_cases h1:Aut S
 ·rw [vD h1,pV (fun g=>h ⟨h1,g⟩)];rfl
 ·rw [pV h1];rfl
end
end Gv
namespace Gv
open Go
section
variable {a b S M:bF} {I:List aF}
theorem aft_pre {t:bF} (hv:bM t) {u v:List aF} (h:aft t u=[]):aft t (u++v)=[]:=by
 induction v using aGn with
 |nil=>rw [List.append_nil];exact h
 |snoc v s ih=>rw [←List.append_assoc,aIf,ih,aOj hv]
theorem aLd {t:bF} (hv:bM t) {tr:List aF} (h:aft t tr≠[]) (n:Nat):aft t (tr.take n)≠[]:=fun e=>by
 have:=aft_pre hv (v:=tr.drop n) e
 rw [List.take_append_drop] at this
 exact h this
theorem vis_all {tr:List aF} (hl:tr.length<=1000000) (ht:∀ s∈tr,VisL s):uL tr=some true:=by
 rw [aLs tr (by omega) (fun s hs=>by have:=(ht s hs).2.2;omega)]
 congr 1
 rw [List.all_eq_true]
 intro s hs
 have h1:=ht s hs
 rw [h1.1,Bool.true_and,Bool.not_eq_true',beq_eq_false_iff_ne]
 exact h1.2.1
theorem aLe {γ:Type} {xs:List γ} {n:Nat} (h:n<=xs.length):nV xs 0 (n:Int)=some (xs.take n):=slc_to h
def RunR (S M:bF) (I:List aF) (tr:List aF) (r:Int × Int × Int):Prop:=
 (∃ n,n<=tr.length/\r=(1,(n:Int),0)/\aft M (tr.take n)=[])\/(∃ n,n<=tr.length/\r=(2,(n:Int),0)/\aIj S M I (tr.take n))\/
 (r=(0,(tr.length:Int),0)/\∀ n,n<=tr.length->aft M (tr.take n)≠[]/\¬ aIj S M I (tr.take n))
def runOut (n:Int):Unit ⊕ (Int × Int × Int)->Option (Int × Int × Int)
 |.inl _=>some (0,n,0)
 |.inr r=>some r
theorem aLf (hI:aEK I) (sa:Sus a I S) (sb:Sus b I M) (hS:bM S) (hM:bM M) {tr:List aF} (hl:tr.length<=1000000) (ht:∀ s∈tr,VisL s) (hne:aft S tr≠[]):∃ r,yB a b I tr=some r/\RunR S M I tr r:=by
 have key:=pA (step:=fun s=>lC I tr S.N S.I S.L S.E M.N M.I M.L M.E s)
  (fun s=>∃ k:Nat,s=(k:Int)/\k<=tr.length+1/\∀ n,n < k->aft M (tr.take n)≠[]/\¬ aIj S M I (tr.take n)) (fun s=>tr.length+1 - s.toNat)
  (fun q=>match q with|.inl _=>∀ n,n<=tr.length->aft M (tr.take n)≠[]/\¬ aIj S M I (tr.take n)|.inr r=>RunR S M I tr r) (fun s hs=>?_) (s:=0) ⟨0,rfl,by omega,fun n hn=>by omega⟩
 ·obtain ⟨q,h1,h2⟩:=key
  have e:yB a b I tr=runOut (tr.length:Int) q:=by
   unfold yB
   rw [sa.val,aA,if_neg (by simp),sb.val,aA]
   unfold aAb
   rw [if_neg (by simp),vis_all hl ht,aA,if_neg (by simp),sa.prog,aA,sb.prog,aA]
   unfold aBX
   rw [show (⟨S.N,S.I,S.L,S.E⟩:bF)=S from rfl,show (⟨M.N,M.I,M.L,M.E⟩:bF)=M from rfl,uE S sa.fit,vD hS,aA,if_neg (by simp),uE M sb.fit,vD hM,aA]
   unfold aAa
   rw [if_neg (by simp),show (⟨S.N,S.I,S.L,S.E⟩:bF)=S from rfl,aGo hS (by omega),aA,if_neg (by simpa using hne),h1,aA]
   cases q<;>rfl
  rw [e]
  cases q with
  |inl _=>exact ⟨_,rfl,.inr (.inr ⟨rfl,h2⟩)⟩
  |inr r=>exact ⟨r,rfl,h2⟩
 ·obtain ⟨k,rfl,hk,hI'⟩:=hs
  by_cases hkl:k<=tr.length
  ·have hst:lC I tr S.N S.I S.L S.E M.N M.I M.L M.E (k:Int)=(if ((aft M (tr.take k)).length:Int) == 0 then (some (.inr (.inr (1,(k:Int),0)))) else
     (if decide (0 < ((unx S M I (aft S (tr.take k)) (aft M (tr.take k))).length:Int)) then (some (.inr (.inr (2,(k:Int),0)))) else (some (.inl (wr ((k:Int)+1)))))):=by
    unfold lC
    rw [if_pos (by simp;omega),aLe hkl,aA,show (⟨S.N,S.I,S.L,S.E⟩:bF)=S from rfl,show (⟨M.N,M.I,M.L,M.E⟩:bF)=M from rfl,
     aGo hM (by rw [List.length_take];omega),aA,aA,aGo hS (by rw [List.length_take];omega),aA,unx_eq hS sa.fit hM sb.fit hI (aEJ hS _).len (aEJ hM _).len,aA]
   by_cases h1:aft M (tr.take k)=[]
   ·right
    refine ⟨.inr (1,(k:Int),0),by show lC _ _ _ _ _ _ _ _ _ _ _=_;rw [hst,h1];rfl,.inl ⟨k,hkl,rfl,h1⟩⟩
   ·have hn0:¬ (((aft M (tr.take k)).length:Int) == 0)=true:=by simpa using h1
    cases hu:unx S M I (aft S (tr.take k)) (aft M (tr.take k)) with
    |nil=>
     left
     refine ⟨((k+1:Nat):Int),?_,⟨k+1,rfl,by omega,fun n hn=>?_⟩,by simp only [Int.toNat_natCast];omega⟩
     ·show lC _ _ _ _ _ _ _ _ _ _ _=_
      rw [hst,if_neg hn0,hu,if_neg (by simp),fX (by omega) (by omega)];rfl
     ·by_cases e:n=k
      ·subst e
       exact ⟨h1,fun hb=>hb.2.2 hu⟩
      ·exact hI' n (by omega)
    |cons x l=>
     right
     refine ⟨.inr (2,(k:Int),0),?_,.inr (.inl ⟨k,hkl,rfl,aLd hS hne k,h1,by rw [hu];simp⟩)⟩
     show lC _ _ _ _ _ _ _ _ _ _ _=_
     rw [hst,if_neg hn0,hu,if_pos (by simp)]
  ·right
   refine ⟨.inl (),?_,fun n hn=>hI' n (by omega)⟩
   show lC _ _ _ _ _ _ _ _ _ _ _=_
   unfold lC
   rw [if_neg (by simp;omega)]
theorem run_bad {tr:List aF} {r:Int × Int × Int} (hM:bM M) (h:RunR S M I tr r) (hb:aIj S M I tr) (hp:∀ tr' s q,tr=tr'++s::q->¬ aIj S M I tr'):r=(2,(tr.length:Int),0):=by
 have hp':∀ n,n < tr.length->¬ aIj S M I (tr.take n):=fun n hn=>hp (tr.take n) tr[n] (tr.drop (n+1)) (by rw [←List.drop_eq_getElem_cons hn,List.take_append_drop])
 rcases h with ⟨n,_,_,h3⟩|⟨n,h1,h2,h3⟩|⟨_,h2⟩
 ·exact absurd h3 (aLd hM hb.2.1 n)
 ·by_cases e:n=tr.length
  ·rw [h2,e]
  ·exact absurd h3 (hp' n (by omega))
 ·exact absurd (show aIj S M I (tr.take tr.length) by rw [List.take_length];exact hb) (h2 _ (Nat.le_refl _)).2
theorem run_self {tr:List aF} {r:Int × Int × Int} (hS:bM S) (h:RunR S S I tr r) (hne:aft S tr≠[]):r=(0,(tr.length:Int),0):=by
 rcases h with ⟨n,_,_,h3⟩|⟨n,h1,h2,h3⟩|⟨h1,_⟩
 ·exact absurd h3 (aLd hS hne n)
 ·exact absurd (aOs _) h3.2.2
 ·exact h1
theorem run_good {tr:List aF} {r:Int × Int × Int} (h:RunR S M I tr r) (hp:∀ n,n<=tr.length->¬ aIj S M I (tr.take n)):r.2.2=0/\r.1≠2:=by
 rcases h with ⟨n,_,h2,_⟩|⟨n,h1,h2,h3⟩|⟨h1,_⟩
 ·rw [h2];exact ⟨rfl,(by show (1:Int)≠2;decide)⟩
 ·exact absurd h3 (hp n h1)
 ·rw [h1];exact ⟨rfl,(by show (0:Int)≠2;decide)⟩
end
end Gv
namespace Gv
open Go
section
variable {a S:bF} {I:List aF}
theorem set_reach (hv:bM S) {X:List Int} (hX:X∈(eA S).1):∃ tr,(∀ s∈tr,s∈S.L.tail)/\aft S tr=X/\X≠[]:=by
 have h:=xpl_ok (key:=id) (P:=fun X=>∃ tr,(∀ s∈tr,s∈S.L.tail)/\aft S tr=X/\X≠[]) (nx:=iO S) (fun q hq x hx=>?_) 40 41 0 ([vQ S],[]) (by simp) (fun x hx=>?_)
 ·exact h.2 X hX
 ·obtain ⟨tr,h1,rfl,_⟩:=hq
  obtain ⟨j,hj1,hj2,hn,rfl⟩:=(aGm _ _ _).1 hx
  have l1:=hv.2.2.1.1
  have hj:j < S.L.length:=by omega
  refine ⟨tr++[S.L[j]],fun s hs=>?_,?_,hn⟩
  ·rcases List.mem_append.1 hs with hs|hs
   ·exact h1 s hs
   ·rw [List.mem_singleton] at hs
    subst hs
    have:S.L.tail[j - 1]?=some S.L[j]:=by
     rw [List.getElem?_tail,show j - 1+1=j by omega,List.getElem?_eq_getElem hj]
    exact List.mem_of_getElem? this
  ·rw [aIf,aMY hv (aEJ hv tr) hj]
 ·rw [List.mem_singleton] at hx
  subst hx
  exact ⟨[],by simp,rfl,fstS_ne hv⟩
theorem aOw (h:Aut S) (hf:cJ 999999999 S) {k:Int} (h0:0<=k) (h1:k < (iM S).N):∃ tr,(∀ s∈tr,s∈S.L.tail)/\jB (iM S) tr=k:=by
 have h1:k < ((eA S).1.length:Int):=h1
 have hl:k.toNat < (eA S).1.length:=by omega
 obtain ⟨tr,ht,he,hn⟩:=set_reach h.1 (List.getElem_mem hl)
 refine ⟨tr,ht,?_⟩
 rcases aJD h.1 h.2 (tr:=tr) (fun s hs=>(aAo h.1 hf (ht s hs)).2.1) with ⟨g1,_⟩|⟨j,g1,_,g3⟩
 ·exact absurd g1 (he ▸ hn)
 ·have hnd:=(aFi h.1).1
  rw [List.map_id] at hnd
  have:j=k.toNat:=by
   obtain ⟨hj,e1⟩:=List.getElem?_eq_some_iff.1 g1
   exact (List.getElem_inj hnd).1 (by rw [e1,←he])
  rw [g3];omega
structure TrOk (S:bF) (tr:List aF):Prop where
 lab:∀ s∈tr,s∈S.L.tail
 len:tr.length<=3000
 ne:aft S tr≠[]
theorem cover_one (h:Aut S) (hf:cJ 999999999 S) {e:Edge} (he:e∈(iM S).E):∃ r,nU (iM S) (iM S) e=some r/\TrOk S (r.1++[qY (iM S) e]):=by
 have hd:=h.det
 obtain ⟨J,r,hJ,h1,h2⟩:=first_E (c:=e) (fd:=fun p _=>p == e.F) hd hd rfl rfl (fun p q _ _=>rfl)
 refine ⟨aJe r,h1,?_⟩
 have hE:=nJ hd.1 he
 have hin:qY (iM S) e∈S.L.tail:=by
  have h0:e.B≠0:=by
   obtain ⟨k,hk,rfl⟩:=List.getElem_of_mem he
   exact (hd.2 k hk).1
  have ht:qY (iM S) e≠bU:=fun g=>h0 ((aMW hd.1 he).1 g)
  have hm:qY (iM S) e∈S.L:=aHt hd.1 he
  rw [(aEI h.1).1] at hm
  exact (List.mem_cons.1 hm).resolve_left ht
 have hov:∀ {tr:List aF},OvL S S tr->∀ s∈tr,s∈S.L.tail:=fun {tr} ho s hs=>by
  obtain ⟨h1,h2⟩:=ho s hs
  have hm:s∈S.L:=(List.mem_append.1 h1).elim id id
  rw [(aEI h.1).1] at hm
  exact (List.mem_cons.1 hm).resolve_left h2
 have hvo:∀ {tr:List aF},(∀ s∈tr,s∈S.L.tail)->OvL S S tr:=fun {tr} ho s hs=>⟨List.mem_append_left _ (List.mem_of_mem_tail (ho s hs)),(aAo h.1 hf (ho s hs)).2.1⟩
 have fin:∀ w:List aF,(∀ s∈w,s∈S.L.tail)->w.length<=2000->jB (iM S) w=e.F->TrOk S (w++[qY (iM S) e]):=fun w hw hl hr=>by
  have hall:∀ s∈w++[qY (iM S) e],s∈S.L.tail:=fun s hs=>by
   rcases List.mem_append.1 hs with hs|hs
   ·exact hw s hs
   ·rw [List.mem_singleton] at hs;exact hs ▸ hin
  refine ⟨hall,by rw [List.length_append,List.length_singleton];omega,fun hn=>?_⟩
  have:=(aMZ h.1 h.2 (fun s hs=>(aAo h.1 hf (hall s hs)).2.1)).2 hn
  rw [rY,hr,aOm hd he] at this
  have:=hE.2.1
  omega
 cases r with
 |inl u=>
  exfalso
  have hx:∀ tr,OvM J tr->bN (jB (iM S) tr) (jB (iM S) tr)\/(jB (iM S) tr == e.F)=false:=h2
  obtain ⟨tr,ht,hr⟩:=aOw h hf hE.1.1 (by have:=hE.1.2;omega)
  rcases hx tr ((jn_ov hJ).2 (hvo ht)) with g|g
  ·have:=g.1;have:=hE.1.1;omega
  ·rw [hr] at g;simp at g
 |inr x=>
  obtain ⟨w,v⟩:=x
  obtain ⟨_,k1,k2,_,k4,_⟩:v=true/\w.length<=2000/\OvM J w/\¬ bN (jB (iM S) w) (jB (iM S) w)/\(jB (iM S) w == e.F)=true/\_:=h2
  exact fin w (hov ((jn_ov hJ).1 k2)) k1 (beq_iff_eq.1 k4)
theorem aOy {l:List aF} (h:l.length<=3000):bQ l=some l:=aCn (by omega)
theorem begins_ok {x y:List aF} (hx:x.length<=1000000) (hy:y.length<=1000000):∃ b,aFR x y=some b:=by
 unfold aFR
 by_cases h:(y.length:Int) < (x.length:Int)
 ·rw [if_pos (by simpa using h),aLe (by omega),aA,aMd _ _ (by rw [List.length_take];omega),aA];exact ⟨_,rfl⟩
 ·rw [if_neg (by simpa using h)];exact ⟨_,rfl⟩
theorem aMf {γ:Type} {step:Int->Option (Int ⊕ (Unit ⊕ Int))} (xs:List γ) (hl:xs.length < 1000000) (c:γ->Option Bool) (hc:∀ x∈xs,∃ b,c x=some b)
  (hs:∀ v,step v=if decide (v < (xs.length:Int)) then (ob (ix xs v) fun e=>ob (c e) fun r=>if r then (some (.inr (.inr v))) else (some (.inl (wr (v+1))))) else (some (.inr (.inl ())))):∃ r,loop step 0=some r:=by
 have key:=pA (step:=step) (fun s=>∃ k:Nat,s=(k:Int)/\k<=xs.length) (fun s=>xs.length - s.toNat) (fun _=>True) (fun s hs'=>?_) (s:=0) ⟨0,rfl,by omega⟩
 ·obtain ⟨r,h,_⟩:=key
  exact ⟨r,h⟩
 ·obtain ⟨k,rfl,hk⟩:=hs'
  rw [hs]
  by_cases h:k < xs.length
  ·obtain ⟨b,hb⟩:=hc _ (List.getElem_mem h)
   rw [if_pos (cF h),cN h,aA,hb,aA]
   cases b with
   |true=>right;exact ⟨_,rfl,trivial⟩
   |false=>left;exact ⟨((k+1:Nat):Int),by rw [if_neg (by simp),bV h (by omega)],⟨k+1,rfl,by omega⟩,by simp only [Int.toNat_natCast];omega⟩
  ·obtain rfl:k=xs.length:=by omega
   right
   rw [if_neg (by simp)];exact ⟨_,rfl,trivial⟩
theorem reduce_ok {all:List (List aF)} (hl:all.length<=100000) (h:∀ x∈all,x.length<=3000):∃ out,wJ all=some out/\out.length<=all.length/\∀ x∈out,x∈all:=by
 have one:∀ (xs:List (List aF)) (p:List aF),xs.length<=100000->(∀ x∈xs,x.length<=3000)->∃ b,eN xs p=some b:=fun xs p hl h=>by
  obtain ⟨r,hr⟩:=aMf (step:=fun s=>gN xs p s) xs (by omega) (fun x=>uW x p) (fun x hx=>by
   unfold uW
   rw [aMd _ _ (by have:=h x hx;omega),aA];exact ⟨_,rfl⟩) (fun v=>rfl)
  unfold eN fC
  rw [hr,aA]
  cases r<;>exact ⟨_,rfl⟩
 have two:∀ (xs:List (List aF)) (p:List aF),xs.length<=100000->p.length<=3000->(∀ x∈xs,x.length<=3000)->∃ b,dW xs p=some b:=fun xs p hl hp h=>by
  obtain ⟨r,hr⟩:=aMf (step:=fun s=>fO xs p s) xs (by omega) (fun x=>uX x p) (fun x hx=>by
   obtain ⟨b,hb⟩:=begins_ok (x:=x) (y:=p) (by have:=h x hx;omega) (by omega)
   unfold uX
   rw [hb,aA];exact ⟨_,rfl⟩) (fun v=>rfl)
  unfold dW eO
  rw [hr,aA]
  cases r<;>exact ⟨_,rfl⟩
 have key:=jJ (step:=fun s:List (List aF) × Int=>mT all s.1 s.2) all.length (fun k (o:List (List aF))=>(o,(k:Int))) (fun k o=>o.length<=k/\∀ x∈o,x∈all) (fun r=>r.length<=all.length/\∀ x∈r,x∈all) (fun k o hk hI=>?_) (fun o hI=>⟨o,by simp only [mT,cB];rfl,hI⟩) all.length 0 [] (by omega) ⟨by simp,by simp⟩
 ·obtain ⟨r,h1,h2⟩:=key
  refine ⟨r,?_,h2⟩
  unfold wJ
  rw [show loop (fun s:List (List aF) × Int=>mT all s.1 s.2) ([],0)=some r from h1,aA];rfl
 ·obtain ⟨b1,e1⟩:=one (all.take k) all[k] (by rw [List.length_take];omega) (fun x hx=>h x (List.mem_of_mem_take hx))
  obtain ⟨b2,e2⟩:=two all all[k] hl (h _ (List.getElem_mem hk)) h
  have hw:=bV hk (show all.length < 4611686018427387904 by omega)
  have hj:∀ v,∃ o',mS o (k:Int) all[k] v=some (.inl (o',((k+1:Nat):Int)))/\(o'.length<=k+1/\∀ x∈o',x∈all):=fun v=>by
   unfold mS pP
   cases v with
   |true=>
    refine ⟨o++[all[k]],?_,by rw [List.length_append,List.length_singleton];omega,fun x hx=>?_⟩
    ·rw [if_pos rfl,aOy (h _ (List.getElem_mem hk)),aA,cX (by simp [kJ];omega),aA,hw]
    ·rcases List.mem_append.1 hx with hx|hx
     ·exact hI.2 x hx
     ·rw [List.mem_singleton] at hx;subst hx;exact List.getElem_mem hk
   |false=>exact ⟨o,by rw [if_neg (by simp),hw],by omega,hI.2⟩
  simp only [mT,cF hk,if_pos,cN hk,aA,aLe (show k<=all.length by omega),e1,e2]
  cases b1 with
  |true=>
   obtain ⟨o',g1,g2⟩:=hj false
   exact ⟨o',by simpa using g1,g2⟩
  |false=>
   obtain ⟨o',g1,g2⟩:=hj (!b2)
   exact ⟨o',by simpa using g1,g2⟩
theorem cover_ok (sa:Sus a I S) (h:Aut S):∃ out,rJ a I=some (out,0)/\out.length<=300/\∀ x∈out,TrOk S x:=by
 unfold rJ
 rw [aIi sa,aA,vD h,if_pos rfl,if_neg (by simp)]
 have h300:=h.det.1.2.2.2.1
 have key:=jJ (step:=fun s:List (List aF) × Int=>kV (iM S,(eA S).1,0) s.1 s.2) (iM S).E.length (fun k (o:List (List aF))=>(o,(k:Int))) (fun k o=>o.length=k/\∀ x∈o,TrOk S x) (fun r=>r.length=(iM S).E.length/\∀ x∈r,TrOk S x) (fun k o hk hI=>?_) (fun o hI=>⟨o,by simp only [kV,cB];rfl,hI⟩) (iM S).E.length 0 [] (by omega) ⟨by simp,by simp⟩
 ·obtain ⟨r,h1,h2,h3⟩:=key
  obtain ⟨out,g1,gl,g2⟩:=reduce_ok (all:=r) (by omega) (fun x hx=>(h3 x hx).len)
  refine ⟨out,?_,by omega,fun x hx=>h3 x (g2 x hx)⟩
  rw [show loop (fun s:List (List aF) × Int=>kV (iM S,(eA S).1,0) s.1 s.2) ([],0)=some r from h1,aA]
  unfold qT
  rw [g1,aA]
 ·have he:(iM S).E[k]∈(iM S).E:=List.getElem_mem hk
  obtain ⟨r,g1,g2⟩:=cover_one h sa.fit he
  have hr:=g2.len
  rw [List.length_append,List.length_singleton] at hr
  refine ⟨o++[r.1++[qY (iM S) (iM S).E[k]]],?_,by rw [List.length_append,List.length_singleton,hI.1],fun x hx=>?_⟩
  ·simp only [kV,cF hk,if_pos,cN hk,aA,g1,aAm (nJ h.det.1 he),aOy (show r.1.length<=3000 by omega),qU]
   rw [cX (by simp [kJ];omega),aA,cX (by simp [kJ];omega),aA,bV hk (by omega)]
  ·rcases List.mem_append.1 hx with hx|hx
   ·exact hI.2 x hx
   ·rw [List.mem_singleton] at hx;subst hx;exact g2
end
end Gv
namespace Gv
open Go
theorem pair28_ok (c:aF) {s1:Int} (s2:Int) (h:0<=s1/\s1<=1000000):∃ a b s1' s2',vY c s1 s2=some (a,b,s1',s2')/\cJ 500 a/\cJ 500 b/\s1<=s1'/\s1'<=s1+2000:=by
 have h3:∀ (a:bF × Int × Int) (t:bF) (x y:Int) (F:List Edge),cJ 500 a.1->bM t->cJ 500 t->F.Sublist t.E->s1<=x->x<=s1+1500->∃ p q s1' s2',mP c a t x y F=some (p,q,s1',s2')/\cJ 500 p/\cJ 500 q/\s1<=s1'/\s1'<=s1+2000:=by
  intro a t x y F ha ht hf hF k1 k2
  have hFl:F.length<=300:=Nat.le_trans hF.length_le ht.2.2.2.1
  obtain ⟨b,x',y',e,i1,i2⟩:=aFj c y (s1:=x) (n:=2) (by omega) (by omega)
  unfold mP
  rw [e,aA]
  cases b with
  |true=>
   have h40:=ht.1
   have l1:=ht.2.2.1.1
   obtain ⟨v1,x1,y1,e1,g1,i3,i4⟩:=jK c y' (s1:=x') (n:=t.N) (by omega) (by omega)
   obtain ⟨v2,x2,y2,e2,g2,i5,i6⟩:=jK c y1 (s1:=x1) (n:=(t.L.length:Int)) (by omega) (by omega)
   obtain ⟨v3,x3,y3,e3,g3,i7,i8⟩:=jK c y2 (s1:=x2) (n:=t.N) (by omega) (by omega)
   rw [if_pos rfl]
   simp only [e1,aA,e2,e3]
   unfold aAy
   obtain ⟨l',d1,_,_,d4⟩:=aLT F ⟨v1,v2,v3⟩ (by omega) (List.Pairwise.sublist hF (aKK ht))
   rw [d1,aA]
   exact ⟨_,_,_,_,rfl,ha,⟨hf.1,hf.2.1,by show l'.length<=_;omega⟩,by omega,by omega⟩
  |false=>
   rw [if_neg (by simp)]
   exact ⟨_,_,_,_,rfl,ha,⟨hf.1,hf.2.1,by show F.length<=_;omega⟩,by show s1<=x';omega,by show x'<=_;omega⟩
 have h4:∀ (a:bF × Int × Int) (t:bF) (x y:Int) (v:Bool),cJ 500 a.1->bM t->cJ 500 t->s1<=x->x<=s1+1400->∃ p q s1' s2',mQ c a t x y (v&&decide (0 < (t.E.length:Int)))=some (p,q,s1',s2')/\cJ 500 p/\cJ 500 q/\s1<=s1'/\s1'<=s1+2000:=by
  intro a t x y v ha ht hf k1 k2
  unfold mQ
  by_cases hb:(v&&decide (0 < (t.E.length:Int)))=true
  ·rw [if_pos hb]
   rw [Bool.and_eq_true,decide_eq_true_iff] at hb
   have hl:=ht.2.2.2.1
   obtain ⟨v,x',y',e,gv,i1,i2⟩:=jK c y (s1:=x) (n:=(t.E.length:Int)) (by omega) (by omega)
   obtain ⟨r1,r2,F,d1,d2,d3,d4⟩:=del_eq (E:=t.E) (by omega) gv
   simp only [e,aA,d1,d2,d3]
   exact h3 a t x' y' F ha ht hf d4 (by omega) (by omega)
  ·rw [if_neg hb]
   exact h3 a t x y t.E ha ht hf (List.Sublist.refl _) k1 (by omega)
 have h5:∀ (a:bF × Int × Int) (x y:Int) (v:Bool),cJ 500 a.1->(v=false->bM a.1)->s1<=x->x<=s1+600->∃ p q s1' s2',mR c a x y v=some (p,q,s1',s2')/\cJ 500 p/\cJ 500 q/\s1<=s1'/\s1'<=s1+2000:=by
  intro a x y v ha hv k1 k2
  unfold mR
  cases v with
  |true=>
   obtain ⟨u,x',y',e,hu,i1,i2⟩:=aMe c y (s1:=x) (by omega)
   rw [if_pos rfl,e,aA]
   exact ⟨_,_,_,_,rfl,ha,hu,by show s1<=x';omega,by show x'<=_;omega⟩
  |false=>
   obtain ⟨b,x',y',e,i1,i2⟩:=aFj c y (s1:=x) (n:=2) (by omega) (by omega)
   rw [if_neg (by simp),own_fit ha (by decide),aA,e,aA]
   cases b with
   |true=>
    rw [if_pos rfl]
    have:=h4 a a.1 x' y' true ha (hv rfl) ha (by omega) (by omega)
    rw [Bool.true_and] at this
    exact this
   |false=>
    rw [if_neg (by simp)]
    have:=h4 a a.1 x' y' false ha (hv rfl) ha (by omega) (by omega)
    rw [Bool.false_and] at this
    exact this
 obtain ⟨t,x,y,e,ht,i1,i2⟩:=aMe c s2 (s1:=s1) (by omega)
 unfold vY
 rw [e,aA,aHY t (ht.up (by decide)),aA]
 by_cases hv:bM t
 ·obtain ⟨b,x',y',e',i3,i4⟩:=aFj c y (s1:=x) (n:=5) (by omega) (by omega)
  rw [vD hv,if_neg (by simp)]
  simp only [e',aA]
  exact h5 (t,x,y) x' y' b ht (fun _=>hv) (by omega) (by omega)
 ·rw [pV hv,if_pos (by simp)]
  exact h5 (t,x,y) x y true ht (fun h=>by cases h) (by omega) (by omega)
def DrI (I:List aF):Prop:=I.length<=5/\∀ s∈I,s.length<=10
theorem aOz (c:aF) {s1:Int} (s2:Int) (h:0<=s1/\s1<=1000000):∃ I s1' s2',rF c s1 s2=some (I,s1',s2')/\DrI I/\s1<=s1'/\s1'<=s1+100:=by
 have key:=pA (step:=fun s:Int × Int × List aF × Int=>nA c s.1 s.2.1 s.2.2.1 s.2.2.2) (fun s=>s1<=s.1/\s.1<=s1+2 * s.2.2.2/\0<=s.2.2.2/\s.2.2.2<=4/\(s.2.2.1.length:Int)<=s.2.2.2/\∀ x∈s.2.2.1,x.length<=10) (fun s=>(4 - s.2.2.2).toNat)
  (fun r=>s1<=r.1/\r.1<=s1+8/\r.2.2.length<=4/\∀ x∈r.2.2,x.length<=10) (fun s hs=>?_) (s:=(s1,s2,[],0)) (by simp)
 ·obtain ⟨⟨x,y,o⟩,h1,h2,h3,h4,h5⟩:=key
  have h1':loop (fun s:Int × Int × List aF × Int=>nA c s.1 s.2.1 s.2.2.1 s.2.2.2) (s1,s2,([]:List aF),0)=some (x,y,o):=h1
  unfold rF
  rw [h1',aA]
  simp only at h2 h3 h4 h5 ⊢
  obtain ⟨b,x',y',e,i1,i2⟩:=aFj c y (s1:=x) (n:=20) (by omega) (by omega)
  unfold qK
  rw [e,aA]
  cases b with
  |true=>
   obtain ⟨v,x2,y2,e2,hv,i3,i4⟩:=text_ok c y' (s1:=x') (by omega) (l:=[[100,101,108,116,97],[116,97,117],[97],[65],[122,122]]) (by simp)
   rw [if_pos rfl]
   simp only [e2,aA]
   rw [cX (by simp [kJ];omega),aA]
   refine ⟨_,_,_,rfl,⟨by rw [List.length_append,List.length_singleton];omega,fun s hs=>?_⟩,by omega,by omega⟩
   rcases List.mem_append.1 hs with hs|hs
   ·exact h5 s hs
   ·rw [List.mem_singleton] at hs
    subst hs
    have:∀ s∈([[100,101,108,116,97],[116,97,117],[97],[65],[122,122]]:List aF),s.length<=10:=by decide
    exact this _ hv
  |false=>
   rw [if_neg (by simp)]
   exact ⟨_,_,_,rfl,⟨by omega,h5⟩,by show s1<=x';omega,by show x'<=_;omega⟩
 ·obtain ⟨x,y,o,k⟩:=s
  obtain ⟨k1,k2,k3,k4,k5,k6⟩:=hs
  simp only at k1 k2 k3 k4 k5 k6 ⊢
  unfold nA
  by_cases hk:k < 4
  ·left
   obtain ⟨b,x',y',e,i1,i2⟩:=aFj c y (s1:=x) (n:=2) (by omega) (by omega)
   have hw:wr (k+1)=k+1:=fX (by omega) (by omega)
   rw [if_pos (by simpa using hk),e,aA]
   cases b with
   |true=>
    obtain ⟨z,hz,hz2⟩:∃ z,ix ([[97],[98],[103,101,116],[112,117,116]]:List aF) k=some z/\z.length<=10:=by
     have:k=0\/k=1\/k=2\/k=3:=by omega
     rcases this with rfl|rfl|rfl|rfl
     ·exact ⟨_,rfl,by decide⟩
     ·exact ⟨_,rfl,by decide⟩
     ·exact ⟨_,rfl,by decide⟩
     ·exact ⟨_,rfl,by decide⟩
    rw [if_pos rfl,hz,aA,cX (by simp [kJ];omega),aA]
    unfold kQ
    rw [hw]
    refine ⟨(x',y',o++[z],k+1),rfl,⟨(by show s1<=x';omega),(by show x'<=s1+2 * (k+1);omega),(by show 0<=k+1;omega),(by show k+1<=4;omega),(by show ((o++[z]).length:Int)<=k+1;rw [List.length_append,List.length_singleton];omega),fun s hs=>?_⟩,(by show (4 - (k+1)).toNat < (4 - k).toNat;omega)⟩
    rcases List.mem_append.1 hs with hs|hs
    ·exact k6 s hs
    ·rw [List.mem_singleton] at hs
     subst hs;exact hz2
   |false=>
    rw [if_neg (by simp)]
    unfold kQ
    rw [hw]
    exact ⟨(x',y',o,k+1),rfl,⟨(by show s1<=x';omega),(by show x'<=s1+2 * (k+1);omega),(by show 0<=k+1;omega),(by show k+1<=4;omega),(by show (o.length:Int)<=k+1;omega),k6⟩,(by show (4 - (k+1)).toNat < (4 - k).toNat;omega)⟩
  ·right
   rw [if_neg (by simpa using hk)]
   exact ⟨(x,y,o),rfl,(by show s1<=x;omega),(by show x<=s1+8;omega),(by show o.length<=4;omega),k6⟩
end Gv
namespace Gv
open Go
theorem aNg {t:bF} {I:List aF} (ht:cJ 500 t) (hI:DrI I):∃ b,sK t I=some b/\(b=true->aHv t I):=by
 obtain ⟨hl,hsz⟩:=hI
 unfold sK
 rw [aHY t (ht.up (by decide)),aA]
 by_cases hv:bM t
 ·rw [vD hv,if_neg (by simp),aGV I (by omega),aA]
  unfold aAx
  by_cases ha:I.all vH=true
  ·rw [ha,if_neg (by simp)]
   have ha':=List.all_eq_true.1 ha
   have k1:=aEA (step:=fun s=>xH I s) I.length 0 (fun k=>∀ hk:k < I.length,I[k]≠dlt/\(1<=k->vJ (I[k - 1]'(by omega)) I[k]=true)) (.inr false) (.inl ()) (by omega) (fun k _ hk=>?_) (by simp only [xH,cB];rfl)
   ·rw [show loop (fun s=>xH I s) 0=_ from k1,aA]
    by_cases hs:∀ k,0<=k->k < I.length->∀ hk:k < I.length,I[k]≠dlt/\(1<=k->vJ (I[k - 1]'(by omega)) I[k]=true)
    ·rw [if_pos (vD hs)]
     show ∃ b,xG t=some b/\_
     unfold xG
     have k2:=wM (step:=fun s=>xF t s) t.L (fun s=>!(nmL s == dlt)) (.inr false) (.inl ()) (fun k x hk hx=>by
      obtain ⟨_,rfl⟩:=mH hx
      have:=ht.2.1 _ (List.getElem_mem hk)
      have l12:=hv.2.2.1.2.1
      simp only [xF,cF hk,if_pos,hx,aA,aMV _ (show (t.L[k]).length < 4611686018427387904 by omega),bV hk (show t.L.length < 4611686018427387904 by omega)]
      show (if (nmL t.L[k] == dlt)=true then _ else _)=_
      cases nmL t.L[k] == dlt<;>rfl) (by simp only [xF,cB];rfl)
     rw [k2,aA]
     by_cases hn:(t.L.all fun s=>!(nmL s == dlt))=true
     ·rw [if_pos hn]
      refine ⟨true,rfl,fun _=>⟨hv,ht,⟨by omega,fun hm=>?_⟩,fun s hs e=>?_,ha',fun k h1 hk=>(hs k (by omega) hk hk).2 h1,fun hm=>?_⟩⟩
      ·have:=ha' _ hm
       exact absurd this (by decide)
      ·have:=List.all_eq_true.1 hn s hs
       rw [e] at this
       simp at this
      ·obtain ⟨k,hk,e⟩:=List.getElem_of_mem hm
       exact (hs k (by omega) hk hk).1 e
     ·rw [if_neg hn]
      exact ⟨false,rfl,fun h=>by cases h⟩
    ·rw [if_neg (by rw [aGg];exact hs)]
     exact ⟨false,rfl,fun h=>by cases h⟩
   ·have hw:=bV hk (show I.length < 4611686018427387904 by omega)
    simp only [xH,cF hk,if_pos,cN hk,aA,aCN,hw]
    by_cases hd:I[k]=dlt
    ·have:(I[k] == ([100,101,108,116,97]:aF))=true:=by rw [beq_iff_eq];exact hd
     rw [this,if_pos rfl,pV (fun h=>(h hk).1 hd)];rfl
    ·have:(I[k] == ([100,101,108,116,97]:aF))=false:=by rw [beq_eq_false_iff_ne];exact hd
     rw [this,if_neg (by simp)]
     by_cases h0:k=0
     ·subst h0
      rw [if_neg (by simp),vD (fun _=>⟨hd,fun h=>absurd h (by decide)⟩)];rfl
     ·have hk1:wr ((k:Int) - 1)=((k - 1:Nat):Int):=by rw [fX (by omega) (by omega)];omega
      rw [if_pos (by simp;omega),hk1,cN (by omega),aA]
      by_cases hlt:vJ (I[k - 1]'(by omega)) I[k]=true
      ·rw [hlt,vD (fun _=>⟨hd,fun _=>hlt⟩)];rfl
      ·rw [pV (fun h=>hlt ((h hk).2 (by omega)))]
       rw [Bool.not_eq_true] at hlt
       rw [hlt];rfl
  ·rw [Bool.not_eq_true] at ha
   rw [ha,if_pos (by rfl)]
   exact ⟨false,rfl,fun h=>by cases h⟩
 ·rw [pV hv,if_pos (by rfl)]
  exact ⟨false,rfl,fun h=>by cases h⟩
structure TestOk (a b:bF) (I:List aF):Prop where
 fa:aHv a I
 fb:aHv b I
 sz:∀ s∈I,s.length < 1000000000
 va:sK a I=some true
 vb:sK b I=some true
theorem aGC:aHv (⟨1,0,[[116,97,117],[97]],[⟨0,1,0⟩]⟩:bF) []:=by
 refine ⟨⟨by decide,by decide,?_,aKR (by decide) (by simp [SE]) fun e he=>?_⟩,⟨by decide,by decide,by decide⟩,⟨by decide,by simp⟩,by decide,by simp,fun k _ hk=>by simp at hk,by simp⟩
 ·refine ⟨by decide,by decide,fun _=>rfl,fun k h1 hk=>?_⟩
  have:k=1:=by
   have:k < 2:=hk
   omega
  subst this
  exact ⟨by show mC ([97]:aF)=true;decide,by show ([97]:aF)≠bU;decide,fun h=>by omega⟩
 ·rw [List.mem_singleton] at he
  subst he
  unfold sE
  decide
theorem dflt_is:sK (⟨1,0,[[116,97,117],[97]],[⟨0,1,0⟩]⟩:bF) []=some true:=by
 obtain ⟨b,h1,_⟩:=aNg (t:=(⟨1,0,[[116,97,117],[97]],[⟨0,1,0⟩]⟩:bF)) (I:=[]) aGC.hf ⟨by decide,by simp⟩
 have h:=h1
 unfold sK at h
 rw [aHY _ (aGC.hf.up (by decide)),aA,vD aGC.hv,if_neg (by simp),aGV [] (by decide),aA] at h
 rw [h1]
 unfold aAx at h
 rw [if_neg (by simp)] at h
 have k1:loop (fun s=>xH ([]:List aF) s) 0=some (.inl ()):=by rw [cR];rfl
 rw [k1,aA] at h
 have k2:xG (⟨1,0,[[116,97,117],[97]],[⟨0,1,0⟩]⟩:bF)=some true:=by
  unfold xG
  have hs:=aGC.hf
  have:=wM (step:=fun s=>xF (⟨1,0,[[116,97,117],[97]],[⟨0,1,0⟩]⟩:bF) s) ([[116,97,117],[97]]:List aF) (fun s=>!(nmL s == dlt)) (.inr false) (.inl ()) (fun k x hk hx=>by
   obtain ⟨_,rfl⟩:=mH hx
   have hm:=List.getElem_mem hk
   have h9:(([[116,97,117],[97]]:List aF)[k]).length < 4611686018427387904:=Nat.lt_of_le_of_lt (hs.2.1 _ hm) (by decide)
   simp only [xF,cF hk,if_pos,hx,aA,aMV _ h9,bV hk (show ([[116,97,117],[97]]:List aF).length < 4611686018427387904 by decide)]
   show (if (nmL ([[116,97,117],[97]]:List aF)[k] == dlt)=true then _ else _)=_
   cases nmL ([[116,97,117],[97]]:List aF)[k] == dlt<;>rfl) (by simp only [xF];rfl)
  rw [this,if_pos (by decide),aA];rfl
 exact h.symm.trans k2
theorem tested_ok (c:aF):∃ a b I,aBe c=some (a,b,I)/\TestOk a b I:=by
 have key:=pA (step:=fun s:Int × Int × Int=>tU c s.1 s.2.1 s.2.2) (fun s=>0<=s.1/\s.1<=3000 * s.2.2/\0<=s.2.2/\s.2.2<=6) (fun s=>(6 - s.2.2).toNat)
  (fun r=>match r with|.inl _=>True|.inr q=>TestOk q.1 q.2.1 q.2.2) (fun s hs=>?_) (s:=(0,0,0)) (by simp)
 ·obtain ⟨r,h1,h2⟩:=key
  have h1':loop (fun s:Int × Int × Int=>tU c s.1 s.2.1 s.2.2) (0,0,0)=some r:=h1
  unfold aBe aIp
  rw [aA,h1',aA]
  cases r with
  |inr q=>exact ⟨q.1,q.2.1,q.2.2,rfl,h2⟩
  |inl _=>exact ⟨_,_,_,rfl,aGC,aGC,by simp,dflt_is,dflt_is⟩
 ·obtain ⟨x,y,k⟩:=s
  obtain ⟨k1,k2,k3,k4⟩:=hs
  simp only at k1 k2 k3 k4 ⊢
  unfold tU
  by_cases hk:k < 6
  ·obtain ⟨a,b,x',y',e,ha,hb,i1,i2⟩:=pair28_ok c y (s1:=x) (by omega)
   obtain ⟨I,x2,y2,e2,hI,i3,i4⟩:=aOz c y' (s1:=x') (by omega)
   obtain ⟨va,ea,ga⟩:=aNg ha hI
   obtain ⟨vb,eb,gb⟩:=aNg hb hI
   rw [if_pos (by simpa using hk),e,aA]
   simp only [e2,aA,ea,eb]
   unfold tT
   have hw:wr (k+1)=k+1:=fX (by omega) (by omega)
   have go:(∃ s':Int × Int × Int,(some (.inl (x2,y2,wr (k+1))):Option ((Int × Int × Int) ⊕ (Unit ⊕ (bF × bF × (List aF)))))=some (.inl s')/\(0<=s'.1/\s'.1<=3000 * s'.2.2/\0<=s'.2.2/\s'.2.2<=6)/\(6 - s'.2.2).toNat < (6 - k).toNat):=by
    rw [hw]
    exact ⟨(x2,y2,k+1),rfl,⟨(by show 0<=x2;omega),(by show x2<=3000 * (k+1);omega),(by show 0<=k+1;omega),(by show k+1<=6;omega)⟩,(by show (6 - (k+1)).toNat < (6 - k).toNat;omega)⟩
   cases va with
   |false=>left;rw [if_neg (by simp),if_neg (by simp)];exact go
   |true=>
    rw [if_pos rfl]
    cases vb with
    |false=>left;rw [if_neg (by simp)];exact go
    |true=>
     right
     rw [if_pos rfl]
     exact ⟨_,rfl,ga rfl,gb rfl,fun s hs=>by have:=hI.2 s hs;omega,ea,eb⟩
  ·right
   rw [if_neg (by simpa using hk)]
   exact ⟨_,rfl,trivial⟩
section
variable {a b S M:bF} {I:List aF}
theorem TrOk.vis {tr:List aF} (h:TrOk S tr) (hv:bM S) (hf:cJ 999999999 S):∀ s∈tr,VisL s:=fun s hs=>aAo hv hf (h.lab s hs)
theorem tests_ok (sa:Sus a I S) (hS:Aut S):∃ l,aCi a I 2=some l/\(l.2≠0->l.2=5)/\(l.2=0->0 < l.1.length/\l.1.length<=200/\∀ tr∈l.1,TrOk S tr):=by
 obtain ⟨all,h1,h2,_,h3⟩:=aOn hS.1 sa.fit hS.2 (n:=2) (by omega)
 have e:aCi a I 2=some (if 200 < all.length then ([],5) else (all.map (·.trace),0)):=by
  unfold aCi
  rw [sa.val,aA,if_neg (by simp),aCk,aA,if_neg (by decide),susL_eq sa,vD hS.1,aA,if_pos rfl,if_neg (by simp)]
  have h3':aAC S 2=some (if 200 < all.length then ([],5) else (all.map (·.trace),0)):=h3
  rw [h3',aA]
 rw [e]
 by_cases hl:200 < all.length
 ·rw [if_pos hl]
  exact ⟨_,rfl,fun _=>rfl,fun h=>absurd h (by decide)⟩
 ·rw [if_neg hl]
  refine ⟨_,rfl,fun h=>absurd rfl h,fun _=>⟨by simp only [List.length_map];omega,by simp only [List.length_map];omega,fun tr htr=>?_⟩⟩
  obtain ⟨e,he,rfl⟩:=List.mem_map.1 htr
  have hE:=h2 e he
  have hlab:∀ s∈e.trace,s∈S.L.tail:=hE.lab
  refine ⟨hlab,by have:=hE.len;omega,fun hn=>?_⟩
  have:=(aMZ hS.1 hS.2 (fun s hs=>(aAo hS.1 sa.fit (hlab s hs)).2.1)).2 hn
  rw [←hE.run] at this
  have:=hE.pos
  omega
theorem tests_two (h:TestOk a b I):(ob (kU a b I) fun r54=>ob (kU a a I) fun r63=>
   if (r54.2.2.2 != 0) then (mF (a,b,I) r54 r63 true) else (mF (a,b,I) r54 r63 (r63.2.2.2 != 0)))=some true:=by
 obtain ⟨S,sa⟩:=sus_ex h.fa h.sz
 obtain ⟨M,sb⟩:=sus_ex h.fb h.sz
 have hI:=h.fa.inp
 by_cases hS:Aut S
 ·obtain ⟨r2,f1,f2,f3⟩:=conf_self hI sa hS
  by_cases hM:Aut M
  ·obtain ⟨r,e1,e2⟩:=conf_ok hI sa sb hS hM
   rw [e1,aA,f1,aA,e2.code,if_neg (by simp),f2]
   unfold mF
   rw [if_neg (by simp),f3,if_neg (by simp)]
   cases hr:r.1 with
   |false=>
    obtain ⟨g1,g2,g3,g4,g5⟩:=e2.no hr
    rw [if_pos (by rfl)]
    obtain ⟨q,q1,q2⟩:=aLf hI sa sb hS.1 hM.1 (tr:=r.2.1) (by omega) (g1.vis hS.1 hM.1 sa.fit sb.fit) g3.1
    rw [q1,aA,run_bad hM.1 q2 g3 g5,if_pos (by rfl),if_pos (by rfl),if_pos (by simp)]
    unfold uY
    rw [beq_eq_false_iff_ne.2 g4];rfl
   |true=>
    rw [if_neg (by simp)]
    obtain ⟨l,l1,l2,l3⟩:=tests_ok sa hS
    rw [l1,aA]
    by_cases h0:l.2=0
    ·obtain ⟨m1,m2,m3⟩:=l3 h0
     rw [if_neg (by simp [h0])]
     have k1:=wM (step:=fun s=>aAh (a,b,I) l s) l.1 (fun _=>true) (.inr false) (.inl ()) (fun k x hk hx=>by
      obtain ⟨_,rfl⟩:=mH hx
      have ht:=m3 _ (List.getElem_mem hk)
      have htl:=ht.len
      obtain ⟨q,q1,q2⟩:=aLf hI sa sb hS.1 hM.1 (tr:=l.1[k]) (by omega) (ht.vis hS.1 sa.fit) ht.ne
      have q3:=run_good q2 (fun n hn=>e2.yes hr _ (fun s hs=>by
       have hs':=ht.lab s (List.mem_of_mem_take hs)
       exact ⟨List.mem_append_left _ (List.mem_of_mem_tail hs'),(aAo hS.1 sa.fit hs').2.1⟩))
      simp only [aAh,cF hk,if_pos,hx,aA,q1,aAg,q3.1,bV hk (show l.1.length < 4611686018427387904 by omega)]
      rw [if_neg (by simp),beq_eq_false_iff_ne.2 q3.2];rfl) (by simp only [aAh,cB];rfl)
     rw [if_pos (by simp)] at k1
     rw [k1,aA]
     show aAf (a,b,I) l=some true
     obtain ⟨out,o1,hol,o2⟩:=cover_ok sa hS
     unfold aAf
     rw [o1,aA]
     have k2:=wM (step:=fun s=>aAe (a,b,I) (out,0) s) out (fun _=>true) (.inr false) (.inl ()) (fun k x hk hx=>by
      obtain ⟨_,rfl⟩:=mH hx
      have ht:=o2 _ (List.getElem_mem hk)
      have htl:=ht.len
      obtain ⟨q,q1,q2⟩:=aLf hI sa sa hS.1 hS.1 (tr:=out[k]) (by omega) (ht.vis hS.1 sa.fit) ht.ne
      simp only [aAe,cF hk,if_pos,hx,aA,q1,run_self hS.1 q2 ht.ne,uZ,bV hk (show out.length < 4611686018427387904 by omega)]
      rw [if_neg (by simp),if_neg (by simp),bne_self_eq_false];rfl) (by simp only [aAe,cB];rfl)
     rw [if_pos (by simp)] at k2
     rw [k2,aA]
     show aAd l (out,0)=some true
     unfold aAd aAc
     rw [if_pos (by rfl)]
     congr 1
     simp;omega
    ·rw [if_pos (by simpa using h0),l2 h0];rfl
  ·rw [aIK sa sb (fun g=>hM g.2),aA,f1,aA,if_pos (by rfl)]
   unfold mF
   rw [if_pos rfl,aOv sa sb h.va h.vb (fun g=>hM g.2),aA];rfl
 ·rw [aIK sa sb (fun g=>hS g.1),aA,aIK sa sa (fun g=>hS g.1),aA,if_pos (by rfl)]
  unfold mF
  rw [if_pos rfl,aOv sa sb h.va h.vb (fun g=>hS g.1),aA];rfl
end
theorem lawTests (cs:aF):aGx cs=some true:=by
 unfold aGx
 obtain ⟨v,hv⟩:∃ v,aIo cs=some v:=⟨_,rfl⟩
 rw [hv,aA]
 cases v with
 |true=>rfl
 |false=>
  rw [if_neg (by simp)]
  obtain ⟨a,b,I,e,h⟩:=tested_ok cs
  rw [e,aA]
  exact tests_two h
end Gv
