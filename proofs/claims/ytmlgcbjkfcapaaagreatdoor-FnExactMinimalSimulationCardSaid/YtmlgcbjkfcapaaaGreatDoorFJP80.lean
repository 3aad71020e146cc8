/- Greatest simulations by rounds. No program in sight. -/
import Derived.Test.YtmlgcbjkfcapaaaGreatDoorFJP62
import Derived.Test.YtmlgcbjkfcapaaaGreatDoorFJP50
import Derived.Test.YtmlgcbjkfcapaaaGreatDoorFJP20
import Derived.Test.YtmlgcbjkfcapaaaGreatDoorFJP12
set_option linter.all false
namespace Gv
open Go
def inT (t:cH) (s:Int):Prop:=0≤s∧s < t.N
def sR (t:cH) (S:Int→Int→Bool) (x y:Int):Bool:=S x y&&t.E.all fun e=>!(e.F == x)||t.E.any fun f=>f.F == y&&f.B == e.B&&S e.To f.To
def sN (t:cH):Nat→Int→Int→Bool
 |0=>fun _ _=>true
 |n+1=>sR t (sN t n)
section
variable {t:cH}
theorem aDX {S:Int→Int→Bool} {x y:Int}:sR t S x y=true↔S x y=true∧∀ e∈t.E,e.F=x→∃ f∈t.E,f.F=y∧f.B=e.B∧S e.To f.To=true:=by
 unfold sR
 rw [Bool.and_eq_true,List.all_eq_true]
 refine and_congr Iff.rfl ⟨fun h e he hx=>?_,fun h e he=>?_⟩
 ·have:=h e he
  rw [hx] at this
  simp only [beq_self_eq_true,Bool.not_true,Bool.false_or,List.any_eq_true,Bool.and_eq_true,beq_iff_eq] at this
  obtain ⟨f,hf,⟨h1,h2⟩,h3⟩:=this
  exact ⟨f,hf,h1,h2,h3⟩
 ·by_cases hx:e.F=x
  ·obtain ⟨f,hf,h1,h2,h3⟩:=h e he hx
   rw [Bool.or_eq_true,List.any_eq_true]
   right
   exact ⟨f,hf,by simp [h1,h2,h3]⟩
  ·simp [hx]
theorem aIr:∀ (n:Nat) (x:Int),sN t n x x=true
 |0,_=>rfl
 |n+1,x=>aDX.2 ⟨aIr n x,fun e he hx=>⟨e,he,hx,rfl,aIr n _⟩⟩
theorem aDY:∀ (n:Nat) {x y z:Int},sN t n x y=true→sN t n y z=true→sN t n x z=true
 |0,_,_,_,_,_=>rfl
 |n+1,x,y,z,h1,h2=>by
  obtain ⟨a1,b1⟩:=aDX.1 h1
  obtain ⟨a2,b2⟩:=aDX.1 h2
  refine aDX.2 ⟨aDY n a1 a2,fun e he hx=>?_⟩
  obtain ⟨f,hf,c1,c2,c3⟩:=b1 e he hx
  obtain ⟨g,hg,d1,d2,d3⟩:=b2 f hf c1
  exact ⟨g,hg,d1,d2.trans c2,aDY n c3 d3⟩
theorem sN_le {n:Nat} {x y:Int} (h:sN t (n+1) x y=true):sN t n x y=true:=(aDX.1 h).1
def prs (t:cH):List (Int × Int):=(List.range t.N.toNat).flatMap fun x:Nat=>(List.range t.N.toNat).map fun y:Nat=>((x:Int),(y:Int))
theorem prs_mem {p:Int × Int}:p∈prs t↔inT t p.1∧inT t p.2:=by
 obtain ⟨a,b⟩:=p
 unfold prs inT
 simp only [List.mem_flatMap,List.mem_map,List.mem_range,Prod.mk.injEq]
 constructor
 ·rintro ⟨x,hx,y,hy,rfl,rfl⟩
  omega
 ·rintro ⟨⟨h1,h2⟩,h3,h4⟩
  exact ⟨a.toNat,by omega,b.toNat,by omega,by omega,by omega⟩
def vQ (t:cH) (n:Nat):List (Int × Int):=(prs t).filter fun p=>sN t n p.1 p.2
def stab (t:cH) (n:Nat):Prop:=∀ x y:Int,inT t x→inT t y→sN t (n+1) x y=sN t n x y
theorem aFn {n:Nat} {p:Int × Int}:p∈vQ t n↔(inT t p.1∧inT t p.2)∧sN t n p.1 p.2=true:=by
 unfold vQ
 rw [List.mem_filter,prs_mem]
theorem aGx (n:Nat):vQ t (n+1)=(vQ t n).filter fun p=>sN t (n+1) p.1 p.2:=by
 unfold vQ
 rw [List.filter_filter]
 refine List.filter_congr fun p _=>?_
 cases h:sN t (n+1) p.1 p.2 with
 |false=>rfl
 |true=>rw [sN_le h];rfl
theorem lft_le (n:Nat):(vQ t (n+1)).length≤(vQ t n).length:=by rw [aGx];exact List.length_filter_le _ _
theorem aGy (n:Nat):stab t n↔(vQ t (n+1)).length=(vQ t n).length:=by
 rw [aGx,List.length_filter_eq_length_iff]
 constructor
 ·intro h p hp
  have:=aFn.1 hp
  rw [h _ _ this.1.1 this.1.2];exact this.2
 ·intro h x y hx hy
  cases h1:sN t n x y with
  |true=>exact h (x,y) (aFn.2 ⟨⟨hx,hy⟩,h1⟩)
  |false=>
   cases h2:sN t (n+1) x y with
   |false=>rfl
   |true=>rw [sN_le h2] at h1;cases h1
theorem stab_ex:∃ n,stab t n:=by
 refine Classical.byContradiction fun h=>?_
 have h':∀ n,¬ stab t n:=fun n hn=>h ⟨n,hn⟩
 have key:∀ n,(vQ t n).length+n≤(vQ t 0).length:=by
  intro n
  induction n with
  |zero=>simp
  |succ n ih=>
   have h1:=lft_le (t:=t) n
   have h2:=h' n
   rw [aGy] at h2
   omega
 have:=key ((vQ t 0).length+1)
 omega
theorem aGz:∃ n,stab t n∧∀ m,m < n→¬ stab t m:=by
 obtain ⟨n,hn⟩:=stab_ex (t:=t)
 induction n using Nat.strongRecOn with
 |ind n ih=>
  by_cases h:∃ m,m < n∧stab t m
  ·obtain ⟨m,hm,hs⟩:=h
   exact ih m hm hs
  ·exact ⟨n,hn,fun m hm hs=>h ⟨m,hm,hs⟩⟩
noncomputable def fin (t:cH):Nat:=Classical.choose (aGz (t:=t))
noncomputable def gs (t:cH) (x y:Int):Bool:=sN t (fin t) x y
theorem aJz:stab t (fin t):=(Classical.choose_spec (aGz (t:=t))).1
theorem fin_min {n:Nat} (h:n < fin t):¬ stab t n:=(Classical.choose_spec (aGz (t:=t))).2 n h
theorem aEW {σ ρ:Type} {step:σ→Option (σ ⊕ ρ)} (I:Nat→σ→Prop) (R:ρ→Prop)
  (h1:∀ n s,n < fin t→I n s→∃ s',step s=some (.inl s')∧I (n+1) s') (h2:∀ s,I (fin t) s→∃ r,step s=some (.inr r)∧R r) {s:σ} (h0:I 0 s):∃ r,loop step s=some r∧R r:=by
 have key:∀ j n s,n+j=fin t→I n s→∃ r,loop step s=some r∧R r:=by
  intro j
  induction j with
  |zero=>
   intro n s e hI
   obtain rfl:n=fin t:=by omega
   obtain ⟨r,a,b⟩:=h2 s hI
   exact ⟨r,by rw [cX,a],b⟩
  |succ j ih=>
   intro n s e hI
   obtain ⟨s',a,b⟩:=h1 n s (by omega) hI
   rw [cX,a]
   exact ih (n+1) s' (by omega) b
 exact key _ 0 s (Nat.zero_add _) h0
noncomputable def eqv (t:cH) (x y:Int):Bool:=gs t x y&&gs t y x
theorem eqv_refl (x:Int):eqv t x x=true:=by unfold eqv gs;rw [aIr];rfl
theorem eqv_symm {x y:Int} (h:eqv t x y=true):eqv t y x=true:=by
 unfold eqv at h ⊢
 rw [Bool.and_eq_true] at h ⊢
 exact ⟨h.2,h.1⟩
theorem eqv_trans {x y z:Int} (h1:eqv t x y=true) (h2:eqv t y z=true):eqv t x z=true:=by
 unfold eqv gs at *
 rw [Bool.and_eq_true] at *
 exact ⟨aDY _ h1.1 h2.1,aDY _ h2.2 h1.2⟩
noncomputable def fst (t:cH) (k:Nat):Nat:=((List.range k).find? fun j:Nat=>eqv t (k:Int) (j:Int)).getD k
theorem aDZ (k:Nat):fst t k≤k∧eqv t (k:Int) (fst t k:Int)=true∧∀ j,j < fst t k→eqv t (k:Int) (j:Int)=false:=by
 unfold fst
 cases h:(List.range k).find? fun j:Nat=>eqv t (k:Int) (j:Int) with
 |none=>
  rw [List.find?_eq_none] at h
  refine ⟨Nat.le_refl _,eqv_refl _,fun j hj=>?_⟩
  have:=h j (by rw [List.mem_range];exact hj)
  simpa using this
 |some j=>
  have h1:=List.mem_of_find?_eq_some h
  have h2:=List.find?_some h
  rw [List.mem_range] at h1
  refine ⟨Nat.le_of_lt h1,h2,fun i hi=>?_⟩
  rw [List.find?_range_eq_some] at h
  have:=h.2.2 i hi
  simpa using this
theorem fst_eq {k j:Nat} (h:eqv t (k:Int) (j:Int)=true):fst t k=fst t j:=by
 have key:∀ k j:Nat,eqv t (k:Int) (j:Int)=true→fst t k≤fst t j:=by
  intro k j h
  have h1:=aDZ (t:=t) k
  have h2:=aDZ (t:=t) j
  refine Nat.not_lt.1 fun hl=>?_
  have:=h1.2.2 _ hl
  rw [eqv_trans h h2.2.1] at this
  cases this
 exact Nat.le_antisymm (key k j h) (key j k (eqv_symm h))
theorem aIt (k:Nat):fst t (fst t k)=fst t k:=(fst_eq (aDZ k).2.1).symm
noncomputable def cls (t:cH):List Int:=cn ((List.range t.N.toNat).map fun k:Nat=>(fst t k:Int))
end
end Gv
namespace Gv
open Go
theorem aGW (s:List Edge) (h:s.length < 1000000000):dR s=some (jT s):=by
 unfold dR
 by_cases h2:s.length < 2
 ·rw [if_pos (by simp;omega)]
  rcases s with _|⟨a,_|⟨b,l⟩⟩
  ·rfl
  ·rfl
  ·simp at h2;omega
 rw [if_neg (by simp;omega)]
 have:=aDS (step:=fun k=>cW s k) s.length (fun k (_:Unit)=>(k:Int)) (fun k _=>1≤k∧jT (s.take k)=s.take k) (fun r=>r=.inr (jT s)∨(r=.inl ()∧jT s=s)) (fun k a hk hI=>?_) (fun a hI=>?_) (s.length - 1) 1 () (by omega) ⟨Nat.le_refl _,?_⟩
 ·obtain ⟨r,hr,hR⟩:=this
  rw [show (1:Int)=((1:Nat):Int) from rfl,hr,aD]
  rcases hR with rfl|⟨rfl,h⟩
  ·rfl
  ·rw [h];rfl
 ·obtain ⟨i1,i2⟩:=hI
  have hk1:wr ((k:Int) - 1)=((k - 1:Nat):Int):=by rw [iN (by omega) (by omega)];omega
  have hdt:=aDq (s:=s) (m:=k) i1 hk
  simp only [cW,dA hk,if_pos,dD hk,aD,hk1,dD (xs:=s) (k:=k - 1) (by omega),eI,cI hk (show s.length < 4611686018427387904 by omega)]
  by_cases e:s[k]=s[k - 1]'(by omega)
  ·right
   rw [if_pos e.symm,i2] at hdt
   rw [if_pos (by simpa using e),aDR (by omega),aD]
   obtain ⟨s',w,hl,g1,g2,g3⟩:=aCM (step:=fun x:List Edge × Int × Int=>cV (k:Int) (s.drop k) x.1 x.2.1 x.2.2) s k i1 hk hdt (fun j w s' x y j1 j2 j3 j4 hx hy=>by
    have hl:(s.drop k).length=s.length - k:=by simp
    have a1:(k:Int)+(j:Int)=((k+j:Nat):Int):=by omega
    have a2:wr ((j:Int) - 1)=((j - 1:Nat):Int):=by rw [iN (by omega) (by omega)];omega
    have a3:(k:Int)+((j - 1:Nat):Int)=((k+j - 1:Nat):Int):=by omega
    simp only [cV,hl,dA (show j < s.length - k by omega),if_pos,dD (xs:=s.drop k) (k:=j) (by omega),aD,a1,aAE,hx,a2,List.getElem?_eq_getElem (show j - 1 < (s.drop k).length by omega),a3,hy,dH,cI (show j < s.length - k by omega) (by omega),List.getElem?_eq_getElem (show w < s'.length by omega),vL (xs:=s') (k:=w) _ (by omega),cI j4 (show s.length < 4611686018427387904 by omega)]
    by_cases e:x=y<;>simp [e]) (fun s' w=>by
     have hl:(s.drop k).length=s.length - k:=by simp
     simp only [cV,hl,cQ];rfl)
   rw [hl,aD]
   unfold dG
   simp only
   rw [aDR (by omega),aD,aGs _ (by omega),aD,slc_to (by simp;omega),aD]
   refine ⟨_,rfl,.inl ?_⟩
   rw [List.take_append_of_le_length (by simp;omega),List.take_take,Nat.min_self,g3]
  ·left
   rw [if_neg (by simpa using e)]
   refine ⟨(),rfl,by omega,?_⟩
   rw [hdt,if_neg (fun h=>e h.symm),i2,List.take_add_one]
   simp [hk]
 ·refine ⟨_,by simp only [cW,cQ];rfl,.inr ⟨rfl,?_⟩⟩
  have:=hI.2
  rwa [List.take_of_length_le (by omega)] at this
 ·rcases s with _|⟨a,l⟩
  ·rfl
  ·rfl
def bk (p:List Int) (s:Int):Int:=p.getD s.toNat 0
def aDr (t:cH) (p:List Int):List Edge:=t.E.map fun e=>(⟨bk p e.F,e.B,bk p e.To⟩:Edge)
def quoE (t:cH) (p:List Int):List Edge:=jT (srt cY (aDr t p))
def quoL (t:cH) (p:List Int) (m:Int):cH:=⟨m,bk p t.I,t.L,quoE t p⟩
theorem aJA {t:cH} {p:List Int} {e:Edge}:e∈aDr t p↔e∈quoE t p:=by
 unfold quoE
 rw [aCz];unfold srt;rw [List.mem_mergeSort]
theorem aHu {a b:Edge} (h:cY b a=false) (hne:a≠b):cY a b=true:=by
 rcases aET a b with g|g|g
 ·exact g
 ·exact absurd g hne
 ·rw [h] at g;cases g
theorem aHv {a b c:Edge} (h:cY a b=true) (h':cY c b=false):cY a c=true:=by
 by_cases e:b=c
 ·subst e;exact h
 ·exact aAm h (aHu h' e)
theorem quoE_SE (t:cH) (p:List Int):SE (quoE t p):=by
 have h1:(srt cY (aDr t p)).Pairwise fun a b=>cY b a=false:=by
  have:=List.pairwise_mergeSort (le:=fun a b=>!cY b a) (fun a b c h1 h2=>?_) (fun a b=>?_) (aDr t p)
  ·refine this.imp fun {a b} h=>?_
   simpa using h
  ·simp only [Bool.not_eq_true'] at h1 h2 ⊢
   cases h3:cY c a with
   |false=>rfl
   |true=>
    have:=aHv h3 h1
    rw [h2] at this;cases this
  ·cases h3:cY b a with
   |false=>simp
   |true=>simp [aGp h3]
 exact aDp (R:=fun a b=>cY b a=false) (S:=fun a b=>cY a b=true) (fun h hne=>aHu h hne) (fun h h'=>aHv h h') h1
theorem aHw {α:Type} [DecidableEq α]:∀ l:List α,(jT l).length≤l.length
 |[]=>Nat.le_refl _
 |[_]=>Nat.le_refl _
 |a::b::l=>by
  have:=aHw (b::l)
  unfold jT
  split
  ·simp at *;omega
  ·simp at *;omega
theorem quoE_len (t:cH) (p:List Int):(quoE t p).length≤t.E.length:=by
 have:=aHw (srt cY (aDr t p))
 unfold quoE
 unfold srt at this ⊢
 rw [List.length_mergeSort] at this
 unfold aDr at this ⊢
 rw [List.length_map] at this
 exact this
theorem aGA {t:cH} (h300:t.E.length≤300) (hs:SE t.E) (hin:∀ e∈t.E,xW t e):EdgesOk t:=
 ⟨h300,fun k hk=>⟨hin _ (List.getElem_mem hk),fun h1=>List.pairwise_iff_getElem.1 hs (k - 1) k (by omega) hk (by omega)⟩⟩
theorem bk_mem {p:List Int} {s:Int} {n:Nat} (hp:p.length=n) (h:0≤s∧s < n):bk p s∈p:=by
 unfold bk
 rw [List.getD_eq_getElem?_getD,List.getElem?_eq_getElem (by omega)];exact List.getElem_mem _
theorem aHx {p:List Int} {s:Int} {n:Nat} (hp:p.length=n) (h:0≤s∧s < n):ix p s=some (bk p s):=by
 rw [aDt h.1 (by omega)]
 unfold bk
 rw [List.getD_eq_getElem?_getD,List.getElem?_eq_getElem (by omega)];rfl
theorem quo_ok {t:cH} (hv:dU t) {p:List Int} {m:Int} (hp:p.length=t.N.toNat) (hm:1≤m∧m≤40) (hb:∀ z∈p,0≤z∧z < m):dU (quoL t p m):=by
 have h1:=hv.1
 have h2:=hv.2.1
 have hbk:∀ s,0≤s∧s≤t.N - 1→0≤bk p s∧bk p s≤m - 1:=fun s hs=>by
  have:=hb _ (bk_mem hp (s:=s) (by omega))
  omega
 refine ⟨hm,hbk _ h2,hv.2.2.1,aGA ?_ (quoE_SE t p) fun e he=>?_⟩
 ·have:=quoE_len t p
  have h3:=hv.2.2.2.1
  show (quoE t p).length≤300
  omega
 ·have he':=aJA.2 he
  unfold aDr at he'
  obtain ⟨e0,h0,rfl⟩:=List.mem_map.1 he'
  have:=wX hv h0
  exact ⟨hbk _ this.1,hbk _ this.2.1,this.2.2⟩
def onlyL (t:cH) (f:Edge→Bool):cH:=⟨t.N,t.I,t.L,t.E.filter f⟩
theorem only_ok {t:cH} (hv:dU t) (f:Edge→Bool):dU (onlyL t f):=by
 refine ⟨hv.1,hv.2.1,hv.2.2.1,aGA ?_ (List.Pairwise.filter _ (aGt hv)) fun e he=>?_⟩
 ·have:=List.length_filter_le f t.E
  have h3:=hv.2.2.2.1
  show (t.E.filter f).length≤300
  omega
 ·exact wX hv ((List.mem_filter.1 he).1)
theorem keep_ok {t:cH} (hv:dU t):dU (keepL t (RL t)):=by
 have hl:=RL_len t
 have h1:=hv.1
 have hi:=hv.2.1
 have hin:t.I∈RL t:=by
  unfold RL
  rw [List.mem_map]
  exact ⟨t.I.toNat,by rw [List.mem_filter,List.mem_range];exact ⟨by omega,aDm Rt.init⟩,by show ((t.I.toNat:Nat):Int)=_;omega⟩
 have hpos:1≤(RL t).length:=List.length_pos_of_mem hin
 have hlt:∀ s,0≤pos (RL t) s→0≤pos (RL t) s∧pos (RL t) s≤((RL t).length:Int) - 1:=fun s h=>by
  obtain ⟨i,e,g⟩:=aIj (aDT.1 h)
  have:=(List.getElem?_eq_some_iff.1 g).1
  omega
 refine ⟨by show (1:Int)≤((RL t).length:Int)∧((RL t).length:Int)≤40;omega,hlt _ (aDT.2 hin),hv.2.2.1,aGA ?_ (aJv (aGt hv) (aIl t)) fun e he=>?_⟩
 ·have:=aEE t (RL t)
  have h3:=hv.2.2.2.1
  show (aDV t (RL t)).length≤300
  omega
 ·have he':e∈aDV t (RL t):=he
  unfold aDV at he'
  obtain ⟨e0,h0,h1⟩:=List.mem_filterMap.1 he'
  simp only [Option.ite_none_right_eq_some,Option.some.injEq] at h1
  obtain ⟨⟨a1,a2⟩,rfl⟩:=h1
  exact ⟨hlt _ a1,hlt _ a2,(wX hv h0).2.2⟩
end Gv
namespace Gv
open Go
section
variable {t:cH}
def tQ (n:Nat) (g:Nat→Bool):List Bool:=(List.range n).map g
theorem aAn (n:Nat) (g:Nat→Bool):(tQ n g).length=n:=by simp [tQ]
theorem rowB_ix {n:Nat} {g:Nat→Bool} {s:Int} (h:0≤s∧s < n):ix (tQ n g) s=some (g s.toNat):=by
 rw [aDt h.1 (by rw [aAn];omega)];simp [tQ]
theorem aGB {n:Nat} {g:Nat→Bool} {k:Nat} (h:k < n):ix (tQ n g) (k:Int)=some (g k):=by
 rw [rowB_ix (by omega)];simp
theorem rowB_set (n:Nat) (g:Nat→Bool) (j:Nat):(tQ n g).set j true=tQ n fun w=>g w||decide (w=j):=by
 apply List.ext_getElem?
 intro i
 rw [List.getElem?_set]
 unfold tQ
 simp only [List.length_map,List.length_range,List.getElem?_map]
 by_cases hi:i < n
 ·simp only [List.getElem?_range hi,Option.map_some]
  by_cases hj:j=i
  ·subst hj;simp [hi]
  ·rw [if_neg hj,decide_eq_false (fun h=>hj h.symm),Bool.or_false]
 ·rw [List.getElem?_eq_none (l:=List.range n) (by simp;omega)]
  simp only [Option.map_none]
  split
  ·rename_i h;subst h;simp [hi]
  ·rfl
theorem aHy (n:Nat) (g:Nat→Bool):tQ (n+1) g=tQ n g++[g n]:=by simp [tQ,List.range_succ]
theorem aGC (n:Nat) (g:Nat→Bool):(List.range (n+1)).any g=((List.range n).any g||g n):=by simp [List.range_succ]
def rW (t:cH) (n:Nat):List (List Bool):=(List.range t.N.toNat).map fun x:Nat=>tQ t.N.toNat fun y:Nat=>sN t n (x:Int) (y:Int)
theorem aCq (n:Nat):(rW t n).length=t.N.toNat:=by simp [rW]
theorem aCA {n:Nat} {x:Int} (h:inT t x):ix (rW t n) x=some (tQ t.N.toNat fun y:Nat=>sN t n x (y:Int)):=by
 unfold inT at h
 rw [aDt h.1 (by rw [aCq];omega)]
 simp only [rW,List.getElem_map,List.getElem_range]
 rw [show ((x.toNat:Nat):Int)=x by omega]
theorem aFo {n:Nat} {x y:Int} (h:inT t x) (h':inT t y):ix (tQ t.N.toNat fun y:Nat=>sN t n x (y:Int)) y=some (sN t n x y):=by
 unfold inT at h'
 rw [rowB_ix (by omega),show ((y.toNat:Nat):Int)=y by omega]
theorem vM (hv:dU t) {e:Edge} (he:e∈t.E):inT t e.F∧inT t e.To∧0≤e.B∧e.B < t.L.length:=by
 have:=wX hv he
 unfold xW at this
 unfold inT;omega
def tgF (t:cH) (y k:Int) (l:List Edge):List Bool:=tQ t.N.toNat fun w:Nat=>l.any fun f=>f.F == y&&f.B == k&&f.To == (w:Int)
theorem tgF_t {y k:Int} {l:List Edge} {e:Edge} (he:inT t e.To) (h1:e.F=y) (h2:e.B=k):tgF t y k (l++[e])=(tgF t y k l).set e.To.toNat true:=by
 unfold tgF
 rw [rowB_set]
 congr 1
 funext w
 unfold inT at he
 rw [List.any_append]
 congr 1
 simp only [List.any_cons,List.any_nil,Bool.or_false,h1,h2,beq_self_eq_true,Bool.true_and]
 rw [Bool.eq_iff_iff]
 simp only [beq_iff_eq,decide_eq_true_eq]
 omega
theorem tgF_f {y k:Int} {l:List Edge} {e:Edge} (h:¬ (e.F=y∧e.B=k)):tgF t y k (l++[e])=tgF t y k l:=by
 unfold tgF
 congr 1
 funext w
 rw [List.any_append]
 have:(e.F == y&&e.B == k)=false:=by
  rw [Bool.eq_false_iff]
  intro hh
  simp only [Bool.and_eq_true,beq_iff_eq] at hh
  exact h hh
 simp [this]
theorem aKt (hv:dU t) (y:Int) {k:Nat} (hk:k < t.L.length):uX t y t.L[k] 0=some (tgF t y (k:Int) t.E):=by
 have h300:=hv.2.2.2.1
 have h12:=hv.2.2.1.2.1
 have h40:=hv.1
 have hm:mkz t.N false=some (tgF t y (k:Int) []):=by
  unfold mkz
  rw [if_pos ⟨by omega,by unfold lT;omega⟩]
  unfold tgF tQ
  congr 1
  apply List.ext_getElem<;>simp
 unfold uX
 rw [hm,aD,if_pos (by decide),aBH _ _ (by omega),aD,aDU hv.2.2.1 hk]
 have key0:=iW (step:=fun s:List Bool × Int=>kH t y (k:Int) s.1 s.2) t.E.length (fun i (a:List Bool)=>(a,(i:Int))) (fun i a=>a=tgF t y (k:Int) (t.E.take i)) (fun r=>r=tgF t y (k:Int) t.E)
  (fun i a hi hI=>?_) (fun a hI=>?_) t.E.length 0 (tgF t y (k:Int) []) (by omega) rfl
 ·obtain ⟨r,h1,h2⟩:=key0
  have h1':loop (fun s:List Bool × Int=>kH t y (k:Int) s.1 s.2) (tgF t y (k:Int) [],0)=some r:=h1
  rw [h1',aD,h2];rfl
 ·subst hI
  have he:=vM hv (List.getElem_mem hi)
  have hlt:=he.2.1
  unfold inT at hlt
  have hll:(tgF t y (k:Int) (t.E.take i)).length=t.N.toNat:=aAn _ _
  have hgo:t.E.take (i+1)=t.E.take i++[t.E[i]]:=by rw [List.take_add_one,List.getElem?_eq_getElem hi];rfl
  simp only [kH,dA hi,if_pos,dD hi,aD]
  rw [hgo]
  by_cases a1:t.E[i].F=y
  ·rw [if_pos (by simpa using a1)]
   by_cases a2:t.E[i].B=(k:Int)
   ·have:(t.E[i].B == (k:Int))=true:=by simpa using a2
    rw [this]
    simp only [kG,if_pos,dD hi,aD]
    rw [aDt (xs:=tgF t y (k:Int) (t.E.take i)) (j:=t.E[i].To) hlt.1 (by omega),aD]
    have hst:st (tgF t y (k:Int) (t.E.take i)) t.E[i].To true=some ((tgF t y (k:Int) (t.E.take i)).set t.E[i].To.toNat true):=by
     unfold Gv.st;rw [if_pos ⟨hlt.1,by omega⟩]
    rw [hst,aD]
    simp only [kF,cI hi (show t.E.length < 4611686018427387904 by omega)]
    exact ⟨_,rfl,(tgF_t he.2.1 a1 a2).symm⟩
   ·have:(t.E[i].B == (k:Int))=false:=by simpa using a2
    rw [this]
    simp only [kG,kF,Bool.false_eq_true,if_false,cI hi (show t.E.length < 4611686018427387904 by omega)]
    exact ⟨_,rfl,(tgF_f fun h=>a2 h.2).symm⟩
  ·rw [if_neg (by simpa using a1)]
   simp only [kG,kF,Bool.false_eq_true,if_false,cI hi (show t.E.length < 4611686018427387904 by omega)]
   exact ⟨_,rfl,(tgF_f fun h=>a1 h.1).symm⟩
 ·subst hI
  exact ⟨_,by simp only [kH,cQ];rfl,by rw [List.take_length]⟩
def ans (t:cH) (n:Nat) (y:Int) (e:Edge):Bool:=t.E.any fun f=>f.F == y&&f.B == e.B&&sN t n e.To f.To
theorem found_eq (hv:dU t) {n:Nat} {y:Int} {e:Edge} (he:e∈t.E):loop (fun s:Bool × Int=>fE (rW t n) e (tgF t y e.B t.E) s.1 s.2) (false,0)=some (ans t n y e):=by
 have h40:=hv.1
 have hT:=(vM hv he).2.1
 have hll:(tgF t y e.B t.E).length=t.N.toNat:=aAn _ _
 have key0:=iW (step:=fun s:Bool × Int=>fE (rW t n) e (tgF t y e.B t.E) s.1 s.2) t.N.toNat (fun i (a:Bool)=>(a,(i:Int)))
  (fun i a=>a=(List.range i).any fun w:Nat=>(t.E.any fun f=>f.F == y&&f.B == e.B&&f.To == (w:Int))&&sN t n e.To (w:Int)) (fun r=>r=ans t n y e)
  (fun i a hi hI=>?_) (fun a hI=>?_) t.N.toNat 0 false (by omega) rfl
 ·obtain ⟨r,h1,h2⟩:=key0
  have h1':loop (fun s:Bool × Int=>fE (rW t n) e (tgF t y e.B t.E) s.1 s.2) (false,0)=some r:=h1
  rw [h1',h2]
 ·simp only [fE,hll,dA hi,if_pos]
  rw [aGC,←hI]
  cases a with
  |true=>
   simp only [if_pos,fD,cI hi (show t.N.toNat < 4611686018427387904 by omega)]
   exact ⟨_,rfl,rfl⟩
  |false=>
   rw [if_neg (by simp),show ix (tgF t y e.B t.E) (i:Int)=some (t.E.any fun f=>f.F == y&&f.B == e.B&&f.To == (i:Int)) from aGB hi,aD]
   cases hb:(t.E.any fun f=>f.F == y&&f.B == e.B&&f.To == (i:Int)) with
   |true=>
    rw [if_pos rfl,aCA hT,aD,aGB hi,aD]
    simp only [fD,cI hi (show t.N.toNat < 4611686018427387904 by omega)]
    exact ⟨_,rfl,by simp⟩
   |false=>
    rw [if_neg (by simp)]
    simp only [fD,cI hi (show t.N.toNat < 4611686018427387904 by omega)]
    exact ⟨_,rfl,by simp⟩
 ·refine ⟨a,by simp only [fE,hll,cQ];rfl,?_⟩
  rw [hI]
  unfold ans
  rw [Bool.eq_iff_iff,List.any_eq_true,List.any_eq_true]
  constructor
  ·rintro ⟨w,_,hw⟩
   rw [Bool.and_eq_true,List.any_eq_true] at hw
   obtain ⟨⟨f,hf,h3⟩,h4⟩:=hw
   simp only [Bool.and_eq_true,beq_iff_eq] at h3
   exact ⟨f,hf,by rw [h3.2];simp [h3.1,h4]⟩
  ·rintro ⟨f,hf,h3⟩
   simp only [Bool.and_eq_true,beq_iff_eq] at h3
   have:=(vM hv hf).2.1
   unfold inT at this
   refine ⟨f.To.toNat,List.mem_range.2 (by omega),?_⟩
   rw [show ((f.To.toNat:Nat):Int)=f.To by omega,Bool.and_eq_true,List.any_eq_true]
   exact ⟨⟨f,hf,by simp [h3.1]⟩,h3.2⟩
theorem holds_eq (hv:dU t) {n:Nat} (x y:Int):kR t t 0 (rW t n) x y=some (t.E.all fun e=>!(e.F == x)||ans t n y e):=by
 have h300:=hv.2.2.2.1
 unfold kR
 rw [l11Out_eq t x (by omega),aD]
 have:=aFX (step:=fun s:Int=>iC t t 0 (rW t n) y (t.E.filter fun e=>e.F == x) s) (t.E.filter fun e=>e.F == x) (fun e=>ans t n y e) (.inr false) (.inl ()) (fun k e hk hx=>?_) (by simp only [iC,cQ];rfl)
 ·rw [this,aD,List.all_filter]
  cases h:t.E.all fun a=>!(a.F == x)||ans t n y a<;>rfl
 ·obtain ⟨_,rfl⟩:=vY hx
  have he:(t.E.filter fun e=>e.F == x)[k]∈t.E:=(List.mem_filter.1 (List.getElem_mem hk)).1
  have hl:(t.E.filter fun e=>e.F == x).length≤t.E.length:=List.length_filter_le _ _
  have hT:=vM hv he
  simp only [iC,dA hk,if_pos,hx,aD]
  generalize (t.E.filter fun e=>e.F == x)[k]=e at he hT
  rw [aDt hT.2.2.1 (show e.B.toNat < t.L.length by omega),aD,aKt hv y (show e.B.toNat < t.L.length by omega),aD,show ((e.B.toNat:Nat):Int)=e.B by omega,found_eq hv he,aD]
  simp only [jC,kW,cI hk (show (t.E.filter fun e=>e.F == x).length < 4611686018427387904 by omega)]
  cases ans t n y e<;>simp
theorem aIu (n:Nat) (x y:Int):sN t (n+1) x y=(sN t n x y&&t.E.all fun e=>!(e.F == x)||ans t n y e):=rfl
def chR (t:cH) (n:Nat) (x:Int) (m:Nat):Bool:=(List.range m).any fun y:Nat=>sN t (n+1) x (y:Int) != sN t n x (y:Int)
theorem row_eq (hv:dU t) {n k:Nat} (hk:k < t.N.toNat) (c0:Bool):loop (fun s:Bool × List Bool × Int=>fI t t 0 (rW t n) (k:Int) s.1 s.2.1 s.2.2) (c0,([]:List Bool),0)=
  some (c0||chR t n (k:Int) t.N.toNat,tQ t.N.toNat fun y:Nat=>sN t (n+1) (k:Int) (y:Int)):=by
 have h40:=hv.1
 have hK:inT t (k:Int):=by unfold inT;omega
 have hrow:=aCA (n:=n) hK
 have key0:=iW (step:=fun s:Bool × List Bool × Int=>fI t t 0 (rW t n) (k:Int) s.1 s.2.1 s.2.2) t.N.toNat (fun i (a:Bool × List Bool)=>(a.1,a.2,(i:Int)))
  (fun i a=>a=(c0||chR t n (k:Int) i,tQ i fun y:Nat=>sN t (n+1) (k:Int) (y:Int))) (fun r=>r=(c0||chR t n (k:Int) t.N.toNat,tQ t.N.toNat fun y:Nat=>sN t (n+1) (k:Int) (y:Int)))
  (fun i a hi hI=>?_) (fun a hI=>?_) t.N.toNat 0 (c0,[]) (by omega) (by simp [chR,tQ])
 ·obtain ⟨r,h1,h2⟩:=key0
  have h1':loop (fun s:Bool × List Bool × Int=>fI t t 0 (rW t n) (k:Int) s.1 s.2.1 s.2.2) (c0,([]:List Bool),0)=some r:=h1
  rw [h1',h2]
 ·subst hI
  have hix:ix (tQ t.N.toNat fun y:Nat=>sN t n (k:Int) (y:Int)) (i:Int)=some (sN t n (k:Int) (i:Int)):=aGB hi
  have hgo:∀ v:Bool,v=sN t (n+1) (k:Int) (i:Int)→∃ a',iL (c0||chR t n (k:Int) i) (tQ i fun y:Nat=>sN t (n+1) (k:Int) (y:Int)) (i:Int) (tQ t.N.toNat fun y:Nat=>sN t n (k:Int) (y:Int)) v=some (.inl (a'.1,a'.2,((i+1:Nat):Int)))∧
    a'=(c0||chR t n (k:Int) (i+1),tQ (i+1) fun y:Nat=>sN t (n+1) (k:Int) (y:Int)):=by
   intro v hv'
   have hap:apd (tQ i fun y:Nat=>sN t (n+1) (k:Int) (y:Int)) [v]=some (tQ (i+1) fun y:Nat=>sN t (n+1) (k:Int) (y:Int)):=by
    rw [iR (by rw [aAn];unfold lT;simp;omega),aHy,hv']
   unfold iL
   have hc:chR t n (k:Int) (i+1)=(chR t n (k:Int) i||(v != sN t n (k:Int) (i:Int))):=by unfold chR;rw [aGC,hv']
   cases hc0:(c0||chR t n (k:Int) i) with
   |true=>
    simp only [if_pos,iK,hap,aD,cI hi (show t.N.toNat < 4611686018427387904 by omega)]
    exact ⟨_,rfl,by rw [hc,←Bool.or_assoc,hc0]⟩
   |false=>
    simp only [Bool.false_eq_true,if_false,hix,aD,iK,hap,cI hi (show t.N.toNat < 4611686018427387904 by omega)]
    exact ⟨_,rfl,by rw [hc,←Bool.or_assoc,hc0]⟩
  simp only [fI,hrow,aD,aAn,dA hi,if_pos,hix]
  cases hs:sN t n (k:Int) (i:Int) with
  |true=>
   rw [if_pos rfl,holds_eq hv,aD]
   exact hgo _ (by rw [aIu,hs];first|done|rfl)
  |false=>
   rw [if_neg (by simp)]
   exact hgo _ (by rw [aIu,hs];first|done|rfl)
 ·subst hI
  exact ⟨_,by simp only [fI,hrow,aD,aAn,cQ];rfl,rfl⟩
theorem aGD (hv:dU t) (n:Nat):∃ c,lM t t 0 (rW t n)=some (rW t (n+1),c)∧(c=false↔stab t n):=by
 have h40:=hv.1
 refine ⟨(List.range t.N.toNat).any fun x:Nat=>chR t n (x:Int) t.N.toNat,?_,?_⟩
 ·unfold lM
  have key0:=iW (step:=fun s:List (List Bool) × Bool × Int=>gQ t t 0 (rW t n) s.1 s.2.1 s.2.2) t.N.toNat (fun i (a:List (List Bool) × Bool)=>(a.1,a.2,(i:Int)))
   (fun i a=>a=((List.range i).map fun x:Nat=>tQ t.N.toNat fun y:Nat=>sN t (n+1) (x:Int) (y:Int),(List.range i).any fun x:Nat=>chR t n (x:Int) t.N.toNat)) (fun r=>r=(rW t (n+1),(List.range t.N.toNat).any fun x:Nat=>chR t n (x:Int) t.N.toNat))
   (fun i a hi hI=>?_) (fun a hI=>?_) t.N.toNat 0 ([],false) (by omega) rfl
  ·obtain ⟨r,h1,h2⟩:=key0
   have h1':loop (fun s:List (List Bool) × Bool × Int=>gQ t t 0 (rW t n) s.1 s.2.1 s.2.2) ([],false,0)=some r:=h1
   rw [h1',aD,h2];rfl
  ·subst hI
   simp only [gQ,aCq,dA hi,if_pos]
   rw [row_eq hv hi,aD]
   simp only [jO,lV]
   rw [iR (by simp [lT];omega),aD,cI hi (show t.N.toNat < 4611686018427387904 by omega)]
   exact ⟨(_,_),rfl,by rw [aGC,List.range_succ,List.map_append];rfl⟩
  ·subst hI
   exact ⟨_,by simp only [gQ,aCq,cQ];rfl,rfl⟩
 ·rw [Bool.eq_false_iff,ne_eq,List.any_eq_true]
  constructor
  ·intro h x y hx hy
   unfold inT at hx hy
   refine Classical.byContradiction fun hne=>h ⟨x.toNat,List.mem_range.2 (by omega),?_⟩
   unfold chR
   rw [List.any_eq_true]
   refine ⟨y.toNat,List.mem_range.2 (by omega),?_⟩
   rw [show ((x.toNat:Nat):Int)=x by omega,show ((y.toNat:Nat):Int)=y by omega]
   simpa using hne
  ·rintro h ⟨x,hx,hc⟩
   unfold chR at hc
   rw [List.any_eq_true] at hc
   obtain ⟨y,hy,hc⟩:=hc
   rw [List.mem_range] at hx hy
   rw [h (x:Int) (y:Int) (by unfold inT;omega) (by unfold inT;omega)] at hc
   simp at hc
theorem first_tab (hv:dU t):aAf t t 0=some (rW t 0):=by
 have h40:=hv.1
 have hn:t.N=((t.N.toNat:Nat):Int):=by omega
 have hrow:∀ x:Int,loop (fun s:List Bool × Int=>lE t t 0 x s.1 s.2) (([]:List Bool),0)=some (tQ t.N.toNat fun y:Nat=>sN t 0 x (y:Int)):=by
  intro x
  have key0:=iW (step:=fun s:List Bool × Int=>lE t t 0 x s.1 s.2) t.N.toNat (fun i (a:List Bool)=>(a,(i:Int))) (fun i a=>a=tQ i fun y:Nat=>sN t 0 x (y:Int)) (fun r=>r=tQ t.N.toNat fun y:Nat=>sN t 0 x (y:Int))
   (fun i a hi hI=>?_) (fun a hI=>?_) t.N.toNat 0 [] (by omega) rfl
  ·obtain ⟨r,h1,h2⟩:=key0
   have h1':loop (fun s:List Bool × Int=>lE t t 0 x s.1 s.2) (([]:List Bool),0)=some r:=h1
   rw [h1',h2]
  ·subst hI
   have:decide ((i:Int) < t.N)=true:=by simp;omega
   simp only [lE,this,if_pos]
   rw [if_pos (by decide)]
   simp only [sH]
   rw [iR (by rw [aAn];unfold lT;simp;omega),aD,cI hi (show t.N.toNat < 4611686018427387904 by omega)]
   exact ⟨_,rfl,by rw [aHy];rfl⟩
  ·subst hI
   have:decide (((t.N.toNat:Nat):Int) < t.N)=false:=by simp;omega
   exact ⟨_,by simp only [lE,this];rfl,rfl⟩
 unfold aAf
 have key0:=iW (step:=fun s:List (List Bool) × Int=>mU t t 0 s.1 s.2) t.N.toNat (fun i (a:List (List Bool))=>(a,(i:Int))) (fun i a=>a=(List.range i).map fun x:Nat=>tQ t.N.toNat fun y:Nat=>sN t 0 (x:Int) (y:Int)) (fun r=>r=rW t 0)
  (fun i a hi hI=>?_) (fun a hI=>?_) t.N.toNat 0 [] (by omega) rfl
 ·obtain ⟨r,h1,h2⟩:=key0
  have h1':loop (fun s:List (List Bool) × Int=>mU t t 0 s.1 s.2) ([],0)=some r:=h1
  rw [h1',aD,h2];rfl
 ·subst hI
  have:decide ((i:Int) < t.N)=true:=by simp;omega
  simp only [mU,this,if_pos]
  rw [hrow,aD]
  simp only [sG,wN]
  rw [iR (by simp [lT];omega),aD,cI hi (show t.N.toNat < 4611686018427387904 by omega)]
  exact ⟨_,rfl,by rw [List.range_succ,List.map_append];rfl⟩
 ·subst hI
  have:decide (((t.N.toNat:Nat):Int) < t.N)=false:=by simp;omega
  exact ⟨_,by simp only [mU,this];rfl,rfl⟩
theorem aEX (hv:dU t):pP t t 0=some (rW t (fin t)):=by
 unfold pP
 rw [first_tab hv,aD]
 have key0:=aEW (t:=t) (step:=fun s:List (List Bool)=>lI t t 0 s) (fun n s=>s=rW t n) (fun r=>r=rW t (fin t)) (fun n s hn hs=>?_) (fun s hs=>?_) (s:=rW t 0) rfl
 ·obtain ⟨r,h1,h2⟩:=key0
  rw [h1,aD,h2]
 ·subst hs
  obtain ⟨c,e,hc⟩:=aGD hv n
  simp only [lI,e,aD]
  cases c with
  |true=>exact ⟨_,rfl,rfl⟩
  |false=>exact absurd (hc.1 rfl) (fin_min hn)
 ·subst hs
  obtain ⟨c,e,hc⟩:=aGD hv (fin t)
  simp only [lI,e,aD]
  rw [hc.2 aJz]
  exact ⟨_,rfl,rfl⟩
end
end Gv
namespace Gv
open Go
def aCO (p:List Int) (b:Int):Prop:=(∃ z∈p,b=z+1)∧∀ z∈p,z+1≤b
theorem aCO.uniq {p:List Int} {a b:Int} (h:aCO p a) (h':aCO p b):a=b:=by
 obtain ⟨⟨x,hx,rfl⟩,h2⟩:=h
 obtain ⟨⟨y,hy,rfl⟩,h4⟩:=h'
 have:=h2 y hy
 have:=h4 x hx
 omega
theorem aKv {p:List Int} (hl:p.length < 1000000) (h1:1≤p.length) (hp:∀ z∈p,0≤z∧z < 40):∃ b,uA p=some b∧aCO p b:=by
 have key0:=iW (step:=fun s:Int × Int=>lL p s.1 s.2) p.length (fun i (a:Int)=>(a,(i:Int)))
  (fun i a=>(i=0∧a=0)∨aCO (p.take i) a) (fun r=>aCO p r) (fun i a hi hI=>?_) (fun a hI=>?_) p.length 0 0 (by omega) (.inl ⟨rfl,rfl⟩)
 ·obtain ⟨r,h1,h2⟩:=key0
  have h1':loop (fun s:Int × Int=>lL p s.1 s.2) (0,0)=some r:=h1
  exact ⟨r,by unfold uA;rw [h1',aD];rfl,h2⟩
 ·have hz:=hp _ (List.getElem_mem hi)
  have htk:p.take (i+1)=p.take i++[p[i]]:=by rw [List.take_add_one,List.getElem?_eq_getElem hi];rfl
  simp only [lL,dA hi,if_pos,dD hi,aD,aDD]
  rw [iN (x:=p[i]+1) (by omega) (by omega)]
  have hstep:∀ v:Int,v=(if p[i]+1 < a then a else p[i]+1)→aCO (p.take (i+1)) v:=by
   intro v hv
   rw [htk]
   rcases hI with ⟨rfl,rfl⟩|⟨⟨x,hx,h2⟩,h3⟩
   ·rw [if_neg (by omega)] at hv
    subst hv
    simp only [List.take_zero,List.nil_append]
    exact ⟨⟨_,by simp,rfl⟩,fun z hz=>by simp at hz;subst hz;omega⟩
   ·by_cases h:p[i]+1 < a
    ·rw [if_pos h] at hv
     subst hv
     refine ⟨⟨x,List.mem_append_left _ hx,h2⟩,fun z hz=>?_⟩
     rcases List.mem_append.1 hz with hz|hz
     ·exact h3 z hz
     ·simp at hz;subst hz;omega
    ·rw [if_neg h] at hv
     subst hv
     refine ⟨⟨p[i],List.mem_append_right _ (by simp),rfl⟩,fun z hz=>?_⟩
     rcases List.mem_append.1 hz with hz|hz
     ·have:=h3 z hz;omega
     ·simp at hz;subst hz;omega
  by_cases h:p[i]+1 < a
  ·rw [if_pos (by simpa using h),aD,cI hi (show p.length < 4611686018427387904 by omega)]
   exact ⟨a,rfl,.inr (hstep a (by rw [if_pos h]))⟩
  ·rw [if_neg (by simpa using h),aD,cI hi (show p.length < 4611686018427387904 by omega)]
   exact ⟨_,rfl,.inr (hstep _ (by rw [if_neg h]))⟩
 ·refine ⟨a,by simp only [lL,cQ];rfl,?_⟩
  rcases hI with ⟨h,_⟩|h
  ·omega
  ·rwa [List.take_length] at h
section
variable {t:cH}
theorem quo_ref (hv:dU t) {p:List Int} (hp:p.length=t.N.toNat) {b:Int} (hb:uA p=some b):sF t p=some (quoL t p b):=by
 have h300:=hv.2.2.2.1
 have h40:=hv.1
 have hi:=hv.2.1
 unfold sF
 rw [aHn (step:=fun s:List Edge × Int=>lH t p s.1 s.2) t.E (fun e=>(⟨bk p e.F,e.B,bk p e.To⟩:Edge)) id (fun k out x hk ho hx=>by
  obtain ⟨_,rfl⟩:=vY hx
  have hT:=vM hv (List.getElem_mem hk)
  have h1:=hT.1
  have h2:=hT.2.1
  unfold inT at h1 h2
  simp only [lH,dA hk,if_pos,hx,aD,aHx hp (s:=t.E[k].F) (by omega),aHx hp (s:=t.E[k].To) (by omega),cI hk (show t.E.length < 4611686018427387904 by omega)]
  rw [iR (by simp [lT];omega),aD]) (fun out=>by simp only [lH,cQ];rfl),aD]
 unfold nL
 rw [aHx hp (s:=t.I) (by omega),aD,hb,aD,show id (t.E.map fun e=>(⟨bk p e.F,e.B,bk p e.To⟩:Edge))=aDr t p from rfl]
 rw [aKm hv.2.2.1 (by unfold aDr;rw [List.length_map];omega) (fun e he=>?_) (quoE_SE t p) (fun e=>aJA),aD]
 ·rfl
 ·unfold aDr at he
  obtain ⟨e0,h0,rfl⟩:=List.mem_map.1 he
  exact (vM hv h0).2.2
end
end Gv
namespace Gv
open Go
def xP (l:List (Int × Int)):List ((Int × Int) × Bool):=l.map fun p=>(p,true)
theorem mtt_keys (l:List (Int × Int)):List.map Prod.fst (xP l)=l:=by
 unfold xP;rw [List.map_map];exact List.map_id _
theorem mtt_len (l:List (Int × Int)):(xP l).length=l.length:=by simp [xP]
theorem aJB (q:Int × Int):∀ l:List (Int × Int),(jA (xP l) q).getD false=decide (q∈l)
 |[]=>by simp [xP,jA]
 |a::l=>by
  have ih:=aJB q l
  unfold xP at ih ⊢
  rw [List.map_cons,jA]
  by_cases e:q=a
  ·rw [if_pos e];simp [e]
  ·rw [if_neg e,ih];simp [e]
theorem aGE {q:Int × Int}:∀ {l:List (Int × Int)},q∉l→tJ (xP l) q true=xP (l++[q])
 |[],_=>rfl
 |a::l,h=>by
  have ih:=aGE (q:=q) (l:=l) fun hm=>h (by simp [hm])
  have e:¬ q=a:=fun e=>h (by simp [e])
  unfold xP at ih ⊢
  rw [List.map_cons,tJ,if_neg e,ih];rfl
theorem aHz:∀ (m l:List (Int × Int)),(l++m).Nodup→xZ (xP l) true m=xP (l++m)
 |[],l,_=>by rw [List.append_nil];rfl
 |q::m,l,h=>by
  have hq:q∉l:=fun hm=>by
   rw [List.nodup_append] at h
   exact h.2.2 q hm q (by simp) rfl
  unfold xZ
  rw [aGE hq,aHz m (l++[q]) (by rw [List.append_assoc];exact h),List.append_assoc];rfl
theorem mfil_eq {κ:Type} {f:κ→Option Bool} {p:κ→Bool}:∀ {l:List κ},(∀ k∈l,f k=some (p k))→mfil f l=some (l.filter p)
 |[],_=>rfl
 |k::l,h=>by
  unfold mfil
  rw [h k (by simp),aD,mfil_eq fun k' hk=>h k' (by simp [hk]),aD,List.filter_cons]
end Gv
namespace Gv
open Go
section
variable {t:cH}
theorem prs_nodup:(prs t).Nodup:=by
 unfold prs List.Nodup
 rw [List.pairwise_flatMap]
 refine ⟨fun x _=>?_,?_⟩
 ·rw [List.pairwise_map]
  refine List.nodup_range.imp fun {a b} hab e=>?_
  simp only [Prod.mk.injEq] at e
  exact hab (by omega)
 ·refine List.nodup_range.imp fun {a b} hab x hx y hy e=>?_
  obtain ⟨i,_,rfl⟩:=List.mem_map.1 hx
  obtain ⟨j,_,rfl⟩:=List.mem_map.1 hy
  simp only [Prod.mk.injEq] at e
  exact hab (by omega)
theorem lft_nodup (n:Nat):(vQ t n).Nodup:=prs_nodup.filter _
theorem lft_zero:vQ t 0=prs t:=List.filter_eq_self.2 fun _ _=>rfl
theorem aJC {n:Nat} {x y:Int} (hx:inT t x) (hy:inT t y):(jA (xP (vQ t n)) (x,y)).getD false=sN t n x y:=by
 rw [aJB,Bool.eq_iff_iff,decide_eq_true_eq,aFn]
 exact ⟨fun h=>h.2,fun h=>⟨⟨hx,hy⟩,h⟩⟩
theorem aJD (hv:dU t) {n:Nat} {x y:Int} {e:Edge} (he:e∈t.E) (hl:e.B.toNat < t.L.length):pS t t (xP (vQ t n)) x y t.L[e.B.toNat] e.To=some (ans t n y e):=by
 have h40:=hv.1
 have hT:=vM hv he
 obtain ⟨R,h1,h2⟩:=aKr hv (S:=[y]) (by simp) hl
 have hin:∀ w∈R,inT t w:=fun w hw=>by
  obtain ⟨f,hf,_,_,rfl⟩:=(h2.mem w).1 hw
  exact (vM hv hf).2.1
 have hRl:R.length≤40:=h2.len (n:=40) fun q hq=>by
  have:=hin q ((h2.mem q).2 hq)
  unfold inT at this;omega
 unfold pS
 rw [h1,aD]
 unfold fC fP
 rw [vZ (step:=fun s=>dC R t.N t.I t.L t.E t.N t.I t.L t.E (xP (vQ t n)) e.To s) R (fun w=>sN t n e.To w) (fun k w hk hx=>by
  obtain ⟨_,rfl⟩:=vY hx
  simp only [dC,dA hk,if_pos,hx,aD,wV,pA,aJC hT.2.1 (hin _ (List.getElem_mem hk)),cI hk (show R.length < 4611686018427387904 by omega)]) (by simp only [dC,cQ];rfl),aD]
 have key:R.any (fun w=>sN t n e.To w)=ans t n y e:=by
  unfold ans
  rw [Bool.eq_iff_iff,List.any_eq_true,List.any_eq_true]
  constructor
  ·rintro ⟨w,hw,h3⟩
   obtain ⟨f,hf,a1,a2,rfl⟩:=(h2.mem w).1 hw
   simp only [List.mem_singleton] at a2
   exact ⟨f,hf,by simp [a2,h3];omega⟩
  ·rintro ⟨f,hf,h3⟩
   simp only [Bool.and_eq_true,beq_iff_eq] at h3
   exact ⟨f.To,(h2.mem _).2 ⟨f,hf,by omega,by simp [h3.1.1],rfl⟩,h3.2⟩
 rw [←key,←aDP]
 cases R.findIdx? (fun w=>sN t n e.To w) with
 |none=>rfl
 |some i=>rfl
theorem sim_eq (hv:dU t) {n:Nat} (x y:Int):gV t t (xP (vQ t n)) 0 x y=some (t.E.all fun e=>!(e.F == x)||ans t n y e):=by
 have h300:=hv.2.2.2.1
 unfold gV
 rw [if_neg (by decide)]
 unfold hQ
 rw [if_neg (by decide),if_neg (by decide)]
 unfold kY
 rw [out_eq t x (by omega),aD]
 have:=aFX (step:=fun s:Int=>gA t t (xP (vQ t n)) x y (t.E.filter fun e=>e.F == x) s) (t.E.filter fun e=>e.F == x) (fun e=>ans t n y e) (.inr false) (.inl ()) (fun k e hk hx=>?_) (by simp only [gA,cQ];rfl)
 ·rw [this,aD,List.all_filter]
  cases h:t.E.all fun a=>!(a.F == x)||ans t n y a<;>rfl
 ·obtain ⟨_,rfl⟩:=vY hx
  have he:(t.E.filter fun e=>e.F == x)[k]∈t.E:=(List.mem_filter.1 (List.getElem_mem hk)).1
  have hl:(t.E.filter fun e=>e.F == x).length≤t.E.length:=List.length_filter_le _ _
  have hT:=vM hv he
  simp only [gA,dA hk,if_pos,hx,aD]
  generalize (t.E.filter fun e=>e.F == x)[k]=e at he hT
  have hll:e.B.toNat < t.L.length:=by omega
  rw [aDt hT.2.2.1 hll,aD,show pS ⟨t.N,t.I,t.L,t.E⟩ ⟨t.N,t.I,t.L,t.E⟩ (xP (vQ t n)) x y t.L[e.B.toNat] e.To=some (ans t n y e) from aJD hv he hll,aD,cI hk (show (t.E.filter fun e=>e.F == x).length < 4611686018427387904 by omega)]
  cases ans t n y e<;>simp
theorem round_eq (hv:dU t) (n:Nat):mfil (fQ t t 0 (xP (vQ t n))) (List.map Prod.fst (xP (vQ t n)))=some (vQ t (n+1)):=by
 rw [mtt_keys,mfil_eq (p:=fun p=>sN t (n+1) p.1 p.2) fun k hk=>?_,aGx]
 unfold fQ
 rw [show gV ⟨t.N,t.I,t.L,t.E⟩ ⟨t.N,t.I,t.L,t.E⟩ (xP (vQ t n)) 0 k.1 k.2=some (t.E.all fun e=>!(e.F == k.1)||ans t n k.2 e) from sim_eq hv k.1 k.2,aD]
 rw [aIu,(aFn.1 hk).2,Bool.true_and]
 cases t.E.all fun e=>!(e.F == k.1)||ans t n k.2 e<;>rfl
theorem aJE (hv:dU t) (n:Nat) (missing round:Int):∃ m',mD t t 0 (xP (vQ t n)) missing round=
  if (vQ t (n+1)).length=(vQ t n).length then some (.inr (xP (vQ t n),m')) else some (.inl (xP (vQ t (n+1)),m',wr (round+1))):=by
 have h4:∀ m',mB t t 0 (xP (vQ t n)) round m'=if (vQ t (n+1)).length=(vQ t n).length then some (.inr (xP (vQ t n),m')) else some (.inl (xP (vQ t (n+1)),m',wr (round+1))):=by
  intro m'
  unfold mB
  rw [round_eq hv,aD,aD,show ([]:List ((Int × Int) × Bool))=xP [] from rfl,aHz _ [] (by rw [List.nil_append];exact lft_nodup _),List.nil_append]
  unfold tG tF
  rw [mtt_len,mtt_len]
  by_cases h:(vQ t (n+1)).length=(vQ t n).length
  ·rw [if_pos h,if_pos (by simp [h])]
  ·rw [if_neg h,if_neg (by simp;omega)]
 have h5:∀ b,∃ m',mC t t 0 (xP (vQ t n)) missing round b=if (vQ t (n+1)).length=(vQ t n).length then some (.inr (xP (vQ t n),m')) else some (.inl (xP (vQ t (n+1)),m',wr (round+1))):=by
  intro b
  unfold mC
  cases b with
  |true=>exact ⟨_,by rw [if_pos rfl,h4]⟩
  |false=>exact ⟨_,by rw [if_neg (by simp),h4]⟩
 unfold mD
 split
 ·exact h5 _
 ·exact h5 _
def prU (t:cH) (k:Nat):List (Int × Int):=(List.range k).flatMap fun x:Nat=>(List.range t.N.toNat).map fun y:Nat=>((x:Int),(y:Int))
theorem prU_lt {k:Nat} {p:Int × Int} (h:p∈prU t k):p.1 < k:=by
 unfold prU at h
 rw [List.mem_flatMap] at h
 obtain ⟨x,hx,h⟩:=h
 obtain ⟨y,_,rfl⟩:=List.mem_map.1 h
 rw [List.mem_range] at hx
 simp only;omega
theorem prU_snoc (k:Nat):prU t (k+1)=prU t k++(List.range t.N.toNat).map fun y:Nat=>((k:Int),(y:Int)):=by
 unfold prU
 rw [List.range_succ,List.flatMap_append];simp
theorem sim_row (hv:dU t) {k:Nat} (hk:k < t.N.toNat):loop (fun s:List ((Int × Int) × Bool) × Int=>iU t t 0 (k:Int) s.1 s.2) (xP (prU t k),0)=some (xP (prU t (k+1))):=by
 have h40:=hv.1
 have key0:=iW (step:=fun s:List ((Int × Int) × Bool) × Int=>iU t t 0 (k:Int) s.1 s.2) t.N.toNat (fun i (a:List ((Int × Int) × Bool))=>(a,(i:Int)))
  (fun i a=>a=xP (prU t k++(List.range i).map fun y:Nat=>((k:Int),(y:Int)))) (fun r=>r=xP (prU t (k+1))) (fun i a hi hI=>?_) (fun a hI=>?_) t.N.toNat 0 (xP (prU t k)) (by omega) (by simp)
 ·obtain ⟨r,h1,h2⟩:=key0
  have h1':loop (fun s:List ((Int × Int) × Bool) × Int=>iU t t 0 (k:Int) s.1 s.2) (xP (prU t k),0)=some r:=h1
  rw [h1',h2]
 ·subst hI
  have:decide ((i:Int) < t.N)=true:=by simp;omega
  simp only [iU,this,if_pos]
  rw [if_pos (by decide)]
  have hnot:((k:Int),(i:Int))∉prU t k++(List.range i).map fun y:Nat=>((k:Int),(y:Int)):=by
   intro h
   rcases List.mem_append.1 h with h|h
   ·have:=prU_lt h
    simp only at this;omega
   ·obtain ⟨y,hy,e⟩:=List.mem_map.1 h
    rw [List.mem_range] at hy
    simp only [Prod.mk.injEq] at e
    omega
  simp only [nS,if_pos,aD,nR,aGE hnot,cI hi (show t.N.toNat < 4611686018427387904 by omega)]
  exact ⟨_,rfl,by rw [List.range_succ,List.map_append,←List.append_assoc];rfl⟩
 ·subst hI
  have:decide (((t.N.toNat:Nat):Int) < t.N)=false:=by simp;omega
  exact ⟨_,by simp only [iU,this];rfl,by rw [prU_snoc]⟩
theorem sim_start (hv:dU t):loop (fun s:List ((Int × Int) × Bool) × Int=>iV t t 0 s.1 s.2) (([]:List ((Int × Int) × Bool)),0)=some (xP (vQ t 0)):=by
 have h40:=hv.1
 have key0:=iW (step:=fun s:List ((Int × Int) × Bool) × Int=>iV t t 0 s.1 s.2) t.N.toNat (fun i (a:List ((Int × Int) × Bool))=>(a,(i:Int)))
  (fun i a=>a=xP (prU t i)) (fun r=>r=xP (vQ t 0)) (fun i a hi hI=>?_) (fun a hI=>?_) t.N.toNat 0 [] (by omega) rfl
 ·obtain ⟨r,h1,h2⟩:=key0
  have h1':loop (fun s:List ((Int × Int) × Bool) × Int=>iV t t 0 s.1 s.2) (([]:List ((Int × Int) × Bool)),0)=some r:=h1
  rw [h1',h2]
 ·subst hI
  have:decide ((i:Int) < t.N)=true:=by simp;omega
  simp only [iV,this,if_pos]
  rw [sim_row hv hi,aD]
  simp only [pC,tH,cI hi (show t.N.toNat < 4611686018427387904 by omega)]
  exact ⟨_,rfl,rfl⟩
 ·subst hI
  have:decide (((t.N.toNat:Nat):Int) < t.N)=false:=by simp;omega
  exact ⟨_,by simp only [iV,this];rfl,by rw [lft_zero];rfl⟩
theorem aJF (hv:dU t):uC t=some (xP (vQ t (fin t))):=by
 unfold uC yQ
 rw [sim_start hv,aD]
 unfold pB
 have key0:=aEW (t:=t) (step:=fun s:List ((Int × Int) × Bool) × Int × Int=>mD t t 0 s.1 s.2.1 s.2.2) (fun n s=>s.1=xP (vQ t n)) (fun r=>r.1=xP (vQ t (fin t))) (fun n s hn hs=>?_) (fun s hs=>?_) (s:=(xP (vQ t 0),-1,0)) rfl
 ·obtain ⟨r,h1,h2⟩:=key0
  rw [h1,aD,aD,h2]
 ·obtain ⟨a,b,c⟩:=s
  simp only at hs
  subst hs
  obtain ⟨m',h⟩:=aJE hv n b c
  have hne:=fin_min hn
  rw [aGy] at hne
  rw [if_neg hne] at h
  exact ⟨_,h,rfl⟩
 ·obtain ⟨a,b,c⟩:=s
  simp only at hs
  subst hs
  obtain ⟨m',h⟩:=aJE hv (fin t) b c
  rw [if_pos ((aGy _).1 aJz)] at h
  exact ⟨_,h,rfl⟩
theorem aFp {x y:Int} (hx:inT t x) (hy:inT t y):(jA (xP (vQ t (fin t))) (x,y)).getD false=gs t x y:=aJC hx hy
end
end Gv
namespace Gv
open Go
section
variable {t:cH}
noncomputable def pI (t:cH) (k:Nat):List Int:=(List.range k).map fun i:Nat=>(fst t i:Int)
theorem aCr (k:Nat):(pI t k).length=k:=by simp [pI]
theorem aHA (k:Nat):pI t (k+1)=pI t k++[(fst t k:Int)]:=by simp [pI,List.range_succ]
theorem fst_mem {k:Nat}:(fst t k:Int)∈pI t k↔fst t k < k:=by
 unfold pI
 rw [List.mem_map]
 constructor
 ·rintro ⟨i,hi,e⟩
  rw [List.mem_range] at hi
  have:=(aDZ (t:=t) i).1
  omega
 ·intro h
  exact ⟨fst t k,List.mem_range.2 h,by rw [aIt]⟩
theorem cls_eq:cls t=cn (pI t t.N.toNat):=rfl
noncomputable def aCF (t:cH) (k j:Nat):Option Nat:=(List.range j).find? fun i:Nat=>eqv t (k:Int) (i:Int)
theorem zJ (k j:Nat):aCF t k (j+1)=(aCF t k j).or (if eqv t (k:Int) (j:Int)=true then some j else none):=by
 unfold aCF
 rw [List.range_succ,List.find?_append]
 congr 1
 simp only [List.find?_cons,List.find?_nil]
 cases eqv t (k:Int) (j:Int)<;>rfl
theorem aGF (k:Nat):(aCF t k k).getD k=fst t k:=rfl
theorem aIv {k j i:Nat} (h:aCF t k j=some i):i < j:=by
 have:=List.mem_of_find?_eq_some h
 rwa [List.mem_range] at this
theorem look_none {k:Nat} (h:aCF t k k=none):fst t k=k:=by rw [←aGF,h];rfl
theorem aHB {k i:Nat} (h:aCF t k k=some i):fst t k=i:=by rw [←aGF,h];rfl
theorem cls_inner (hv:dU t) {k:Nat} (hk:k < t.N.toNat):loop (fun s:Int × Int=>jL (rW t (fin t)) (cn (pI t k)) (k:Int) s.1 s.2) (-1,0)=some (if fst t k < k then pos (dd (pI t k)) (fst t k:Int) else -1):=by
 have h40:=hv.1
 have hK:inT t (k:Int):=by unfold inT;omega
 have hget:∀ i,i < k→ix (cn (pI t k)) (i:Int)=some (pos (dd (pI t k)) (fst t i:Int)):=fun i hi=>by
  rw [aAE,cn_get (by rw [aCr];exact hi)]
  simp [pI]
 have key0:=aDS (step:=fun s:Int × Int=>jL (rW t (fin t)) (cn (pI t k)) (k:Int) s.1 s.2) k (fun i (a:Int)=>(a,(i:Int)))
  (fun j a=>(aCF t k j=none∧a=-1)∨∃ i,aCF t k j=some i∧a=pos (dd (pI t k)) (fst t i:Int)∧0≤a) (fun r=>r=if fst t k < k then pos (dd (pI t k)) (fst t k:Int) else -1) (fun j a hj hI=>?_) (fun a hI=>?_) k 0 (-1) (by omega) (.inl ⟨rfl,rfl⟩)
 ·obtain ⟨r,h1,h2⟩:=key0
  have h1':loop (fun s:Int × Int=>jL (rW t (fin t)) (cn (pI t k)) (k:Int) s.1 s.2) (-1,0)=some r:=h1
  rw [h1',h2]
 ·simp only [jL,dA hj,if_pos]
  rcases hI with ⟨h1,rfl⟩|⟨i,h1,h2,h3⟩
  ·left
   have hJ:inT t (j:Int):=by unfold inT;omega
   simp only [kK,show decide ((-1:Int) < 0)=true from rfl,if_pos,aCA hK,aFo hK hJ,aD,aCA hJ,aFo hJ hK]
   have he:eqv t (k:Int) (j:Int)=(sN t (fin t) (k:Int) (j:Int)&&sN t (fin t) (j:Int) (k:Int)):=rfl
   cases g1:sN t (fin t) (k:Int) (j:Int) with
   |false=>
    simp only [Bool.false_eq_true,if_false,kJ,kI,cI hj (show k < 4611686018427387904 by omega)]
    refine ⟨_,rfl,.inl ⟨?_,rfl⟩⟩
    rw [zJ,h1,he,g1];rfl
   |true=>
    cases g2:sN t (fin t) (j:Int) (k:Int) with
    |false=>
     simp only [Bool.false_eq_true,if_false,if_pos,kJ,kI,cI hj (show k < 4611686018427387904 by omega)]
     refine ⟨_,rfl,.inl ⟨?_,rfl⟩⟩
     rw [zJ,h1,he,g1,g2];rfl
    |true=>
     simp only [if_pos,kJ,kI,hget j hj,aD,cI hj (show k < 4611686018427387904 by omega)]
     refine ⟨_,rfl,.inr ⟨j,?_,rfl,?_⟩⟩
     ·rw [zJ,h1,he,g1,g2];rfl
     ·refine aDT.2 (aEH.2 ?_)
      unfold pI
      exact List.mem_map.2 ⟨j,List.mem_range.2 hj,rfl⟩
  ·right
   have hl:aCF t k k=some i:=by
    have hpre:∀ m,aCF t k (j+m)=some i:=by
     intro m
     induction m with
     |zero=>exact h1
     |succ m ih=>rw [←Nat.add_assoc,zJ,ih];rfl
    have:=hpre (k - j)
    rwa [show j+(k - j)=k by omega] at this
   have hf:=aHB hl
   have hi:=aIv hl
   have hff:fst t i=fst t k:=by rw [←hf,aIt,hf]
   refine ⟨a,?_,?_⟩
   ·simp only [kK,decide_eq_false (show ¬ a < 0 by omega),Bool.false_eq_true,if_false]
   ·rw [if_pos (by omega),h2,hff]
 ·refine ⟨a,?_,?_⟩
  ·simp only [jL,cQ,kK,Bool.false_eq_true,if_false]
  ·rcases hI with ⟨h1,rfl⟩|⟨i,h1,h2,_⟩
   ·have:=look_none h1
    rw [if_neg (by omega)]
   ·have hf:=aHB h1
    have hi:=aIv h1
    have hff:fst t i=fst t k:=by rw [←hf,aIt,hf]
    rw [if_pos (by omega),h2,hff]
theorem cls_ref (hv:dU t):uY t=some (cls t):=by
 have h40:=hv.1
 unfold uY
 rw [aEX hv,aD]
 have key0:=iW (step:=fun s:List Int × Int × Int=>kL (rW t (fin t)) s.1 s.2.1 s.2.2) t.N.toNat (fun i (a:List Int × Int)=>(a.1,a.2,(i:Int)))
  (fun i a=>a=(cn (pI t i),((dd (pI t i)).length:Int))) (fun r=>r=cls t) (fun i a hi hI=>?_) (fun a hI=>?_) t.N.toNat 0 ([],0) (by omega) rfl
 ·obtain ⟨r,h1,h2⟩:=key0
  have h1':loop (fun s:List Int × Int × Int=>kL (rW t (fin t)) s.1 s.2.1 s.2.2) (([]:List Int),0,0)=some r:=h1
  rw [h1',aD,h2];rfl
 ·subst hI
  simp only [kL,aCq,dA hi,if_pos]
  rw [cls_inner hv hi,aD]
  have hdl:(dd (pI t i)).length≤i:=by
   have h1:∀ x∈dd (pI t i),x∈pI t i:=fun x hx=>aEH.1 hx
   have key:∀ (l F:List Int),(l.foldl (aAS id) F).length≤F.length+l.length:=by
    intro l
    induction l with
    |nil=>intro F;simp
    |cons x l ih=>
     intro F
     rw [List.foldl_cons,List.length_cons]
     have h1:=ih (aAS id F x)
     have h2:=aJy (key:=id) F x
     omega
   have:=key (pI t i) []
   rw [aCr] at this
   simpa [dd] using this
  have hap:∀ v:Int,apd (cn (pI t i)) [v]=some (cn (pI t i)++[v]):=fun v=>iR (by rw [aIq,aCr];unfold lT;simp;omega)
  have hsn:cn (pI t (i+1))=cn (pI t i)++[atK id (dd (pI t i)) (fst t i:Int)]:=by rw [aHA,cn_snoc]
  have hdd:dd (pI t (i+1))=aAS id (dd (pI t i)) (fst t i:Int):=by rw [aHA,aIo]
  simp only [oV]
  by_cases hlt:fst t i < i
  ·have hm:(fst t i:Int)∈dd (pI t i):=aEH.2 (fst_mem.2 hlt)
   have h0:0≤pos (dd (pI t i)) (fst t i:Int):=aDT.2 hm
   rw [if_pos hlt,if_neg (by simp only [decide_eq_true_eq];omega)]
   simp only [lZ,hap,aD,oU,cI hi (show t.N.toNat < 4611686018427387904 by omega)]
   refine ⟨(_,_),rfl,?_⟩
   rw [hsn,hdd,aIp,if_pos hm]
   unfold aAS
   rw [List.map_id,if_pos (show id (fst t i:Int)∈dd (pI t i) from hm)]
  ·have hm:(fst t i:Int)∉dd (pI t i):=fun h=>hlt (fst_mem.1 (aEH.1 h))
   rw [if_neg hlt,if_pos (by decide)]
   simp only [lZ,hap,aD,oU,cI hi (show t.N.toNat < 4611686018427387904 by omega)]
   refine ⟨(_,_),rfl,?_⟩
   rw [hsn,hdd,aIp,if_neg hm]
   unfold aAS
   rw [List.map_id,if_neg (show ¬ id (fst t i:Int)∈dd (pI t i) from hm)]
   simp only [List.length_append,List.length_cons,List.length_nil,Prod.mk.injEq,true_and,wr]
   omega
 ·subst hI
  exact ⟨_,by simp only [kL,aCq,cQ];rfl,rfl⟩
noncomputable def mid (t:cH) (k:Nat) (c:Int):List Int:=(List.range t.N.toNat).map fun i:Nat=>if i < k then (fst t i:Int) else if i=k then c else (i:Int)
theorem mid_len (k:Nat) (c:Int):(mid t k c).length=t.N.toNat:=by simp [mid]
theorem mid_at {k:Nat} (hk:k < t.N.toNat) (c:Int):ix (mid t k c) (k:Int)=some c:=by
 rw [aAE,mid,List.getElem?_map,List.getElem?_range hk];simp
theorem mid_set {k:Nat} (hk:k < t.N.toNat) (c d:Int):st (mid t k c) (k:Int) d=some (mid t k d):=by
 unfold Gv.st
 rw [if_pos ⟨by omega,by rw [mid_len];omega⟩,Int.toNat_natCast]
 congr 1
 apply List.ext_getElem
 ·simp [mid]
 ·intro i h1 h2
  simp only [mid,List.getElem_set,List.getElem_map,List.getElem_range]
  by_cases e:k=i
  ·subst e;simp
  ·have e':¬ i=k:=fun h=>e h.symm
   rw [if_neg e]
   simp only [if_neg e']
theorem mid_next {k:Nat}:mid t k (fst t k:Int)=mid t (k+1) ((k:Int)+1):=by
 unfold mid
 refine List.map_congr_left fun i _=>?_
 by_cases h1:i < k
 ·rw [if_pos h1,if_pos (by omega)]
 ·rw [if_neg h1]
  by_cases h2:i=k
  ·subst h2;rw [if_pos rfl,if_pos (by omega)]
  ·rw [if_neg h2,if_neg (by omega)]
   by_cases h3:i=k+1
   ·subst h3;rw [if_pos rfl];omega
   ·rw [if_neg h3]
theorem mid_inner (hv:dU t) {k:Nat} (hk:k < t.N.toNat):loop (fun s:List Int × Int=>dS (xP (vQ t (fin t))) (k:Int) s.1 s.2) (mid t k (k:Int),0)=some (mid t k (fst t k:Int)):=by
 have h40:=hv.1
 have hK:inT t (k:Int):=by unfold inT;omega
 have key0:=iW (step:=fun s:List Int × Int=>dS (xP (vQ t (fin t))) (k:Int) s.1 s.2) k (fun i (a:List Int)=>(a,(i:Int)))
  (fun j a=>a=mid t k ((((aCF t k j).getD k:Nat):Int))) (fun r=>r=mid t k (fst t k:Int)) (fun j a hj hI=>?_) (fun a hI=>?_) k 0 (mid t k (k:Int)) (by omega) rfl
 ·obtain ⟨r,h1,h2⟩:=key0
  have h1':loop (fun s:List Int × Int=>dS (xP (vQ t (fin t))) (k:Int) s.1 s.2) (mid t k (k:Int),0)=some r:=h1
  rw [h1',h2]
 ·subst hI
  have hJ:inT t (j:Int):=by unfold inT;omega
  have he:eqv t (k:Int) (j:Int)=(gs t (k:Int) (j:Int)&&gs t (j:Int) (k:Int)):=rfl
  simp only [dS,dA hj,if_pos,aFp hK hJ,aFp hJ hK]
  have hno:eqv t (k:Int) (j:Int)=false→aCF t k (j+1)=aCF t k j:=fun h=>by rw [zJ,h];cases aCF t k j<;>rfl
  cases g1:gs t (k:Int) (j:Int) with
  |false=>
   simp only [Bool.false_eq_true,if_false,eS,eR,cI hj (show k < 4611686018427387904 by omega)]
   exact ⟨_,rfl,by rw [hno (by rw [he,g1];rfl)]⟩
  |true=>
   cases g2:gs t (j:Int) (k:Int) with
   |false=>
    simp only [Bool.false_eq_true,if_false,if_pos,eS,eR,cI hj (show k < 4611686018427387904 by omega)]
    exact ⟨_,rfl,by rw [hno (by rw [he,g1,g2];rfl)]⟩
   |true=>
    simp only [if_pos,eS,mid_at hk,aD,mid_set hk,eR,cI hj (show k < 4611686018427387904 by omega)]
    refine ⟨_,rfl,?_⟩
    congr 1
    rw [zJ,he,g1,g2]
    cases hl:aCF t k j with
    |none=>simp [mnI];omega
    |some i=>
     have:=aIv hl
     simp [mnI];omega
 ·subst hI
  exact ⟨_,by simp only [dS,cQ];rfl,by rw [aGF]⟩
theorem upTo_eq (hv:dU t):aCg t.N=some ((List.range t.N.toNat).map Int.ofNat):=by
 have h40:=hv.1
 obtain ⟨n,hn⟩:∃ n:Nat,t.N=(n:Int):=⟨t.N.toNat,by omega⟩
 have hn40:n≤40:=by omega
 unfold aCg
 have:=aEF (n:=n) (by omega) (fun _=>true) (step:=fun s:List Int × Int=>rJ t.N s.1 s.2) (fun k out hk ho=>by
  simp only [rJ,hn,dA hk,if_pos,cI hk (show n < 4611686018427387904 by omega)]
  rw [iR (show out.length+([(k:Int)]:List Int).length≤lT by simp [lT];omega),aD]) (fun out=>by simp only [rJ,hn,cQ];rfl)
 rw [this,aD,List.filter_eq_self.2 (fun _ _=>rfl),hn,Int.toNat_natCast];rfl
theorem cls_prog (hv:dU t):gW t=some (cls t):=by
 have h40:=hv.1
 unfold gW
 rw [aJF hv,aD,upTo_eq hv,aD]
 have hst:(List.range t.N.toNat).map Int.ofNat=mid t 0 ((0:Nat):Int):=by
  unfold mid
  refine List.map_congr_left fun i _=>?_
  rw [if_neg (by omega)]
  by_cases e:i=0
  ·subst e;rw [if_pos rfl];rfl
  ·rw [if_neg e];rfl
 rw [hst]
 have key0:=iW (step:=fun s:List Int × Int=>eU t (xP (vQ t (fin t))) s.1 s.2) t.N.toNat (fun i (a:List Int)=>(a,(i:Int)))
  (fun i a=>a=mid t i (i:Int)) (fun r=>r=mid t t.N.toNat (t.N.toNat:Int)) (fun i a hi hI=>?_) (fun a hI=>?_) t.N.toNat 0 (mid t 0 ((0:Nat):Int)) (by omega) rfl
 ·obtain ⟨r,h1,h2⟩:=key0
  have h1':loop (fun s:List Int × Int=>eU t (xP (vQ t (fin t))) s.1 s.2) (mid t 0 ((0:Nat):Int),0)=some r:=h1
  rw [h1',aD,h2]
  unfold hX
  rw [normal_eq _ (by rw [mid_len];omega),aD,cls_eq]
  congr 2
  unfold mid pI
  refine List.map_congr_left fun i hi=>?_
  rw [if_pos (List.mem_range.1 hi)]
 ·subst hI
  have:decide ((i:Int) < t.N)=true:=by simp;omega
  simp only [eU,this,if_pos]
  rw [mid_inner hv hi,aD]
  simp only [hY,jD,cI hi (show t.N.toNat < 4611686018427387904 by omega)]
  exact ⟨_,rfl,by rw [mid_next];rfl⟩
 ·subst hI
  have:decide (((t.N.toNat:Nat):Int) < t.N)=false:=by simp;omega
  exact ⟨_,by simp only [eU,this];rfl,rfl⟩
theorem aIw (hv:dU t) {z:Int} (h:z∈cls t):0≤z∧z < 40:=by
 have:=cn_in (l:=pI t t.N.toNat) h
 rw [aCr] at this
 have h40:=hv.1
 omega
theorem aEa:(cls t).length=t.N.toNat:=by rw [cls_eq,aIq,aCr]
end
end Gv
namespace Gv
open Go
theorem aJG {p:List Int} (hl:p.length < 1000000) (h1:1≤p.length) (hp:∀ z∈p,0≤z∧z < 40):∃ b,rK p=some b∧aCO p b:=by
 have h0:=hp _ (List.getElem_mem (show 0 < p.length by omega))
 have key0:=iW (step:=fun s:Int × Int=>dN p s.1 s.2) p.length (fun i (a:Int)=>(a,(i:Int)))
  (fun i a=>aCO (p.take i) (a+1)) (fun r=>aCO p (r+1)) (fun i a hi hI=>?_) (fun a hI=>?_) (p.length - 1) 1 (p[0]'(by omega)) (by omega) ?_
 ·obtain ⟨r,g1,g2⟩:=key0
  have g1':loop (fun s:Int × Int=>dN p s.1 s.2) (p[0]'(by omega),1)=some r:=g1
  refine ⟨r+1,?_,g2⟩
  obtain ⟨⟨z,hz,e⟩,_⟩:=g2
  have hzz:=hp z hz
  unfold rK iX
  rw [if_neg (by simp;omega)]
  unfold iD
  rw [show (0:Int)=((0:Nat):Int) from rfl,dD (xs:=p) (k:=0) (by omega),aD,g1',aD]
  simp only [fU,aD]
  rw [iN (by omega) (by omega)]
 ·have hz:=hp _ (List.getElem_mem hi)
  have htk:p.take (i+1)=p.take i++[p[i]]:=by rw [List.take_add_one,List.getElem?_eq_getElem hi];rfl
  simp only [dN,dA hi,if_pos,dD hi,aD,cI hi (show p.length < 4611686018427387904 by omega)]
  refine ⟨_,rfl,?_⟩
  obtain ⟨⟨x,hx,h2⟩,h3⟩:=hI
  rw [htk]
  unfold mxI
  by_cases h:p[i] > a
  ·rw [if_pos h]
   refine ⟨⟨p[i],List.mem_append_right _ (by simp),rfl⟩,fun z hz=>?_⟩
   rcases List.mem_append.1 hz with hz|hz
   ·have:=h3 z hz;omega
   ·simp at hz;subst hz;omega
  ·rw [if_neg h]
   refine ⟨⟨x,List.mem_append_left _ hx,h2⟩,fun z hz=>?_⟩
   rcases List.mem_append.1 hz with hz|hz
   ·exact h3 z hz
   ·simp at hz;subst hz;omega
 ·refine ⟨a,by simp only [dN,cQ];rfl,?_⟩
  rwa [List.take_length] at hI
 ·have:p.take 1=[p[0]'(by omega)]:=by
   rcases p with _|⟨a,l⟩
   ·simp at h1
   ·simp
  rw [this]
  exact ⟨⟨_,by simp,rfl⟩,fun z hz=>by simp at hz;subst hz;omega⟩
section
variable {t:cH}
theorem quo_prog (hv:dU t) {p:List Int} (hp:p.length=t.N.toNat) {b:Int} (hb:rK p=some b):nT t p=some (quoL t p b):=by
 have h300:=hv.2.2.2.1
 have h12:=hv.2.2.1.2.1
 have h40:=hv.1
 have hi:=hv.2.1
 unfold nT
 rw [aHx hp (s:=t.I) (by omega),aD,hb,aD,aEG _ (by unfold lT;omega),aD]
 unfold pZ
 rw [aHn (step:=fun s:List Edge × Int=>kD t p s.1 s.2) t.E (fun e=>(⟨bk p e.F,e.B,bk p e.To⟩:Edge)) id (fun k out x hk ho hx=>by
  obtain ⟨_,rfl⟩:=vY hx
  have hT:=vM hv (List.getElem_mem hk)
  have h1:=hT.1
  have h2:=hT.2.1
  unfold inT at h1 h2
  simp only [kD,dA hk,if_pos,hx,aD,kZ,aHx hp (s:=t.E[k].F) (by omega),aHx hp (s:=t.E[k].To) (by omega),mM,cI hk (show t.E.length < 4611686018427387904 by omega)]
  rw [iR (by simp [lT];omega),aD]) (fun out=>by simp only [kD,cQ];rfl),aD]
 have hl:(aDr t p).length=t.E.length:=by unfold aDr;rw [List.length_map]
 unfold mL wW
 rw [show id (t.E.map fun e=>(⟨bk p e.F,e.B,bk p e.To⟩:Edge))=aDr t p from rfl,show tK (aDr t p)=some (srt cY (aDr t p)) from by unfold tK;rw [if_pos (by unfold lT;omega)],aD,aGW _ (by unfold srt;rw [List.length_mergeSort];omega),aD,aD]
 rfl
noncomputable def xX (t:cH) (e:Edge):Bool:=t.E.any fun f=>f.F == e.F&&f.B == e.B&&gs t e.To f.To&&!gs t f.To e.To
noncomputable def prn (t:cH):cH:=onlyL t fun e=>!xX t e
theorem prune_ref (hv:dU t):aAg t=some (prn t):=by
 have h300:=hv.2.2.2.1
 have h12:=hv.2.2.1.2.1
 have hw:∀ k,k < t.E.length→wr ((k:Int)+1)=((k+1:Nat):Int):=fun k hk=>cI hk (by omega)
 have hin:∀ e∈t.E,loop (fun s:Bool × Int=>iT t (rW t (fin t)) e s.1 s.2) (false,0)=some (xX t e):=by
  intro e he
  have hE:=vM hv he
  have:=uF (step:=fun s:Bool × Int=>iT t (rW t (fin t)) e s.1 s.2) t.E (fun k (a:Bool)=>(a,(k:Int))) (fun l a=>a||l.any fun f=>f.F == e.F&&f.B == e.B&&gs t e.To f.To&&!gs t f.To e.To) (fun _ _=>True)
   (fun k a x l hk hx _=>?_) (fun a _=>by simp only [iT,cQ];simp) (a:=false) trivial
  ·have this':loop (fun s:Bool × Int=>iT t (rW t (fin t)) e s.1 s.2) (false,0)=some (false||t.E.any fun f=>f.F == e.F&&f.B == e.B&&gs t e.To f.To&&!gs t f.To e.To):=this
   rw [this',Bool.false_or];rfl
  ·left
   obtain ⟨_,rfl⟩:=vY hx
   have hF:=vM hv (List.getElem_mem hk)
   simp only [iT,dA hk,if_pos,hx,aD,iS,hw k hk,aCA hE.2.1,aCA hF.2.1,aFo hE.2.1 hF.2.1,aFo hF.2.1 hE.2.1]
   rw [List.any_cons]
   show ∃ a',_∧_∧_
   have hg:∀ x y,gs t x y=sN t (fin t) x y:=fun _ _=>rfl
   simp only [hg]
   cases a with
   |true=>exact ⟨true,by rw [if_pos rfl],trivial,by simp⟩
   |false=>
    rw [if_neg (by simp)]
    cases (t.E[k].F == e.F) with
    |false=>exact ⟨false,by simp,trivial,by simp⟩
    |true=>
     cases (t.E[k].B == e.B) with
     |false=>exact ⟨false,by simp,trivial,by simp⟩
     |true=>
      cases sN t (fin t) e.To t.E[k].To with
      |false=>exact ⟨false,by simp,trivial,by simp⟩
      |true=>exact ⟨!sN t (fin t) t.E[k].To e.To,by simp,trivial,by simp⟩
 unfold aAg aDE
 rw [iR (by simp [lT];omega),aD,iR (by simp [lT];omega),aD,aD]
 unfold wS
 rw [aEX hv,aD]
 have:=uF (step:=fun s:List Edge × List Edge × Int=>jP t (rW t (fin t)) s.1 s.2.1 s.2.2) t.E (fun k (a:List Edge × List Edge)=>(a.1,a.2,(k:Int))) (fun l a=>(a.1++l.filter (xX t),a.2++l.filter fun e=>!xX t e)) (fun k a=>a.1.length≤k∧a.2.length≤k)
  (fun k a x l hk hx hI=>?_) (fun a _=>by simp only [jP,cQ];simp) (a:=(([]:List Edge),([]:List Edge))) ⟨by simp,by simp⟩
 ·have this':loop (fun s:List Edge × List Edge × Int=>jP t (rW t (fin t)) s.1 s.2.1 s.2.2) (([]:List Edge),([]:List Edge),0)=some ([]++t.E.filter (xX t),[]++t.E.filter fun e=>!xX t e):=this
  rw [this',aD]
  simp only [nM,aD,List.nil_append]
  rfl
 ·left
  obtain ⟨_,rfl⟩:=vY hx
  obtain ⟨i1,i2⟩:=hI
  simp only [jP,dA hk,if_pos,hx,aD,hin _ (List.getElem_mem hk),nO,nN,hw k hk,List.filter_cons]
  cases xX t t.E[k] with
  |true=>
   rw [if_pos rfl,iR (by simp [lT];omega),aD]
   exact ⟨(a.1++[t.E[k]],a.2),rfl,⟨by simp;omega,by show a.2.length≤k+1;omega⟩,by simp⟩
  |false=>
   rw [if_neg (by simp),iR (by simp [lT];omega),aD]
   exact ⟨(a.1,a.2++[t.E[k]]),rfl,⟨by show a.1.length≤k+1;omega,by simp;omega⟩,by simp⟩
theorem aKw (hv:dU t):jI t=some (prn t):=by
 have h300:=hv.2.2.2.1
 have h12:=hv.2.2.1.2.1
 have hw:∀ k,k < t.E.length→wr ((k:Int)+1)=((k+1:Nat):Int):=fun k hk=>cI hk (by omega)
 have hc:∀ e∈t.E,jF e t (xP (vQ t (fin t)))=some (!xX t e):=by
  intro e he
  have hE:=vM hv he
  unfold jF kC eA eN
  rw [vZ (step:=fun s=>cR t.E e (xP (vQ t (fin t))) s) t.E (fun f=>f.F == e.F&&f.B == e.B&&gs t e.To f.To&&!gs t f.To e.To) (fun k x hk hx=>by
   obtain ⟨_,rfl⟩:=vY hx
   have hF:=vM hv (List.getElem_mem hk)
   simp only [cR,dA hk,if_pos,hx,aD,jE,dT,aFp hE.2.1 hF.2.1,aFp hF.2.1 hE.2.1,hw k hk]
   cases (t.E[k].F == e.F)<;>cases (t.E[k].B == e.B)<;>cases gs t e.To t.E[k].To<;>cases gs t t.E[k].To e.To<;>simp) (by simp only [cR,cQ];rfl),aD]
  unfold xX
  rw [←aDP]
  cases t.E.findIdx? (fun f=>f.F == e.F&&f.B == e.B&&gs t e.To f.To&&!gs t f.To e.To) with
  |none=>rfl
  |some i=>rfl
 unfold jI mK
 rw [aJF hv,aD,aD]
 unfold aBD
 rw [aAC (step:=fun s:List Edge × Int=>pT t t (xP (vQ t (fin t))) s.1 s.2) t.E (fun e=>!xX t e) id id (fun k out x hk ho hx=>by
  obtain ⟨_,rfl⟩:=vY hx
  simp only [pT,dA hk,if_pos,hx,aD,hc _ (List.getElem_mem hk),sO,hw k hk]
  rw [iR (by simp [lT];omega),aD]
  cases xX t t.E[k]<;>rfl) (fun out=>by simp only [pT,cQ];rfl),aD]
 have hfl:=List.length_filter_le (fun e=>!xX t e) t.E
 unfold sM
 rw [aD]
 unfold aAz fF
 simp only [aEG _ (show t.L.length≤lT by unfold lT;omega),aD,id,List.map_id',List.map_id]
 rw [iR (by simp [lT];omega),aD,aD,aD]
 rfl
theorem aJH (t:cH) (ht:oR sz t):∃ R:cH × Int,kS t=some R∧jJ t=some R∧oR sz R.1:=by
 have hz:oR sz (⟨0,0,[],[]⟩:cH):=⟨by simp,by simp,by simp⟩
 have ht9:=ht.mono (b:=999999999) (by decide)
 unfold kS jJ
 rw [l11Is_eq t ht9,aD,aJp t ht9,aD]
 by_cases hv:dU t
 ·rw [aDm hv,if_neg (by simp),if_neg (by simp)]
  have h40:=hv.1
  have hRl:=RL_len t
  rw [aEV hv,aDW hv,aD,aD,aGu hv (by omega),part_eq hv (by omega) (aIl _),aD,aD]
  have hk:=keep_ok hv
  generalize hr:keepL t (RL t)=r at hk
  have hlab:r.L=t.L:=by rw [←hr];rfl
  unfold lA
  show ∃ R:cH × Int,_∧(ob (gW r) fun r124=>ob (nT r r124) fun r147=>ob (jI r147) fun r168=>jG r168.N r168.I r168.L r168.E)=some R∧_
  have hc1:1≤(cls r).length:=by rw [aEa];have:=hk.1;omega
  have hcl:(cls r).length < 1000000:=by rw [aEa];have:=hk.1;omega
  obtain ⟨b,b1,b2⟩:=aKv hcl hc1 fun z hz=>aIw hk hz
  obtain ⟨b',b3,b4⟩:=aJG hcl hc1 fun z hz=>aIw hk hz
  obtain rfl:=b2.uniq b4
  rw [cls_ref hk,aD,cls_prog hk,aD,quo_ref hk aEa b1,aD,quo_prog hk aEa b3,aD]
  have hb40:1≤b∧b≤40:=by
   obtain ⟨⟨z,hz,e⟩,_⟩:=b2
   have:=aIw hk hz
   omega
  have hq:=quo_ok hk aEa hb40 fun z hz=>by
   have:=aIw hk hz
   have:=b2.2 z hz
   omega
  generalize hqq:quoL r (cls r) b=q at hq
  have hlabq:q.L=t.L:=by rw [←hqq];exact hlab
  rw [prune_ref hq,aD,aKw hq,aD]
  have hp:dU (prn q):=only_ok hq _
  have hlabp:(prn q).L=t.L:=hlabq
  generalize prn q=z at hp hlabp
  unfold jG
  show ∃ R:cH × Int,_∧(ob (kM z) fun r68=>ob (tN z r68) fun r92=>some (r92,0))=some R∧_
  have hzl:=RL_len z
  have hz40:=hp.1
  rw [aEV hp,aDW hp,aD,aD,aGu hp (by omega),part_eq hp (by omega) (aIl _),aD]
  refine ⟨_,rfl,rfl,?_,?_,?_⟩
  ·show z.L.length≤sz
   rw [hlabp];exact ht.1
  ·show ∀ s∈z.L,s.length≤sz
   rw [hlabp];exact ht.2.1
  ·have h1:=aEE z (RL z)
   have h2:=hp.2.2.2.1
   show (aDV z (RL z)).length≤sz
   unfold sz;omega
 ·rw [vP hv,if_pos (by simp),if_pos (by simp)]
  exact ⟨_,rfl,rfl,hz⟩
end
end Gv
namespace Gv
open Go
theorem lawMS (a:cH) (ha:oR 9223372036854775807 a):jH a=some true:=by
 obtain ⟨r,hr,h1⟩:=aKc (t:=a) (left:=1048576) (by omega) (by decide) ha
 unfold jH
 rw [hr,aD]
 by_cases hn:r < 0
 ·rw [if_pos (by simpa using hn)]
 rw [if_neg (by simpa using hn)]
 obtain ⟨hrl,hfit⟩:=h1 (by omega)
 have t1:=toLts_eq (hfit.mono sz_lim)
 obtain ⟨R,s1,i1,pf⟩:=aJH a hfit
 have e1:=aJh R.1 R.1 (pf.mono (by decide))
 rw [decide_eq_true (p:=R.1=R.1) rfl] at e1
 have e3:=aJh a a (hfit.mono (by decide))
 rw [decide_eq_true (p:=a=a) rfl] at e3
 obtain ⟨k,Ls,Es,m1,m2,m3⟩:=mark_one pf
 have k1:=aGw hfit a.N a.I (k:=1) (by omega) (by omega)
 obtain ⟨⟨R1,R2,R3,R4⟩,R8⟩:=R
 simp only at *
 simp only [t1,aD]
 rw [s1,aD]
 simp only [i1,e1,aD,Bool.not_true,Bool.false_eq_true,if_false,bne_self_eq_false]
 unfold fZ
 simp only [Bool.false_eq_true,if_false,t1,e3,k1,aD,Bool.not_true,e1,bne_self_eq_false]
 rw [if_neg (by simp only [decide_eq_true_eq];omega)]
 unfold eW
 simp only [Bool.false_eq_true,if_false,m1,m2,aD]
 rw [if_neg (by simp only [decide_eq_true_eq];omega),if_neg (by simp)]
 simp only [t1,i1,aD,e1,Bool.not_true,Bool.false_eq_true,if_false,bne_self_eq_false]
 unfold fY
 simp only [Bool.false_eq_true,if_false,m2,aD]
 rw [if_neg (by simp only [decide_eq_true_eq];omega),if_neg (by simp)]
end Gv
