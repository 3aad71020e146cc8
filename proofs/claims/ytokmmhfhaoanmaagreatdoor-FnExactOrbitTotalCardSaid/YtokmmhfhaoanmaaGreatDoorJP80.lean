/- Greatest simulations by rounds. No program in sight. -/
import Derived.Test.YtokmmhfhaoanmaaGreatDoorJP62
set_option linter.all false
namespace Gv
open Go
def inT (t:iQ) (s:Int):Prop:=0<=s/\s < t.N
def sR (t:iQ) (S:Int->Int->Bool) (x y:Int):Bool:=S x y&&t.E.all fun e=>!(e.F == x)||t.E.any fun f=>f.F == y&&f.B == e.B&&S e.To f.To
def sN (t:iQ):Nat->Int->Int->Bool
 |0=>fun _ _=>true
 |n+1=>sR t (sN t n)
section
variable {t:iQ}
theorem sR_true {S:Int->Int->Bool} {x y:Int}:sR t S x y=true<->S x y=true/\∀ e∈t.E,e.F=x->∃ f∈t.E,f.F=y/\f.B=e.B/\S e.To f.To=true:=by
 unfold sR
 rw [Bool.and_eq_true,List.all_eq_true]
 refine and_congr Iff.rfl ⟨fun h e he hx=>?_,fun h e he=>?_⟩
 ·have:=h e he
  rw [hx] at this
  simp only [beq_self_eq_true,Bool.not_true,Bool.false_or,List.any_eq_true,Bool.and_eq_true,beq_iff_eq] at this
  obtain ⟨f,hf,⟨h1,h2⟩,h3⟩:=this
  exact ⟨f,hf,h1,h2,h3⟩
 ·by_cases hx:e.F=x
  ·obtain ⟨f,hf,h1,h2,h3⟩:=h e he hx
   rw [Bool.or_eq_true,List.any_eq_true]
   right
   exact ⟨f,hf,by simp [h1,h2,h3]⟩
  ·simp [hx]
theorem sN_le {n:Nat} {x y:Int} (h:sN t (n+1) x y=true):sN t n x y=true:=(sR_true.1 h).1
def prs (t:iQ):List (Int × Int):=(List.range t.N.toNat).flatMap fun x:Nat=>(List.range t.N.toNat).map fun y:Nat=>((x:Int),(y:Int))
theorem prs_mem {p:Int × Int}:p∈prs t<->inT t p.1/\inT t p.2:=by
 obtain ⟨a,b⟩:=p
 unfold prs inT
 simp only [List.mem_flatMap,List.mem_map,List.mem_range,Prod.mk.injEq]
 constructor
 ·rintro ⟨x,hx,y,hy,rfl,rfl⟩
  omega
 ·rintro ⟨⟨h1,h2⟩,h3,h4⟩
  exact ⟨a.toNat,by omega,b.toNat,by omega,by omega,by omega⟩
def lft (t:iQ) (n:Nat):List (Int × Int):=(prs t).filter fun p=>sN t n p.1 p.2
def stab (t:iQ) (n:Nat):Prop:=∀ x y:Int,inT t x->inT t y->sN t (n+1) x y=sN t n x y
theorem lft_mem {n:Nat} {p:Int × Int}:p∈lft t n<->(inT t p.1/\inT t p.2)/\sN t n p.1 p.2=true:=by
 unfold lft
 rw [List.mem_filter,prs_mem]
theorem aTT (n:Nat):lft t (n+1)=(lft t n).filter fun p=>sN t (n+1) p.1 p.2:=by
 unfold lft
 rw [List.filter_filter]
 refine List.filter_congr fun p _=>?_
 cases h:sN t (n+1) p.1 p.2 with
 |false=>rfl
 |true=>rw [sN_le h];rfl
theorem lft_le (n:Nat):(lft t (n+1)).length<=(lft t n).length:=by rw [aTT];exact List.length_filter_le _ _
theorem stab_iff (n:Nat):stab t n<->(lft t (n+1)).length=(lft t n).length:=by
 rw [aTT,List.length_filter_eq_length_iff]
 constructor
 ·intro h p hp
  have:=lft_mem.1 hp
  rw [h _ _ this.1.1 this.1.2];exact this.2
 ·intro h x y hx hy
  cases h1:sN t n x y with
  |true=>exact h (x,y) (lft_mem.2 ⟨⟨hx,hy⟩,h1⟩)
  |false=>
   cases h2:sN t (n+1) x y with
   |false=>rfl
   |true=>rw [sN_le h2] at h1;cases h1
theorem stab_ex:∃ n,stab t n:=by
 refine Classical.byContradiction fun h=>?_
 have h':∀ n,¬ stab t n:=fun n hn=>h ⟨n,hn⟩
 have key:∀ n,(lft t n).length+n<=(lft t 0).length:=by
  intro n
  induction n with
  |zero=>simp
  |succ n ih=>
   have h1:=lft_le (t:=t) n
   have h2:=h' n
   rw [stab_iff] at h2
   omega
 have:=key ((lft t 0).length+1)
 omega
theorem stab_min:∃ n,stab t n/\∀ m,m < n->¬ stab t m:=by
 obtain ⟨n,hn⟩:=stab_ex (t:=t)
 induction n using Nat.strongRecOn with
 |ind n ih=>
  by_cases h:∃ m,m < n/\stab t m
  ·obtain ⟨m,hm,hs⟩:=h
   exact ih m hm hs
  ·exact ⟨n,hn,fun m hm hs=>h ⟨m,hm,hs⟩⟩
noncomputable def fin (t:iQ):Nat:=Classical.choose (stab_min (t:=t))
noncomputable def gs (t:iQ) (x y:Int):Bool:=sN t (fin t) x y
noncomputable def eqv (t:iQ) (x y:Int):Bool:=gs t x y&&gs t y x
noncomputable def fst (t:iQ) (k:Nat):Nat:=((List.range k).find? fun j:Nat=>eqv t (k:Int) (j:Int)).getD k
end
end Gv
namespace Gv
open Go
theorem aQJ (s:List Edge) (h:s.length < 1000000000):dN s=some (gX s):=by
 unfold dN
 by_cases h2:s.length < 2
 ·rw [if_pos (by simp;omega)]
  rcases s with _|⟨a,_|⟨b,l⟩⟩
  ·rfl
  ·rfl
  ·simp at h2;omega
 rw [if_neg (by simp;omega)]
 have:=aMz (step:=fun k=>dC s k) s.length (fun k (_:Unit)=>(k:Int)) (fun k _=>1<=k/\gX (s.take k)=s.take k) (fun r=>r=.inr (gX s)\/(r=.inl ()/\gX s=s)) (fun k a hk hI=>?_) (fun a hI=>?_) (s.length - 1) 1 () (by omega) ⟨Nat.le_refl _,?_⟩
 ·obtain ⟨r,hr,hR⟩:=this
  rw [show (1:Int)=((1:Nat):Int) from rfl,hr,aA]
  rcases hR with rfl|⟨rfl,h⟩
  ·rfl
  ·rw [h];rfl
 ·obtain ⟨i1,i2⟩:=hI
  have hk1:wr ((k:Int) - 1)=((k - 1:Nat):Int):=by rw [eG (by omega) (by omega)];omega
  have hdt:=aEw (s:=s) (m:=k) i1 hk
  simp only [dC,aY hk,if_pos,aU hk,aA,hk1,aU (xs:=s) (k:=k - 1) (by omega),eE,aV hk (show s.length < 4611686018427387904 by omega)]
  by_cases e:s[k]=s[k - 1]'(by omega)
  ·right
   rw [if_pos e.symm,i2] at hdt
   rw [if_pos (by simpa using e),aGn (by omega),aA]
   obtain ⟨s',w,hl,g1,g2,g3⟩:=aKw (step:=fun x:List Edge × Int × Int=>dB (k:Int) (s.drop k) x.1 x.2.1 x.2.2) s k i1 hk hdt (fun j w s' x y j1 j2 j3 j4 hx hy=>by
    have hl:(s.drop k).length=s.length - k:=by simp
    have a1:(k:Int)+(j:Int)=((k+j:Nat):Int):=by omega
    have a2:wr ((j:Int) - 1)=((j - 1:Nat):Int):=by rw [eG (by omega) (by omega)];omega
    have a3:(k:Int)+((j - 1:Nat):Int)=((k+j - 1:Nat):Int):=by omega
    simp only [dB,hl,aY (show j < s.length - k by omega),if_pos,aU (xs:=s.drop k) (k:=j) (by omega),aA,a1,gK,hx,a2,List.getElem?_eq_getElem (show j - 1 < (s.drop k).length by omega),a3,hy,dA,aV (show j < s.length - k by omega) (by omega),List.getElem?_eq_getElem (show w < s'.length by omega),oO (xs:=s') (k:=w) _ (by omega),aV j4 (show s.length < 4611686018427387904 by omega)]
    by_cases e:x=y<;>simp [e]) (fun s' w=>by
     have hl:(s.drop k).length=s.length - k:=by simp
     simp only [dB,hl,bE];rfl)
   rw [hl,aA]
   unfold eF
   simp only
   rw [aGn (by omega),aA,aLg _ (by omega),aA,slc_to (by simp;omega),aA]
   refine ⟨_,rfl,.inl ?_⟩
   rw [List.take_append_of_le_length (by simp;omega),List.take_take,Nat.min_self,g3]
  ·left
   rw [if_neg (by simpa using e)]
   refine ⟨(),rfl,by omega,?_⟩
   rw [hdt,if_neg (fun h=>e h.symm),i2,List.take_add_one]
   simp [hk]
 ·refine ⟨_,by simp only [dC,bE];rfl,.inr ⟨rfl,?_⟩⟩
  have:=hI.2
  rwa [List.take_of_length_le (by omega)] at this
 ·rcases s with _|⟨a,l⟩
  ·rfl
  ·rfl
def bk (p:List Int) (s:Int):Int:=p.getD s.toNat 0
theorem aRo {a b:Edge} (h:cO b a=false) (hne:a≠b):cO a b=true:=by
 rcases aOa a b with g|g|g
 ·exact g
 ·exact absurd g hne
 ·rw [h] at g;cases g
theorem aRp {a b c:Edge} (h:cO a b=true) (h':cO c b=false):cO a c=true:=by
 by_cases e:b=c
 ·subst e;exact h
 ·exact aHq h (aRo h' e)
theorem edges_mk {t:iQ} (h300:t.E.length<=300) (hs:SE t.E) (hin:∀ e∈t.E,aJj t e):EdgesOk t:=
 ⟨h300,fun k hk=>⟨hin _ (List.getElem_mem hk),fun h1=>List.pairwise_iff_getElem.1 hs (k - 1) k (by omega) hk (by omega)⟩⟩
end Gv
namespace Gv
open Go
section
variable {t:iQ}
theorem edge_T (hv:nE t) {e:Edge} (he:e∈t.E):inT t e.F/\inT t e.To/\0<=e.B/\e.B < t.L.length:=by
 have:=aSu hv he
 unfold aJj at this
 unfold inT;omega
end
end Gv
namespace Gv
open Go
end Gv
