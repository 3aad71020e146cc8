/- Greatest simulations by rounds. No program in sight. -/
import Derived.Test.YtkcggmmjnpdgnaaGreatDoorJP62
set_option linter.all false
namespace Gv
open Go
def lU (t:cB) (s:Int):Prop:=0<=s/\s < t.N
def sR (t:cB) (S:Int->Int->Bool) (x y:Int):Bool:=S x y&&t.E.all fun e=>!(e.F == x)||t.E.any fun f=>f.F == y&&f.B == e.B&&S e.To f.To
def sN (t:cB):Nat->Int->Int->Bool
 |0=>fun _ _=>true
 |n+1=>sR t (sN t n)
section
variable {t:cB}
theorem sR_true {S:Int->Int->Bool} {x y:Int}:sR t S x y=true<->S x y=true/\∀ e∈t.E,e.F=x->∃ f∈t.E,f.F=y/\f.B=e.B/\S e.To f.To=true:=by
 unfold sR
 rw [Bool.and_eq_true,List.all_eq_true]
 refine and_congr Iff.rfl ⟨fun h e he hx=>?_,fun h e he=>?_⟩
 ·have:=h e he
  rw [hx] at this
  simp only [beq_self_eq_true,Bool.not_true,Bool.false_or,List.any_eq_true,Bool.and_eq_true,beq_iff_eq] at this
  obtain ⟨f,hf,⟨h1,h2⟩,h3⟩:=this
  exact ⟨f,hf,h1,h2,h3⟩
 ·by_cases hx:e.F=x
  ·obtain ⟨f,hf,h1,h2,h3⟩:=h e he hx
   rw [Bool.or_eq_true,List.any_eq_true]
   right
   exact ⟨f,hf,by simp [h1,h2,h3]⟩
  ·simp [hx]
theorem sN_le {n:Nat} {x y:Int} (h:sN t (n+1) x y=true):sN t n x y=true:=(sR_true.1 h).1
def prs (t:cB):List (Int × Int):=(List.range t.N.toNat).flatMap fun x:Nat=>(List.range t.N.toNat).map fun y:Nat=>((x:Int),(y:Int))
theorem prs_mem {p:Int × Int}:p∈prs t<->lU t p.1/\lU t p.2:=by
 obtain ⟨a,b⟩:=p
 unfold prs lU
 simp only [List.mem_flatMap,List.mem_map,List.mem_range,Prod.mk.injEq]
 constructor
 ·rintro ⟨x,hx,y,hy,rfl,rfl⟩
  omega
 ·rintro ⟨⟨h1,h2⟩,h3,h4⟩
  exact ⟨a.toNat,by omega,b.toNat,by omega,by omega,by omega⟩
def lft (t:cB) (n:Nat):List (Int × Int):=(prs t).filter fun p=>sN t n p.1 p.2
def stab (t:cB) (n:Nat):Prop:=∀ x y:Int,lU t x->lU t y->sN t (n+1) x y=sN t n x y
theorem lft_mem {n:Nat} {p:Int × Int}:p∈lft t n<->(lU t p.1/\lU t p.2)/\sN t n p.1 p.2=true:=by
 unfold lft
 rw [List.mem_filter,prs_mem]
theorem aOt (n:Nat):lft t (n+1)=(lft t n).filter fun p=>sN t (n+1) p.1 p.2:=by
 unfold lft
 rw [List.filter_filter]
 refine List.filter_congr fun p _=>?_
 cases h:sN t (n+1) p.1 p.2 with
 |false=>rfl
 |true=>rw [sN_le h];rfl
theorem lft_le (n:Nat):(lft t (n+1)).length<=(lft t n).length:=by rw [aOt];exact List.length_filter_le _ _
theorem stab_iff (n:Nat):stab t n<->(lft t (n+1)).length=(lft t n).length:=by
 rw [aOt,List.length_filter_eq_length_iff]
 constructor
 ·intro h p hp
  have:=lft_mem.1 hp
  rw [h _ _ this.1.1 this.1.2];exact this.2
 ·intro h x y hx hy
  cases h1:sN t n x y with
  |true=>exact h (x,y) (lft_mem.2 ⟨⟨hx,hy⟩,h1⟩)
  |false=>
   cases h2:sN t (n+1) x y with
   |false=>rfl
   |true=>rw [sN_le h2] at h1;cases h1
theorem stab_ex:∃ n,stab t n:=by
 refine Classical.byContradiction fun h=>?_
 have h':∀ n,¬ stab t n:=fun n hn=>h ⟨n,hn⟩
 have key:∀ n,(lft t n).length+n<=(lft t 0).length:=by
  intro n
  induction n with
  |zero=>simp
  |succ n ih=>
   have h1:=lft_le (t:=t) n
   have h2:=h' n
   rw [stab_iff] at h2
   omega
 have:=key ((lft t 0).length+1)
 omega
theorem stab_min:∃ n,stab t n/\∀ m,m < n->¬ stab t m:=by
 obtain ⟨n,hn⟩:=stab_ex (t:=t)
 induction n using Nat.strongRecOn with
 |ind n ih=>
  by_cases h:∃ m,m < n/\stab t m
  ·obtain ⟨m,hm,hs⟩:=h
   exact ih m hm hs
  ·exact ⟨n,hn,fun m hm hs=>h ⟨m,hm,hs⟩⟩
noncomputable def fin (t:cB):Nat:=Classical.choose (stab_min (t:=t))
noncomputable def gs (t:cB) (x y:Int):Bool:=sN t (fin t) x y
noncomputable def eqv (t:cB) (x y:Int):Bool:=gs t x y&&gs t y x
noncomputable def fst (t:cB) (k:Nat):Nat:=((List.range k).find? fun j:Nat=>eqv t (k:Int) (j:Int)).getD k
end
end Gv
namespace Gv
open Go
def bk (p:List Int) (s:Int):Int:=p.getD s.toNat 0
theorem aMs {a b:Edge} (h:dW b a=false) (hne:a≠b):dW a b=true:=by
 rcases aHP a b with g|g|g
 ·exact g
 ·exact absurd g hne
 ·rw [h] at g;cases g
theorem aMt {a b c:Edge} (h:dW a b=true) (h':dW c b=false):dW a c=true:=by
 by_cases e:b=c
 ·subst e;exact h
 ·exact aCl h (aMs h' e)
theorem aMu {α:Type} [DecidableEq α]:∀ l:List α,(lW l).length<=l.length
 |[]=>Nat.le_refl _
 |[_]=>Nat.le_refl _
 |a::b::l=>by
  have:=aMu (b::l)
  unfold lW
  split
  ·simp at *;omega
  ·simp at *;omega
theorem aLn {t:cB} (h300:t.E.length<=300) (hs:SE t.E) (hin:∀ e∈t.E,aCj t e):EdgesOk t:=
 ⟨h300,fun k hk=>⟨hin _ (List.getElem_mem hk),fun h1=>List.pairwise_iff_getElem.1 hs (k - 1) k (by omega) hk (by omega)⟩⟩
theorem keep_ok {t:cB} (hv:cN t):cN (keepL t (RL t)):=by
 have hl:=RL_len t
 have h1:=hv.1
 have hi:=hv.2.1
 have hin:t.I∈RL t:=by
  unfold RL
  rw [List.mem_map]
  exact ⟨t.I.toNat,by rw [List.mem_filter,List.mem_range];exact ⟨by omega,aAx Rt.init⟩,by show ((t.I.toNat:Nat):Int)=_;omega⟩
 have hpos:1<=(RL t).length:=List.length_pos_of_mem hin
 have hlt:∀ s,0<=pos (RL t) s->0<=pos (RL t) s/\pos (RL t) s<=((RL t).length:Int) - 1:=fun s h=>by
  obtain ⟨i,e,g⟩:=aIc (aGO.1 h)
  have:=(List.getElem?_eq_some_iff.1 g).1
  omega
 refine ⟨by show (1:Int)<=((RL t).length:Int)/\((RL t).length:Int)<=40;omega,hlt _ (aGO.2 hin),hv.2.2.1,aLn ?_ (keepE_SE (aJj hv) (RL_pair t)) fun e he=>?_⟩
 ·have:=aMo t (RL t)
  have h3:=hv.2.2.2.1
  show (aLj t (RL t)).length<=300
  omega
 ·have he':e∈aLj t (RL t):=he
  unfold aLj at he'
  obtain ⟨e0,h0,h1⟩:=List.mem_filterMap.1 he'
  simp only [Option.ite_none_right_eq_some,Option.some.injEq] at h1
  obtain ⟨⟨a1,a2⟩,rfl⟩:=h1
  exact ⟨hlt _ a1,hlt _ a2,(aCC hv h0).2.2⟩
end Gv
namespace Gv
open Go
section
variable {t:cB}
theorem vD (hv:cN t) {e:Edge} (he:e∈t.E):lU t e.F/\lU t e.To/\0<=e.B/\e.B < t.L.length:=by
 have:=aCC hv he
 unfold aCj at this
 unfold lU;omega
end
end Gv
namespace Gv
open Go
def mtt (l:List (Int × Int)):List ((Int × Int) × Bool):=l.map fun p=>(p,true)
theorem aOu (l:List (Int × Int)):List.map Prod.fst (mtt l)=l:=by
 unfold mtt;rw [List.map_map];exact List.map_id _
theorem aOv (q:Int × Int):∀ l:List (Int × Int),(aGz (mtt l) q).getD false=decide (q∈l)
 |[]=>by simp [mtt,aGz]
 |a::l=>by
  have ih:=aOv q l
  unfold mtt at ih ⊢
  rw [List.map_cons,aGz]
  by_cases e:q=a
  ·rw [if_pos e];simp [e]
  ·rw [if_neg e,ih];simp [e]
theorem aOw {q:Int × Int}:∀ {l:List (Int × Int)},q∉l->aFA (mtt l) q true=mtt (l++[q])
 |[],_=>rfl
 |a::l,h=>by
  have ih:=aOw (q:=q) (l:=l) fun hm=>h (by simp [hm])
  have e:¬ q=a:=fun e=>h (by simp [e])
  unfold mtt at ih ⊢
  rw [List.map_cons,aFA,if_neg e,ih];rfl
theorem mfil_eq {κ:Type} {f:κ->Option Bool} {p:κ->Bool}:∀ {l:List κ},(∀ k∈l,f k=some (p k))->mfil f l=some (l.filter p)
 |[],_=>rfl
 |k::l,h=>by
  unfold mfil
  rw [h k (by simp),aA,mfil_eq fun k' hk=>h k' (by simp [hk]),aA,List.filter_cons]
end Gv
namespace Gv
open Go
def IsTop (p:List Int) (b:Int):Prop:=(∃ z∈p,b=z+1)/\∀ z∈p,z+1<=b
theorem aPz {p:List Int} (hl:p.length < 1000000) (h1:1<=p.length) (hp:∀ z∈p,0<=z/\z < 40):∃ b,aAE p=some b/\IsTop p b:=by
 have key0:=eA (step:=fun s:Int × Int=>sB p s.1 s.2) p.length (fun i (a:Int)=>(a,(i:Int)))
  (fun i a=>(i=0/\a=0)\/IsTop (p.take i) a) (fun r=>IsTop p r) (fun i a hi hI=>?_) (fun a hI=>?_) p.length 0 0 (by omega) (.inl ⟨rfl,rfl⟩)
 ·obtain ⟨r,h1,h2⟩:=key0
  have h1':loop (fun s:Int × Int=>sB p s.1 s.2) (0,0)=some r:=h1
  exact ⟨r,by unfold aAE;rw [h1',aA];rfl,h2⟩
 ·have hz:=hp _ (List.getElem_mem hi)
  have htk:p.take (i+1)=p.take i++[p[i]]:=by rw [List.take_add_one,List.getElem?_eq_getElem hi];rfl
  simp only [sB,dJ hi,if_pos,cU hi,aA,aJb]
  rw [dP (x:=p[i]+1) (by omega) (by omega)]
  have hstep:∀ v:Int,v=(if p[i]+1 < a then a else p[i]+1)->IsTop (p.take (i+1)) v:=by
   intro v hv
   rw [htk]
   rcases hI with ⟨rfl,rfl⟩|⟨⟨x,hx,h2⟩,h3⟩
   ·rw [if_neg (by omega)] at hv
    subst hv
    simp only [List.take_zero,List.nil_append]
    exact ⟨⟨_,by simp,rfl⟩,fun z hz=>by simp at hz;subst hz;omega⟩
   ·by_cases h:p[i]+1 < a
    ·rw [if_pos h] at hv
     subst hv
     refine ⟨⟨x,List.mem_append_left _ hx,h2⟩,fun z hz=>?_⟩
     rcases List.mem_append.1 hz with hz|hz
     ·exact h3 z hz
     ·simp at hz;subst hz;omega
    ·rw [if_neg h] at hv
     subst hv
     refine ⟨⟨p[i],List.mem_append_right _ (by simp),rfl⟩,fun z hz=>?_⟩
     rcases List.mem_append.1 hz with hz|hz
     ·have:=h3 z hz;omega
     ·simp at hz;subst hz;omega
  by_cases h:p[i]+1 < a
  ·rw [if_pos (by simpa using h),aA,cS hi (show p.length < 4611686018427387904 by omega)]
   exact ⟨a,rfl,.inr (hstep a (by rw [if_pos h]))⟩
  ·rw [if_neg (by simpa using h),aA,cS hi (show p.length < 4611686018427387904 by omega)]
   exact ⟨_,rfl,.inr (hstep _ (by rw [if_neg h]))⟩
 ·refine ⟨a,by simp only [sB,eZ];rfl,?_⟩
  rcases hI with ⟨h,_⟩|h
  ·omega
  ·rwa [List.take_length] at h
section
variable {t:cB}
end
end Gv
