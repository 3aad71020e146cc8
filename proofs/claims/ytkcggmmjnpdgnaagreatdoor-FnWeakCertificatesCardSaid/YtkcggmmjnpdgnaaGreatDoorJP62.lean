/- Blocks, numbered in the order of their first members. -/
import Derived.Test.YtkcggmmjnpdgnaaGreatDoorJP50
set_option linter.all false
namespace Gv
open Go
section
variable {κ:Type} [DecidableEq κ] [BEq κ] [LawfulBEq κ]
def dd (l:List κ):List κ:=l.foldl (aFc id) []
def cn (l:List κ):List Int:=l.map (pos (dd l))
theorem aJl (l:List κ) (x:κ):dd (l++[x])=aFc id (dd l) x:=by unfold dd;rw [List.foldl_append];rfl
theorem insK_in {F:List κ} {x y:κ}:y∈aFc id F x<->y∈F\/y=x:=by
 unfold aFc
 rw [List.map_id]
 by_cases h:x∈F
 ·rw [if_pos (show id x∈F from h)]
  exact ⟨.inl,fun h'=>h'.elim id fun e=>e ▸ h⟩
 ·rw [if_neg (show ¬ id x∈F from h)];simp
theorem aCm {y:κ}:∀ {l:List κ},y∈dd l<->y∈l:=by
 intro l
 have key:∀ (l F:List κ),y∈l.foldl (aFc id) F<->y∈F\/y∈l:=by
  intro l
  induction l with
  |nil=>intro F;simp
  |cons x l ih=>intro F;rw [List.foldl_cons,ih,insK_in,List.mem_cons,or_assoc]
 unfold dd
 rw [key];simp
theorem aNk (F:List κ) (x:κ):atK id F x=if x∈F then pos F x else (F.length:Int):=by unfold atK;rw [List.map_id];rfl
theorem aNl (l:List κ) (x:κ):cn (l++[x])=cn l++[atK id (dd l) x]:=by
 unfold cn
 rw [aJl,List.map_append]
 congr 1
 ·refine List.map_congr_left fun y hy=>?_
  exact pos_pre (aOo (key:=id) (dd l) x) (aCm.2 hy)
 ·simp only [List.map_cons,List.map_nil]
  rw [aNk]
  unfold aFc
  rw [List.map_id]
  by_cases h:x∈dd l
  ·rw [if_pos (show id x∈dd l from h),if_pos h]
  ·rw [if_neg (show ¬ id x∈dd l from h),if_neg h,pos_snoc h]
theorem aGP (l:List κ):(cn l).length=l.length:=by unfold cn;rw [List.length_map]
theorem aJJ {l:List κ} {i:Nat} (h:i < l.length):(cn l)[i]?=some (pos (dd l) l[i]):=by unfold cn;rw [List.getElem?_map,List.getElem?_eq_getElem h];rfl
theorem cn_in {l:List κ} {z:Int} (h:z∈cn l):0<=z/\z < l.length:=by
 unfold cn at h
 obtain ⟨x,hx,rfl⟩:=List.mem_map.1 h
 obtain ⟨i,hi,e,_⟩:=aFy (aCm.2 hx)
 have:(dd l).length<=l.length:=by
  have key:∀ (l F:List κ),(l.foldl (aFc id) F).length<=F.length+l.length:=by
   intro l
   induction l with
   |nil=>intro F;simp
   |cons x l ih=>
    intro F
    rw [List.foldl_cons,List.length_cons]
    have h1:=ih (aFc id F x)
    have h2:=aOp (key:=id) F x
    omega
  have:=key l []
  simpa [dd] using this
 omega
def Ker {κ':Type} (l:List κ) (l':List κ'):Prop:=l.length=l'.length/\∀ i j:Nat,i < l.length->j < l.length->(l[i]?=l[j]?<->l'[i]?=l'[j]?)
theorem cn_ker (l:List κ):Ker (cn l) l:=by
 refine ⟨aGP l,fun i j hi hj=>?_⟩
 rw [aGP] at hi hj
 rw [aJJ hi,aJJ hj,List.getElem?_eq_getElem hi,List.getElem?_eq_getElem hj]
 constructor
 ·intro h
  obtain ⟨a,ha,e1,e2⟩:=aFy (aCm.2 (List.getElem_mem hi))
  obtain ⟨b,hb,e3,e4⟩:=aFy (aCm.2 (List.getElem_mem hj))
  have h':=Option.some.inj h
  have:a=b:=by omega
  subst this
  rw [←e2,e4]
 ·intro h
  rw [Option.some.inj h]
end
section
variable {κ κ':Type} [DecidableEq κ] [BEq κ] [LawfulBEq κ] [DecidableEq κ'] [BEq κ'] [LawfulBEq κ']
theorem Ker.take {l:List κ} {l':List κ'} (h:Ker l l') (n:Nat):Ker (l.take n) (l'.take n):=by
 refine ⟨by rw [List.length_take,List.length_take,h.1],fun i j hi hj=>?_⟩
 rw [List.length_take] at hi hj
 rw [List.getElem?_take_of_lt (by omega),List.getElem?_take_of_lt (by omega),List.getElem?_take_of_lt (by omega),List.getElem?_take_of_lt (by omega)]
 exact h.2 i j (by omega) (by omega)
theorem aOs {l:List κ} {l':List κ'} (h:Ker l l'):cn l=cn l':=by
 have key:∀ n,n<=l.length->cn (l.take n)=cn (l'.take n)/\(dd (l.take n)).length=(dd (l'.take n)).length:=by
  intro n
  induction n with
  |zero=>intro _;exact ⟨rfl,rfl⟩
  |succ n ih=>
   intro hn
   obtain ⟨i1,i2⟩:=ih (by omega)
   have hn':n < l'.length:=by rw [←h.1];omega
   have t1:l.take (n+1)=l.take n++[l[n]]:=by rw [List.take_add_one,List.getElem?_eq_getElem (by omega)];rfl
   have t2:l'.take (n+1)=l'.take n++[l'[n]]:=by rw [List.take_add_one,List.getElem?_eq_getElem hn'];rfl
   have hiff:∀ k,k < n->(l[k]?=l[n]?<->l'[k]?=l'[n]?):=fun k hk=>h.2 k n (by omega) (by omega)
   have hg1:l[n]?=some l[n]:=List.getElem?_eq_getElem (by omega)
   have hg2:l'[n]?=some l'[n]:=List.getElem?_eq_getElem hn'
   have hmem:l[n]∈dd (l.take n)<->l'[n]∈dd (l'.take n):=by
    rw [aCm,aCm]
    constructor
    ·intro hm
     obtain ⟨k,hk,e⟩:=List.mem_iff_getElem.1 hm
     rw [List.length_take] at hk
     rw [List.getElem_take] at e
     have:=(hiff k (by omega)).1 (by rw [List.getElem?_eq_getElem (by omega),hg1,e])
     rw [hg2] at this
     obtain ⟨hk2,e2⟩:=List.getElem?_eq_some_iff.1 this
     rw [←e2]
     exact List.mem_iff_getElem.2 ⟨k,by rw [List.length_take];omega,by rw [List.getElem_take]⟩
    ·intro hm
     obtain ⟨k,hk,e⟩:=List.mem_iff_getElem.1 hm
     rw [List.length_take] at hk
     rw [List.getElem_take] at e
     have:=(hiff k (by omega)).2 (by rw [List.getElem?_eq_getElem (by omega),hg2,e])
     rw [hg1] at this
     obtain ⟨hk2,e2⟩:=List.getElem?_eq_some_iff.1 this
     rw [←e2]
     exact List.mem_iff_getElem.2 ⟨k,by rw [List.length_take];omega,by rw [List.getElem_take]⟩
   have hat:atK id (dd (l.take n)) l[n]=atK id (dd (l'.take n)) l'[n]:=by
    rw [aNk,aNk]
    by_cases hm:l[n]∈dd (l.take n)
    ·rw [if_pos hm,if_pos (hmem.1 hm)]
     obtain ⟨k,hk,e⟩:=List.mem_iff_getElem.1 (aCm.1 hm)
     rw [List.length_take] at hk
     rw [List.getElem_take] at e
     have h3:=(hiff k (by omega)).1 (by rw [List.getElem?_eq_getElem (by omega),hg1,e])
     rw [hg2] at h3
     obtain ⟨hk2,e2⟩:=List.getElem?_eq_some_iff.1 h3
     have c1:=aJJ (l:=l.take n) (i:=k) (by rw [List.length_take];omega)
     have c2:=aJJ (l:=l'.take n) (i:=k) (by rw [List.length_take];omega)
     rw [List.getElem_take] at c1 c2
     rw [e] at c1
     rw [e2] at c2
     rw [i1,c2] at c1
     exact (Option.some.inj c1).symm
    ·rw [if_neg hm,if_neg (fun h=>hm (hmem.2 h)),i2]
   rw [t1,t2,aNl,aNl,aJl,aJl,i1,hat]
   refine ⟨rfl,?_⟩
   unfold aFc
   rw [List.map_id,List.map_id]
   by_cases hm:l[n]∈dd (l.take n)
   ·rw [if_pos (show id l[n]∈_ from hm),if_pos (show id l'[n]∈_ from hmem.1 hm),i2]
   ·rw [if_neg (show ¬ id l[n]∈_ from hm),if_neg (show ¬ id l'[n]∈_ from fun h=>hm (hmem.2 h)),List.length_append,List.length_append,i2];rfl
 have:=(key l.length (Nat.le_refl _)).1
 rwa [List.take_length,h.1,List.take_length] at this
end
end Gv
namespace Gv
open Go
section
variable {κ:Type} [DecidableEq κ] [BEq κ] [LawfulBEq κ]
end
theorem aMr (a b:List Int) (h:a.length < 4611686018427387904):gK a b=some (decide (a=b)):=by
 unfold gK
 by_cases hl:a.length=b.length
 ·rw [if_neg (by simp [hl])]
  have:=aGt (step:=fun s=>fS a b s) (a.zip b) (fun p=>decide (p.1=p.2)) (.inr false) (.inl ()) (fun k x hk hx=>?_) ?_
  ·rw [this,aA]
   by_cases he:a=b
   ·subst he
    have:((a.zip a).all fun p=>decide (p.1=p.2))=true:=by
     rw [List.all_eq_true]
     intro p hp
     obtain ⟨i,hi,rfl⟩:=List.mem_iff_getElem.1 hp
     rw [List.getElem_zip];simp
    rw [if_pos this,decide_eq_true rfl];rfl
   ·have:¬ ((a.zip b).all fun p=>decide (p.1=p.2))=true:=fun h'=>he (List.ext_getElem hl fun i h1 h2=>by
     rw [List.all_eq_true] at h'
     have hiz:i < (a.zip b).length:=by rw [List.length_zip];omega
     have:=h' (a.zip b)[i] (List.getElem_mem hiz)
     rw [List.getElem_zip] at this
     simpa using this)
    rw [if_neg this,decide_eq_false he]
  ·have hzl:(a.zip b).length=a.length:=by rw [List.length_zip];omega
   rw [hzl] at hk
   obtain ⟨hk',rfl⟩:=wZ hx
   unfold fS
   rw [if_pos (dJ hk),cU hk,aA,cU (by omega),aA,List.getElem_zip]
   by_cases e:a[k]=b[k]'(by omega)
   ·rw [if_neg (by simp [e]),if_pos (by simp [e]),cS hk h]
   ·rw [if_pos (by simpa using e),if_neg (by simpa using e)]
  ·have hzl:(a.zip b).length=a.length:=by rw [List.length_zip];omega
   rw [hzl]
   unfold fS
   rw [if_neg (by simp)]
 ·rw [if_pos (by simp;omega),decide_eq_false (fun h=>hl (by rw [h]))]
end Gv
namespace Gv
open Go
def bl (p:List Int) (g:Int):Int:=if g < 0 then -1 else p.getD g.toNat 0
section
variable {d:cB}
end
end Gv
namespace Gv
open Go
section
variable {d:cB}
def xB (p:List Int) (n:Nat):List Nat:=(List.range n).filter fun i=>decide (∀ k,k < i->p[k]?≠p[i]?)
end
end Gv
