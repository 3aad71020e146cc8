/- Blocks, numbered in the order of their first members. -/
import Derived.Test.YtmlgcbjkfcapaaaGreatDoorFJP50
set_option linter.all false
namespace Gv
open Go
section
variable {κ:Type} [DecidableEq κ] [BEq κ] [LawfulBEq κ]
def dd (l:List κ):List κ:=l.foldl (aAS id) []
def cn (l:List κ):List Int:=l.map (pos (dd l))
theorem aIo (l:List κ) (x:κ):dd (l++[x])=aAS id (dd l) x:=by unfold dd;rw [List.foldl_append];rfl
theorem insK_in {F:List κ} {x y:κ}:y∈aAS id F x↔y∈F∨y=x:=by
 unfold aAS
 rw [List.map_id]
 by_cases h:x∈F
 ·rw [if_pos (show id x∈F from h)]
  exact ⟨.inl,fun h'=>h'.elim id fun e=>e ▸ h⟩
 ·rw [if_neg (show ¬ id x∈F from h)];simp
theorem aEH {y:κ}:∀ {l:List κ},y∈dd l↔y∈l:=by
 intro l
 have key:∀ (l F:List κ),y∈l.foldl (aAS id) F↔y∈F∨y∈l:=by
  intro l
  induction l with
  |nil=>intro F;simp
  |cons x l ih=>intro F;rw [List.foldl_cons,ih,insK_in,List.mem_cons,or_assoc]
 unfold dd
 rw [key];simp
theorem aIp (F:List κ) (x:κ):atK id F x=if x∈F then pos F x else (F.length:Int):=by unfold atK;rw [List.map_id];rfl
theorem cn_snoc (l:List κ) (x:κ):cn (l++[x])=cn l++[atK id (dd l) x]:=by
 unfold cn
 rw [aIo,List.map_append]
 congr 1
 ·refine List.map_congr_left fun y hy=>?_
  exact pos_pre (aJx (key:=id) (dd l) x) (aEH.2 hy)
 ·simp only [List.map_cons,List.map_nil]
  rw [aIp]
  unfold aAS
  rw [List.map_id]
  by_cases h:x∈dd l
  ·rw [if_pos (show id x∈dd l from h),if_pos h]
  ·rw [if_neg (show ¬ id x∈dd l from h),if_neg h,pos_snoc h]
theorem aIq (l:List κ):(cn l).length=l.length:=by unfold cn;rw [List.length_map]
theorem cn_get {l:List κ} {i:Nat} (h:i < l.length):(cn l)[i]?=some (pos (dd l) l[i]):=by unfold cn;rw [List.getElem?_map,List.getElem?_eq_getElem h];rfl
theorem cn_in {l:List κ} {z:Int} (h:z∈cn l):0≤z∧z < l.length:=by
 unfold cn at h
 obtain ⟨x,hx,rfl⟩:=List.mem_map.1 h
 obtain ⟨i,hi,e,_⟩:=aBG (aEH.2 hx)
 have:(dd l).length≤l.length:=by
  have key:∀ (l F:List κ),(l.foldl (aAS id) F).length≤F.length+l.length:=by
   intro l
   induction l with
   |nil=>intro F;simp
   |cons x l ih=>
    intro F
    rw [List.foldl_cons,List.length_cons]
    have h1:=ih (aAS id F x)
    have h2:=aJy (key:=id) F x
    omega
  have:=key l []
  simpa [dd] using this
 omega
def Ker {κ':Type} (l:List κ) (l':List κ'):Prop:=l.length=l'.length∧∀ i j:Nat,i < l.length→j < l.length→(l[i]?=l[j]?↔l'[i]?=l'[j]?)
end
section
variable {κ κ':Type} [DecidableEq κ] [BEq κ] [LawfulBEq κ] [DecidableEq κ'] [BEq κ'] [LawfulBEq κ']
theorem Ker.take {l:List κ} {l':List κ'} (h:Ker l l') (n:Nat):Ker (l.take n) (l'.take n):=by
 refine ⟨by rw [List.length_take,List.length_take,h.1],fun i j hi hj=>?_⟩
 rw [List.length_take] at hi hj
 rw [List.getElem?_take_of_lt (by omega),List.getElem?_take_of_lt (by omega),List.getElem?_take_of_lt (by omega),List.getElem?_take_of_lt (by omega)]
 exact h.2 i j (by omega) (by omega)
end
theorem mq_len {κ:Type}:∀ (k:Nat) (l:List κ),(mq k l).length=l.length
 |_,[]=>rfl
 |k,x::l=>by rw [mq,List.length_cons,List.length_cons,mq_len (k+1) l]
theorem cn_set {l:List Int} {k:Nat} (hk:k < l.length):(cn (l.take k)++List.replicate (l.length - k) 0).set k (atK id (dd (l.take k)) l[k])=cn (l.take (k+1))++List.replicate (l.length - (k+1)) 0:=by
 have hl:(cn (l.take k)).length=k:=by rw [aIq,List.length_take];omega
 have t1:l.take (k+1)=l.take k++[l[k]]:=by rw [List.take_add_one,List.getElem?_eq_getElem hk];rfl
 rw [List.set_append_right _ _ (by omega),hl,Nat.sub_self,t1,cn_snoc,show l.length - k=(l.length - (k+1))+1 by omega,List.replicate_succ,List.set_cons_zero,List.append_assoc];rfl
theorem normal_eq (l:List Int) (h:l.length < 1000000):aCh l=some (cn l):=by
 unfold aCh
 rw [aEz 0 (by unfold lT;omega),aD]
 have key:=iW (step:=fun s:List (Int × Int) × List Int × Int=>mJ l s.1 s.2.1 s.2.2) l.length (fun k (s:List (Int × Int) × List Int)=>(s.1,s.2,(k:Int)))
  (fun k s=>s=(mq 0 (dd (l.take k)),cn (l.take k)++List.replicate (l.length - k) 0)) (fun r=>r=cn l) (fun k s hk hI=>?_) (fun s hI=>?_) l.length 0 ([],List.replicate l.length 0) (by omega) rfl
 ·obtain ⟨r,h1,rfl⟩:=key
  rw [show loop (fun s:List (Int × Int) × List Int × Int=>mJ l s.1 s.2.1 s.2.2) ([],List.replicate l.length 0,0)=some (cn l) from h1];rfl
 ·subst hI
  have hset:=cn_set hk
  have hol:(cn (l.take k)++List.replicate (l.length - k) 0).length=l.length:=by rw [List.length_append,aIq,List.length_take,List.length_replicate];omega
  have t1:l.take (k+1)=l.take k++[l[k]]:=by rw [List.take_add_one,List.getElem?_eq_getElem hk];rfl
  refine ⟨_,?_,rfl⟩
  show mJ l (mq 0 (dd (l.take k))) (cn (l.take k)++List.replicate (l.length - k) 0) (k:Int)=_
  unfold mJ xK
  rw [if_pos (dA hk),dD hk,aD,mq_len,dD (by rw [hol];exact hk),aD,aD,vL _ (by rw [hol];exact hk),vL _ (by rw [hol];exact hk),aD,aD,cI hk (by omega),←hset,aIp,t1,aIo]
  unfold aAS
  rw [List.map_id]
  by_cases hm:l[k]∈dd (l.take k)
  ·rw [mget_in hm,if_neg (by simp),if_pos hm,if_pos (show id l[k]∈_ from hm)];rfl
  ·have hp:=mput_mq (k:=0) hm
   rw [Nat.zero_add] at hp
   rw [mget_out hm,if_pos (by simp),if_neg hm,if_neg (show ¬ id l[k]∈_ from hm),hp]
 ·subst hI
  refine ⟨_,?_,rfl⟩
  show mJ l _ _ (l.length:Int)=_
  unfold mJ
  rw [if_neg (by simp),List.take_length,Nat.sub_self]
  simp
end Gv
namespace Gv
open Go
section
variable {κ:Type} [DecidableEq κ] [BEq κ] [LawfulBEq κ]
end
end Gv
namespace Gv
open Go
section
variable {d:cH}
end
end Gv
namespace Gv
open Go
section
variable {d:cH}
end
end Gv
namespace Gv
open Go
section
variable {d:cH} {p:List Int}
end
end Gv
namespace Gv
open Go
section
variable {d:cH} {p:List Int}
end
end Gv
namespace Gv
open Go
section
variable {t:cH}
variable {d:cH}
end
end Gv
namespace Gv
open Go
structure Blk (d:cH) (p:List Int):Prop where
 len:p.length=d.N.toNat
 bnd:∀ z∈p,0≤z∧z < 40
section
variable {d:cH} {p:List Int}
end
end Gv
namespace Gv
open Go
end Gv
namespace Gv
open Go
theorem aGw {t:cH} (hf:oR sz t) (a b:Int) {k:Int} (h0:0≤k) (hk:k≤1000000000):vX a b t.L t.E k=some (k+t.L.length+3 * t.E.length,mS k t.L.length,mE (k+t.L.length) t.E.length):=by
 obtain ⟨f1,_,f3⟩:=hf
 unfold sz at f1 f3
 unfold vX
 rw [aGa (by omega) (by omega) (by omega),aD]
 simp only
 rw [aHW (by omega) (by omega) (by omega),aD]
theorem mark_one {t:cH} (hf:oR sz t):∃ k Ls Es,vX t.N t.I t.L t.E 1=some (k,Ls,Es)∧zH ⟨t.N,t.I,Ls,Es⟩ 1=some k∧0≤k:=by
 have h1:=aGw hf t.N t.I (k:=1) (by omega) (by omega)
 obtain ⟨f1,_,f3⟩:=hf
 unfold sz at f1 f3
 refine ⟨_,_,_,h1,?_,by omega⟩
 unfold zH
 simp only
 rw [aGb (by omega) (by omega) (by omega),aD,if_neg (by simp only [decide_eq_true_eq];omega),aHX (by omega) (by omega) (by omega),aD,if_neg (by simp only [decide_eq_true_eq];omega)]
end Gv
