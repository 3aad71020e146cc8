/- Blocks, numbered in the order of their first members. -/
import Derived.Test.YtiipffjapfalhaaGreatDoorJP50
set_option linter.all false
namespace Gv
open Option.some renaming inj→zI
open Go
section
variable {κ:Type} [DecidableEq κ] [BEq κ] [LawfulBEq κ]
def dd (l:List κ):List κ:=l.foldl (aJL id) []
def cn (l:List κ):List Int:=l.map (pos (dd l))
theorem aHM (l:List κ) (x:κ):dd (l++[x])=aJL id (dd l) x:=by unfold dd;rw [List.foldl_append];rfl
theorem insK_in {F:List κ} {x y:κ}:y∈aJL id F x<->y∈F\/y=x:=by
 unfold aJL
 rw [List.map_id]
 by_cases h:x∈F
 ·rw [if_pos (show id x∈F from h)]
  exact ⟨.inl,fun h'=>h'.elim id fun e=>e ▸ h⟩
 ·rw [if_neg (show ¬ id x∈F from h)];simp
theorem aJM {y:κ}:∀ {l:List κ},y∈dd l<->y∈l:=by
 intro l
 have key:∀ (l F:List κ),y∈l.foldl (aJL id) F<->y∈F\/y∈l:=by
  intro l
  induction l with
  |nil=>intro F;simp
  |cons x l ih=>intro F;rw [List.foldl_cons,ih,insK_in,List.mem_cons,or_assoc]
 unfold dd
 rw [key];simp
theorem aOd (F:List κ) (x:κ):atK id F x=if x∈F then pos F x else (F.length:Int):=by unfold atK;rw [List.map_id];rfl
theorem aPu (l:List κ) (x:κ):cn (l++[x])=cn l++[atK id (dd l) x]:=by
 unfold cn
 rw [aHM,List.map_append]
 congr 1
 ·refine List.map_congr_left fun y hy=>?_
  exact aTr (aUR (key:=id) (dd l) x) (aJM.2 hy)
 ·simp only [List.map_cons,List.map_nil]
  rw [aOd]
  unfold aJL
  rw [List.map_id]
  by_cases h:x∈dd l
  ·rw [if_pos (show id x∈dd l from h),if_pos h]
  ·rw [if_neg (show ¬ id x∈dd l from h),if_neg h,aQN h]
theorem aJN (l:List κ):(cn l).length=l.length:=by unfold cn;rw [List.length_map]
theorem aQO {l:List κ} {i:Nat} (h:i < l.length):(cn l)[i]?=some (pos (dd l) l[i]):=by unfold cn;rw [List.getElem?_map,List.getElem?_eq_getElem h];rfl
def Ker {κ':Type} (l:List κ) (l':List κ'):Prop:=l.length=l'.length/\∀ i j:Nat,i < l.length->j < l.length->(l[i]?=l[j]?<->l'[i]?=l'[j]?)
theorem cn_ker (l:List κ):Ker (cn l) l:=by
 refine ⟨aJN l,fun i j hi hj=>?_⟩
 rw [aJN] at hi hj
 rw [aQO hi,aQO hj,List.getElem?_eq_getElem hi,List.getElem?_eq_getElem hj]
 constructor
 ·intro h
  obtain ⟨a,ha,e1,e2⟩:=mY (aJM.2 (List.getElem_mem hi))
  obtain ⟨b,hb,e3,e4⟩:=mY (aJM.2 (List.getElem_mem hj))
  have h':=zI h
  have:a=b:=by omega
  subst this
  rw [←e2,e4]
 ·intro h
  rw [zI h]
end
section
variable {κ κ':Type} [DecidableEq κ] [BEq κ] [LawfulBEq κ] [DecidableEq κ'] [BEq κ'] [LawfulBEq κ']
theorem Ker.take {l:List κ} {l':List κ'} (h:Ker l l') (n:Nat):Ker (l.take n) (l'.take n):=by
 refine ⟨by rw [List.length_take,List.length_take,h.1],fun i j hi hj=>?_⟩
 rw [List.length_take] at hi hj
 rw [List.getElem?_take_of_lt (by omega),List.getElem?_take_of_lt (by omega),List.getElem?_take_of_lt (by omega),List.getElem?_take_of_lt (by omega)]
 exact h.2 i j (by omega) (by omega)
theorem aQP {l:List κ} {l':List κ'} (h:Ker l l'):cn l=cn l':=by
 have key:∀ n,n<=l.length->cn (l.take n)=cn (l'.take n)/\(dd (l.take n)).length=(dd (l'.take n)).length:=by
  intro n
  induction n with
  |zero=>intro _;exact ⟨rfl,rfl⟩
  |succ n ih=>
   intro hn
   obtain ⟨i1,i2⟩:=ih (by omega)
   have hn':n < l'.length:=by rw [←h.1];omega
   have t1:l.take (n+1)=l.take n++[l[n]]:=by rw [List.take_add_one,List.getElem?_eq_getElem (by omega)];rfl
   have t2:l'.take (n+1)=l'.take n++[l'[n]]:=by rw [List.take_add_one,List.getElem?_eq_getElem hn'];rfl
   have hiff:∀ k,k < n->(l[k]?=l[n]?<->l'[k]?=l'[n]?):=fun k hk=>h.2 k n (by omega) (by omega)
   have hg1:l[n]?=some l[n]:=List.getElem?_eq_getElem (by omega)
   have hg2:l'[n]?=some l'[n]:=List.getElem?_eq_getElem hn'
   have hmem:l[n]∈dd (l.take n)<->l'[n]∈dd (l'.take n):=by
    rw [aJM,aJM]
    constructor
    ·intro hm
     obtain ⟨k,hk,e⟩:=List.mem_iff_getElem.1 hm
     rw [List.length_take] at hk
     rw [List.getElem_take] at e
     have:=(hiff k (by omega)).1 (by rw [List.getElem?_eq_getElem (by omega),hg1,e])
     rw [hg2] at this
     obtain ⟨hk2,e2⟩:=List.getElem?_eq_some_iff.1 this
     rw [←e2]
     exact List.mem_iff_getElem.2 ⟨k,by rw [List.length_take];omega,by rw [List.getElem_take]⟩
    ·intro hm
     obtain ⟨k,hk,e⟩:=List.mem_iff_getElem.1 hm
     rw [List.length_take] at hk
     rw [List.getElem_take] at e
     have:=(hiff k (by omega)).2 (by rw [List.getElem?_eq_getElem (by omega),hg2,e])
     rw [hg1] at this
     obtain ⟨hk2,e2⟩:=List.getElem?_eq_some_iff.1 this
     rw [←e2]
     exact List.mem_iff_getElem.2 ⟨k,by rw [List.length_take];omega,by rw [List.getElem_take]⟩
   have hat:atK id (dd (l.take n)) l[n]=atK id (dd (l'.take n)) l'[n]:=by
    rw [aOd,aOd]
    by_cases hm:l[n]∈dd (l.take n)
    ·rw [if_pos hm,if_pos (hmem.1 hm)]
     obtain ⟨k,hk,e⟩:=List.mem_iff_getElem.1 (aJM.1 hm)
     rw [List.length_take] at hk
     rw [List.getElem_take] at e
     have h3:=(hiff k (by omega)).1 (by rw [List.getElem?_eq_getElem (by omega),hg1,e])
     rw [hg2] at h3
     obtain ⟨hk2,e2⟩:=List.getElem?_eq_some_iff.1 h3
     have c1:=aQO (l:=l.take n) (i:=k) (by rw [List.length_take];omega)
     have c2:=aQO (l:=l'.take n) (i:=k) (by rw [List.length_take];omega)
     rw [List.getElem_take] at c1 c2
     rw [e] at c1
     rw [e2] at c2
     rw [i1,c2] at c1
     exact (zI c1).symm
    ·rw [if_neg hm,if_neg (fun h=>hm (hmem.2 h)),i2]
   rw [t1,t2,aPu,aPu,aHM,aHM,i1,hat]
   refine ⟨rfl,?_⟩
   unfold aJL
   rw [List.map_id,List.map_id]
   by_cases hm:l[n]∈dd (l.take n)
   ·rw [if_pos (show id l[n]∈_ from hm),if_pos (show id l'[n]∈_ from hmem.1 hm),i2]
   ·rw [if_neg (show ¬ id l[n]∈_ from hm),if_neg (show ¬ id l'[n]∈_ from fun h=>hm (hmem.2 h)),List.length_append,List.length_append,i2];rfl
 have:=(key l.length (Nat.le_refl _)).1
 rwa [List.take_length,h.1,List.take_length] at this
end
theorem mq_len {κ:Type}:∀ (k:Nat) (l:List κ),(mq k l).length=l.length
 |_,[]=>rfl
 |k,x::l=>by rw [mq,List.length_cons,List.length_cons,mq_len (k+1) l]
theorem cn_set {l:List Int} {k:Nat} (hk:k < l.length):(cn (l.take k)++List.replicate (l.length - k) 0).set k (atK id (dd (l.take k)) l[k])=cn (l.take (k+1))++List.replicate (l.length - (k+1)) 0:=by
 have hl:(cn (l.take k)).length=k:=by rw [aJN,List.length_take];omega
 have t1:l.take (k+1)=l.take k++[l[k]]:=by rw [List.take_add_one,List.getElem?_eq_getElem hk];rfl
 rw [List.set_append_right _ _ (by omega),hl,Nat.sub_self,t1,aPu,show l.length - k=(l.length - (k+1))+1 by omega,List.replicate_succ,List.set_cons_zero,List.append_assoc];rfl
theorem normal_eq (l:List Int) (h:l.length < 1000000):aJi l=some (cn l):=by
 unfold aJi
 rw [aNW 0 (by unfold gN;omega),aA]
 have key:=xL (step:=fun s:List (Int × Int) × List Int × Int=>qX l s.1 s.2.1 s.2.2) l.length (fun k (s:List (Int × Int) × List Int)=>(s.1,s.2,(k:Int)))
  (fun k s=>s=(mq 0 (dd (l.take k)),cn (l.take k)++List.replicate (l.length - k) 0)) (fun r=>r=cn l) (fun k s hk hI=>?_) (fun s hI=>?_) l.length 0 ([],List.replicate l.length 0) (by omega) rfl
 ·obtain ⟨r,h1,rfl⟩:=key
  rw [show loop (fun s:List (Int × Int) × List Int × Int=>qX l s.1 s.2.1 s.2.2) ([],List.replicate l.length 0,0)=some (cn l) from h1];rfl
 ·subst hI
  have hset:=cn_set hk
  have hol:(cn (l.take k)++List.replicate (l.length - k) 0).length=l.length:=by rw [List.length_append,aJN,List.length_take,List.length_replicate];omega
  have t1:l.take (k+1)=l.take k++[l[k]]:=by rw [List.take_add_one,List.getElem?_eq_getElem hk];rfl
  refine ⟨_,?_,rfl⟩
  show qX l (mq 0 (dd (l.take k))) (cn (l.take k)++List.replicate (l.length - k) 0) (k:Int)=_
  unfold qX aCx
  rw [if_pos (bL hk),bH hk,aA,mq_len,bH (by rw [hol];exact hk),aA,aA,mL _ (by rw [hol];exact hk),mL _ (by rw [hol];exact hk),aA,aA,bI hk (by omega),←hset,aOd,t1,aHM]
  unfold aJL
  rw [List.map_id]
  by_cases hm:l[k]∈dd (l.take k)
  ·rw [mget_in hm,if_neg (by simp),if_pos hm,if_pos (show id l[k]∈_ from hm)];rfl
  ·have hp:=aTt (k:=0) hm
   rw [Nat.zero_add] at hp
   rw [aUP hm,if_pos (by simp),if_neg hm,if_neg (show ¬ id l[k]∈_ from hm),hp]
 ·subst hI
  refine ⟨_,?_,rfl⟩
  show qX l _ _ (l.length:Int)=_
  unfold qX
  rw [if_neg (by simp),List.take_length,Nat.sub_self]
  simp
theorem norm_find (l:List Int) {i:Nat} (hi:i < l.length) (h:l.length < 1000000):loop (fun s:Int=>jT l (i:Int) s) 0=some (pos (l.take i) l[i]):=by
 have:=yG (step:=fun s:Int=>jT l (i:Int) s) i (fun k (_:Unit)=>(k:Int)) (fun k _=>match ((l.take i).drop k).findIdx? (fun x=>l[i] == x) with|none=>-1|some j=>((k+j:Nat):Int)) (fun _ _=>True) (fun k a hk _=>?_) (fun a _=>?_) i 0 () (by omega) trivial
 ·rw [show loop (fun s:Int=>jT l (i:Int) s) 0=_ from this]
  unfold pos
  rw [List.drop_zero]
  cases (l.take i).findIdx? (fun x=>l[i] == x)<;>simp
 ·have hd:(l.take i).drop k=l[k]::(l.take i).drop (k+1):=by
   rw [List.drop_eq_getElem_cons (by rw [List.length_take];omega),List.getElem_take]
  rw [hd,List.findIdx?_cons]
  by_cases e:l[k]=l[i]
  ·right
   show jT l (i:Int) (k:Int)=_
   unfold jT
   rw [if_pos (bL hk),bH (by omega),aA,bH hi,aA,if_pos (by simpa using e),if_pos (by simp [e])];rfl
  ·left
   refine ⟨(),?_,trivial,?_⟩
   ·show jT l (i:Int) (k:Int)=_
    unfold jT
    rw [if_pos (bL hk),bH (by omega),aA,bH hi,aA,if_neg (by simpa using e),bI hk (by omega)]
   ·rw [if_neg (by simp;exact fun h=>e h.symm)]
    cases ((l.take i).drop (k+1)).findIdx? (fun x=>l[i] == x) with
    |none=>rfl
    |some j=>simp only [Option.map_some];congr 1;omega
 ·show jT l (i:Int) (i:Int)=_
  unfold jT
  rw [if_neg (by simp),List.drop_of_length_le (by rw [List.length_take];omega)];rfl
theorem norm_eq (l:List Int) (h:l.length < 1000000):aGx l=some (cn l):=by
 unfold aGx
 rw [aNW 0 (by unfold gN;omega),aA]
 have key:=xL (step:=fun s:List Int × Int × Int=>oN l s.1 s.2.1 s.2.2) l.length (fun k (s:List Int × Int)=>(s.1,s.2,(k:Int)))
  (fun k s=>s=(cn (l.take k)++List.replicate (l.length - k) 0,((dd (l.take k)).length:Int))/\(dd (l.take k)).length<=k) (fun r=>r=cn l) (fun k s hk hI=>?_) (fun s hI=>?_) l.length 0 (List.replicate l.length 0,0) (by omega) ⟨rfl,Nat.le_refl _⟩
 ·obtain ⟨r,h1,rfl⟩:=key
  rw [show loop (fun s:List Int × Int × Int=>oN l s.1 s.2.1 s.2.2) (List.replicate l.length 0,0,0)=some (cn l) from h1];rfl
 ·obtain ⟨rfl,hdl⟩:=hI
  have hset:=cn_set hk
  have hol:(cn (l.take k)++List.replicate (l.length - k) 0).length=l.length:=by rw [List.length_append,aJN,List.length_take,List.length_replicate];omega
  have hcl:(cn (l.take k)).length=k:=by rw [aJN,List.length_take];omega
  have t1:l.take (k+1)=l.take k++[l[k]]:=by rw [List.take_add_one,List.getElem?_eq_getElem hk];rfl
  refine ⟨(cn (l.take (k+1))++List.replicate (l.length - (k+1)) 0,((dd (l.take (k+1))).length:Int)),?_,rfl,?_⟩
  ·show oN l (cn (l.take k)++List.replicate (l.length - k) 0) ((dd (l.take k)).length:Int) (k:Int)=_
   unfold oN aDP aAD
   rw [if_pos (bL hk),norm_find l hk h,aA,←hset,t1,aHM,aOd]
   unfold aJL
   rw [List.map_id]
   by_cases hm:l[k]∈dd (l.take k)
   ·have hm':=aJM.1 hm
    obtain ⟨j,hj,e1,e2⟩:=mY hm'
    have hj':j < k:=by rw [List.length_take] at hj;omega
    have hcj:(cn (l.take k)++List.replicate (l.length - k) 0)[j]'(by rw [hol];omega)=pos (dd (l.take k)) l[k]:=by
     have:=aQO hj
     rw [e2] at this
     rw [List.getElem_append_left (by omega)]
     rw [List.getElem?_eq_getElem (by omega)] at this
     exact zI this
    rw [e1,if_pos (by simp),bH (by rw [hol];omega),aA,bH (by rw [hol];exact hk),aA,mL _ (by rw [hol];exact hk),aA,hcj,if_pos hm,if_pos (show id l[k]∈_ from hm),bI hk (by omega)]
   ·have hp:pos (l.take k) l[k]=-1:=aTq (fun h=>hm (aJM.2 h))
    rw [hp,if_neg (by simp),bH (by rw [hol];exact hk),aA,mL _ (by rw [hol];exact hk),aA,if_neg hm,if_neg (show ¬ id l[k]∈_ from hm),bI hk (by omega),List.length_append,List.length_singleton,bI (k:=(dd (l.take k)).length) (n:=1000001) (by omega) (by omega)]
  ·rw [t1,aHM]
   have:=insK_len (key:=id) (dd (l.take k)) l[k]
   omega
 ·obtain ⟨rfl,_⟩:=hI
  refine ⟨_,?_,rfl⟩
  show oN l _ _ (l.length:Int)=_
  unfold oN
  rw [if_neg (by simp),List.take_length,Nat.sub_self]
  simp
end Gv
namespace Gv
open Go
section
variable {κ:Type} [DecidableEq κ] [BEq κ] [LawfulBEq κ]
def fi (K:List κ):List Int:=K.map (pos K)
theorem fi_ker (K:List κ):Ker (fi K) K:=by
 refine ⟨by unfold fi;rw [List.length_map],fun i j hi hj=>?_⟩
 unfold fi at hi hj ⊢
 rw [List.length_map] at hi hj
 rw [List.getElem?_map,List.getElem?_map,List.getElem?_eq_getElem hi,List.getElem?_eq_getElem hj]
 simp only [Option.map_some,Option.some.injEq]
 constructor
 ·intro h
  obtain ⟨a,ha,e1,e2⟩:=mY (List.getElem_mem hi)
  obtain ⟨b,hb,e3,e4⟩:=mY (List.getElem_mem hj)
  have:a=b:=by omega
  subst this
  rw [←e2,e4]
 ·intro h;rw [h]
theorem cn_fi (K:List κ):cn (fi K)=cn K:=aQP (fi_ker K)
theorem fi_len (K:List κ):(fi K).length=K.length:=by unfold fi;rw [List.length_map]
theorem pos_take {K:List κ} {k:Nat} (hk:k < K.length):pos K K[k]=if K[k]∈K.take k then pos (K.take k) K[k] else (k:Int):=by
 by_cases h:K[k]∈K.take k
 ·rw [if_pos h];exact aTr (List.take_prefix k K) h
 ·rw [if_neg h]
  obtain ⟨j,hj,e1,e2⟩:=mY (List.getElem_mem hk)
  have hjk:¬ j < k:=fun hlt=>h (e2 ▸ List.mem_iff_getElem.2 ⟨j,by rw [List.length_take];omega,by rw [List.getElem_take]⟩)
  have ht:K.take (k+1)=K.take k++[K[k]]:=by rw [List.take_add_one,List.getElem?_eq_getElem hk];rfl
  have h2:=aTr (a:=K.take k++[K[k]]) (b:=K) (by rw [←ht];exact List.take_prefix _ _) (q:=K[k]) (List.mem_append_right _ (List.mem_singleton.2 rfl))
  rw [h2,aQN h,List.length_take]
  omega
end
end Gv
namespace Gv
open Go
section
variable {d:iZ}
end
end Gv
namespace Gv
open Go
section
variable {d:iZ}
end
end Gv
