/- Blocks, numbered in the order of their first members. -/
import Derived.Test.YtmlgcbjkfcapaaaGreatDoorJP50
set_option linter.all false
namespace Gv
open Option.some renaming inj→zI
open Go
section
variable {κ:Type} [DecidableEq κ] [BEq κ] [LawfulBEq κ]
def dd (l:List κ):List κ:=l.foldl (qZ id) []
def cn (l:List κ):List Int:=l.map (pos (dd l))
theorem aBV (l:List κ) (x:κ):dd (l++[x])=qZ id (dd l) x:=by unfold dd;rw [List.foldl_append];rfl
theorem insK_in {F:List κ} {x y:κ}:y∈qZ id F x↔y∈F∨y=x:=by
 unfold qZ
 rw [List.map_id]
 by_cases h:x∈F
 ·rw [if_pos (show id x∈F from h)]
  exact ⟨.inl,fun h'=>h'.elim id fun e=>e ▸ h⟩
 ·rw [if_neg (show ¬ id x∈F from h)];simp
theorem aCb {y:κ}:∀ {l:List κ},y∈dd l↔y∈l:=by
 intro l
 have key:∀ (l F:List κ),y∈l.foldl (qZ id) F↔y∈F∨y∈l:=by
  intro l
  induction l with
  |nil=>intro F;simp
  |cons x l ih=>intro F;rw [List.foldl_cons,ih,insK_in,List.mem_cons,or_assoc]
 unfold dd
 rw [key];simp
theorem aIm (F:List κ) (x:κ):atK id F x=if x∈F then pos F x else (F.length:Int):=by unfold atK;rw [List.map_id];rfl
theorem aKm (l:List κ) (x:κ):cn (l++[x])=cn l++[atK id (dd l) x]:=by
 unfold cn
 rw [aBV,List.map_append]
 congr 1
 ·refine List.map_congr_left fun y hy=>?_
  exact aJW (uS (key:=id) (dd l) x) (aCb.2 hy)
 ·simp only [List.map_cons,List.map_nil]
  rw [aIm]
  unfold qZ
  rw [List.map_id]
  by_cases h:x∈dd l
  ·rw [if_pos (show id x∈dd l from h),if_pos h]
  ·rw [if_neg (show ¬ id x∈dd l from h),if_neg h,aLf h]
theorem aAs (l:List κ):(cn l).length=l.length:=by unfold cn;rw [List.length_map]
theorem aEL {l:List κ} {i:Nat} (h:i < l.length):(cn l)[i]?=some (pos (dd l) l[i]):=by unfold cn;rw [List.getElem?_map,List.getElem?_eq_getElem h];rfl
theorem cn_in {l:List κ} {z:Int} (h:z∈cn l):0≤z∧z < l.length:=by
 unfold cn at h
 obtain ⟨x,hx,rfl⟩:=List.mem_map.1 h
 obtain ⟨i,hi,e,_⟩:=kC (aCb.2 hx)
 have:(dd l).length≤l.length:=by
  have key:∀ (l F:List κ),(l.foldl (qZ id) F).length≤F.length+l.length:=by
   intro l
   induction l with
   |nil=>intro F;simp
   |cons x l ih=>
    intro F
    rw [List.foldl_cons,List.length_cons]
    have h1:=ih (qZ id F x)
    have h2:=aBy (key:=id) F x
    omega
  have:=key l []
  simpa [dd] using this
 omega
def Ker {κ':Type} (l:List κ) (l':List κ'):Prop:=l.length=l'.length∧∀ i j:Nat,i < l.length→j < l.length→(l[i]?=l[j]?↔l'[i]?=l'[j]?)
theorem cn_ker (l:List κ):Ker (cn l) l:=by
 refine ⟨aAs l,fun i j hi hj=>?_⟩
 rw [aAs] at hi hj
 rw [aEL hi,aEL hj,List.getElem?_eq_getElem hi,List.getElem?_eq_getElem hj]
 constructor
 ·intro h
  obtain ⟨a,ha,e1,e2⟩:=kC (aCb.2 (List.getElem_mem hi))
  obtain ⟨b,hb,e3,e4⟩:=kC (aCb.2 (List.getElem_mem hj))
  have h':=zI h
  have:a=b:=by omega
  subst this
  rw [←e2,e4]
 ·intro h
  rw [zI h]
end
section
variable {κ κ':Type} [DecidableEq κ] [BEq κ] [LawfulBEq κ] [DecidableEq κ'] [BEq κ'] [LawfulBEq κ']
theorem Ker.take {l:List κ} {l':List κ'} (h:Ker l l') (n:Nat):Ker (l.take n) (l'.take n):=by
 refine ⟨by rw [List.length_take,List.length_take,h.1],fun i j hi hj=>?_⟩
 rw [List.length_take] at hi hj
 rw [List.getElem?_take_of_lt (by omega),List.getElem?_take_of_lt (by omega),List.getElem?_take_of_lt (by omega),List.getElem?_take_of_lt (by omega)]
 exact h.2 i j (by omega) (by omega)
theorem aFs {l:List κ} {l':List κ'} (h:Ker l l'):cn l=cn l':=by
 have key:∀ n,n≤l.length→cn (l.take n)=cn (l'.take n)∧(dd (l.take n)).length=(dd (l'.take n)).length:=by
  intro n
  induction n with
  |zero=>intro _;exact ⟨rfl,rfl⟩
  |succ n ih=>
   intro hn
   obtain ⟨i1,i2⟩:=ih (by omega)
   have hn':n < l'.length:=by rw [←h.1];omega
   have t1:l.take (n+1)=l.take n++[l[n]]:=by rw [List.take_add_one,List.getElem?_eq_getElem (by omega)];rfl
   have t2:l'.take (n+1)=l'.take n++[l'[n]]:=by rw [List.take_add_one,List.getElem?_eq_getElem hn'];rfl
   have hiff:∀ k,k < n→(l[k]?=l[n]?↔l'[k]?=l'[n]?):=fun k hk=>h.2 k n (by omega) (by omega)
   have hg1:l[n]?=some l[n]:=List.getElem?_eq_getElem (by omega)
   have hg2:l'[n]?=some l'[n]:=List.getElem?_eq_getElem hn'
   have hmem:l[n]∈dd (l.take n)↔l'[n]∈dd (l'.take n):=by
    rw [aCb,aCb]
    constructor
    ·intro hm
     obtain ⟨k,hk,e⟩:=List.mem_iff_getElem.1 hm
     rw [List.length_take] at hk
     rw [List.getElem_take] at e
     have:=(hiff k (by omega)).1 (by rw [List.getElem?_eq_getElem (by omega),hg1,e])
     rw [hg2] at this
     obtain ⟨hk2,e2⟩:=List.getElem?_eq_some_iff.1 this
     rw [←e2]
     exact List.mem_iff_getElem.2 ⟨k,by rw [List.length_take];omega,by rw [List.getElem_take]⟩
    ·intro hm
     obtain ⟨k,hk,e⟩:=List.mem_iff_getElem.1 hm
     rw [List.length_take] at hk
     rw [List.getElem_take] at e
     have:=(hiff k (by omega)).2 (by rw [List.getElem?_eq_getElem (by omega),hg2,e])
     rw [hg1] at this
     obtain ⟨hk2,e2⟩:=List.getElem?_eq_some_iff.1 this
     rw [←e2]
     exact List.mem_iff_getElem.2 ⟨k,by rw [List.length_take];omega,by rw [List.getElem_take]⟩
   have hat:atK id (dd (l.take n)) l[n]=atK id (dd (l'.take n)) l'[n]:=by
    rw [aIm,aIm]
    by_cases hm:l[n]∈dd (l.take n)
    ·rw [if_pos hm,if_pos (hmem.1 hm)]
     obtain ⟨k,hk,e⟩:=List.mem_iff_getElem.1 (aCb.1 hm)
     rw [List.length_take] at hk
     rw [List.getElem_take] at e
     have h3:=(hiff k (by omega)).1 (by rw [List.getElem?_eq_getElem (by omega),hg1,e])
     rw [hg2] at h3
     obtain ⟨hk2,e2⟩:=List.getElem?_eq_some_iff.1 h3
     have c1:=aEL (l:=l.take n) (i:=k) (by rw [List.length_take];omega)
     have c2:=aEL (l:=l'.take n) (i:=k) (by rw [List.length_take];omega)
     rw [List.getElem_take] at c1 c2
     rw [e] at c1
     rw [e2] at c2
     rw [i1,c2] at c1
     exact (zI c1).symm
    ·rw [if_neg hm,if_neg (fun h=>hm (hmem.2 h)),i2]
   rw [t1,t2,aKm,aKm,aBV,aBV,i1,hat]
   refine ⟨rfl,?_⟩
   unfold qZ
   rw [List.map_id,List.map_id]
   by_cases hm:l[n]∈dd (l.take n)
   ·rw [if_pos (show id l[n]∈_ from hm),if_pos (show id l'[n]∈_ from hmem.1 hm),i2]
   ·rw [if_neg (show ¬ id l[n]∈_ from hm),if_neg (show ¬ id l'[n]∈_ from fun h=>hm (hmem.2 h)),List.length_append,List.length_append,i2];rfl
 have:=(key l.length (Nat.le_refl _)).1
 rwa [List.take_length,h.1,List.take_length] at this
end
theorem mq_len {κ:Type}:∀ (k:Nat) (l:List κ),(mq k l).length=l.length
 |_,[]=>rfl
 |k,x::l=>by rw [mq,List.length_cons,List.length_cons,mq_len (k+1) l]
theorem cn_set {l:List Int} {k:Nat} (hk:k < l.length):(cn (l.take k)++List.replicate (l.length - k) 0).set k (atK id (dd (l.take k)) l[k])=cn (l.take (k+1))++List.replicate (l.length - (k+1)) 0:=by
 have hl:(cn (l.take k)).length=k:=by rw [aAs,List.length_take];omega
 have t1:l.take (k+1)=l.take k++[l[k]]:=by rw [List.take_add_one,List.getElem?_eq_getElem hk];rfl
 rw [List.set_append_right _ _ (by omega),hl,Nat.sub_self,t1,aKm,show l.length - k=(l.length - (k+1))+1 by omega,List.replicate_succ,List.set_cons_zero,List.append_assoc];rfl
theorem aJn (l:List Int) (h:l.length < 1000000):aCu l=some (cn l):=by
 unfold aCu
 rw [aCQ 0 (by unfold jK;omega),aG]
 have key:=mQ (step:=fun s:List (Int × Int) × List Int × Int=>nO l s.1 s.2.1 s.2.2) l.length (fun k (s:List (Int × Int) × List Int)=>(s.1,s.2,(k:Int)))
  (fun k s=>s=(mq 0 (dd (l.take k)),cn (l.take k)++List.replicate (l.length - k) 0)) (fun r=>r=cn l) (fun k s hk hI=>?_) (fun s hI=>?_) l.length 0 ([],List.replicate l.length 0) (by omega) rfl
 ·obtain ⟨r,h1,rfl⟩:=key
  rw [show loop (fun s:List (Int × Int) × List Int × Int=>nO l s.1 s.2.1 s.2.2) ([],List.replicate l.length 0,0)=some (cn l) from h1];rfl
 ·subst hI
  have hset:=cn_set hk
  have hol:(cn (l.take k)++List.replicate (l.length - k) 0).length=l.length:=by rw [List.length_append,aAs,List.length_take,List.length_replicate];omega
  have t1:l.take (k+1)=l.take k++[l[k]]:=by rw [List.take_add_one,List.getElem?_eq_getElem hk];rfl
  refine ⟨_,?_,rfl⟩
  show nO l (mq 0 (dd (l.take k))) (cn (l.take k)++List.replicate (l.length - k) 0) (k:Int)=_
  unfold nO aAl
  rw [if_pos (cS hk),cZ hk,aG,mq_len,cZ (by rw [hol];exact hk),aG,aG,wF _ (by rw [hol];exact hk),wF _ (by rw [hol];exact hk),aG,aG,cH hk (by omega),←hset,aIm,t1,aBV]
  unfold qZ
  rw [List.map_id]
  by_cases hm:l[k]∈dd (l.take k)
  ·rw [aJY hm,if_neg (by simp),if_pos hm,if_pos (show id l[k]∈_ from hm)];rfl
  ·have hp:=aGF (k:=0) hm
   rw [Nat.zero_add] at hp
   rw [aHY hm,if_pos (by simp),if_neg hm,if_neg (show ¬ id l[k]∈_ from hm),hp]
 ·subst hI
  refine ⟨_,?_,rfl⟩
  show nO l _ _ (l.length:Int)=_
  unfold nO
  rw [if_neg (by simp),List.take_length,Nat.sub_self]
  simp
theorem norm_find (l:List Int) {i:Nat} (hi:i < l.length) (h:l.length < 1000000):loop (fun s:Int=>jC l (i:Int) s) 0=some (pos (l.take i) l[i]):=by
 have:=mC (step:=fun s:Int=>jC l (i:Int) s) i (fun k (_:Unit)=>(k:Int)) (fun k _=>match ((l.take i).drop k).findIdx? (fun x=>l[i] == x) with|none=>-1|some j=>((k+j:Nat):Int)) (fun _ _=>True) (fun k a hk _=>?_) (fun a _=>?_) i 0 () (by omega) trivial
 ·rw [show loop (fun s:Int=>jC l (i:Int) s) 0=_ from this]
  unfold pos
  rw [List.drop_zero]
  cases (l.take i).findIdx? (fun x=>l[i] == x)<;>simp
 ·have hd:(l.take i).drop k=l[k]::(l.take i).drop (k+1):=by
   rw [List.drop_eq_getElem_cons (by rw [List.length_take];omega),List.getElem_take]
  rw [hd,List.findIdx?_cons]
  by_cases e:l[k]=l[i]
  ·right
   show jC l (i:Int) (k:Int)=_
   unfold jC
   rw [if_pos (cS hk),cZ (by omega),aG,cZ hi,aG,if_pos (by simpa using e),if_pos (by simp [e])];rfl
  ·left
   refine ⟨(),?_,trivial,?_⟩
   ·show jC l (i:Int) (k:Int)=_
    unfold jC
    rw [if_pos (cS hk),cZ (by omega),aG,cZ hi,aG,if_neg (by simpa using e),cH hk (by omega)]
   ·rw [if_neg (by simp;exact fun h=>e h.symm)]
    cases ((l.take i).drop (k+1)).findIdx? (fun x=>l[i] == x) with
    |none=>rfl
    |some j=>simp only [Option.map_some];congr 1;omega
 ·show jC l (i:Int) (i:Int)=_
  unfold jC
  rw [if_neg (by simp),List.drop_of_length_le (by rw [List.length_take];omega)];rfl
theorem norm_eq (l:List Int) (h:l.length < 1000000):aCq l=some (cn l):=by
 unfold aCq
 rw [aCQ 0 (by unfold jK;omega),aG]
 have key:=mQ (step:=fun s:List Int × Int × Int=>lZ l s.1 s.2.1 s.2.2) l.length (fun k (s:List Int × Int)=>(s.1,s.2,(k:Int)))
  (fun k s=>s=(cn (l.take k)++List.replicate (l.length - k) 0,((dd (l.take k)).length:Int))∧(dd (l.take k)).length≤k) (fun r=>r=cn l) (fun k s hk hI=>?_) (fun s hI=>?_) l.length 0 (List.replicate l.length 0,0) (by omega) ⟨rfl,Nat.le_refl _⟩
 ·obtain ⟨r,h1,rfl⟩:=key
  rw [show loop (fun s:List Int × Int × Int=>lZ l s.1 s.2.1 s.2.2) (List.replicate l.length 0,0,0)=some (cn l) from h1];rfl
 ·obtain ⟨rfl,hdl⟩:=hI
  have hset:=cn_set hk
  have hol:(cn (l.take k)++List.replicate (l.length - k) 0).length=l.length:=by rw [List.length_append,aAs,List.length_take,List.length_replicate];omega
  have hcl:(cn (l.take k)).length=k:=by rw [aAs,List.length_take];omega
  have t1:l.take (k+1)=l.take k++[l[k]]:=by rw [List.take_add_one,List.getElem?_eq_getElem hk];rfl
  refine ⟨(cn (l.take (k+1))++List.replicate (l.length - (k+1)) 0,((dd (l.take (k+1))).length:Int)),?_,rfl,?_⟩
  ·show lZ l (cn (l.take k)++List.replicate (l.length - k) 0) ((dd (l.take k)).length:Int) (k:Int)=_
   unfold lZ tC xJ
   rw [if_pos (cS hk),norm_find l hk h,aG,←hset,t1,aBV,aIm]
   unfold qZ
   rw [List.map_id]
   by_cases hm:l[k]∈dd (l.take k)
   ·have hm':=aCb.1 hm
    obtain ⟨j,hj,e1,e2⟩:=kC hm'
    have hj':j < k:=by rw [List.length_take] at hj;omega
    have hcj:(cn (l.take k)++List.replicate (l.length - k) 0)[j]'(by rw [hol];omega)=pos (dd (l.take k)) l[k]:=by
     have:=aEL hj
     rw [e2] at this
     rw [List.getElem_append_left (by omega)]
     rw [List.getElem?_eq_getElem (by omega)] at this
     exact zI this
    rw [e1,if_pos (by simp),cZ (by rw [hol];omega),aG,cZ (by rw [hol];exact hk),aG,wF _ (by rw [hol];exact hk),aG,hcj,if_pos hm,if_pos (show id l[k]∈_ from hm),cH hk (by omega)]
   ·have hp:pos (l.take k) l[k]=-1:=pos_not (fun h=>hm (aCb.2 h))
    rw [hp,if_neg (by simp),cZ (by rw [hol];exact hk),aG,wF _ (by rw [hol];exact hk),aG,if_neg hm,if_neg (show ¬ id l[k]∈_ from hm),cH hk (by omega),List.length_append,List.length_singleton,cH (k:=(dd (l.take k)).length) (n:=1000001) (by omega) (by omega)]
  ·rw [t1,aBV]
   have:=aBy (key:=id) (dd (l.take k)) l[k]
   omega
 ·obtain ⟨rfl,_⟩:=hI
  refine ⟨_,?_,rfl⟩
  show lZ l _ _ (l.length:Int)=_
  unfold lZ
  rw [if_neg (by simp),List.take_length,Nat.sub_self]
  simp
end Gv
namespace Gv
open Go
section
variable {κ:Type} [DecidableEq κ] [BEq κ] [LawfulBEq κ]
def fi (K:List κ):List Int:=K.map (pos K)
theorem fi_ker (K:List κ):Ker (fi K) K:=by
 refine ⟨by unfold fi;rw [List.length_map],fun i j hi hj=>?_⟩
 unfold fi at hi hj ⊢
 rw [List.length_map] at hi hj
 rw [List.getElem?_map,List.getElem?_map,List.getElem?_eq_getElem hi,List.getElem?_eq_getElem hj]
 simp only [Option.map_some,Option.some.injEq]
 constructor
 ·intro h
  obtain ⟨a,ha,e1,e2⟩:=kC (List.getElem_mem hi)
  obtain ⟨b,hb,e3,e4⟩:=kC (List.getElem_mem hj)
  have:a=b:=by omega
  subst this
  rw [←e2,e4]
 ·intro h;rw [h]
theorem cn_fi (K:List κ):cn (fi K)=cn K:=aFs (fi_ker K)
theorem aIn (K:List κ):(fi K).length=K.length:=by unfold fi;rw [List.length_map]
theorem aLy {K:List κ} {k:Nat} (hk:k < K.length):pos K K[k]=if K[k]∈K.take k then pos (K.take k) K[k] else (k:Int):=by
 by_cases h:K[k]∈K.take k
 ·rw [if_pos h];exact aJW (List.take_prefix k K) h
 ·rw [if_neg h]
  obtain ⟨j,hj,e1,e2⟩:=kC (List.getElem_mem hk)
  have hjk:¬ j < k:=fun hlt=>h (e2 ▸ List.mem_iff_getElem.2 ⟨j,by rw [List.length_take];omega,by rw [List.getElem_take]⟩)
  have ht:K.take (k+1)=K.take k++[K[k]]:=by rw [List.take_add_one,List.getElem?_eq_getElem hk];rfl
  have h2:=aJW (a:=K.take k++[K[k]]) (b:=K) (by rw [←ht];exact List.take_prefix _ _) (q:=K[k]) (List.mem_append_right _ (List.mem_singleton.2 rfl))
  rw [h2,aLf h,List.length_take]
  omega
end
theorem aJo (a b:List Int) (h:a.length < 4611686018427387904):fI a b=some (decide (a=b)):=by
 unfold fI
 by_cases hl:a.length=b.length
 ·rw [if_neg (by simp [hl])]
  have:=aKP (step:=fun s=>eL a b s) (a.zip b) (fun p=>decide (p.1=p.2)) (.inr false) (.inl ()) (fun k x hk hx=>?_) ?_
  ·rw [this,aG]
   by_cases he:a=b
   ·subst he
    have:((a.zip a).all fun p=>decide (p.1=p.2))=true:=by
     rw [List.all_eq_true]
     intro p hp
     obtain ⟨i,hi,rfl⟩:=List.mem_iff_getElem.1 hp
     rw [List.getElem_zip];simp
    rw [if_pos this,decide_eq_true rfl];rfl
   ·have:¬ ((a.zip b).all fun p=>decide (p.1=p.2))=true:=fun h'=>he (List.ext_getElem hl fun i h1 h2=>by
     rw [List.all_eq_true] at h'
     have hiz:i < (a.zip b).length:=by rw [List.length_zip];omega
     have:=h' (a.zip b)[i] (List.getElem_mem hiz)
     rw [List.getElem_zip] at this
     simpa using this)
    rw [if_neg this,decide_eq_false he]
  ·have hzl:(a.zip b).length=a.length:=by rw [List.length_zip];omega
   rw [hzl] at hk
   obtain ⟨hk',rfl⟩:=aAq hx
   unfold eL
   rw [if_pos (cS hk),cZ hk,aG,cZ (by omega),aG,List.getElem_zip]
   by_cases e:a[k]=b[k]'(by omega)
   ·rw [if_neg (by simp [e]),if_pos (by simp [e]),cH hk h]
   ·rw [if_pos (by simpa using e),if_neg (by simpa using e)]
  ·have hzl:(a.zip b).length=a.length:=by rw [List.length_zip];omega
   rw [hzl]
   unfold eL
   rw [if_neg (by simp)]
 ·rw [if_pos (by simp;omega),decide_eq_false (fun h=>hl (by rw [h]))]
theorem IndexRows (xs:List (List Int)) (v:List Int) (h:xs.length < 4611686018427387904) (h2:∀ x∈xs,x.length < 1000000):eM xs v=some (pos xs v):=by
 unfold eM pos
 rw [aCw (step:=fun s=>cP xs v s) xs (fun x=>v == x) (fun k x hk hx=>?_) (by show cP xs v (xs.length:Int)=_;unfold cP;rw [if_neg (by simp)]),aG]
 ·cases xs.findIdx? (fun x=>v == x)<;>rfl
 ·obtain ⟨hk',rfl⟩:=aAq hx
  have hl:=h2 _ (List.getElem_mem hk')
  show cP xs v (k:Int)=_
  unfold cP vC
  rw [if_pos (cS hk),hx,aG,aJo _ _ (by omega),aG,aG,cH hk h]
  by_cases e:xs[k]=v
  ·rw [decide_eq_true e,if_pos rfl,if_pos (by simp [e])]
  ·rw [decide_eq_false e,if_neg (by simp),if_neg (by simp;exact fun h=>e h.symm)]
theorem aII (keys:List (List Int)) (h:keys.length < 1000000) (h2:∀ x∈keys,x.length < 1000000):xP keys=some (cn keys):=by
 unfold xP
 have key:=mQ (step:=fun s:List Int × Int=>jH keys s.1 s.2) keys.length (fun k (o:List Int)=>(o,(k:Int))) (fun k o=>o=(fi keys).take k) (fun r=>r=fi keys) (fun k o hk hI=>?_) (fun o hI=>?_) keys.length 0 [] (by omega) (by simp)
 ·obtain ⟨r,h1,rfl⟩:=key
  rw [show loop (fun s:List Int × Int=>jH keys s.1 s.2) ([],0)=some (fi keys) from h1,aG]
  unfold qG
  rw [aJn _ (by rw [aIn];exact h),aG,cn_fi]
 ·subst hI
  have hg:(fi keys)[k]?=some (pos keys keys[k]):=by unfold fi;rw [List.getElem?_map,List.getElem?_eq_getElem hk];rfl
  have hol:((fi keys).take k).length=k:=by rw [List.length_take,aIn];omega
  refine ⟨_,?_,rfl⟩
  show jH keys ((fi keys).take k) (k:Int)=_
  unfold jH qH
  rw [if_pos (cS hk),cZ hk,aG,slc_to (by omega),aG,IndexRows _ _ (by rw [List.length_take];omega) (fun x hx=>h2 x (List.mem_of_mem_take hx)),aG,List.take_add_one,hg,aLy hk]
  have hap:∀ z:Int,tK ((fi keys).take k) [z]=some ((fi keys).take k++[z]):=fun z=>eN (by rw [hol];simp [jK];omega)
  by_cases hm:keys[k]∈keys.take k
  ·rw [if_neg (by have:=tH.2 hm;simpa using this),hap,aG,if_pos hm,cH hk (by omega)];rfl
  ·rw [if_pos (by have:¬ 0≤pos (keys.take k) keys[k]:=fun h=>hm (tH.1 h);simpa using this),hap,aG,if_neg hm,cH hk (by omega)];rfl
 ·subst hI
  refine ⟨(fi keys).take keys.length,?_,by rw [←aIn keys,List.take_length]⟩
  show jH keys _ (keys.length:Int)=_
  unfold jH
  rw [if_neg (by simp)]
end Gv
namespace Gv
open Go
def bl (p:List Int) (g:Int):Int:=if g < 0 then -1 else p.getD g.toNat 0
def kr (d:cN) (p:List Int) (i:Nat):List Int:=d.L.tail.map fun s=>bl p (xW d (i:Int) s)
def nY (d:cN) (p:List Int):List (List Int):=(List.range d.N.toNat).map (kr d p)
def aDe (d:cN) (p:List Int):List (List Int):=(List.range d.N.toNat).map fun i=>p.getD i 0::kr d p i
section
variable {d:cN}
theorem kr_len (d:cN) (p:List Int) (i:Nat):(kr d p i).length=d.L.tail.length:=by unfold kr;rw [List.length_map]
theorem lP (d:cN) (p:List Int):(nY d p).length=d.N.toNat:=by unfold nY;rw [List.length_map,List.length_range]
theorem aAS (d:cN) (p:List Int):(aDe d p).length=d.N.toNat:=by unfold aDe;rw [List.length_map,List.length_range]
theorem lQ {d:cN} {p:List Int} {i:Nat} (h:i < d.N.toNat):(nY d p)[i]?=some (kr d p i):=by unfold nY;rw [List.getElem?_map,List.getElem?_range h];rfl
theorem aFZ {d:cN} {p:List Int} {i:Nat} (h:i < d.N.toNat):(aDe d p)[i]?=some (p.getD i 0::kr d p i):=by unfold aDe;rw [List.getElem?_map,List.getElem?_range h];rfl
theorem bl_ix (hd:cU d) {p:List Int} (hp:p.length=d.N.toNat) {q:Int} {s:bB} (h:0≤xW d q s):ix p (xW d q s)=some (bl p (xW d q s)):=by
 have h1:=aEF hd q s
 have h2:=hd.1
 rw [aIM h (by omega)]
 unfold bl
 rw [if_neg (by omega),List.getD_eq_getElem?_getD,List.getElem?_eq_getElem (by omega)];rfl
theorem key_loop (hd:fP d) {p:List Int} (hp:p.length=d.N.toNat) (i:Nat) (x:Int):loop (fun s:List Int × Int=>fM d p (i:Int) d.L.tail s.1 s.2) ([x],0)=some (x::kr d p i):=by
 have h12:=hd.1.2.2.1.2.1
 have htl:d.L.tail.length=d.L.length - 1:=List.length_tail ..
 have:=nF (step:=fun s:List Int × Int=>fM d p (i:Int) d.L.tail s.1 s.2) d.L.tail (fun k o=>(o,(k:Int))) (fun l o=>o++l.map fun s=>bl p (xW d (i:Int) s)) (fun k o=>o.length=k+1) (fun k o s l hk hx hI=>?_) (fun o _=>?_) (a:=[x]) rfl
 ·exact this
 ·left
  have hI':o.length=k+1:=hI
  have hap:∀ z:Int,tK o [z]=some (o++[z]):=fun z=>eN (by simp [jK];omega)
  refine ⟨o++[bl p (xW d (i:Int) s)],?_,by simp [hI'],by simp⟩
  show fM d p (i:Int) d.L.tail o (k:Int)=_
  unfold fM lI
  rw [if_pos (cS hk),hx,aG,step_eq hd.1 hd.2,aG,cH hk (by omega)]
  by_cases hg:0≤xW d (i:Int) s
  ·rw [if_pos (by simpa using hg),bl_ix hd.1 hp hg,aG,hap,aG]
  ·rw [if_neg (by simpa using hg),hap,aG]
   unfold bl
   rw [if_pos (by omega)]
 ·show fM d p (i:Int) d.L.tail o (d.L.tail.length:Int)=_
  unfold fM
  rw [if_neg (by simp)];simp
theorem keys_loop (hd:fP d) {p:List Int} (hp:p.length=d.N.toNat):loop (fun s:List (List Int) × Int=>eZ d p s.1 s.2) ([],0)=some (aDe d p):=by
 have h40:=hd.1.1
 have h1:=hd.1.2.2.1.1
 have hsl:zH d.L 1 (d.L.length:Int)=some d.L.tail:=by
  have:=aCx (s:=d.L) (w:=1) h1
  rw [show ((1:Nat):Int)=1 from rfl] at this
  rw [this,List.drop_one]
 have hS:((d.N.toNat:Nat):Int)=d.N:=by omega
 have:=mC (step:=fun s:List (List Int) × Int=>eZ d p s.1 s.2) d.N.toNat (fun k (o:List (List Int))=>(o,(k:Int))) (fun k o=>o++(aDe d p).drop k) (fun k o=>o.length=k) (fun k o hk hI=>?_) (fun o _=>?_) d.N.toNat 0 [] (by omega) rfl
 ·rw [show loop (fun s:List (List Int) × Int=>eZ d p s.1 s.2) ([],0)=_ from this,List.drop_zero,List.nil_append]
 ·left
  have hI':o.length=k:=hI
  have hpk:ix p (k:Int)=some (p.getD k 0):=by
   rw [cZ (by omega),List.getD_eq_getElem?_getD,List.getElem?_eq_getElem (by omega)];rfl
  refine ⟨o++[p.getD k 0::kr d p k],?_,by simp [hI'],?_⟩
  ·show eZ d p o (k:Int)=_
   unfold eZ lH nT
   rw [if_pos (by simp;omega),hpk,aG,hsl,aG,key_loop hd hp,aG,eN (by simp [jK];omega),aG,cH hk (by omega)]
  ·have hkl:k < (aDe d p).length:=by rw [aAS];exact hk
   have hg:=aFZ (p:=p) hk
   rw [List.getElem?_eq_getElem hkl] at hg
   rw [List.drop_eq_getElem_cons hkl,Option.some.inj hg,List.append_assoc];rfl
 ·show eZ d p o (d.N.toNat:Int)=_
  unfold eZ
  rw [if_neg (by simp;omega),List.drop_of_length_le (by rw [aAS];exact Nat.le_refl _),List.append_nil]
theorem aMv (hd:fP d) {p:List Int} (hp:p.length=d.N.toNat):fN d p=some (if cn (aDe d p)=p then .inr p else .inl (cn (aDe d p))):=by
 have h40:=hd.1.1
 have h12:=hd.1.2.2.1.2.1
 have htl:d.L.tail.length=d.L.length - 1:=List.length_tail ..
 unfold fN lG nS
 rw [keys_loop hd hp,aG,aII _ (by rw [aAS];omega) (fun x hx=>by
  unfold aDe at hx
  obtain ⟨i,_,rfl⟩:=List.mem_map.1 hx
  rw [List.length_cons,kr_len];omega),aG,aJo _ _ (by rw [aAs,aAS];omega),aG]
 by_cases h:cn (aDe d p)=p
 ·rw [decide_eq_true h,if_pos rfl,if_pos h]
 ·rw [decide_eq_false h,if_neg (by simp),if_neg h]
theorem same_loop (hd:cU d) {p:List Int} (hp:p.length=d.N.toNat) (hp0:∀ z∈p,0≤z) (i k:Nat):loop (fun s:Bool × Int=>iO d p (i:Int) (k:Int) s.1 s.2) (true,1)=some (decide (kr d p i=kr d p k)):=by
 have h1:=hd.2.2.1.1
 have h12:=hd.2.2.1.2.1
 have hbl:∀ (q:Int) s,0≤xW d q s→0≤bl p (xW d q s):=fun q s h=>hp0 _ (by
  have:=bl_ix hd hp h
  obtain ⟨_,hlt,hg⟩:=aBI this
  exact List.mem_of_getElem? hg)
 have hkr:∀ j i,j < d.L.tail.length→(kr d p i)[j]?=some (bl p (xW d (i:Int) (d.L.getD (j+1) []))):=fun j i hj=>by
  unfold kr
  rw [List.getElem?_map,List.getElem?_eq_getElem hj,List.getElem_tail,List.getD_eq_getElem?_getD,List.getElem?_eq_getElem (by rw [List.length_tail] at hj;omega)];rfl
 have htl:d.L.tail.length=d.L.length - 1:=List.length_tail ..
 have key:=zF (step:=fun s:Bool × Int=>iO d p (i:Int) (k:Int) s.1 s.2) (fun s=>∃ m:Nat,s.2=(m:Int)∧1≤m∧m≤d.L.length∧(s.1=true→∀ j,j+1 < m→(kr d p i)[j]?=(kr d p k)[j]?)∧(s.1=false→kr d p i≠kr d p k)) (fun s=>14 - s.2.toNat) (fun r=>r=decide (kr d p i=kr d p k)) (fun s hI=>?_) (s:=(true,1)) ⟨1,rfl,Nat.le_refl _,h1,fun _ j hj=>by omega,fun h=>by cases h⟩
 ·obtain ⟨r,h2,rfl⟩:=key
  exact h2
 ·obtain ⟨b,m'⟩:=s
  obtain ⟨m,rfl,m1,m2,hT,hF⟩:=hI
  simp only at hT hF
  by_cases hlt:m < d.L.length
  ·have hst:iO d p (i:Int) (k:Int) b (m:Int)=jD d p (i:Int) (k:Int) b (m:Int) b:=by
    unfold iO;rw [if_pos (cS hlt)]
   cases b with
   |false=>
    right
    refine ⟨false,?_,by rw [decide_eq_false (hF rfl)]⟩
    simp only
    rw [hst]
    unfold jD
    rw [if_neg (by simp)]
   |true=>
    left
    have hmj:m - 1 < d.L.tail.length:=by omega
    have e1:=hkr (m - 1) i hmj
    have e2:=hkr (m - 1) k hmj
    rw [show m - 1+1=m by omega] at e1 e2
    have hlab:ix d.L (m:Int)=some (d.L.getD m []):=by rw [cZ hlt,List.getD_eq_getElem?_getD,List.getElem?_eq_getElem hlt];rfl
    have hval:jD d p (i:Int) (k:Int) true (m:Int) true=some (.inl (decide (bl p (xW d (i:Int) (d.L.getD m []))=bl p (xW d (k:Int) (d.L.getD m []))),((m+1:Nat):Int))):=by
     unfold jD iJ
     rw [if_pos rfl,hlab,aG,aHO hd,aG,aHO hd,aG,cH hlt (by omega)]
     have b1:=hbl (i:Int) (d.L.getD m [])
     have b2:=hbl (k:Int) (d.L.getD m [])
     have x1:=bl_ix hd hp (q:=(i:Int)) (s:=d.L.getD m [])
     have x2:=bl_ix hd hp (q:=(k:Int)) (s:=d.L.getD m [])
     have n1:∀ g:Int,g < 0→bl p g=-1:=fun g h=>by unfold bl;rw [if_pos h]
     generalize xW d (i:Int) (d.L.getD m [])=g at b1 x1 ⊢
     generalize xW d (k:Int) (d.L.getD m [])=h at b2 x2 ⊢
     by_cases hg:g < 0
     ·by_cases hh:h < 0
      ·rw [if_pos (by simpa using hg),if_pos (by simpa using hh),n1 g hg,n1 h hh];simp
      ·have:=b2 (by omega)
       rw [if_pos (by simpa using hg),if_neg (by simpa using hh),if_neg (by simp;omega),n1 g hg,decide_eq_false (by omega)]
     ·by_cases hh:h < 0
      ·have:=b1 (by omega)
       rw [if_neg (by simpa using hg),if_pos (by simp;omega),if_neg (by simp;omega),n1 h hh,decide_eq_false (by omega)]
      ·rw [if_neg (by simpa using hg),if_pos (by simp;omega),if_pos (by simp;omega),x1 (by omega),aG,x2 (by omega),aG]
       rfl
    refine ⟨_,by simp only;rw [hst];exact hval,⟨m+1,rfl,by omega,by omega,fun hb j hj=>?_,fun hb heq=>?_⟩,by simp;omega⟩
    ·simp only [decide_eq_true_eq] at hb
     by_cases hjm:j+1 < m
     ·exact hT rfl j hjm
     ·obtain rfl:j=m - 1:=by omega
      rw [e1,e2,hb]
    ·simp only [decide_eq_false_iff_not] at hb
     rw [heq,e2] at e1
     exact hb (Option.some.inj e1).symm
  ·obtain rfl:m=d.L.length:=by omega
   right
   refine ⟨b,?_,?_⟩
   ·show iO d p (i:Int) (k:Int) b (d.L.length:Int)=_
    unfold iO jD
    rw [if_neg (by simp),if_neg (by simp)]
   ·cases b with
    |false=>rw [decide_eq_false (hF rfl)]
    |true=>
     rw [decide_eq_true (List.ext_getElem? fun j=>?_)]
     by_cases hj:j < d.L.tail.length
     ·exact hT rfl j (by omega)
     ·rw [List.getElem?_eq_none (by rw [kr_len];omega),List.getElem?_eq_none (by rw [kr_len];omega)]
end
end Gv
namespace Gv
open Go
section
variable {d:cN}
theorem aMw (hd:cU d) {p:List Int} (hp:p.length=d.N.toNat) (hp0:∀ z∈p,0≤z) {i:Nat} (hi:i < d.N.toNat) {l:List Int} (hl:l.length=d.N.toNat) (hpre:l.take i=(fi (nY d p)).take i) (hii:l[i]?=some (i:Int)):
  loop (fun k:Int=>gB d p (i:Int) l k) 0=some (l.set i (pos (nY d p) (kr d p i))):=by
 have h40:=hd.1
 have hkl:=lP d p
 have hlt:∀ j,j < i→l[j]?=some (pos (nY d p) (kr d p j)):=fun j hj=>by
  have h1:(l.take i)[j]?=l[j]?:=List.getElem?_take_of_lt hj
  have h2:((fi (nY d p)).take i)[j]?=(fi (nY d p))[j]?:=List.getElem?_take_of_lt hj
  rw [←h1,hpre,h2]
  unfold fi
  rw [List.getElem?_map,lQ (by omega)];rfl
 have hst:∀ k,k < i→gB d p (i:Int) l (k:Int)=if kr d p i=kr d p k then some (.inr (l.set i (pos (nY d p) (kr d p k)))) else some (.inl ((k+1:Nat):Int)):=fun k hk=>by
  unfold gB qE uZ
  rw [if_pos (by simp;omega),same_loop hd hp hp0,aG]
  by_cases e:kr d p i=kr d p k
  ·rw [decide_eq_true e,if_pos rfl,if_pos e,rI,hlt k hk,aG,rI,hii,aG,wF _ (by omega),aG]
  ·rw [decide_eq_false e,if_neg (by simp),if_neg e,cH hk (by omega)]
 have key:=zF (step:=fun k:Int=>gB d p (i:Int) l k) (fun s=>∃ k:Nat,s=(k:Int)∧k≤i∧∀ j,j < k→kr d p i≠kr d p j) (fun s=>i+1 - s.toNat) (fun r=>r=l.set i (pos (nY d p) (kr d p i))) (fun s hI=>?_) (s:=0) ⟨0,rfl,Nat.zero_le _,fun j h=>by omega⟩
 ·obtain ⟨r,h1,rfl⟩:=key
  exact h1
 ·obtain ⟨k,rfl,hk,hno⟩:=hI
  by_cases hlt':k < i
  ·show (∃ s',gB d p (i:Int) l (k:Int)=some (.inl s')∧_∧_)∨∃ r,gB d p (i:Int) l (k:Int)=some (.inr r)∧_
   rw [hst k hlt']
   by_cases e:kr d p i=kr d p k
   ·right
    rw [if_pos e]
    exact ⟨_,rfl,by rw [e]⟩
   ·left
    rw [if_neg e]
    refine ⟨_,rfl,⟨k+1,rfl,hlt',fun j hj=>?_⟩,by simp;omega⟩
    by_cases hjk:j < k
    ·exact hno j hjk
    ·obtain rfl:j=k:=by omega
     exact e
  ·obtain rfl:k=i:=by omega
   right
   refine ⟨l,?_,?_⟩
   ·show gB d p (k:Int) l (k:Int)=_
    unfold gB
    rw [if_neg (by simp)]
   ·have hg:=lQ (p:=p) hi
    have hik:k < (nY d p).length:=by rw [hkl];exact hi
    have e1:(nY d p)[k]=kr d p k:=by rw [List.getElem?_eq_getElem hik] at hg;exact Option.some.inj hg
    have hpt:=aLy hik
    rw [e1,if_neg (fun hm=>by
     obtain ⟨j,hj,e⟩:=List.mem_iff_getElem.1 hm
     rw [List.length_take] at hj
     rw [List.getElem_take] at e
     have hgj:=lQ (p:=p) (show j < d.N.toNat by omega)
     rw [List.getElem?_eq_getElem (by omega)] at hgj
     rw [Option.some.inj hgj] at e
     exact hno j (by omega) e.symm)] at hpt
    rw [hpt]
    refine List.ext_getElem? fun m=>?_
    by_cases em:m=k
    ·subst em;rw [List.getElem?_set_self (by omega),hii]
    ·rw [List.getElem?_set_ne (Ne.symm em)]
theorem round_ref (hd:cU d) {p:List Int} (hp:p.length=d.N.toNat) (hp0:∀ z∈p,0≤z):loop (fun s:List Int × Int=>iP d p s.1 s.2) (List.replicate d.N.toNat 0,0)=some (fi (nY d p)):=by
 have h40:=hd.1
 have hfl:(fi (nY d p)).length=d.N.toNat:=by rw [aIn,lP]
 have hS:((d.N.toNat:Nat):Int)=d.N:=by omega
 have key:=mQ (step:=fun s:List Int × Int=>iP d p s.1 s.2) d.N.toNat (fun k (l:List Int)=>(l,(k:Int))) (fun k l=>l.length=d.N.toNat∧l.take k=(fi (nY d p)).take k) (fun r=>r=fi (nY d p)) (fun k l hk hI=>?_) (fun l hI=>?_) d.N.toNat 0 (List.replicate d.N.toNat 0) (by omega) ⟨by simp,by simp⟩
 ·obtain ⟨r,h1,rfl⟩:=key
  exact h1
 ·obtain ⟨hl,hpre⟩:=hI
  have h1:=aMw hd hp hp0 hk (l:=l.set k (k:Int)) (by rw [List.length_set];exact hl) (by rw [List.take_set_of_le (Nat.le_refl _),hpre]) (List.getElem?_set_self (by omega))
  rw [List.set_set] at h1
  refine ⟨l.set k (pos (nY d p) (kr d p k)),?_,by rw [List.length_set];exact hl,?_⟩
  ·show iP d p l (k:Int)=_
   unfold iP mX uY
   rw [if_pos (by simp;omega),cZ (by omega),aG,wF _ (by omega),aG,h1,aG,cH hk (by omega)]
  ·have hg:(fi (nY d p))[k]?=some (pos (nY d p) (kr d p k)):=by unfold fi;rw [List.getElem?_map,lQ hk];rfl
   rw [List.take_add_one,List.take_add_one,List.take_set_of_le (Nat.le_refl _),hpre,hg,List.getElem?_set_self (by omega)]
 ·obtain ⟨hl,hpre⟩:=hI
  refine ⟨l,?_,?_⟩
  ·show iP d p l (d.N.toNat:Int)=_
   unfold iP
   rw [if_neg (by simp;omega)]
  ·rw [←hl,List.take_length,hl,←hfl,List.take_length] at hpre
   exact hpre
def eO (d:cN):Nat→List Int
 |0=>List.replicate d.N.toNat 0
 |j+1=>cn (nY d (eO d j))
theorem aCW (d:cN):∀ j,(eO d j).length=d.N.toNat
 |0=>by simp [eO]
 |j+1=>by rw [eO,aAs,lP]
theorem aFt (d:cN):∀ j,∀ z∈eO d j,0≤z
 |0,z,h=>by simp [eO] at h;omega
 |j+1,z,h=>(cn_in h).1
theorem aMx (hd:cU d):xK d=some (eO d d.N.toNat):=by
 have h40:=hd.1
 have hS:((d.N.toNat:Nat):Int)=d.N:=by omega
 have hmk:=aCQ (n:=d.N.toNat) (0:Int) (by unfold jK;omega)
 rw [hS] at hmk
 unfold xK
 rw [hmk,aG]
 have:=mC (step:=fun s:List Int × Int=>iQ d s.1 s.2) d.N.toNat (fun k (p:List Int)=>(p,(k:Int))) (fun _ _=>eO d d.N.toNat) (fun k p=>p=eO d k) (fun k p hk hI=>?_) (fun p hI=>?_) d.N.toNat 0 (List.replicate d.N.toNat 0) (by omega) rfl
 ·rw [show loop (fun s:List Int × Int=>iQ d s.1 s.2) (List.replicate d.N.toNat 0,0)=_ from this];rfl
 ·left
  subst hI
  refine ⟨eO d (k+1),?_,rfl,rfl⟩
  show iQ d (eO d k) (k:Int)=_
  unfold iQ qD uX
  rw [if_pos (by simp;omega),hmk,aG,round_ref hd (aCW d k) (aFt d k),aG,norm_eq _ (by rw [aIn,lP];omega),aG,cn_fi,cH hk (by omega)];rfl
 ·subst hI
  show iQ d _ (d.N.toNat:Int)=_
  unfold iQ
  rw [if_neg (by simp;omega)]
theorem aGa (d:cN) (j:Nat) {x y:Nat} (hx:x < d.N.toNat) (hy:y < d.N.toNat):(eO d (j+1))[x]?=(eO d (j+1))[y]?↔kr d (eO d j) x=kr d (eO d j) y:=by
 have h:=(cn_ker (nY d (eO d j))).2 x y (by rw [aAs,lP];exact hx) (by rw [aAs,lP];exact hy)
 rw [lQ hx,lQ hy,Option.some.injEq] at h
 exact h
theorem bl_same (hd:cU d) {p:List Int} (hp:p.length=d.N.toNat) (hp0:∀ z∈p,0≤z) {g h:Int} (hg:-1≤g∧g≤d.N - 1) (hh:-1≤h∧h≤d.N - 1):bl p g=bl p h↔(g < 0∧h < 0)∨(0≤g∧0≤h∧p[g.toNat]?=p[h.toNat]?):=by
 have h40:=hd.1
 have hpos:∀ g:Int,0≤g→g≤d.N - 1→p[g.toNat]?=some (bl p g)∧0≤bl p g:=fun g h0 h1=>by
  have hlt:g.toNat < p.length:=by omega
  have e:p[g.toNat]?=some (bl p g):=by
   unfold bl
   rw [if_neg (by omega),List.getD_eq_getElem?_getD,List.getElem?_eq_getElem hlt];rfl
  exact ⟨e,hp0 _ (List.mem_of_getElem? e)⟩
 have hneg:∀ g:Int,g < 0→bl p g=-1:=fun g h=>by unfold bl;rw [if_pos h]
 by_cases c1:g < 0
 ·by_cases c2:h < 0
  ·rw [hneg g c1,hneg h c2];simp [c1,c2]
  ·have:=(hpos h (by omega) hh.2).2
   rw [hneg g c1]
   constructor
   ·intro e;omega
   ·rintro (e|e)<;>omega
 ·by_cases c2:h < 0
  ·have:=(hpos g (by omega) hg.2).2
   rw [hneg h c2]
   constructor
   ·intro e;omega
   ·rintro (e|e)<;>omega
  ·rw [(hpos g (by omega) hg.2).1,(hpos h (by omega) hh.2).1]
   constructor
   ·intro e;exact .inr ⟨by omega,by omega,by rw [e]⟩
   ·rintro (e|⟨_,_,e⟩)
    ·omega
    ·exact Option.some.inj e
theorem kr_mono (hd:cU d) {p q:List Int} (hp:p.length=d.N.toNat) (hp0:∀ z∈p,0≤z) (hq:q.length=d.N.toNat) (hq0:∀ z∈q,0≤z) (h:∀ x y:Nat,x < d.N.toNat→y < d.N.toNat→q[x]?=q[y]?→p[x]?=p[y]?) {x y:Nat} (e:kr d q x=kr d q y):kr d p x=kr d p y:=by
 unfold kr at e ⊢
 refine List.map_congr_left fun s hs=>?_
 have e1:=List.map_inj_left.1 e s hs
 have g1:=aEF hd (x:Int) s
 have g2:=aEF hd (y:Int) s
 rw [bl_same hd hq hq0 g1 g2] at e1
 rw [bl_same hd hp hp0 g1 g2]
 rcases e1 with e1|⟨a,b,c⟩
 ·exact .inl e1
 ·exact .inr ⟨a,b,h _ _ (by omega) (by omega) c⟩
theorem vR (hd:cU d):∀ (j:Nat) (x y:Nat),x < d.N.toNat→y < d.N.toNat→(eO d (j+1))[x]?=(eO d (j+1))[y]?→(eO d j)[x]?=(eO d j)[y]?
 |0,x,y,hx,hy,_=>by
  show (List.replicate d.N.toNat (0:Int))[x]?=(List.replicate d.N.toNat (0:Int))[y]?
  rw [List.getElem?_replicate,List.getElem?_replicate,if_pos hx,if_pos hy]
 |j+1,x,y,hx,hy,h=>by
  rw [aGa d (j+1) hx hy] at h
  rw [aGa d j hx hy]
  exact kr_mono hd (aCW d j) (aFt d j) (aCW d (j+1)) (aFt d (j+1)) (fun x y hx hy=>vR hd j x y hx hy) h
theorem keysP_blk (hd:cU d) (j:Nat):cn (aDe d (eO d j))=eO d (j+1):=by
 show _=cn (nY d (eO d j))
 refine aFs ⟨by rw [aAS,lP],fun x y hx hy=>?_⟩
 rw [aAS] at hx hy
 rw [aFZ hx,aFZ hy,lQ hx,lQ hy,Option.some.injEq,Option.some.injEq,List.cons.injEq]
 refine ⟨fun h=>h.2,fun h=>⟨?_,h⟩⟩
 have:=vR hd j x y hx hy ((aGa d j hx hy).2 h)
 rw [List.getD_eq_getElem?_getD,List.getD_eq_getElem?_getD,this]
def pW (p:List Int) (n:Nat):List Nat:=(List.range n).filter fun i=>decide (∀ k,k < i→p[k]?≠p[i]?)
theorem aMy (hd:cU d) (j:Nat):eO d (j+1)=eO d j∨(pW (eO d j) d.N.toNat).length < (pW (eO d (j+1)) d.N.toNat).length:=by
 by_cases hs:∀ x y:Nat,x < d.N.toNat→y < d.N.toNat→(eO d j)[x]?=(eO d j)[y]?→(eO d (j+1))[x]?=(eO d (j+1))[y]?
 ·left
  cases j with
  |zero=>
   have hz:eO d 0=cn (eO d 0):=by
    have hrep:∀ n,cn (List.replicate n (0:Int))=List.replicate n 0:=by
     intro n
     refine List.ext_getElem? fun i=>?_
     by_cases hi:i < n
     ·rw [aEL (by simpa using hi),List.getElem_replicate,List.getElem?_replicate,if_pos hi]
      have hmem:(0:Int)∈dd (List.replicate n (0:Int)):=aCb.2 (by rw [List.mem_replicate];exact ⟨by omega,rfl⟩)
      have hdd:∀ m,dd (List.replicate (m+1) (0:Int))=[0]:=by
       intro m
       induction m with
       |zero=>rfl
       |succ m ih=>rw [List.replicate_succ',aBV,ih];rfl
      obtain ⟨m,rfl⟩:∃ m,n=m+1:=⟨n - 1,by omega⟩
      rw [hdd];rfl
     ·rw [List.getElem?_eq_none (by rw [aAs,List.length_replicate];omega),List.getElem?_eq_none (by rw [List.length_replicate];omega)]
    exact (hrep _).symm
   rw [hz]
   show cn (nY d (eO d 0))=cn (eO d 0)
   refine aFs ⟨by rw [lP,aCW],fun x y hx hy=>?_⟩
   rw [lP] at hx hy
   rw [lQ hx,lQ hy,Option.some.injEq,←aGa d 0 hx hy]
   exact ⟨vR hd 0 x y hx hy,hs x y hx hy⟩
  |succ j=>
   show cn (nY d (eO d (j+1)))=cn (nY d (eO d j))
   refine aFs ⟨by rw [lP,lP],fun x y hx hy=>?_⟩
   rw [lP] at hx hy
   rw [lQ hx,lQ hy,lQ hx,lQ hy,Option.some.injEq,Option.some.injEq,←aGa d (j+1) hx hy,←aGa d j hx hy]
   exact ⟨vR hd (j+1) x y hx hy,hs x y hx hy⟩
 ·right
  have hsub:∀ i,i∈pW (eO d j) d.N.toNat→i∈pW (eO d (j+1)) d.N.toNat:=fun i hi=>by
   unfold pW at hi ⊢
   rw [List.mem_filter,List.mem_range,decide_eq_true_iff] at hi ⊢
   exact ⟨hi.1,fun k hk e=>hi.2 k hk (vR hd j k i (by omega) hi.1 e)⟩
  have hnd:∀ p,(pW p d.N.toNat).Nodup:=fun p=>List.Nodup.sublist List.filter_sublist List.nodup_range
  have hex:∃ z,z∈pW (eO d (j+1)) d.N.toNat∧z∉pW (eO d j) d.N.toNat:=by
   apply Classical.byContradiction
   intro hno
   refine hs fun x y hx hy e=>?_
   have hmin:∀ x,x < d.N.toNat→∃ z,z≤x∧z∈pW (eO d (j+1)) d.N.toNat∧(eO d (j+1))[z]?=(eO d (j+1))[x]?:=by
    intro x
    induction x using Nat.strongRecOn with
    |ind x ih=>
     intro hx
     by_cases h:∀ k,k < x→(eO d (j+1))[k]?≠(eO d (j+1))[x]?
     ·exact ⟨x,Nat.le_refl _,by unfold pW;rw [List.mem_filter,List.mem_range,decide_eq_true_iff];exact ⟨hx,h⟩,rfl⟩
     ·obtain ⟨k,hk⟩:=Classical.not_forall.1 h
      obtain ⟨hk1,hk2⟩:=Classical.not_imp.1 hk
      obtain ⟨z,z1,z2,z3⟩:=ih k hk1 (by omega)
      exact ⟨z,by omega,z2,z3.trans (Classical.not_not.1 hk2)⟩
   obtain ⟨a,a1,a2,a3⟩:=hmin x hx
   obtain ⟨b,b1,b2,b3⟩:=hmin y hy
   have ha:a∈pW (eO d j) d.N.toNat:=Classical.byContradiction fun h=>hno ⟨a,a2,h⟩
   have hb:b∈pW (eO d j) d.N.toNat:=Classical.byContradiction fun h=>hno ⟨b,b2,h⟩
   have hab:(eO d j)[a]?=(eO d j)[b]?:=((vR hd j a x (by omega) hx a3).trans e).trans (vR hd j b y (by omega) hy b3).symm
   unfold pW at ha hb
   rw [List.mem_filter,decide_eq_true_iff] at ha hb
   have:a=b:=by
    rcases Nat.lt_trichotomy a b with h|h|h
    ·exact absurd hab (hb.2 a h)
    ·exact h
    ·exact absurd hab.symm (ha.2 b h)
   subst this
   exact a3.symm.trans b3
  obtain ⟨z,z1,z2⟩:=hex
  have:=List.Nodup.length_le_of_subset (l₁:=z::pW (eO d j) d.N.toNat) (l₂:=pW (eO d (j+1)) d.N.toNat) (List.nodup_cons.2 ⟨z2,hnd _⟩) (fun i hi=>by
   rcases List.mem_cons.1 hi with rfl|hi
   ·exact z1
   ·exact hsub i hi)
  rw [List.length_cons] at this
  omega
theorem aLz {j:Nat} (h:eO d (j+1)=eO d j):∀ m,eO d (j+m)=eO d j
 |0=>rfl
 |m+1=>by
  show cn (nY d (eO d (j+m)))=_
  rw [aLz h m];exact h
theorem aGn (hd:fP d):∀ (m j:Nat),j+m=d.N.toNat→j < (pW (eO d j) d.N.toNat).length→loop (fun s:List Int=>fN d s) (eO d j)=some (eO d d.N.toNat)
 |m,j,hm,hj=>by
  have hle:(pW (eO d j) d.N.toNat).length≤d.N.toNat:=by
   have:=List.length_filter_le (fun i=>decide (∀ k,k < i→(eO d j)[k]?≠(eO d j)[i]?)) (List.range d.N.toNat)
   rw [List.length_range] at this
   exact this
  have hst:=aMv hd (aCW d j)
  rw [keysP_blk hd.1] at hst
  by_cases he:eO d (j+1)=eO d j
  ·rw [if_pos he] at hst
   rw [nX (step:=fun s:List Int=>fN d s) hst,←hm,aLz he]
  ·rw [if_neg he] at hst
   have hmore:=(aMy hd.1 j).resolve_left he
   rw [qM (step:=fun s:List Int=>fN d s) hst]
   cases m with
   |zero=>omega
   |succ m=>exact aGn hd m (j+1) (by omega) (by omega)
theorem aLA (hd:fP d):loop (fun s:List Int=>fN d s) (List.replicate d.N.toNat 0)=some (eO d d.N.toNat):=by
 have h40:=hd.1.1
 refine aGn hd d.N.toNat 0 (by omega) ?_
 have:0∈pW (eO d 0) d.N.toNat:=by
  unfold pW
  rw [List.mem_filter,List.mem_range,decide_eq_true_iff]
  exact ⟨by omega,fun k hk=>by omega⟩
 exact List.length_pos_of_mem this
end
end Gv
namespace Gv
open Go
def kB (p:List Int) (s:Int):Int:=p.getD s.toNat 0
def aBA (d:cN) (k:Nat):bB:=d.L.getD k []
def aBH (d:cN) (s:Int):Nat→Nat→List (Int × Int)
 |0,_=>[]
 |n+1,k=>if xW d s (aBA d k) < 0 then aBH d s n (k+1) else ((k:Int),xW d s (aBA d k))::aBH d s n (k+1)
def nxM (d:cN) (s:Int):List (Int × Int):=aBH d s (d.L.length - 1) 1
def inS (d:cN) (s:Int):Prop:=0≤s∧s < d.N
section
variable {d:cN} {p:List Int}
theorem aFu (hd:cU d) (s:Int):∀ (n k:Nat),∀ x∈aBH d s n k,inS d x.2
 |0,_,x,h=>by simp [aBH] at h
 |n+1,k,x,h=>by
  unfold aBH at h
  split at h
  ·exact aFu hd s n (k+1) x h
  ·rcases List.mem_cons.1 h with rfl|h
   ·have:=aEF hd s (aBA d k)
    unfold inS;simp only;omega
   ·exact aFu hd s n (k+1) x h
theorem aLB (s:Int):∀ (n k:Nat),Inc ((k:Int) - 1) ((k:Int)+n - 1) (aBH d s n k)
 |0,k=>⟨by simp [aBH],fun x hx=>by simp [aBH] at hx⟩
 |n+1,k=>by
  obtain ⟨h1,h2⟩:=aLB s n (k+1)
  unfold aBH
  split
  ·exact ⟨h1,fun x hx=>by have:=h2 x hx;omega⟩
  ·refine ⟨?_,fun x hx=>?_⟩
   ·rw [List.pairwise_cons]
    exact ⟨fun x hx=>by have:=h2 x hx;simp only;omega,h1⟩
   ·rcases List.mem_cons.1 hx with rfl|hx
    ·simp only;omega
    ·have:=h2 x hx;omega
theorem aIo (s:Int):∀ (n k:Nat),(aBH d s n k).length≤n
 |0,_=>by simp [aBH]
 |n+1,k=>by
  have:=aIo s n (k+1)
  unfold aBH
  split
  ·omega
  ·rw [List.length_cons];omega
theorem nxM_inc (hd:cU d) (s:Int):Inc 0 (d.L.tail.length:Int) (nxM d s):=by
 have:=aLB (d:=d) s (d.L.length - 1) 1
 have h1:=hd.2.2.1.1
 rw [List.length_tail]
 unfold nxM
 rw [show ((d.L.length - 1:Nat):Int)=((1:Nat):Int)+((d.L.length - 1:Nat):Int) - 1 by omega]
 exact this
theorem vS (hd:cU d) (hp:p.length=d.N.toNat) (hpl:∀ z∈p,0≤z∧z < 40) {F:List Int} (hn:(F.map (kB p)).Nodup) (hF:∀ s∈F,inS d s):F.length≤40:=by
 have h40:=hd.1
 have:=List.Nodup.length_le_of_subset (l₂:=(List.range 40).map Int.ofNat) hn (fun z hz=>by
  obtain ⟨s,hs,rfl⟩:=List.mem_map.1 hz
  have h:=hF s hs
  unfold inS at h
  have hm:kB p s∈p:=by
   unfold kB
   rw [List.getD_eq_getElem?_getD,List.getElem?_eq_getElem (by omega)];exact List.getElem_mem _
  have:=hpl _ hm
  rw [List.mem_map]
  exact ⟨(kB p s).toNat,by rw [List.mem_range];omega,by show (((kB p s).toNat:Nat):Int)=kB p s;omega⟩)
 simpa using this
theorem kB_ix (hp:p.length=d.N.toNat) {s:Int} (hs:inS d s):ix p s=some (kB p s):=by
 unfold inS at hs
 rw [aIM hs.1 (by omega)]
 unfold kB
 rw [List.getD_eq_getElem?_getD,List.getElem?_eq_getElem (by omega)];rfl
theorem min_inner (hd:cU d) (hp:p.length=d.N.toNat) {i:Nat} {s:Int} {c:List Int × List Edge} (hi:c.1[i]?=some s) (hF:∀ s∈c.1,inS d s) (hl:c.1.length≤1000) (hle:c.2.length≤100000):
  loop (fun x:List Int × List Int × List Edge × Int=>jE d p (i:Int) x.1 x.2.1 x.2.2.1 x.2.2.2) (c.1.map (kB p),c.1,c.2,1)=some ((dA (kB p) (i:Int) (nxM d s) c).1.map (kB p),(dA (kB p) (i:Int) (nxM d s) c).1,(dA (kB p) (i:Int) (nxM d s) c).2):=by
 have h12:=hd.2.2.1.2.1
 have h1:=hd.2.2.1.1
 have:=mC (step:=fun x:List Int × List Int × List Edge × Int=>jE d p (i:Int) x.1 x.2.1 x.2.2.1 x.2.2.2) d.L.length (fun k (a:List Int × List Edge)=>(a.1.map (kB p),a.1,a.2,(k:Int)))
  (fun k a=>((dA (kB p) (i:Int) (aBH d s (d.L.length - k) k) a).1.map (kB p),(dA (kB p) (i:Int) (aBH d s (d.L.length - k) k) a).1,(dA (kB p) (i:Int) (aBH d s (d.L.length - k) k) a).2))
  (fun k a=>a.1[i]?=some s∧(∀ s∈a.1,inS d s)∧a.1.length≤1000+k∧a.2.length≤100000+k) (fun k a hk hI=>?_) (fun a hI=>?_) (d.L.length - 1) 1 c (by omega) ⟨hi,hF,by omega,by omega⟩
 ·exact this
 ·left
  obtain ⟨a1,a3,a4,a5⟩:=hI
  have hlab:ix d.L (k:Int)=some (aBA d k):=by unfold aBA;rw [cZ hk,List.getD_eq_getElem?_getD,List.getElem?_eq_getElem hk];rfl
  have hsl:aBH d s (d.L.length - k) k=if xW d s (aBA d k) < 0 then aBH d s (d.L.length - (k+1)) (k+1) else ((k:Int),xW d s (aBA d k))::aBH d s (d.L.length - (k+1)) (k+1):=by
   rw [show d.L.length - k=(d.L.length - (k+1))+1 by omega];rfl
  have hw:=cH hk (show d.L.length < 4611686018427387904 by omega)
  have hg:=aEF hd s (aBA d k)
  have hpre:jE d p (i:Int) (a.1.map (kB p)) a.1 a.2 (k:Int)=if decide (xW d s (aBA d k) < 0)=true then some (.inl (a.1.map (kB p),a.1,a.2,((k+1:Nat):Int))) else ob (ix p (xW d s (aBA d k))) fun e287=>ob (oB (a.1.map (kB p)) e287) fun r294=>if (decide (r294 < 0)) then (ob (tK (a.1.map (kB p)) ([e287]:List Int)) fun xs330=>ob (tK a.1 ([xW d s (aBA d k)]:List Int)) fun xs339=>lS (i:Int) a.2 (k:Int) xs330 xs339 ((a.1.map (kB p)).length:Int)) else (lS (i:Int) a.2 (k:Int) (a.1.map (kB p)) a.1 r294):=by
   unfold jE
   rw [if_pos (cS hk),rI,a1,aG,hlab,aG,aHO hd,aG]
   unfold mZ
   rw [hw]
  simp only
  rw [hpre,hsl]
  by_cases hn:xW d s (aBA d k) < 0
  ·rw [if_pos (decide_eq_true hn),if_pos hn]
   exact ⟨a,rfl,⟨a1,a3,by omega,by omega⟩,rfl⟩
  ·have hin:inS d (xW d s (aBA d k)):=by unfold inS;omega
   rw [if_neg (by simpa using hn),if_neg hn,yL,kB_ix hp hin,aG,aCc _ _ (by rw [List.length_map];omega),aG]
   have hap:∀ z:Edge,tK a.2 [z]=some (a.2++[z]):=fun z=>eN (by simp [jK];omega)
   refine ⟨kE (kB p) (i:Int) a ((k:Int),xW d s (aBA d k)),?_,⟨aCF (uS (key:=kB p) a.1 _) a1,aCz (key:=kB p) a3 hin,?_,?_⟩,rfl⟩
   ·unfold lS mZ kE qZ atK
    by_cases hm:kB p (xW d s (aBA d k))∈a.1.map (kB p)
    ·rw [if_neg (by have:=tH.2 hm;simpa using this),hap,aG,if_pos hm,if_pos hm,hw]
    ·have hpn:¬ 0≤pos (a.1.map (kB p)) (kB p (xW d s (aBA d k))):=fun h=>hm (tH.1 h)
     rw [if_pos (by simpa using hpn),eN (by rw [List.length_map];simp [jK];omega),aG,eN (by simp [jK];omega),aG,hap,aG,if_neg hm,if_neg hm,hw,List.length_map,List.map_append];rfl
   ·have:=aBy (key:=kB p) a.1 (xW d s (aBA d k))
    simp only [kE];omega
   ·simp only [kE,List.length_append,List.length_singleton];omega
 ·show jE d p (i:Int) (a.1.map (kB p)) a.1 a.2 (d.L.length:Int)=_
  unfold jE
  rw [if_neg (by simp),Nat.sub_self]
  rfl
theorem aGb (hd:cU d) (hp:p.length=d.N.toNat) (hpl:∀ z∈p,0≤z∧z < 40):∀ (n i:Nat) (c:List Int × List Edge),i≤c.1.length→41≤n+i→(c.1.map (kB p)).Nodup→(∀ s∈c.1,inS d s)→c.2.length≤11 * i→
  loop (fun x:List Int × List Int × List Edge × Int=>gQ d p x.1 x.2.1 x.2.2.1 x.2.2.2) (c.1.map (kB p),c.1,c.2,(i:Int))=some ((rG (kB p) (nxM d) 40 n i c).1.map (kB p),(rG (kB p) (nxM d) 40 n i c).2)∧(rG (kB p) (nxM d) 40 n i c).2.length≤440
 |0,i,c,hi,hn,hnd,hF,_=>by have:=vS hd hp hpl hnd hF;omega
 |n+1,i,c,hi,hn,hnd,hF,hle=>by
  have h12:=hd.2.2.1.2.1
  have hlen:=vS hd hp hpl hnd hF
  by_cases hlt:i < c.1.length
  ·have hq:c.1[i]?=some c.1[i]:=List.getElem?_eq_getElem hlt
   have hsi:=aFu (d:=d) hd c.1[i] (d.L.length - 1) 1
   have g1:=vQ (key:=kB p) (i:Int) (nxM d c.1[i]) c hnd
   have g2:=xU (key:=kB p) (P:=inS d) (i:Int) (nxM d c.1[i]) c hF hsi
   have g4:=vS hd hp hpl g1 g2
   have gl:=(sK (key:=kB p) (i:Int) (nxM d c.1[i]) c).1.length_le
   have ge:=(aCA (key:=kB p) (i:Int) (nxM d c.1[i]) c).1
   have gs:(nxM d c.1[i]).length≤11:=Nat.le_trans (aIo _ _ _) (by omega)
   have hx:rG (kB p) (nxM d) 40 (n+1) i c=rG (kB p) (nxM d) 40 n (i+1) (dA (kB p) (i:Int) (nxM d c.1[i]) c):=by
    rw [rG,hq];exact if_neg (by omega)
   have hst:gQ d p (c.1.map (kB p)) c.1 c.2 (i:Int)=some (.inl ((dA (kB p) (i:Int) (nxM d c.1[i]) c).1.map (kB p),(dA (kB p) (i:Int) (nxM d c.1[i]) c).1,(dA (kB p) (i:Int) (nxM d c.1[i]) c).2,((i+1:Nat):Int))):=by
    unfold gQ qF vA
    rw [List.length_map,if_pos (cS hlt),min_inner hd hp hq hF (by omega) (by omega),aG,cH hlt (by omega)]
   rw [qM (step:=fun x:List Int × List Int × List Edge × Int=>gQ d p x.1 x.2.1 x.2.2.1 x.2.2.2) (s:=(c.1.map (kB p),c.1,c.2,(i:Int))) hst,hx]
   exact aGb hd hp hpl n (i+1) _ (by omega) (by omega) g1 g2 (by omega)
  ·obtain rfl:i=c.1.length:=by omega
   have hx:rG (kB p) (nxM d) 40 (n+1) c.1.length c=c:=by
    rw [rG,List.getElem?_eq_none (Nat.le_refl _)]
   have hst:gQ d p (c.1.map (kB p)) c.1 c.2 (c.1.length:Int)=some (.inr (c.1.map (kB p),c.2)):=by
    unfold gQ
    rw [List.length_map,if_neg (by simp)]
   rw [nX (step:=fun x:List Int × List Int × List Edge × Int=>gQ d p x.1 x.2.1 x.2.2.1 x.2.2.2) (s:=(c.1.map (kB p),c.1,c.2,(c.1.length:Int))) hst,hx]
   exact ⟨rfl,by omega⟩
end
end Gv
namespace Gv
open Go
def aEM:Nat→List Edge→List Edge
 |_,[]=>[]
 |k,e::l=>⟨e.F,(k:Int),e.To⟩::aEM (k+1) l
theorem aJp (e:Edge):∀ (k:Nat) (l:List Edge),aEM k (l++[e])=aEM k l++[⟨e.F,((k+l.length:Nat):Int),e.To⟩]
 |k,[]=>rfl
 |k,x::l=>by
  rw [List.cons_append,aEM,aJp e (k+1) l,aEM,List.cons_append,List.length_cons]
  rw [show k+1+l.length=k+(l.length+1) by omega]
theorem aIp:∀ (k:Nat) (l:List Edge),(aEM k l).length=l.length
 |_,[]=>rfl
 |k,x::l=>by rw [aEM,List.length_cons,List.length_cons,aIp (k+1) l]
theorem aFv {x:Edge}:∀ {k:Nat} {l:List Edge},x∈aEM k l↔∃ (j:Nat) (e:Edge),l[j]?=some e∧x=⟨e.F,((k+j:Nat):Int),e.To⟩
 |k,[]=>by simp [aEM]
 |k,e::l=>by
  rw [aEM,List.mem_cons,aFv]
  constructor
  ·rintro (rfl|⟨j,e',h1,rfl⟩)
   ·exact ⟨0,e,rfl,rfl⟩
   ·exact ⟨j+1,e',h1,by rw [show k+1+j=k+(j+1) by omega]⟩
  ·rintro ⟨j,e',h1,rfl⟩
   cases j with
   |zero=>simp at h1;subst h1;exact .inl rfl
   |succ j=>exact .inr ⟨j,e',by simpa using h1,by rw [show k+1+j=k+(j+1) by omega]⟩
theorem aMz {L:List bB} (hL:xV L) (h11:L.length≤11) {n:Nat} {ed:List Edge} (ho:ed.Pairwise wL) (h:∀ e∈ed,1≤e.B∧e.B≤L.length) (hl:ed.length≤100000):aCs ⟨(n:Int),0,cE::L,ed⟩=some (gN L n ed):=by
 have hM:xV (aDg L ed):=hL.sub List.filter_sublist
 have key:=mQ (step:=fun s:List bB × List Edge × Int=>mA ⟨(n:Int),0,cE::L,ed⟩ s.1 s.2.1 s.2.2) ed.length (fun k (s:List bB × List Edge)=>(s.1,s.2,(k:Int))) (fun k s=>s=(cE::(ed.take k).map fun e=>(fG L e).label,aEM 1 (ed.take k))) (fun r=>r=(cE::ed.map fun e=>(fG L e).label,aEM 1 ed)) (fun k s hk hI=>?_) (fun s hI=>?_) ed.length 0 ([cE],[]) (by omega) rfl
 ·obtain ⟨r,h1,rfl⟩:=key
  unfold aCs
  rw [show loop (fun s:List bB × List Edge × Int=>mA ⟨(n:Int),0,cE::L,ed⟩ s.1 s.2.1 s.2.2) ([[116,97,117]],[],0)=_ from h1,aG]
  unfold xL
  have hmk:=make_gen (texts:=cE::ed.map fun e=>(fG L e).label) (M:=aDg L ed) (edges:=aEM 1 ed) (Eo:=(gN L n ed).E) (by simp;omega) hM.strict (fun s=>by
    rw [aBw h,List.map_map,List.mem_cons]
    constructor
    ·intro hs
     refine ⟨.inr hs,?_⟩
     have:=(aBw h (s:=s)).2 (by rw [List.map_map];exact hs)
     exact (hM.1 s this).2
    ·rintro ⟨h1|h1,h2⟩
     ·exact absurd h1 h2
     ·exact h1) (by rw [aIp];omega) (fun e he=>by
    obtain ⟨j,e',h1,rfl⟩:=aFv.1 he
    have:=(List.getElem?_eq_some_iff.1 h1).1
    simp only [List.length_cons,List.length_map];omega) ((aEI hL ho h).imp aCy) (fun x=>?_) (n:Int) 0
  ·rw [hmk,aG];rfl
  ·unfold gN
   simp only
   rw [List.map_map,List.mem_map]
   have hgd:∀ (j:Nat) e,ed[j]?=some e→(cE::ed.map fun e=>(fG L e).label).getD (((1+j:Nat):Int)).toNat []=(fG L e).label:=fun j e h1=>by
    rw [Int.toNat_natCast,Nat.add_comm,List.getD_eq_getElem?_getD,List.getElem?_cons_succ,List.getElem?_map,h1];rfl
   constructor
   ·rintro ⟨e,he,rfl⟩
    obtain ⟨j,hj,rfl⟩:=List.mem_iff_getElem.1 he
    have hg:ed[j]?=some ed[j]:=List.getElem?_eq_getElem hj
    exact ⟨_,aFv.2 ⟨j,ed[j],hg,rfl⟩,by simp only [hgd j _ hg];rfl⟩
   ·rintro ⟨e,he,rfl⟩
    obtain ⟨j,e',h1,rfl⟩:=aFv.1 he
    refine ⟨e',List.mem_of_getElem? h1,?_⟩
    simp only [hgd j _ h1]
    rfl
 ·subst hI
  have hb:=h _ (List.getElem_mem hk)
  have t1:ed.take (k+1)=ed.take k++[ed[k]]:=by rw [List.take_add_one,List.getElem?_eq_getElem hk];rfl
  have hlen:(ed.take k).length=k:=by rw [List.length_take];omega
  refine ⟨_,?_,rfl⟩
  show mA ⟨(n:Int),0,cE::L,ed⟩ (cE::(ed.take k).map fun e=>(fG L e).label) (aEM 1 (ed.take k)) (k:Int)=_
  have hlab:ix (cE::L) ed[k].B=some (fG L ed[k]).label:=by
   obtain ⟨m,hm⟩:∃ m:Nat,ed[k].B=((m+1:Nat):Int):=⟨(ed[k].B - 1).toNat,by omega⟩
   rw [hm,rI,List.getElem?_cons_succ]
   unfold fG
   simp only
   rw [hm,show (((m+1:Nat):Int) - 1).toNat=m by omega,List.getD_eq_getElem?_getD,List.getElem?_eq_getElem (by omega)];rfl
  unfold mA
  simp only
  rw [if_pos (cS hk),cZ hk,aG,hlab,aG,eN (by simp [jK];omega),aG,eN (by rw [aIp,hlen];simp [jK];omega),aG,cH hk (by omega),t1,aJp,hlen,List.map_append]
  have hw:wr (((cE::(ed.take k).map fun e=>(fG L e).label)++[(fG L ed[k]).label]:List bB).length - 1:Int)=((1+k:Nat):Int):=by
   rw [List.length_append,List.length_cons,List.length_map,hlen,List.length_singleton,iV (by omega) (by omega)];omega
  rw [hw];rfl
 ·subst hI
  refine ⟨(cE::(ed.take ed.length).map fun e=>(fG L e).label,aEM 1 (ed.take ed.length)),?_,by rw [List.take_length]⟩
  show mA ⟨(n:Int),0,cE::L,ed⟩ _ _ (ed.length:Int)=_
  unfold mA
  simp only
  rw [if_neg (by simp)]
def yM (d:cN) (p:List Int):List Int × List Edge:=rG (kB p) (nxM d) 40 41 0 ([0],[])
section
variable {d:cN} {p:List Int}
theorem finM_ok (hd:cU d):((yM d p).1.map (kB p)).Nodup∧(∀ s∈(yM d p).1,inS d s)∧(yM d p).2.Pairwise wL∧(∀ e∈(yM d p).2,(0≤e.F∧e.F < (yM d p).1.length)∧(1≤e.B∧e.B≤d.L.tail.length)∧0≤e.To∧e.To < (yM d p).1.length):=by
 have h40:=hd.1
 have hg:∀ s∈(([0],[]):List Int × List Edge).1,inS d s:=fun s hs=>by simp at hs;subst hs;unfold inS;omega
 have hP:∀ s,inS d s→∀ x∈nxM d s,inS d x.2:=fun s _=>aFu hd s _ _
 obtain ⟨g1,g2⟩:=aJZ (key:=kB p) hP 40 41 0 ([0],[]) (by simp) hg
 obtain ⟨j,hj,hE⟩:=aKb (key:=kB p) (L:=d.L.tail) hP (fun s _=>nxM_inc hd s) 40 41 0 ([0],[]) hg (by simp) ⟨by simp,fun e he=>by simp at he⟩
 obtain ⟨e1,e2⟩:=hE.done hj
 exact ⟨g1,g2,e1,e2⟩
theorem aIJ (hd:cU d):xM d=some (gN d.L.tail (yM d (eO d d.N.toNat)).1.length (yM d (eO d d.N.toNat)).2):=by
 have h40:=hd.1
 have hp:=aCW d d.N.toNat
 have hpl:∀ z∈eO d d.N.toNat,0≤z∧z < 40:=fun z hz=>by
  refine ⟨aFt d _ z hz,?_⟩
  obtain ⟨m,hm⟩:∃ m,d.N.toNat=m+1:=⟨d.N.toNat - 1,by omega⟩
  rw [hm] at hz
  have:=(cn_in (show z∈cn (nY d (eO d m)) from hz)).2
  rw [lP] at this;omega
 obtain ⟨hc,hst⟩:=aJh hd
 obtain ⟨hok,h11⟩:=aFq hd
 obtain ⟨f1,f2,f3,f4⟩:=finM_ok (p:=eO d d.N.toNat) hd
 have hin0:inS d 0:=by unfold inS;omega
 obtain ⟨o1,o2⟩:=aGb hd hp hpl 41 0 ([0],[]) (by simp) (by omega) (by simp) (fun s hs=>by simp at hs;subst hs;exact hin0) (by simp)
 unfold xM
 rw [aMx hd,aG,kB_ix hp hin0,aG,show loop (fun x:List Int × List Int × List Edge × Int=>gQ d (eO d d.N.toNat) x.1 x.2.1 x.2.2.1 x.2.2.2) ([kB (eO d d.N.toNat) 0],[0],[],0)=_ from o1,aG]
 show mY d ((yM d (eO d d.N.toNat)).1.map (kB (eO d d.N.toNat))) (yM d (eO d d.N.toNat)).2=_
 unfold mY
 have o2':(yM d (eO d d.N.toNat)).2.length≤440:=o2
 rw [List.length_map,hc,aMz hok h11 f3 (fun e he=>(f4 e he).2.1) (by omega),aG,←hc]
end
end Gv
namespace Gv
open Go
section
variable {t:cN}
theorem det_mk {L:List bB} {n:Nat} {ed:List Edge} (hL:xT L) (hn:1≤n∧n≤40) (h300:ed.length≤300) (ho:ed.Pairwise wL) (hall:∀ e∈ed,(0≤e.F∧e.F < n)∧(1≤e.B∧e.B≤L.tail.length)∧0≤e.To∧e.To < n):fP ⟨(n:Int),0,L,ed⟩:=by
 have h1:=hL.1
 have hpl:=List.pairwise_iff_getElem.1 ho
 refine ⟨⟨⟨by simp only;omega,by simp only;omega⟩,⟨by simp only;omega,by simp only;omega⟩,hL,h300,fun k hk=>⟨?_,fun h1=>?_⟩⟩,fun k hk=>⟨?_,fun h1=>?_⟩⟩
 ·have hk':k < ed.length:=hk
  show tS ⟨(n:Int),0,L,ed⟩ ed[k]
  have:=hall _ (List.getElem_mem hk')
  rw [List.length_tail] at this
  unfold tS
  simp only
  omega
 ·exact aCy (hpl (k - 1) k (by simp only at hk;omega) hk (by omega))
 ·have hk':k < ed.length:=hk
  show ed[k].B≠0
  have:=hall _ (List.getElem_mem hk')
  omega
 ·have hk':k < ed.length:=hk
  have:=hpl (k - 1) k (by omega) hk' (by omega)
  unfold wL at this
  show ¬ (ed[k].F=(ed[k - 1]'(by omega)).F∧ed[k].B=(ed[k - 1]'(by omega)).B)
  omega
theorem aKn (hv:cU t) (hs:Small (kF t)):fP ⟨((kF t).1.length:Int),0,t.L,(kF t).2⟩:=by
 obtain ⟨d1,d2,d3,d4,d5⟩:=aKd hv
 exact det_mk hv.2.2.1 ⟨d5,hs.1⟩ hs.2 d3 d4
theorem pair_ext {A B:List (Int × Int)} (h:A.Pairwise fun a b=>a.1 < b.1) (h':B.Pairwise fun a b=>a.1 < b.1) (hm:∀ x,x∈A↔x∈B):A=B:=
 yJ (R:=fun a b:Int × Int=>a.1 < b.1) (fun a=>Int.lt_irrefl a.1) (fun h1 h2=>Int.lt_trans h1 h2) h h' hm
variable {d:cN}
theorem aLC (s:Int) {x:Int × Int}:∀ (n k:Nat),x∈aBH d s n k↔∃ j:Nat,k≤j∧j < k+n∧0≤xW d s (aBA d j)∧x=((j:Int),xW d s (aBA d j))
 |0,k=>by
  simp only [aBH,List.not_mem_nil,false_iff]
  rintro ⟨j,h1,h2,_⟩
  omega
 |n+1,k=>by
  have ih:=aLC s (x:=x) n (k+1)
  unfold aBH
  by_cases h:xW d s (aBA d k) < 0
  ·rw [if_pos h,ih]
   constructor
   ·rintro ⟨j,h1,h2,h3⟩;exact ⟨j,by omega,by omega,h3⟩
   ·rintro ⟨j,h1,h2,h3,h4⟩
    have:j≠k:=fun e=>by subst e;omega
    exact ⟨j,by omega,by omega,h3,h4⟩
  ·rw [if_neg h,List.mem_cons,ih]
   constructor
   ·rintro (rfl|⟨j,h1,h2,h3⟩)
    ·exact ⟨k,by omega,by omega,by omega,rfl⟩
    ·exact ⟨j,by omega,by omega,h3⟩
   ·rintro ⟨j,h1,h2,h3,h4⟩
    by_cases e:j=k
    ·subst e;exact .inl h4
    ·exact .inr ⟨j,by omega,by omega,h3,h4⟩
theorem nxM_out (hd:fP d) (s:Int):nxM d s=(dO d s).map fun e=>(e.B,e.To):=by
 have h1:=hd.1.2.2.1.1
 refine pair_ext (nxM_inc hd.1 s).1 ?_ fun x=>?_
 ·rw [List.pairwise_map]
  exact aJj hd s
 ·unfold nxM
  rw [aLC,List.mem_map]
  constructor
  ·rintro ⟨j,j1,j2,j3,rfl⟩
   unfold xW at j3 ⊢
   cases hx:d.E.find? (hit d s (aBA d j)) with
   |none=>rw [hx] at j3;simp only at j3;omega
   |some e=>
    have he:=List.mem_of_find?_eq_some hx
    have hh:=List.find?_some hx
    have hb:=(nW hd.1 he).2.2
    unfold hit at hh
    simp only [Bool.and_eq_true,beq_iff_eq] at hh
    refine ⟨e,List.mem_filter.2 ⟨he,by simpa using hh.1⟩,?_⟩
    simp only
    have e2:=hh.2
    unfold tJ aBA at e2
    rw [List.getD_eq_getElem?_getD,List.getD_eq_getElem?_getD,List.getElem?_eq_getElem (by omega),List.getElem?_eq_getElem (by omega)] at e2
    have:=aHN hd.1.2.2.1 (by omega) (by omega) e2
    have e3:e.B=(j:Int):=by omega
    rw [e3]
  ·rintro ⟨e,he,rfl⟩
   obtain ⟨h2,h3⟩:=qN he
   have hb:=nW hd.1 h2
   have h0:e.B≠0:=by
    obtain ⟨k,hk,rfl⟩:=List.mem_iff_getElem.1 h2
    exact (hd.2 k hk).1
   have hlab:aBA d e.B.toNat=tJ d e:=rfl
   have hf:=aJQ hd.1 hd.2 s (tJ d e)
   have hm:e∈d.E.filter (hit d s (tJ d e)):=List.mem_filter.2 ⟨h2,by unfold hit;simp [h3]⟩
   rw [hf] at hm
   have hg:xW d s (tJ d e)=e.To:=by
    unfold xW
    cases hx:d.E.find? (hit d s (tJ d e)) with
    |none=>rw [hx] at hm;simp at hm
    |some e'=>rw [hx] at hm;simp at hm;subst hm;rfl
   have hl:=hb.2.2
   have ht:=hb.2.1
   refine ⟨e.B.toNat,by omega,by omega,?_,?_⟩
   ·rw [hlab,hg];omega
   ·rw [hlab,hg,show ((e.B.toNat:Nat):Int)=e.B by omega]
end
end Gv
namespace Gv
open Go
def kT (p:List Int) (s:Int):bB:=Lib.itoa (kB p s)
structure Blk (d:cN) (p:List Int):Prop where
 len:p.length=d.N.toNat
 bnd:∀ z∈p,0≤z∧z < 40
section
variable {d:cN} {p:List Int}
theorem kB_bnd (hp:Blk d p) {s:Int} (hs:inS d s):0≤kB p s∧kB p s < 40:=by
 have h:=hp.len
 unfold inS at hs
 refine hp.bnd _ ?_
 unfold kB
 rw [List.getD_eq_getElem?_getD,List.getElem?_eq_getElem (by omega)];exact List.getElem_mem _
theorem minKey_eq (hp:Blk d p) {s:Int} (hs:inS d s):lB s p=some (kT p s):=by
 have h:=kB_bnd hp hs
 unfold lB
 rw [kB_ix hp.len hs,aG]
 unfold xZ
 rw [if_pos ⟨by omega,by omega⟩];rfl
theorem kT_map (F:List Int):F.map (kT p)=(F.map (kB p)).map Lib.itoa:=by rw [List.map_map];rfl
theorem kT_inj (hp:Blk d p) {F:List Int} (hF:∀ s∈F,inS d s) {s:Int} (hs:inS d s):∀ x∈F.map (kB p),Lib.itoa x=Lib.itoa (kB p s)→x=kB p s:=fun x hx e=>by
 obtain ⟨y,hy,rfl⟩:=List.mem_map.1 hx
 have h1:=kB_bnd hp (hF y hy)
 have h2:=kB_bnd hp hs
 exact aHW (by omega) (by omega) e
theorem aIq (hp:Blk d p) {F:List Int} (hF:∀ s∈F,inS d s) {s:Int} (hs:inS d s) (hl:F.length≤1000) (arcs:List iC):
  fK F (mq 0 (F.map (kT p))) arcs p s=some (atK (kB p) F s,qZ (kB p) F s,mq 0 ((qZ (kB p) F s).map (kT p))):=by
 have hk:=kT_inj hp hF hs
 have hin:kT p s∈F.map (kT p)↔kB p s∈F.map (kB p):=by
  rw [kT_map]
  exact aKc hk
 unfold fK
 rw [minKey_eq hp hs,aG]
 unfold atK qZ
 by_cases hm:kB p s∈F.map (kB p)
 ·rw [aJY (hin.2 hm),if_neg (by simp),if_pos hm,if_pos hm]
  have:pos (F.map (kT p)) (kT p s)=pos (F.map (kB p)) (kB p s):=by rw [kT_map];exact aGG hk
  rw [this]
  rfl
 ·have hm':kT p s∉F.map (kT p):=fun h=>hm (hin.1 h)
  rw [aHY hm',if_pos (by simp),if_neg hm,if_neg hm]
  have h1:rH (mq 0 (F.map (kT p))) (kT p s) (F.length:Int)=mq 0 ((F++[s]).map (kT p)):=by
   have:=aGF (k:=0) hm'
   rw [Nat.zero_add,List.length_map] at this
   rw [this,List.map_append];rfl
  rw [aG,h1,eN (by simp [jK];omega),aG]
  rfl
theorem minAdd_eq (hp:Blk d p) {s:List Int × List Edge} (hF:∀ x∈s.1,inS d x) {q:Int} (hq:inS d q) (hl:s.1.length≤1000) (he:s.2.length≤1000000) (L:List bB) (i:Nat) (k:Int):
  lC (L.getD (k - 1).toNat []) q s.1 (mq 0 (s.1.map (kT p))) (s.2.map (fG L)) p (i:Int)=some ((kE (kB p) (i:Int) s (k,q)).1,mq 0 ((kE (kB p) (i:Int) s (k,q)).1.map (kT p)),(kE (kB p) (i:Int) s (k,q)).2.map (fG L)):=by
 unfold lC
 rw [aIq hp hF hq hl,aG,eN (by simp [jK];omega),aG]
 unfold lN kE
 rw [List.map_append]
 rfl
theorem aMB (hd:fP d) (hp:Blk d p) {i:Nat} {q:Int} {s:List Int × List Edge} (hF:∀ x∈s.1,inS d x) (hl:s.1.length≤100) (he:s.2.length≤100000):
  lD q s.1 (mq 0 (s.1.map (kT p))) (s.2.map (fG d.L.tail)) p (i:Int) d=some (true,(dA (kB p) (i:Int) (nxM d q) s).1,mq 0 ((dA (kB p) (i:Int) (nxM d q) s).1.map (kT p)),(dA (kB p) (i:Int) (nxM d q) s).2.map (fG d.L.tail)):=by
 have h300:=hd.1.2.2.2.1
 have hol:(dO d q).length≤300:=Nat.le_trans (List.length_filter_le _ _) h300
 unfold lD
 rw [out_eq d q (by omega),aG,show (d.E.filter fun e=>e.F == q)=dO d q from rfl]
 have:=mC (step:=fun x:List Int × List (bB × Int) × List iC × Int=>gD p (i:Int) d (dO d q) x.1 x.2.1 x.2.2.1 x.2.2.2) (dO d q).length (fun k (a:List Int × List Edge)=>(a.1,mq 0 (a.1.map (kT p)),a.2.map (fG d.L.tail),(k:Int)))
  (fun k a=>((dA (kB p) (i:Int) (((dO d q).drop k).map fun e=>(e.B,e.To)) a).1,mq 0 ((dA (kB p) (i:Int) (((dO d q).drop k).map fun e=>(e.B,e.To)) a).1.map (kT p)),(dA (kB p) (i:Int) (((dO d q).drop k).map fun e=>(e.B,e.To)) a).2.map (fG d.L.tail)))
  (fun k a=>(∀ x∈a.1,inS d x)∧a.1.length≤100+k∧a.2.length≤100000+k) (fun k a hk hI=>?_) (fun a hI=>?_) (dO d q).length 0 s (by omega) ⟨hF,hl,he⟩
 ·rw [show loop (fun x:List Int × List (bB × Int) × List iC × Int=>gD p (i:Int) d (dO d q) x.1 x.2.1 x.2.2.1 x.2.2.2) (s.1,mq 0 (s.1.map (kT p)),s.2.map (fG d.L.tail),0)=_ from this,aG]
  unfold jN
  rw [List.drop_zero,←nxM_out hd q]
 ·left
  obtain ⟨a3,a4,a5⟩:=hI
  have hm:(dO d q)[k]∈dO d q:=List.getElem_mem hk
  obtain ⟨m1,m2⟩:=qN hm
  have hin:=nW hd.1 m1
  have h0:(dO d q)[k].B≠0:=by
   obtain ⟨j,hj,e⟩:=List.mem_iff_getElem.1 m1
   rw [←e]
   exact (hd.2 j hj).1
  have hto:inS d (dO d q)[k].To:=by have:=hin.2.1;unfold inS;omega
  have hl2:=hin.2.2
  have hlab:ix d.L (dO d q)[k].B=some (d.L.tail.getD ((dO d q)[k].B - 1).toNat []):=by
   rw [sI hin]
   unfold tJ
   obtain ⟨m,hm'⟩:∃ m:Nat,(dO d q)[k].B.toNat=m+1:=⟨(dO d q)[k].B.toNat - 1,by omega⟩
   rw [hm',show ((dO d q)[k].B - 1).toNat=m by omega,List.getD_eq_getElem?_getD,List.getD_eq_getElem?_getD]
   cases hL:d.L with
   |nil=>rfl
   |cons x l=>rfl
  have hadd:=minAdd_eq hp (s:=a) a3 hto (by omega) (by omega) d.L.tail i (dO d q)[k].B
  simp only [gD,cS hk,if_pos,cZ hk,aG,hlab,hadd,cH hk (show (dO d q).length < 4611686018427387904 by omega)]
  refine ⟨kE (kB p) (i:Int) a ((dO d q)[k].B,(dO d q)[k].To),rfl,⟨aCz (key:=kB p) a3 hto,?_,?_⟩,?_⟩
  ·have:=aBy (key:=kB p) a.1 (dO d q)[k].To
   simp only [kE];omega
  ·simp only [kE,List.length_append,List.length_singleton];omega
  ·rw [List.drop_eq_getElem_cons hk,List.map_cons,yL]
 ·simp only [gD,dJ]
  rw [List.drop_length]
  rfl
theorem aIr (hd:fP d) (hp:Blk d p):∀ (n i:Nat) (s:List Int × List Edge),i≤s.1.length→41≤n+i→(s.1.map (kB p)).Nodup→(∀ x∈s.1,inS d x)→s.2.length≤11 * i→
  loop (fun x:List Int × List (bB × Int) × List iC × Int=>eH p d x.1 x.2.1 x.2.2.1 x.2.2.2) (s.1,mq 0 (s.1.map (kT p)),s.2.map (fG d.L.tail),(i:Int))=
   some (.inl ((rG (kB p) (nxM d) 40 n i s).1,mq 0 ((rG (kB p) (nxM d) 40 n i s).1.map (kT p)),(rG (kB p) (nxM d) 40 n i s).2.map (fG d.L.tail)))
 |0,i,s,hi,hn,hnd,hF,_=>by have:=vS hd.1 hp.len hp.bnd hnd hF;omega
 |n+1,i,s,hi,hn,hnd,hF,he=>by
  have h12:=hd.1.2.2.1.2.1
  have hlen:=vS hd.1 hp.len hp.bnd hnd hF
  by_cases hlt:i < s.1.length
  ·have hq:s.1[i]?=some s.1[i]:=List.getElem?_eq_getElem hlt
   have hw:=cH hlt (show s.1.length < 4611686018427387904 by omega)
   have hsi:=aFu (d:=d) hd.1 s.1[i] (d.L.length - 1) 1
   have g1:=vQ (key:=kB p) (i:Int) (nxM d s.1[i]) s hnd
   have g2:=xU (key:=kB p) (P:=inS d) (i:Int) (nxM d s.1[i]) s hF hsi
   have g4:=vS hd.1 hp.len hp.bnd g1 g2
   have gl:=(sK (key:=kB p) (i:Int) (nxM d s.1[i]) s).1.length_le
   have ge:=(aCA (key:=kB p) (i:Int) (nxM d s.1[i]) s).1
   have gs:(nxM d s.1[i]).length≤11:=Nat.le_trans (aIo _ _ _) (by omega)
   have hx:rG (kB p) (nxM d) 40 (n+1) i s=rG (kB p) (nxM d) 40 n (i+1) (dA (kB p) (i:Int) (nxM d s.1[i]) s):=by
    rw [rG,hq];exact if_neg (by omega)
   have hst:eH p d s.1 (mq 0 (s.1.map (kT p))) (s.2.map (fG d.L.tail)) (i:Int)=some (.inl ((dA (kB p) (i:Int) (nxM d s.1[i]) s).1,mq 0 ((dA (kB p) (i:Int) (nxM d s.1[i]) s).1.map (kT p)),(dA (kB p) (i:Int) (nxM d s.1[i]) s).2.map (fG d.L.tail),((i+1:Nat):Int))):=by
    unfold eH
    rw [if_pos (cS hlt),cZ hlt,aG,aMB hd hp hF (by omega) (by omega),aG,if_neg (by simp)]
    unfold lE
    rw [if_neg (by simp only [decide_eq_true_eq];omega),hw]
   rw [qM (step:=fun x:List Int × List (bB × Int) × List iC × Int=>eH p d x.1 x.2.1 x.2.2.1 x.2.2.2) (s:=(s.1,mq 0 (s.1.map (kT p)),s.2.map (fG d.L.tail),(i:Int))) hst,hx]
   exact aIr hd hp n (i+1) _ (by omega) (by omega) g1 g2 (by omega)
  ·obtain rfl:i=s.1.length:=by omega
   have hx:rG (kB p) (nxM d) 40 (n+1) s.1.length s=s:=by
    rw [rG,List.getElem?_eq_none (Nat.le_refl _)]
   have hst:eH p d s.1 (mq 0 (s.1.map (kT p))) (s.2.map (fG d.L.tail)) (s.1.length:Int)=some (.inr (.inl (s.1,mq 0 (s.1.map (kT p)),s.2.map (fG d.L.tail)))):=by
    unfold eH
    rw [if_neg (by simp)]
   rw [hx,nX (step:=fun x:List Int × List (bB × Int) × List iC × Int=>eH p d x.1 x.2.1 x.2.2.1 x.2.2.2) (s:=(s.1,mq 0 (s.1.map (kT p)),s.2.map (fG d.L.tail),(s.1.length:Int))) hst]
theorem blk_ok (hd:cU d):Blk d (eO d d.N.toNat):=by
 have h40:=hd.1
 refine ⟨aCW d _,fun z hz=>⟨aFt d _ z hz,?_⟩⟩
 obtain ⟨m,hm⟩:∃ m,d.N.toNat=m+1:=⟨d.N.toNat - 1,by omega⟩
 rw [hm] at hz
 have:=(cn_in (show z∈cn (nY d (eO d m)) from hz)).2
 rw [lP] at this;omega
def minT (d:cN):cN:=gN d.L.tail (yM d (eO d d.N.toNat)).1.length (yM d (eO d d.N.toNat)).2
theorem aLE (hd:cU d):(yM d (eO d d.N.toNat)).2.length≤440:=by
 have hp:=blk_ok hd
 have hin0:inS d 0:=by have:=hd.1;unfold inS;omega
 exact (aGb hd hp.len hp.bnd 41 0 ([0],[]) (by simp) (by omega) (by simp) (fun s hs=>by simp at hs;subst hs;exact hin0) (by simp)).2
theorem aKo (hd:fP d) (hf:iB 999999999 d) (h0:d.I=0):∃ xs b,nR d.I (eO d d.N.toNat) d=some (minT d,xs,b):=by
 have hp:=blk_ok hd.1
 obtain ⟨hok,h11⟩:=aFq hd.1
 have hin0:inS d 0:=by have:=hd.1.1;unfold inS;omega
 have hl440:=aLE hd.1
 obtain ⟨f1,f2,f3,f4⟩:=finM_ok (p:=eO d d.N.toNat) hd.1
 have o1:=aIr hd hp 41 0 ([0],[]) (by simp) (by omega) (by simp) (fun s hs=>by simp at hs;subst hs;exact hin0) (by simp)
 have hflen:(yM d (eO d d.N.toNat)).1.length≤40:=vS hd.1 hp.len hp.bnd f1 f2
 have hf0:=aIq hp (F:=[]) (by simp) hin0 (by simp) []
 have e0:qZ (kB (eO d d.N.toNat)) ([]:List Int) 0=[0]:=rfl
 rw [e0] at hf0
 unfold nR
 rw [h0,show fK [] ([]:List (bB × Int)) [] (eO d d.N.toNat) 0=_ from hf0,aG]
 simp only
 rw [show loop (fun x:List Int × List (bB × Int) × List iC × Int=>eH (eO d d.N.toNat) d x.1 x.2.1 x.2.2.1 x.2.2.2) ([0],mq 0 ([0].map (kT (eO d d.N.toNat))),[],0)=_ from o1,aG]
 show ∃ xs b,jO (yM d (eO d d.N.toNat)).1 (mq 0 ((yM d (eO d d.N.toNat)).1.map (kT (eO d d.N.toNat)))) ((yM d (eO d d.N.toNat)).2.map (fG d.L.tail))=_
 unfold jO
 rw [aGl (by simp;omega),aG,aHX hok h11 f3 (fun e he=>(f4 e he).2.1) (by omega),aG]
 unfold nP
 rw [show (⟨(gN d.L.tail (yM d (eO d d.N.toNat)).1.length (yM d (eO d d.N.toNat)).2).N,(gN d.L.tail (yM d (eO d d.N.toNat)).1.length (yM d (eO d d.N.toNat)).2).I,(gN d.L.tail (yM d (eO d d.N.toNat)).1.length (yM d (eO d d.N.toNat)).2).L,(gN d.L.tail (yM d (eO d d.N.toNat)).1.length (yM d (eO d d.N.toNat)).2).E⟩:cN)=minT d from rfl]
 rw [wH (minT d) (aGm hd.1 hf (by omega)),aG]
 exact ⟨_,_,rfl⟩
theorem cn_rep:∀ n:Nat,cn (List.replicate n (0:Int))=List.replicate n 0:=by
 intro n
 refine List.ext_getElem? fun i=>?_
 by_cases hi:i < n
 ·rw [aEL (by simpa using hi),List.getElem_replicate,List.getElem?_replicate,if_pos hi]
  have hdd:∀ m,dd (List.replicate (m+1) (0:Int))=[0]:=by
   intro m
   induction m with
   |zero=>rfl
   |succ m ih=>rw [List.replicate_succ',aBV,ih];rfl
  obtain ⟨m,rfl⟩:∃ m,n=m+1:=⟨n - 1,by omega⟩
  rw [hdd];rfl
 ·rw [List.getElem?_eq_none (by rw [aAs,List.length_replicate];omega),List.getElem?_eq_none (by rw [List.length_replicate];omega)]
theorem aMC (hd:fP d) (hf:iB 999999999 d) (h0:d.I=0):uQ d=some (minT d):=by
 have h40:=hd.1.1
 have hmk:=aCQ (n:=d.N.toNat) (0:Int) (by unfold jK;omega)
 rw [show ((d.N.toNat:Nat):Int)=d.N by omega] at hmk
 obtain ⟨xs,b,hx⟩:=aKo hd hf h0
 unfold uQ
 rw [hmk,aG]
 unfold rE
 rw [aJn _ (by rw [List.length_replicate];omega),aG,cn_rep,aLA hd,aG]
 unfold lF
 rw [hx,aG,aG]
 rfl
end
end Gv
namespace Gv
open Go
theorem finP_len {a b:cN} {M:List bB} (ha:fP a) (hb:fP b) (hJ:Jn a b M):(gO a b M).2.length≤300 * 1600:=by
 have hi0:=aGM ha.1 hb.1
 exact (aEK ha hb hJ 1601 0 ([(a.I,b.I)],[]) (by simp) (by omega) (by simp) (fun q hq=>by simp at hq;subst hq;exact hi0) (fun e he=>by simp at he) (by simp)).2
theorem aMD {a b:cN} {M:List bB} (ha:fP a) (hb:fP b) (hJ:Jn a b M) (hsz:∀ s∈M,s.length≤999999999):iB 999999999 (lX a b M):=by
 have h1:=finP_len ha hb hJ
 have h2:=hJ.len
 refine ⟨by simp only [lX,List.length_cons];omega,fun s hs=>?_,by simp only [lX,aGN];omega⟩
 simp only [lX] at hs
 rcases List.mem_cons.1 hs with rfl|hs
 ·decide
 ·exact hsz s hs
theorem minT_fits {d:cN} (hd:fP d) (hf:iB sz d):iB sz (minT d):=by
 have h12:=hd.1.2.2.1.2.1
 refine ⟨?_,fun s hs=>?_,?_⟩
 ·have:(aDg d.L.tail (yM d (eO d d.N.toNat)).2).length≤d.L.tail.length:=List.length_filter_le _ _
  rw [List.length_tail] at this
  simp only [minT,gN,List.length_cons];unfold sz;omega
 ·simp only [minT,gN] at hs
  rcases List.mem_cons.1 hs with rfl|hs
  ·decide
  ·exact hf.2.1 s (List.mem_of_mem_tail (List.mem_filter.1 hs).1)
 ·have:=aLE hd.1
  simp only [minT,gN,List.length_map];unfold sz;omega
noncomputable def dT (t:cN):cN:=⟨((kF t).1.length:Int),0,t.L,(kF t).2⟩
theorem aKp {n:Nat} {t:cN} (hf:iB n t) (hn:300≤n) (hs:Small (kF t)):iB n (dT t):=⟨hf.1,hf.2.1,Nat.le_trans hs.2 hn⟩
theorem aCX {t:cN} (hs:Small (kF t)):detS t=(dT t,(kF t).1,true):=by unfold detS;rw [if_pos hs];rfl
theorem aIs {t:cN} (hs:¬ Small (kF t)):detS t=(⟨0,0,[],[]⟩,[],false):=by unfold detS;rw [if_neg hs]
theorem aLF (a b:cN) (ha:iB sz a) (hb:iB sz b):∃ R:cN × Int,rX a b=some R∧pE a b=some R∧iB sz R.1:=by
 have hz:iB sz (⟨0,0,[],[]⟩:cN):=⟨by simp,by simp,by simp⟩
 have ha9:=ha.mono (b:=999999999) (by decide)
 have hb9:=hb.mono (b:=999999999) (by decide)
 unfold rX pE
 rw [aKZ a ha9,aG,wH a ha9,aG]
 by_cases va:cU a
 rotate_left
 ·rw [wK va]
  exact ⟨_,rfl,rfl,hz⟩
 rw [aDJ va,aKZ b hb9,aG,wH b hb9,aG]
 by_cases vb:cU b
 rotate_left
 ·rw [wK vb]
  exact ⟨_,rfl,rfl,hz⟩
 rw [aDJ vb]
 simp only [Bool.not_true,Bool.false_eq_true,if_false]
 unfold nK nV aEY
 simp only [Bool.false_eq_true,if_false]
 rw [aEJ va,aG,aEJ vb,aG,aBz va ha9,aG,aBz vb hb9,aG]
 by_cases sa:Small (kF a)
 rotate_left
 ·rw [aIs sa]
  exact ⟨_,rfl,rfl,hz⟩
 by_cases sb:Small (kF b)
 rotate_left
 ·rw [aIs sb,aCX sa]
  exact ⟨_,rfl,rfl,hz⟩
 rw [aCX sa,aCX sb]
 simp only [if_true,Bool.not_true,Bool.false_eq_true,if_false,aAd,aG]
 have da:fP (dT a):=aKn va sa
 have db:fP (dT b):=aKn vb sb
 have fa:=aKp ha (by decide) sa
 have fb:=aKp hb (by decide) sb
 obtain ⟨M,j1,hJ,hJ'⟩:=jn_of da.1 db.1
 have hsz':∀ s∈M,s.length≤sz:=fun s hs=>by
  rcases List.mem_append.1 ((hJ.mem s).1 hs).1 with h|h
  ·exact fa.2.1 s h
  ·exact fb.2.1 s h
 have hsz:∀ s∈M,s.length≤999999999:=fun s hs=>Nat.le_trans (hsz' s hs) (by decide)
 have l1:=da.1.2.2.1.2.1
 have l2:=db.1.2.2.1.2.1
 obtain ⟨sh,q1,q2⟩:=shared_eq j1 (by omega) hJ.len hsz
 have hpf:=aMD da db hJ hsz
 rw [q1,aG,aIH da db hJ hJ' q2 hsz j1,aG]
 unfold nU aDU
 simp only [Bool.false_eq_true,if_false]
 rw [aKl da db hJ,aG]
 rw [show (⟨(lX (dT a) (dT b) M).N,(lX (dT a) (dT b) M).I,(lX (dT a) (dT b) M).L,(lX (dT a) (dT b) M).E⟩:cN)=lX (dT a) (dT b) M from rfl,wH _ hpf,aG]
 by_cases hsm:M.length≤11∧Small (gO (dT a) (dT b) M)
 rotate_left
 ·rw [if_neg hsm,wK (fun h=>hsm ((aLs da db hJ).1 h))]
  exact ⟨_,rfl,rfl,hz⟩
 have vp:cU (lX (dT a) (dT b) M):=(aLs da db hJ).2 hsm
 rw [if_pos hsm,aDJ vp]
 simp only [Bool.not_true,Bool.false_eq_true,if_false,aG]
 unfold vD
 rw [aEJ vp,aG,wH _ hpf,aG,aDJ vp]
 simp only [Bool.not_true,Bool.false_eq_true,if_false,bne_self_eq_false]
 rw [aBz vp hpf,aG]
 by_cases sp:Small (kF (lX (dT a) (dT b) M))
 rotate_left
 ·rw [aIs sp]
  exact ⟨_,rfl,rfl,hz⟩
 rw [aCX sp]
 simp only [Bool.not_true,Bool.false_eq_true,if_false,aG]
 have dp:fP (dT (lX (dT a) (dT b) M)):=aKn vp sp
 have hps:iB sz (lX (dT a) (dT b) M):=by
  have h3:=hJ.len
  refine ⟨by simp only [lX,List.length_cons];unfold sz;omega,fun s hs=>?_,?_⟩
  ·simp only [lX] at hs
   rcases List.mem_cons.1 hs with rfl|hs
   ·decide
   ·exact hsz' s hs
  ·have:=hsm.2.2
   simp only [lX,aGN];unfold sz;omega
 have fp:=aKp hps (by decide) sp
 rw [aIJ dp.1,aG,aMC dp (fp.mono (by decide)) rfl,aG,aG]
 exact ⟨_,rfl,rfl,minT_fits dp fp⟩
end Gv
namespace Gv
open Go
theorem aEN {t:cN} (hf:iB sz t) (a b:Int) {k:Int} (h0:0≤k) (hk:k≤1000000000):vZ a b t.L t.E k=some (k+t.L.length+3 * t.E.length,mS k t.L.length,mE (k+t.L.length) t.E.length):=by
 obtain ⟨f1,_,f3⟩:=hf
 unfold sz at f1 f3
 unfold vZ
 rw [aHz (by omega) (by omega) (by omega),aG]
 simp only
 rw [aJL (by omega) (by omega) (by omega),aG]
theorem mark_one {t:cN} (hf:iB sz t):∃ k Ls Es,vZ t.N t.I t.L t.E 1=some (k,Ls,Es)∧aAM ⟨t.N,t.I,Ls,Es⟩ 1=some k∧0≤k:=by
 have h1:=aEN hf t.N t.I (k:=1) (by omega) (by omega)
 obtain ⟨f1,_,f3⟩:=hf
 unfold sz at f1 f3
 refine ⟨_,_,_,h1,?_,by omega⟩
 unfold aAM
 simp only
 rw [aHA (by omega) (by omega) (by omega),aG,if_neg (by simp only [decide_eq_true_eq];omega),aJM (by omega) (by omega) (by omega),aG,if_neg (by simp only [decide_eq_true_eq];omega)]
theorem lawCT (a b:cN) (ha:iB 9223372036854775807 a) (hb:iB 9223372036854775807 b):mU a b=some true:=by
 obtain ⟨r,hr,h1⟩:=aHv (t:=a) (left:=1048576) (by omega) (by decide) ha
 unfold mU
 rw [hr,aG]
 by_cases hn:r < 0
 ·rw [if_pos (by simpa using hn)]
 rw [if_neg (by simpa using hn)]
 obtain ⟨hrl,hfit⟩:=h1 (by omega)
 obtain ⟨r',hr',h2⟩:=aHv (t:=b) (left:=r) (by omega) (by unfold sz;omega) hb
 rw [hr',aG]
 by_cases hn':r' < 0
 ·rw [if_pos (by simpa using hn')]
 rw [if_neg (by simpa using hn')]
 obtain ⟨_,hfitR⟩:=h2 (by omega)
 have t1:=aKQ (hfit.mono sz_lim)
 have t2:=aKQ (hfitR.mono sz_lim)
 obtain ⟨R,s1,i1,pf⟩:=aLF a b hfit hfitR
 have e1:=aHy R.1 R.1 (pf.mono (by decide))
 rw [decide_eq_true (p:=R.1=R.1) rfl] at e1
 have e3:=aHy a a (hfit.mono (by decide))
 rw [decide_eq_true (p:=a=a) rfl] at e3
 have e4:=aHy b b (hfitR.mono (by decide))
 rw [decide_eq_true (p:=b=b) rfl] at e4
 obtain ⟨k,Ls,Es,m1,m2,m3⟩:=mark_one pf
 have k1:=aEN hfit a.N a.I (k:=1) (by omega) (by omega)
 have f1:=hfit.1
 have f3:=hfit.2.2
 unfold sz at f1 f3
 have k2:=aEN hfitR b.N b.I (k:=1+a.L.length+3 * a.E.length) (by omega) (by omega)
 obtain ⟨g1,_,g3⟩:=hfitR
 unfold sz at g1 g3
 obtain ⟨⟨R1,R2,R3,R4⟩,R8⟩:=R
 simp only at *
 simp only [t1,t2,aG]
 rw [s1,aG]
 unfold kP
 simp only [t1,t2,i1,e1,aG,Bool.not_true,Bool.false_eq_true,if_false,bne_self_eq_false]
 unfold iX
 simp only [Bool.false_eq_true,if_false,t1,t2,e3,e4,k1,k2,aG,Bool.not_true,e1,bne_self_eq_false]
 rw [if_neg (by simp only [decide_eq_true_eq];omega)]
 unfold gV
 simp only [Bool.false_eq_true,if_false,m1,m2,aG]
 rw [if_neg (by simp only [decide_eq_true_eq];omega),if_neg (by simp)]
 simp only [t1,t2,i1,aG]
 unfold kO
 simp only [e1,aG,Bool.not_true,Bool.false_eq_true,if_false,bne_self_eq_false]
 unfold iW
 simp only [Bool.false_eq_true,if_false,m2,aG]
 rw [if_neg (by simp only [decide_eq_true_eq];omega),if_neg (by simp)]
end Gv
