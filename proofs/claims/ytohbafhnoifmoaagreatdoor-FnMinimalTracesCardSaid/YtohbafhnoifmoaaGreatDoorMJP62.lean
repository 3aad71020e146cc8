/- Blocks, numbered in the order of their first members. -/
import Derived.Test.YtohbafhnoifmoaaGreatDoorMJP50
set_option linter.all false
namespace Gv
open Go
section
variable {κ:Type} [DecidableEq κ] [BEq κ] [LawfulBEq κ]
def dd (l:List κ):List κ:=l.foldl (aIu id) []
def cn (l:List κ):List Int:=l.map (pos (dd l))
theorem aJO (l:List κ) (x:κ):dd (l++[x])=aIu id (dd l) x:=by unfold dd;rw [List.foldl_append];rfl
theorem insK_in {F:List κ} {x y:κ}:y∈aIu id F x<->y∈F\/y=x:=by
 unfold aIu
 rw [List.map_id]
 by_cases h:x∈F
 ·rw [if_pos (show id x∈F from h)]
  exact ⟨.inl,fun h'=>h'.elim id fun e=>e ▸ h⟩
 ·rw [if_neg (show ¬ id x∈F from h)];simp
theorem aJg {y:κ}:∀ {l:List κ},y∈dd l<->y∈l:=by
 intro l
 have key:∀ (l F:List κ),y∈l.foldl (aIu id) F<->y∈F\/y∈l:=by
  intro l
  induction l with
  |nil=>intro F;simp
  |cons x l ih=>intro F;rw [List.foldl_cons,ih,insK_in,List.mem_cons,or_assoc]
 unfold dd
 rw [key];simp
theorem aMT (F:List κ) (x:κ):atK id F x=if x∈F then pos F x else (F.length:Int):=by unfold atK;rw [List.map_id];rfl
theorem aMi (l:List κ) (x:κ):cn (l++[x])=cn l++[atK id (dd l) x]:=by
 unfold cn
 rw [aJO,List.map_append]
 congr 1
 ·refine List.map_congr_left fun y hy=>?_
  exact aKP (aKD (key:=id) (dd l) x) (aJg.2 hy)
 ·simp only [List.map_cons,List.map_nil]
  rw [aMT]
  unfold aIu
  rw [List.map_id]
  by_cases h:x∈dd l
  ·rw [if_pos (show id x∈dd l from h),if_pos h]
  ·rw [if_neg (show ¬ id x∈dd l from h),if_neg h,aMH h]
theorem aIL (l:List κ):(cn l).length=l.length:=by unfold cn;rw [List.length_map]
theorem aKF {l:List κ} {i:Nat} (h:i < l.length):(cn l)[i]?=some (pos (dd l) l[i]):=by unfold cn;rw [List.getElem?_map,List.getElem?_eq_getElem h];rfl
theorem cn_in {l:List κ} {z:Int} (h:z∈cn l):0<=z/\z < l.length:=by
 unfold cn at h
 obtain ⟨x,hx,rfl⟩:=List.mem_map.1 h
 obtain ⟨i,hi,e,_⟩:=aIl (aJg.2 hx)
 have:(dd l).length<=l.length:=by
  have key:∀ (l F:List κ),(l.foldl (aIu id) F).length<=F.length+l.length:=by
   intro l
   induction l with
   |nil=>intro F;simp
   |cons x l ih=>
    intro F
    rw [List.foldl_cons,List.length_cons]
    have h1:=ih (aIu id F x)
    have h2:=aKE (key:=id) F x
    omega
  have:=key l []
  simpa [dd] using this
 omega
def Ker {κ':Type} (l:List κ) (l':List κ'):Prop:=l.length=l'.length/\∀ i j:Nat,i < l.length->j < l.length->(l[i]?=l[j]?<->l'[i]?=l'[j]?)
theorem cn_ker (l:List κ):Ker (cn l) l:=by
 refine ⟨aIL l,fun i j hi hj=>?_⟩
 rw [aIL] at hi hj
 rw [aKF hi,aKF hj,List.getElem?_eq_getElem hi,List.getElem?_eq_getElem hj]
 constructor
 ·intro h
  obtain ⟨a,ha,e1,e2⟩:=aIl (aJg.2 (List.getElem_mem hi))
  obtain ⟨b,hb,e3,e4⟩:=aIl (aJg.2 (List.getElem_mem hj))
  have h':=Option.some.inj h
  have:a=b:=by omega
  subst this
  rw [←e2,e4]
 ·intro h
  rw [Option.some.inj h]
end
section
variable {κ κ':Type} [DecidableEq κ] [BEq κ] [LawfulBEq κ] [DecidableEq κ'] [BEq κ'] [LawfulBEq κ']
theorem Ker.take {l:List κ} {l':List κ'} (h:Ker l l') (n:Nat):Ker (l.take n) (l'.take n):=by
 refine ⟨by rw [List.length_take,List.length_take,h.1],fun i j hi hj=>?_⟩
 rw [List.length_take] at hi hj
 rw [List.getElem?_take_of_lt (by omega),List.getElem?_take_of_lt (by omega),List.getElem?_take_of_lt (by omega),List.getElem?_take_of_lt (by omega)]
 exact h.2 i j (by omega) (by omega)
theorem aKd {l:List κ} {l':List κ'} (h:Ker l l'):cn l=cn l':=by
 have key:∀ n,n<=l.length->cn (l.take n)=cn (l'.take n)/\(dd (l.take n)).length=(dd (l'.take n)).length:=by
  intro n
  induction n with
  |zero=>intro _;exact ⟨rfl,rfl⟩
  |succ n ih=>
   intro hn
   obtain ⟨i1,i2⟩:=ih (by omega)
   have hn':n < l'.length:=by rw [←h.1];omega
   have t1:l.take (n+1)=l.take n++[l[n]]:=by rw [List.take_add_one,List.getElem?_eq_getElem (by omega)];rfl
   have t2:l'.take (n+1)=l'.take n++[l'[n]]:=by rw [List.take_add_one,List.getElem?_eq_getElem hn'];rfl
   have hiff:∀ k,k < n->(l[k]?=l[n]?<->l'[k]?=l'[n]?):=fun k hk=>h.2 k n (by omega) (by omega)
   have hg1:l[n]?=some l[n]:=List.getElem?_eq_getElem (by omega)
   have hg2:l'[n]?=some l'[n]:=List.getElem?_eq_getElem hn'
   have hmem:l[n]∈dd (l.take n)<->l'[n]∈dd (l'.take n):=by
    rw [aJg,aJg]
    constructor
    ·intro hm
     obtain ⟨k,hk,e⟩:=List.mem_iff_getElem.1 hm
     rw [List.length_take] at hk
     rw [List.getElem_take] at e
     have:=(hiff k (by omega)).1 (by rw [List.getElem?_eq_getElem (by omega),hg1,e])
     rw [hg2] at this
     obtain ⟨hk2,e2⟩:=List.getElem?_eq_some_iff.1 this
     rw [←e2]
     exact List.mem_iff_getElem.2 ⟨k,by rw [List.length_take];omega,by rw [List.getElem_take]⟩
    ·intro hm
     obtain ⟨k,hk,e⟩:=List.mem_iff_getElem.1 hm
     rw [List.length_take] at hk
     rw [List.getElem_take] at e
     have:=(hiff k (by omega)).2 (by rw [List.getElem?_eq_getElem (by omega),hg2,e])
     rw [hg1] at this
     obtain ⟨hk2,e2⟩:=List.getElem?_eq_some_iff.1 this
     rw [←e2]
     exact List.mem_iff_getElem.2 ⟨k,by rw [List.length_take];omega,by rw [List.getElem_take]⟩
   have hat:atK id (dd (l.take n)) l[n]=atK id (dd (l'.take n)) l'[n]:=by
    rw [aMT,aMT]
    by_cases hm:l[n]∈dd (l.take n)
    ·rw [if_pos hm,if_pos (hmem.1 hm)]
     obtain ⟨k,hk,e⟩:=List.mem_iff_getElem.1 (aJg.1 hm)
     rw [List.length_take] at hk
     rw [List.getElem_take] at e
     have h3:=(hiff k (by omega)).1 (by rw [List.getElem?_eq_getElem (by omega),hg1,e])
     rw [hg2] at h3
     obtain ⟨hk2,e2⟩:=List.getElem?_eq_some_iff.1 h3
     have c1:=aKF (l:=l.take n) (i:=k) (by rw [List.length_take];omega)
     have c2:=aKF (l:=l'.take n) (i:=k) (by rw [List.length_take];omega)
     rw [List.getElem_take] at c1 c2
     rw [e] at c1
     rw [e2] at c2
     rw [i1,c2] at c1
     exact (Option.some.inj c1).symm
    ·rw [if_neg hm,if_neg (fun h=>hm (hmem.2 h)),i2]
   rw [t1,t2,aMi,aMi,aJO,aJO,i1,hat]
   refine ⟨rfl,?_⟩
   unfold aIu
   rw [List.map_id,List.map_id]
   by_cases hm:l[n]∈dd (l.take n)
   ·rw [if_pos (show id l[n]∈_ from hm),if_pos (show id l'[n]∈_ from hmem.1 hm),i2]
   ·rw [if_neg (show ¬ id l[n]∈_ from hm),if_neg (show ¬ id l'[n]∈_ from fun h=>hm (hmem.2 h)),List.length_append,List.length_append,i2];rfl
 have:=(key l.length (Nat.le_refl _)).1
 rwa [List.take_length,h.1,List.take_length] at this
end
theorem mq_len {κ:Type}:∀ (k:Nat) (l:List κ),(mq k l).length=l.length
 |_,[]=>rfl
 |k,x::l=>by rw [mq,List.length_cons,List.length_cons,mq_len (k+1) l]
theorem cn_set {l:List Int} {k:Nat} (hk:k < l.length):(cn (l.take k)++List.replicate (l.length - k) 0).set k (atK id (dd (l.take k)) l[k])=cn (l.take (k+1))++List.replicate (l.length - (k+1)) 0:=by
 have hl:(cn (l.take k)).length=k:=by rw [aIL,List.length_take];omega
 have t1:l.take (k+1)=l.take k++[l[k]]:=by rw [List.take_add_one,List.getElem?_eq_getElem hk];rfl
 rw [List.set_append_right _ _ (by omega),hl,Nat.sub_self,t1,aMi,show l.length - k=(l.length - (k+1))+1 by omega,List.replicate_succ,List.set_cons_zero,List.append_assoc];rfl
theorem aNM (l:List Int) (h:l.length < 1000000):aEq l=some (cn l):=by
 unfold aEq
 rw [aLC 0 (by unfold lim;omega),wN]
 have key:=aHR (step:=fun s:List (Int × Int) × List Int × Int=>aCE l s.1 s.2.1 s.2.2) l.length (fun k (s:List (Int × Int) × List Int)=>(s.1,s.2,(k:Int)))
  (fun k s=>s=(mq 0 (dd (l.take k)),cn (l.take k)++List.replicate (l.length - k) 0)) (fun r=>r=cn l) (fun k s hk hI=>?_) (fun s hI=>?_) l.length 0 ([],List.replicate l.length 0) (by omega) rfl
 ·obtain ⟨r,h1,rfl⟩:=key
  rw [show loop (fun s:List (Int × Int) × List Int × Int=>aCE l s.1 s.2.1 s.2.2) ([],List.replicate l.length 0,0)=some (cn l) from h1];rfl
 ·subst hI
  have hset:=cn_set hk
  have hol:(cn (l.take k)++List.replicate (l.length - k) 0).length=l.length:=by rw [List.length_append,aIL,List.length_take,List.length_replicate];omega
  have t1:l.take (k+1)=l.take k++[l[k]]:=by rw [List.take_add_one,List.getElem?_eq_getElem hk];rfl
  refine ⟨_,?_,rfl⟩
  show aCE l (mq 0 (dd (l.take k))) (cn (l.take k)++List.replicate (l.length - k) 0) (k:Int)=_
  unfold aCE aAa
  rw [if_pos (aCg hk),aAR hk,wN,mq_len,aAR (by rw [hol];exact hk),wN,wN,aJE _ (by rw [hol];exact hk),aJE _ (by rw [hol];exact hk),wN,wN,aBf hk (by omega),←hset,aMT,t1,aJO]
  unfold aIu
  rw [List.map_id]
  by_cases hm:l[k]∈dd (l.take k)
  ·rw [aOl hm,if_neg (by simp),if_pos hm,if_pos (show id l[k]∈_ from hm)];rfl
  ·have hp:=aMg (k:=0) hm
   rw [Nat.zero_add] at hp
   rw [aMI hm,if_pos (by simp),if_neg hm,if_neg (show ¬ id l[k]∈_ from hm),hp]
 ·subst hI
  refine ⟨_,?_,rfl⟩
  show aCE l _ _ (l.length:Int)=_
  unfold aCE
  rw [if_neg (by simp),List.take_length,Nat.sub_self]
  simp
end Gv
namespace Gv
open Go
section
variable {κ:Type} [DecidableEq κ] [BEq κ] [LawfulBEq κ]
def fi (K:List κ):List Int:=K.map (pos K)
theorem fi_ker (K:List κ):Ker (fi K) K:=by
 refine ⟨by unfold fi;rw [List.length_map],fun i j hi hj=>?_⟩
 unfold fi at hi hj ⊢
 rw [List.length_map] at hi hj
 rw [List.getElem?_map,List.getElem?_map,List.getElem?_eq_getElem hi,List.getElem?_eq_getElem hj]
 simp only [Option.map_some,Option.some.injEq]
 constructor
 ·intro h
  obtain ⟨a,ha,e1,e2⟩:=aIl (List.getElem_mem hi)
  obtain ⟨b,hb,e3,e4⟩:=aIl (List.getElem_mem hj)
  have:a=b:=by omega
  subst this
  rw [←e2,e4]
 ·intro h;rw [h]
theorem cn_fi (K:List κ):cn (fi K)=cn K:=aKd (fi_ker K)
theorem fi_len (K:List κ):(fi K).length=K.length:=by unfold fi;rw [List.length_map]
theorem pos_take {K:List κ} {k:Nat} (hk:k < K.length):pos K K[k]=if K[k]∈K.take k then pos (K.take k) K[k] else (k:Int):=by
 by_cases h:K[k]∈K.take k
 ·rw [if_pos h];exact aKP (List.take_prefix k K) h
 ·rw [if_neg h]
  obtain ⟨j,hj,e1,e2⟩:=aIl (List.getElem_mem hk)
  have hjk:¬ j < k:=fun hlt=>h (e2 ▸ List.mem_iff_getElem.2 ⟨j,by rw [List.length_take];omega,by rw [List.getElem_take]⟩)
  have ht:K.take (k+1)=K.take k++[K[k]]:=by rw [List.take_add_one,List.getElem?_eq_getElem hk];rfl
  have h2:=aKP (a:=K.take k++[K[k]]) (b:=K) (by rw [←ht];exact List.take_prefix _ _) (q:=K[k]) (List.mem_append_right _ (List.mem_singleton.2 rfl))
  rw [h2,aMH h,List.length_take]
  omega
end
theorem aNN (a b:List Int) (h:a.length < 4611686018427387904):fR a b=some (decide (a=b)):=by
 unfold fR
 by_cases hl:a.length=b.length
 ·rw [if_neg (by simp [hl])]
  have:=aLj (step:=fun s=>gK a b s) (a.zip b) (fun p=>decide (p.1=p.2)) (.inr false) (.inl ()) (fun k x hk hx=>?_) ?_
  ·rw [this,wN]
   by_cases he:a=b
   ·subst he
    have:((a.zip a).all fun p=>decide (p.1=p.2))=true:=by
     rw [List.all_eq_true]
     intro p hp
     obtain ⟨i,hi,rfl⟩:=List.mem_iff_getElem.1 hp
     rw [List.getElem_zip];simp
    rw [if_pos this,decide_eq_true rfl];rfl
   ·have:¬ ((a.zip b).all fun p=>decide (p.1=p.2))=true:=fun h'=>he (List.ext_getElem hl fun i h1 h2=>by
     rw [List.all_eq_true] at h'
     have hiz:i < (a.zip b).length:=by rw [List.length_zip];omega
     have:=h' (a.zip b)[i] (List.getElem_mem hiz)
     rw [List.getElem_zip] at this
     simpa using this)
    rw [if_neg this,decide_eq_false he]
  ·have hzl:(a.zip b).length=a.length:=by rw [List.length_zip];omega
   rw [hzl] at hk
   obtain ⟨hk',rfl⟩:=aJD hx
   unfold gK
   rw [if_pos (aCg hk),aAR hk,wN,aAR (by omega),wN,List.getElem_zip]
   by_cases e:a[k]=b[k]'(by omega)
   ·rw [if_neg (by simp [e]),if_pos (by simp [e]),aBf hk h]
   ·rw [if_pos (by simpa using e),if_neg (by simpa using e)]
  ·have hzl:(a.zip b).length=a.length:=by rw [List.length_zip];omega
   rw [hzl]
   unfold gK
   rw [if_neg (by simp)]
 ·rw [if_pos (by simp;omega),decide_eq_false (fun h=>hl (by rw [h]))]
theorem IndexRows (xs:List (List Int)) (v:List Int) (h:xs.length < 4611686018427387904) (h2:∀ x∈xs,x.length < 1000000):fI xs v=some (pos xs v):=by
 unfold fI pos
 rw [aJy (step:=fun s=>eV xs v s) xs (fun x=>v == x) (fun k x hk hx=>?_) (by show eV xs v (xs.length:Int)=_;unfold eV;rw [if_neg (by simp)]),wN]
 ·cases xs.findIdx? (fun x=>v == x)<;>rfl
 ·obtain ⟨hk',rfl⟩:=aJD hx
  have hl:=h2 _ (List.getElem_mem hk')
  show eV xs v (k:Int)=_
  unfold eV uO
  rw [if_pos (aCg hk),hx,wN,aNN _ _ (by omega),wN,wN,aBf hk h]
  by_cases e:xs[k]=v
  ·rw [decide_eq_true e,if_pos rfl,if_pos (by simp [e])]
  ·rw [decide_eq_false e,if_neg (by simp),if_neg (by simp;exact fun h=>e h.symm)]
theorem aNt (keys:List (List Int)) (h:keys.length < 1000000) (h2:∀ x∈keys,x.length < 1000000):aBS keys=some (cn keys):=by
 unfold aBS
 have key:=aHR (step:=fun s:List Int × Int=>uP keys s.1 s.2) keys.length (fun k (o:List Int)=>(o,(k:Int))) (fun k o=>o=(fi keys).take k) (fun r=>r=fi keys) (fun k o hk hI=>?_) (fun o hI=>?_) keys.length 0 [] (by omega) (by simp)
 ·obtain ⟨r,h1,rfl⟩:=key
  rw [show loop (fun s:List Int × Int=>uP keys s.1 s.2) ([],0)=some (fi keys) from h1,wN]
  unfold oD
  rw [aNM _ (by rw [fi_len];exact h),wN,cn_fi]
 ·subst hI
  have hg:(fi keys)[k]?=some (pos keys keys[k]):=by unfold fi;rw [List.getElem?_map,List.getElem?_eq_getElem hk];rfl
  have hol:((fi keys).take k).length=k:=by rw [List.length_take,fi_len];omega
  refine ⟨_,?_,rfl⟩
  show uP keys ((fi keys).take k) (k:Int)=_
  unfold uP oE
  rw [if_pos (aCg hk),aAR hk,wN,slc_to (by omega),wN,IndexRows _ _ (by rw [List.length_take];omega) (fun x hx=>h2 x (List.mem_of_mem_take hx)),wN,List.take_add_one,hg,pos_take hk]
  have hap:∀ z:Int,kC ((fi keys).take k) [z]=some ((fi keys).take k++[z]):=fun z=>aCR (by rw [hol];simp [lim];omega)
  by_cases hm:keys[k]∈keys.take k
  ·rw [if_neg (by have:=aIO.2 hm;simpa using this),hap,wN,if_pos hm,aBf hk (by omega)];rfl
  ·rw [if_pos (by have:¬ 0<=pos (keys.take k) keys[k]:=fun h=>hm (aIO.1 h);simpa using this),hap,wN,if_neg hm,aBf hk (by omega)];rfl
 ·subst hI
  refine ⟨(fi keys).take keys.length,?_,by rw [←fi_len keys,List.take_length]⟩
  show uP keys _ (keys.length:Int)=_
  unfold uP
  rw [if_neg (by simp)]
end Gv
namespace Gv
open Go
def bl (p:List Int) (g:Int):Int:=if g < 0 then -1 else p.getD g.toNat 0
def kr (d:cO) (p:List Int) (i:Nat):List Int:=d.L.tail.map fun s=>bl p (bW d (i:Int) s)
def aKe (d:cO) (p:List Int):List (List Int):=(List.range d.N.toNat).map (kr d p)
def aKv (d:cO) (p:List Int):List (List Int):=(List.range d.N.toNat).map fun i=>p.getD i 0::kr d p i
section
variable {d:cO}
theorem kr_len (d:cO) (p:List Int) (i:Nat):(kr d p i).length=d.L.tail.length:=by unfold kr;rw [List.length_map]
theorem aIz (d:cO) (p:List Int):(aKe d p).length=d.N.toNat:=by unfold aKe;rw [List.length_map,List.length_range]
theorem aJB (d:cO) (p:List Int):(aKv d p).length=d.N.toNat:=by unfold aKv;rw [List.length_map,List.length_range]
theorem aIF {d:cO} {p:List Int} {i:Nat} (h:i < d.N.toNat):(aKe d p)[i]?=some (kr d p i):=by unfold aKe;rw [List.getElem?_map,List.getElem?_range h];rfl
theorem aLJ {d:cO} {p:List Int} {i:Nat} (h:i < d.N.toNat):(aKv d p)[i]?=some (p.getD i 0::kr d p i):=by unfold aKv;rw [List.getElem?_map,List.getElem?_range h];rfl
theorem bl_ix (hd:lD d) {p:List Int} (hp:p.length=d.N.toNat) {q:Int} {s:bD} (h:0<=bW d q s):ix p (bW d q s)=some (bl p (bW d q s)):=by
 have h1:=aKl hd q s
 have h2:=hd.1
 rw [aJR h (by omega)]
 unfold bl
 rw [if_neg (by omega),List.getD_eq_getElem?_getD,List.getElem?_eq_getElem (by omega)];rfl
theorem key_loop (hd:aGt d) {p:List Int} (hp:p.length=d.N.toNat) (i:Nat) (x:Int):loop (fun s:List Int × Int=>lV d p (i:Int) d.L.tail s.1 s.2) ([x],0)=some (x::kr d p i):=by
 have h12:=hd.1.2.2.1.2.1
 have htl:d.L.tail.length=d.L.length - 1:=List.length_tail ..
 have:=aIY (step:=fun s:List Int × Int=>lV d p (i:Int) d.L.tail s.1 s.2) d.L.tail (fun k o=>(o,(k:Int))) (fun l o=>o++l.map fun s=>bl p (bW d (i:Int) s)) (fun k o=>o.length=k+1) (fun k o s l hk hx hI=>?_) (fun o _=>?_) (a:=[x]) rfl
 ·exact this
 ·left
  have hI':o.length=k+1:=hI
  have hap:∀ z:Int,kC o [z]=some (o++[z]):=fun z=>aCR (by simp [lim];omega)
  refine ⟨o++[bl p (bW d (i:Int) s)],?_,by simp [hI'],by simp⟩
  show lV d p (i:Int) d.L.tail o (k:Int)=_
  unfold lV jH
  rw [if_pos (aCg hk),hx,wN,aOi hd.1 hd.2,wN,aBf hk (by omega)]
  by_cases hg:0<=bW d (i:Int) s
  ·rw [if_pos (by simpa using hg),bl_ix hd.1 hp hg,wN,hap,wN]
  ·rw [if_neg (by simpa using hg),hap,wN]
   unfold bl
   rw [if_pos (by omega)]
 ·show lV d p (i:Int) d.L.tail o (d.L.tail.length:Int)=_
  unfold lV
  rw [if_neg (by simp)];simp
theorem keys_loop (hd:aGt d) {p:List Int} (hp:p.length=d.N.toNat):loop (fun s:List (List Int) × Int=>lW d p s.1 s.2) ([],0)=some (aKv d p):=by
 have h40:=hd.1.1
 have h1:=hd.1.2.2.1.1
 have hsl:slc d.L 1 (d.L.length:Int)=some d.L.tail:=by
  have:=aJW (s:=d.L) (w:=1) h1
  rw [show ((1:Nat):Int)=1 from rfl] at this
  rw [this,List.drop_one]
 have hS:((d.N.toNat:Nat):Int)=d.N:=by omega
 have:=aIt (step:=fun s:List (List Int) × Int=>lW d p s.1 s.2) d.N.toNat (fun k (o:List (List Int))=>(o,(k:Int))) (fun k o=>o++(aKv d p).drop k) (fun k o=>o.length=k) (fun k o hk hI=>?_) (fun o _=>?_) d.N.toNat 0 [] (by omega) rfl
 ·rw [show loop (fun s:List (List Int) × Int=>lW d p s.1 s.2) ([],0)=_ from this,List.drop_zero,List.nil_append]
 ·left
  have hI':o.length=k:=hI
  have hpk:ix p (k:Int)=some (p.getD k 0):=by
   rw [aAR (by omega),List.getD_eq_getElem?_getD,List.getElem?_eq_getElem (by omega)];rfl
  refine ⟨o++[p.getD k 0::kr d p k],?_,by simp [hI'],?_⟩
  ·show lW d p o (k:Int)=_
   unfold lW jG lU
   rw [if_pos (by simp;omega),hpk,wN,hsl,wN,key_loop hd hp,wN,aCR (by simp [lim];omega),wN,aBf hk (by omega)]
  ·have hkl:k < (aKv d p).length:=by rw [aJB];exact hk
   have hg:=aLJ (p:=p) hk
   rw [List.getElem?_eq_getElem hkl] at hg
   rw [List.drop_eq_getElem_cons hkl,Option.some.inj hg,List.append_assoc];rfl
 ·show lW d p o (d.N.toNat:Int)=_
  unfold lW
  rw [if_neg (by simp;omega),List.drop_of_length_le (by rw [aJB];exact Nat.le_refl _),List.append_nil]
theorem aQt (hd:aGt d) {p:List Int} (hp:p.length=d.N.toNat):lX d p=some (if cn (aKv d p)=p then .inr p else .inl (cn (aKv d p))):=by
 have h40:=hd.1.1
 have h12:=hd.1.2.2.1.2.1
 have htl:d.L.tail.length=d.L.length - 1:=List.length_tail ..
 unfold lX jF lT
 rw [keys_loop hd hp,wN,aNt _ (by rw [aJB];omega) (fun x hx=>by
  unfold aKv at hx
  obtain ⟨i,_,rfl⟩:=List.mem_map.1 hx
  rw [List.length_cons,kr_len];omega),wN,aNN _ _ (by rw [aIL,aJB];omega),wN]
 by_cases h:cn (aKv d p)=p
 ·rw [decide_eq_true h,if_pos rfl,if_pos h]
 ·rw [decide_eq_false h,if_neg (by simp),if_neg h]
end
end Gv
namespace Gv
open Go
section
variable {d:cO}
def aGs (d:cO):Nat->List Int
 |0=>List.replicate d.N.toNat 0
 |j+1=>cn (aKe d (aGs d j))
theorem aJx (d:cO):∀ j,(aGs d j).length=d.N.toNat
 |0=>by simp [aGs]
 |j+1=>by rw [aGs,aIL,aIz]
theorem aKS (d:cO):∀ j,∀ z∈aGs d j,0<=z
 |0,z,h=>by simp [aGs] at h;omega
 |j+1,z,h=>(cn_in h).1
theorem aLh (d:cO) (j:Nat) {x y:Nat} (hx:x < d.N.toNat) (hy:y < d.N.toNat):(aGs d (j+1))[x]?=(aGs d (j+1))[y]?<->kr d (aGs d j) x=kr d (aGs d j) y:=by
 have h:=(cn_ker (aKe d (aGs d j))).2 x y (by rw [aIL,aIz];exact hx) (by rw [aIL,aIz];exact hy)
 rw [aIF hx,aIF hy,Option.some.injEq] at h
 exact h
theorem aMj (hd:lD d) {p:List Int} (hp:p.length=d.N.toNat) (hp0:∀ z∈p,0<=z) {g h:Int} (hg:-1<=g/\g<=d.N - 1) (hh:-1<=h/\h<=d.N - 1):bl p g=bl p h<->(g < 0/\h < 0)\/(0<=g/\0<=h/\p[g.toNat]?=p[h.toNat]?):=by
 have h40:=hd.1
 have hpos:∀ g:Int,0<=g->g<=d.N - 1->p[g.toNat]?=some (bl p g)/\0<=bl p g:=fun g h0 h1=>by
  have hlt:g.toNat < p.length:=by omega
  have e:p[g.toNat]?=some (bl p g):=by
   unfold bl
   rw [if_neg (by omega),List.getD_eq_getElem?_getD,List.getElem?_eq_getElem hlt];rfl
  exact ⟨e,hp0 _ (List.mem_of_getElem? e)⟩
 have hneg:∀ g:Int,g < 0->bl p g=-1:=fun g h=>by unfold bl;rw [if_pos h]
 by_cases c1:g < 0
 ·by_cases c2:h < 0
  ·rw [hneg g c1,hneg h c2];simp [c1,c2]
  ·have:=(hpos h (by omega) hh.2).2
   rw [hneg g c1]
   constructor
   ·intro e;omega
   ·rintro (e|e)<;>omega
 ·by_cases c2:h < 0
  ·have:=(hpos g (by omega) hg.2).2
   rw [hneg h c2]
   constructor
   ·intro e;omega
   ·rintro (e|e)<;>omega
  ·rw [(hpos g (by omega) hg.2).1,(hpos h (by omega) hh.2).1]
   constructor
   ·intro e;exact .inr ⟨by omega,by omega,by rw [e]⟩
   ·rintro (e|⟨_,_,e⟩)
    ·omega
    ·exact Option.some.inj e
theorem kr_mono (hd:lD d) {p q:List Int} (hp:p.length=d.N.toNat) (hp0:∀ z∈p,0<=z) (hq:q.length=d.N.toNat) (hq0:∀ z∈q,0<=z) (h:∀ x y:Nat,x < d.N.toNat->y < d.N.toNat->q[x]?=q[y]?->p[x]?=p[y]?) {x y:Nat} (e:kr d q x=kr d q y):kr d p x=kr d p y:=by
 unfold kr at e ⊢
 refine List.map_congr_left fun s hs=>?_
 have e1:=List.map_inj_left.1 e s hs
 have g1:=aKl hd (x:Int) s
 have g2:=aKl hd (y:Int) s
 rw [aMj hd hq hq0 g1 g2] at e1
 rw [aMj hd hp hp0 g1 g2]
 rcases e1 with e1|⟨a,b,c⟩
 ·exact .inl e1
 ·exact .inr ⟨a,b,h _ _ (by omega) (by omega) c⟩
theorem aIX (hd:lD d):∀ (j:Nat) (x y:Nat),x < d.N.toNat->y < d.N.toNat->(aGs d (j+1))[x]?=(aGs d (j+1))[y]?->(aGs d j)[x]?=(aGs d j)[y]?
 |0,x,y,hx,hy,_=>by
  show (List.replicate d.N.toNat (0:Int))[x]?=(List.replicate d.N.toNat (0:Int))[y]?
  rw [List.getElem?_replicate,List.getElem?_replicate,if_pos hx,if_pos hy]
 |j+1,x,y,hx,hy,h=>by
  rw [aLh d (j+1) hx hy] at h
  rw [aLh d j hx hy]
  exact kr_mono hd (aJx d j) (aKS d j) (aJx d (j+1)) (aKS d (j+1)) (fun x y hx hy=>aIX hd j x y hx hy) h
theorem keysP_blk (hd:lD d) (j:Nat):cn (aKv d (aGs d j))=aGs d (j+1):=by
 show _=cn (aKe d (aGs d j))
 refine aKd ⟨by rw [aJB,aIz],fun x y hx hy=>?_⟩
 rw [aJB] at hx hy
 rw [aLJ hx,aLJ hy,aIF hx,aIF hy,Option.some.injEq,Option.some.injEq,List.cons.injEq]
 refine ⟨fun h=>h.2,fun h=>⟨?_,h⟩⟩
 have:=aIX hd j x y hx hy ((aLh d j hx hy).2 h)
 rw [List.getD_eq_getElem?_getD,List.getD_eq_getElem?_getD,this]
def aHx (p:List Int) (n:Nat):List Nat:=(List.range n).filter fun i=>decide (∀ k,k < i->p[k]?≠p[i]?)
theorem aMU (hd:lD d) (j:Nat):aGs d (j+1)=aGs d j\/(aHx (aGs d j) d.N.toNat).length < (aHx (aGs d (j+1)) d.N.toNat).length:=by
 by_cases hs:∀ x y:Nat,x < d.N.toNat->y < d.N.toNat->(aGs d j)[x]?=(aGs d j)[y]?->(aGs d (j+1))[x]?=(aGs d (j+1))[y]?
 ·left
  cases j with
  |zero=>
   have hz:aGs d 0=cn (aGs d 0):=by
    have hrep:∀ n,cn (List.replicate n (0:Int))=List.replicate n 0:=by
     intro n
     refine List.ext_getElem? fun i=>?_
     by_cases hi:i < n
     ·rw [aKF (by simpa using hi),List.getElem_replicate,List.getElem?_replicate,if_pos hi]
      have hmem:(0:Int)∈dd (List.replicate n (0:Int)):=aJg.2 (by rw [List.mem_replicate];exact ⟨by omega,rfl⟩)
      have hdd:∀ m,dd (List.replicate (m+1) (0:Int))=[0]:=by
       intro m
       induction m with
       |zero=>rfl
       |succ m ih=>rw [List.replicate_succ',aJO,ih];rfl
      obtain ⟨m,rfl⟩:∃ m,n=m+1:=⟨n - 1,by omega⟩
      rw [hdd];rfl
     ·rw [List.getElem?_eq_none (by rw [aIL,List.length_replicate];omega),List.getElem?_eq_none (by rw [List.length_replicate];omega)]
    exact (hrep _).symm
   rw [hz]
   show cn (aKe d (aGs d 0))=cn (aGs d 0)
   refine aKd ⟨by rw [aIz,aJx],fun x y hx hy=>?_⟩
   rw [aIz] at hx hy
   rw [aIF hx,aIF hy,Option.some.injEq,←aLh d 0 hx hy]
   exact ⟨aIX hd 0 x y hx hy,hs x y hx hy⟩
  |succ j=>
   show cn (aKe d (aGs d (j+1)))=cn (aKe d (aGs d j))
   refine aKd ⟨by rw [aIz,aIz],fun x y hx hy=>?_⟩
   rw [aIz] at hx hy
   rw [aIF hx,aIF hy,aIF hx,aIF hy,Option.some.injEq,Option.some.injEq,←aLh d (j+1) hx hy,←aLh d j hx hy]
   exact ⟨aIX hd (j+1) x y hx hy,hs x y hx hy⟩
 ·right
  have hsub:∀ i,i∈aHx (aGs d j) d.N.toNat->i∈aHx (aGs d (j+1)) d.N.toNat:=fun i hi=>by
   unfold aHx at hi ⊢
   rw [List.mem_filter,List.mem_range,decide_eq_true_iff] at hi ⊢
   exact ⟨hi.1,fun k hk e=>hi.2 k hk (aIX hd j k i (by omega) hi.1 e)⟩
  have hnd:∀ p,(aHx p d.N.toNat).Nodup:=fun p=>List.Nodup.sublist List.filter_sublist List.nodup_range
  have hex:∃ z,z∈aHx (aGs d (j+1)) d.N.toNat/\z∉aHx (aGs d j) d.N.toNat:=by
   apply Classical.byContradiction
   intro hno
   refine hs fun x y hx hy e=>?_
   have hmin:∀ x,x < d.N.toNat->∃ z,z<=x/\z∈aHx (aGs d (j+1)) d.N.toNat/\(aGs d (j+1))[z]?=(aGs d (j+1))[x]?:=by
    intro x
    induction x using Nat.strongRecOn with
    |ind x ih=>
     intro hx
     by_cases h:∀ k,k < x->(aGs d (j+1))[k]?≠(aGs d (j+1))[x]?
     ·exact ⟨x,Nat.le_refl _,by unfold aHx;rw [List.mem_filter,List.mem_range,decide_eq_true_iff];exact ⟨hx,h⟩,rfl⟩
     ·obtain ⟨k,hk⟩:=Classical.not_forall.1 h
      obtain ⟨hk1,hk2⟩:=Classical.not_imp.1 hk
      obtain ⟨z,z1,z2,z3⟩:=ih k hk1 (by omega)
      exact ⟨z,by omega,z2,z3.trans (Classical.not_not.1 hk2)⟩
   obtain ⟨a,a1,a2,a3⟩:=hmin x hx
   obtain ⟨b,b1,b2,b3⟩:=hmin y hy
   have ha:a∈aHx (aGs d j) d.N.toNat:=Classical.byContradiction fun h=>hno ⟨a,a2,h⟩
   have hb:b∈aHx (aGs d j) d.N.toNat:=Classical.byContradiction fun h=>hno ⟨b,b2,h⟩
   have hab:(aGs d j)[a]?=(aGs d j)[b]?:=((aIX hd j a x (by omega) hx a3).trans e).trans (aIX hd j b y (by omega) hy b3).symm
   unfold aHx at ha hb
   rw [List.mem_filter,decide_eq_true_iff] at ha hb
   have:a=b:=by
    rcases Nat.lt_trichotomy a b with h|h|h
    ·exact absurd hab (hb.2 a h)
    ·exact h
    ·exact absurd hab.symm (ha.2 b h)
   subst this
   exact a3.symm.trans b3
  obtain ⟨z,z1,z2⟩:=hex
  have:=List.Nodup.length_le_of_subset (l₁:=z::aHx (aGs d j) d.N.toNat) (l₂:=aHx (aGs d (j+1)) d.N.toNat) (List.nodup_cons.2 ⟨z2,hnd _⟩) (fun i hi=>by
   rcases List.mem_cons.1 hi with rfl|hi
   ·exact z1
   ·exact hsub i hi)
  rw [List.length_cons] at this
  omega
theorem aKG {j:Nat} (h:aGs d (j+1)=aGs d j):∀ m,aGs d (j+m)=aGs d j
 |0=>rfl
 |m+1=>by
  show cn (aKe d (aGs d (j+m)))=_
  rw [aKG h m];exact h
theorem aMa (hd:aGt d):∀ (m j:Nat),j+m=d.N.toNat->j < (aHx (aGs d j) d.N.toNat).length->loop (fun s:List Int=>lX d s) (aGs d j)=some (aGs d d.N.toNat)
 |m,j,hm,hj=>by
  have hle:(aHx (aGs d j) d.N.toNat).length<=d.N.toNat:=by
   have:=List.length_filter_le (fun i=>decide (∀ k,k < i->(aGs d j)[k]?≠(aGs d j)[i]?)) (List.range d.N.toNat)
   rw [List.length_range] at this
   exact this
  have hst:=aQt hd (aJx d j)
  rw [keysP_blk hd.1] at hst
  by_cases he:aGs d (j+1)=aGs d j
  ·rw [if_pos he] at hst
   rw [aIS (step:=fun s:List Int=>lX d s) hst,←hm,aKG he]
  ·rw [if_neg he] at hst
   have hmore:=(aMU hd.1 j).resolve_left he
   rw [aJd (step:=fun s:List Int=>lX d s) hst]
   cases m with
   |zero=>omega
   |succ m=>exact aMa hd m (j+1) (by omega) (by omega)
theorem aPc (hd:aGt d):loop (fun s:List Int=>lX d s) (List.replicate d.N.toNat 0)=some (aGs d d.N.toNat):=by
 have h40:=hd.1.1
 refine aMa hd d.N.toNat 0 (by omega) ?_
 have:0∈aHx (aGs d 0) d.N.toNat:=by
  unfold aHx
  rw [List.mem_filter,List.mem_range,decide_eq_true_iff]
  exact ⟨by omega,fun k hk=>by omega⟩
 exact List.length_pos_of_mem this
end
end Gv
namespace Gv
open Go
def kB (p:List Int) (s:Int):Int:=p.getD s.toNat 0
def aII (d:cO) (k:Nat):bD:=d.L.getD k []
def aKW (d:cO) (s:Int):Nat->Nat->List (Int × Int)
 |0,_=>[]
 |n+1,k=>if bW d s (aII d k) < 0 then aKW d s n (k+1) else ((k:Int),bW d s (aII d k))::aKW d s n (k+1)
def nxM (d:cO) (s:Int):List (Int × Int):=aKW d s (d.L.length - 1) 1
def inS (d:cO) (s:Int):Prop:=0<=s/\s < d.N
section
variable {d:cO} {p:List Int}
theorem aMk (hd:lD d) (s:Int):∀ (n k:Nat),∀ x∈aKW d s n k,inS d x.2
 |0,_,x,h=>by simp [aKW] at h
 |n+1,k,x,h=>by
  unfold aKW at h
  split at h
  ·exact aMk hd s n (k+1) x h
  ·rcases List.mem_cons.1 h with rfl|h
   ·have:=aKl hd s (aII d k)
    unfold inS;simp only;omega
   ·exact aMk hd s n (k+1) x h
theorem aPd (s:Int):∀ (n k:Nat),Inc ((k:Int) - 1) ((k:Int)+n - 1) (aKW d s n k)
 |0,k=>⟨by simp [aKW],fun x hx=>by simp [aKW] at hx⟩
 |n+1,k=>by
  obtain ⟨h1,h2⟩:=aPd s n (k+1)
  unfold aKW
  split
  ·exact ⟨h1,fun x hx=>by have:=h2 x hx;omega⟩
  ·refine ⟨?_,fun x hx=>?_⟩
   ·rw [List.pairwise_cons]
    exact ⟨fun x hx=>by have:=h2 x hx;simp only;omega,h1⟩
   ·rcases List.mem_cons.1 hx with rfl|hx
    ·simp only;omega
    ·have:=h2 x hx;omega
theorem aMV (s:Int):∀ (n k:Nat),(aKW d s n k).length<=n
 |0,_=>by simp [aKW]
 |n+1,k=>by
  have:=aMV s n (k+1)
  unfold aKW
  split
  ·omega
  ·rw [List.length_cons];omega
theorem nxM_inc (hd:lD d) (s:Int):Inc 0 (d.L.tail.length:Int) (nxM d s):=by
 have:=aPd (d:=d) s (d.L.length - 1) 1
 have h1:=hd.2.2.1.1
 rw [List.length_tail]
 unfold nxM
 rw [show ((d.L.length - 1:Nat):Int)=((1:Nat):Int)+((d.L.length - 1:Nat):Int) - 1 by omega]
 exact this
theorem aJK (hd:lD d) (hp:p.length=d.N.toNat) (hpl:∀ z∈p,0<=z/\z < 40) {F:List Int} (hn:(F.map (kB p)).Nodup) (hF:∀ s∈F,inS d s):F.length<=40:=by
 have h40:=hd.1
 have:=List.Nodup.length_le_of_subset (l₂:=(List.range 40).map Int.ofNat) hn (fun z hz=>by
  obtain ⟨s,hs,rfl⟩:=List.mem_map.1 hz
  have h:=hF s hs
  unfold inS at h
  have hm:kB p s∈p:=by
   unfold kB
   rw [List.getD_eq_getElem?_getD,List.getElem?_eq_getElem (by omega)];exact List.getElem_mem _
  have:=hpl _ hm
  rw [List.mem_map]
  exact ⟨(kB p s).toNat,by rw [List.mem_range];omega,by show (((kB p s).toNat:Nat):Int)=kB p s;omega⟩)
 simpa using this
theorem kB_ix (hp:p.length=d.N.toNat) {s:Int} (hs:inS d s):ix p s=some (kB p s):=by
 unfold inS at hs
 rw [aJR hs.1 (by omega)]
 unfold kB
 rw [List.getD_eq_getElem?_getD,List.getElem?_eq_getElem (by omega)];rfl
end
end Gv
namespace Gv
open Go
def aJq (d:cO) (p:List Int):List Int × List Edge:=xpl (kB p) (nxM d) 40 41 0 ([0],[])
section
variable {d:cO} {p:List Int}
theorem aKT (hd:lD d):((aJq d p).1.map (kB p)).Nodup/\(∀ s∈(aJq d p).1,inS d s)/\(aJq d p).2.Pairwise aIG/\(∀ e∈(aJq d p).2,(0<=e.F/\e.F < (aJq d p).1.length)/\(1<=e.B/\e.B<=d.L.tail.length)/\0<=e.To/\e.To < (aJq d p).1.length):=by
 have h40:=hd.1
 have hg:∀ s∈(([0],[]):List Int × List Edge).1,inS d s:=fun s hs=>by simp at hs;subst hs;unfold inS;omega
 have hP:∀ s,inS d s->∀ x∈nxM d s,inS d x.2:=fun s _=>aMk hd s _ _
 obtain ⟨g1,g2⟩:=aOn (key:=kB p) hP 40 41 0 ([0],[]) (by simp) hg
 obtain ⟨j,hj,hE⟩:=xpl_ED (key:=kB p) (L:=d.L.tail) hP (fun s _=>nxM_inc hd s) 40 41 0 ([0],[]) hg (by simp) ⟨by simp,fun e he=>by simp at he⟩
 obtain ⟨e1,e2⟩:=hE.done hj
 exact ⟨g1,g2,e1,e2⟩
end
end Gv
namespace Gv
open Go
section
variable {t:cO}
theorem det_mk {L:List bD} {n:Nat} {ed:List Edge} (hL:aHj L) (hn:1<=n/\n<=40) (h300:ed.length<=300) (ho:ed.Pairwise aIG) (hall:∀ e∈ed,(0<=e.F/\e.F < n)/\(1<=e.B/\e.B<=L.tail.length)/\0<=e.To/\e.To < n):aGt ⟨(n:Int),0,L,ed⟩:=by
 have h1:=hL.1
 have hpl:=List.pairwise_iff_getElem.1 ho
 refine ⟨⟨⟨by simp only;omega,by simp only;omega⟩,⟨by simp only;omega,by simp only;omega⟩,hL,h300,fun k hk=>⟨?_,fun h1=>?_⟩⟩,fun k hk=>⟨?_,fun h1=>?_⟩⟩
 ·have hk':k < ed.length:=hk
  show aHk ⟨(n:Int),0,L,ed⟩ ed[k]
  have:=hall _ (List.getElem_mem hk')
  rw [List.length_tail] at this
  unfold aHk
  simp only
  omega
 ·exact aKO (hpl (k - 1) k (by simp only at hk;omega) hk (by omega))
 ·have hk':k < ed.length:=hk
  show ed[k].B≠0
  have:=hall _ (List.getElem_mem hk')
  omega
 ·have hk':k < ed.length:=hk
  have:=hpl (k - 1) k (by omega) hk' (by omega)
  unfold aIG at this
  show ¬ (ed[k].F=(ed[k - 1]'(by omega)).F/\ed[k].B=(ed[k - 1]'(by omega)).B)
  omega
theorem aIC (hv:lD t) (hs:Small (aFi t)):aGt ⟨((aFi t).1.length:Int),0,t.L,(aFi t).2⟩:=by
 obtain ⟨d1,d2,d3,d4,d5⟩:=aKR hv
 exact det_mk hv.2.2.1 ⟨d5,hs.1⟩ hs.2 d3 d4
theorem pair_ext {A B:List (Int × Int)} (h:A.Pairwise fun a b=>a.1 < b.1) (h':B.Pairwise fun a b=>a.1 < b.1) (hm:∀ x,x∈A<->x∈B):A=B:=
 aGq (R:=fun a b:Int × Int=>a.1 < b.1) (fun a=>Int.lt_irrefl a.1) (fun h1 h2=>Int.lt_trans h1 h2) h h' hm
variable {d:cO}
theorem aKH (s:Int) {x:Int × Int}:∀ (n k:Nat),x∈aKW d s n k<->∃ j:Nat,k<=j/\j < k+n/\0<=bW d s (aII d j)/\x=((j:Int),bW d s (aII d j))
 |0,k=>by
  simp only [aKW,List.not_mem_nil,false_iff]
  rintro ⟨j,h1,h2,_⟩
  omega
 |n+1,k=>by
  have ih:=aKH s (x:=x) n (k+1)
  unfold aKW
  by_cases h:bW d s (aII d k) < 0
  ·rw [if_pos h,ih]
   constructor
   ·rintro ⟨j,h1,h2,h3⟩;exact ⟨j,by omega,by omega,h3⟩
   ·rintro ⟨j,h1,h2,h3,h4⟩
    have:j≠k:=fun e=>by subst e;omega
    exact ⟨j,by omega,by omega,h3,h4⟩
  ·rw [if_neg h,List.mem_cons,ih]
   constructor
   ·rintro (rfl|⟨j,h1,h2,h3⟩)
    ·exact ⟨k,by omega,by omega,by omega,rfl⟩
    ·exact ⟨j,by omega,by omega,h3⟩
   ·rintro ⟨j,h1,h2,h3,h4⟩
    by_cases e:j=k
    ·subst e;exact .inl h4
    ·exact .inr ⟨j,by omega,by omega,h3,h4⟩
theorem aOr (hd:aGt d) (s:Int):nxM d s=(aIc d s).map fun e=>(e.B,e.To):=by
 have h1:=hd.1.2.2.1.1
 refine pair_ext (nxM_inc hd.1 s).1 ?_ fun x=>?_
 ·rw [List.pairwise_map]
  exact aLI hd s
 ·unfold nxM
  rw [aKH,List.mem_map]
  constructor
  ·rintro ⟨j,j1,j2,j3,rfl⟩
   unfold bW at j3 ⊢
   cases hx:d.E.find? (hit d s (aII d j)) with
   |none=>rw [hx] at j3;simp only at j3;omega
   |some e=>
    have he:=List.mem_of_find?_eq_some hx
    have hh:=List.find?_some hx
    have hb:=(aHl hd.1 he).2.2
    unfold hit at hh
    simp only [Bool.and_eq_true,beq_iff_eq] at hh
    refine ⟨e,List.mem_filter.2 ⟨he,by simpa using hh.1⟩,?_⟩
    simp only
    have e2:=hh.2
    unfold txt aII at e2
    rw [List.getD_eq_getElem?_getD,List.getD_eq_getElem?_getD,List.getElem?_eq_getElem (by omega),List.getElem?_eq_getElem (by omega)] at e2
    have:=aKA hd.1.2.2.1 (by omega) (by omega) e2
    have e3:e.B=(j:Int):=by omega
    rw [e3]
  ·rintro ⟨e,he,rfl⟩
   obtain ⟨h2,h3⟩:=aLt he
   have hb:=aHl hd.1 h2
   have h0:e.B≠0:=by
    obtain ⟨k,hk,rfl⟩:=List.mem_iff_getElem.1 h2
    exact (hd.2 k hk).1
   have hlab:aII d e.B.toNat=txt d e:=rfl
   have hf:=aOh hd.1 hd.2 s (txt d e)
   have hm:e∈d.E.filter (hit d s (txt d e)):=List.mem_filter.2 ⟨h2,by unfold hit;simp [h3]⟩
   rw [hf] at hm
   have hg:bW d s (txt d e)=e.To:=by
    unfold bW
    cases hx:d.E.find? (hit d s (txt d e)) with
    |none=>rw [hx] at hm;simp at hm
    |some e'=>rw [hx] at hm;simp at hm;subst hm;rfl
   have hl:=hb.2.2
   have ht:=hb.2.1
   refine ⟨e.B.toNat,by omega,by omega,?_,?_⟩
   ·rw [hlab,hg];omega
   ·rw [hlab,hg,show ((e.B.toNat:Nat):Int)=e.B by omega]
end
end Gv
namespace Gv
open Go
def kT (p:List Int) (s:Int):bD:=Lib.itoa (kB p s)
structure Blk (d:cO) (p:List Int):Prop where
 len:p.length=d.N.toNat
 bnd:∀ z∈p,0<=z/\z < 40
section
variable {d:cO} {p:List Int}
theorem kB_bnd (hp:Blk d p) {s:Int} (hs:inS d s):0<=kB p s/\kB p s < 40:=by
 have h:=hp.len
 unfold inS at hs
 refine hp.bnd _ ?_
 unfold kB
 rw [List.getD_eq_getElem?_getD,List.getElem?_eq_getElem (by omega)];exact List.getElem_mem _
theorem minKey_eq (hp:Blk d p) {s:Int} (hs:inS d s):lO s p=some (kT p s):=by
 have h:=kB_bnd hp hs
 unfold lO
 rw [kB_ix hp.len hs,wN]
 unfold aCV
 rw [if_pos ⟨by omega,by omega⟩];rfl
theorem kT_map (F:List Int):F.map (kT p)=(F.map (kB p)).map Lib.itoa:=by rw [List.map_map];rfl
theorem kT_inj (hp:Blk d p) {F:List Int} (hF:∀ s∈F,inS d s) {s:Int} (hs:inS d s):∀ x∈F.map (kB p),Lib.itoa x=Lib.itoa (kB p s)->x=kB p s:=fun x hx e=>by
 obtain ⟨y,hy,rfl⟩:=List.mem_map.1 hx
 have h1:=kB_bnd hp (hF y hy)
 have h2:=kB_bnd hp hs
 exact aMF (by omega) (by omega) e
theorem aMW (hp:Blk d p) {F:List Int} (hF:∀ s∈F,inS d s) {s:Int} (hs:inS d s) (hl:F.length<=1000) (arcs:List gV):
  gQ F (mq 0 (F.map (kT p))) arcs p s=some (atK (kB p) F s,aIu (kB p) F s,mq 0 ((aIu (kB p) F s).map (kT p))):=by
 have hk:=kT_inj hp hF hs
 have hin:kT p s∈F.map (kT p)<->kB p s∈F.map (kB p):=by
  rw [kT_map]
  exact key_in hk
 unfold gQ
 rw [minKey_eq hp hs,wN]
 unfold atK aIu
 by_cases hm:kB p s∈F.map (kB p)
 ·rw [aOl (hin.2 hm),if_neg (by simp),if_pos hm,if_pos hm]
  have:pos (F.map (kT p)) (kT p s)=pos (F.map (kB p)) (kB p s):=by rw [kT_map];exact aOo hk
  rw [this]
  rfl
 ·have hm':kT p s∉F.map (kT p):=fun h=>hm (hin.1 h)
  rw [aMI hm',if_pos (by simp),if_neg hm,if_neg hm]
  have h1:yG (mq 0 (F.map (kT p))) (kT p s) (F.length:Int)=mq 0 ((F++[s]).map (kT p)):=by
   have:=aMg (k:=0) hm'
   rw [Nat.zero_add,List.length_map] at this
   rw [this,List.map_append];rfl
  rw [wN,h1,aCR (by simp [lim];omega),wN]
  rfl
theorem minAdd_eq (hp:Blk d p) {s:List Int × List Edge} (hF:∀ x∈s.1,inS d x) {q:Int} (hq:inS d q) (hl:s.1.length<=1000) (he:s.2.length<=1000000) (L:List bD) (i:Nat) (k:Int):
  lP (L.getD (k - 1).toNat []) q s.1 (mq 0 (s.1.map (kT p))) (s.2.map (aGS L)) p (i:Int)=some ((aIH (kB p) (i:Int) s (k,q)).1,mq 0 ((aIH (kB p) (i:Int) s (k,q)).1.map (kT p)),(aIH (kB p) (i:Int) s (k,q)).2.map (aGS L)):=by
 unfold lP
 rw [aMW hp hF hq hl,wN,aCR (by simp [lim];omega),wN]
 unfold jX aIH
 rw [List.map_append]
 rfl
theorem aQv (hd:aGt d) (hp:Blk d p) {i:Nat} {q:Int} {s:List Int × List Edge} (hF:∀ x∈s.1,inS d x) (hl:s.1.length<=100) (he:s.2.length<=100000):
  lQ q s.1 (mq 0 (s.1.map (kT p))) (s.2.map (aGS d.L.tail)) p (i:Int) d=some (true,(aHH (kB p) (i:Int) (nxM d q) s).1,mq 0 ((aHH (kB p) (i:Int) (nxM d q) s).1.map (kT p)),(aHH (kB p) (i:Int) (nxM d q) s).2.map (aGS d.L.tail)):=by
 have h300:=hd.1.2.2.2.1
 have hol:(aIc d q).length<=300:=Nat.le_trans (List.length_filter_le _ _) h300
 unfold lQ
 rw [out_eq d q (by omega),wN,show (d.E.filter fun e=>e.F == q)=aIc d q from rfl]
 have:=aIt (step:=fun x:List Int × List (bD × Int) × List gV × Int=>jY p (i:Int) d (aIc d q) x.1 x.2.1 x.2.2.1 x.2.2.2) (aIc d q).length (fun k (a:List Int × List Edge)=>(a.1,mq 0 (a.1.map (kT p)),a.2.map (aGS d.L.tail),(k:Int)))
  (fun k a=>((aHH (kB p) (i:Int) (((aIc d q).drop k).map fun e=>(e.B,e.To)) a).1,mq 0 ((aHH (kB p) (i:Int) (((aIc d q).drop k).map fun e=>(e.B,e.To)) a).1.map (kT p)),(aHH (kB p) (i:Int) (((aIc d q).drop k).map fun e=>(e.B,e.To)) a).2.map (aGS d.L.tail)))
  (fun k a=>(∀ x∈a.1,inS d x)/\a.1.length<=100+k/\a.2.length<=100000+k) (fun k a hk hI=>?_) (fun a hI=>?_) (aIc d q).length 0 s (by omega) ⟨hF,hl,he⟩
 ·rw [show loop (fun x:List Int × List (bD × Int) × List gV × Int=>jY p (i:Int) d (aIc d q) x.1 x.2.1 x.2.2.1 x.2.2.2) (s.1,mq 0 (s.1.map (kT p)),s.2.map (aGS d.L.tail),0)=_ from this,wN]
  unfold iE
  rw [List.drop_zero,←aOr hd q]
 ·left
  obtain ⟨a3,a4,a5⟩:=hI
  have hm:(aIc d q)[k]∈aIc d q:=List.getElem_mem hk
  obtain ⟨m1,m2⟩:=aLt hm
  have hin:=aHl hd.1 m1
  have h0:(aIc d q)[k].B≠0:=by
   obtain ⟨j,hj,e⟩:=List.mem_iff_getElem.1 m1
   rw [←e]
   exact (hd.2 j hj).1
  have hto:inS d (aIc d q)[k].To:=by have:=hin.2.1;unfold inS;omega
  have hl2:=hin.2.2
  have hlab:ix d.L (aIc d q)[k].B=some (d.L.tail.getD ((aIc d q)[k].B - 1).toNat []):=by
   rw [aJH hin]
   unfold txt
   obtain ⟨m,hm'⟩:∃ m:Nat,(aIc d q)[k].B.toNat=m+1:=⟨(aIc d q)[k].B.toNat - 1,by omega⟩
   rw [hm',show ((aIc d q)[k].B - 1).toNat=m by omega,List.getD_eq_getElem?_getD,List.getD_eq_getElem?_getD]
   cases hL:d.L with
   |nil=>rfl
   |cons x l=>rfl
  have hadd:=minAdd_eq hp (s:=a) a3 hto (by omega) (by omega) d.L.tail i (aIc d q)[k].B
  simp only [jY,aCg hk,if_pos,aAR hk,wN,hlab,hadd,aBf hk (show (aIc d q).length < 4611686018427387904 by omega)]
  refine ⟨aIH (kB p) (i:Int) a ((aIc d q)[k].B,(aIc d q)[k].To),rfl,⟨aLp (key:=kB p) a3 hto,?_,?_⟩,?_⟩
  ·have:=aKE (key:=kB p) a.1 (aIc d q)[k].To
   simp only [aIH];omega
  ·simp only [aIH,List.length_append,List.length_singleton];omega
  ·rw [List.drop_eq_getElem_cons hk,List.map_cons,aIE]
 ·simp only [jY,aEa]
  rw [List.drop_length]
  rfl
theorem aMX (hd:aGt d) (hp:Blk d p):∀ (n i:Nat) (s:List Int × List Edge),i<=s.1.length->41<=n+i->(s.1.map (kB p)).Nodup->(∀ x∈s.1,inS d x)->s.2.length<=11 * i->
  loop (fun x:List Int × List (bD × Int) × List gV × Int=>lS p d x.1 x.2.1 x.2.2.1 x.2.2.2) (s.1,mq 0 (s.1.map (kT p)),s.2.map (aGS d.L.tail),(i:Int))=
   some (.inl ((xpl (kB p) (nxM d) 40 n i s).1,mq 0 ((xpl (kB p) (nxM d) 40 n i s).1.map (kT p)),(xpl (kB p) (nxM d) 40 n i s).2.map (aGS d.L.tail)))
 |0,i,s,hi,hn,hnd,hF,_=>by have:=aJK hd.1 hp.len hp.bnd hnd hF;omega
 |n+1,i,s,hi,hn,hnd,hF,he=>by
  have h12:=hd.1.2.2.1.2.1
  have hlen:=aJK hd.1 hp.len hp.bnd hnd hF
  by_cases hlt:i < s.1.length
  ·have hq:s.1[i]?=some s.1[i]:=List.getElem?_eq_getElem hlt
   have hw:=aBf hlt (show s.1.length < 4611686018427387904 by omega)
   have hsi:=aMk (d:=d) hd.1 s.1[i] (d.L.length - 1) 1
   have g1:=aKp (key:=kB p) (i:Int) (nxM d s.1[i]) s hnd
   have g2:=aJY (key:=kB p) (P:=inS d) (i:Int) (nxM d s.1[i]) s hF hsi
   have g4:=aJK hd.1 hp.len hp.bnd g1 g2
   have gl:=(aJe (key:=kB p) (i:Int) (nxM d s.1[i]) s).1.length_le
   have ge:=(aLq (key:=kB p) (i:Int) (nxM d s.1[i]) s).1
   have gs:(nxM d s.1[i]).length<=11:=Nat.le_trans (aMV _ _ _) (by omega)
   have hx:xpl (kB p) (nxM d) 40 (n+1) i s=xpl (kB p) (nxM d) 40 n (i+1) (aHH (kB p) (i:Int) (nxM d s.1[i]) s):=by
    rw [xpl,hq];exact if_neg (by omega)
   have hst:lS p d s.1 (mq 0 (s.1.map (kT p))) (s.2.map (aGS d.L.tail)) (i:Int)=some (.inl ((aHH (kB p) (i:Int) (nxM d s.1[i]) s).1,mq 0 ((aHH (kB p) (i:Int) (nxM d s.1[i]) s).1.map (kT p)),(aHH (kB p) (i:Int) (nxM d s.1[i]) s).2.map (aGS d.L.tail),((i+1:Nat):Int))):=by
    unfold lS
    rw [if_pos (aCg hlt),aAR hlt,wN,aQv hd hp hF (by omega) (by omega),wN,if_neg (by simp)]
    unfold jD
    rw [if_neg (by simp only [decide_eq_true_eq];omega),hw]
   rw [aJd (step:=fun x:List Int × List (bD × Int) × List gV × Int=>lS p d x.1 x.2.1 x.2.2.1 x.2.2.2) (s:=(s.1,mq 0 (s.1.map (kT p)),s.2.map (aGS d.L.tail),(i:Int))) hst,hx]
   exact aMX hd hp n (i+1) _ (by omega) (by omega) g1 g2 (by omega)
  ·obtain rfl:i=s.1.length:=by omega
   have hx:xpl (kB p) (nxM d) 40 (n+1) s.1.length s=s:=by
    rw [xpl,List.getElem?_eq_none (Nat.le_refl _)]
   have hst:lS p d s.1 (mq 0 (s.1.map (kT p))) (s.2.map (aGS d.L.tail)) (s.1.length:Int)=some (.inr (.inl (s.1,mq 0 (s.1.map (kT p)),s.2.map (aGS d.L.tail)))):=by
    unfold lS
    rw [if_neg (by simp)]
   rw [hx,aIS (step:=fun x:List Int × List (bD × Int) × List gV × Int=>lS p d x.1 x.2.1 x.2.2.1 x.2.2.2) (s:=(s.1,mq 0 (s.1.map (kT p)),s.2.map (aGS d.L.tail),(s.1.length:Int))) hst]
theorem blk_ok (hd:lD d):Blk d (aGs d d.N.toNat):=by
 have h40:=hd.1
 refine ⟨aJx d _,fun z hz=>⟨aKS d _ z hz,?_⟩⟩
 obtain ⟨m,hm⟩:∃ m,d.N.toNat=m+1:=⟨d.N.toNat - 1,by omega⟩
 rw [hm] at hz
 have:=(cn_in (show z∈cn (aKe d (aGs d m)) from hz)).2
 rw [aIz] at this;omega
def aJr (d:cO):cO:=aHP d.L.tail (aJq d (aGs d d.N.toNat)).1.length (aJq d (aGs d d.N.toNat)).2
theorem aNO {key:Int->Int} {nx:Int->List (Int × Int)} (h:∀ q,(nx q).length<=11) (B:Nat):∀ (n i:Nat) (s:List Int × List Edge),(xpl key nx B n i s).2.length<=s.2.length+11 * n
 |0,_,_=>Nat.le_refl _
 |n+1,i,s=>by
  unfold xpl
  split
  ·omega
  ·rename_i q _
   have h1:=(aLq (key:=key) (i:Int) (nx q) s).1
   have h2:=h q
   split
   ·omega
   ·have:=aNO (key:=key) h B n (i+1) (aHH key (i:Int) (nx q) s)
    omega
theorem finM_len (hd:lD d):(aJq d (aGs d d.N.toNat)).2.length<=451:=by
 have h12:=hd.2.2.1.2.1
 have:=aNO (key:=kB (aGs d d.N.toNat)) (nx:=nxM d) (fun q=>by
  have:=aMV (d:=d) q (d.L.length - 1) 1
  unfold nxM
  omega) 40 41 0 ([0],[])
 have e:(aJq d (aGs d d.N.toNat)).2.length<=([]:List Edge).length+11 * 41:=this
 simpa using e
theorem aOs (hd:aGt d) (hf:aBX 999999999 d) (h0:d.I=0):∃ xs b,qV d.I (aGs d d.N.toNat) d=some (aJr d,xs,b):=by
 have hp:=blk_ok hd.1
 obtain ⟨hok,h11⟩:=aLs hd.1
 have hin0:inS d 0:=by have:=hd.1.1;unfold inS;omega
 have hl440:=finM_len hd.1
 obtain ⟨f1,f2,f3,f4⟩:=aKT (p:=aGs d d.N.toNat) hd.1
 have o1:=aMX hd hp 41 0 ([0],[]) (by simp) (by omega) (by simp) (fun s hs=>by simp at hs;subst hs;exact hin0) (by simp)
 have hflen:(aJq d (aGs d d.N.toNat)).1.length<=40:=aJK hd.1 hp.len hp.bnd f1 f2
 have hf0:=aMW hp (F:=[]) (by simp) hin0 (by simp) []
 have e0:aIu (kB (aGs d d.N.toNat)) ([]:List Int) 0=[0]:=rfl
 rw [e0] at hf0
 unfold qV
 rw [h0,show gQ [] ([]:List (bD × Int)) [] (aGs d d.N.toNat) 0=_ from hf0,wN]
 simp only
 rw [show loop (fun x:List Int × List (bD × Int) × List gV × Int=>lS (aGs d d.N.toNat) d x.1 x.2.1 x.2.2.1 x.2.2.2) ([0],mq 0 ([0].map (kT (aGs d d.N.toNat))),[],0)=_ from o1,wN]
 show ∃ xs b,jC (aJq d (aGs d d.N.toNat)).1 (mq 0 ((aJq d (aGs d d.N.toNat)).1.map (kT (aGs d d.N.toNat)))) ((aJq d (aGs d d.N.toNat)).2.map (aGS d.L.tail))=_
 unfold jC
 rw [aLV (by simp;omega),wN,aMG hok h11 f3 (fun e he=>(f4 e he).2.1) (by omega),wN]
 unfold lR
 rw [show (⟨(aHP d.L.tail (aJq d (aGs d d.N.toNat)).1.length (aJq d (aGs d d.N.toNat)).2).N,(aHP d.L.tail (aJq d (aGs d d.N.toNat)).1.length (aJq d (aGs d d.N.toNat)).2).I,(aHP d.L.tail (aJq d (aGs d d.N.toNat)).1.length (aJq d (aGs d d.N.toNat)).2).L,(aHP d.L.tail (aJq d (aGs d d.N.toNat)).1.length (aJq d (aGs d d.N.toNat)).2).E⟩:cO)=aJr d from rfl]
 rw [aJa (aJr d) (aLZ hd.1 hf (by omega)),wN]
 exact ⟨_,_,rfl⟩
theorem cn_rep:∀ n:Nat,cn (List.replicate n (0:Int))=List.replicate n 0:=by
 intro n
 refine List.ext_getElem? fun i=>?_
 by_cases hi:i < n
 ·rw [aKF (by simpa using hi),List.getElem_replicate,List.getElem?_replicate,if_pos hi]
  have hdd:∀ m,dd (List.replicate (m+1) (0:Int))=[0]:=by
   intro m
   induction m with
   |zero=>rfl
   |succ m ih=>rw [List.replicate_succ',aJO,ih];rfl
  obtain ⟨m,rfl⟩:∃ m,n=m+1:=⟨n - 1,by omega⟩
  rw [hdd];rfl
 ·rw [List.getElem?_eq_none (by rw [aIL,List.length_replicate];omega),List.getElem?_eq_none (by rw [List.length_replicate];omega)]
theorem aQw (hd:aGt d) (hf:aBX 999999999 d) (h0:d.I=0):aAO d=some (aJr d):=by
 have h40:=hd.1.1
 have hmk:=aLC (n:=d.N.toNat) (0:Int) (by unfold lim;omega)
 rw [show ((d.N.toNat:Nat):Int)=d.N by omega] at hmk
 obtain ⟨xs,b,hx⟩:=aOs hd hf h0
 unfold aAO
 rw [hmk,wN]
 unfold qW
 rw [aNM _ (by rw [List.length_replicate];omega),wN,cn_rep,aPc hd,wN]
 unfold jE
 rw [hx,wN,wN]
 rfl
end
end Gv
