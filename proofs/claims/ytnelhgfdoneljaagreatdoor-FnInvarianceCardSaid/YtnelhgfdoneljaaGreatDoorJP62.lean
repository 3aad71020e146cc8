/- Blocks, numbered in the order of their first members. -/
import Derived.Test.YtnelhgfdoneljaaGreatDoorJP50
set_option linter.all false
namespace Gv
open Go
section
variable {κ:Type} [DecidableEq κ] [BEq κ] [LawfulBEq κ]
def dd (l:List κ):List κ:=l.foldl (aBP id) []
def cn (l:List κ):List Int:=l.map (pos (dd l))
theorem aFo (l:List κ) (x:κ):dd (l++[x])=aBP id (dd l) x:=by unfold dd;rw [List.foldl_append];rfl
theorem insK_in {F:List κ} {x y:κ}:y∈aBP id F x<->y∈F\/y=x:=by
 unfold aBP
 rw [List.map_id]
 by_cases h:x∈F
 ·rw [if_pos (show id x∈F from h)]
  exact ⟨.inl,fun h'=>h'.elim id fun e=>e ▸ h⟩
 ·rw [if_neg (show ¬ id x∈F from h)];simp
theorem yC {y:κ}:∀ {l:List κ},y∈dd l<->y∈l:=by
 intro l
 have key:∀ (l F:List κ),y∈l.foldl (aBP id) F<->y∈F\/y∈l:=by
  intro l
  induction l with
  |nil=>intro F;simp
  |cons x l ih=>intro F;rw [List.foldl_cons,ih,insK_in,List.mem_cons,or_assoc]
 unfold dd
 rw [key];simp
theorem aJk (F:List κ) (x:κ):atK id F x=if x∈F then pos F x else (F.length:Int):=by unfold atK;rw [List.map_id];rfl
theorem aIk (l:List κ) (x:κ):cn (l++[x])=cn l++[atK id (dd l) x]:=by
 unfold cn
 rw [aFo,List.map_append]
 congr 1
 ·refine List.map_congr_left fun y hy=>?_
  exact aKR (aLZ (key:=id) (dd l) x) (yC.2 hy)
 ·simp only [List.map_cons,List.map_nil]
  rw [aJk]
  unfold aBP
  rw [List.map_id]
  by_cases h:x∈dd l
  ·rw [if_pos (show id x∈dd l from h),if_pos h]
  ·rw [if_neg (show ¬ id x∈dd l from h),if_neg h,aLW h]
theorem yD (l:List κ):(cn l).length=l.length:=by unfold cn;rw [List.length_map]
theorem aHy {l:List κ} {i:Nat} (h:i < l.length):(cn l)[i]?=some (pos (dd l) l[i]):=by unfold cn;rw [List.getElem?_map,List.getElem?_eq_getElem h];rfl
theorem cn_in {l:List κ} {z:Int} (h:z∈cn l):0<=z/\z < l.length:=by
 unfold cn at h
 obtain ⟨x,hx,rfl⟩:=List.mem_map.1 h
 obtain ⟨i,hi,e,_⟩:=uU (yC.2 hx)
 have:(dd l).length<=l.length:=by
  have key:∀ (l F:List κ),(l.foldl (aBP id) F).length<=F.length+l.length:=by
   intro l
   induction l with
   |nil=>intro F;simp
   |cons x l ih=>
    intro F
    rw [List.foldl_cons,List.length_cons]
    have h1:=ih (aBP id F x)
    have h2:=aMa (key:=id) F x
    omega
  have:=key l []
  simpa [dd] using this
 omega
def Ker {κ':Type} (l:List κ) (l':List κ'):Prop:=l.length=l'.length/\∀ i j:Nat,i < l.length->j < l.length->(l[i]?=l[j]?<->l'[i]?=l'[j]?)
theorem cn_ker (l:List κ):Ker (cn l) l:=by
 refine ⟨yD l,fun i j hi hj=>?_⟩
 rw [yD] at hi hj
 rw [aHy hi,aHy hj,List.getElem?_eq_getElem hi,List.getElem?_eq_getElem hj]
 constructor
 ·intro h
  obtain ⟨a,ha,e1,e2⟩:=uU (yC.2 (List.getElem_mem hi))
  obtain ⟨b,hb,e3,e4⟩:=uU (yC.2 (List.getElem_mem hj))
  have h':=Option.some.inj h
  have:a=b:=by omega
  subst this
  rw [←e2,e4]
 ·intro h
  rw [Option.some.inj h]
end
section
variable {κ κ':Type} [DecidableEq κ] [BEq κ] [LawfulBEq κ] [DecidableEq κ'] [BEq κ'] [LawfulBEq κ']
theorem Ker.take {l:List κ} {l':List κ'} (h:Ker l l') (n:Nat):Ker (l.take n) (l'.take n):=by
 refine ⟨by rw [List.length_take,List.length_take,h.1],fun i j hi hj=>?_⟩
 rw [List.length_take] at hi hj
 rw [List.getElem?_take_of_lt (by omega),List.getElem?_take_of_lt (by omega),List.getElem?_take_of_lt (by omega),List.getElem?_take_of_lt (by omega)]
 exact h.2 i j (by omega) (by omega)
theorem aJl {l:List κ} {l':List κ'} (h:Ker l l'):cn l=cn l':=by
 have key:∀ n,n<=l.length->cn (l.take n)=cn (l'.take n)/\(dd (l.take n)).length=(dd (l'.take n)).length:=by
  intro n
  induction n with
  |zero=>intro _;exact ⟨rfl,rfl⟩
  |succ n ih=>
   intro hn
   obtain ⟨i1,i2⟩:=ih (by omega)
   have hn':n < l'.length:=by rw [←h.1];omega
   have t1:l.take (n+1)=l.take n++[l[n]]:=by rw [List.take_add_one,List.getElem?_eq_getElem (by omega)];rfl
   have t2:l'.take (n+1)=l'.take n++[l'[n]]:=by rw [List.take_add_one,List.getElem?_eq_getElem hn'];rfl
   have hiff:∀ k,k < n->(l[k]?=l[n]?<->l'[k]?=l'[n]?):=fun k hk=>h.2 k n (by omega) (by omega)
   have hg1:l[n]?=some l[n]:=List.getElem?_eq_getElem (by omega)
   have hg2:l'[n]?=some l'[n]:=List.getElem?_eq_getElem hn'
   have hmem:l[n]∈dd (l.take n)<->l'[n]∈dd (l'.take n):=by
    rw [yC,yC]
    constructor
    ·intro hm
     obtain ⟨k,hk,e⟩:=List.mem_iff_getElem.1 hm
     rw [List.length_take] at hk
     rw [List.getElem_take] at e
     have:=(hiff k (by omega)).1 (by rw [List.getElem?_eq_getElem (by omega),hg1,e])
     rw [hg2] at this
     obtain ⟨hk2,e2⟩:=List.getElem?_eq_some_iff.1 this
     rw [←e2]
     exact List.mem_iff_getElem.2 ⟨k,by rw [List.length_take];omega,by rw [List.getElem_take]⟩
    ·intro hm
     obtain ⟨k,hk,e⟩:=List.mem_iff_getElem.1 hm
     rw [List.length_take] at hk
     rw [List.getElem_take] at e
     have:=(hiff k (by omega)).2 (by rw [List.getElem?_eq_getElem (by omega),hg2,e])
     rw [hg1] at this
     obtain ⟨hk2,e2⟩:=List.getElem?_eq_some_iff.1 this
     rw [←e2]
     exact List.mem_iff_getElem.2 ⟨k,by rw [List.length_take];omega,by rw [List.getElem_take]⟩
   have hat:atK id (dd (l.take n)) l[n]=atK id (dd (l'.take n)) l'[n]:=by
    rw [aJk,aJk]
    by_cases hm:l[n]∈dd (l.take n)
    ·rw [if_pos hm,if_pos (hmem.1 hm)]
     obtain ⟨k,hk,e⟩:=List.mem_iff_getElem.1 (yC.1 hm)
     rw [List.length_take] at hk
     rw [List.getElem_take] at e
     have h3:=(hiff k (by omega)).1 (by rw [List.getElem?_eq_getElem (by omega),hg1,e])
     rw [hg2] at h3
     obtain ⟨hk2,e2⟩:=List.getElem?_eq_some_iff.1 h3
     have c1:=aHy (l:=l.take n) (i:=k) (by rw [List.length_take];omega)
     have c2:=aHy (l:=l'.take n) (i:=k) (by rw [List.length_take];omega)
     rw [List.getElem_take] at c1 c2
     rw [e] at c1
     rw [e2] at c2
     rw [i1,c2] at c1
     exact (Option.some.inj c1).symm
    ·rw [if_neg hm,if_neg (fun h=>hm (hmem.2 h)),i2]
   rw [t1,t2,aIk,aIk,aFo,aFo,i1,hat]
   refine ⟨rfl,?_⟩
   unfold aBP
   rw [List.map_id,List.map_id]
   by_cases hm:l[n]∈dd (l.take n)
   ·rw [if_pos (show id l[n]∈_ from hm),if_pos (show id l'[n]∈_ from hmem.1 hm),i2]
   ·rw [if_neg (show ¬ id l[n]∈_ from hm),if_neg (show ¬ id l'[n]∈_ from fun h=>hm (hmem.2 h)),List.length_append,List.length_append,i2];rfl
 have:=(key l.length (Nat.le_refl _)).1
 rwa [List.take_length,h.1,List.take_length] at this
end
theorem mq_len {κ:Type}:∀ (k:Nat) (l:List κ),(mq k l).length=l.length
 |_,[]=>rfl
 |k,x::l=>by rw [mq,List.length_cons,List.length_cons,mq_len (k+1) l]
theorem cn_set {l:List Int} {k:Nat} (hk:k < l.length):(cn (l.take k)++List.replicate (l.length - k) 0).set k (atK id (dd (l.take k)) l[k])=cn (l.take (k+1))++List.replicate (l.length - (k+1)) 0:=by
 have hl:(cn (l.take k)).length=k:=by rw [yD,List.length_take];omega
 have t1:l.take (k+1)=l.take k++[l[k]]:=by rw [List.take_add_one,List.getElem?_eq_getElem hk];rfl
 rw [List.set_append_right _ _ (by omega),hl,Nat.sub_self,t1,aIk,show l.length - k=(l.length - (k+1))+1 by omega,List.replicate_succ,List.set_cons_zero,List.append_assoc];rfl
theorem normal_eq (l:List Int) (h:l.length < 1000000):aED l=some (cn l):=by
 unfold aED
 rw [xZ 0 (by unfold gQ;omega),aA]
 have key:=bZ (step:=fun s:List (Int × Int) × List Int × Int=>pH l s.1 s.2.1 s.2.2) l.length (fun k (s:List (Int × Int) × List Int)=>(s.1,s.2,(k:Int)))
  (fun k s=>s=(mq 0 (dd (l.take k)),cn (l.take k)++List.replicate (l.length - k) 0)) (fun r=>r=cn l) (fun k s hk hI=>?_) (fun s hI=>?_) l.length 0 ([],List.replicate l.length 0) (by omega) rfl
 ·obtain ⟨r,h1,rfl⟩:=key
  rw [show loop (fun s:List (Int × Int) × List Int × Int=>pH l s.1 s.2.1 s.2.2) ([],List.replicate l.length 0,0)=some (cn l) from h1];rfl
 ·subst hI
  have hset:=cn_set hk
  have hol:(cn (l.take k)++List.replicate (l.length - k) 0).length=l.length:=by rw [List.length_append,yD,List.length_take,List.length_replicate];omega
  have t1:l.take (k+1)=l.take k++[l[k]]:=by rw [List.take_add_one,List.getElem?_eq_getElem hk];rfl
  refine ⟨_,?_,rfl⟩
  show pH l (mq 0 (dd (l.take k))) (cn (l.take k)++List.replicate (l.length - k) 0) (k:Int)=_
  unfold pH zO
  rw [if_pos (bU hk),bK hk,aA,mq_len,bK (by rw [hol];exact hk),aA,aA,oD _ (by rw [hol];exact hk),oD _ (by rw [hol];exact hk),aA,aA,bI hk (by omega),←hset,aJk,t1,aFo]
  unfold aBP
  rw [List.map_id]
  by_cases hm:l[k]∈dd (l.take k)
  ·rw [mget_in hm,if_neg (by simp),if_pos hm,if_pos (show id l[k]∈_ from hm)];rfl
  ·have hp:=mput_mq (k:=0) hm
   rw [Nat.zero_add] at hp
   rw [mget_out hm,if_pos (by simp),if_neg hm,if_neg (show ¬ id l[k]∈_ from hm),hp]
 ·subst hI
  refine ⟨_,?_,rfl⟩
  show pH l _ _ (l.length:Int)=_
  unfold pH
  rw [if_neg (by simp),List.take_length,Nat.sub_self]
  simp
end Gv
namespace Gv
open Go
section
variable {κ:Type} [DecidableEq κ] [BEq κ] [LawfulBEq κ]
def fi (K:List κ):List Int:=K.map (pos K)
theorem fi_ker (K:List κ):Ker (fi K) K:=by
 refine ⟨by unfold fi;rw [List.length_map],fun i j hi hj=>?_⟩
 unfold fi at hi hj ⊢
 rw [List.length_map] at hi hj
 rw [List.getElem?_map,List.getElem?_map,List.getElem?_eq_getElem hi,List.getElem?_eq_getElem hj]
 simp only [Option.map_some,Option.some.injEq]
 constructor
 ·intro h
  obtain ⟨a,ha,e1,e2⟩:=uU (List.getElem_mem hi)
  obtain ⟨b,hb,e3,e4⟩:=uU (List.getElem_mem hj)
  have:a=b:=by omega
  subst this
  rw [←e2,e4]
 ·intro h;rw [h]
theorem cn_fi (K:List κ):cn (fi K)=cn K:=aJl (fi_ker K)
theorem fi_len (K:List κ):(fi K).length=K.length:=by unfold fi;rw [List.length_map]
theorem pos_take {K:List κ} {k:Nat} (hk:k < K.length):pos K K[k]=if K[k]∈K.take k then pos (K.take k) K[k] else (k:Int):=by
 by_cases h:K[k]∈K.take k
 ·rw [if_pos h];exact aKR (List.take_prefix k K) h
 ·rw [if_neg h]
  obtain ⟨j,hj,e1,e2⟩:=uU (List.getElem_mem hk)
  have hjk:¬ j < k:=fun hlt=>h (e2 ▸ List.mem_iff_getElem.2 ⟨j,by rw [List.length_take];omega,by rw [List.getElem_take]⟩)
  have ht:K.take (k+1)=K.take k++[K[k]]:=by rw [List.take_add_one,List.getElem?_eq_getElem hk];rfl
  have h2:=aKR (a:=K.take k++[K[k]]) (b:=K) (by rw [←ht];exact List.take_prefix _ _) (q:=K[k]) (List.mem_append_right _ (List.mem_singleton.2 rfl))
  rw [h2,aLW h,List.length_take]
  omega
end
theorem aKn (a b:List Int) (h:a.length < 4611686018427387904):dR a b=some (decide (a=b)):=by
 unfold dR
 by_cases hl:a.length=b.length
 ·rw [if_neg (by simp [hl])]
  have:=aIL (step:=fun s=>fG a b s) (a.zip b) (fun p=>decide (p.1=p.2)) (.inr false) (.inl ()) (fun k x hk hx=>?_) ?_
  ·rw [this,aA]
   by_cases he:a=b
   ·subst he
    have:((a.zip a).all fun p=>decide (p.1=p.2))=true:=by
     rw [List.all_eq_true]
     intro p hp
     obtain ⟨i,hi,rfl⟩:=List.mem_iff_getElem.1 hp
     rw [List.getElem_zip];simp
    rw [if_pos this,decide_eq_true rfl];rfl
   ·have:¬ ((a.zip b).all fun p=>decide (p.1=p.2))=true:=fun h'=>he (List.ext_getElem hl fun i h1 h2=>by
     rw [List.all_eq_true] at h'
     have hiz:i < (a.zip b).length:=by rw [List.length_zip];omega
     have:=h' (a.zip b)[i] (List.getElem_mem hiz)
     rw [List.getElem_zip] at this
     simpa using this)
    rw [if_neg this,decide_eq_false he]
  ·have hzl:(a.zip b).length=a.length:=by rw [List.length_zip];omega
   rw [hzl] at hk
   obtain ⟨hk',rfl⟩:=aGb hx
   unfold fG
   rw [if_pos (bU hk),bK hk,aA,bK (by omega),aA,List.getElem_zip]
   by_cases e:a[k]=b[k]'(by omega)
   ·rw [if_neg (by simp [e]),if_pos (by simp [e]),bI hk h]
   ·rw [if_pos (by simpa using e),if_neg (by simpa using e)]
  ·have hzl:(a.zip b).length=a.length:=by rw [List.length_zip];omega
   rw [hzl]
   unfold fG
   rw [if_neg (by simp)]
 ·rw [if_pos (by simp;omega),decide_eq_false (fun h=>hl (by rw [h]))]
theorem IndexRows (xs:List (List Int)) (v:List Int) (h:xs.length < 4611686018427387904) (h2:∀ x∈xs,x.length < 1000000):cX xs v=some (pos xs v):=by
 unfold cX pos
 rw [aAW (step:=fun s=>bW xs v s) xs (fun x=>v == x) (fun k x hk hx=>?_) (by show bW xs v (xs.length:Int)=_;unfold bW;rw [if_neg (by simp)]),aA]
 ·cases xs.findIdx? (fun x=>v == x)<;>rfl
 ·obtain ⟨hk',rfl⟩:=aGb hx
  have hl:=h2 _ (List.getElem_mem hk')
  show bW xs v (k:Int)=_
  unfold bW aAo
  rw [if_pos (bU hk),hx,aA,aKn _ _ (by omega),aA,aA,bI hk h]
  by_cases e:xs[k]=v
  ·rw [decide_eq_true e,if_pos rfl,if_pos (by simp [e])]
  ·rw [decide_eq_false e,if_neg (by simp),if_neg (by simp;exact fun h=>e h.symm)]
theorem aJN (keys:List (List Int)) (h:keys.length < 1000000) (h2:∀ x∈keys,x.length < 1000000):wK keys=some (cn keys):=by
 unfold wK
 have key:=bZ (step:=fun s:List Int × Int=>iZ keys s.1 s.2) keys.length (fun k (o:List Int)=>(o,(k:Int))) (fun k o=>o=(fi keys).take k) (fun r=>r=fi keys) (fun k o hk hI=>?_) (fun o hI=>?_) keys.length 0 [] (by omega) (by simp)
 ·obtain ⟨r,h1,rfl⟩:=key
  rw [show loop (fun s:List Int × Int=>iZ keys s.1 s.2) ([],0)=some (fi keys) from h1,aA]
  unfold aAp
  rw [normal_eq _ (by rw [fi_len];exact h),aA,cn_fi]
 ·subst hI
  have hg:(fi keys)[k]?=some (pos keys keys[k]):=by unfold fi;rw [List.getElem?_map,List.getElem?_eq_getElem hk];rfl
  have hol:((fi keys).take k).length=k:=by rw [List.length_take,fi_len];omega
  refine ⟨_,?_,rfl⟩
  show iZ keys ((fi keys).take k) (k:Int)=_
  unfold iZ uN
  rw [if_pos (bU hk),bK hk,aA,slc_to (by omega),aA,IndexRows _ _ (by rw [List.length_take];omega) (fun x hx=>h2 x (List.mem_of_mem_take hx)),aA,List.take_add_one,hg,pos_take hk]
  have hap:∀ z:Int,qH ((fi keys).take k) [z]=some ((fi keys).take k++[z]):=fun z=>cE (by rw [hol];simp [gQ];omega)
  by_cases hm:keys[k]∈keys.take k
  ·rw [if_neg (by have:=aAR.2 hm;simpa using this),hap,aA,if_pos hm,bI hk (by omega)];rfl
  ·rw [if_pos (by have:¬ 0<=pos (keys.take k) keys[k]:=fun h=>hm (aAR.1 h);simpa using this),hap,aA,if_neg hm,bI hk (by omega)];rfl
 ·subst hI
  refine ⟨(fi keys).take keys.length,?_,by rw [←fi_len keys,List.take_length]⟩
  show iZ keys _ (keys.length:Int)=_
  unfold iZ
  rw [if_neg (by simp)]
end Gv
namespace Gv
open Go
def bl (p:List Int) (g:Int):Int:=if g < 0 then -1 else p.getD g.toNat 0
section
variable {d:bQ}
end
end Gv
namespace Gv
open Go
section
variable {d:bQ}
def oB (p:List Int) (n:Nat):List Nat:=(List.range n).filter fun i=>decide (∀ k,k < i->p[k]?≠p[i]?)
end
end Gv
