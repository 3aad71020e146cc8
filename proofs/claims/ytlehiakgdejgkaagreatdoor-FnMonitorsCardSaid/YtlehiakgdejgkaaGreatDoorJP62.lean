/- Blocks, numbered in the order of their first members. -/
import Derived.Test.YtlehiakgdejgkaaGreatDoorJP50
set_option linter.all false
namespace Gv
open Go
section
variable {κ:Type} [DecidableEq κ] [BEq κ] [LawfulBEq κ]
def dd (l:List κ):List κ:=l.foldl (tF id) []
def cn (l:List κ):List Int:=l.map (pos (dd l))
theorem aMh (l:List κ) (x:κ):dd (l++[x])=tF id (dd l) x:=by unfold dd;rw [List.foldl_append];rfl
theorem insK_in {F:List κ} {x y:κ}:y∈tF id F x<->y∈F\/y=x:=by
 unfold tF
 rw [List.map_id]
 by_cases h:x∈F
 ·rw [if_pos (show id x∈F from h)]
  exact ⟨.inl,fun h'=>h'.elim id fun e=>e ▸ h⟩
 ·rw [if_neg (show ¬ id x∈F from h)];simp
theorem aJJ {y:κ}:∀ {l:List κ},y∈dd l<->y∈l:=by
 intro l
 have key:∀ (l F:List κ),y∈l.foldl (tF id) F<->y∈F\/y∈l:=by
  intro l
  induction l with
  |nil=>intro F;simp
  |cons x l ih=>intro F;rw [List.foldl_cons,ih,insK_in,List.mem_cons,or_assoc]
 unfold dd
 rw [key];simp
theorem aPJ (F:List κ) (x:κ):atK id F x=if x∈F then pos F x else (F.length:Int):=by unfold atK;rw [List.map_id];rfl
theorem aPK (l:List κ) (x:κ):cn (l++[x])=cn l++[atK id (dd l) x]:=by
 unfold cn
 rw [aMh,List.map_append]
 congr 1
 ·refine List.map_congr_left fun y hy=>?_
  exact aIO (aGx (key:=id) (dd l) x) (aJJ.2 hy)
 ·simp only [List.map_cons,List.map_nil]
  rw [aPJ]
  unfold tF
  rw [List.map_id]
  by_cases h:x∈dd l
  ·rw [if_pos (show id x∈dd l from h),if_pos h]
  ·rw [if_neg (show ¬ id x∈dd l from h),if_neg h,aNq h]
theorem aEO (l:List κ):(cn l).length=l.length:=by unfold cn;rw [List.length_map]
theorem aPL {l:List κ} {i:Nat} (h:i < l.length):(cn l)[i]?=some (pos (dd l) l[i]):=by unfold cn;rw [List.getElem?_map,List.getElem?_eq_getElem h];rfl
theorem cn_in {l:List κ} {z:Int} (h:z∈cn l):0<=z/\z < l.length:=by
 unfold cn at h
 obtain ⟨x,hx,rfl⟩:=List.mem_map.1 h
 obtain ⟨i,hi,e,_⟩:=kZ (aJJ.2 hx)
 have:(dd l).length<=l.length:=by
  have key:∀ (l F:List κ),(l.foldl (tF id) F).length<=F.length+l.length:=by
   intro l
   induction l with
   |nil=>intro F;simp
   |cons x l ih=>
    intro F
    rw [List.foldl_cons,List.length_cons]
    have h1:=ih (tF id F x)
    have h2:=aIm (key:=id) F x
    omega
  have:=key l []
  simpa [dd] using this
 omega
def Ker {κ':Type} (l:List κ) (l':List κ'):Prop:=l.length=l'.length/\∀ i j:Nat,i < l.length->j < l.length->(l[i]?=l[j]?<->l'[i]?=l'[j]?)
theorem aNC (l:List κ):Ker (cn l) l:=by
 refine ⟨aEO l,fun i j hi hj=>?_⟩
 rw [aEO] at hi hj
 rw [aPL hi,aPL hj,List.getElem?_eq_getElem hi,List.getElem?_eq_getElem hj]
 constructor
 ·intro h
  obtain ⟨a,ha,e1,e2⟩:=kZ (aJJ.2 (List.getElem_mem hi))
  obtain ⟨b,hb,e3,e4⟩:=kZ (aJJ.2 (List.getElem_mem hj))
  have h':=Option.some.inj h
  have:a=b:=by omega
  subst this
  rw [←e2,e4]
 ·intro h
  rw [Option.some.inj h]
end
section
variable {κ κ':Type} [DecidableEq κ] [BEq κ] [LawfulBEq κ] [DecidableEq κ'] [BEq κ'] [LawfulBEq κ']
theorem Ker.take {l:List κ} {l':List κ'} (h:Ker l l') (n:Nat):Ker (l.take n) (l'.take n):=by
 refine ⟨by rw [List.length_take,List.length_take,h.1],fun i j hi hj=>?_⟩
 rw [List.length_take] at hi hj
 rw [List.getElem?_take_of_lt (by omega),List.getElem?_take_of_lt (by omega),List.getElem?_take_of_lt (by omega),List.getElem?_take_of_lt (by omega)]
 exact h.2 i j (by omega) (by omega)
theorem aIp {l:List κ} {l':List κ'} (h:Ker l l'):cn l=cn l':=by
 have key:∀ n,n<=l.length->cn (l.take n)=cn (l'.take n)/\(dd (l.take n)).length=(dd (l'.take n)).length:=by
  intro n
  induction n with
  |zero=>intro _;exact ⟨rfl,rfl⟩
  |succ n ih=>
   intro hn
   obtain ⟨i1,i2⟩:=ih (by omega)
   have hn':n < l'.length:=by rw [←h.1];omega
   have t1:l.take (n+1)=l.take n++[l[n]]:=by rw [List.take_add_one,List.getElem?_eq_getElem (by omega)];rfl
   have t2:l'.take (n+1)=l'.take n++[l'[n]]:=by rw [List.take_add_one,List.getElem?_eq_getElem hn'];rfl
   have hiff:∀ k,k < n->(l[k]?=l[n]?<->l'[k]?=l'[n]?):=fun k hk=>h.2 k n (by omega) (by omega)
   have hg1:l[n]?=some l[n]:=List.getElem?_eq_getElem (by omega)
   have hg2:l'[n]?=some l'[n]:=List.getElem?_eq_getElem hn'
   have hmem:l[n]∈dd (l.take n)<->l'[n]∈dd (l'.take n):=by
    rw [aJJ,aJJ]
    constructor
    ·intro hm
     obtain ⟨k,hk,e⟩:=List.mem_iff_getElem.1 hm
     rw [List.length_take] at hk
     rw [List.getElem_take] at e
     have:=(hiff k (by omega)).1 (by rw [List.getElem?_eq_getElem (by omega),hg1,e])
     rw [hg2] at this
     obtain ⟨hk2,e2⟩:=List.getElem?_eq_some_iff.1 this
     rw [←e2]
     exact List.mem_iff_getElem.2 ⟨k,by rw [List.length_take];omega,by rw [List.getElem_take]⟩
    ·intro hm
     obtain ⟨k,hk,e⟩:=List.mem_iff_getElem.1 hm
     rw [List.length_take] at hk
     rw [List.getElem_take] at e
     have:=(hiff k (by omega)).2 (by rw [List.getElem?_eq_getElem (by omega),hg2,e])
     rw [hg1] at this
     obtain ⟨hk2,e2⟩:=List.getElem?_eq_some_iff.1 this
     rw [←e2]
     exact List.mem_iff_getElem.2 ⟨k,by rw [List.length_take];omega,by rw [List.getElem_take]⟩
   have hat:atK id (dd (l.take n)) l[n]=atK id (dd (l'.take n)) l'[n]:=by
    rw [aPJ,aPJ]
    by_cases hm:l[n]∈dd (l.take n)
    ·rw [if_pos hm,if_pos (hmem.1 hm)]
     obtain ⟨k,hk,e⟩:=List.mem_iff_getElem.1 (aJJ.1 hm)
     rw [List.length_take] at hk
     rw [List.getElem_take] at e
     have h3:=(hiff k (by omega)).1 (by rw [List.getElem?_eq_getElem (by omega),hg1,e])
     rw [hg2] at h3
     obtain ⟨hk2,e2⟩:=List.getElem?_eq_some_iff.1 h3
     have c1:=aPL (l:=l.take n) (i:=k) (by rw [List.length_take];omega)
     have c2:=aPL (l:=l'.take n) (i:=k) (by rw [List.length_take];omega)
     rw [List.getElem_take] at c1 c2
     rw [e] at c1
     rw [e2] at c2
     rw [i1,c2] at c1
     exact (Option.some.inj c1).symm
    ·rw [if_neg hm,if_neg (fun h=>hm (hmem.2 h)),i2]
   rw [t1,t2,aPK,aPK,aMh,aMh,i1,hat]
   refine ⟨rfl,?_⟩
   unfold tF
   rw [List.map_id,List.map_id]
   by_cases hm:l[n]∈dd (l.take n)
   ·rw [if_pos (show id l[n]∈_ from hm),if_pos (show id l'[n]∈_ from hmem.1 hm),i2]
   ·rw [if_neg (show ¬ id l[n]∈_ from hm),if_neg (show ¬ id l'[n]∈_ from fun h=>hm (hmem.2 h)),List.length_append,List.length_append,i2];rfl
 have:=(key l.length (Nat.le_refl _)).1
 rwa [List.take_length,h.1,List.take_length] at this
end
theorem mq_len {κ:Type}:∀ (k:Nat) (l:List κ),(mq k l).length=l.length
 |_,[]=>rfl
 |k,x::l=>by rw [mq,List.length_cons,List.length_cons,mq_len (k+1) l]
theorem cn_set {l:List Int} {k:Nat} (hk:k < l.length):(cn (l.take k)++List.replicate (l.length - k) 0).set k (atK id (dd (l.take k)) l[k])=cn (l.take (k+1))++List.replicate (l.length - (k+1)) 0:=by
 have hl:(cn (l.take k)).length=k:=by rw [aEO,List.length_take];omega
 have t1:l.take (k+1)=l.take k++[l[k]]:=by rw [List.take_add_one,List.getElem?_eq_getElem hk];rfl
 rw [List.set_append_right _ _ (by omega),hl,Nat.sub_self,t1,aPK,show l.length - k=(l.length - (k+1))+1 by omega,List.replicate_succ,List.set_cons_zero,List.append_assoc];rfl
theorem aOD (l:List Int) (h:l.length < 1000000):aGp l=some (cn l):=by
 unfold aGp
 rw [aGV 0 (by unfold jL;omega),aA]
 have key:=eP (step:=fun s:List (Int × Int) × List Int × Int=>tJ l s.1 s.2.1 s.2.2) l.length (fun k (s:List (Int × Int) × List Int)=>(s.1,s.2,(k:Int)))
  (fun k s=>s=(mq 0 (dd (l.take k)),cn (l.take k)++List.replicate (l.length - k) 0)) (fun r=>r=cn l) (fun k s hk hI=>?_) (fun s hI=>?_) l.length 0 ([],List.replicate l.length 0) (by omega) rfl
 ·obtain ⟨r,h1,rfl⟩:=key
  rw [show loop (fun s:List (Int × Int) × List Int × Int=>tJ l s.1 s.2.1 s.2.2) ([],List.replicate l.length 0,0)=some (cn l) from h1];rfl
 ·subst hI
  have hset:=cn_set hk
  have hol:(cn (l.take k)++List.replicate (l.length - k) 0).length=l.length:=by rw [List.length_append,aEO,List.length_take,List.length_replicate];omega
  have t1:l.take (k+1)=l.take k++[l[k]]:=by rw [List.take_add_one,List.getElem?_eq_getElem hk];rfl
  refine ⟨_,?_,rfl⟩
  show tJ l (mq 0 (dd (l.take k))) (cn (l.take k)++List.replicate (l.length - k) 0) (k:Int)=_
  unfold tJ aCJ
  rw [if_pos (bF hk),bK hk,aA,mq_len,bK (by rw [hol];exact hk),aA,aA,yL _ (by rw [hol];exact hk),yL _ (by rw [hol];exact hk),aA,aA,aV hk (by omega),←hset,aPJ,t1,aMh]
  unfold tF
  rw [List.map_id]
  by_cases hm:l[k]∈dd (l.take k)
  ·rw [aMf hm,if_neg (by simp),if_pos hm,if_pos (show id l[k]∈_ from hm)];rfl
  ·have hp:=aKw (k:=0) hm
   rw [Nat.zero_add] at hp
   rw [aKx hm,if_pos (by simp),if_neg hm,if_neg (show ¬ id l[k]∈_ from hm),hp]
 ·subst hI
  refine ⟨_,?_,rfl⟩
  show tJ l _ _ (l.length:Int)=_
  unfold tJ
  rw [if_neg (by simp),List.take_length,Nat.sub_self]
  simp
end Gv
namespace Gv
open Go
section
variable {κ:Type} [DecidableEq κ] [BEq κ] [LawfulBEq κ]
def fi (K:List κ):List Int:=K.map (pos K)
theorem fi_ker (K:List κ):Ker (fi K) K:=by
 refine ⟨by unfold fi;rw [List.length_map],fun i j hi hj=>?_⟩
 unfold fi at hi hj ⊢
 rw [List.length_map] at hi hj
 rw [List.getElem?_map,List.getElem?_map,List.getElem?_eq_getElem hi,List.getElem?_eq_getElem hj]
 simp only [Option.map_some,Option.some.injEq]
 constructor
 ·intro h
  obtain ⟨a,ha,e1,e2⟩:=kZ (List.getElem_mem hi)
  obtain ⟨b,hb,e3,e4⟩:=kZ (List.getElem_mem hj)
  have:a=b:=by omega
  subst this
  rw [←e2,e4]
 ·intro h;rw [h]
theorem cn_fi (K:List κ):cn (fi K)=cn K:=aIp (fi_ker K)
theorem fi_len (K:List κ):(fi K).length=K.length:=by unfold fi;rw [List.length_map]
theorem pos_take {K:List κ} {k:Nat} (hk:k < K.length):pos K K[k]=if K[k]∈K.take k then pos (K.take k) K[k] else (k:Int):=by
 by_cases h:K[k]∈K.take k
 ·rw [if_pos h];exact aIO (List.take_prefix k K) h
 ·rw [if_neg h]
  obtain ⟨j,hj,e1,e2⟩:=kZ (List.getElem_mem hk)
  have hjk:¬ j < k:=fun hlt=>h (e2 ▸ List.mem_iff_getElem.2 ⟨j,by rw [List.length_take];omega,by rw [List.getElem_take]⟩)
  have ht:K.take (k+1)=K.take k++[K[k]]:=by rw [List.take_add_one,List.getElem?_eq_getElem hk];rfl
  have h2:=aIO (a:=K.take k++[K[k]]) (b:=K) (by rw [←ht];exact List.take_prefix _ _) (q:=K[k]) (List.mem_append_right _ (List.mem_singleton.2 rfl))
  rw [h2,aNq h,List.length_take]
  omega
end
theorem aOE (a b:List Int) (h:a.length < 4611686018427387904):eE a b=some (decide (a=b)):=by
 unfold eE
 by_cases hl:a.length=b.length
 ·rw [if_neg (by simp [hl])]
  have:=aMS (step:=fun s=>gR a b s) (a.zip b) (fun p=>decide (p.1=p.2)) (.inr false) (.inl ()) (fun k x hk hx=>?_) ?_
  ·rw [this,aA]
   by_cases he:a=b
   ·subst he
    have:((a.zip a).all fun p=>decide (p.1=p.2))=true:=by
     rw [List.all_eq_true]
     intro p hp
     obtain ⟨i,hi,rfl⟩:=List.mem_iff_getElem.1 hp
     rw [List.getElem_zip];simp
    rw [if_pos this,decide_eq_true rfl];rfl
   ·have:¬ ((a.zip b).all fun p=>decide (p.1=p.2))=true:=fun h'=>he (List.ext_getElem hl fun i h1 h2=>by
     rw [List.all_eq_true] at h'
     have hiz:i < (a.zip b).length:=by rw [List.length_zip];omega
     have:=h' (a.zip b)[i] (List.getElem_mem hiz)
     rw [List.getElem_zip] at this
     simpa using this)
    rw [if_neg this,decide_eq_false he]
  ·have hzl:(a.zip b).length=a.length:=by rw [List.length_zip];omega
   rw [hzl] at hk
   obtain ⟨hk',rfl⟩:=aBO hx
   unfold gR
   rw [if_pos (bF hk),bK hk,aA,bK (by omega),aA,List.getElem_zip]
   by_cases e:a[k]=b[k]'(by omega)
   ·rw [if_neg (by simp [e]),if_pos (by simp [e]),aV hk h]
   ·rw [if_pos (by simpa using e),if_neg (by simpa using e)]
  ·have hzl:(a.zip b).length=a.length:=by rw [List.length_zip];omega
   rw [hzl]
   unfold gR
   rw [if_neg (by simp)]
 ·rw [if_pos (by simp;omega),decide_eq_false (fun h=>hl (by rw [h]))]
theorem IndexRows (xs:List (List Int)) (v:List Int) (h:xs.length < 4611686018427387904) (h2:∀ x∈xs,x.length < 1000000):dE xs v=some (pos xs v):=by
 unfold dE pos
 rw [aDX (step:=fun s=>bW xs v s) xs (fun x=>v == x) (fun k x hk hx=>?_) (by show bW xs v (xs.length:Int)=_;unfold bW;rw [if_neg (by simp)]),aA]
 ·cases xs.findIdx? (fun x=>v == x)<;>rfl
 ·obtain ⟨hk',rfl⟩:=aBO hx
  have hl:=h2 _ (List.getElem_mem hk')
  show bW xs v (k:Int)=_
  unfold bW aCW
  rw [if_pos (bF hk),hx,aA,aOE _ _ (by omega),aA,aA,aV hk h]
  by_cases e:xs[k]=v
  ·rw [decide_eq_true e,if_pos rfl,if_pos (by simp [e])]
  ·rw [decide_eq_false e,if_neg (by simp),if_neg (by simp;exact fun h=>e h.symm)]
theorem aOc (keys:List (List Int)) (h:keys.length < 1000000) (h2:∀ x∈keys,x.length < 1000000):aBE keys=some (cn keys):=by
 unfold aBE
 have key:=eP (step:=fun s:List Int × Int=>lE keys s.1 s.2) keys.length (fun k (o:List Int)=>(o,(k:Int))) (fun k o=>o=(fi keys).take k) (fun r=>r=fi keys) (fun k o hk hI=>?_) (fun o hI=>?_) keys.length 0 [] (by omega) (by simp)
 ·obtain ⟨r,h1,rfl⟩:=key
  rw [show loop (fun s:List Int × Int=>lE keys s.1 s.2) ([],0)=some (fi keys) from h1,aA]
  unfold aCX
  rw [aOD _ (by rw [fi_len];exact h),aA,cn_fi]
 ·subst hI
  have hg:(fi keys)[k]?=some (pos keys keys[k]):=by unfold fi;rw [List.getElem?_map,List.getElem?_eq_getElem hk];rfl
  have hol:((fi keys).take k).length=k:=by rw [List.length_take,fi_len];omega
  refine ⟨_,?_,rfl⟩
  show lE keys ((fi keys).take k) (k:Int)=_
  unfold lE aAm
  rw [if_pos (bF hk),bK hk,aA,slc_to (by omega),aA,IndexRows _ _ (by rw [List.length_take];omega) (fun x hx=>h2 x (List.mem_of_mem_take hx)),aA,List.take_add_one,hg,pos_take hk]
  have hap:∀ z:Int,tG ((fi keys).take k) [z]=some ((fi keys).take k++[z]):=fun z=>cF (by rw [hol];simp [jL];omega)
  by_cases hm:keys[k]∈keys.take k
  ·rw [if_neg (by have:=aFB.2 hm;simpa using this),hap,aA,if_pos hm,aV hk (by omega)];rfl
  ·rw [if_pos (by have:¬ 0<=pos (keys.take k) keys[k]:=fun h=>hm (aFB.1 h);simpa using this),hap,aA,if_neg hm,aV hk (by omega)];rfl
 ·subst hI
  refine ⟨(fi keys).take keys.length,?_,by rw [←fi_len keys,List.take_length]⟩
  show lE keys _ (keys.length:Int)=_
  unfold lE
  rw [if_neg (by simp)]
end Gv
namespace Gv
open Go
def bl (p:List Int) (g:Int):Int:=if g < 0 then -1 else p.getD g.toNat 0
def kr (d:aS) (p:List Int) (i:Nat):List Int:=d.L.tail.map fun s=>bl p (iR d (i:Int) s)
def yN (d:aS) (p:List Int):List (List Int):=(List.range d.N.toNat).map fun i=>p.getD i 0::kr d p i
section
variable {d:aS}
theorem kr_len (d:aS) (p:List Int) (i:Nat):(kr d p i).length=d.L.tail.length:=by unfold kr;rw [List.length_map]
theorem aAW (d:aS) (p:List Int):(yN d p).length=d.N.toNat:=by unfold yN;rw [List.length_map,List.length_range]
theorem aLo {d:aS} {p:List Int} {i:Nat} (h:i < d.N.toNat):(yN d p)[i]?=some (p.getD i 0::kr d p i):=by unfold yN;rw [List.getElem?_map,List.getElem?_range h];rfl
theorem bl_ix (hd:aO d) {p:List Int} (hp:p.length=d.N.toNat) {q:Int} {s:aJ} (h:0<=iR d q s):ix p (iR d q s)=some (bl p (iR d q s)):=by
 have h1:=xI hd q s
 have h2:=hd.1
 rw [aFZ h (by omega)]
 unfold bl
 rw [if_neg (by omega),List.getD_eq_getElem?_getD,List.getElem?_eq_getElem (by omega)];rfl
theorem key_loop (hd:jK d) {p:List Int} (hp:p.length=d.N.toNat) (i:Nat) (x:Int):loop (fun s:List Int × Int=>fV d p (i:Int) d.L.tail s.1 s.2) ([x],0)=some (x::kr d p i):=by
 have h12:=hd.1.2.2.1.2.1
 have htl:d.L.tail.length=d.L.length - 1:=List.length_tail ..
 have:=sY (step:=fun s:List Int × Int=>fV d p (i:Int) d.L.tail s.1 s.2) d.L.tail (fun k o=>(o,(k:Int))) (fun l o=>o++l.map fun s=>bl p (iR d (i:Int) s)) (fun k o=>o.length=k+1) (fun k o s l hk hx hI=>?_) (fun o _=>?_) (a:=[x]) rfl
 ·exact this
 ·left
  have hI':o.length=k+1:=hI
  have hap:∀ z:Int,tG o [z]=some (o++[z]):=fun z=>cF (by simp [jL];omega)
  refine ⟨o++[bl p (iR d (i:Int) s)],?_,by simp [hI'],by simp⟩
  show fV d p (i:Int) d.L.tail o (k:Int)=_
  unfold fV qS
  rw [if_pos (bF hk),hx,aA,aFA hd.1 hd.2,aA,aV hk (by omega)]
  by_cases hg:0<=iR d (i:Int) s
  ·rw [if_pos (by simpa using hg),bl_ix hd.1 hp hg,aA,hap,aA]
  ·rw [if_neg (by simpa using hg),hap,aA]
   unfold bl
   rw [if_pos (by omega)]
 ·show fV d p (i:Int) d.L.tail o (d.L.tail.length:Int)=_
  unfold fV
  rw [if_neg (by simp)];simp
theorem keys_loop (hd:jK d) {p:List Int} (hp:p.length=d.N.toNat):loop (fun s:List (List Int) × Int=>eO d p s.1 s.2) ([],0)=some (yN d p):=by
 have h40:=hd.1.1
 have h1:=hd.1.2.2.1.1
 have hsl:pQ d.L 1 (d.L.length:Int)=some d.L.tail:=by
  have:=aEK (s:=d.L) (w:=1) h1
  rw [show ((1:Nat):Int)=1 from rfl] at this
  rw [this,List.drop_one]
 have hS:((d.N.toNat:Nat):Int)=d.N:=by omega
 have:=rC (step:=fun s:List (List Int) × Int=>eO d p s.1 s.2) d.N.toNat (fun k (o:List (List Int))=>(o,(k:Int))) (fun k o=>o++(yN d p).drop k) (fun k o=>o.length=k) (fun k o hk hI=>?_) (fun o _=>?_) d.N.toNat 0 [] (by omega) rfl
 ·rw [show loop (fun s:List (List Int) × Int=>eO d p s.1 s.2) ([],0)=_ from this,List.drop_zero,List.nil_append]
 ·left
  have hI':o.length=k:=hI
  have hpk:ix p (k:Int)=some (p.getD k 0):=by
   rw [bK (by omega),List.getD_eq_getElem?_getD,List.getElem?_eq_getElem (by omega)];rfl
  refine ⟨o++[p.getD k 0::kr d p k],?_,by simp [hI'],?_⟩
  ·show eO d p o (k:Int)=_
   unfold eO qR qQ
   rw [if_pos (by simp;omega),hpk,aA,hsl,aA,key_loop hd hp,aA,cF (by simp [jL];omega),aA,aV hk (by omega)]
  ·have hkl:k < (yN d p).length:=by rw [aAW];exact hk
   have hg:=aLo (p:=p) hk
   rw [List.getElem?_eq_getElem hkl] at hg
   rw [List.drop_eq_getElem_cons hkl,Option.some.inj hg,List.append_assoc];rfl
 ·show eO d p o (d.N.toNat:Int)=_
  unfold eO
  rw [if_neg (by simp;omega),List.drop_of_length_le (by rw [aAW];exact Nat.le_refl _),List.append_nil]
theorem aSr (hd:jK d) {p:List Int} (hp:p.length=d.N.toNat):jZ d p=some (if cn (yN d p)=p then .inr p else .inl (cn (yN d p))):=by
 have h40:=hd.1.1
 have h12:=hd.1.2.2.1.2.1
 have htl:d.L.tail.length=d.L.length - 1:=List.length_tail ..
 unfold jZ qP qO
 rw [keys_loop hd hp,aA,aOc _ (by rw [aAW];omega) (fun x hx=>by
  unfold yN at hx
  obtain ⟨i,_,rfl⟩:=List.mem_map.1 hx
  rw [List.length_cons,kr_len];omega),aA,aOE _ _ (by rw [aEO,aAW];omega),aA]
 by_cases h:cn (yN d p)=p
 ·rw [decide_eq_true h,if_pos rfl,if_pos h]
 ·rw [decide_eq_false h,if_neg (by simp),if_neg h]
end
end Gv
namespace Gv
open Go
section
variable {d:aS}
theorem bl_same (hd:aO d) {p:List Int} (hp:p.length=d.N.toNat) (hp0:∀ z∈p,0<=z) {g h:Int} (hg:-1<=g/\g<=d.N - 1) (hh:-1<=h/\h<=d.N - 1):bl p g=bl p h<->(g < 0/\h < 0)\/(0<=g/\0<=h/\p[g.toNat]?=p[h.toNat]?):=by
 have h40:=hd.1
 have hpos:∀ g:Int,0<=g->g<=d.N - 1->p[g.toNat]?=some (bl p g)/\0<=bl p g:=fun g h0 h1=>by
  have hlt:g.toNat < p.length:=by omega
  have e:p[g.toNat]?=some (bl p g):=by
   unfold bl
   rw [if_neg (by omega),List.getD_eq_getElem?_getD,List.getElem?_eq_getElem hlt];rfl
  exact ⟨e,hp0 _ (List.mem_of_getElem? e)⟩
 have hneg:∀ g:Int,g < 0->bl p g=-1:=fun g h=>by unfold bl;rw [if_pos h]
 by_cases c1:g < 0
 ·by_cases c2:h < 0
  ·rw [hneg g c1,hneg h c2];simp [c1,c2]
  ·have:=(hpos h (by omega) hh.2).2
   rw [hneg g c1]
   constructor
   ·intro e;omega
   ·rintro (e|e)<;>omega
 ·by_cases c2:h < 0
  ·have:=(hpos g (by omega) hg.2).2
   rw [hneg h c2]
   constructor
   ·intro e;omega
   ·rintro (e|e)<;>omega
  ·rw [(hpos g (by omega) hg.2).1,(hpos h (by omega) hh.2).1]
   constructor
   ·intro e;exact .inr ⟨by omega,by omega,by rw [e]⟩
   ·rintro (e|⟨_,_,e⟩)
    ·omega
    ·exact Option.some.inj e
end
end Gv
namespace Gv
open Go
def kB (p:List Int) (s:Int):Int:=p.getD s.toNat 0
def jF (d:aS) (k:Nat):aJ:=d.L.getD k []
def aIS (d:aS) (s:Int):Nat->Nat->List (Int × Int)
 |0,_=>[]
 |n+1,k=>if iR d s (jF d k) < 0 then aIS d s n (k+1) else ((k:Int),iR d s (jF d k))::aIS d s n (k+1)
def nxM (d:aS) (s:Int):List (Int × Int):=aIS d s (d.L.length - 1) 1
def inS (d:aS) (s:Int):Prop:=0<=s/\s < d.N
section
variable {d:aS} {p:List Int}
theorem aMi (hd:aO d) (s:Int):∀ (n k:Nat),∀ x∈aIS d s n k,inS d x.2
 |0,_,x,h=>by simp [aIS] at h
 |n+1,k,x,h=>by
  unfold aIS at h
  split at h
  ·exact aMi hd s n (k+1) x h
  ·rcases List.mem_cons.1 h with rfl|h
   ·have:=xI hd s (jF d k)
    unfold inS;simp only;omega
   ·exact aMi hd s n (k+1) x h
theorem aQW (s:Int):∀ (n k:Nat),Inc ((k:Int) - 1) ((k:Int)+n - 1) (aIS d s n k)
 |0,k=>⟨by simp [aIS],fun x hx=>by simp [aIS] at hx⟩
 |n+1,k=>by
  obtain ⟨h1,h2⟩:=aQW s n (k+1)
  unfold aIS
  split
  ·exact ⟨h1,fun x hx=>by have:=h2 x hx;omega⟩
  ·refine ⟨?_,fun x hx=>?_⟩
   ·rw [List.pairwise_cons]
    exact ⟨fun x hx=>by have:=h2 x hx;simp only;omega,h1⟩
   ·rcases List.mem_cons.1 hx with rfl|hx
    ·simp only;omega
    ·have:=h2 x hx;omega
theorem aND (s:Int):∀ (n k:Nat),(aIS d s n k).length<=n
 |0,_=>by simp [aIS]
 |n+1,k=>by
  have:=aND s n (k+1)
  unfold aIS
  split
  ·omega
  ·rw [List.length_cons];omega
theorem nxM_inc (hd:aO d) (s:Int):Inc 0 (d.L.tail.length:Int) (nxM d s):=by
 have:=aQW (d:=d) s (d.L.length - 1) 1
 have h1:=hd.2.2.1.1
 rw [List.length_tail]
 unfold nxM
 rw [show ((d.L.length - 1:Nat):Int)=((1:Nat):Int)+((d.L.length - 1:Nat):Int) - 1 by omega]
 exact this
theorem aEP (hd:aO d) (hp:p.length=d.N.toNat) (hpl:∀ z∈p,0<=z/\z < 40) {F:List Int} (hn:(F.map (kB p)).Nodup) (hF:∀ s∈F,inS d s):F.length<=40:=by
 have h40:=hd.1
 have:=List.Nodup.length_le_of_subset (l₂:=(List.range 40).map Int.ofNat) hn (fun z hz=>by
  obtain ⟨s,hs,rfl⟩:=List.mem_map.1 hz
  have h:=hF s hs
  unfold inS at h
  have hm:kB p s∈p:=by
   unfold kB
   rw [List.getD_eq_getElem?_getD,List.getElem?_eq_getElem (by omega)];exact List.getElem_mem _
  have:=hpl _ hm
  rw [List.mem_map]
  exact ⟨(kB p s).toNat,by rw [List.mem_range];omega,by show (((kB p s).toNat:Nat):Int)=kB p s;omega⟩)
 simpa using this
theorem kB_ix (hp:p.length=d.N.toNat) {s:Int} (hs:inS d s):ix p s=some (kB p s):=by
 unfold inS at hs
 rw [aFZ hs.1 (by omega)]
 unfold kB
 rw [List.getD_eq_getElem?_getD,List.getElem?_eq_getElem (by omega)];rfl
end
end Gv
namespace Gv
open Go
def uS (d:aS) (p:List Int):List Int × List Edge:=rP (kB p) (nxM d) 40 41 0 ([0],[])
section
variable {d:aS} {p:List Int}
theorem aHe (hd:aO d):((uS d p).1.map (kB p)).Nodup/\(∀ s∈(uS d p).1,inS d s)/\(uS d p).2.Pairwise xG/\(∀ e∈(uS d p).2,(0<=e.F/\e.F < (uS d p).1.length)/\(1<=e.B/\e.B<=d.L.tail.length)/\0<=e.To/\e.To < (uS d p).1.length):=by
 have h40:=hd.1
 have hg:∀ s∈(([0],[]):List Int × List Edge).1,inS d s:=fun s hs=>by simp at hs;subst hs;unfold inS;omega
 have hP:∀ s,inS d s->∀ x∈nxM d s,inS d x.2:=fun s _=>aMi hd s _ _
 obtain ⟨g1,g2⟩:=aPE (key:=kB p) hP 40 41 0 ([0],[]) (by simp) hg
 obtain ⟨j,hj,hE⟩:=aPF (key:=kB p) (L:=d.L.tail) hP (fun s _=>nxM_inc hd s) 40 41 0 ([0],[]) hg (by simp) ⟨by simp,fun e he=>by simp at he⟩
 obtain ⟨e1,e2⟩:=hE.done hj
 exact ⟨g1,g2,e1,e2⟩
end
end Gv
namespace Gv
open Go
section
variable {t:aS}
theorem det_mk {L:List aJ} {n:Nat} {ed:List Edge} (hL:vQ L) (hn:1<=n/\n<=40) (h300:ed.length<=300) (ho:ed.Pairwise xG) (hall:∀ e∈ed,(0<=e.F/\e.F < n)/\(1<=e.B/\e.B<=L.tail.length)/\0<=e.To/\e.To < n):jK ⟨(n:Int),0,L,ed⟩:=by
 have h1:=hL.1
 have hpl:=List.pairwise_iff_getElem.1 ho
 refine ⟨⟨⟨by simp only;omega,by simp only;omega⟩,⟨by simp only;omega,by simp only;omega⟩,hL,h300,fun k hk=>⟨?_,fun h1=>?_⟩⟩,fun k hk=>⟨?_,fun h1=>?_⟩⟩
 ·have hk':k < ed.length:=hk
  show vR ⟨(n:Int),0,L,ed⟩ ed[k]
  have:=hall _ (List.getElem_mem hk')
  rw [List.length_tail] at this
  unfold vR
  simp only
  omega
 ·exact aGv (hpl (k - 1) k (by simp only at hk;omega) hk (by omega))
 ·have hk':k < ed.length:=hk
  show ed[k].B≠0
  have:=hall _ (List.getElem_mem hk')
  omega
 ·have hk':k < ed.length:=hk
  have:=hpl (k - 1) k (by omega) hk' (by omega)
  unfold xG at this
  show ¬ (ed[k].F=(ed[k - 1]'(by omega)).F/\ed[k].B=(ed[k - 1]'(by omega)).B)
  omega
theorem aPM (hv:aO t) (hs:Small (fI t)):jK ⟨((fI t).1.length:Int),0,t.L,(fI t).2⟩:=by
 obtain ⟨d1,d2,d3,d4,d5⟩:=aKz hv
 exact det_mk hv.2.2.1 ⟨d5,hs.1⟩ hs.2 d3 d4
theorem pair_ext {A B:List (Int × Int)} (h:A.Pairwise fun a b=>a.1 < b.1) (h':B.Pairwise fun a b=>a.1 < b.1) (hm:∀ x,x∈A<->x∈B):A=B:=
 aCd (R:=fun a b:Int × Int=>a.1 < b.1) (fun a=>Int.lt_irrefl a.1) (fun h1 h2=>Int.lt_trans h1 h2) h h' hm
variable {d:aS}
theorem aIq (s:Int) {x:Int × Int}:∀ (n k:Nat),x∈aIS d s n k<->∃ j:Nat,k<=j/\j < k+n/\0<=iR d s (jF d j)/\x=((j:Int),iR d s (jF d j))
 |0,k=>by
  simp only [aIS,List.not_mem_nil,false_iff]
  rintro ⟨j,h1,h2,_⟩
  omega
 |n+1,k=>by
  have ih:=aIq s (x:=x) n (k+1)
  unfold aIS
  by_cases h:iR d s (jF d k) < 0
  ·rw [if_pos h,ih]
   constructor
   ·rintro ⟨j,h1,h2,h3⟩;exact ⟨j,by omega,by omega,h3⟩
   ·rintro ⟨j,h1,h2,h3,h4⟩
    have:j≠k:=fun e=>by subst e;omega
    exact ⟨j,by omega,by omega,h3,h4⟩
  ·rw [if_neg h,List.mem_cons,ih]
   constructor
   ·rintro (rfl|⟨j,h1,h2,h3⟩)
    ·exact ⟨k,by omega,by omega,by omega,rfl⟩
    ·exact ⟨j,by omega,by omega,h3⟩
   ·rintro ⟨j,h1,h2,h3,h4⟩
    by_cases e:j=k
    ·subst e;exact .inl h4
    ·exact .inr ⟨j,by omega,by omega,h3,h4⟩
theorem nxM_out (hd:jK d) (s:Int):nxM d s=(dG d s).map fun e=>(e.B,e.To):=by
 have h1:=hd.1.2.2.1.1
 refine pair_ext (nxM_inc hd.1 s).1 ?_ fun x=>?_
 ·rw [List.pairwise_map]
  exact outP_pair hd s
 ·unfold nxM
  rw [aIq,List.mem_map]
  constructor
  ·rintro ⟨j,j1,j2,j3,rfl⟩
   unfold iR at j3 ⊢
   cases hx:d.E.find? (hit d s (jF d j)) with
   |none=>rw [hx] at j3;simp only at j3;omega
   |some e=>
    have he:=List.mem_of_find?_eq_some hx
    have hh:=List.find?_some hx
    have hb:=(mY hd.1 he).2.2
    unfold hit at hh
    simp only [Bool.and_eq_true,beq_iff_eq] at hh
    refine ⟨e,List.mem_filter.2 ⟨he,by simpa using hh.1⟩,?_⟩
    simp only
    have e2:=hh.2
    unfold txt jF at e2
    rw [List.getD_eq_getElem?_getD,List.getD_eq_getElem?_getD,List.getElem?_eq_getElem (by omega),List.getElem?_eq_getElem (by omega)] at e2
    have:=aKr hd.1.2.2.1 (by omega) (by omega) e2
    have e3:e.B=(j:Int):=by omega
    rw [e3]
  ·rintro ⟨e,he,rfl⟩
   obtain ⟨h2,h3⟩:=aKA he
   have hb:=mY hd.1 h2
   have h0:e.B≠0:=by
    obtain ⟨k,hk,rfl⟩:=List.mem_iff_getElem.1 h2
    exact (hd.2 k hk).1
   have hlab:jF d e.B.toNat=txt d e:=rfl
   have hf:=aPw hd.1 hd.2 s (txt d e)
   have hm:e∈d.E.filter (hit d s (txt d e)):=List.mem_filter.2 ⟨h2,by unfold hit;simp [h3]⟩
   rw [hf] at hm
   have hg:iR d s (txt d e)=e.To:=by
    unfold iR
    cases hx:d.E.find? (hit d s (txt d e)) with
    |none=>rw [hx] at hm;simp at hm
    |some e'=>rw [hx] at hm;simp at hm;subst hm;rfl
   have hl:=hb.2.2
   have ht:=hb.2.1
   refine ⟨e.B.toNat,by omega,by omega,?_,?_⟩
   ·rw [hlab,hg];omega
   ·rw [hlab,hg,show ((e.B.toNat:Nat):Int)=e.B by omega]
end
end Gv
namespace Gv
open Go
def kT (p:List Int) (s:Int):aJ:=Lib.itoa (kB p s)
structure Blk (d:aS) (p:List Int):Prop where
 len:p.length=d.N.toNat
 bnd:∀ z∈p,0<=z/\z < 40
section
variable {d:aS} {p:List Int}
theorem kB_bnd (hp:Blk d p) {s:Int} (hs:inS d s):0<=kB p s/\kB p s < 40:=by
 have h:=hp.len
 unfold inS at hs
 refine hp.bnd _ ?_
 unfold kB
 rw [List.getD_eq_getElem?_getD,List.getElem?_eq_getElem (by omega)];exact List.getElem_mem _
theorem minKey_eq (hp:Blk d p) {s:Int} (hs:inS d s):qJ s p=some (kT p s):=by
 have h:=kB_bnd hp hs
 unfold qJ
 rw [kB_ix hp.len hs,aA]
 unfold uT
 rw [if_pos ⟨by omega,by omega⟩];rfl
theorem kT_map (F:List Int):F.map (kT p)=(F.map (kB p)).map Lib.itoa:=by rw [List.map_map];rfl
theorem kT_inj (hp:Blk d p) {F:List Int} (hF:∀ s∈F,inS d s) {s:Int} (hs:inS d s):∀ x∈F.map (kB p),Lib.itoa x=Lib.itoa (kB p s)->x=kB p s:=fun x hx e=>by
 obtain ⟨y,hy,rfl⟩:=List.mem_map.1 hx
 have h1:=kB_bnd hp (hF y hy)
 have h2:=kB_bnd hp hs
 exact aKv (by omega) (by omega) e
theorem aNE (hp:Blk d p) {F:List Int} (hF:∀ s∈F,inS d s) {s:Int} (hs:inS d s) (hl:F.length<=1000) (arcs:List fD):
  eJ F (mq 0 (F.map (kT p))) arcs p s=some (atK (kB p) F s,tF (kB p) F s,mq 0 ((tF (kB p) F s).map (kT p))):=by
 have hk:=kT_inj hp hF hs
 have hin:kT p s∈F.map (kT p)<->kB p s∈F.map (kB p):=by
  rw [kT_map]
  exact aNv hk
 unfold eJ
 rw [minKey_eq hp hs,aA]
 unfold atK tF
 by_cases hm:kB p s∈F.map (kB p)
 ·rw [aMf (hin.2 hm),if_neg (by simp),if_pos hm,if_pos hm]
  have:pos (F.map (kT p)) (kT p s)=pos (F.map (kB p)) (kB p s):=by rw [kT_map];exact aMg hk
  rw [this]
  rfl
 ·have hm':kT p s∉F.map (kT p):=fun h=>hm (hin.1 h)
  rw [aKx hm',if_pos (by simp),if_neg hm,if_neg hm]
  have h1:yX (mq 0 (F.map (kT p))) (kT p s) (F.length:Int)=mq 0 ((F++[s]).map (kT p)):=by
   have:=aKw (k:=0) hm'
   rw [Nat.zero_add,List.length_map] at this
   rw [this,List.map_append];rfl
  rw [aA,h1,cF (by simp [jL];omega),aA]
  rfl
theorem minAdd_eq (hp:Blk d p) {s:List Int × List Edge} (hF:∀ x∈s.1,inS d x) {q:Int} (hq:inS d q) (hl:s.1.length<=1000) (he:s.2.length<=1000000) (L:List aJ) (i:Nat) (k:Int):
  mJ (L.getD (k - 1).toNat []) q s.1 (mq 0 (s.1.map (kT p))) (s.2.map (cL L)) p (i:Int)=some ((nX (kB p) (i:Int) s (k,q)).1,mq 0 ((nX (kB p) (i:Int) s (k,q)).1.map (kT p)),(nX (kB p) (i:Int) s (k,q)).2.map (cL L)):=by
 unfold mJ
 rw [aNE hp hF hq hl,aA,cF (by simp [jL];omega),aA]
 unfold sQ nX
 rw [List.map_append]
 rfl
theorem aSu (hd:jK d) (hp:Blk d p) {i:Nat} {q:Int} {s:List Int × List Edge} (hF:∀ x∈s.1,inS d x) (hl:s.1.length<=100) (he:s.2.length<=100000):
  mK q s.1 (mq 0 (s.1.map (kT p))) (s.2.map (cL d.L.tail)) p (i:Int) d=some (true,(cU (kB p) (i:Int) (nxM d q) s).1,mq 0 ((cU (kB p) (i:Int) (nxM d q) s).1.map (kT p)),(cU (kB p) (i:Int) (nxM d q) s).2.map (cL d.L.tail)):=by
 have h300:=hd.1.2.2.2.1
 have hol:(dG d q).length<=300:=Nat.le_trans (List.length_filter_le _ _) h300
 unfold mK
 rw [aPv d q (by omega),aA,show (d.E.filter fun e=>e.F == q)=dG d q from rfl]
 have:=rC (step:=fun x:List Int × List (aJ × Int) × List fD × Int=>gW p (i:Int) d (dG d q) x.1 x.2.1 x.2.2.1 x.2.2.2) (dG d q).length (fun k (a:List Int × List Edge)=>(a.1,mq 0 (a.1.map (kT p)),a.2.map (cL d.L.tail),(k:Int)))
  (fun k a=>((cU (kB p) (i:Int) (((dG d q).drop k).map fun e=>(e.B,e.To)) a).1,mq 0 ((cU (kB p) (i:Int) (((dG d q).drop k).map fun e=>(e.B,e.To)) a).1.map (kT p)),(cU (kB p) (i:Int) (((dG d q).drop k).map fun e=>(e.B,e.To)) a).2.map (cL d.L.tail)))
  (fun k a=>(∀ x∈a.1,inS d x)/\a.1.length<=100+k/\a.2.length<=100000+k) (fun k a hk hI=>?_) (fun a hI=>?_) (dG d q).length 0 s (by omega) ⟨hF,hl,he⟩
 ·rw [show loop (fun x:List Int × List (aJ × Int) × List fD × Int=>gW p (i:Int) d (dG d q) x.1 x.2.1 x.2.2.1 x.2.2.2) (s.1,mq 0 (s.1.map (kT p)),s.2.map (cL d.L.tail),0)=_ from this,aA]
  unfold sS
  rw [List.drop_zero,←nxM_out hd q]
 ·left
  obtain ⟨a3,a4,a5⟩:=hI
  have hm:(dG d q)[k]∈dG d q:=List.getElem_mem hk
  obtain ⟨m1,m2⟩:=aKA hm
  have hin:=mY hd.1 m1
  have h0:(dG d q)[k].B≠0:=by
   obtain ⟨j,hj,e⟩:=List.mem_iff_getElem.1 m1
   rw [←e]
   exact (hd.2 j hj).1
  have hto:inS d (dG d q)[k].To:=by have:=hin.2.1;unfold inS;omega
  have hl2:=hin.2.2
  have hlab:ix d.L (dG d q)[k].B=some (d.L.tail.getD ((dG d q)[k].B - 1).toNat []):=by
   rw [xH hin]
   unfold txt
   obtain ⟨m,hm'⟩:∃ m:Nat,(dG d q)[k].B.toNat=m+1:=⟨(dG d q)[k].B.toNat - 1,by omega⟩
   rw [hm',show ((dG d q)[k].B - 1).toNat=m by omega,List.getD_eq_getElem?_getD,List.getD_eq_getElem?_getD]
   cases hL:d.L with
   |nil=>rfl
   |cons x l=>rfl
  have hadd:=minAdd_eq hp (s:=a) a3 hto (by omega) (by omega) d.L.tail i (dG d q)[k].B
  simp only [gW,bF hk,if_pos,bK hk,aA,hlab,hadd,aV hk (show (dG d q).length < 4611686018427387904 by omega)]
  refine ⟨nX (kB p) (i:Int) a ((dG d q)[k].B,(dG d q)[k].To),rfl,⟨aGy (key:=kB p) a3 hto,?_,?_⟩,?_⟩
  ·have:=aIm (key:=kB p) a.1 (dG d q)[k].To
   simp only [nX];omega
  ·simp only [nX,List.length_append,List.length_singleton];omega
  ·rw [List.drop_eq_getElem_cons hk,List.map_cons,vI]
 ·simp only [gW,bJ]
  rw [List.drop_length]
  rfl
theorem aNF (hd:jK d) (hp:Blk d p):∀ (n i:Nat) (s:List Int × List Edge),i<=s.1.length->41<=n+i->(s.1.map (kB p)).Nodup->(∀ x∈s.1,inS d x)->s.2.length<=11 * i->
  loop (fun x:List Int × List (aJ × Int) × List fD × Int=>dU p d x.1 x.2.1 x.2.2.1 x.2.2.2) (s.1,mq 0 (s.1.map (kT p)),s.2.map (cL d.L.tail),(i:Int))=
   some (.inl ((rP (kB p) (nxM d) 40 n i s).1,mq 0 ((rP (kB p) (nxM d) 40 n i s).1.map (kT p)),(rP (kB p) (nxM d) 40 n i s).2.map (cL d.L.tail)))
 |0,i,s,hi,hn,hnd,hF,_=>by have:=aEP hd.1 hp.len hp.bnd hnd hF;omega
 |n+1,i,s,hi,hn,hnd,hF,he=>by
  have h12:=hd.1.2.2.1.2.1
  have hlen:=aEP hd.1 hp.len hp.bnd hnd hF
  by_cases hlt:i < s.1.length
  ·have hq:s.1[i]?=some s.1[i]:=List.getElem?_eq_getElem hlt
   have hw:=aV hlt (show s.1.length < 4611686018427387904 by omega)
   have hsi:=aMi (d:=d) hd.1 s.1[i] (d.L.length - 1) 1
   have g1:=aEM (key:=kB p) (i:Int) (nxM d s.1[i]) s hnd
   have g2:=aCQ (key:=kB p) (P:=inS d) (i:Int) (nxM d s.1[i]) s hF hsi
   have g4:=aEP hd.1 hp.len hp.bnd g1 g2
   have gl:=(uR (key:=kB p) (i:Int) (nxM d s.1[i]) s).1.length_le
   have ge:=(aIn (key:=kB p) (i:Int) (nxM d s.1[i]) s).1
   have gs:(nxM d s.1[i]).length<=11:=Nat.le_trans (aND _ _ _) (by omega)
   have hx:rP (kB p) (nxM d) 40 (n+1) i s=rP (kB p) (nxM d) 40 n (i+1) (cU (kB p) (i:Int) (nxM d s.1[i]) s):=by
    rw [rP,hq];exact if_neg (by omega)
   have hst:dU p d s.1 (mq 0 (s.1.map (kT p))) (s.2.map (cL d.L.tail)) (i:Int)=some (.inl ((cU (kB p) (i:Int) (nxM d s.1[i]) s).1,mq 0 ((cU (kB p) (i:Int) (nxM d s.1[i]) s).1.map (kT p)),(cU (kB p) (i:Int) (nxM d s.1[i]) s).2.map (cL d.L.tail),((i+1:Nat):Int))):=by
    unfold dU
    rw [if_pos (bF hlt),bK hlt,aA,aSu hd hp hF (by omega) (by omega),aA,if_neg (by simp)]
    unfold qL
    rw [if_neg (by simp only [decide_eq_true_eq];omega),hw]
   rw [aBP (step:=fun x:List Int × List (aJ × Int) × List fD × Int=>dU p d x.1 x.2.1 x.2.2.1 x.2.2.2) (s:=(s.1,mq 0 (s.1.map (kT p)),s.2.map (cL d.L.tail),(i:Int))) hst,hx]
   exact aNF hd hp n (i+1) _ (by omega) (by omega) g1 g2 (by omega)
  ·obtain rfl:i=s.1.length:=by omega
   have hx:rP (kB p) (nxM d) 40 (n+1) s.1.length s=s:=by
    rw [rP,List.getElem?_eq_none (Nat.le_refl _)]
   have hst:dU p d s.1 (mq 0 (s.1.map (kT p))) (s.2.map (cL d.L.tail)) (s.1.length:Int)=some (.inr (.inl (s.1,mq 0 (s.1.map (kT p)),s.2.map (cL d.L.tail)))):=by
    unfold dU
    rw [if_neg (by simp)]
   rw [hx,uQ (step:=fun x:List Int × List (aJ × Int) × List fD × Int=>dU p d x.1 x.2.1 x.2.2.1 x.2.2.2) (s:=(s.1,mq 0 (s.1.map (kT p)),s.2.map (cL d.L.tail),(s.1.length:Int))) hst]
theorem aOF {key:Int->Int} {nx:Int->List (Int × Int)} (h:∀ q,(nx q).length<=11) (B:Nat):∀ (n i:Nat) (s:List Int × List Edge),(rP key nx B n i s).2.length<=s.2.length+11 * n
 |0,_,_=>Nat.le_refl _
 |n+1,i,s=>by
  unfold rP
  split
  ·omega
  ·rename_i q _
   have h1:=(aIn (key:=key) (i:Int) (nx q) s).1
   have h2:=h q
   split
   ·omega
   ·have:=aOF (key:=key) h B n (i+1) (cU key (i:Int) (nx q) s)
    omega
end
end Gv
