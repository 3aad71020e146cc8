/- The system of blocks is deterministic; its runs. -/
import Derived.Test.YtohbafhnoifmoaaGreatDoorMJP90
set_option linter.all false
namespace Gv
open Go
section
variable {d:cO}
theorem aKr (hd:lD d):aIZ d.L.tail/\d.L.tail.length<=11:=aLs hd
theorem aMm (hd:lD d) {k:Nat} (h1:1<=k) (h2:k < d.L.length) (x y:Int):(aGS d.L.tail ⟨x,(k:Int),y⟩).label=aII d k:=by
 unfold aGS aII
 simp only
 rw [List.getD_eq_getElem?_getD,List.getD_eq_getElem?_getD,show ((k:Int) - 1).toNat=k - 1 by omega,List.getElem?_eq_getElem (by rw [List.length_tail];omega),List.getElem?_eq_getElem h2,List.getElem_tail]
 simp only [Option.getD_some]
 congr 1
 omega
theorem aOA (hd:lD d):∀ e∈mnE d,(0<=e.F/\e.F < (mnF d).length)/\(1<=e.B/\e.B<=d.L.tail.length)/\0<=e.To/\e.To < (mnF d).length:=(aKT (p:=aGs d d.N.toNat) hd).2.2.2
theorem aNh (hd:lD d) (e':Edge):e'∈(aJr d).E<->∃ e∈mnE d,e'=⟨e.F,pos (nD::aJj d.L.tail (mnE d)) (aGS d.L.tail e).label,e.To⟩:=by
 show e'∈((mnE d).map (aGS d.L.tail)).map (fun a=>(⟨a.from_,pos (nD::aJj d.L.tail (mnE d)) a.label,a.to_⟩:Edge))<->_
 rw [List.map_map,List.mem_map]
 constructor
 ·rintro ⟨e,he,rfl⟩;exact ⟨e,he,rfl⟩
 ·rintro ⟨e,he,rfl⟩;exact ⟨e,he,rfl⟩
theorem min_lab (hd:lD d) {e:Edge} (he:e∈mnE d):(aGS d.L.tail e).label∈aJj d.L.tail (mnE d)/\(aGS d.L.tail e).label≠nD:=by
 have h:=(aJp fun x hx=>(aOA hd x hx).2.1).2 (List.mem_map_of_mem (List.mem_map_of_mem he))
 have hM:aIZ (aJj d.L.tail (mnE d)):=(aKr hd).1.sub List.filter_sublist
 exact ⟨h,fun e=>hM.strict.2 (e ▸ h)⟩
theorem aNi (hd:aGt d):aGt (aJr d):=by
 obtain ⟨hL,h11⟩:=aKr hd.1
 have hlen:=mF_len hd.1
 have hfl:(mnE d).Pairwise aIG:=(aKT (p:=aGs d d.N.toNat) hd.1).2.2.1
 have hel:=mE_len hd
 have h3:=hd.1.2.2.2.1
 have hall:=aOA hd.1
 have hok:lD (aJr d):=(aNC hL h11 hlen hfl hall).2 (by show (mnE d).length<=300;omega)
 have hue:=aLf hL hfl fun x hx=>(hall x hx).2.1
 refine ⟨hok,fun k hk=>⟨?_,fun h1=>?_⟩⟩
 ·obtain ⟨e,he,hk2⟩:=(aNh hd.1 _).1 (List.getElem_mem hk)
  obtain ⟨m1,m2⟩:=min_lab hd.1 he
  rw [hk2]
  show pos (nD::aJj d.L.tail (mnE d)) (aGS d.L.tail e).label≠0
  intro h0
  obtain ⟨i,hi,p1,p2⟩:=aIl (List.mem_cons_of_mem nD m1)
  rw [h0] at p1
  obtain rfl:i=0:=by omega
  exact m2 p2.symm
 ·have hp:=List.pairwise_iff_getElem.1 hue (k - 1) k (by have:k < (aJr d).E.length:=hk;unfold aJr aHP at this;simp only at this;exact Nat.lt_of_le_of_lt (Nat.sub_le _ _) this) hk (by omega)
  have hp':aIG ((aJr d).E[k - 1]'(by omega)) (aJr d).E[k]:=hp
  unfold aIG at hp'
  omega
theorem min_go (hd:aGt d) {j:Nat} {q:Int} (hj:(mnF d)[j]?=some q) {s:bD} (hs:s≠nD):
  (bW d q s < 0/\bW (aJr d) (j:Int) s=-1)\/∃ (j':Nat) (q':Int),(mnF d)[j']?=some q'/\kQ d q'=kQ d (bW d q s)/\0<=bW d q s/\bW (aJr d) (j:Int) s=(j':Int):=by
 have htx:∀ e∈mnE d,txt (aJr d) ⟨e.F,pos (nD::aJj d.L.tail (mnE d)) (aGS d.L.tail e).label,e.To⟩=(aGS d.L.tail e).label:=fun e he=>by
  obtain ⟨m1,m2⟩:=min_lab hd.1 he
  obtain ⟨i,hi,p1,p2⟩:=aIl (List.mem_cons_of_mem nD m1)
  unfold txt
  simp only [p1,Int.toNat_natCast]
  show (nD::aJj d.L.tail (mnE d)).getD i []=_
  rw [List.getD_eq_getElem?_getD,List.getElem?_eq_getElem hi]
  exact p2
 cases hf:(aJr d).E.find? (hit (aJr d) (j:Int) s) with
 |some e'=>
  right
  have hg:bW (aJr d) (j:Int) s=e'.To:=by unfold bW;rw [hf]
  have hh:=List.find?_some hf
  obtain ⟨e,he,rfl⟩:=(aNh hd.1 e').1 (List.mem_of_find?_eq_some hf)
  unfold hit at hh
  rw [Bool.and_eq_true,beq_iff_eq,beq_iff_eq,htx e he] at hh
  obtain ⟨e1,e2⟩:=hh
  obtain ⟨i,q',hi,k,h1,h2,h3,rfl⟩:=(aLi hd.1 e).1 he
  have e1:(i:Int)=(j:Int):=e1
  obtain rfl:i=j:=by omega
  rw [hj] at hi
  cases hi
  rw [aMm hd.1 h1 h2] at e2
  subst e2
  obtain ⟨i',hi',p1,p2⟩:=aIl (mF_next hd.1 hj h1 h2 h3)
  rw [List.length_map] at hi'
  rw [List.getElem_map] at p2
  exact ⟨i',(mnF d)[i'],List.getElem?_eq_getElem hi',p2,h3,by rw [hg];exact p1⟩
 |none=>
  left
  have hg:bW (aJr d) (j:Int) s=-1:=by unfold bW;rw [hf]
  refine ⟨?_,hg⟩
  by_cases h0:0<=bW d q s
  ·exfalso
   have h0':=h0
   unfold bW at h0'
   cases hy:d.E.find? (hit d q s) with
   |none=>rw [hy] at h0';exact absurd h0' (by decide)
   |some y=>
    have hym:=List.mem_of_find?_eq_some hy
    have hyh:=List.find?_some hy
    unfold hit at hyh
    rw [Bool.and_eq_true,beq_iff_eq,beq_iff_eq] at hyh
    have hb:=aHp hd.1 hym
    obtain ⟨n,hn,hne⟩:=List.mem_iff_getElem.1 hym
    have h00:=(hd.2 n hn).1
    rw [hne] at h00
    have hk:aII d y.B.toNat=s:=hyh.2
    have hmem:(⟨(j:Int),((y.B.toNat:Nat):Int),pos ((mnF d).map (kQ d)) (kQ d (bW d q (aII d y.B.toNat)))⟩:Edge)∈mnE d:=(aLi hd.1 _).2 ⟨j,q,hj,y.B.toNat,by omega,by omega,by rw [hk];exact h0,rfl⟩
    refine List.find?_eq_none.1 hf _ ((aNh hd.1 _).2 ⟨_,hmem,rfl⟩) ?_
    unfold hit
    rw [Bool.and_eq_true,beq_iff_eq,beq_iff_eq,htx _ hmem]
    refine ⟨rfl,?_⟩
    rw [aMm hd.1 (by omega) (by omega)]
    exact hk
  ·omega
end
end Gv
namespace Gv
open Go
section
variable {d:cO}
theorem aOB (hd:lD d) {s:bD} (hs:s∉d.L) (k:Int):bW d k s=-1:=by
 unfold bW
 rw [List.find?_eq_none.2 fun e he=>by
  have hb:=aHp hd he
  unfold hit
  intro h
  rw [Bool.and_eq_true,beq_iff_eq,beq_iff_eq] at h
  refine hs (h.2 ▸ ?_)
  unfold txt
  rw [List.getD_eq_getElem?_getD,List.getElem?_eq_getElem (show e.B.toNat < d.L.length by omega)]
  exact List.getElem_mem _]
theorem aOC (hd:lD d) {s:bD} (hs:s≠nD):s∈d.L<->s∈d.L.tail:=by
 rw [(aJb hd).1]
 simp [hs]
theorem aNV (hd:lD d) {k:Int} {s:bD} (h:0<=bW d k s):inS d (bW d k s):=by
 have:=aKl hd k s
 unfold inS
 omega
theorem kQ_step (hd:lD d) {x y:Int} (hx:inS d x) (hy:inS d y) (h:kQ d x=kQ d y) {s:bD} (hs:s≠nD):(bW d x s < 0/\bW d y s < 0)\/(0<=bW d x s/\0<=bW d y s/\kQ d (bW d x s)=kQ d (bW d y s)):=by
 by_cases hm:s∈d.L
 ·have hmt:=(aOC hd hs).1 hm
  have hl:=(aOw hd hx hy).1 h
  have h1:bW d x s < 0<->bW d y s < 0:=hl [s] fun z hz=>by rw [List.mem_singleton] at hz;exact hz ▸ hmt
  by_cases hn:bW d x s < 0
  ·exact .inl ⟨hn,h1.1 hn⟩
  ·have hn':¬ bW d y s < 0:=fun g=>hn (h1.2 g)
   refine .inr ⟨by omega,by omega,(aOw hd (aNV hd (by omega)) (aNV hd (by omega))).2 fun tr ht=>?_⟩
   exact hl (s::tr) fun z hz=>by rcases List.mem_cons.1 hz with rfl|hz;exact hmt;exact ht z hz
 ·rw [aOB hd hm,aOB hd hm]
  exact .inl ⟨by decide,by decide⟩
theorem min_run (hd:aGt d) {tr:List bD} (ht:∀ s∈tr,s≠nD):
  (aIg d tr < 0/\aIg (aJr d) tr=-1)\/∃ (j:Nat) (q:Int),(mnF d)[j]?=some q/\kQ d q=kQ d (aIg d tr)/\inS d (aIg d tr)/\aIg (aJr d) tr=(j:Int):=by
 have h40:=hd.1.1
 induction tr using aKK with
 |nil=>exact .inr ⟨0,0,mF_zero hd.1,rfl,by show inS d 0;unfold inS;omega,rfl⟩
 |snoc tr s ih=>
  have hs:s≠nD:=ht s (by simp)
  rw [aIA,aIA]
  rcases ih fun x hx=>ht x (by simp [hx]) with ⟨h1,h2⟩|⟨j,q,h1,h2,h3,h4⟩
  ·left
   rw [h2]
   exact ⟨by rw [aKk hd.1 h1];decide,aKk (aNi hd).1 (by decide) s⟩
  ·rw [h4]
   have hk:=kQ_step hd.1 (mF_in hd.1 h1) h3 h2 hs
   rcases min_go hd h1 hs with ⟨g1,g2⟩|⟨j',q',g1,g2,g3,g4⟩
   ·left
    rcases hk with ⟨k1,k2⟩|⟨k1,_,_⟩
    ·exact ⟨k2,g2⟩
    ·omega
   ·right
    rcases hk with ⟨k1,_⟩|⟨_,k2,k3⟩
    ·omega
    ·exact ⟨j',q',g1,g2.trans k3,aNV hd.1 k2,g4⟩
theorem min_neg (hd:aGt d) {tr:List bD} (ht:∀ s∈tr,s≠nD):aIg (aJr d) tr < 0<->aIg d tr < 0:=by
 rcases min_run hd ht with ⟨h1,h2⟩|⟨j,q,_,_,h3,h4⟩
 ·rw [h2];exact ⟨fun _=>h1,fun _=>by decide⟩
 ·rw [h4]
  unfold inS at h3
  constructor<;>intro h<;>omega
end
end Gv
namespace Gv
open Go
def pc (d:cO):Nat->Int->Int
 |0,_=>1
 |n+1,k=>((aIc d k).map fun e=>pc d n e.To).sum
def pcM (d:cO) (M:List bD):Nat->Int->Int
 |0,_=>1
 |n+1,k=>(M.map fun s=>if bW d k s < 0 then 0 else pcM d M n (bW d k s)).sum
theorem sum_perm {l m:List Int} (h:l.Perm m):l.sum=m.sum:=by
 induction h with
 |nil=>rfl
 |cons x _ ih=>rw [List.sum_cons,List.sum_cons,ih]
 |swap x y l=>rw [List.sum_cons,List.sum_cons,List.sum_cons,List.sum_cons];omega
 |trans _ _ h1 h2=>rw [h1,h2]
theorem aNj {γ:Type} (p:γ->Bool) (f:γ->Int):∀ l:List γ,(l.map fun x=>if p x then f x else 0).sum=((l.filter p).map f).sum
 |[]=>rfl
 |x::l=>by
  rw [List.map_cons,List.sum_cons,aNj p f l,List.filter_cons]
  cases p x with
  |true=>rw [if_pos rfl,if_pos rfl,List.map_cons,List.sum_cons]
  |false=>rw [if_neg (by simp),if_neg (by simp)];omega
section
variable {d:cO}
theorem aOD {t:cO} (hv:lD t) {e:Edge} (he:e∈t.E):txt t e∈t.L:=by
 have:=(aHp hv he).2.2
 unfold txt
 rw [List.getD_eq_getElem?_getD,List.getElem?_eq_getElem (by omega)]
 exact List.getElem_mem _
theorem txt_labM {t:cO} (hv:lD t) {e f:Edge} (he:e∈t.E) (hf:f∈t.E) (h:txt t e=txt t f):e.B=f.B:=by
 have h1:=aJm hv he (aOD hv he)
 have h2:=aJm hv hf (aOD hv he)
 rw [beq_self_eq_true] at h1
 rw [h,beq_self_eq_true] at h2
 rw [←h] at h2
 have h1':=beq_iff_eq.1 h1.symm
 have h2':=beq_iff_eq.1 h2.symm
 omega
theorem outP_txt (hd:aGt d) (k:Int):((aIc d k).map (txt d)).Nodup:=by
 have h:=aLI hd k
 rw [List.nodup_iff_pairwise_ne,List.pairwise_map]
 refine h.imp_of_mem fun {e f} he hf hlt heq=>?_
 have:=txt_labM hd.1 (List.mem_filter.1 he).1 (List.mem_filter.1 hf).1 heq
 omega
theorem aKg (hd:aGt d) {k:Int} {e:Edge} (he:e∈aIc d k):bW d k (txt d e)=e.To/\0<=e.To:=by
 obtain ⟨h1,h2⟩:=List.mem_filter.1 he
 rw [beq_iff_eq] at h2
 have hb:=aHp hd.1 h1
 have:=aPq hd h1
 rw [h2] at this
 exact ⟨this,hb.2.1.1⟩
theorem out_sum (hd:aGt d) {M:List bD} (hM:M.Nodup) (hsub:∀ e∈d.E,txt d e∈M) (k:Int) (f:Int->Int):((aIc d k).map fun e=>f e.To).sum=(M.map fun s=>if bW d k s < 0 then 0 else f (bW d k s)).sum:=by
 have e1:(M.map fun s=>if bW d k s < 0 then 0 else f (bW d k s))=M.map fun s=>if decide (0<=bW d k s) then f (bW d k s) else 0:=by
  refine List.map_congr_left fun s _=>?_
  by_cases h:bW d k s < 0
  ·rw [if_pos h,if_neg (by simp;omega)]
  ·rw [if_neg h,if_pos (by simp;omega)]
 rw [e1,aNj (fun s=>decide (0<=bW d k s)) (fun s=>f (bW d k s))]
 have e2:((aIc d k).map fun e=>f e.To)=((aIc d k).map (txt d)).map fun s=>f (bW d k s):=by
  rw [List.map_map]
  refine List.map_congr_left fun e he=>?_
  simp only [Function.comp]
  rw [(aKg hd he).1]
 rw [e2]
 refine sum_perm (List.Perm.map _ ?_)
 refine (List.perm_ext_iff_of_nodup (outP_txt hd k) (hM.filter _)).2 fun s=>?_
 rw [List.mem_map,List.mem_filter,decide_eq_true_iff]
 constructor
 ·rintro ⟨e,he,rfl⟩
  obtain ⟨h1,h2⟩:=aKg hd he
  exact ⟨hsub e (List.mem_filter.1 he).1,by rw [h1];exact h2⟩
 ·rintro ⟨_,h0⟩
  unfold bW at h0
  cases hf:d.E.find? (hit d k s) with
  |none=>rw [hf] at h0;exact absurd h0 (by decide)
  |some y=>
   have hh:=List.find?_some hf
   unfold hit at hh
   rw [Bool.and_eq_true] at hh
   exact ⟨y,List.mem_filter.2 ⟨List.mem_of_find?_eq_some hf,hh.1⟩,beq_iff_eq.1 hh.2⟩
theorem aLO (hd:aGt d) {M:List bD} (hM:M.Nodup) (hsub:∀ e∈d.E,txt d e∈M):∀ (n:Nat) (k:Int),pc d n k=pcM d M n k
 |0,_=>rfl
 |n+1,k=>by
  show ((aIc d k).map fun e=>pc d n e.To).sum=_
  have:((aIc d k).map fun e=>pc d n e.To)=(aIc d k).map fun e=>pcM d M n e.To:=List.map_congr_left fun e _=>aLO hd hM hsub n e.To
  rw [this,out_sum hd hM hsub]
  rfl
end
theorem aPz {a b:cO} {M:List bD}:∀ (n:Nat) {x y:Int},0<=x->0<=y->(∀ tr,(∀ s∈tr,s∈M)->(aKY a x tr < 0<->aKY b y tr < 0))->pcM a M n x=pcM b M n y
 |0,_,_,_,_,_=>rfl
 |n+1,x,y,hx,hy,h=>by
  unfold pcM
  congr 1
  refine List.map_congr_left fun s hs=>?_
  have h1:bW a x s < 0<->bW b y s < 0:=h [s] fun z hz=>by rw [List.mem_singleton] at hz;exact hz ▸ hs
  by_cases hn:bW a x s < 0
  ·rw [if_pos hn,if_pos (h1.1 hn)]
  ·rw [if_neg hn,if_neg fun g=>hn (h1.2 g)]
   refine aPz n (by omega) (by have:¬ bW b y s < 0:=fun g=>hn (h1.2 g);omega) fun tr ht=>?_
   exact h (s::tr) fun z hz=>by rcases List.mem_cons.1 hz with rfl|hz;exact hs;exact ht z hz
end Gv
set_option linter.unusedSimpArgs false
set_option linter.unusedVariables false
namespace Gv
open Go
def dot (f:Nat->Int):Nat->List Int->Int
 |_,[]=>0
 |o,x::v=>x * f o+dot f (o+1) v
theorem aOE (f:Nat->Int) (c:Int):∀ (v:List Int) (o i:Nat) (h:i < v.length),dot f o (v.set i (v[i]+c))=dot f o v+c * f (o+i)
 |[],o,i,h=>by simp at h
 |x::v,o,0,h=>by
  simp only [List.set_cons_zero,List.getElem_cons_zero,dot,Nat.add_zero]
  rw [Int.add_mul];omega
 |x::v,o,i+1,h=>by
  simp only [List.set_cons_succ,List.getElem_cons_succ,dot]
  rw [aOE f c v (o+1) i (by simpa using h),show o+1+i=o+(i+1) by omega];omega
theorem aNk (f:Nat->Int):∀ (n o:Nat),dot f o (List.replicate n 0)=0
 |0,_=>rfl
 |n+1,o=>by rw [List.replicate_succ,dot,aNk f n];simp
theorem dot_add (f g:Nat->Int):∀ (v:List Int) (o:Nat),dot (fun i=>f i+g i) o v=dot f o v+dot g o v
 |[],_=>rfl
 |x::v,o=>by
  simp only [dot]
  rw [dot_add f g v,Int.mul_add];omega
theorem aPA:∀ (v:List Int) (o:Nat),dot (fun _=>0) o v=0
 |[],_=>rfl
 |x::v,o=>by simp only [dot];rw [aPA v];simp
theorem dot_one (k:Nat) (z:Int):∀ (v:List Int) (o:Nat),dot (fun i=>if i=k then z else 0) o v=if o<=k/\k < o+v.length then v.getD (k - o) 0 * z else 0
 |[],o=>by
  rw [if_neg (by simp only [List.length_nil];omega)];rfl
 |x::v,o=>by
  simp only [dot,List.length_cons]
  rw [dot_one k z v (o+1)]
  by_cases h:o=k
  ·subst h
   rw [if_pos rfl,if_neg (by omega),if_pos (by omega),Nat.sub_self]
   simp
  ·rw [if_neg h]
   by_cases h2:o+1<=k/\k < o+1+v.length
   ·rw [if_pos h2,if_pos (by omega),show k - o=(k - (o+1))+1 by omega]
    simp
   ·rw [if_neg h2,if_neg (by omega)];simp
theorem aNW (c:List Int) (g:Int->Int):∀ E:List Edge,(∀ e∈E,0<=e.F/\e.F < c.length)->(E.map fun e=>c.getD e.F.toNat 0 * g e.To).sum=dot (fun k=>((E.filter fun e=>e.F == (k:Int)).map fun e=>g e.To).sum) 0 c
 |[],_=>by
  simp only [List.map_nil,List.sum_nil,List.filter_nil]
  rw [aPA]
 |e::E,h=>by
  have he:=h e List.mem_cons_self
  rw [List.map_cons,List.sum_cons,aNW c g E fun x hx=>h x (List.mem_cons_of_mem _ hx)]
  have h1:(fun k:Nat=>(((e::E).filter fun e=>e.F == (k:Int)).map fun e=>g e.To).sum)=fun k:Nat=>(if k=e.F.toNat then g e.To else 0)+((E.filter fun e=>e.F == (k:Int)).map fun e=>g e.To).sum:=by
   funext k
   rw [List.filter_cons]
   by_cases hk:k=e.F.toNat
   ·rw [if_pos (by rw [beq_iff_eq];omega),if_pos hk,List.map_cons,List.sum_cons]
   ·rw [if_neg (by rw [beq_iff_eq];omega),if_neg hk];simp
  rw [h1,dot_add,dot_one,if_pos (by omega),Nat.sub_zero]
section
variable {d:cO}
def BndC (c:List Int) (B:Int):Prop:=∀ x∈c,0<=x/\x<=B
theorem cnt_round (hd:aGt d) (z:Int) {c:List Int} {B:Int} (hc:c.length=d.N.toNat) (hB:0<=B/\B<=100000000) (hb:BndC c B):
  ∃ c',loop (fun s:List Int × Int=>rV (d,z) c s.1 s.2) (List.replicate d.N.toNat 0,0)=some c'/\c'.length=d.N.toNat/\BndC c' (300 * B)/\∀ m,dot (fun k=>pc d m k) 0 c'=dot (fun k=>pc d (m+1) k) 0 c:=by
 have h40:=hd.1.1
 have h300:=hd.1.2.2.2.1
 obtain ⟨c',h1,h2,h3,h4⟩:=aHR (step:=fun s:List Int × Int=>rV (d,z) c s.1 s.2) d.E.length (fun k (q:List Int)=>(q,(k:Int))) (fun i q=>q.length=d.N.toNat/\BndC q (i * B)/\∀ m,dot (fun k=>pc d m k) 0 q=((d.E.take i).map fun e=>c.getD e.F.toNat 0 * pc d m e.To).sum)
  (fun q=>q.length=d.N.toNat/\BndC q (300 * B)/\∀ m,dot (fun k=>pc d m k) 0 q=(d.E.map fun e=>c.getD e.F.toNat 0 * pc d m e.To).sum) (fun i q hi hI=>by
   obtain ⟨g1,g2,g3⟩:=hI
   have hb2:=aHp hd.1 (List.getElem_mem hi)
   have ht:d.E[i].To.toNat < q.length:=by omega
   have hf:d.E[i].F.toNat < c.length:=by omega
   have hiB:(i:Int) * B<=300 * B:=Int.mul_le_mul_of_nonneg_right (by omega) hB.1
   have hiB0:0<=(i:Int) * B:=Int.mul_nonneg (by omega) hB.1
   have v1:=g2 _ (List.getElem_mem ht)
   have v2:=hb _ (List.getElem_mem hf)
   have e1:ix q d.E[i].To=some q[d.E[i].To.toNat]:=by
    have:=aAR ht
    rwa [Int.toNat_of_nonneg hb2.2.1.1] at this
   have e2:ix c d.E[i].F=some c[d.E[i].F.toNat]:=by
    have:=aAR hf
    rwa [Int.toNat_of_nonneg hb2.1.1] at this
   have e3:Gv.st q d.E[i].To (q[d.E[i].To.toNat]+c[d.E[i].F.toNat])=some (q.set d.E[i].To.toNat (q[d.E[i].To.toNat]+c[d.E[i].F.toNat])):=by
    unfold Gv.st
    rw [if_pos ⟨hb2.2.1.1,ht⟩]
   refine ⟨q.set d.E[i].To.toNat (q[d.E[i].To.toNat]+c[d.E[i].F.toNat]),?_,by rw [List.length_set];exact g1,fun x hx=>?_,fun m=>?_⟩
   ·show rV (d,z) c q (i:Int)=_
    unfold rV
    rw [if_pos (aCg hi),aAR hi,wN,e1,wN,e2,wN,aHu (x:=q[d.E[i].To.toNat]+c[d.E[i].F.toNat]) (by omega) (by omega),e3,wN,aBf hi (by omega)]
   ·have hcast:(((i+1:Nat):Int)) * B=(i:Int) * B+B:=by rw [show ((i+1:Nat):Int)=(i:Int)+1 from rfl,Int.add_mul,Int.one_mul]
    rw [hcast]
    rcases List.mem_or_eq_of_mem_set hx with hx|rfl
    ·have:=g2 x hx;omega
    ·omega
   ·rw [aOE _ _ _ _ _ ht,g3 m,List.take_succ_eq_append_getElem hi,List.map_append,List.sum_append,List.map_singleton,List.sum_singleton,List.getD_eq_getElem?_getD,List.getElem?_eq_getElem hf,Nat.zero_add,Int.toNat_of_nonneg hb2.2.1.1]
    rfl) (fun q hI=>by
   obtain ⟨g1,g2,g3⟩:=hI
   have hiB:(d.E.length:Int) * B<=300 * B:=Int.mul_le_mul_of_nonneg_right (by omega) hB.1
   refine ⟨q,?_,g1,fun x hx=>by have:=g2 x hx;omega,fun m=>by rw [g3 m,List.take_length]⟩
   show rV (d,z) c q (d.E.length:Int)=_
   unfold rV
   rw [if_neg (by simp)]) d.E.length 0 (List.replicate d.N.toNat 0) (by omega) ⟨by simp,fun x hx=>by rw [List.mem_replicate] at hx;rw [hx.2];simp,fun m=>by rw [aNk];simp⟩
 refine ⟨c',h1,h2,h3,fun m=>?_⟩
 rw [h4 m,aNW c (fun x=>pc d m x) d.E fun e he=>by have:=aHp hd.1 he;omega]
 rfl
end
end Gv
set_option linter.unusedSimpArgs false
set_option linter.unusedVariables false
namespace Gv
open Go
theorem aPB (f:Nat->Int) (x:Int):∀ (v:List Int) (o:Nat),dot f o (v++[x])=dot f o v+x * f (o+v.length)
 |[],o=>by simp [dot]
 |y::v,o=>by
  simp only [List.cons_append,dot,List.length_cons]
  rw [aPB f x v (o+1),show o+1+v.length=o+(v.length+1) by omega];omega
section
variable {d:cO}
def p300:Nat->Int
 |0=>1
 |n+1=>300 * p300 n
theorem p300_le:∀ n,n<=3->1<=p300 n/\p300 n<=27000000
 |0,_=>by decide
 |1,_=>by decide
 |2,_=>by decide
 |3,_=>by decide
theorem aQK (hd:aGt d) (z:Int) {n:Nat} (hn:n<=3) {c0:List Int} (h0:c0.length=d.N.toNat) (hb0:BndC c0 1) (hp0:∀ m,dot (fun k=>pc d m k) 0 c0=pc d m 0):
  ∃ c,loop (fun s:List Int × Int=>rW (n:Int) (d,z) s.1 s.2) (c0,0)=some c/\c.length=d.N.toNat/\BndC c 27000000/\dot (fun k=>pc d 0 k) 0 c=pc d n 0:=by
 have h40:=hd.1.1
 have hm:mkz d.N (0:Int)=some (List.replicate d.N.toNat 0):=by
  unfold mkz
  rw [if_pos ⟨by omega,by unfold lim;omega⟩]
 exact aHR (step:=fun s:List Int × Int=>rW (n:Int) (d,z) s.1 s.2) n (fun k (q:List Int)=>(q,(k:Int))) (fun j q=>q.length=d.N.toNat/\BndC q (p300 j)/\∀ m,dot (fun k=>pc d m k) 0 q=pc d (m+j) 0)
  (fun q=>q.length=d.N.toNat/\BndC q 27000000/\dot (fun k=>pc d 0 k) 0 q=pc d n 0) (fun j q hj hI=>by
   obtain ⟨g1,g2,g3⟩:=hI
   have hp:=p300_le j (by omega)
   obtain ⟨c',e1,e2,e3,e4⟩:=cnt_round hd z g1 (B:=p300 j) (by omega) g2
   refine ⟨c',?_,e2,e3,fun m=>?_⟩
   ·show rW (n:Int) (d,z) q (j:Int)=_
    unfold rW
    rw [if_pos (by simp;omega)]
    show (ob (mkz d.N 0) fun xs137=>_)=_
    rw [hm,wN,e1,wN]
    unfold mZ rU
    rw [aBf hj (by omega)]
   ·rw [e4 m,g3 (m+1),show m+1+j=m+(j+1) by omega]) (fun q hI=>by
   obtain ⟨g1,g2,g3⟩:=hI
   have hp:=p300_le n hn
   refine ⟨q,?_,g1,fun x hx=>by have:=g2 x hx;omega,by rw [g3 0,Nat.zero_add]⟩
   show rW (n:Int) (d,z) q (n:Int)=_
   unfold rW
   rw [if_neg (by simp)]) n 0 c0 (by omega) ⟨h0,hb0,hp0⟩
theorem cnt_sum {c:List Int} (hl:c.length<=40) (hb:BndC c 27000000):loop (fun s:Int × Int=>rT c s.1 s.2) (0,0)=some (dot (fun _=>1) 0 c):=by
 obtain ⟨r,h1,h2⟩:=aHR (step:=fun s:Int × Int=>rT c s.1 s.2) c.length (fun k (q:Int)=>(q,(k:Int))) (fun i q=>q=dot (fun _=>1) 0 (c.take i)/\0<=q/\q<=27000000 * i) (fun q=>q=dot (fun _=>1) 0 c) (fun i q hi hI=>by
   obtain ⟨g1,g2,g3⟩:=hI
   have hx:=hb _ (List.getElem_mem hi)
   refine ⟨q+c[i],?_,?_,by omega,by omega⟩
   ·show rT c q (i:Int)=_
    unfold rT
    rw [if_pos (aCg hi),aAR hi,wN,aHu (x:=q+c[i]) (by omega) (by omega),aBf hi (by omega)]
   ·rw [List.take_succ_eq_append_getElem hi,aPB,←g1];omega) (fun q hI=>by
   refine ⟨q,?_,by rw [hI.1,List.take_length]⟩
   show rT c q (c.length:Int)=_
   unfold rT
   rw [if_neg (by simp)]) c.length 0 0 (by omega) ⟨rfl,by omega,by omega⟩
 subst h2
 exact h1
end
section
variable {t:cO}
theorem aPC (hv:lD t) (hf:aBX 999999999 t) (hs:Small (aFi t)) {n:Nat} (hn:n<=3):tR t (n:Int)=some (pc (aIa t) n 0,0):=by
 have hd:aGt (aIa t):=aIC hv hs
 have h40:=hd.1.1
 unfold tR
 rw [aLw hv hf (by omega),if_pos hs,wN,if_neg (by simp)]
 have hm:mkz (aIa t).N (0:Int)=some (List.replicate (aIa t).N.toNat 0):=by
  unfold mkz
  rw [if_pos ⟨by omega,by unfold lim;omega⟩]
 show (ob (mkz (aIa t).N 0) fun xs25=>_)=_
 have hl:(List.replicate (aIa t).N.toNat (0:Int)).length=(aIa t).N.toNat:=by simp
 have hi0:ix (List.replicate (aIa t).N.toNat (0:Int)) 0=some 0:=by
  unfold ix
  rw [if_pos (by decide),List.getElem?_replicate,if_pos (by show 0 < _;omega)]
 have hst:st (List.replicate (aIa t).N.toNat (0:Int)) 0 1=some ((List.replicate (aIa t).N.toNat (0:Int)).set 0 1):=by
  unfold Gv.st
  rw [if_pos ⟨by decide,by rw [hl];show 0 < _;omega⟩];rfl
 rw [hm,wN,hi0,wN,hst,wN]
 obtain ⟨c,e1,e2,e3,e4⟩:=aQK hd 0 hn (c0:=(List.replicate (aIa t).N.toNat (0:Int)).set 0 1) (by simp) (fun x hx=>by
  rcases List.mem_or_eq_of_mem_set hx with hx|rfl
  ·rw [List.mem_replicate] at hx;rw [hx.2];decide
  ·decide) (fun m=>by
  have h0:0 < (List.replicate (aIa t).N.toNat (0:Int)).length:=by rw [hl];omega
  have hg:(List.replicate (aIa t).N.toNat (0:Int))[0]+1=1:=by rw [List.getElem_replicate];rfl
  have:=aOE (fun k=>pc (aIa t) m k) 1 (List.replicate (aIa t).N.toNat (0:Int)) 0 0 h0
  rw [hg,aNk] at this
  rw [this]
  simp)
 show (ob (loop (fun s:List Int × Int=>rW (n:Int) (aIa t,0) s.1 s.2) ((List.replicate (aIa t).N.toNat (0:Int)).set 0 1,0)) fun r=>mY r)=_
 rw [e1,wN]
 unfold mY mX
 rw [cnt_sum (by rw [e2];omega) e3,wN]
 have:dot (fun _=>1) 0 c=pc (aIa t) n 0:=e4
 rw [this]
end
end Gv
set_option linter.unusedSimpArgs false
set_option linter.unusedVariables false
namespace Gv
open Go
theorem aNl {γ δ:Type} (f:δ->Int) (g:γ->List δ):∀ l:List γ,((l.flatMap g).map f).sum=(l.map fun x=>((g x).map f).sum).sum
 |[]=>rfl
 |x::l=>by rw [List.flatMap_cons,List.map_append,List.sum_append,aNl f g l,List.map_cons,List.sum_cons]
theorem sum_nil {γ:Type} {l:List γ} {f:γ->Int} (h:∀ x∈l,f x=0):(l.map f).sum=0:=by
 induction l with
 |nil=>rfl
 |cons x l ih=>rw [List.map_cons,List.sum_cons,h x List.mem_cons_self,ih fun y hy=>h y (List.mem_cons_of_mem _ hy)];rfl
section
variable {d:cO} {n:Nat}
def wgt (d:cO) (n k:Nat) (e:bT):Int:=if e.trace.length=k then pc d (n - k) e.a else 0
theorem wgt_kid {k:Nat} (hk:k < n) (e:bT):((kid d n e).map (wgt d n (k+1))).sum=wgt d n k e:=by
 unfold kid
 by_cases h:e.trace.length=n
 ·rw [if_pos h]
  unfold wgt
  rw [if_neg (by omega)];rfl
 ·rw [if_neg h,List.map_map]
  unfold wgt
  by_cases h2:e.trace.length=k
  ·rw [if_pos h2,show n - k=(n - (k+1))+1 by omega]
   show _=((aIc d e.a).map fun x=>pc d (n - (k+1)) x.To).sum
   congr 1
   refine List.map_congr_left fun x _=>?_
   simp only [Function.comp,List.length_append,List.length_singleton]
   rw [if_pos (by omega)]
  ·rw [if_neg h2]
   refine sum_nil fun x _=>?_
   simp only [Function.comp,List.length_append,List.length_singleton]
   rw [if_neg (by omega)]
theorem wgt_zero (e:bT):((kid d n e).map (wgt d n 0)).sum=0:=by
 unfold kid
 split
 ·rfl
 ·rw [List.map_map]
  refine sum_nil fun x _=>?_
  unfold wgt
  simp only [Function.comp,List.length_append,List.length_singleton]
  rw [if_neg (by omega)]
theorem wgt_all {all:List bT} (h:all=⟨0,0,[]⟩::all.flatMap (kid d n)):∀ k,k<=n->(all.map (wgt d n k)).sum=pc d n 0
 |0,_=>by
  have:(all.map (wgt d n 0)).sum=((⟨0,0,[]⟩::all.flatMap (kid d n):List bT).map (wgt d n 0)).sum:=by rw [←h]
  rw [this,List.map_cons,List.sum_cons,aNl,sum_nil fun e _=>wgt_zero e]
  unfold wgt
  simp
 |k+1,hk=>by
  have:(all.map (wgt d n (k+1))).sum=((⟨0,0,[]⟩::all.flatMap (kid d n):List bT).map (wgt d n (k+1))).sum:=by rw [←h]
  rw [this,List.map_cons,List.sum_cons,aNl]
  have e1:(all.map fun x=>((kid d n x).map (wgt d n (k+1))).sum)=all.map (wgt d n k):=List.map_congr_left fun e _=>wgt_kid (by omega) e
  rw [e1,wgt_all h k (by omega)]
  unfold wgt
  simp
theorem long_loop {all:List bT} (hl:all.length<=1000) (h:all=⟨0,0,[]⟩::all.flatMap (kid d n)):loop (fun s:Int × Int=>lZ (n:Int) (all.map (·.trace),0) s.1 s.2) (0,0)=some (pc d n 0):=by
 obtain ⟨r,h1,h2⟩:=aHR (step:=fun s:Int × Int=>lZ (n:Int) (all.map (·.trace),0) s.1 s.2) all.length (fun k (q:Int)=>(q,(k:Int))) (fun i q=>q=((all.take i).map (wgt d n n)).sum/\0<=q/\q<=i) (fun q=>q=(all.map (wgt d n n)).sum) (fun i q hi hI=>by
   obtain ⟨g1,g2,g3⟩:=hI
   have hi':i < (all.map (·.trace)).length:=by simpa using hi
   have hs:((all.take (i+1)).map (wgt d n n)).sum=q+wgt d n n all[i]:=by
    rw [List.take_succ_eq_append_getElem hi,List.map_append,List.sum_append,List.map_singleton,List.sum_singleton,←g1]
   by_cases hn:all[i].trace.length=n
   ·have hw:wgt d n n all[i]=1:=by unfold wgt;rw [if_pos hn,Nat.sub_self];rfl
    refine ⟨q+1,?_,by rw [hs,hw],by omega,by omega⟩
    show lZ (n:Int) (all.map (·.trace),0) q (i:Int)=_
    unfold lZ jJ
    rw [if_pos (aCg hi'),aAR hi',wN,List.getElem_map,if_pos (by simp [hn]),aHu (x:=q+1) (by omega) (by omega),aBf hi (by omega)]
   ·have hw:wgt d n n all[i]=0:=by unfold wgt;rw [if_neg hn]
    refine ⟨q,?_,by rw [hs,hw];omega,by omega,by omega⟩
    show lZ (n:Int) (all.map (·.trace),0) q (i:Int)=_
    unfold lZ jJ
    rw [if_pos (aCg hi'),aAR hi',wN,List.getElem_map,if_neg (by simp;omega),aBf hi (by omega)]) (fun q hI=>by
   refine ⟨q,?_,by rw [hI.1,List.take_length]⟩
   show lZ (n:Int) (all.map (·.trace),0) q (all.length:Int)=_
   unfold lZ
   rw [if_neg (by simp)]) all.length 0 0 (by omega) ⟨rfl,by omega,by omega⟩
 rw [wgt_all h n (Nat.le_refl _)] at h2
 subst h2
 exact h1
end
end Gv
set_option linter.unusedSimpArgs false
set_option linter.unusedVariables false
namespace Gv
open Go
section
variable {m:cO}
theorem one_vis (hm:aGt m) (q:Int) (s:bD):aKX m [q] s=if bW m q s < 0 then [] else [bW m q s]:=by
 unfold aKX
 rw [aQa hm.1 hm.2]
 unfold bW
 cases hf:m.E.find? (hit m q s) with
 |none=>rfl
 |some e=>
  have hb:=aHp hm.1 (List.mem_of_find?_eq_some hf)
  simp only
  rw [if_neg (by omega)];rfl
theorem one_fst (hm:aGt m):aIR m=[m.I]:=by
 have h1:=(aLr hm.1).2.1
 rw [aLT hm.1 hm.2 _ (by simp)] at h1
 exact (Option.some.inj h1).symm
theorem one_aft (hm:aGt m) (h0:m.I=0) (tr:List bD):aft m tr=if aIg m tr < 0 then [] else [aIg m tr]:=by
 induction tr using aKK with
 |nil=>
  show aIR m=if (0:Int) < 0 then [] else [0]
  rw [one_fst hm,h0];rfl
 |snoc tr s ih=>
  rw [aPl,aIA,ih]
  by_cases h:aIg m tr < 0
  ·rw [if_pos h,aPm hm.1,aKk hm.1 h];rfl
  ·rw [if_neg h,one_vis hm]
theorem one_nil (hm:aGt m) (h0:m.I=0) (tr:List bD):aft m tr=[]<->aIg m tr < 0:=by
 rw [one_aft hm h0]
 by_cases h:aIg m tr < 0<;>simp [h]
def Sgl (m:cO) (S:List Int):Prop:=∃ x,inS m x/\S=[x]
theorem aPD (hm:aGt m) {x:Int} (hx:inS m x) {k:Nat} (hk:k < m.L.length):nxt m [x] (k:Int)=if bW m x m.L[k] < 0 then [] else [bW m x m.L[k]]:=by
 have hg:aIk m [x]:=⟨by simp,fun q hq=>by rw [List.mem_singleton] at hq;subst hq;exact hx⟩
 rw [←aOu hm.1 hg hk,one_vis hm]
theorem one_sets (hm:aGt m) (h0:m.I=0):(aFi m).1.Nodup/\(∀ S∈(aFi m).1,Sgl m S)/\(aFi m).1.length<=40:=by
 have h40:=hm.1.1
 have hP:∀ S,Sgl m S->∀ x∈aHV m S,Sgl m x.2:=by
  rintro S ⟨x,hx,rfl⟩ y hy
  unfold aHV at hy
  obtain ⟨k,k1,k2,k3,rfl⟩:=(aKJ [x] _ _).1 hy
  have hk:k < m.L.length:=by have:=hm.1.2.2.1.1;omega
  rw [aPD hm hx hk] at k3 ⊢
  by_cases h:bW m x m.L[k] < 0
  ·rw [if_pos h] at k3;exact absurd rfl k3
  ·rw [if_neg h]
   exact ⟨_,aNV hm.1 (by omega),rfl⟩
 obtain ⟨g1,g2⟩:=aOn (key:=id) hP 40 41 0 ([aIR m],[]) (by simp) (fun S hS=>by
  rw [List.mem_singleton] at hS
  subst hS
  rw [one_fst hm,h0]
  exact ⟨0,by unfold inS;omega,rfl⟩)
 have hn:(aFi m).1.Nodup:=by
  have g1':((aFi m).1.map id).Nodup:=g1
  rwa [List.map_id] at g1'
 refine ⟨hn,g2,?_⟩
 have:=List.Nodup.length_le_of_subset (l₂:=(List.range m.N.toNat).map fun (i:Nat)=>[(i:Int)]) hn (fun S hS=>by
  obtain ⟨x,hx,rfl⟩:=g2 S hS
  unfold inS at hx
  rw [List.mem_map]
  exact ⟨x.toNat,by rw [List.mem_range];omega,by rw [Int.toNat_of_nonneg hx.1]⟩)
 rw [List.length_map,List.length_range] at this
 omega
theorem one_small (hm:aGt m) (h0:m.I=0):Small (aFi m):=by
 obtain ⟨hn,hs,hl⟩:=one_sets hm h0
 refine ⟨hl,?_⟩
 have h300:=hm.1.2.2.2.1
 have hfl:(aFi m).2.Pairwise aIG:=(aKR hm.1).2.2.1
 have key:=List.Nodup.length_le_of_subset (l₁:=(aFi m).2.map fun e=>(⟨((aFi m).1.getD e.F.toNat []).getD 0 0,e.B,bW m (((aFi m).1.getD e.F.toNat []).getD 0 0) (aII m e.B.toNat)⟩:Edge)) (l₂:=m.E) ?_ (fun x hx=>?_)
 ·rw [List.length_map] at key;omega
 ·rw [List.nodup_iff_pairwise_ne,List.pairwise_map]
  refine hfl.imp_of_mem fun {a b} ha hb hab e=>?_
  obtain ⟨j,S,hj,k,k1,k2,k3,k4,rfl⟩:=(aJM hm.1 hl a).1 ha
  obtain ⟨j',S',hj',k',k1',k2',k3',k4',rfl⟩:=(aJM hm.1 hl b).1 hb
  obtain ⟨x,hx,rfl⟩:=hs S (List.mem_of_getElem? hj)
  obtain ⟨y,hy,rfl⟩:=hs S' (List.mem_of_getElem? hj')
  have e1:((aFi m).1.getD j []).getD 0 0=((aFi m).1.getD j' []).getD 0 0:=congrArg Edge.F e
  have e2:(k:Int)=(k':Int):=congrArg Edge.B e
  rw [List.getD_eq_getElem?_getD (l:=(aFi m).1),List.getD_eq_getElem?_getD (l:=(aFi m).1),hj,hj'] at e1
  have e1:x=y:=e1
  subst e1
  have p1:=aKQ hn hj
  have p2:=aKQ hn hj'
  unfold aIG at hab
  simp only at hab
  omega
 ·obtain ⟨e,he,rfl⟩:=List.mem_map.1 hx
  obtain ⟨j,S,hj,k,k1,k2,k3,k4,rfl⟩:=(aJM hm.1 hl e).1 he
  obtain ⟨x,hxS,rfl⟩:=hs S (List.mem_of_getElem? hj)
  have hq:((aFi m).1.getD j []).getD 0 0=x:=by rw [List.getD_eq_getElem?_getD (l:=(aFi m).1),hj];rfl
  show (⟨((aFi m).1.getD j []).getD 0 0,(k:Int),bW m (((aFi m).1.getD j []).getD 0 0) (aII m k)⟩:Edge)∈m.E
  rw [hq]
  have hlk:aII m k=m.L[k]:=by unfold aII;rw [List.getD_eq_getElem?_getD,List.getElem?_eq_getElem k2];rfl
  rw [aPD hm hxS k2] at k3
  rw [hlk]
  unfold bW at k3 ⊢
  cases hf:m.E.find? (hit m x m.L[k]) with
  |none=>rw [hf] at k3;exact absurd rfl k3
  |some y=>
   have hy:=List.mem_of_find?_eq_some hf
   have hh:=List.find?_some hf
   unfold hit at hh
   rw [Bool.and_eq_true,beq_iff_eq] at hh
   have ht:=aJm hm.1 hy (List.getElem_mem k2)
   rw [hh.2] at ht
   have ht:=beq_iff_eq.1 ht.symm
   rw [aJX hm.1.2.2.1 k2] at ht
   have:(⟨x,(k:Int),y.To⟩:Edge)=y:=by
    obtain ⟨y1,y2,y3⟩:=y
    simp only at hh ht ⊢
    rw [hh.1,ht]
   simp only
   rw [this]
   exact hy
end
end Gv
namespace Gv
open Go
inductive F2 {α β:Type} (R:α->β->Prop):List α->List β->Prop
 |nil:F2 R [] []
 |cons {x y l m}:R x y->F2 R l m->F2 R (x::l) (y::m)
section
variable {α β:Type} {R:α->β->Prop}
theorem F2.len {l:List α} {m:List β} (h:F2 R l m):l.length=m.length:=by
 induction h with
 |nil=>rfl
 |cons _ _ ih=>rw [List.length_cons,List.length_cons,ih]
theorem F2.app {l l':List α} {m m':List β} (h:F2 R l m) (h':F2 R l' m'):F2 R (l++l') (m++m'):=by
 induction h with
 |nil=>exact h'
 |cons h1 _ ih=>exact .cons h1 ih
theorem F2.at {l:List α} {m:List β} (h:F2 R l m):∀ i:Nat,(l[i]?=none/\m[i]?=none)\/∃ x y,l[i]?=some x/\m[i]?=some y/\R x y:=by
 induction h with
 |nil=>intro i;left;simp
 |cons h1 _ ih=>
  intro i
  cases i with
  |zero=>exact .inr ⟨_,_,rfl,rfl,h1⟩
  |succ i=>simpa using ih i
theorem aNX {γ δ:Type} [BEq γ] [BEq δ] {l:List γ} {m:List δ} {v:γ} {w:δ} (h:l.map (fun x=>v == x)=m.map (fun x=>w == x)):pos l v=pos m w:=by
 unfold pos
 have e1:l.findIdx? (fun x=>v == x)=(l.map fun x=>v == x).findIdx? id:=by rw [List.findIdx?_map];rfl
 have e2:m.findIdx? (fun x=>w == x)=(m.map fun x=>w == x).findIdx? id:=by rw [List.findIdx?_map];rfl
 rw [e1,e2,h]
end
section
variable {κ1 κ2 β1 β2:Type} [DecidableEq β1] [BEq β1] [LawfulBEq β1] [DecidableEq β2] [BEq β2] [LawfulBEq β2] {key1:κ1->β1} {key2:κ2->β2} {Rel:κ1->κ2->Prop} {LR:Int->Int->Prop}
def RE (LR:Int->Int->Prop) (e f:Edge):Prop:=e.F=f.F/\LR e.B f.B/\e.To=f.To
theorem aPE (hk:∀ x x' y y',Rel x y->Rel x' y'->(key1 x=key1 x'<->key2 y=key2 y')) {A:List κ1} {B:List κ2} (h:F2 Rel A B) {x:κ1} {y:κ2} (hr:Rel x y):(A.map key1).map (fun z=>key1 x == z)=(B.map key2).map (fun z=>key2 y == z):=by
 induction h with
 |nil=>rfl
 |@cons a b l m h1 _ ih=>
  simp only [List.map_cons] at ih ⊢
  rw [ih]
  congr 1
  have:=hk _ _ _ _ hr h1
  by_cases hx:key1 x=key1 a
  ·rw [hx,beq_self_eq_true,this.1 hx,beq_self_eq_true]
  ·rw [beq_eq_false_iff_ne.2 hx,beq_eq_false_iff_ne.2 fun g=>hx (this.2 g)]
theorem f2_mem (hk:∀ x x' y y',Rel x y->Rel x' y'->(key1 x=key1 x'<->key2 y=key2 y')) {A:List κ1} {B:List κ2} (h:F2 Rel A B) {x:κ1} {y:κ2} (hr:Rel x y):key1 x∈A.map key1<->key2 y∈B.map key2:=by
 rw [←aIO,←aIO,aNX (aPE hk h hr)]
theorem f2_ins (hk:∀ x x' y y',Rel x y->Rel x' y'->(key1 x=key1 x'<->key2 y=key2 y')) {A:List κ1} {B:List κ2} (h:F2 Rel A B) {x:κ1} {y:κ2} (hr:Rel x y):F2 Rel (aIu key1 A x) (aIu key2 B y)/\atK key1 A x=atK key2 B y:=by
 have hm:=f2_mem hk h hr
 unfold aIu atK
 by_cases hx:key1 x∈A.map key1
 ·rw [if_pos hx,if_pos (hm.1 hx),if_pos hx,if_pos (hm.1 hx)]
  exact ⟨h,aNX (aPE hk h hr)⟩
 ·have hy:key2 y∉B.map key2:=fun g=>hx (hm.2 g)
  rw [if_neg hx,if_neg hy,if_neg hx,if_neg hy,h.len]
  exact ⟨h.app (.cons hr .nil),rfl⟩
theorem f2_addA (hk:∀ x x' y y',Rel x y->Rel x' y'->(key1 x=key1 x'<->key2 y=key2 y')) (i:Int) {l:List (Int × κ1)} {m:List (Int × κ2)} (h:F2 (fun u v=>LR u.1 v.1/\Rel u.2 v.2) l m):
  ∀ {s1:List κ1 × List Edge} {s2:List κ2 × List Edge},F2 Rel s1.1 s2.1->F2 (RE LR) s1.2 s2.2->F2 Rel (aHH key1 i l s1).1 (aHH key2 i m s2).1/\F2 (RE LR) (aHH key1 i l s1).2 (aHH key2 i m s2).2:=by
 induction h with
 |nil=>intro s1 s2 h1 h2;exact ⟨h1,h2⟩
 |cons hx _ ih=>
  intro s1 s2 h1 h2
  rw [aIE,aIE]
  obtain ⟨g1,g2⟩:=f2_ins hk h1 hx.2
  exact ih g1 (h2.app (.cons ⟨rfl,hx.1,g2⟩ .nil))
theorem f2_xpl (hk:∀ x x' y y',Rel x y->Rel x' y'->(key1 x=key1 x'<->key2 y=key2 y')) {nx1:κ1->List (Int × κ1)} {nx2:κ2->List (Int × κ2)} (hn:∀ x y,Rel x y->F2 (fun u v=>LR u.1 v.1/\Rel u.2 v.2) (nx1 x) (nx2 y)) (B:Nat):
  ∀ (n i:Nat) {s1:List κ1 × List Edge} {s2:List κ2 × List Edge},F2 Rel s1.1 s2.1->F2 (RE LR) s1.2 s2.2->F2 Rel (xpl key1 nx1 B n i s1).1 (xpl key2 nx2 B n i s2).1/\F2 (RE LR) (xpl key1 nx1 B n i s1).2 (xpl key2 nx2 B n i s2).2
 |0,_,_,_,h1,h2=>⟨h1,h2⟩
 |n+1,i,s1,s2,h1,h2=>by
  unfold xpl
  rcases h1.at i with ⟨e1,e2⟩|⟨x,y,e1,e2,hr⟩
  ·rw [e1,e2];exact ⟨h1,h2⟩
  ·rw [e1,e2]
   obtain ⟨g1,g2⟩:=f2_addA hk (i:Int) (hn _ _ hr) h1 h2
   simp only
   rw [g1.len]
   split
   ·exact ⟨g1,g2⟩
   ·exact f2_xpl hk hn B n (i+1) g1 g2
end
end Gv
namespace Gv
open Go
section
variable {d:cO}
theorem txt_at (hd:lD d) {e:Edge} (he:e∈d.E):∃ h:e.B.toNat < d.L.length,txt d e=d.L[e.B.toNat]:=by
 have hb:=aHp hd he
 refine ⟨by omega,?_⟩
 unfold txt
 rw [List.getD_eq_getElem?_getD,List.getElem?_eq_getElem (by omega)];rfl
theorem aNY (hd:aGt d) (x:Int):((aIc d x).map (txt d)).Pairwise fun a b=>uS a b=true:=by
 rw [List.pairwise_map]
 refine (aLI hd x).imp_of_mem fun {e f} he hf hlt=>?_
 have he':=(List.mem_filter.1 he).1
 have hf':=(List.mem_filter.1 hf).1
 have hbe:=aHp hd.1 he'
 obtain ⟨h1,e1⟩:=txt_at hd.1 he'
 obtain ⟨h2,e2⟩:=txt_at hd.1 hf'
 have hp:d.L.Pairwise fun a b=>uS a b=true:=by
  have:=(aJb hd.1).2.lab
  rwa [←(aJb hd.1).1] at this
 rw [e1,e2]
 exact List.pairwise_iff_getElem.1 hp _ _ h1 h2 (by omega)
theorem aLy (hd:aGt d) (x:Int) (s:bD):s∈(aIc d x).map (txt d)<->s≠nD/\0<=bW d x s:=by
 rw [List.mem_map]
 constructor
 ·rintro ⟨e,he,rfl⟩
  obtain ⟨h1,h2⟩:=aKg hd he
  have he':=(List.mem_filter.1 he).1
  obtain ⟨k,hk,hke⟩:=List.mem_iff_getElem.1 he'
  have h0:=(hd.2 k hk).1
  rw [hke] at h0
  refine ⟨fun ht=>?_,by rw [h1];exact h2⟩
  obtain ⟨g0,g1⟩:=tau_at hd.1
  have:=aJm hd.1 he' (List.getElem_mem g0)
  rw [g1,ht,beq_self_eq_true,←g1,aJX hd.1.2.2.1 g0] at this
  have:=beq_iff_eq.1 this.symm
  exact h0 this
 ·rintro ⟨_,h0⟩
  unfold bW at h0
  cases hf:d.E.find? (hit d x s) with
  |none=>rw [hf] at h0;exact absurd h0 (by decide)
  |some y=>
   have hh:=List.find?_some hf
   unfold hit at hh
   rw [Bool.and_eq_true] at hh
   exact ⟨y,List.mem_filter.2 ⟨List.mem_of_find?_eq_some hf,hh.1⟩,beq_iff_eq.1 hh.2⟩
end
def aKM (a b:cO) (x y:Int):Prop:=inS a x/\inS b y/\∀ tr:List bD,(∀ s∈tr,s≠nD)->(aKY a x tr < 0<->aKY b y tr < 0)
section
variable {a b:cO}
theorem aKM.step {x y:Int} (ha:lD a) (hb:lD b) (h:aKM a b x y) {s:bD} (hs:s≠nD):(bW a x s < 0<->bW b y s < 0)/\(0<=bW a x s->aKM a b (bW a x s) (bW b y s)):=by
 have h1:bW a x s < 0<->bW b y s < 0:=h.2.2 [s] fun z hz=>by rw [List.mem_singleton] at hz;exact hz ▸ hs
 refine ⟨h1,fun h0=>⟨aNV ha h0,aNV hb (by omega),fun tr ht=>?_⟩⟩
 exact h.2.2 (s::tr) fun z hz=>by rcases List.mem_cons.1 hz with rfl|hz;exact hs;exact ht z hz
theorem aKM.texts (ha:aGt a) (hb:aGt b) {x y:Int} (h:aKM a b x y):(aIc a x).map (txt a)=(aIc b y).map (txt b):=by
 refine aGq (R:=fun p q=>uS p q=true) (fun p g=>by rw [aJA] at g;cases g) (fun h1 h2=>aKB h1 h2) (aNY ha x) (aNY hb y) fun s=>?_
 rw [aLy ha,aLy hb]
 constructor
 ·rintro ⟨hs,h0⟩
  have:=(h.step ha.1 hb.1 hs).1
  exact ⟨hs,by omega⟩
 ·rintro ⟨hs,h0⟩
  have:=(h.step ha.1 hb.1 hs).1
  exact ⟨hs,by omega⟩
end
end Gv
namespace Gv
open Go
section
variable {d:cO}
theorem aLz (hd:lD d):∀ (tr:List bD) (x:Int),(∀ s∈tr,s≠nD)->(¬ ∀ s∈tr,s∈d.L.tail)->aKY d x tr < 0
 |[],_,_,h=>absurd (fun s hs=>by simp at hs) h
 |s::tr,x,ht,h=>by
  rw [aKV]
  by_cases hs:s∈d.L.tail
  ·exact aLz hd tr _ (fun z hz=>ht z (List.mem_cons_of_mem _ hz)) fun g=>h fun z hz=>by rcases List.mem_cons.1 hz with rfl|hz;exact hs;exact g z hz
  ·rw [aOB hd fun g=>hs ((aOC hd (ht s List.mem_cons_self)).1 g)]
   exact aNb hd (by decide) tr
theorem kQ_all (hd:lD d) {x y:Int} (hx:inS d x) (hy:inS d y):kQ d x=kQ d y<->∀ tr:List bD,(∀ s∈tr,s≠nD)->(aKY d x tr < 0<->aKY d y tr < 0):=by
 rw [aOw hd hx hy]
 constructor
 ·intro h tr ht
  by_cases hm:∀ s∈tr,s∈d.L.tail
  ·exact h tr hm
  ·exact ⟨fun _=>aLz hd tr y ht hm,fun _=>aLz hd tr x ht hm⟩
 ·intro h tr ht
  exact h tr fun s hs e=>(aJb hd).2.2 (e ▸ ht s hs)
end
theorem f2_map {γ δ ε ζ η:Type} {f:γ->ε} {g:δ->ε} {p:γ->ζ} {q:δ->η} {R:ζ->η->Prop}:∀ {l:List γ} {m:List δ},l.map f=m.map g->(∀ e∈l,∀ e'∈m,f e=g e'->R (p e) (q e'))->F2 R (l.map p) (m.map q)
 |[],[],_,_=>.nil
 |[],_::_,h,_=>by simp at h
 |_::_,[],h,_=>by simp at h
 |e::l,e'::m,h,hR=>by
  rw [List.map_cons,List.map_cons,List.cons.injEq] at h
  rw [List.map_cons,List.map_cons]
  exact .cons (hR e List.mem_cons_self e' List.mem_cons_self h.1) (f2_map h.2 fun x hx y hy=>hR x (List.mem_cons_of_mem _ hx) y (List.mem_cons_of_mem _ hy))
section
variable {a b:cO}
def LRab (a b:cO) (k k':Int):Prop:=aII a k.toNat=aII b k'.toNat
theorem aKM.keys (ha:lD a) (hb:lD b):∀ x x' y y',aKM a b x y->aKM a b x' y'->(kQ a x=kQ a x'<->kQ b y=kQ b y'):=fun x x' y y' h h'=>by
 rw [kQ_all ha h.1 h'.1,kQ_all hb h.2.1 h'.2.1]
 constructor
 ·intro g tr ht;rw [←h.2.2 tr ht,←h'.2.2 tr ht];exact g tr ht
 ·intro g tr ht;rw [h.2.2 tr ht,h'.2.2 tr ht];exact g tr ht
theorem aKM.nexts (ha:aGt a) (hb:aGt b):∀ x y,aKM a b x y->F2 (fun u v=>LRab a b u.1 v.1/\aKM a b u.2 v.2) (nxM a x) (nxM b y):=fun x y h=>by
 rw [aOr ha,aOr hb]
 refine f2_map (h.texts ha hb) fun e he e' he' ht=>⟨ht,?_⟩
 have h1:=aKg ha he
 have h2:=aKg hb he'
 have hs:=((aLy ha x (txt a e)).1 (List.mem_map_of_mem he)).1
 have:=(h.step ha.1 hb.1 hs).2 (by rw [h1.1];exact h1.2)
 rw [h1.1,ht,h2.1] at this
 exact this
theorem aPF (ha:aGt a) (hb:aGt b) (h:aKM a b 0 0):F2 (aKM a b) (mnF a) (mnF b)/\F2 (RE (LRab a b)) (mnE a) (mnE b):=
 f2_xpl (key1:=kQ a) (key2:=kQ b) (aKM.keys ha.1 hb.1) (aKM.nexts ha hb) 40 41 0 (s1:=([0],[])) (s2:=([0],[])) (.cons h .nil) .nil
end
end Gv
namespace Gv
open Go
theorem f2_eq {γ δ ε:Type} {R:γ->δ->Prop} {f:γ->ε} {g:δ->ε} {l:List γ} {m:List δ} (h:F2 R l m):(∀ e∈l,∀ e'∈m,R e e'->f e=g e')->l.map f=m.map g:=by
 induction h with
 |nil=>intro _;rfl
 |cons h1 _ ih=>
  intro hR
  rw [List.map_cons,List.map_cons,hR _ List.mem_cons_self _ List.mem_cons_self h1,ih fun x hx y hy=>hR x (List.mem_cons_of_mem _ hx) y (List.mem_cons_of_mem _ hy)]
section
variable {a b:cO}
theorem arcs_same (ha:aGt a) (hb:aGt b) (h:aKM a b 0 0):(mnE a).map (aGS a.L.tail)=(mnE b).map (aGS b.L.tail):=by
 refine f2_eq (aPF ha hb h).2 fun e he e' he' hr=>?_
 obtain ⟨j,q,_,k,k1,k2,_,rfl⟩:=(aLi ha.1 e).1 he
 obtain ⟨j',q',_,k',k1',k2',_,rfl⟩:=(aLi hb.1 e').1 he'
 obtain ⟨r1,r2,r3⟩:=hr
 have t1:=aMm ha.1 k1 k2 (j:Int) (pos ((mnF a).map (kQ a)) (kQ a (bW a q (aII a k))))
 have t2:=aMm hb.1 k1' k2' (j':Int) (pos ((mnF b).map (kQ b)) (kQ b (bW b q' (aII b k'))))
 have r2':aII a k=aII b k':=r2
 unfold aGS at t1 t2 ⊢
 simp only at t1 t2 r1 r3 ⊢
 rw [t1,t2,r1,r3,r2']
theorem min_same (ha:aGt a) (hb:aGt b) (h:aKM a b 0 0):aJr a=aJr b:=by
 have harc:=arcs_same ha hb h
 have hlen:=(aPF ha hb h).1.len
 have hu:aJj a.L.tail (mnE a)=aJj b.L.tail (mnE b):=by
  have s1:aIZ (aJj a.L.tail (mnE a)):=(aKr ha.1).1.sub List.filter_sublist
  have s2:aIZ (aJj b.L.tail (mnE b)):=(aKr hb.1).1.sub List.filter_sublist
  refine aGq (R:=fun p q=>ltB p q=true) (fun p g=>by rw [aDY] at g;cases g) (fun h1 h2=>aDg h1 h2) s1.strict.1 s2.strict.1 fun s=>?_
  rw [aJp fun x hx=>(aOA ha.1 x hx).2.1,aJp fun x hx=>(aOA hb.1 x hx).2.1,harc]
 show aHP a.L.tail (mnF a).length (mnE a)=aHP b.L.tail (mnF b).length (mnE b)
 unfold aHP
 rw [hlen,hu,harc]
end
end Gv
namespace Gv
open Go
theorem aPG {γ:Type} [DecidableEq γ] {l m:List γ} (hlen:l.length=m.length) {step:Int->Option (Int ⊕ (Unit ⊕ Bool))}
  (h:∀ (k:Nat) (hk:k < l.length),step (k:Int)=if l[k]=m[k]'(by omega) then some (.inl ((k+1:Nat):Int)) else some (.inr (.inr false))) (h':step (l.length:Int)=some (.inr (.inl ()))):loop step 0=some (if l=m then .inl () else .inr false):=by
 obtain ⟨r,h1,h2⟩:=aIx (step:=step) (fun s=>∃ k:Nat,s=(k:Int)/\k<=l.length/\l.take k=m.take k) (fun s=>l.length - s.toNat) (fun r=>(r=.inl ()/\l=m)\/(r=.inr false/\l≠m)) (fun s hI=>by
  obtain ⟨k,rfl,hk,ht⟩:=hI
  by_cases he:k=l.length
  ·right
   refine ⟨_,by rw [he];exact h',.inl ⟨rfl,?_⟩⟩
   rw [he,List.take_length,hlen,List.take_length] at ht
   exact ht
  ·have hk':k < l.length:=by omega
   by_cases heq:l[k]=m[k]'(by omega)
   ·left
    refine ⟨((k+1:Nat):Int),by rw [h k hk',if_pos heq],⟨k+1,rfl,by omega,?_⟩,by omega⟩
    rw [List.take_succ_eq_append_getElem hk',List.take_succ_eq_append_getElem (by omega),ht,heq]
   ·right
    refine ⟨_,by rw [h k hk',if_neg heq],.inr ⟨rfl,fun e=>heq ?_⟩⟩
    subst e;rfl) (s:=0) ⟨0,rfl,Nat.zero_le _,by simp⟩
 rw [h1]
 rcases h2 with ⟨rfl,e⟩|⟨rfl,e⟩
 ·rw [if_pos e]
 ·rw [if_neg e]
theorem Texts_eq (a b:List bD) (h:a.length<=1000000):aDQ a b=some (decide (a=b)):=by
 unfold aDQ
 by_cases hl:a.length=b.length
 ·rw [if_neg (by simp [hl]),aPG (l:=a) (m:=b) hl (fun k hk=>by
   unfold aAP
   rw [if_pos (aCg hk),aAR hk,wN,aAR (show k < b.length by omega),wN,aBf hk (by omega)]
   by_cases he:a[k]=b[k]'(by omega)
   ·rw [if_neg (by simp [he]),if_pos he]
   ·rw [if_pos (by simp [he]),if_neg he]) (by unfold aAP;rw [if_neg (by simp)]),wN]
  by_cases e:a=b
  ·rw [if_pos e,decide_eq_true e];rfl
  ·rw [if_neg e,decide_eq_false e]
 ·rw [if_pos (by simp;omega),decide_eq_false fun e=>hl (by rw [e])]
theorem Same_lts (a b:cO) (h1:a.L.length<=1000000) (h2:a.E.length<=1000000):aEP a b=some (decide (a=b)):=by
 have hne:∀ {p:Prop} [Decidable p],¬ p->decide p=false:=fun h=>decide_eq_false h
 unfold aEP aEO
 by_cases e1:a.N=b.N
 ·rw [if_neg (by simp [e1])]
  by_cases e2:a.I=b.I
  ·rw [if_neg (by simp [e2]),Texts_eq _ _ h1,wN]
   by_cases e3:a.L=b.L
   ·rw [decide_eq_true e3,if_neg (by simp)]
    unfold mW
    by_cases e4:a.E.length=b.E.length
    ·rw [if_neg (by simp [e4]),aPG (l:=a.E) (m:=b.E) e4 (fun k hk=>by
      unfold aBT
      rw [if_pos (aCg hk),aAR hk,wN,aAR (show k < b.E.length by omega),wN,aBf hk (by omega)]
      by_cases he:a.E[k]=b.E[k]'(by omega)
      ·rw [if_neg (by simp [he]),if_pos he]
      ·rw [if_pos (by simp [he]),if_neg he]) (by unfold aBT;rw [if_neg (by simp)]),wN]
     by_cases e5:a.E=b.E
     ·have:a=b:=by
       obtain ⟨_,_,_,_⟩:=a
       obtain ⟨_,_,_,_⟩:=b
       simp only at e1 e2 e3 e5
       rw [e1,e2,e3,e5]
      rw [if_pos e5,decide_eq_true this];rfl
     ·rw [if_neg e5,hne fun e=>e5 (by rw [e])];rfl
    ·rw [if_pos (by simp;omega),hne fun e=>e4 (by rw [e])];rfl
   ·rw [decide_eq_false e3,if_pos (by simp),hne fun e=>e3 (by rw [e])];rfl
  ·rw [if_pos (by simpa using e2),hne fun e=>e2 (by rw [e])];rfl
 ·rw [if_pos (by simpa using e1),hne fun e=>e1 (by rw [e])];rfl
end Gv
namespace Gv
open Go
noncomputable def mnT (t:cO):cO:=aJr (aIa t)
section
variable {t:cO}
theorem det_fits (hf:aBX 999999999 t) (hs:Small (aFi t)):aBX 999999999 (aIa t):=⟨hf.1,hf.2.1,Nat.le_trans hs.2 (by decide)⟩
theorem aNn (hv:lD t) (hf:aBX 999999999 t) (hs:Small (aFi t)):aBX 999999999 (mnT t):=by
 have hd:aGt (aIa t):=aIC hv hs
 have h12:=hd.1.2.2.1.2.1
 have hm:=(aNi hd).1
 refine ⟨by have:=hm.2.2.1.2.1;show (aJr (aIa t)).L.length<=_;omega,fun s h=>?_,by have:=hm.2.2.2.1;show (aJr (aIa t)).E.length<=_;omega⟩
 have h':s∈nD::aJj (aIa t).L.tail (mnE (aIa t)):=h
 rcases List.mem_cons.1 h' with rfl|h'
 ·decide
 ·exact hf.2.1 s (List.mem_of_mem_tail (List.mem_filter.1 h').1)
theorem aKs (hv:lD t) (hs:Small (aFi t)):aGt (mnT t):=aNi (aIC hv hs)
theorem aLP (hv:lD t) (hs:Small (aFi t)):Small (aFi (mnT t)):=one_small (aKs hv hs) rfl
theorem aMn (hv:lD t) (hs:Small (aFi t)) {tr:List bD} (ht:∀ s∈tr,s≠nD):aft (mnT t) tr=[]<->aft t tr=[]:=by
 rw [one_nil (aKs hv hs) rfl]
 unfold mnT
 rw [min_neg (d:=aIa t) (aIC hv hs) ht]
 exact aJn hv hs ht
theorem aNo (hv:lD t) (hf:aBX 999999999 t):oF t=some (if Small (aFi t) then (mnT t,0) else (⟨0,0,[],[]⟩,5)):=by
 unfold oF
 rw [aJa t hf,aJl hv,wN,if_neg (by simp),aJf hv hf,wN,aJC]
 by_cases hs:Small (aFi t)
 ·rw [decide_eq_true hs,if_neg (by simp),if_pos hs]
  have hd:(detS t).1=aIa t:=by unfold detS;rw [if_pos hs];rfl
  rw [hd,aQw (d:=aIa t) (aIC hv hs) (det_fits hf hs) rfl,wN]
  rfl
 ·rw [decide_eq_false hs,if_pos (by rfl),if_neg hs]
end
end Gv
set_option linter.unusedSimpArgs false
set_option linter.unusedVariables false
namespace Gv
open Go
section
variable {a b:cO}
theorem aPH {d:cO} (hd:aGt d) {e:Edge} (he:e∈d.E):txt d e∈d.L.tail:=by
 have h1:e∈aIc d e.F:=List.mem_filter.2 ⟨he,by simp⟩
 have h2:=((aLy hd e.F (txt d e)).1 (List.mem_map_of_mem h1)).1
 exact (aOC hd.1 h2).1 (aOD hd.1 he)
theorem aQL {t:cO} (hv:lD t):t.L.tail.Nodup:=by
 rw [List.nodup_iff_pairwise_ne]
 refine (aJb hv).2.1.imp fun {x y} h e=>?_
 subst e
 rw [aDY] at h
 cases h
theorem tail_tau {t:cO} (hv:lD t) {s:bD} (h:s∈t.L.tail):s≠nD:=fun e=>(aJb hv).2.2 (e ▸ h)
theorem aft_out (hv:lD a) (sa:Small (aFi a)) {tr:List bD} (ht:∀ s∈tr,s≠nD) (hn:¬ ∀ s∈tr,s∈a.L):aft a tr=[]:=by
 refine (aJn hv sa ht).1 (aLz (d:=aIa a) (aIC hv sa).1 tr 0 ht fun h=>hn fun s hs=>?_)
 exact List.mem_of_mem_tail (h s hs)
theorem ov_all (ha:lD a) (hb:lD b) (sa:Small (aFi a)) (sb:Small (aFi b)) (h:∀ tr,OvL a b tr->(aft a tr=[]<->aft b tr=[])) {tr:List bD} (ht:∀ s∈tr,s≠nD):aft a tr=[]<->aft b tr=[]:=by
 by_cases ho:∀ s∈tr,s∈a.L++b.L
 ·exact h tr fun s hs=>⟨ho s hs,ht s hs⟩
 ·have h1:aft a tr=[]:=aft_out ha sa ht fun g=>ho fun s hs=>List.mem_append_left _ (g s hs)
  have h2:aft b tr=[]:=aft_out hb sb ht fun g=>ho fun s hs=>List.mem_append_right _ (g s hs)
  rw [h1,h2]
theorem in_zero {t:cO} (h:lD t):inS t 0:=by have:=h.1;unfold inS;omega
theorem min_iff (ha:lD a) (hb:lD b) (sa:Small (aFi a)) (sb:Small (aFi b)):mnT a=mnT b<->∀ tr:List bD,(∀ s∈tr,s≠nD)->(aft a tr=[]<->aft b tr=[]):=by
 have da:aGt (aIa a):=aIC ha sa
 have db:aGt (aIa b):=aIC hb sb
 constructor
 ·intro h tr ht
  rw [←aMn ha sa ht,←aMn hb sb ht,h]
 ·intro h
  exact min_same da db ⟨in_zero da.1,in_zero db.1,fun tr ht=>((aJn ha sa ht).trans (h tr ht)).trans (aJn hb sb ht).symm⟩
theorem pc_min (ha:lD a) (sa:Small (aFi a)) (n:Nat):pc (aIa a) n 0=pc (aIa (mnT a)) n 0:=by
 have da:aGt (aIa a):=aIC ha sa
 have hm:aGt (mnT a):=aKs ha sa
 have sm:Small (aFi (mnT a)):=aLP ha sa
 have dm:aGt (aIa (mnT a)):=aIC hm.1 sm
 have hM:=aQL ha
 have hta:∀ {tr:List bD},(∀ s∈tr,s∈a.L.tail)->∀ s∈tr,s≠nD:=fun h s hs=>tail_tau ha (h s hs)
 rw [aLO da hM (fun e he=>aPH da he),aLO dm hM (fun e he=>(List.mem_filter.1 (show txt (aIa (mnT a)) e∈aJj (aIa a).L.tail (mnE (aIa a)) from aPH dm he)).1)]
 refine aPz n (by omega) (by omega) fun tr ht=>?_
 exact ((aJn ha sa (hta ht)).trans (aMn ha sa (hta ht)).symm).trans (aJn hm.1 sm (hta ht)).symm
theorem b10At_ok (c:bD):∃ n:Nat,aHg c 0 4=some (n:Int)/\n<=3:=by
 have key:∀ {v:Int},0<=v/\v < 4->∃ n:Nat,some v=some (n:Int)/\n<=3:=fun {v} h=>⟨v.toNat,by rw [Int.toNat_of_nonneg h.1],by omega⟩
 unfold aHg
 rw [if_neg (by simp)]
 split
 ·rename_i hlt
  have hlt':0 < (c.length:Int):=by simpa using hlt
  rw [aJR (by omega) (by omega),wN]
  have hb:=byte_le (c[(0:Int).toNat]'(by omega))
  obtain ⟨v,e,g1,g2⟩:=rm_ok (x:=wr ((c[(0:Int).toNat]'(by omega)).toNat:Int)) (n:=4) (by rw [aHu (by omega) (by omega)];omega) (by omega)
  rw [e,wN]
  exact key ⟨g1,g2⟩
 ·obtain ⟨v,e,g1,g2⟩:=rm_ok (x:=wr (wr (0 * 37)+11)) (n:=4) (by decide) (by omega)
  rw [e,wN]
  exact key ⟨g1,g2⟩
theorem det_is (ha:lD a) (fa:aBX 999999999 a) (sa:Small (aFi a)):lY (mnT a)=some true:=by
 have hm:aGt (mnT a):=aKs ha sa
 unfold lY
 rw [aMz _ (aNn ha fa sa),aJl hm.1,wN,if_pos rfl,aOf _ (by have:=hm.1.2.2.2.1;omega),aJl hm.2,wN]
 rfl
theorem aQM (ha:lD a) (fa:aBX 999999999 a) (sa:Small (aFi a)):∃ w,tF a (mnT a)=some (true,w,0):=by
 have hm:aGt (mnT a):=aKs ha sa
 obtain ⟨same,w,e,_,h2⟩:=same_ok ha hm.1 fa (aNn ha fa sa) sa (aLP ha sa)
 cases same with
 |true=>exact ⟨w,e⟩
 |false=>
  obtain ⟨g1,g2,g3⟩:=h2 rfl
  have h:=aMn ha sa (tr:=w) fun s hs=>(g1 s hs).2
  exfalso
  rcases g3 with g|g
  ·exact g2 ⟨g,h.2 g⟩
  ·exact g2 ⟨h.1 g,g⟩
theorem min_rest (ha:lD a) (fa:aBX 999999999 a) (sa:Small (aFi a)) (ms:bD) (x:cO):jK ms (a,x) (mnT a,0) false=some true:=by
 have hm:aGt (mnT a):=aKs ha sa
 obtain ⟨w,e⟩:=aQM ha fa sa
 obtain ⟨n,e1,hn⟩:=b10At_ok ms
 unfold jK
 rw [if_neg (by simp)]
 show (ob (tF a (mnT a)) fun r148=>ob (aHg ms 0 4) fun r157=>ob (tR a r157) fun r161=>ob (tR (mnT a) r157) fun r165=>_)=some true
 rw [e,wN,e1,wN,aPC ha fa sa hn,wN,aPC hm.1 (aNn ha fa sa) (aLP ha sa) hn,wN,pc_min ha sa n]
 rw [if_neg (by simp),if_neg (by simp),if_neg (by simp),if_neg (by simp),bne_self_eq_false,←pc_min ha sa n]
 obtain ⟨all,h1,_,h3,h4⟩:=aPr ha fa sa (n:=n) (by omega)
 unfold fE
 rw [if_neg (by simp)]
 show (ob (aDP a (n:Int)) fun r178=>_)=some true
 rw [h4,wN]
 by_cases hl:200 < all.length
 ·rw [if_pos hl];rfl
 ·rw [if_neg hl,if_neg (by simp),long_loop (by omega) (h3 (by omega)),wN]
  unfold jI
  rw [beq_self_eq_true]
theorem min_two (ha:lD a) (hb:lD b) (fa:aBX 999999999 a) (fb:aBX 999999999 b) (ms:bD):
  (ob (oF a) fun r47=>ob (oF b) fun r72=>ob (tF a b) fun r103=>
   if (r47.2 != 0) then (hY ms (a,b) r47 r72 r103 true) else (if (r72.2 != 0) then (hY ms (a,b) r47 r72 r103 true) else (hY ms (a,b) r47 r72 r103 (r103.2.2 != 0))))=some true:=by
 rw [aNo ha fa,wN,aNo hb fb,wN]
 by_cases hs:Small (aFi a)/\Small (aFi b)
 ·obtain ⟨sa,sb⟩:=hs
  obtain ⟨same,w,e,p,q⟩:=same_ok ha hb fa fb sa sb
  rw [if_pos sa,if_pos sb,e,wN,if_neg (by simp),if_neg (by simp)]
  unfold hY
  rw [if_neg (by simp)]
  show (ob (aEP (mnT a) (mnT b)) fun r280=>_)=some true
  have hma:aGt (mnT a):=aKs ha sa
  have hl1:=hma.1.2.2.1.2.1
  have hl2:=hma.1.2.2.2.1
  rw [Same_lts _ _ (by omega) (by omega),wN]
  have hsame:same=decide (mnT a=mnT b):=by
   cases same with
   |true=>
    rw [decide_eq_true]
    exact (min_iff ha hb sa sb).2 fun tr ht=>ov_all ha hb sa sb (p rfl) ht
   |false=>
    rw [decide_eq_false]
    intro g
    obtain ⟨g1,g2,g3⟩:=q rfl
    have h:=(min_iff ha hb sa sb).1 g w fun s hs=>(g1 s hs).2
    rcases g3 with g|g
    ·exact g2 ⟨g,h.1 g⟩
    ·exact g2 ⟨h.2 g,g⟩
  rw [hsame,bne_self_eq_false,if_neg (by simp)]
  show (ob (lY (mnT a)) fun r299=>_)=some true
  rw [det_is ha fa sa,wN]
  exact min_rest ha fa sa ms b
 ·have e3:tF a b=some (false,[],5):=by unfold tF;rw [cmp_two ha hb fa fb,if_neg hs,wN]
  have hk:∀ x y:cO × Int,hY ms (a,b) x y (false,[],5) true=some true:=fun x y=>by
   unfold hY
   rw [if_pos rfl]
   show (ob (aAJ a b) fun r89=>_)=some true
   rw [aQE ha hb fa fb hs,wN]
   rfl
  rw [e3,wN]
  generalize (if Small (aFi a) then (mnT a,(0:Int)) else (⟨0,0,[],[]⟩,5))=x
  generalize (if Small (aFi b) then (mnT b,(0:Int)) else (⟨0,0,[],[]⟩,5))=y
  split
  ·exact hk _ _
  ·split
   ·exact hk _ _
   ·exact hk _ _
theorem lawMinT (cs ms:bD):aAb cs ms=some true:=by
 unfold aAb aCY
 rw [wN,wN]
 have key:∀ v,jL cs ms v=some true:=fun v=>by
  unfold jL
  cases v with
  |true=>rfl
  |false=>
   rw [if_neg (by simp)]
   obtain ⟨a,b,e,⟨ha,fa⟩,hb,fb⟩:=pair_ok cs
   rw [e,wN]
   exact min_two ha hb fa fb ms
 split
 ·exact key _
 ·exact key _
end
end Gv
