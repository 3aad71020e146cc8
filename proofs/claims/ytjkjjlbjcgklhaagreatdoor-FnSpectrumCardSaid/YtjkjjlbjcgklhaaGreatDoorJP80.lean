/- Greatest simulations by rounds. No program in sight. -/
import Derived.Test.YtjkjjlbjcgklhaaGreatDoorJP62
set_option linter.all false
namespace Gv
open Go
def cF (t:aO) (s:Int):Prop:=0<=s/\s < t.N
def sR (t:aO) (S:Int->Int->Bool) (x y:Int):Bool:=S x y&&t.E.all fun e=>!(e.F == x)||t.E.any fun f=>f.F == y&&f.B == e.B&&S e.To f.To
def sN (t:aO):Nat->Int->Int->Bool
 |0=>fun _ _=>true
 |n+1=>sR t (sN t n)
section
variable {t:aO}
theorem sR_true {S:Int->Int->Bool} {x y:Int}:sR t S x y=true<->S x y=true/\∀ e∈t.E,e.F=x->∃ f∈t.E,f.F=y/\f.B=e.B/\S e.To f.To=true:=by
 unfold sR
 rw [Bool.and_eq_true,List.all_eq_true]
 refine and_congr Iff.rfl ⟨fun h e he hx=>?_,fun h e he=>?_⟩
 ·have:=h e he
  rw [hx] at this
  simp only [beq_self_eq_true,Bool.not_true,Bool.false_or,List.any_eq_true,Bool.and_eq_true,beq_iff_eq] at this
  obtain ⟨f,hf,⟨h1,h2⟩,h3⟩:=this
  exact ⟨f,hf,h1,h2,h3⟩
 ·by_cases hx:e.F=x
  ·obtain ⟨f,hf,h1,h2,h3⟩:=h e he hx
   rw [Bool.or_eq_true,List.any_eq_true]
   right
   exact ⟨f,hf,by simp [h1,h2,h3]⟩
  ·simp [hx]
theorem sN_le {n:Nat} {x y:Int} (h:sN t (n+1) x y=true):sN t n x y=true:=(sR_true.1 h).1
def prs (t:aO):List (Int × Int):=(List.range t.N.toNat).flatMap fun x:Nat=>(List.range t.N.toNat).map fun y:Nat=>((x:Int),(y:Int))
theorem prs_mem {p:Int × Int}:p∈prs t<->cF t p.1/\cF t p.2:=by
 obtain ⟨a,b⟩:=p
 unfold prs cF
 simp only [List.mem_flatMap,List.mem_map,List.mem_range,Prod.mk.injEq]
 constructor
 ·rintro ⟨x,hx,y,hy,rfl,rfl⟩
  omega
 ·rintro ⟨⟨h1,h2⟩,h3,h4⟩
  exact ⟨a.toNat,by omega,b.toNat,by omega,by omega,by omega⟩
def lft (t:aO) (n:Nat):List (Int × Int):=(prs t).filter fun p=>sN t n p.1 p.2
def stab (t:aO) (n:Nat):Prop:=∀ x y:Int,cF t x->cF t y->sN t (n+1) x y=sN t n x y
theorem lft_mem {n:Nat} {p:Int × Int}:p∈lft t n<->(cF t p.1/\cF t p.2)/\sN t n p.1 p.2=true:=by
 unfold lft
 rw [List.mem_filter,prs_mem]
theorem aSu (n:Nat):lft t (n+1)=(lft t n).filter fun p=>sN t (n+1) p.1 p.2:=by
 unfold lft
 rw [List.filter_filter]
 refine List.filter_congr fun p _=>?_
 cases h:sN t (n+1) p.1 p.2 with
 |false=>rfl
 |true=>rw [sN_le h];rfl
theorem lft_le (n:Nat):(lft t (n+1)).length<=(lft t n).length:=by rw [aSu];exact List.length_filter_le _ _
theorem stab_iff (n:Nat):stab t n<->(lft t (n+1)).length=(lft t n).length:=by
 rw [aSu,List.length_filter_eq_length_iff]
 constructor
 ·intro h p hp
  have:=lft_mem.1 hp
  rw [h _ _ this.1.1 this.1.2];exact this.2
 ·intro h x y hx hy
  cases h1:sN t n x y with
  |true=>exact h (x,y) (lft_mem.2 ⟨⟨hx,hy⟩,h1⟩)
  |false=>
   cases h2:sN t (n+1) x y with
   |false=>rfl
   |true=>rw [sN_le h2] at h1;cases h1
theorem stab_ex:∃ n,stab t n:=by
 refine Classical.byContradiction fun h=>?_
 have h':∀ n,¬ stab t n:=fun n hn=>h ⟨n,hn⟩
 have key:∀ n,(lft t n).length+n<=(lft t 0).length:=by
  intro n
  induction n with
  |zero=>simp
  |succ n ih=>
   have h1:=lft_le (t:=t) n
   have h2:=h' n
   rw [stab_iff] at h2
   omega
 have:=key ((lft t 0).length+1)
 omega
theorem stab_min:∃ n,stab t n/\∀ m,m < n->¬ stab t m:=by
 obtain ⟨n,hn⟩:=stab_ex (t:=t)
 induction n using Nat.strongRecOn with
 |ind n ih=>
  by_cases h:∃ m,m < n/\stab t m
  ·obtain ⟨m,hm,hs⟩:=h
   exact ih m hm hs
  ·exact ⟨n,hn,fun m hm hs=>h ⟨m,hm,hs⟩⟩
noncomputable def fin (t:aO):Nat:=Classical.choose (stab_min (t:=t))
noncomputable def gs (t:aO) (x y:Int):Bool:=sN t (fin t) x y
noncomputable def eqv (t:aO) (x y:Int):Bool:=gs t x y&&gs t y x
noncomputable def fst (t:aO) (k:Nat):Nat:=((List.range k).find? fun j:Nat=>eqv t (k:Int) (j:Int)).getD k
noncomputable def cls (t:aO):List Int:=cn ((List.range t.N.toNat).map fun k:Nat=>(fst t k:Int))
end
end Gv
namespace Gv
open Go
def bk (p:List Int) (s:Int):Int:=p.getD s.toNat 0
def quoM (t:aO) (p:List Int):List Edge:=t.E.map fun e=>(⟨bk p e.F,e.B,bk p e.To⟩:Edge)
def quoE (t:aO) (p:List Int):List Edge:=iI (tI bK (quoM t p))
def quoL (t:aO) (p:List Int) (m:Int):aO:=⟨m,bk p t.I,t.L,quoE t p⟩
theorem aSv {t:aO} {p:List Int} {e:Edge}:e∈quoM t p<->e∈quoE t p:=by
 unfold quoE
 rw [aCE];unfold tI;rw [List.mem_mergeSort]
theorem aMh {a b:Edge} (h:bK b a=false) (hne:a≠b):bK a b=true:=by
 rcases aFW a b with g|g|g
 ·exact g
 ·exact absurd g hne
 ·rw [h] at g;cases g
theorem aJw {a b c:Edge} (h:bK a b=true) (h':bK c b=false):bK a c=true:=by
 by_cases e:b=c
 ·subst e;exact h
 ·exact xG h (aMh h' e)
theorem quoE_SE (t:aO) (p:List Int):SE (quoE t p):=by
 have h1:(tI bK (quoM t p)).Pairwise fun a b=>bK b a=false:=by
  have:=List.pairwise_mergeSort (le:=fun a b=>!bK b a) (fun a b c h1 h2=>?_) (fun a b=>?_) (quoM t p)
  ·refine this.imp fun {a b} h=>?_
   simpa using h
  ·simp only [Bool.not_eq_true'] at h1 h2 ⊢
   cases h3:bK c a with
   |false=>rfl
   |true=>
    have:=aJw h3 h1
    rw [h2] at this;cases this
  ·cases h3:bK b a with
   |false=>simp
   |true=>simp [aKt h3]
 exact aCF (R:=fun a b=>bK b a=false) (S:=fun a b=>bK a b=true) (fun h hne=>aMh h hne) (fun h h'=>aJw h h') h1
theorem aCJ {α:Type} [DecidableEq α]:∀ l:List α,(iI l).length<=l.length
 |[]=>Nat.le_refl _
 |[_]=>Nat.le_refl _
 |a::b::l=>by
  have:=aCJ (b::l)
  unfold iI
  split
  ·simp at *;omega
  ·simp at *;omega
theorem aSw (t:aO) (p:List Int):(quoE t p).length<=t.E.length:=by
 have:=aCJ (tI bK (quoM t p))
 unfold quoE
 unfold tI at this ⊢
 rw [List.length_mergeSort] at this
 unfold quoM at this ⊢
 rw [List.length_map] at this
 exact this
theorem aLq {t:aO} (h300:t.E.length<=300) (hs:SE t.E) (hin:∀ e∈t.E,aAR t e):EdgesOk t:=
 ⟨h300,fun k hk=>⟨hin _ (List.getElem_mem hk),fun h1=>List.pairwise_iff_getElem.1 hs (k - 1) k (by omega) hk (by omega)⟩⟩
theorem bk_mem {p:List Int} {s:Int} {n:Nat} (hp:p.length=n) (h:0<=s/\s < n):bk p s∈p:=by
 unfold bk
 rw [List.getD_eq_getElem?_getD,List.getElem?_eq_getElem (by omega)];exact List.getElem_mem _
theorem bk_ix {p:List Int} {s:Int} {n:Nat} (hp:p.length=n) (h:0<=s/\s < n):ix p s=some (bk p s):=by
 rw [aIb h.1 (by omega)]
 unfold bk
 rw [List.getD_eq_getElem?_getD,List.getElem?_eq_getElem (by omega)];rfl
theorem quo_ok {t:aO} (hv:aN t) {p:List Int} {m:Int} (hp:p.length=t.N.toNat) (hm:1<=m/\m<=40) (hb:∀ z∈p,0<=z/\z < m):aN (quoL t p m):=by
 have h1:=hv.1
 have h2:=hv.2.1
 have hbk:∀ s,0<=s/\s<=t.N - 1->0<=bk p s/\bk p s<=m - 1:=fun s hs=>by
  have:=hb _ (bk_mem hp (s:=s) (by omega))
  omega
 refine ⟨hm,hbk _ h2,hv.2.2.1,aLq ?_ (quoE_SE t p) fun e he=>?_⟩
 ·have:=aSw t p
  have h3:=hv.2.2.2.1
  show (quoE t p).length<=300
  omega
 ·have he':=aSv.2 he
  unfold quoM at he'
  obtain ⟨e0,h0,rfl⟩:=List.mem_map.1 he'
  have:=nS hv h0
  exact ⟨hbk _ this.1,hbk _ this.2.1,this.2.2⟩
theorem keep_ok {t:aO} (hv:aN t):aN (aPJ t (RL t)):=by
 have hl:=RL_len t
 have h1:=hv.1
 have hi:=hv.2.1
 have hin:t.I∈RL t:=by
  unfold RL
  rw [List.mem_map]
  exact ⟨t.I.toNat,by rw [List.mem_filter,List.mem_range];exact ⟨by omega,aHB Rt.init⟩,by show ((t.I.toNat:Nat):Int)=_;omega⟩
 have hpos:1<=(RL t).length:=List.length_pos_of_mem hin
 have hlt:∀ s,0<=pos (RL t) s->0<=pos (RL t) s/\pos (RL t) s<=((RL t).length:Int) - 1:=fun s h=>by
  obtain ⟨i,e,g⟩:=aHE (aCk.1 h)
  have:=(List.getElem?_eq_some_iff.1 g).1
  omega
 refine ⟨by show (1:Int)<=((RL t).length:Int)/\((RL t).length:Int)<=40;omega,hlt _ (aCk.2 hin),hv.2.2.1,aLq ?_ (keepE_SE (aLm hv) (RL_pair t)) fun e he=>?_⟩
 ·have:=aPK t (RL t)
  have h3:=hv.2.2.2.1
  show (aOg t (RL t)).length<=300
  omega
 ·have he':e∈aOg t (RL t):=he
  unfold aOg at he'
  obtain ⟨e0,h0,h1⟩:=List.mem_filterMap.1 he'
  simp only [Option.ite_none_right_eq_some,Option.some.injEq] at h1
  obtain ⟨⟨a1,a2⟩,rfl⟩:=h1
  exact ⟨hlt _ a1,hlt _ a2,(nS hv h0).2.2⟩
end Gv
namespace Gv
open Go
section
variable {t:aO}
theorem uL (hv:aN t) {e:Edge} (he:e∈t.E):cF t e.F/\cF t e.To/\0<=e.B/\e.B < t.L.length:=by
 have:=nS hv he
 unfold aAR at this
 unfold cF;omega
def ans (t:aO) (n:Nat) (y:Int) (e:Edge):Bool:=t.E.any fun f=>f.F == y&&f.B == e.B&&sN t n e.To f.To
end
end Gv
namespace Gv
open Go
def tH (l:List (Int × Int)):List ((Int × Int) × Bool):=l.map fun p=>(p,true)
theorem mtt_keys (l:List (Int × Int)):List.map Prod.fst (tH l)=l:=by
 unfold tH;rw [List.map_map];exact List.map_id _
theorem aQS (l:List (Int × Int)):(tH l).length=l.length:=by simp [tH]
theorem aIX (q:Int × Int):∀ l:List (Int × Int),(mW (tH l) q).getD false=decide (q∈l)
 |[]=>by simp [tH,mW]
 |a::l=>by
  have ih:=aIX q l
  unfold tH at ih ⊢
  rw [List.map_cons,mW]
  by_cases e:q=a
  ·rw [if_pos e];simp [e]
  ·rw [if_neg e,ih];simp [e]
theorem aIY {q:Int × Int}:∀ {l:List (Int × Int)},q∉l->vN (tH l) q true=tH (l++[q])
 |[],_=>rfl
 |a::l,h=>by
  have ih:=aIY (q:=q) (l:=l) fun hm=>h (by simp [hm])
  have e:¬ q=a:=fun e=>h (by simp [e])
  unfold tH at ih ⊢
  rw [List.map_cons,vN,if_neg e,ih];rfl
theorem aPP:∀ (m l:List (Int × Int)),(l++m).Nodup->aDW (tH l) true m=tH (l++m)
 |[],l,_=>by rw [List.append_nil];rfl
 |q::m,l,h=>by
  have hq:q∉l:=fun hm=>by
   rw [List.nodup_append] at h
   exact h.2.2 q hm q (by simp) rfl
  unfold aDW
  rw [aIY hq,aPP m (l++[q]) (by rw [List.append_assoc];exact h),List.append_assoc];rfl
theorem mfil_eq {κ:Type} {f:κ->Option Bool} {p:κ->Bool}:∀ {l:List κ},(∀ k∈l,f k=some (p k))->mfil f l=some (l.filter p)
 |[],_=>rfl
 |k::l,h=>by
  unfold mfil
  rw [h k (by simp),aA,mfil_eq fun k' hk=>h k' (by simp [hk]),aA,List.filter_cons]
end Gv
namespace Gv
open Go
def IsTop (p:List Int) (b:Int):Prop:=(∃ z∈p,b=z+1)/\∀ z∈p,z+1<=b
theorem aUb {p:List Int} (hl:p.length < 1000000) (h1:1<=p.length) (hp:∀ z∈p,0<=z/\z < 40):∃ b,tM p=some b/\IsTop p b:=by
 have key0:=cJ (step:=fun s:Int × Int=>wK p s.1 s.2) p.length (fun i (a:Int)=>(a,(i:Int)))
  (fun i a=>(i=0/\a=0)\/IsTop (p.take i) a) (fun r=>IsTop p r) (fun i a hi hI=>?_) (fun a hI=>?_) p.length 0 0 (by omega) (.inl ⟨rfl,rfl⟩)
 ·obtain ⟨r,h1,h2⟩:=key0
  have h1':loop (fun s:Int × Int=>wK p s.1 s.2) (0,0)=some r:=h1
  exact ⟨r,by unfold tM;rw [h1',aA];rfl,h2⟩
 ·have hz:=hp _ (List.getElem_mem hi)
  have htk:p.take (i+1)=p.take i++[p[i]]:=by rw [List.take_add_one,List.getElem?_eq_getElem hi];rfl
  simp only [wK,bD hi,if_pos,bE hi,aA,aNG]
  rw [fS (x:=p[i]+1) (by omega) (by omega)]
  have hstep:∀ v:Int,v=(if p[i]+1 < a then a else p[i]+1)->IsTop (p.take (i+1)) v:=by
   intro v hv
   rw [htk]
   rcases hI with ⟨rfl,rfl⟩|⟨⟨x,hx,h2⟩,h3⟩
   ·rw [if_neg (by omega)] at hv
    subst hv
    simp only [List.take_zero,List.nil_append]
    exact ⟨⟨_,by simp,rfl⟩,fun z hz=>by simp at hz;subst hz;omega⟩
   ·by_cases h:p[i]+1 < a
    ·rw [if_pos h] at hv
     subst hv
     refine ⟨⟨x,List.mem_append_left _ hx,h2⟩,fun z hz=>?_⟩
     rcases List.mem_append.1 hz with hz|hz
     ·exact h3 z hz
     ·simp at hz;subst hz;omega
    ·rw [if_neg h] at hv
     subst hv
     refine ⟨⟨p[i],List.mem_append_right _ (by simp),rfl⟩,fun z hz=>?_⟩
     rcases List.mem_append.1 hz with hz|hz
     ·have:=h3 z hz;omega
     ·simp at hz;subst hz;omega
  by_cases h:p[i]+1 < a
  ·rw [if_pos (by simpa using h),aA,aW hi (show p.length < 4611686018427387904 by omega)]
   exact ⟨a,rfl,.inr (hstep a (by rw [if_pos h]))⟩
  ·rw [if_neg (by simpa using h),aA,aW hi (show p.length < 4611686018427387904 by omega)]
   exact ⟨_,rfl,.inr (hstep _ (by rw [if_neg h]))⟩
 ·refine ⟨a,by simp only [wK,bI];rfl,?_⟩
  rcases hI with ⟨h,_⟩|h
  ·omega
  ·rwa [List.take_length] at h
section
variable {t:aO}
theorem quo_ref (hv:aN t) {p:List Int} (hp:p.length=t.N.toNat) {b:Int} (hb:tM p=some b):vF t p=some (quoL t p b):=by
 have h300:=hv.2.2.2.1
 have h40:=hv.1
 have hi:=hv.2.1
 unfold vF
 rw [aGY (step:=fun s:List Edge × Int=>sL t p s.1 s.2) t.E (fun e=>(⟨bk p e.F,e.B,bk p e.To⟩:Edge)) id (fun k out x hk ho hx=>by
  obtain ⟨_,rfl⟩:=lW hx
  have hT:=uL hv (List.getElem_mem hk)
  have h1:=hT.1
  have h2:=hT.2.1
  unfold cF at h1 h2
  simp only [sL,bD hk,if_pos,hx,aA,bk_ix hp (s:=t.E[k].F) (by omega),bk_ix hp (s:=t.E[k].To) (by omega),aW hk (show t.E.length < 4611686018427387904 by omega)]
  rw [bS (by simp [iO];omega),aA]) (fun out=>by simp only [sL,bI];rfl),aA]
 unfold xT
 rw [bk_ix hp (s:=t.I) (by omega),aA,hb,aA,show id (t.E.map fun e=>(⟨bk p e.F,e.B,bk p e.To⟩:Edge))=quoM t p from rfl]
 rw [aTO hv.2.2.1 (by unfold quoM;rw [List.length_map];omega) (fun e he=>?_) (quoE_SE t p) (fun e=>aSv),aA]
 ·rfl
 ·unfold quoM at he
  obtain ⟨e0,h0,rfl⟩:=List.mem_map.1 he
  exact (uL hv h0).2.2
end
end Gv
