/- Greatest simulations by rounds. No program in sight. -/
import Derived.Test.YtnelhgfdoneljaaGreatDoorJP62
set_option linter.all false
namespace Gv
open Go
def mJ (t:bQ) (s:Int):Prop:=0<=s/\s < t.N
def sR (t:bQ) (S:Int->Int->Bool) (x y:Int):Bool:=S x y&&t.E.all fun e=>!(e.F == x)||t.E.any fun f=>f.F == y&&f.B == e.B&&S e.To f.To
def sN (t:bQ):Nat->Int->Int->Bool
 |0=>fun _ _=>true
 |n+1=>sR t (sN t n)
section
variable {t:bQ}
theorem sR_true {S:Int->Int->Bool} {x y:Int}:sR t S x y=true<->S x y=true/\∀ e∈t.E,e.F=x->∃ f∈t.E,f.F=y/\f.B=e.B/\S e.To f.To=true:=by
 unfold sR
 rw [Bool.and_eq_true,List.all_eq_true]
 refine and_congr Iff.rfl ⟨fun h e he hx=>?_,fun h e he=>?_⟩
 ·have:=h e he
  rw [hx] at this
  simp only [beq_self_eq_true,Bool.not_true,Bool.false_or,List.any_eq_true,Bool.and_eq_true,beq_iff_eq] at this
  obtain ⟨f,hf,⟨h1,h2⟩,h3⟩:=this
  exact ⟨f,hf,h1,h2,h3⟩
 ·by_cases hx:e.F=x
  ·obtain ⟨f,hf,h1,h2,h3⟩:=h e he hx
   rw [Bool.or_eq_true,List.any_eq_true]
   right
   exact ⟨f,hf,by simp [h1,h2,h3]⟩
  ·simp [hx]
theorem sN_le {n:Nat} {x y:Int} (h:sN t (n+1) x y=true):sN t n x y=true:=(sR_true.1 h).1
def prs (t:bQ):List (Int × Int):=(List.range t.N.toNat).flatMap fun x:Nat=>(List.range t.N.toNat).map fun y:Nat=>((x:Int),(y:Int))
theorem prs_mem {p:Int × Int}:p∈prs t<->mJ t p.1/\mJ t p.2:=by
 obtain ⟨a,b⟩:=p
 unfold prs mJ
 simp only [List.mem_flatMap,List.mem_map,List.mem_range,Prod.mk.injEq]
 constructor
 ·rintro ⟨x,hx,y,hy,rfl,rfl⟩
  omega
 ·rintro ⟨⟨h1,h2⟩,h3,h4⟩
  exact ⟨a.toNat,by omega,b.toNat,by omega,by omega,by omega⟩
def lft (t:bQ) (n:Nat):List (Int × Int):=(prs t).filter fun p=>sN t n p.1 p.2
def stab (t:bQ) (n:Nat):Prop:=∀ x y:Int,mJ t x->mJ t y->sN t (n+1) x y=sN t n x y
theorem lft_mem {n:Nat} {p:Int × Int}:p∈lft t n<->(mJ t p.1/\mJ t p.2)/\sN t n p.1 p.2=true:=by
 unfold lft
 rw [List.mem_filter,prs_mem]
theorem aMc (n:Nat):lft t (n+1)=(lft t n).filter fun p=>sN t (n+1) p.1 p.2:=by
 unfold lft
 rw [List.filter_filter]
 refine List.filter_congr fun p _=>?_
 cases h:sN t (n+1) p.1 p.2 with
 |false=>rfl
 |true=>rw [sN_le h];rfl
theorem lft_le (n:Nat):(lft t (n+1)).length<=(lft t n).length:=by rw [aMc];exact List.length_filter_le _ _
theorem stab_iff (n:Nat):stab t n<->(lft t (n+1)).length=(lft t n).length:=by
 rw [aMc,List.length_filter_eq_length_iff]
 constructor
 ·intro h p hp
  have:=lft_mem.1 hp
  rw [h _ _ this.1.1 this.1.2];exact this.2
 ·intro h x y hx hy
  cases h1:sN t n x y with
  |true=>exact h (x,y) (lft_mem.2 ⟨⟨hx,hy⟩,h1⟩)
  |false=>
   cases h2:sN t (n+1) x y with
   |false=>rfl
   |true=>rw [sN_le h2] at h1;cases h1
theorem stab_ex:∃ n,stab t n:=by
 refine Classical.byContradiction fun h=>?_
 have h':∀ n,¬ stab t n:=fun n hn=>h ⟨n,hn⟩
 have key:∀ n,(lft t n).length+n<=(lft t 0).length:=by
  intro n
  induction n with
  |zero=>simp
  |succ n ih=>
   have h1:=lft_le (t:=t) n
   have h2:=h' n
   rw [stab_iff] at h2
   omega
 have:=key ((lft t 0).length+1)
 omega
theorem stab_min:∃ n,stab t n/\∀ m,m < n->¬ stab t m:=by
 obtain ⟨n,hn⟩:=stab_ex (t:=t)
 induction n using Nat.strongRecOn with
 |ind n ih=>
  by_cases h:∃ m,m < n/\stab t m
  ·obtain ⟨m,hm,hs⟩:=h
   exact ih m hm hs
  ·exact ⟨n,hn,fun m hm hs=>h ⟨m,hm,hs⟩⟩
noncomputable def fin (t:bQ):Nat:=Classical.choose (stab_min (t:=t))
noncomputable def gs (t:bQ) (x y:Int):Bool:=sN t (fin t) x y
noncomputable def eqv (t:bQ) (x y:Int):Bool:=gs t x y&&gs t y x
noncomputable def fst (t:bQ) (k:Nat):Nat:=((List.range k).find? fun j:Nat=>eqv t (k:Int) (j:Int)).getD k
end
end Gv
namespace Gv
open Go
def bk (p:List Int) (s:Int):Int:=p.getD s.toNat 0
def quoM (t:bQ) (p:List Int):List Edge:=t.E.map fun e=>(⟨bk p e.F,e.B,bk p e.To⟩:Edge)
def quoE (t:bQ) (p:List Int):List Edge:=fZ (xB bS (quoM t p))
def quoL (t:bQ) (p:List Int) (m:Int):bQ:=⟨m,bk p t.I,t.L,quoE t p⟩
theorem aMd {t:bQ} {p:List Int} {e:Edge}:e∈quoM t p<->e∈quoE t p:=by
 unfold quoE
 rw [aAX];unfold xB;rw [List.mem_mergeSort]
theorem aHz {a b:Edge} (h:bS b a=false) (hne:a≠b):bS a b=true:=by
 rcases aCw a b with g|g|g
 ·exact g
 ·exact absurd g hne
 ·rw [h] at g;cases g
theorem aFp {a b c:Edge} (h:bS a b=true) (h':bS c b=false):bS a c=true:=by
 by_cases e:b=c
 ·subst e;exact h
 ·exact sD h (aHz h' e)
theorem quoE_SE (t:bQ) (p:List Int):SE (quoE t p):=by
 have h1:(xB bS (quoM t p)).Pairwise fun a b=>bS b a=false:=by
  have:=List.pairwise_mergeSort (le:=fun a b=>!bS b a) (fun a b c h1 h2=>?_) (fun a b=>?_) (quoM t p)
  ·refine this.imp fun {a b} h=>?_
   simpa using h
  ·simp only [Bool.not_eq_true'] at h1 h2 ⊢
   cases h3:bS c a with
   |false=>rfl
   |true=>
    have:=aFp h3 h1
    rw [h2] at this;cases this
  ·cases h3:bS b a with
   |false=>simp
   |true=>simp [aIZ h3]
 exact aBN (R:=fun a b=>bS b a=false) (S:=fun a b=>bS a b=true) (fun h hne=>aHz h hne) (fun h h'=>aFp h h') h1
theorem aFq {α:Type} [DecidableEq α]:∀ l:List α,(fZ l).length<=l.length
 |[]=>Nat.le_refl _
 |[_]=>Nat.le_refl _
 |a::b::l=>by
  have:=aFq (b::l)
  unfold fZ
  split
  ·simp at *;omega
  ·simp at *;omega
theorem aMe (t:bQ) (p:List Int):(quoE t p).length<=t.E.length:=by
 have:=aFq (xB bS (quoM t p))
 unfold quoE
 unfold xB at this ⊢
 rw [List.length_mergeSort] at this
 unfold quoM at this ⊢
 rw [List.length_map] at this
 exact this
theorem aJm {t:bQ} (h300:t.E.length<=300) (hs:SE t.E) (hin:∀ e∈t.E,aCL t e):EdgesOk t:=
 ⟨h300,fun k hk=>⟨hin _ (List.getElem_mem hk),fun h1=>List.pairwise_iff_getElem.1 hs (k - 1) k (by omega) hk (by omega)⟩⟩
theorem bk_mem {p:List Int} {s:Int} {n:Nat} (hp:p.length=n) (h:0<=s/\s < n):bk p s∈p:=by
 unfold bk
 rw [List.getD_eq_getElem?_getD,List.getElem?_eq_getElem (by omega)];exact List.getElem_mem _
theorem bk_ix {p:List Int} {s:Int} {n:Nat} (hp:p.length=n) (h:0<=s/\s < n):ix p s=some (bk p s):=by
 rw [aDW h.1 (by omega)]
 unfold bk
 rw [List.getD_eq_getElem?_getD,List.getElem?_eq_getElem (by omega)];rfl
theorem quo_ok {t:bQ} (hv:dK t) {p:List Int} {m:Int} (hp:p.length=t.N.toNat) (hm:1<=m/\m<=40) (hb:∀ z∈p,0<=z/\z < m):dK (quoL t p m):=by
 have h1:=hv.1
 have h2:=hv.2.1
 have hbk:∀ s,0<=s/\s<=t.N - 1->0<=bk p s/\bk p s<=m - 1:=fun s hs=>by
  have:=hb _ (bk_mem hp (s:=s) (by omega))
  omega
 refine ⟨hm,hbk _ h2,hv.2.2.1,aJm ?_ (quoE_SE t p) fun e he=>?_⟩
 ·have:=aMe t p
  have h3:=hv.2.2.2.1
  show (quoE t p).length<=300
  omega
 ·have he':=aMd.2 he
  unfold quoM at he'
  obtain ⟨e0,h0,rfl⟩:=List.mem_map.1 he'
  have:=yS hv h0
  exact ⟨hbk _ this.1,hbk _ this.2.1,this.2.2⟩
theorem keep_ok {t:bQ} (hv:dK t):dK (keepL t (RL t)):=by
 have hl:=RL_len t
 have h1:=hv.1
 have hi:=hv.2.1
 have hin:t.I∈RL t:=by
  unfold RL
  rw [List.mem_map]
  exact ⟨t.I.toNat,by rw [List.mem_filter,List.mem_range];exact ⟨by omega,cl_t Rt.init⟩,by show ((t.I.toNat:Nat):Int)=_;omega⟩
 have hpos:1<=(RL t).length:=List.length_pos_of_mem hin
 have hlt:∀ s,0<=pos (RL t) s->0<=pos (RL t) s/\pos (RL t) s<=((RL t).length:Int) - 1:=fun s h=>by
  obtain ⟨i,e,g⟩:=aFm (aAR.1 h)
  have:=(List.getElem?_eq_some_iff.1 g).1
  omega
 refine ⟨by show (1:Int)<=((RL t).length:Int)/\((RL t).length:Int)<=40;omega,hlt _ (aAR.2 hin),hv.2.2.1,aJm ?_ (keepE_SE (aJg hv) (RL_pair t)) fun e he=>?_⟩
 ·have:=aKl t (RL t)
  have h3:=hv.2.2.2.1
  show (aJf t (RL t)).length<=300
  omega
 ·have he':e∈aJf t (RL t):=he
  unfold aJf at he'
  obtain ⟨e0,h0,h1⟩:=List.mem_filterMap.1 he'
  simp only [Option.ite_none_right_eq_some,Option.some.injEq] at h1
  obtain ⟨⟨a1,a2⟩,rfl⟩:=h1
  exact ⟨hlt _ a1,hlt _ a2,(yS hv h0).2.2⟩
end Gv
namespace Gv
open Go
section
variable {t:bQ}
theorem oC (hv:dK t) {e:Edge} (he:e∈t.E):mJ t e.F/\mJ t e.To/\0<=e.B/\e.B < t.L.length:=by
 have:=yS hv he
 unfold aCL at this
 unfold mJ;omega
end
end Gv
namespace Gv
open Go
end Gv
namespace Gv
open Go
def IsTop (p:List Int) (b:Int):Prop:=(∃ z∈p,b=z+1)/\∀ z∈p,z+1<=b
theorem aNk {p:List Int} (hl:p.length < 1000000) (h1:1<=p.length) (hp:∀ z∈p,0<=z/\z < 40):∃ b,pF p=some b/\IsTop p b:=by
 have key0:=bZ (step:=fun s:Int × Int=>rI p s.1 s.2) p.length (fun i (a:Int)=>(a,(i:Int)))
  (fun i a=>(i=0/\a=0)\/IsTop (p.take i) a) (fun r=>IsTop p r) (fun i a hi hI=>?_) (fun a hI=>?_) p.length 0 0 (by omega) (.inl ⟨rfl,rfl⟩)
 ·obtain ⟨r,h1,h2⟩:=key0
  have h1':loop (fun s:Int × Int=>rI p s.1 s.2) (0,0)=some r:=h1
  exact ⟨r,by unfold pF;rw [h1',aA];rfl,h2⟩
 ·have hz:=hp _ (List.getElem_mem hi)
  have htk:p.take (i+1)=p.take i++[p[i]]:=by rw [List.take_add_one,List.getElem?_eq_getElem hi];rfl
  simp only [rI,bU hi,if_pos,bK hi,aA,aIE]
  rw [cF (x:=p[i]+1) (by omega) (by omega)]
  have hstep:∀ v:Int,v=(if p[i]+1 < a then a else p[i]+1)->IsTop (p.take (i+1)) v:=by
   intro v hv
   rw [htk]
   rcases hI with ⟨rfl,rfl⟩|⟨⟨x,hx,h2⟩,h3⟩
   ·rw [if_neg (by omega)] at hv
    subst hv
    simp only [List.take_zero,List.nil_append]
    exact ⟨⟨_,by simp,rfl⟩,fun z hz=>by simp at hz;subst hz;omega⟩
   ·by_cases h:p[i]+1 < a
    ·rw [if_pos h] at hv
     subst hv
     refine ⟨⟨x,List.mem_append_left _ hx,h2⟩,fun z hz=>?_⟩
     rcases List.mem_append.1 hz with hz|hz
     ·exact h3 z hz
     ·simp at hz;subst hz;omega
    ·rw [if_neg h] at hv
     subst hv
     refine ⟨⟨p[i],List.mem_append_right _ (by simp),rfl⟩,fun z hz=>?_⟩
     rcases List.mem_append.1 hz with hz|hz
     ·have:=h3 z hz;omega
     ·simp at hz;subst hz;omega
  by_cases h:p[i]+1 < a
  ·rw [if_pos (by simpa using h),aA,bI hi (show p.length < 4611686018427387904 by omega)]
   exact ⟨a,rfl,.inr (hstep a (by rw [if_pos h]))⟩
  ·rw [if_neg (by simpa using h),aA,bI hi (show p.length < 4611686018427387904 by omega)]
   exact ⟨_,rfl,.inr (hstep _ (by rw [if_neg h]))⟩
 ·refine ⟨a,by simp only [rI,fI];rfl,?_⟩
  rcases hI with ⟨h,_⟩|h
  ·omega
  ·rwa [List.take_length] at h
section
variable {t:bQ}
theorem quo_ref (hv:dK t) {p:List Int} (hp:p.length=t.N.toNat) {b:Int} (hb:pF p=some b):qL t p=some (quoL t p b):=by
 have h300:=hv.2.2.2.1
 have h40:=hv.1
 have hi:=hv.2.1
 unfold qL
 rw [aFl (step:=fun s:List Edge × Int=>oP t p s.1 s.2) t.E (fun e=>(⟨bk p e.F,e.B,bk p e.To⟩:Edge)) id (fun k out x hk ho hx=>by
  obtain ⟨_,rfl⟩:=aGb hx
  have hT:=oC hv (List.getElem_mem hk)
  have h1:=hT.1
  have h2:=hT.2.1
  unfold mJ at h1 h2
  simp only [oP,bU hk,if_pos,hx,aA,bk_ix hp (s:=t.E[k].F) (by omega),bk_ix hp (s:=t.E[k].To) (by omega),bI hk (show t.E.length < 4611686018427387904 by omega)]
  rw [cE (by simp [gQ];omega),aA]) (fun out=>by simp only [oP,fI];rfl),aA]
 unfold sT
 rw [bk_ix hp (s:=t.I) (by omega),aA,hb,aA,show id (t.E.map fun e=>(⟨bk p e.F,e.B,bk p e.To⟩:Edge))=quoM t p from rfl]
 rw [aNa hv.2.2.1 (by unfold quoM;rw [List.length_map];omega) (fun e he=>?_) (quoE_SE t p) (fun e=>aMd),aA]
 ·rfl
 ·unfold quoM at he
  obtain ⟨e0,h0,rfl⟩:=List.mem_map.1 he
  exact (oC hv h0).2.2
end
end Gv
