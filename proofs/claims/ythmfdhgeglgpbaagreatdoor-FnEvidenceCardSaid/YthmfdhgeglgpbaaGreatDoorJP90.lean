/- Greatest relations between the states of two systems, by rounds. No program in sight. -/
import Derived.Test.YthmfdhgeglgpbaaGreatDoorJP80
set_option linter.all false
namespace Gv
open Go
section
variable {a b:cN} {B:Int->Int->Bool} {F:(Int->Int->Bool)->Int->Int->Bool}
structure MonoT (a b:cN) (F:(Int->Int->Bool)->Int->Int->Bool):Prop where
 mono:∀ S T:Int->Int->Bool,(∀ x y,inT a x->inT b y->S x y=true->T x y=true)->∀ x y,inT a x->inT b y->F S x y=true->F T x y=true
end
end Gv
namespace Gv
open Go
end Gv
namespace Gv
open Go
def AftT (t:cN) (S:List Int) (s:aJ) (q:Int):Prop:=∃ e∈t.E,txt t e=s/\e.F∈S/\e.To=q
section
variable {t:cN}
theorem AftT.inn (hv:cM t) {S:List Int} {s:aJ} {q:Int} (h:AftT t S s q):0<=q/\q < t.N:=by
 obtain ⟨e,he,_,_,rfl⟩:=h
 exact (aLr hv he).2.1
def Wk (t:cN) (y:Int) (s:aJ) (w:Int):Prop:=if s=eQ then Cl t (·∈[y]) w else Cl t (fun q=>∃ e∈t.E,txt t e=s/\Cl t (·∈[y]) e.F/\e.To=q) w
theorem Wk.inn (hv:cM t) {y:Int} (hy:inT t y) {s:aJ} {w:Int} (h:Wk t y s w):inT t w:=by
 unfold inT at hy ⊢
 unfold Wk at h
 split at h
 ·exact h.inn hv fun q hq=>by simp at hq;omega
 ·exact h.inn hv fun q hq=>by
   obtain ⟨e,he,_,_,rfl⟩:=hq
   exact (aLr hv he).2.1
end
end Gv
namespace Gv
open Go
def StW (b:cN) (kind y:Int) (s:aJ) (w:Int):Prop:=if kind=2 then Wk b y s w else ∃ f∈b.E,f.F=y/\txt b f=s/\f.To=w
section
variable {a b:cN} {kind:Int}
theorem StW.inn (hb:cM b) {y:Int} (hy:inT b y) {s:aJ} {w:Int} (h:StW b kind y s w):inT b w:=by
 unfold StW at h
 split at h
 ·exact h.inn hb hy
 ·obtain ⟨f,hf,_,_,rfl⟩:=h
  exact (aLs hb hf).2.1
end
end Gv
namespace Gv
open Go
section
variable {a b:cN} {kind:Int}
end
end Gv
namespace Gv
open Go
section
variable {a b:cN} {kind:Int}
end
end Gv
namespace Gv
open Go
section
variable {a b:cN} {kind:Int}
instance inT_dec (t:cN) (k:Int):Decidable (inT t k):=by unfold inT;infer_instance
end
end Gv
namespace Gv
open Go
section
variable {a b:cN} {kind:Int}
end
end Gv
namespace Gv
open Go
def unA (a b:cN) (M:List aJ):List Edge:=(a.E.map fun e=>(⟨e.F,pos (eQ::M) (txt a e),e.To⟩:Edge))++b.E.map fun e=>(⟨e.F+a.N,pos (eQ::M) (txt b e),e.To+a.N⟩:Edge)
structure Uni (a b:cN) (M:List aJ) (Eo:List Edge):Prop where
 str:tP M
 mem:∀ s,s∈M<->s∈a.L++b.L/\s≠eQ
 len:M.length<=24
 se:SE Eo
 ed:∀ x,x∈Eo<->x∈unA a b M
 elen:Eo.length<=600
section
variable {a b:cN}
theorem txt_in {t:cN} (hv:cM t) {e:Edge} (he:e∈t.E):txt t e∈t.L:=by
 have:=(aLs hv he).2.2
 unfold txt
 rw [List.getD_eq_getElem?_getD,List.getElem?_eq_getElem (by omega)]
 exact List.getElem_mem _
end
end Gv
namespace Gv
open Go
structure Big (u:cN):Prop where
 st:1<=u.N/\u.N<=100
 lab:u.L.length<=100
 ed:u.E.length<=1000
 inn:∀ e∈u.E,inT u e.F/\inT u e.To/\0<=e.B/\e.B < u.L.length
section
variable {u:cN} {p:List Int}
end
end Gv
namespace Gv
open Go
section
variable {a b:cN}
theorem pos_rng {γ:Type} [BEq γ] [LawfulBEq γ] {xs:List γ} {x:γ} (hx:x∈xs):0<=pos xs x/\pos xs x < xs.length:=by
 obtain ⟨i,e,g⟩:=get_pos hx
 have:=(List.getElem?_eq_some_iff.1 g).1
 omega
end
end Gv
namespace Gv
open Go
theorem anU_le (x:Int):0<=anU x 255/\anU x 255<=255:=by
 unfold anU
 have h:(BitVec.ofInt 64 x&&& BitVec.ofInt 64 255).toNat<=255:=by
  rw [BitVec.toNat_and]
  exact Nat.le_trans Nat.and_le_right (by decide)
 unfold oV
 omega
theorem shU_ok (x:Int):∃ y,shU x 40=some y:=⟨_,by unfold shU;rw [if_pos (by decide)]⟩
theorem byte_le (b:UInt8):0<=(b.toNat:Int)/\(b.toNat:Int)<=255:=by
 have:=b.toNat_lt
 omega
theorem next_ok (c:aJ) {s1:Int} (s2:Int) (h:0<=s1/\s1<=1000000000000):∃ v s2',uG c s1 s2=some (v,s1+1,s2')/\0<=v/\v<=255:=by
 have hw:wr (s1+1)=s1+1:=bT (by omega) (by omega)
 have key:∀ b:Int,0<=b/\b<=255->∃ v s2',rX c s1 s2 b=some (v,s1+1,s2')/\0<=v/\v<=255:=by
  intro b hb
  unfold rX
  rw [hw]
  split
  ·exact ⟨_,_,rfl,hb⟩
  ·obtain ⟨y,hy⟩:=shU_ok (oV ((oV ((oV (s2 * 6364136223846793005))+(oV b)))+1442695040888963407))
   rw [hy,aA]
   have h2:=anU_le y
   refine ⟨_,_,rfl,?_⟩
   rw [bT (by omega) (by omega)];exact h2
 unfold uG
 split
 ·rename_i hlt
  have hlt':s1 < (c.length:Int):=by simpa using hlt
  rw [aHq h.1 (by omega),aA]
  have hb:=byte_le (c[s1.toNat]'(by omega))
  rw [bT (by omega) (by omega)]
  exact key _ hb
 ·exact key 0 (by omega)
theorem rm_ok {x n:Int} (hx:0<=x) (hn:1<=n):∃ v,rm x n=some v/\0<=v/\v < n:=by
 unfold rm
 rw [if_neg (by omega)]
 have e:x.tmod n=x % n:=Int.tmod_eq_emod_of_nonneg hx
 have h1:=Int.emod_nonneg x (show n≠0 by omega)
 have h2:=Int.emod_lt_of_pos x (show 0 < n by omega)
 first
  |exact ⟨_,rfl,by rw [e];exact h1,by rw [e];exact h2⟩
  |exact ⟨_,rfl,by rw [e,bT]<;>omega,by rw [e,bT]<;>omega⟩
theorem fL (c:aJ) {s1 n:Int} (s2:Int) (h:0<=s1/\s1<=100000000000) (hn:1<=n):∃ v s1' s2',bJ c s1 s2 n=some (v,s1',s2')/\(0<=v/\v < n)/\s1<=s1'/\s1'<=s1+2:=by
 unfold bJ
 by_cases h1:n<=1
 ·rw [if_pos (by simpa using h1)]
  exact ⟨_,_,_,rfl,by omega,by omega,by omega⟩
 ·rw [if_neg (by simpa using h1)]
  obtain ⟨v,t2,e,g1,g2⟩:=next_ok c s2 (s1:=s1) (by omega)
  rw [e,aA]
  simp only
  have key:∀ x a b:Int,0<=x->s1<=a->a<=s1+2->∃ v s1' s2',rY n x a b=some (v,s1',s2')/\(0<=v/\v < n)/\s1<=s1'/\s1'<=s1+2:=by
   intro x a b hx ha hb
   unfold rY
   obtain ⟨y,hy,q1,q2⟩:=rm_ok hx (show 1<=n by omega)
   rw [hy,aA]
   exact ⟨_,_,_,rfl,⟨q1,q2⟩,ha,hb⟩
  by_cases h2:200 < n
  ·rw [if_pos (by simpa using h2)]
   obtain ⟨v',t2',e',g1',g2'⟩:=next_ok c t2 (s1:=s1+1) (by omega)
   rw [e',aA]
   simp only
   rw [bT (x:=v * 256) (by omega) (by omega),bT (by omega) (by omega)]
   exact key _ _ _ (by omega) (by omega) (by omega)
  ·rw [if_neg (by simpa using h2)]
   exact key _ _ _ g1 (by omega) (by omega)
theorem aIy (c:aJ) {s1 n:Int} (s2:Int) (h:0<=s1/\s1<=100000000000) (hn:1<=n):∃ b s1' s2',kM c s1 s2 n=some (b,s1',s2')/\s1<=s1'/\s1'<=s1+2:=by
 obtain ⟨v,a,b,e,_,h2,h3⟩:=fL c s2 h hn
 unfold kM
 rw [e,aA]
 exact ⟨_,_,_,rfl,h2,h3⟩
theorem aEw (c:aJ) {s1:Int} (s2:Int) (h:0<=s1/\s1<=100000000000) {l:List Int} (hl:l≠[]):∃ v s1' s2',fA c s1 s2 l=some (v,s1',s2')/\v∈l/\s1<=s1'/\s1'<=s1+2:=by
 have h1:1<=(l.length:Int):=by
  have:=List.length_pos_iff.2 hl
  omega
 obtain ⟨v,a,b,e,hv,h2,h3⟩:=fL c s2 h h1
 unfold fA
 rw [e,aA]
 simp only
 rw [aHq hv.1 (by omega),aA]
 exact ⟨_,_,_,rfl,List.getElem_mem _,h2,h3⟩
end Gv
namespace Gv
open Go
def Nm:List aJ:=[eQ,[97],[98],[99],[103,101,116,40,48,41],[103,101,116,40,49,41]]
theorem Nm_lab:∀ s∈Nm,rK s=true:=by decide
theorem Nm_len:∀ s∈Nm,s.length<=6:=by decide
structure Drn (c:Nat) (t:cN):Prop where
 ok:cM t
 nm:∀ s∈t.L,s∈Nm
 st:t.N<=10
 ed:t.E.length<=c
theorem Drn.fits {c:Nat} {t:cN} (h:Drn c t):iD 999999999 t:=by
 have h1:=h.ok.2.2.1.2.1
 have h2:=h.ok.2.2.2.1
 refine ⟨by omega,fun s hs=>?_,by omega⟩
 have:=Nm_len s (h.nm s hs)
 omega
theorem Drn.mono {c d:Nat} {t:cN} (h:Drn c t) (hc:c<=d):Drn d t:=⟨h.ok,h.nm,h.st,Nat.le_trans h.ed hc⟩
theorem aPR (l:List Edge):SE (iW (srt cK l)):=by
 have h1:(srt cK l).Pairwise fun a b=>cK b a=false:=by
  have:=List.pairwise_mergeSort (le:=fun a b=>!cK b a) (fun a b c h1 h2=>?_) (fun a b=>?_) l
  ·refine this.imp fun {a b} h=>?_
   simpa using h
  ·simp only [Bool.not_eq_true'] at h1 h2 ⊢
   cases h3:cK c a with
   |false=>rfl
   |true=>
    have:=aOU h3 h1
    rw [h2] at this;cases this
  ·cases h3:cK b a with
   |false=>simp
   |true=>simp [aRR h3]
 exact aJL (R:=fun a b=>cK b a=false) (S:=fun a b=>cK a b=true) (fun h hne=>aOT h hne) (fun h h'=>aOU h h') h1
theorem aRa (l:List Edge):(iW (srt cK l)).length<=l.length:=by
 have:=aOV (srt cK l)
 unfold srt at this ⊢
 rwa [List.length_mergeSort] at this
theorem aKL {l:List Edge} {x:Edge}:x∈iW (srt cK l)<->x∈l:=by
 rw [aIP];unfold srt;rw [List.mem_mergeSort]
theorem labs_nm {M:List aJ} (hM:tP M) (hn:∀ s∈M,s∈Nm):aAT (eQ::M):=by
 have hnd:M.Nodup:=hM.1.imp fun {a b} h e=>by subst e;rw [zM] at h;cases h
 have hl:M.length<=5:=by
  have:=List.Nodup.length_le_of_subset (l₁:=eQ::M) (l₂:=Nm) (List.nodup_cons.2 ⟨hM.2,hnd⟩) (fun x hx=>by
   rcases List.mem_cons.1 hx with rfl|hx
   ·simp [Nm]
   ·exact hn x hx)
  have h6:Nm.length=6:=rfl
  rw [List.length_cons] at this
  omega
 refine ⟨by simp,by simp;omega,fun _=>rfl,fun k h1 hk=>?_⟩
 obtain ⟨k,rfl⟩:∃ j,k=j+1:=⟨k - 1,by omega⟩
 have hk':k < M.length:=by simpa using hk
 have hm:M[k]∈M:=List.getElem_mem hk'
 rw [List.getElem_cons_succ]
 refine ⟨Nm_lab _ (hn _ hm),fun e=>hM.2 (e ▸ hm),fun h2=>?_⟩
 obtain ⟨k,rfl⟩:∃ j,k=j+1:=⟨k - 1,by omega⟩
 have:=List.pairwise_iff_getElem.1 hM.1 k (k+1) (by omega) hk' (by omega)
 simpa using this
theorem make_ok {T:List aJ} (hT:∀ s∈T,s∈Nm) (hTl:T.length<=100) {st ini:Int} (h1:1<=st/\st<=10) (h2:0<=ini/\ini < st) {edges:List Edge} (hl:edges.length<=300)
  (he:∀ e∈edges,(0<=e.F/\e.F < st)/\(0<=e.To/\e.To < st)/\0<=e.B/\e.B < T.length):∃ t,aDp st ini T edges=some t/\Drn edges.length t/\t.N=st/\t.I=ini:=by
 obtain ⟨M,_,j2,j3,j4⟩:=aQS T (by omega)
 have hM:∀ s∈M,s∈Nm:=fun s hs=>hT s ((j3 s).1 hs).1
 refine ⟨⟨st,ini,eQ::M,iW (srt cK (edges.map fun e=>(⟨e.F,pos (eQ::M) (T.getD e.B.toNat []),e.To⟩:Edge)))⟩,make_gen (by omega) j2 j3 (by omega) (fun e h=>(he e h).2.2) (aPR _) (fun x=>?_) st ini,⟨⟨by show 1<=st/\st<=40;omega,by show 0<=ini/\ini<=st - 1;omega,labs_nm j2 hM,aQZ ?_ (aPR _) fun x hx=>?_⟩,fun s hs=>?_,by show st<=10;omega,?_⟩,rfl,rfl⟩
 ·rw [aKL,List.mem_map]
  exact ⟨fun ⟨e,h,g⟩=>⟨e,h,g.symm⟩,fun ⟨e,h,g⟩=>⟨e,h,g.symm⟩⟩
 ·have:=aRa (edges.map fun e=>(⟨e.F,pos (eQ::M) (T.getD e.B.toNat []),e.To⟩:Edge))
  rw [List.length_map] at this
  exact Nat.le_trans this hl
 ·obtain ⟨e,h,rfl⟩:=List.mem_map.1 (aKL.1 hx)
  obtain ⟨g1,g2,g3,g4⟩:=he e h
  have hin:T.getD e.B.toNat []∈eQ::M:=by
   have hmem:T.getD e.B.toNat []∈T:=by
    rw [List.getD_eq_getElem?_getD,List.getElem?_eq_getElem (by omega)]
    exact List.getElem_mem _
   by_cases ht:T.getD e.B.toNat []=eQ
   ·rw [ht];simp
   ·exact List.mem_cons_of_mem _ ((j3 _).2 ⟨hmem,ht⟩)
  have:=pos_rng hin
  show (0<=e.F/\e.F<=st - 1)/\(0<=e.To/\e.To<=st - 1)/\0<=pos (eQ::M) (T.getD e.B.toNat [])/\pos (eQ::M) (T.getD e.B.toNat [])<=((eQ::M).length:Int) - 1
  omega
 ·rcases List.mem_cons.1 hs with rfl|hs
  ·simp [Nm]
  ·exact hM s hs
 ·have:=aRa (edges.map fun e=>(⟨e.F,pos (eQ::M) (T.getD e.B.toNat []),e.To⟩:Edge))
  rw [List.length_map] at this
  exact this
theorem names_ok (c:aJ) {s1:Int} (s2:Int) (h:0<=s1/\s1<=10000000000):∃ L s1' s2',vH c s1 s2=some (L,s1',s2')/\((∀ s∈L,s∈Nm)/\1<=L.length/\L.length<=7)/\s1<=s1'/\s1'<=s1+10:=by
 have key:=dO (step:=fun s:Int × Int × List aJ × Int=>nG c s.1 s.2.1 s.2.2.1 s.2.2.2) 5 (fun k (a:Int × Int × List aJ)=>(a.1,a.2.1,a.2.2,(k:Int))) (fun k a=>(∀ s∈a.2.2,s∈Nm)/\1<=a.2.2.length/\a.2.2.length<=1+k/\s1<=a.1/\a.1<=s1+2 * k)
  (fun r=>(∀ s∈r.1,s∈Nm)/\1<=r.1.length/\r.1.length<=6/\s1<=r.2.1/\r.2.1<=s1+10) (fun k a hk hI=>?_) (fun a hI=>?_) 5 0 (s1,s2,[eQ]) (by omega) ⟨by simp [Nm],by simp,by simp,by simp,by simp⟩
 ·obtain ⟨r,h1,g1,g2,g3,g4,g5⟩:=key
  unfold vH
  have h1':loop (fun s:Int × Int × List aJ × Int=>nG c s.1 s.2.1 s.2.2.1 s.2.2.2) (s1,s2,[eQ],0)=some r:=h1
  rw [show ([([116,97,117]:aJ)]:List aJ)=[eQ] from rfl,h1',aA]
  unfold uW uV
  split
  ·rw [cG (by simp [iE];omega),aA]
   refine ⟨_,_,_,rfl,⟨fun s hs=>?_,by simp,by simp;omega⟩,g4,g5⟩
   rcases List.mem_append.1 hs with hs|hs
   ·exact g1 s hs
   ·simp at hs;subst hs;simp [Nm]
  ·exact ⟨_,_,_,rfl,⟨g1,g2,by omega⟩,g4,g5⟩
 ·obtain ⟨x,y,o⟩:=a
  obtain ⟨g1,g2,g3,g4,g5⟩:=hI
  simp only at g1 g2 g3 g4 g5 ⊢
  obtain ⟨b,t1,t2,e,h3,h4⟩:=aIy c y (s1:=x) (n:=2) (by omega) (by omega)
  have hw:wr ((k:Int)+1)=((k+1:Nat):Int):=bQ hk (by omega)
  unfold nG
  rw [if_pos (by simp;omega),e,aA]
  have hno:kN (k:Int) t1 t2 o=some (.inl (t1,t2,o,((k+1:Nat):Int))):=by unfold kN;rw [hw]
  have key:∀ v:Bool,∃ a':Int × Int × List aJ,qF o (k:Int) t1 t2 v=some (.inl (a'.1,a'.2.1,a'.2.2,((k+1:Nat):Int)))/\(∀ s∈a'.2.2,s∈Nm)/\1<=a'.2.2.length/\a'.2.2.length<=1+(k+1)/\s1<=a'.1/\a'.1<=s1+2 * ((k+1:Nat):Int):=by
   intro v
   unfold qF
   cases v with
   |false=>
    rw [if_neg (by simp),hno]
    exact ⟨(t1,t2,o),rfl,g1,g2,by simp only;omega,by simp only;omega,by simp only;omega⟩
   |true=>
    have hkl:k < ([([97]:aJ),([98]:aJ),([99]:aJ),([103,101,116,40,48,41]:aJ),([103,101,116,40,49,41]:aJ)]:List aJ).length:=hk
    rw [if_pos rfl,bS hkl,aA,cG (by simp [iE];omega),aA]
    unfold kN
    rw [hw]
    refine ⟨(t1,t2,_),rfl,fun s hs=>?_,by simp,by simp;omega,by simp only;omega,by simp only;omega⟩
    rcases List.mem_append.1 hs with hs|hs
    ·exact g1 s hs
    ·rw [List.mem_singleton] at hs
     have:s∈([([97]:aJ),([98]:aJ),([99]:aJ),([103,101,116,40,48,41]:aJ),([103,101,116,40,49,41]:aJ)]:List aJ):=hs ▸ List.getElem_mem hkl
     exact List.mem_cons_of_mem _ this
  split
  ·exact key _
  ·exact key _
 ·obtain ⟨x,y,o⟩:=a
  obtain ⟨g1,g2,g3,g4,g5⟩:=hI
  simp only at g1 g2 g3 g4 g5 ⊢
  refine ⟨(o,x,y),?_,g1,g2,by simp only;omega,g4,by simp only;omega⟩
  unfold nG
  rw [if_neg (by simp)]
end Gv
set_option linter.unusedVariables false
set_option linter.unusedSimpArgs false
namespace Gv
open Go
theorem del_gen {γ:Type} (z:γ) {xs:List γ} {p:γ->Bool} (hl:xs.length < 1000000) {r0:Option Int} (h0:r0=some (match xs.findIdx? p with|none=>-1|some i=>(i:Int)))
  {step:List γ × Int × Int->Option ((List γ × Int × Int) ⊕ (List γ × Int))}
  (hin:∀ (s:List γ) (i j:Nat) (x:γ),(hj:j < s.length)->i < j->s[j]=x->x∈xs->s.length=xs.length->step (s,(i:Int),(j:Int))=some (.inl (if p x=true then (s,(i:Int),((j+1:Nat):Int)) else (s.set i x,((i+1:Nat):Int),((j+1:Nat):Int)))))
  (hout:∀ (s:List γ) (i:Int),step (s,i,(s.length:Int))=some (.inr (s,i))):
  (ob r0 fun r=>if (r == (-1)) then some xs else ob (loop step (xs,r,wr (r+1))) fun q=>ob (slc q.1 q.2 (q.1.length:Int)) fun r35=>ob (ovw q.1 q.2 (List.replicate r35.length z)) fun xs41=>ob (slc xs41 0 q.2) fun r45=>some r45)=some (xs.filter fun x=>!p x):=by
 rw [h0,aA]
 cases hf:xs.findIdx? p with
 |none=>
  have:xs.filter (fun x=>!p x)=xs:=List.filter_eq_self.2 fun x hx=>by have:=List.findIdx?_eq_none_iff.1 hf x hx;simp [this]
  rw [if_pos (by rfl),this]
 |some i0=>
  obtain ⟨hi0,hpi,hlt⟩:=List.findIdx?_eq_some_iff_getElem.1 hf
  rw [if_neg (by simp)]
  have:=dO (step:=step) xs.length (fun j (a:List γ × Nat)=>(a.1,(a.2:Int),(j:Int)))
   (fun j a=>a.1.length=xs.length/\a.2 < j/\a.1.take a.2=(xs.take j).filter (fun x=>!p x)/\a.1.drop j=xs.drop j) (fun r=>∃ i:Nat,r.2=(i:Int)/\r.1.length=xs.length/\i<=xs.length/\r.1.take i=xs.filter fun x=>!p x) (fun j a hj hI=>?_) (fun a hI=>?_) (xs.length - (i0+1)) (i0+1) (xs,i0) (by omega) ⟨rfl,by simp,?_,rfl⟩
  ·obtain ⟨r,hr,i,h1,h2,h3,h4⟩:=this
   have hr':loop step (xs,(i0:Int),((i0+1:Nat):Int))=some r:=hr
   simp only
   rw [bQ (n:=xs.length) hi0 (by omega),hr',aA]
   have s1:slc r.1 (i:Int) (r.1.length:Int)=some (r.1.drop i):=by
    unfold slc;rw [if_pos ⟨by omega,by omega,by omega⟩]
    rw [Int.toNat_natCast,Int.toNat_natCast,List.take_of_length_le (by simp)]
   rw [h1,s1,aA]
   have o1:ovw r.1 (i:Int) (List.replicate (r.1.drop i).length z)=some (r.1.take i++List.replicate (r.1.drop i).length z):=by
    unfold ovw
    rw [if_pos ⟨by omega,by simp only [Int.toNat_natCast,List.length_replicate,List.length_drop];omega⟩]
    simp only [Int.toNat_natCast,List.length_replicate,List.length_drop]
    rw [List.drop_of_length_le (by omega),List.append_nil]
   rw [o1,aA]
   have s2:slc (r.1.take i++List.replicate (r.1.drop i).length z) 0 (i:Int)=some (r.1.take i):=by
    unfold slc;rw [if_pos ⟨by omega,by omega,by simp;omega⟩]
    simp only [Int.toNat_natCast,Int.toNat_zero,List.drop_zero,Nat.sub_zero]
    rw [List.take_append_of_le_length (by simp;omega),List.take_of_length_le (by simp;omega)]
   rw [s2,aA,h4]
  ·obtain ⟨s,i⟩:=a
   obtain ⟨h1,h2,h3,h4⟩:=hI
   simp only at h1 h2 h3 h4
   have hsj:s[j]'(by omega)=xs[j]:=by
    have a1:=List.drop_eq_getElem_cons (l:=s) (i:=j) (by omega)
    have a2:=List.drop_eq_getElem_cons (l:=xs) (i:=j) hj
    rw [a1,a2] at h4
    exact (List.cons.inj h4).1
   have hd:s.drop (j+1)=xs.drop (j+1):=by
    rw [←List.drop_drop (i:=1) (j:=j),←List.drop_drop (i:=1) (j:=j),h4]
   have ht:(xs.take (j+1)).filter (fun x=>!p x)=(xs.take j).filter (fun x=>!p x)++(if p xs[j]=true then [] else [xs[j]]):=by
    rw [List.take_add_one,List.getElem?_eq_getElem hj,List.filter_append]
    simp only [Option.toList_some]
    cases hq:p xs[j]<;>simp [hq]
   simp only [hin s i j _ (by omega) h2 hsj (List.getElem_mem hj) h1]
   cases hpj:p xs[j] with
   |true=>
    refine ⟨(s,i),rfl,h1,by simp only;omega,?_,hd⟩
    rw [ht,hpj];simpa using h3
   |false=>
    refine ⟨(s.set i xs[j],i+1),rfl,by simpa using h1,by simp only;omega,?_,?_⟩
    ·rw [ht,hpj]
     simp only [Bool.false_eq_true,if_false]
     rw [List.take_add_one,List.getElem?_set_self (by omega),List.take_set_of_le (Nat.le_refl _),h3];rfl
    ·simp only
     rw [List.drop_set_of_lt (by omega)];exact hd
  ·obtain ⟨s,i⟩:=a
   obtain ⟨h1,h2,h3,h4⟩:=hI
   simp only at h1 h2 h3 h4
   refine ⟨(s,(i:Int)),by rw [←h1];exact hout s i,i,rfl,h1,by omega,?_⟩
   rw [List.take_length] at h3;exact h3
  ·rw [List.take_add_one,List.getElem?_eq_getElem hi0,List.filter_append]
   simp only [Option.toList_some]
   rw [List.filter_eq_self.2 (fun x hx=>by
    obtain ⟨j,hj,rfl⟩:=List.getElem_of_mem hx
    rw [List.length_take] at hj
    rw [List.getElem_take]
    have:=hlt j (by omega)
    simpa using this)]
   simp [hpi]
end Gv
namespace Gv
open Go
def EdOk (st:Int) (n:Nat) (e:Edge):Prop:=(0<=e.F/\e.F < st)/\(0<=e.To/\e.To < st)/\0<=e.B/\e.B < n
section
variable {c:aJ} {r9 r14:Int × Int × Int} {base st:Int}
def aNI (K:List Int) (base st:Int):Prop:=(K.length:Int)=st/\∀ i,(hi:i < K.length)->(0<=K[i]/\K[i] < base)/\((i:Int) < base->K[i]=(i:Int))
theorem kinds_ok (hb:1<=base/\base<=4) (hs:base<=st/\st<=6) (e1:wr (1+r9.1)=base) (e2:wr (base+r14.1)=st) {s1:Int} (s2:Int) (h:0<=s1/\s1<=10000000000):
  ∃ a b K,loop (fun s:Int × Int × List Int × Int=>pV c r9 r14 s.1 s.2.1 s.2.2.1 s.2.2.2) (s1,s2,([]:List Int),0)=some (a,b,K)/\aNI K base st/\s1<=a/\a<=s1+12:=by
 have key:=dO (step:=fun s:Int × Int × List Int × Int=>pV c r9 r14 s.1 s.2.1 s.2.2.1 s.2.2.2) st.toNat (fun k (a:Int × Int × List Int)=>(a.1,a.2.1,a.2.2,(k:Int))) (fun k a=>(a.2.2.length=k/\∀ i,(hi:i < a.2.2.length)->(0<=a.2.2[i]/\a.2.2[i] < base)/\((i:Int) < base->a.2.2[i]=(i:Int)))/\s1<=a.1/\a.1<=s1+2 * k)
  (fun r=>aNI r.2.2 base st/\s1<=r.1/\r.1<=s1+12) (fun k a hk hI=>?_) (fun a hI=>?_) st.toNat 0 (s1,s2,[]) (by omega) ⟨⟨rfl,fun i hi=>by simp at hi⟩,by simp,by simp⟩
 ·obtain ⟨⟨a,b,K⟩,h1,g1,g2,g3⟩:=key
  exact ⟨a,b,K,h1,g1,g2,g3⟩
 ·obtain ⟨x,y,o⟩:=a
  obtain ⟨⟨g1,g2⟩,g3,g4⟩:=hI
  simp only at g1 g2 g3 g4 ⊢
  have hw:wr ((k:Int)+1)=((k+1:Nat):Int):=bQ hk (by omega)
  have hadd:∀ v:Int,(0<=v/\v < base)->((k:Int) < base->v=(k:Int))->(o++[v]).length=k+1/\∀ i,(hi:i < (o++[v]).length)->(0<=(o++[v])[i]/\(o++[v])[i] < base)/\((i:Int) < base->(o++[v])[i]=(i:Int)):=by
   intro v h1 h2
   refine ⟨by simp;exact g1,fun i hi=>?_⟩
   by_cases hl:i < o.length
   ·rw [List.getElem_append_left hl];exact g2 i hl
   ·have:i=o.length:=by simp at hi;omega
    subst this
    rw [List.getElem_append_right (Nat.le_refl _)]
    simp only [Nat.sub_self,List.getElem_cons_zero]
    exact ⟨h1,fun h=>by rw [g1] at h ⊢;exact h2 h⟩
  unfold pV
  rw [e1,e2,if_pos (by simp;omega)]
  by_cases hkb:(k:Int) < base
  ·rw [if_pos (by simpa using hkb),cG (by simp [iE];omega),aA]
   unfold pU
   rw [hw]
   exact ⟨(x,y,o++[(k:Int)]),rfl,hadd _ (by omega) (fun _=>rfl),by simp only;omega,by simp only;omega⟩
  ·rw [if_neg (by simpa using hkb)]
   obtain ⟨v,t1,t2,e,q1,q2,q3⟩:=fL c y (s1:=x) (n:=base) (by omega) (by omega)
   rw [e,aA,cG (by simp [iE];omega),aA]
   unfold pU
   rw [hw]
   exact ⟨(t1,t2,o++[v]),rfl,hadd _ q1 (fun h=>absurd h hkb),by simp only;omega,by simp only;omega⟩
 ·obtain ⟨x,y,o⟩:=a
  obtain ⟨⟨g1,g2⟩,g3,g4⟩:=hI
  simp only at g1 g2 g3 g4 ⊢
  refine ⟨(x,y,o),?_,⟨by simp only;omega,g2⟩,g3,by simp only;omega⟩
  unfold pV
  rw [e1,e2,if_neg (by simp;omega)]
theorem alike_ok {r219:Int × Int × Int} {K:List Int} (hb:1<=base/\base<=4) (hs:base<=st/\st<=6) (e1:wr (1+r9.1)=base) (e2:wr (base+r14.1)=st) (hK:aNI K base st) (hto:0<=r219.1/\r219.1 < base):
  ∃ l,loop (fun s:List Int × Int=>mS r9 r14 K r219 s.1 s.2) (([]:List Int),0)=some l/\l≠[]/\∀ z∈l,0<=z/\z < st:=by
 have hKl:=hK.1
 have key:=dO (step:=fun s:List Int × Int=>mS r9 r14 K r219 s.1 s.2) st.toNat (fun k (a:List Int)=>(a,(k:Int))) (fun k a=>a.length<=k/\(r219.1 < k->r219.1∈a)/\∀ z∈a,0<=z/\z < st) (fun r=>r≠[]/\∀ z∈r,0<=z/\z < st) (fun k a hk hI=>?_) (fun a hI=>?_) st.toNat 0 [] (by omega) ⟨by simp,fun h=>by omega,by simp⟩
 ·obtain ⟨l,h1,h2⟩:=key
  exact ⟨l,h1,h2⟩
 ·obtain ⟨g1,g2,g3⟩:=hI
  have hkl:k < K.length:=by omega
  have hw:wr ((k:Int)+1)=((k+1:Nat):Int):=bQ hk (by omega)
  show ∃ a',mS r9 r14 K r219 a (k:Int)=_/\_
  unfold mS vM
  rw [e1,e2,if_pos (by simp;omega),bS hkl,aA,hw]
  by_cases he:K[k]=r219.1
  ·rw [if_pos (by simpa using he),cG (by simp [iE];omega),aA]
   refine ⟨_,rfl,by simp;omega,fun h=>?_,fun z hz=>?_⟩
   ·by_cases hlt:r219.1 < k
    ·exact List.mem_append_left _ (g2 hlt)
    ·exact List.mem_append_right _ (by simp;omega)
   ·rcases List.mem_append.1 hz with hz|hz
    ·exact g3 z hz
    ·simp at hz;omega
  ·rw [if_neg (by simpa using he)]
   refine ⟨_,rfl,by omega,fun h=>g2 ?_,g3⟩
   have:=(hK.2 k hkl).2
   by_cases hlt:r219.1 < k
   ·exact hlt
   ·exfalso
    have e:r219.1=(k:Int):=by omega
    exact he (by rw [e];exact this (by omega))
 ·obtain ⟨g1,g2,g3⟩:=hI
  refine ⟨a,?_,fun h=>?_,g3⟩
  ·show mS r9 r14 K r219 a ((st.toNat:Nat):Int)=_
   unfold mS
   rw [e1,e2,if_neg (by simp;omega)]
  ·have:=g2 (by omega)
   rw [h] at this;cases this
theorem edges_row {r209 r214 r219:Int × Int × Int} {K:List Int} {nl:Nat} (hb:1<=base/\base<=4) (hs:base<=st/\st<=6) (e1:wr (1+r9.1)=base) (e2:wr (base+r14.1)=st) (hK:aNI K base st) (hto:0<=r219.1/\r219.1 < base) (hlab:0<=r214.1/\r214.1 < nl)
  {s1:Int} (s2:Int) (h:0<=s1/\s1<=10000000000) {ed:List Edge} (hed:∀ e∈ed,EdOk st nl e) (hel:ed.length<=1000):
  ∃ a b ed',loop (fun s:Int × Int × List Edge × Int=>rZ c r9 r14 K r209 r214 r219 s.1 s.2.1 s.2.2.1 s.2.2.2) (s1,s2,ed,0)=some (a,b,ed')/\(∀ e∈ed',EdOk st nl e)/\ed'.length<=ed.length+6/\s1<=a/\a<=s1+12:=by
 have hKl:K.length=st.toNat:=by have:=hK.1;omega
 have hst9:st.toNat < 4611686018427387904:=by omega
 obtain ⟨al,ha1,ha2,ha3⟩:=alike_ok (r9:=r9) (r14:=r14) (r219:=r219) hb hs e1 e2 hK hto
 have key:=dO (step:=fun s:Int × Int × List Edge × Int=>rZ c r9 r14 K r209 r214 r219 s.1 s.2.1 s.2.2.1 s.2.2.2) st.toNat (fun k (a:Int × Int × List Edge)=>(a.1,a.2.1,a.2.2,(k:Int))) (fun k a=>(∀ e∈a.2.2,EdOk st nl e)/\a.2.2.length<=ed.length+k/\s1<=a.1/\a.1<=s1+2 * k)
  (fun r=>(∀ e∈r.2.2,EdOk st nl e)/\r.2.2.length<=ed.length+6/\s1<=r.1/\r.1<=s1+12) (fun k a hk hI=>?_) (fun a hI=>?_) st.toNat 0 (s1,s2,ed) (by omega) ⟨hed,by simp,by simp,by simp⟩
 ·obtain ⟨⟨a,b,K⟩,h1,g1,g2,g3⟩:=key
  exact ⟨a,b,K,h1,g1,g2,g3⟩
 ·obtain ⟨x,y,o⟩:=a
  obtain ⟨g1,g2,g3,g4⟩:=hI
  simp only at g1 g2 g3 g4 ⊢
  have hkl:k < K.length:=by rw [hKl];exact hk
  unfold rZ
  rw [e1,e2,if_pos (by simp;omega),bS hkl,aA]
  unfold vL vK
  rw [bQ hk (show st.toNat < 4611686018427387904 from hst9)]
  by_cases he:K[k]=r209.1
  ·rw [if_neg (by simp [he]),ha1,aA]
   obtain ⟨v,t1,t2,e,q1,q2,q3⟩:=aEw c y (s1:=x) (by omega) ha2
   rw [e,aA,cG (by simp [iE];omega),aA]
   have hv:=ha3 v q1
   refine ⟨(t1,t2,_),rfl,fun e he=>?_,by simp;omega,by simp only;omega,by simp only;omega⟩
   rcases List.mem_append.1 he with he|he
   ·exact g1 e he
   ·rw [List.mem_singleton] at he
    subst he
    exact ⟨by simp only;omega,by simp only;omega,hlab⟩
  ·rw [if_pos (by simpa using he)]
   exact ⟨(x,y,o),rfl,g1,by simp only;omega,by simp only;omega,by simp only;omega⟩
 ·obtain ⟨x,y,o⟩:=a
  obtain ⟨g1,g2,g3,g4⟩:=hI
  simp only at g1 g2 g3 g4 ⊢
  refine ⟨(x,y,o),?_,g1,by simp only;omega,g3,by simp only;omega⟩
  unfold rZ
  rw [e1,e2,if_neg (by simp;omega)]
theorem edges_all {r19:List aJ × Int × Int} {K:List Int} (hb:1<=base/\base<=4) (hs:base<=st/\st<=6) (e1:wr (1+r9.1)=base) (e2:wr (base+r14.1)=st) (hK:aNI K base st) (hL:1<=r19.1.length/\r19.1.length<=7) {s1 m:Int} (s2:Int) (h:0<=s1/\s1<=1000000000) (hm:0<=m/\m<=9):
  ∃ a b ed,loop (fun s:Int × Int × List Edge × Int=>pT c r9 r14 r19 K s.1 s.2.1 s.2.2.1 s.2.2.2) (s1,s2,([]:List Edge),m)=some (a,b,ed)/\(∀ e∈ed,EdOk st r19.1.length e)/\ed.length<=54/\s1<=a/\a<=s1+200:=by
 have key:=dO (step:=fun s:Int × Int × List Edge × Int=>pT c r9 r14 r19 K s.1 s.2.1 s.2.2.1 s.2.2.2) m.toNat (fun k (a:Int × Int × List Edge)=>(a.1,a.2.1,a.2.2,m - (k:Int))) (fun k a=>(∀ e∈a.2.2,EdOk st r19.1.length e)/\a.2.2.length<=6 * k/\s1<=a.1/\a.1<=s1+18 * k)
  (fun r=>(∀ e∈r.2.2,EdOk st r19.1.length e)/\r.2.2.length<=54/\s1<=r.1/\r.1<=s1+200) (fun k a hk hI=>?_) (fun a hI=>?_) m.toNat 0 (s1,s2,[]) (by omega) ⟨by simp,by simp,by simp,by simp⟩
 ·obtain ⟨⟨a,b,K⟩,h1,g1,g2,g3⟩:=key
  exact ⟨a,b,K,by simpa using h1,g1,g2,g3⟩
 ·obtain ⟨x,y,o⟩:=a
  obtain ⟨g1,g2,g3,g4⟩:=hI
  simp only at g1 g2 g3 g4 ⊢
  obtain ⟨v,t1,t2,q,q1,q2,q3⟩:=fL c y (s1:=x) (n:=base) (by omega) (by omega)
  obtain ⟨v',t1',t2',q',q1',q2',q3'⟩:=fL c t2 (s1:=t1) (n:=(r19.1.length:Int)) (by omega) (by omega)
  obtain ⟨v'',t1'',t2'',q'',q1'',q2'',q3''⟩:=fL c t2' (s1:=t1') (n:=base) (by omega) (by omega)
  obtain ⟨a,b,ed',p1,p2,p3,p4,p5⟩:=edges_row (c:=c) (r9:=r9) (r14:=r14) (r209:=(v,t1,t2)) (r214:=(v',t1',t2')) (r219:=(v'',t1'',t2'')) (nl:=r19.1.length) hb hs e1 e2 hK q1'' q1' t2'' (s1:=t1'') (by omega) g1 (by omega)
  unfold pT
  rw [if_pos (by simp;omega),e1,q,aA,q',aA,q'',aA,p1,aA]
  unfold aAy aAx
  have hw:wr (m - (k:Int) - 1)=m - ((k+1:Nat):Int):=by rw [bT (by omega) (by omega)];omega
  rw [hw]
  exact ⟨(a,b,ed'),rfl,p2,by simp only;omega,by simp only;omega,by simp only;omega⟩
 ·obtain ⟨x,y,o⟩:=a
  obtain ⟨g1,g2,g3,g4⟩:=hI
  simp only at g1 g2 g3 g4 ⊢
  refine ⟨(x,y,o),?_,g1,by simp only;omega,g3,by simp only;omega⟩
  unfold pT
  rw [if_neg (by simp;omega)]
end
theorem aOW (c:aJ) {s1:Int} (s2:Int) (h:0<=s1/\s1<=100000000):∃ t s1' s2',aAb c s1 s2=some (t,s1',s2')/\(Drn 55 t/\t.N<=6)/\s1<=s1'/\s1'<=s1+300:=by
 obtain ⟨v9,a9,b9,x9,y9,z9,w9⟩:=fL c s2 (s1:=s1) (n:=4) (by omega) (by omega)
 have e1:wr (1+v9)=1+v9:=bT (by omega) (by omega)
 have e1':wr (7 - (1+v9))=7 - (1+v9):=bT (by omega) (by omega)
 obtain ⟨v14,a14,b14,x14,y14,z14,w14⟩:=fL c b9 (s1:=a9) (n:=7 - (1+v9)) (by omega) (by omega)
 have e2:wr (1+v9+v14)=1+v9+v14:=bT (by omega) (by omega)
 obtain ⟨L,a19,b19,x19,⟨y19,y19',y19''⟩,z19,w19⟩:=names_ok c b14 (s1:=a14) (by omega)
 have hb:1<=1+v9/\1+v9<=4:=by omega
 have hs:1+v9<=1+v9+v14/\1+v9+v14<=6:=by omega
 obtain ⟨ak,bk,K,xk,yk,zk,wk⟩:=kinds_ok (c:=c) (r9:=(v9,a9,b9)) (r14:=(v14,a14,b14)) hb hs e1 e2 b19 (s1:=a19) (by omega)
 have e3:wr (2+wr (2 * (1+v9)))=2+2 * (1+v9):=by rw [bT (x:=2 * (1+v9)) (by omega) (by omega),bT (by omega) (by omega)]
 obtain ⟨vm,am,bm,xm,ym,zm,wm⟩:=fL c bk (s1:=ak) (n:=2+2 * (1+v9)) (by omega) (by omega)
 obtain ⟨ae,be,ed,xe,ye,ye',ze,we⟩:=edges_all (c:=c) (r9:=(v9,a9,b9)) (r14:=(v14,a14,b14)) (r19:=(L,a19,b19)) hb hs e1 e2 yk ⟨y19',y19''⟩ bm (s1:=am) (m:=vm) (by omega) (by omega)
 have hfin:∀ (s t:Int) (E:List Edge),(∀ e∈E,EdOk (1+v9+v14) L.length e)->E.length<=55->ae<=s->s<=ae+8->∃ t' s1' s2',vI c (v9,a9,b9) (v14,a14,b14) (L,a19,b19) s t E=some (t',s1',s2')/\(Drn 55 t'/\t'.N<=6)/\ae<=s1'/\s1'<=ae+10:=by
  intro s t E hE hEl hs1 hs2
  unfold vI
  simp only
  rw [e1,e2]
  obtain ⟨v,a,b,q,q1,q2,q3⟩:=fL c t (s1:=s) (n:=1+v9+v14) (by omega) (by omega)
  obtain ⟨t',m1,m2,m3,m4⟩:=make_ok y19 (by omega) (st:=1+v9+v14) (ini:=v) (by omega) q1 (edges:=E) (by omega) (fun e he=>by have:=hE e he;unfold EdOk at this;exact ⟨this.1,this.2.1,this.2.2⟩)
  rw [q,aA,m1,aA]
  exact ⟨_,_,_,rfl,⟨m2.mono hEl,by omega⟩,by simp only;omega,by simp only;omega⟩
 unfold aAb
 rw [x9,aA]
 simp only
 rw [e1,e1',x14,aA,x19,aA,xk,aA]
 unfold tV
 simp only
 rw [e1,e3,xm,aA,xe,aA]
 unfold vJ
 simp only
 rw [e1,e2]
 obtain ⟨bb,ao,bo,xo,zo,wo⟩:=aIy c be (s1:=ae) (n:=3) (by omega) (by omega)
 rw [xo,aA]
 simp only
 cases bb with
 |false=>
  rw [if_neg (by simp)]
  obtain ⟨t',s1',s2',r1,r2,r3,r4⟩:=hfin ao bo ed ye (by omega) (by omega) (by omega)
  exact ⟨t',s1',s2',r1,r2,by omega,by omega⟩
 |true=>
  rw [if_pos rfl]
  obtain ⟨v1,a1,b1,p1,p1',p1'',p1'''⟩:=fL c bo (s1:=ao) (n:=1+v9+v14) (by omega) (by omega)
  obtain ⟨v2,a2,b2,p2,p2',p2'',p2'''⟩:=fL c b1 (s1:=a1) (n:=(L.length:Int)) (by omega) (by omega)
  obtain ⟨v3,a3,b3,p3,p3',p3'',p3'''⟩:=fL c b2 (s1:=a2) (n:=1+v9+v14) (by omega) (by omega)
  rw [p1,aA,p2,aA,p3,aA,cG (by simp [iE];omega),aA]
  obtain ⟨t',s1',s2',r1,r2,r3,r4⟩:=hfin a3 b3 (ed++[⟨v1,v2,v3⟩]) (fun e he=>by
   rcases List.mem_append.1 he with he|he
   ·exact ye e he
   ·rw [List.mem_singleton] at he
    subst he
    exact ⟨p1',p3',p2'⟩) (by simp;omega) (by omega) (by omega)
  exact ⟨t',s1',s2',r1,r2,by omega,by omega⟩
end Gv
namespace Gv
open Go
section
variable {u:cN} {p:List Int}
end
section
variable {p:List Int} {rows:List (List Int)}
end
section
variable {u:cN} {p:List Int}
end
end Gv
namespace Gv
open Go
section
variable {u:cN} {p:List Int}
end
section
variable {t:cN} {c:Nat} {p:List Int}
end
end Gv
set_option linter.unusedSimpArgs false
set_option linter.unusedVariables false
namespace Gv
open Go
section
variable {t:cN} {c0:Nat} (cs:aJ)
def cap (t:cN) (k:Nat):Nat:=(t.E.filter fun e=>decide (e.F < (k:Int))).length+60 * (k - t.N.toNat)
end
end Gv
