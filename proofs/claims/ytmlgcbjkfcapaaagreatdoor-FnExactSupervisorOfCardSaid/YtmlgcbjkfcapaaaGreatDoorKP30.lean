/- The system of some of the pairs: the reference's building, for any choice. -/
import Derived.Test.YtmlgcbjkfcapaaaGreatDoorKP20
set_option linter.all false
namespace Gv
open Go
variable {p:cA} {r:dB}
theorem aFk {α:Type} [BEq α] [LawfulBEq α] {xs:List α} (h:xs.Nodup) {j:Nat} {q:α} (hj:xs[j]?=some q):pos xs q=(j:Int):=by
 obtain ⟨hl,e⟩:=List.getElem?_eq_some_iff.1 hj
 obtain ⟨i,hi,e1,e2⟩:=aAI (List.mem_of_getElem? hj)
 have:=(List.getElem_inj h).1 (e2.trans e.symm)
 omega
theorem aBE {α:Type} [BEq α] [LawfulBEq α] {xs:List α} {q:α} (h:q∈xs):∃ j:Nat,pos xs q=(j:Int)∧xs[j]?=some q:=by
 obtain ⟨i,hi,e1,e2⟩:=aAI h
 exact ⟨i,e1,by rw [List.getElem?_eq_getElem hi,e2]⟩
def kq:List (Int × Int)→List Bool→List (Int × Int)
 |q::F,b::bs=>if b=true then q::kq F bs else kq F bs
 |_,_=>[]
theorem aJp:∀ (F:List (Int × Int)) (bs:List Bool),(kq F bs).Sublist F
 |[],bs=>by cases bs<;>exact List.Sublist.refl _
 |q::F,[]=>List.nil_sublist _
 |q::F,b::bs=>by
  unfold kq
  split
  ·exact (aJp F bs).cons_cons q
  ·exact (aJp F bs).cons q
theorem kq_mem:∀ {F:List (Int × Int)} {bs:List Bool} {q:Int × Int},q∈kq F bs↔∃ i:Nat,F[i]?=some q∧bs[i]?=some true
 |[],bs,q=>by cases bs<;>simp [kq]
 |a::F,[],q=>by simp [kq]
 |a::F,b::bs,q=>by
  have ih:=kq_mem (F:=F) (bs:=bs) (q:=q)
  unfold kq
  constructor
  ·intro h
   split at h
   ·rename_i hb
    rcases List.mem_cons.1 h with rfl|h
    ·exact ⟨0,rfl,by simp [hb]⟩
    ·obtain ⟨i,h1,h2⟩:=ih.1 h
     exact ⟨i+1,by simpa using h1,by simpa using h2⟩
   ·obtain ⟨i,h1,h2⟩:=ih.1 h
    exact ⟨i+1,by simpa using h1,by simpa using h2⟩
  ·rintro ⟨i,h1,h2⟩
   cases i with
   |zero=>
    simp at h1 h2
    subst h1 h2
    simp
   |succ i=>
    have:=ih.2 ⟨i,by simpa using h1,by simpa using h2⟩
    split
    ·exact List.mem_cons_of_mem _ this
    ·exact this
theorem kq_get {F:List (Int × Int)} (hF:F.Nodup) {bs:List Bool} {i:Nat} {q:Int × Int} (hi:F[i]?=some q):q∈kq F bs↔bs[i]?=some true:=by
 rw [kq_mem]
 constructor
 ·rintro ⟨j,h1,h2⟩
  obtain ⟨hj,e1⟩:=List.getElem?_eq_some_iff.1 h1
  obtain ⟨hl,e2⟩:=List.getElem?_eq_some_iff.1 hi
  obtain rfl:=(List.getElem_inj hF).1 (e1.trans e2.symm)
  exact h2
 ·exact fun h=>⟨i,hi,h⟩
theorem kq_all:∀ (F:List (Int × Int)),kq F (List.replicate F.length true)=F
 |[]=>rfl
 |q::F=>by simp only [List.length_cons,List.replicate_succ,kq,if_true,kq_all F]
def sucK (p:cA) (r:dB) (K:List (Int × Int)) (q:Int × Int):List (Int × Int × Int):=(uT p r q (dF p q)).filter fun x=>decide (x.2∈K)
def edK (p:cA) (r:dB) (K:List (Int × Int)):Nat→List (Int × Int)→List Edge
 |_,[]=>[]
 |i,q::l=>(sucK p r K q).map (fun x=>⟨(i:Int),x.1,pos K x.2⟩)++edK p r K (i+1) l
def EK (p:cA) (r:dB) (K:List (Int × Int)):List Edge:=edK p r (jF K) 0 (jF K)
def aEk (p:cA) (r:dB) (K:List (Int × Int)):dB:=⟨((jF K).length:Int),pos (jF K) (p.S.I,r.I),p.S.L,EK p r K⟩
theorem aMP {K:List (Int × Int)} {q:Int × Int} {x:Int × Int × Int}:x∈sucK p r K q↔x∈uT p r q (dF p q)∧x.2∈K:=by
 unfold sucK;rw [List.mem_filter,decide_eq_true_iff]
theorem aJq (p:cA) (r:dB) (K:List (Int × Int)) (q:Int × Int):(sucK p r K q).length≤(uT p r q (dF p q)).length:=List.length_filter_le _ _
theorem aLq {K:List (Int × Int)} {e:Edge}:∀ {i:Nat} {l:List (Int × Int)},e∈edK p r K i l↔∃ (j:Nat) (q:Int × Int) (x:Int × Int × Int),l[j]?=some q∧x∈sucK p r K q∧e=⟨((i+j:Nat):Int),x.1,pos K x.2⟩
 |i,[]=>by simp [edK]
 |i,q::l=>by
  unfold edK
  rw [List.mem_append,List.mem_map,aLq (i:=i+1) (l:=l)]
  constructor
  ·rintro (⟨x,hx,rfl⟩|⟨j,q',x,hj,hx,rfl⟩)
   ·exact ⟨0,q,x,rfl,hx,rfl⟩
   ·exact ⟨j+1,q',x,by simpa using hj,hx,by rw [show i+(j+1)=i+1+j by omega]⟩
  ·rintro ⟨j,q',x,hj,hx,rfl⟩
   cases j with
   |zero=>
    simp at hj;subst hj
    exact .inl ⟨x,hx,rfl⟩
   |succ j=>exact .inr ⟨j,q',x,by simpa using hj,hx,by rw [show i+(j+1)=i+1+j by omega]⟩
theorem edK_from {K:List (Int × Int)} {i:Nat} {l:List (Int × Int)} {e:Edge} (h:e∈edK p r K i l):(i:Int)≤e.F:=by
 obtain ⟨j,_,_,_,_,rfl⟩:=aLq.1 h
 simp only;omega
theorem aJr (hp:dP p.S) (K:List (Int × Int)):∀ (i:Nat) (l:List (Int × Int)),(edK p r K i l).Pairwise aES
 |_,[]=>List.Pairwise.nil
 |i,q::l=>by
  unfold edK
  rw [List.pairwise_append]
  refine ⟨?_,aJr hp K (i+1) l,fun a ha b hb=>?_⟩
  ·rw [List.pairwise_map]
   exact ((aMM (outE_pair hp q)).filter _).imp fun h=>.inr ⟨rfl,h⟩
  ·obtain ⟨x,_,rfl⟩:=List.mem_map.1 ha
   have:=edK_from hb
   exact .inl (by simp only;omega)
theorem aLr (hp:dV p.S) (K:List (Int × Int)):∀ (i:Nat) (l:List (Int × Int)),(edK p r K i l).length≤300 * l.length
 |_,[]=>by simp [edK]
 |i,q::l=>by
  have h1:=aHV p r q (dF p q)
  have h2:=sW hp q
  have h3:=aJq p r K q
  have h4:=aLr hp K (i+1) l
  simp only [edK,List.length_append,List.length_map,List.length_cons];omega
theorem aJs {K:List (Int × Int)} (hK:K.Nodup) {e:Edge}:e∈EK p r K↔∃ (q:Int × Int) (x:Int × Int × Int),q∈K∧x∈uT p r q (dF p q)∧x.2∈K∧e=⟨pos (jF K) q,x.1,pos (jF K) x.2⟩:=by
 unfold EK
 rw [aLq]
 constructor
 ·rintro ⟨j,q,x,hj,hx,rfl⟩
  obtain ⟨h1,h2⟩:=aMP.1 hx
  exact ⟨q,x,uU.1 (List.mem_of_getElem? hj),h1,uU.1 h2,by rw [aFk (aJk hK) hj,Nat.zero_add]⟩
 ·rintro ⟨q,x,hq,hx,hk,rfl⟩
  obtain ⟨j,h1,h2⟩:=aBE (uU.2 hq)
  exact ⟨j,q,x,h2,aMP.2 ⟨hx,uU.2 hk⟩,by rw [h1,Nat.zero_add]⟩
theorem EK_SE (hp:dP p.S) (K:List (Int × Int)):SE (EK p r K):=(aJr hp (jF K) 0 (jF K)).imp fun h=>flLt_edge h
theorem aDJ (hp:dV p.S) {q:Int × Int} {x:Int × Int × Int} (h:x∈uT p r q (dF p q)):0≤x.1∧x.1 < p.S.L.length:=by
 obtain ⟨e,he,hl⟩:=aLn h
 have:=(lG hp (pH _ he)).2.2
 omega
theorem foldO {F:List (Int × Int)}:∀ {Q:List (Int × Int)},(Q.Pairwise fun a b=>qLt a b=true)→((F.foldl aFs Q).Pairwise fun a b=>qLt a b=true)∧(∀ x,x∈F.foldl aFs Q↔x∈F∨x∈Q):=by
 induction F with
 |nil=>intro Q h;exact ⟨h,by simp⟩
 |cons q F ih=>
  intro Q h
  obtain ⟨h1,h2⟩:=ih (aHt (q:=q) h)
  refine ⟨h1,fun x=>?_⟩
  rw [List.foldl_cons,h2,aJn,List.mem_cons]
  constructor
  ·rintro (g|g|g)<;>simp [g]
  ·rintro ((g|g)|g)<;>simp [g]
theorem foldO_ord {F:List (Int × Int)} (h:F.Nodup):F.foldl aFs []=jF F:=by
 obtain ⟨h1,h2⟩:=foldO (F:=F) (Q:=[]) List.Pairwise.nil
 exact aDW (R:=fun a b=>qLt a b=true) (fun a h=>by rw [qLt_irr] at h;cases h) (fun h1 h2=>qLt_tr h1 h2) h1 (aMK h) fun x=>by rw [h2,uU];simp
theorem aMQ (F:List (Int × Int)) (keep:List Bool) (hk:keep.length=F.length) (h:F.length≤1600):loop (fun s:List (List Int) × Int=>gS (F.map R2) keep s.1 s.2) (([]:List (List Int)),0)=some (((kq F keep).foldl aFs []).map R2):=by
 have:=mX (step:=fun s:List (List Int) × Int=>gS (F.map R2) keep s.1 s.2) F.length (fun k (Q:List (Int × Int))=>(Q.map R2,(k:Int))) (fun k Q=>((kq (F.drop k) (keep.drop k)).foldl aFs Q).map R2) (fun k Q=>Q.length≤k)
  (fun k Q hk' hI=>?_) (fun Q hI=>by simp only [gS,List.length_map,cE];simp [kq]) F.length 0 [] (by omega) (by simp)
 ·exact this
 ·left
  have hx':ix (F.map R2) (k:Int)=some (R2 F[k]):=by rw [lQ];simp [hk']
  have hkeep:ix keep (k:Int)=some keep[k]:=by rw [lQ,List.getElem?_eq_getElem]
  rw [List.drop_eq_getElem_cons hk',List.drop_eq_getElem_cons (show k < keep.length by omega)]
  simp only [gS,List.length_map,cQ hk',if_pos,hkeep,aJ,hx',kq]
  by_cases hb:keep[k]=true
  ·rw [if_pos hb,if_pos hb,aLp _ _ (by omega),aJ]
   unfold jH
   rw [cK hk' (show F.length < 4611686018427387904 by omega)]
   exact ⟨aFs Q F[k],rfl,by have:=aJo F[k] Q;omega,rfl⟩
  ·rw [if_neg hb,if_neg hb]
   unfold jH
   rw [cK hk' (show F.length < 4611686018427387904 by omega)]
   exact ⟨Q,rfl,by omega,rfl⟩
theorem aMR (F O:List (Int × Int)) (keep:List Bool) (hk:keep.length=F.length) (ed:List Edge) (hO:O.length≤1600) (hed:ed.length < 1000000) (g:Edge→Edge) (hg:∀ e∈ed,∃ (i j:Nat) (a b:Int × Int),e.F=(i:Int)∧e.To=(j:Int)∧F[i]?=some a∧F[j]?=some b∧g e=⟨pos O a,e.B,pos O b⟩):
  loop (fun s:List Edge × Int=>eE (F.map R2) ed keep (O.map R2) s.1 s.2) (([]:List Edge),0)=some ((ed.filter fun e=>keep.getD e.F.toNat false&&keep.getD e.To.toNat false).map g):=by
 have:=mA (step:=fun s:List Edge × Int=>eE (F.map R2) ed keep (O.map R2) s.1 s.2) ed (fun k (a:List Edge)=>(a,(k:Int))) (fun l a=>a++(l.filter fun e=>keep.getD e.F.toNat false&&keep.getD e.To.toNat false).map g) (fun k a=>a.length≤k) (fun k out x l hk' hx hI=>?_) (fun out hI=>by simp only [eE,cE];simp) (a:=[]) (by simp)
 ·have this':loop (fun s:List Edge × Int=>eE (F.map R2) ed keep (O.map R2) s.1 s.2) (([]:List Edge),0)=_:=this
  rw [this',List.nil_append]
 ·obtain ⟨hk2,rfl⟩:=aAb hx
  left
  obtain ⟨i,j,a,b,e1,e2,f1,f2,hge⟩:=hg _ (List.getElem_mem hk2)
  have hil:=(List.getElem?_eq_some_iff.1 f1).1
  have hjl:=(List.getElem?_eq_some_iff.1 f2).1
  have k1:ix keep (i:Int)=some keep[i]:=by rw [lQ,List.getElem?_eq_getElem]
  have k2:ix keep (j:Int)=some keep[j]:=by rw [lQ,List.getElem?_eq_getElem]
  have r1:ix (F.map R2) (i:Int)=some (R2 a):=by rw [lQ,List.getElem?_map,f1];rfl
  have r2:ix (F.map R2) (j:Int)=some (R2 b):=by rw [lQ,List.getElem?_map,f2];rfl
  have hrow:∀ q,yX (O.map R2) (R2 q)=some (pos O q):=fun q=>by rw [aHe _ _ (by simp;omega) (fun x hx=>by obtain ⟨y,_,rfl⟩:=List.mem_map.1 hx;simp [R2]),aLi]
  have c1:keep.getD (ed[k]).F.toNat false=keep[i]:=by rw [e1,Int.toNat_natCast,List.getD_eq_getElem?_getD,List.getElem?_eq_getElem (show i < keep.length by omega)];rfl
  have c2:keep.getD (ed[k]).To.toNat false=keep[j]:=by rw [e2,Int.toNat_natCast,List.getD_eq_getElem?_getD,List.getElem?_eq_getElem (show j < keep.length by omega)];rfl
  rw [List.filter_cons,c1,c2]
  by_cases h1:keep[i]=true
  ·by_cases h2:keep[j]=true
   ·rw [h1,h2]
    refine ⟨out++[g ed[k]],?_,?_,?_⟩
    rotate_left
    ·simp;omega
    ·simp
    simp only [eE,cQ hk2,if_pos,hx,aJ,e1,e2,k1,k2,h1,h2,gR,r1,r2,hrow]
    have hI':out.length≤k:=hI
    have hl:out.length+1≤kT:=by unfold kT;omega
    rw [hJ hl,aJ]
    unfold gQ
    rw [cK hk2 (show ed.length < 4611686018427387904 by omega),hge]
   ·have h2:keep[j]=false:=by simpa using h2
    rw [h1,h2]
    refine ⟨out,?_,Nat.le_succ_of_le hI,by simp⟩
    simp only [eE,cQ hk2,if_pos,hx,aJ,e1,e2,k1,k2,h1,h2,gR]
    simp [gQ,cK hk2 (show ed.length < 4611686018427387904 by omega)]
  ·have h1:keep[i]=false:=by simpa using h1
   rw [h1]
   refine ⟨out,?_,Nat.le_succ_of_le hI,by simp⟩
   simp only [eE,cQ hk2,if_pos,hx,aJ,e1,e2,k1,k2,h1,gR]
   simp [gQ,cK hk2 (show ed.length < 4611686018427387904 by omega)]
theorem R2_rows {F:List (Int × Int)}:∀ x∈F.map R2,x.length < 1000000000:=fun x hx=>by obtain ⟨y,_,rfl⟩:=List.mem_map.1 hx;simp [R2]
theorem xZ (hp:dV p.S) (hr:dV r):(eG p r).1.length≤1600:=(aFC hp hr).len hp hr
theorem aGA (hp:dP p.S) (hr:dP r):∀ e∈(eG p r).2,∃ (q:Int × Int) (x:Int × Int × Int) (i j:Nat),(eG p r).1[i]?=some q∧x∈uT p r q (dF p q)∧(eG p r).1[j]?=some x.2∧e=⟨(i:Int),x.1,(j:Int)⟩:=fun e he=>by
 rw [aDI hp.1 hr.1] at he
 obtain ⟨i,q,x,hi,hx,rfl⟩:=aHg.1 he
 have hq:=List.mem_of_getElem? hi
 obtain ⟨j,e1,e2⟩:=aBE (aAp hp.1 hr.1 hq x hx)
 exact ⟨q,x,i,j,hi,hx,e2,by rw [e1,Nat.zero_add]⟩
theorem aLs (hp:dP p.S) (hr:dP r) {q:Int × Int} {x:Int × Int × Int} {i j:Nat} (hi:(eG p r).1[i]?=some q) (hx:x∈uT p r q (dF p q)) (hj:(eG p r).1[j]?=some x.2):(⟨(i:Int),x.1,(j:Int)⟩:Edge)∈(eG p r).2:=by
 rw [aDI hp.1 hr.1,aHg]
 exact ⟨i,q,x,hi,hx,by rw [aFk (aFC hp.1 hr.1).1 hj,Nat.zero_add]⟩
theorem aMS (hp:dP p.S) (hr:dP r):(eG p r).2.length < 1000000:=by
 rw [aDI hp.1 hr.1,aFj]
 have:∀ l:List (Int × Int),(l.map fun q=>(uT p r q (dF p q)).length).sum≤300 * l.length:=fun l=>by
  induction l with
  |nil=>simp
  |cons q l ih=>
   have h1:=aHV p r q (dF p q)
   have h2:=sW hp.1 q
   simp only [List.map_cons,List.sum_cons,List.length_cons];omega
 have:=this (eG p r).1
 have:=xZ hp.1 hr.1
 omega
theorem build_eq (hp:dP p.S) (hr:dP r) (b:Bool) (keep:List Bool) (hk:keep.length=(eG p r).1.length):nI p r ((eG p r).1.map R2) (eG p r).2 b keep=some (aEk p r (kq (eG p r).1 keep),(jF (kq (eG p r).1 keep)).map R2):=by
 have hW:=aFC hp.1 hr.1
 have hF:=xZ hp.1 hr.1
 have hsub:=aJp (eG p r).1 keep
 have hKn:(kq (eG p r).1 keep).Nodup:=hsub.nodup hW.1
 have hO:(jF (kq (eG p r).1 keep)).length≤1600:=by rw [aGz];exact Nat.le_trans hsub.length_le hF
 have hlen:=aMS hp hr
 unfold nI
 rw [aMQ _ keep hk hF,aJ,foldO_ord hKn]
 unfold lA
 have hf:=aGA hp hr
 generalize hO':jF (kq (eG p r).1 keep)=O at hO
 let g:Edge→Edge:=fun e=>⟨pos O ((eG p r).1.getD e.F.toNat (0,0)),e.B,pos O ((eG p r).1.getD e.To.toNat (0,0))⟩
 have hgv:∀ {i j:Nat} {a b:Int × Int} {n:Int},(eG p r).1[i]?=some a→(eG p r).1[j]?=some b→g ⟨(i:Int),n,(j:Int)⟩=⟨pos O a,n,pos O b⟩:=fun h1 h3=>by
  simp only [g,Int.toNat_natCast,List.getD_eq_getElem?_getD,h1,h3,Option.getD_some]
 have hg:∀ e∈(eG p r).2,∃ (i j:Nat) (a b:Int × Int),e.F=(i:Int)∧e.To=(j:Int)∧(eG p r).1[i]?=some a∧(eG p r).1[j]?=some b∧g e=⟨pos O a,e.B,pos O b⟩:=fun e he=>by
  obtain ⟨q,x,i,j,h1,h2,h3,rfl⟩:=hf e he
  exact ⟨i,j,q,x.2,rfl,rfl,h1,h3,hgv h1 h3⟩
 rw [aMR (eG p r).1 O keep hk (eG p r).2 hO hlen g hg,aJ]
 unfold kZ
 rw [show ix ((eG p r).1.map R2) 0=some (R2 (p.S.I,r.I)) from by
  rw [show (0:Int)=((0:Nat):Int) from rfl,lQ,List.getElem?_map,aFi];rfl,aJ]
 rw [aHe _ _ (by simp;omega) R2_rows,aJ,aLi]
 simp only [List.length_map]
 have hkd:∀ {i:Nat} {q:Int × Int},(eG p r).1[i]?=some q→(keep.getD i false=true↔q∈kq (eG p r).1 keep):=fun {i q} hi=>by
  rw [kq_get hW.1 hi,List.getD_eq_getElem?_getD]
  cases keep[i]?<;>simp
 have hmem:∀ e,e∈((eG p r).2.filter fun e=>keep.getD e.F.toNat false&&keep.getD e.To.toNat false).map g↔e∈EK p r (kq (eG p r).1 keep):=fun e=>by
  rw [List.mem_map,aJs hKn,hO']
  constructor
  ·rintro ⟨e0,he0,rfl⟩
   obtain ⟨h0,hc⟩:=List.mem_filter.1 he0
   obtain ⟨q,x,i,j,h1,h2,h3,rfl⟩:=hf e0 h0
   simp only [Int.toNat_natCast,Bool.and_eq_true] at hc
   exact ⟨q,x,(hkd h1).1 hc.1,h2,(hkd h3).1 hc.2,hgv h1 h3⟩
  ·rintro ⟨q,x,hq,hx,hx2,rfl⟩
   obtain ⟨i,_,h1⟩:=aBE (hsub.subset hq)
   obtain ⟨j,_,h3⟩:=aBE (hsub.subset hx2)
   refine ⟨⟨(i:Int),x.1,(j:Int)⟩,List.mem_filter.2 ⟨aLs hp hr h1 hx h3,?_⟩,hgv h1 h3⟩
   simp only [Int.toNat_natCast,Bool.and_eq_true]
   exact ⟨(hkd h1).2 hq,(hkd h3).2 hx2⟩
 rw [aNU hp.1.2.2.1 (by rw [List.length_map];exact Nat.lt_of_le_of_lt (List.length_filter_le _ _) hlen) (fun e he=>by
  obtain ⟨q,x,_,hx,_,rfl⟩:=(aJs hKn).1 ((hmem e).1 he)
  exact aDJ hp.1 hx) (EK_SE hp _) hmem,aJ]
 subst hO'
 rfl
end Gv
namespace Gv
open Go
variable {p:cA} {r:dB}
theorem sD.cons {xs:List aZ} (h:sD xs):∃ L,xs=iH::L∧aFf L:=by
 obtain ⟨h1,h12,h0,hk⟩:=h
 cases xs with
 |nil=>simp at h1
 |cons a L=>
  have e:=h0 (by simp)
  simp only [List.getElem_cons_zero] at e
  subst e
  refine ⟨L,rfl,List.pairwise_iff_getElem.2 fun i j hi hj hij=>?_,fun hm=>?_⟩
  ·have:=aLc (xs:=iH::L) ⟨h1,h12,h0,hk⟩ (i:=i+1) (j:=j+1) (by omega) (by omega) (by simp;omega)
   simpa using this
  ·obtain ⟨j,hj,e⟩:=List.getElem_of_mem hm
   have:=(hk (j+1) (by omega) (by simp;omega)).2.1
   simp only [List.getElem_cons_succ] at this
   exact this e
theorem txt_cons {L:List aZ} (hL:p.S.L=iH::L) {e:Edge} (h:1≤e.B):txt p.S e=L.getD (e.B - 1).toNat []:=by
 unfold txt
 rw [hL,show e.B.toNat=(e.B - 1).toNat+1 by omega]
 simp
theorem aJt (hp:dP p.S) {q:Int × Int} {x:Int × Int × Int} (h:x∈uT p r q (dF p q)):1≤x.1:=by
 obtain ⟨e,he,hl⟩:=aLn h
 have hm:=pH _ he
 have h0:=(lG hp.1 hm).2.2.1
 obtain ⟨k,hk,rfl⟩:=List.getElem_of_mem hm
 have:=(hp.2 k hk).1
 omega
theorem aNW (hp:dP p.S) (hr:dP r) {L:List aZ} (hL:p.S.L=iH::L) (O:List (Int × Int)) (q:Int × Int) (i:Nat) {arcs:List Arc} (ha:arcs.length < 1000000) (x10:List (List Int)) (x11:List ((Int × Int) × Int)) (x12:List (List aZ)):
  oJ p.S.N p.S.I p.S.L p.S.E p.M p.C r.N r.I r.L r.E x10 x11 x12 (R2 q) (mq 0 O) arcs (i:Int)
   =some (arcs++((sucK p r O q).map fun x=>(⟨(i:Int),x.1,pos O x.2⟩:Edge)).map (aJf L)):=by
 unfold oJ
 rw [show ix (R2 q) 0=some q.1 from rfl,aJ,show (⟨p.S.N,p.S.I,p.S.L,p.S.E⟩:dB)=p.S from rfl,aIU _ _ (by have:=hp.1.2.2.2.1;omega),aJ]
 rw [show (p.S.E.filter fun e=>e.F == q.1)=dF p q from rfl]
 have hol:=sW hp.1 q
 have:=mA (step:=fun s:List Arc × Int=>iP p.S.L r.N r.I r.L r.E (R2 q) (mq 0 O) (i:Int) (dF p q) s.1 s.2) (dF p q) (fun k (a:List Arc)=>(a,(k:Int)))
  (fun l a=>a++(((uT p r q l).filter fun x=>decide (x.2∈O)).map fun x=>(⟨(i:Int),x.1,pos O x.2⟩:Edge)).map (aJf L)) (fun k a=>a.length≤arcs.length+k) (fun k a e l hk hx hI=>?_) (fun a hI=>by simp only [iP,cE];simp [uT]) (a:=arcs) (by simp)
 ·have this':loop (fun s:List Arc × Int=>iP p.S.L r.N r.I r.L r.E (R2 q) (mq 0 O) (i:Int) (dF p q) s.1 s.2) (arcs,0)=_:=this
  rw [this',aJ];rfl
 ·obtain ⟨hk',rfl⟩:=aAb hx
  left
  have he:=pH _ (List.getElem_mem hk')
  have heo:(dF p q)[k]∈dF p q:=List.getElem_mem hk'
  obtain ⟨z,hz,hzj⟩:=aEU hr q.2 (txt p.S (dF p q)[k])
  have hI':a.length≤arcs.length+k:=hI
  have hl:a.length+1≤kT:=by unfold kT;omega
  have hw1:=cK hk (show (dF p q).length < 4611686018427387904 by omega)
  simp only [iP,cQ hk,if_pos,hx,aJ,show ix (R2 q) 1=some q.2 from rfl,aAe (lG hp.1 he),show (⟨r.N,r.I,r.L,r.E⟩:dB)=r from rfl,hz]
  cases haq:alo r q.2 (txt p.S (dF p q)[k]) with
  |none=>
   refine ⟨a,by simp [iO,hw1],Nat.le_succ_of_le hI',?_⟩
   simp only [uT,List.filterMap_cons,haq,Option.map_none]
  |some j=>
   obtain rfl:=hzj j haq
   have hmem:((dF p q)[k].B,(dF p q)[k].To,z)∈uT p r q (dF p q):=by
    unfold uT
    rw [List.mem_filterMap]
    exact ⟨_,heo,by rw [haq];rfl⟩
   have h1:=aJt hp hmem
   simp only at h1
   by_cases hO:((dF p q)[k].To,z)∈O
   ·refine ⟨a++[⟨(i:Int),txt p.S (dF p q)[k],pos O ((dF p q)[k].To,z)⟩],?_,by rw [List.length_append];exact Nat.succ_le_succ hI',?_⟩
    ·simp only [Option.isSome_some,if_true]
     unfold mR
     rw [aGy hO]
     simp only [Option.isSome_some,if_true,Option.getD_some]
     rw [hJ hl,aJ,aJ]
     simp only [iO,hw1]
    ·simp only [uT,List.filterMap_cons,haq,Option.map_some,List.filter_cons,decide_eq_true hO,if_true,List.map_cons,List.append_assoc,List.cons_append,List.nil_append]
     rw [show aJf L (⟨(i:Int),(dF p q)[k].B,pos O ((dF p q)[k].To,z)⟩:Edge)=⟨(i:Int),txt p.S (dF p q)[k],pos O ((dF p q)[k].To,z)⟩ from by
      unfold aJf;rw [txt_cons hL h1]]
   ·refine ⟨a,?_,Nat.le_succ_of_le hI',?_⟩
    ·simp only [Option.isSome_some,if_true]
     unfold mR
     rw [aMJ hO]
     simp [iO,hw1]
    ·simp only [uT,List.filterMap_cons,haq,Option.map_some,List.filter_cons,decide_eq_false hO];simp
theorem R2_nodup {F:List (Int × Int)} (h:F.Nodup):(F.map R2).Nodup:=by
 unfold List.Nodup at *
 rw [List.pairwise_map]
 exact h.imp fun h e=>h (R2_inj e)
theorem aLt (F:List (Int × Int)) (keep:List Bool) (hk:keep.length=F.length) (h:F.length≤1600):loop (fun s:List (List Int) × Int=>gJ (F.map R2) keep s.1 s.2) (([]:List (List Int)),0)=some ((kq F keep).map R2):=by
 have:=mX (step:=fun s:List (List Int) × Int=>gJ (F.map R2) keep s.1 s.2) F.length (fun k (Q:List (List Int))=>(Q,(k:Int))) (fun k Q=>Q++(kq (F.drop k) (keep.drop k)).map R2) (fun k Q=>Q.length≤k)
  (fun k Q hk' hI=>?_) (fun Q hI=>by simp only [gJ,List.length_map,cE];simp [kq]) F.length 0 [] (by omega) (by simp)
 ·exact this
 ·left
  have hI':Q.length≤k:=hI
  have hl:Q.length+1≤kT:=by unfold kT;omega
  have hx':ix (F.map R2) (k:Int)=some (R2 F[k]):=by rw [lQ];simp [hk']
  have hkeep:ix keep (k:Int)=some keep[k]:=by rw [lQ,List.getElem?_eq_getElem]
  have hcl:eH (R2 F[k])=some (R2 F[k]):=by
   unfold eH
   rw [hJ (by simp [kT,R2]),aJ,List.nil_append]
  rw [List.drop_eq_getElem_cons hk',List.drop_eq_getElem_cons (show k < keep.length by omega)]
  simp only [gJ,List.length_map,cQ hk',if_pos,hkeep,aJ,hx',kq,hcl]
  by_cases hb:keep[k]=true
  ·rw [if_pos hb,if_pos hb,hJ hl,aJ]
   unfold iW
   rw [cK hk' (show F.length < 4611686018427387904 by omega)]
   exact ⟨Q++[R2 F[k]],rfl,by rw [List.length_append];exact Nat.succ_le_succ hI',by rw [List.map_cons,List.append_assoc];rfl⟩
  ·rw [if_neg hb,if_neg hb]
   unfold iW
   rw [cK hk' (show F.length < 4611686018427387904 by omega)]
   exact ⟨Q,rfl,Nat.le_succ_of_le hI',rfl⟩
theorem aKw (hp:dP p.S) (hr:dP r) (M:List ((Int × Int) × Int)) (P:List (List aZ)) (keep:List Bool) (hk:keep.length=(eG p r).1.length) (hi0:(p.S.I,r.I)∈kq (eG p r).1 keep):
  kM p.S.N p.S.I p.S.L p.S.E p.M p.C r.N r.I r.L r.E ((eG p r).1.map R2) M P keep=some (aEk p r (kq (eG p r).1 keep),(jF (kq (eG p r).1 keep)).map R2):=by
 have hW:=aFC hp.1 hr.1
 have hF:=xZ hp.1 hr.1
 have hsub:=aJp (eG p r).1 keep
 have hKn:(kq (eG p r).1 keep).Nodup:=hsub.nodup hW.1
 unfold kM
 rw [aLt _ keep hk hF,aJ]
 have hKl:(kq (eG p r).1 keep).length≤1600:=Nat.le_trans hsub.length_le hF
 clear hsub
 generalize kq (eG p r).1 keep=K at hKn hKl hi0
 have hO:(jF K).length≤1600:=by rw [aGz];exact hKl
 have hOn:=aJk hKn
 unfold kL
 have e2:aBU (K.map R2)=some ((jF K).map R2):=by
  unfold aBU
  rw [if_pos ⟨by simp [kT];omega,R2_nodup hKn,fun x hx=>by obtain ⟨y,_,rfl⟩:=List.mem_map.1 hx;simp [R2,kT]⟩,ordQ_row]
 rw [e2,aJ]
 have e3:=mX (step:=fun s:List ((Int × Int) × Int) × Int=>gI ((jF K).map R2) s.1 s.2) (jF K).length (fun k (_:Unit)=>(mq 0 ((jF K).take k),(k:Int))) (fun _ _=>mq 0 (jF K)) (fun _ _=>True) (fun k a hk _=>?_) (fun a _=>?_) (jF K).length 0 () (by omega) trivial
 ·have e3':loop (fun s:List ((Int × Int) × Int) × Int=>gI ((jF K).map R2) s.1 s.2) (([]:List ((Int × Int) × Int)),0)=_:=e3
  rw [e3',aJ]
  unfold kK
  obtain ⟨L,hL,hLs⟩:=hp.1.2.2.1.cons
  have e4:=mX (step:=fun s:List Arc × Int=>gH p.S.N p.S.I p.S.L p.S.E p.M p.C r.N r.I r.L r.E ((eG p r).1.map R2) M P ((jF K).map R2) (mq 0 (jF K)) s.1 s.2) (jF K).length (fun k (a:List Arc)=>(a,(k:Int)))
   (fun k a=>a++(edK p r (jF K) k ((jF K).drop k)).map (aJf L)) (fun k a=>a.length≤300 * k) (fun k a hk hI=>?_) (fun a _=>by simp only [gH,List.length_map,cE];simp [edK]) (jF K).length 0 [] (by omega) (by simp)
  ·have e4':loop (fun s:List Arc × Int=>gH p.S.N p.S.I p.S.L p.S.E p.M p.C r.N r.I r.L r.E ((eG p r).1.map R2) M P ((jF K).map R2) (mq 0 (jF K)) s.1 s.2) (([]:List Arc),0)=_:=e4
   rw [e4',aJ]
   simp only [List.drop_zero,List.nil_append]
   rw [show edK p r (jF K) 0 (jF K)=EK p r K from rfl]
   unfold kJ
   have hlab:∀ e∈EK p r K,1≤e.B∧e.B≤L.length:=fun e he=>by
    obtain ⟨q,x,_,hx,_,rfl⟩:=(aJs hKn).1 he
    have h1:=aJt hp hx
    have h2:=(aDJ hp.1 hx).2
    rw [hL] at h2
    simp only [List.length_cons] at h2 ⊢
    omega
   have hback:=arcs_back hLs hlab
   have hinit:(p.S.I,r.I)∈jF K:=uU.2 hi0
   have h12:=hp.1.2.2.1.2.1
   have hEl:(EK p r K).length≤300 * (jF K).length:=aLr hp.1 _ _ _
   rw [show (⟨p.S.I,r.I⟩:Int × Int)=(p.S.I,r.I) from rfl,aGy hinit,Option.getD_some]
   rw [lts_eq (labels:=p.S.L) (M:=L) hLs (fun s hs=>by rw [hL];simp [hs]) (by omega) (by simp;omega) (by rw [hback];exact EK_SE hp K) (by rw [hL] at h12;simp at h12;omega),aJ,hback]
   unfold aEk
   rw [List.length_map,←hL]
  ·left
   have hrow:ix ((jF K).map R2) (k:Int)=some (R2 (jF K)[k]):=by rw [lQ];simp [hk]
   simp only [gH,List.length_map,cQ hk,if_pos,hrow,aJ]
   rw [aNW hp hr hL (jF K) (jF K)[k] k (by omega),aJ,cK hk (show (jF K).length < 4611686018427387904 by omega)]
   have hsl:=aHV p r (jF K)[k] (dF p (jF K)[k])
   have hsk:=aJq p r (jF K) (jF K)[k]
   have hol:=sW hp.1 (jF K)[k]
   refine ⟨_,rfl,by simp;omega,?_⟩
   rw [List.drop_eq_getElem_cons hk]
   simp only [edK,List.map_append,List.append_assoc]
 ·left
  have hrow:ix ((jF K).map R2) (k:Int)=some (R2 (jF K)[k]):=by rw [lQ];simp [hk]
  have hn:(jF K)[k]∉(jF K).take k:=fun hm=>by
   obtain ⟨j,hj,e⟩:=List.getElem_of_mem hm
   rw [List.length_take] at hj
   rw [List.getElem_take] at e
   have:=(List.getElem_inj hOn).1 e
   omega
  have hput:=aLl (k:=0) hn
  rw [Nat.zero_add,List.length_take,Nat.min_eq_left (by omega)] at hput
  have hput':aFW (mq 0 ((jF K).take k)) (⟨(jF K)[k].1,(jF K)[k].2⟩:Int × Int) (k:Int)=mq 0 ((jF K).take k++[(jF K)[k]]):=hput
  refine ⟨(),?_,trivial,rfl⟩
  simp only [gI,List.length_map,cQ hk,if_pos,hrow,aJ,show ix (R2 (jF K)[k]) 0=some (jF K)[k].1 from rfl,show ix (R2 (jF K)[k]) 1=some (jF K)[k].2 from rfl,hput',cK hk (show (jF K).length < 4611686018427387904 by omega)]
  rw [List.take_add_one,List.getElem?_eq_getElem hk];rfl
 ·rw [List.take_length]
  simp only [gI,List.length_map,cE];rfl
end Gv
namespace Gv
open Go
variable {p:cA} {r:dB}
def mkQ (M:List Int):Nat→List (Int × Int)→List Int
 |_,[]=>[]
 |k,q::l=>if M.any (fun x=>q.1 == x)=true then (k:Int)::mkQ M (k+1) l else mkQ M (k+1) l
def zeroP:cA:=⟨⟨0,0,[],[]⟩,[],[]⟩
abbrev OQ (p:cA) (r:dB):List (Int × Int):=jF (eG p r).1
abbrev EE (p:cA) (r:dB):List Edge:=EK p r (eG p r).1
abbrev aEh (p:cA) (r:dB):dB:=aEk p r (eG p r).1
noncomputable def PP (p:cA) (r:dB):cA × List (List Int) × Int:=
 if cl (mK p∧dP r)=true then
  if 40 < (OQ p r).length∨300 < (EE p r).length then (zeroP,[],5) else (⟨aEh p r,mkQ p.M 0 (OQ p r),p.C⟩,(OQ p r).map R2,0)
 else (zeroP,[],1)
theorem OQ_len (p:cA) (r:dB):(OQ p r).length=(eG p r).1.length:=aGz _
theorem aMU (hp:dV p.S) (hr:dV r):(OQ p r).length≤1600:=by rw [OQ_len];exact (aFC hp hr).len hp hr
theorem edK_sum (K:List (Int × Int)):∀ (i:Nat) (l:List (Int × Int)),(edK p r K i l).length=(l.map fun q=>(sucK p r K q).length).sum
 |_,[]=>rfl
 |i,q::l=>by simp [edK,edK_sum K (i+1) l]
theorem EK_sum (K:List (Int × Int)):(EK p r K).length=(K.map fun q=>(sucK p r K q).length).sum:=by
 unfold EK
 rw [edK_sum,((aFh K).map _).sum_nat]
 congr 1
 refine List.map_congr_left fun q _=>?_
 unfold sucK
 congr 2
 funext x
 exact decide_eq_decide.2 uU
theorem sum_sub:∀ {K F:List (Int × Int)} {f g:(Int × Int)→Nat},K.Sublist F→(∀ q,f q≤g q)→(K.map f).sum≤(F.map g).sum:=by
 intro K F f g h hfg
 induction h with
 |slnil=>simp
 |cons a _ ih=>simp only [List.map_cons,List.sum_cons];omega
 |cons_cons a _ ih=>have:=hfg a;simp only [List.map_cons,List.sum_cons];omega
theorem EE_len (hp:dV p.S) (hr:dV r):(EE p r).length=(eG p r).2.length:=by
 rw [aDI hp hr,aFj,EK_sum]
 congr 1
 refine List.map_congr_left fun q hq=>?_
 unfold sucK
 congr 1
 exact List.filter_eq_self.2 fun x hx=>decide_eq_true (aAp hp hr hq x hx)
theorem EK_le {K:List (Int × Int)} (hp:dV p.S) (hr:dV r) (h:K.Sublist (eG p r).1):(EK p r K).length≤(eG p r).2.length:=by
 rw [aDI hp hr,aFj,EK_sum]
 exact sum_sub h fun q=>aJq p r K q
theorem mkQ_in (M:List Int):∀ (l:List (Int × Int)) (k:Nat),∀ x∈mkQ M k l,(k:Int)≤x∧x < (k+l.length:Nat)
 |[],_=>by simp [mkQ]
 |q::l,k=>by
  intro x hx
  unfold mkQ at hx
  have ih:=mkQ_in M l (k+1)
  simp only [List.length_cons]
  split at hx
  ·rcases List.mem_cons.1 hx with rfl|hx
   ·omega
   ·have:=ih x hx;omega
  ·have:=ih x hx;omega
theorem aMV (M:List Int):∀ (l:List (Int × Int)) (k:Nat),(mkQ M k l).Pairwise fun a b=>a < b
 |[],_=>List.Pairwise.nil
 |q::l,k=>by
  unfold mkQ
  have ih:=aMV M l (k+1)
  split
  ·rw [List.pairwise_cons]
   exact ⟨fun x hx=>by have:=mkQ_in M l (k+1) x hx;omega,ih⟩
  ·exact ih
theorem mkQ_len (M:List Int):∀ (l:List (Int × Int)) (k:Nat),(mkQ M k l).length≤l.length
 |[],_=>by simp [mkQ]
 |q::l,k=>by
  unfold mkQ
  have ih:=mkQ_len M l (k+1)
  split<;>simp<;>omega
theorem rise_of {hi:Int} {xs:List Int} (h1:∀ x∈xs,0≤x∧x≤hi) (h2:xs.Pairwise fun a b=>a < b):aBi 0 hi xs:=
 fun k hk=>⟨h1 _ (List.getElem_mem hk),fun h=>List.pairwise_iff_getElem.1 h2 (k - 1) k (by omega) hk (by omega)⟩
theorem aLu (p:cA) (r:dB):(p.S.I,r.I)∈(eG p r).1:=List.mem_of_getElem? (aFi p r)
theorem EK_in {K:List (Int × Int)} (hd:dP p.S) (hK:K.Nodup):∀ e∈EK p r K,aCU (aEk p r K) e:=fun e he=>by
 obtain ⟨q,x,hq,hx,hx2,rfl⟩:=(aJs hK).1 he
 obtain ⟨j,hj,f1,_⟩:=aAI (uU.2 hq)
 obtain ⟨k,hk,f2,_⟩:=aAI (uU.2 hx2)
 have hl:=aDJ hd.1 hx
 refine ⟨?_,?_,?_⟩<;>(simp only [aEk];omega)
theorem sysK_ok {K:List (Int × Int)} (hd:dP p.S) (hK:K.Nodup) (hi:(p.S.I,r.I)∈K):dP (aEk p r K)↔¬ (40 < (jF K).length∨300 < (EK p r K).length):=by
 constructor
 ·rintro ⟨⟨hs,_,_,he,_⟩,_⟩ h
  have hs2:((jF K).length:Int)≤40:=hs.2
  have he2:(EK p r K).length≤300:=he
  omega
 ·intro h
  have hpos:1≤(jF K).length:=List.length_pos_of_mem (uU.2 hi)
  obtain ⟨i,hi,e1,_⟩:=aAI (uU.2 hi)
  have hEin:=EK_in (r:=r) hd hK
  have hpair:=aJr (r:=r) hd (jF K) 0 (jF K)
  refine ⟨⟨⟨by simp only [aEk];omega,by simp only [aEk];omega⟩,⟨by simp only [aEk];omega,by simp only [aEk];omega⟩,hd.1.2.2.1,by show (EK p r K).length≤300;omega,fun k hk=>⟨hEin _ (List.getElem_mem hk),fun h1=>?_⟩⟩,fun k hk=>⟨?_,fun h1 hc=>?_⟩⟩
  ·exact List.pairwise_iff_getElem.1 (EK_SE hd K) (k - 1) k (by have:k < (EK p r K).length:=hk;omega) hk (by omega)
  ·have hm:(aEk p r K).E[k]∈EK p r K:=List.getElem_mem hk
   obtain ⟨q,x,_,hx,_,e⟩:=(aJs hK).1 hm
   rw [e]
   have:=aJt hd hx
   simp only;omega
  ·have hk':k < (EK p r K).length:=hk
   have hpair':(EK p r K).Pairwise aES:=hpair
   have:=List.pairwise_iff_getElem.1 hpair' (k - 1) k (by omega) hk' (by omega)
   unfold aES at this
   have h3:((EK p r K)[k]'hk').F=((EK p r K)[k - 1]'(by omega)).F∧((EK p r K)[k]'hk').B=((EK p r K)[k - 1]'(by omega)).B:=hc
   omega
theorem prod_ok (hp:mK p) (hr:dP r):mK ⟨aEh p r,mkQ p.M 0 (OQ p r),p.C⟩↔¬ (40 < (OQ p r).length∨300 < (EE p r).length):=by
 obtain ⟨hd,_,hn⟩:=hp
 rw [←sysK_ok hd (aFC hd.1 hr.1).1 (aLu p r)]
 refine ⟨fun h=>h.1,fun h=>⟨h,?_,hn⟩⟩
 refine rise_of (fun x hx=>?_) (aMV _ _ _)
 have:=mkQ_in _ _ _ x hx
 show (0:Int)≤x∧x≤((OQ p r).length:Int) - 1
 omega
theorem prod_fits (hp:mK p) (hr:dP r) (hf:iX 999999999 p):iX 999999999 ⟨aEh p r,mkQ p.M 0 (OQ p r),p.C⟩:=by
 have hO:=aMU hp.1.1 hr.1
 have hE:(EE p r).length≤300 * (OQ p r).length:=aLr hp.1.1 _ _ _
 have hM:=mkQ_len p.M (OQ p r) 0
 exact ⟨⟨hf.sys.1,hf.sys.2.1,by show (EE p r).length≤_;omega⟩,by show (mkQ p.M 0 (OQ p r)).length≤_;omega,hf.len,hf.names⟩
theorem aGB (p:cA) (r:dB) (hf:iX 999999999 p) (hr:mY 999999999 r):uO p r=some (PP p r):=by
 unfold uO PP
 rw [aLg p r hf hr,aJ]
 by_cases h:mK p∧dP r
 ·obtain ⟨hp,hd⟩:=h
  rw [mJ (P:=mK p∧dP r) ⟨hp,hd⟩]
  simp only [if_true]
  rw [if_neg (by decide)]
  obtain ⟨P,hP⟩:=aFA hp.1 hd
  have hF:=(aFC hp.1.1 hd.1).len hp.1.1 hd.1
  have hF1:1≤(eG p r).1.length:=List.length_pos_of_mem (List.mem_of_getElem? (aFi p r))
  rw [hP,aJ]
  simp only [List.length_map]
  rw [aKr true _ hF1 (by omega),aJ,aKw hp.1 hd _ _ _ (by simp) (by rw [kq_all];exact aLu p r),aJ,kq_all]
  unfold dD
  rw [hJ (by have:=hf.len;simp [kT];omega),aJ,aJ,List.nil_append]
  unfold tR
  have hO:=aMU hp.1.1 hd.1
  have:=mX (step:=fun s:List Int × Int=>lC p (aEh p r,(OQ p r).map R2) s.1 s.2) (OQ p r).length (fun k (a:List Int)=>(a,(k:Int)))
   (fun k a=>a++mkQ p.M k ((OQ p r).drop k)) (fun k a=>a.length≤k) (fun k a hk hI=>?_) (fun a hI=>by simp only [lC,List.length_map,cE];simp [mkQ]) (OQ p r).length 0 [] (by omega) (by simp)
  ·have this':loop (fun s:List Int × Int=>lC p (aEh p r,(OQ p r).map R2) s.1 s.2) (([]:List Int),0)=_:=this
   rw [this',aJ]
   simp only [List.drop_zero,List.nil_append]
   unfold pE
   simp only
   have hv:=aFz _ (prod_fits hp hd hf)
   rw [show (⟨⟨(aEh p r).N,(aEh p r).I,(aEh p r).L,(aEh p r).E⟩,mkQ p.M 0 (OQ p r),p.C⟩:cA)=⟨aEh p r,mkQ p.M 0 (OQ p r),p.C⟩ from rfl,hv,aJ]
   by_cases hbig:40 < (OQ p r).length∨300 < (EE p r).length
   ·rw [if_pos hbig,if_pos (by rw [lF (fun h=>(prod_ok hp hd).1 h hbig)];rfl)];rfl
   ·rw [if_neg hbig,if_neg (by rw [mJ ((prod_ok hp hd).2 hbig)];simp)]
  ·left
   have hrow:ix ((OQ p r).map R2) (k:Int)=some (R2 (OQ p r)[k]):=by rw [lQ];simp [hk]
   have hw1:=cK hk (show (OQ p r).length < 4611686018427387904 by omega)
   rw [List.drop_eq_getElem_cons hk]
   simp only [lC,List.length_map,cQ hk,if_pos,hrow,aJ,show ix (R2 (OQ p r)[k]) 0=some (OQ p r)[k].1 from rfl]
   unfold qY
   rw [aDV _ _ (by have:=hf.marks;omega),aJ,aJ]
   by_cases hm:(p.M.any fun x=>(OQ p r)[k].1 == x)=true
   ·rw [if_pos hm,hJ (by simp [kT];omega),aJ]
    refine ⟨a++[(k:Int)],by simp only [mV,hw1],by simp;omega,?_⟩
    simp only [mkQ,if_pos hm,List.append_assoc,List.cons_append,List.nil_append]
   ·rw [if_neg hm]
    refine ⟨a,by simp only [mV,hw1],by omega,?_⟩
    simp only [mkQ,if_neg hm]
 ·rw [lF h]
  simp only [Bool.false_eq_true,if_false]
  rw [if_pos (by decide)];rfl
theorem l00Has_eq (xs:List Int) (v:Int) (h:xs.length < 1000000000):aED xs v=some (xs.any fun x=>v == x):=by
 unfold aED
 have:=aID (step:=fun s=>xR xs v s) xs (fun x=>!(v == x)) (.inr true) (.inl ()) (fun k x hk hx=>by
  simp only [xR,cQ hk,if_pos,hx,aJ,cK hk (show xs.length < 4611686018427387904 by omega)]
  rw [show (x == v)=(v == x) from by rw [Bool.eq_iff_iff,beq_iff_eq,beq_iff_eq];exact eq_comm]
  cases v == x<;>rfl) (by simp only [xR,cE];rfl)
 rw [this,aJ]
 have e:(xs.all fun x=>!(v == x))=!(xs.any fun x=>v == x):=by simp [List.all_eq_not_any_not]
 rw [e]
 cases xs.any fun x=>v == x<;>rfl
end Gv
namespace Gv
open Go
inductive Co (E:Nat→Nat→Prop) (m A:Nat→Prop):Nat→Prop
 |base {i:Nat}:A i→m i→Co E m A i
 |step {i j:Nat}:A i→E i j→Co E m A j→Co E m A i
section
variable {E U:Nat→Nat→Prop} {m flt A B:Nat→Prop}
theorem Co.mem {i:Nat} (h:Co E m A i):A i:=by cases h<;>assumption
theorem Co.mono (hAB:∀ i,A i→B i) {i:Nat} (h:Co E m A i):Co E m B i:=by
 induction h with
 |base h1 h2=>exact .base (hAB _ h1) h2
 |step h1 h2 _ ih=>exact .step (hAB _ h1) h2 ih
structure Stb (E U:Nat→Nat→Prop) (m flt S:Nat→Prop):Prop where
 co:∀ i,S i→Co E m S i
 ok:∀ i,S i→¬ flt i
 un:∀ i j,S i→U i j→S j
end
def on (a:List Bool) (i:Nat):Prop:=a[i]?=some true
theorem aJu {a:List Bool} {i:Nat} (h:on a i):i < a.length:=(List.getElem?_eq_some_iff.1 h).1
theorem nU {a:List Bool} {i:Nat}:a.getD i false=true↔on a i:=by
 unfold on
 rw [List.getD_eq_getElem?_getD]
 cases a[i]?<;>simp
theorem aEV {a:List Bool} {i j:Nat} {b:Bool} (hi:i < a.length):on (a.set i b) j↔if j=i then b=true else on a j:=by
 unfold on
 split
 ·rename_i h;subst h
  rw [List.getElem?_set_self hi];simp
 ·rename_i h
  rw [List.getElem?_set_ne (Ne.symm h)]
theorem on_ext {a b:List Bool} (hl:a.length=b.length) (h:∀ i,on a i↔on b i):a=b:=by
 refine List.ext_getElem? fun i=>?_
 by_cases hi:i < a.length
 ·have:=h i
  unfold on at this
  rw [List.getElem?_eq_getElem hi,List.getElem?_eq_getElem (show i < b.length by omega)] at this ⊢
  cases ha:a[i]<;>cases hb:b[i]<;>simp_all
 ·rw [List.getElem?_eq_none (by omega),List.getElem?_eq_none (by omega)]
theorem aFS {n i:Nat} {b:Bool}:on (List.replicate n b) i↔i < n∧b=true:=by
 unfold on
 rw [List.getElem?_replicate]
 split
 ·simp_all
 ·constructor
  ·intro h;cases h
  ·intro h;omega
theorem aJv:∀ {a b:List Bool},a.length=b.length→(∀ i,on b i→on a i)→b.count true≤a.count true∧(b≠a→b.count true < a.count true)
 |[],[],_,_=>by simp
 |x::a,y::b,hl,h=>by
  obtain ⟨h1,h2⟩:=aJv (a:=a) (b:=b) (by simpa using hl) fun i hi=>by
   have:=h (i+1) (by unfold on at hi ⊢;simpa using hi)
   unfold on at this ⊢;simpa using this
  have h0:y=true→x=true:=fun e=>by
   have:=h 0 (by unfold on;simp [e])
   unfold on at this;simpa using this
  simp only [List.count_cons]
  cases x<;>cases y<;>simp_all
  all_goals omega
theorem aMW {step:List Bool→Option (List Bool ⊕ List Bool)} (I:List Bool→Prop) (Q:List Bool→List Bool→Prop)
  (h:∀ a,I a→∃ b,I b∧b.length=a.length∧(∀ i,on b i→on a i)∧Q a b∧step a=some (if b=a then .inr a else .inl b)):∀ n a,a.count true≤n→I a→∃ a',loop step a=some a'∧I a'∧Q a' a':=by
 intro n
 induction n with
 |zero=>
  intro a hn hI
  obtain ⟨b,hb,hl,hs,hq,e⟩:=h a hI
  have:=aJv hl.symm hs
  by_cases hab:b=a
  ·rw [if_pos hab] at e
   subst hab
   exact ⟨_,by rw [cN,e],hI,hq⟩
  ·have:=this.2 hab;omega
 |succ n ih=>
  intro a hn hI
  obtain ⟨b,hb,hl,hs,hq,e⟩:=h a hI
  have:=aJv hl.symm hs
  by_cases hab:b=a
  ·rw [if_pos hab] at e
   subst hab
   exact ⟨_,by rw [cN,e],hI,hq⟩
  ·have h1:=this.2 hab
   rw [if_neg hab] at e
   obtain ⟨a',e',h2,h3⟩:=ih b (by omega) hb
   exact ⟨a',by rw [cN,e];exact e',h2,h3⟩
end Gv
namespace Gv
open Go
theorem off_get {m:List Bool} {i:Nat} (hi:i < m.length) (h:m.getD i false=false):m[i]?=some false:=by
 rw [List.getD_eq_getElem?_getD,List.getElem?_eq_getElem hi] at h
 rw [List.getElem?_eq_getElem hi];simpa using h
structure aHP (n:Nat) (P:Nat→Prop) (m0 m:List Bool):Prop where
 len:m.length=n
 has:∀ i,on m0 i→on m i
 ok:∀ i,on m i→P i
theorem aHP.flip {n:Nat} {P:Nat→Prop} {m0 m:List Bool} (h:aHP n P m0 m) {q:Nat} (hq:q < n) (hp:P q):aHP n P m0 (m.set q true):=by
 have hq':q < m.length:=by rw [h.len];exact hq
 refine ⟨by rw [List.length_set];exact h.len,fun i hi=>?_,fun i hi=>?_⟩
 ·rw [aEV hq'];split
  ·rfl
  ·exact h.has i hi
 ·rw [aEV hq'] at hi;split at hi
  ·rename_i e;subst e;exact hp
  ·exact h.ok i hi
theorem aKx {ed:List Edge} {n:Nat} (c:Edge→Bool) (a b:Edge→Nat) {inner:List Bool × Bool × Int→Option ((List Bool × Bool × Int) ⊕ (List Bool × Bool))} {outer:List Bool × Bool→Option ((List Bool × Bool) ⊕ List Bool)}
  (hi:∀ (k:Nat) (hk:k < ed.length) m ag,m.length=n→inner (m,ag,(k:Int))=some (.inl (if (c ed[k]&&(m.getD (a ed[k]) false&&!m.getD (b ed[k]) false))=true then (m.set (b ed[k]) true,true,((k+1:Nat):Int)) else (m,ag,((k+1:Nat):Int)))))
  (he:∀ m ag,inner (m,ag,(ed.length:Int))=some (.inr (m,ag)))
  (ho:∀ m,m.length=n→outer (m,true)=ob (loop inner (m,false,0)) fun r=>some (.inl r))
  (ho2:∀ m,outer (m,false)=some (.inr m)) (hb:∀ e∈ed,b e < n) (P:Nat→Prop) {m0:List Bool} (hm:m0.length=n) (hP0:∀ i,on m0 i→P i) (hP:∀ e∈ed,c e=true→P (a e)→P (b e)):
  ∃ m,loop outer (m0,true)=some m∧aHP n P m0 m∧∀ e∈ed,c e=true→on m (a e)→on m (b e):=by
 refine aHs (α:=List Bool) id false (aHP n P m0) (fun m=>∀ e∈ed,c e=true→on m (a e)→on m (b e)) (fun m hG=>?_) (fun m=>ho2 m) (m0.count false) m0 (Nat.le_refl _) ⟨hm,fun _ h=>h,hP0⟩
 have:=sV (step:=inner) ed.length (fun i (s:List Bool × Bool)=>(s.1,s.2,(i:Int)))
  (fun i s=>Adv false (aHP n P m0) m s.1 s.2∧(s.2=false→∀ i',i' < i→∀ h:i' < ed.length,c ed[i']=true→on m (a ed[i'])→on m (b ed[i']))) (fun r=>Adv false (aHP n P m0) m r.1 r.2∧(r.2=false→∀ e∈ed,c e=true→on m (a e)→on m (b e))) (fun i s hi' hI=>?_) (fun s hI=>?_) ed.length 0 (m,false) (by omega) ⟨Adv.refl hG,fun _ i' h=>by omega⟩
 ·obtain ⟨r,hr,hA,hc⟩:=this
  have hr':loop inner (m,false,0)=some r:=hr
  simp only [id]
  rw [ho m hG.len,hr',aJ]
  exact ⟨r.1,r.2,rfl,hA,hc⟩
 ·obtain ⟨m',ag⟩:=s
  obtain ⟨hA,hc⟩:=hI
  simp only at hA hc
  have hmem:ed[i]∈ed:=List.getElem_mem hi'
  rw [hi i hi' m' ag hA.good.len]
  by_cases ht:(c ed[i]&&(m'.getD (a ed[i]) false&&!m'.getD (b ed[i]) false))=true
  ·rw [if_pos ht]
   simp only [Bool.and_eq_true,Bool.not_eq_true'] at ht
   have hbn:=hb _ hmem
   exact ⟨(m'.set (b ed[i]) true,true),rfl,hA.flip (off_get (by rw [hA.good.len];exact hbn) ht.2.2) (hA.good.flip hbn (hP _ hmem ht.1 (hA.good.ok _ (nU.1 ht.2.1)))),fun h=>by cases h⟩
  ·rw [if_neg ht]
   refine ⟨(m',ag),rfl,hA,fun hf i' h1 h2 h3 h4=>?_⟩
   by_cases hii:i' < i
   ·exact hc hf i' hii h2 h3 h4
   ·obtain rfl:i'=i:=by omega
    obtain rfl:=hA.eq hf
    rw [←nU] at h4 ⊢
    rw [h3,h4] at ht
    simpa using ht
 ·obtain ⟨m',ag⟩:=s
  refine ⟨(m',ag),he m' ag,hI.1,fun hf e hem=>?_⟩
  obtain ⟨i',hi',rfl⟩:=List.mem_iff_getElem.1 hem
  exact hI.2 hf i' hi' hi'
theorem sat_nodes {n:Nat} (t:Nat→List Bool→Bool) {inner:List Bool × Bool × Int→Option ((List Bool × Bool × Int) ⊕ (List Bool × Bool))} {outer:List Bool × Bool→Option ((List Bool × Bool) ⊕ List Bool)}
  (hi:∀ (k:Nat) (_:k < n) m ag,m.length=n→inner (m,ag,(k:Int))=some (.inl (if (t k m&&!m.getD k false)=true then (m.set k true,true,((k+1:Nat):Int)) else (m,ag,((k+1:Nat):Int)))))
  (he:∀ m ag,inner (m,ag,(n:Int))=some (.inr (m,ag)))
  (ho:∀ m,m.length=n→outer (m,true)=ob (loop inner (m,false,0)) fun r=>some (.inl r))
  (ho2:∀ m,outer (m,false)=some (.inr m)) (P:Nat→Prop) {m0:List Bool} (hm:m0.length=n) (hP0:∀ i,on m0 i→P i) (hP:∀ k m,k < n→m.length=n→(∀ i,on m i→P i)→t k m=true→P k):
  ∃ m,loop outer (m0,true)=some m∧aHP n P m0 m∧∀ k,k < n→t k m=true→on m k:=by
 refine aHs (α:=List Bool) id false (aHP n P m0) (fun m=>∀ k,k < n→t k m=true→on m k) (fun m hG=>?_) (fun m=>ho2 m) (m0.count false) m0 (Nat.le_refl _) ⟨hm,fun _ h=>h,hP0⟩
 have:=sV (step:=inner) n (fun i (s:List Bool × Bool)=>(s.1,s.2,(i:Int)))
  (fun i s=>Adv false (aHP n P m0) m s.1 s.2∧(s.2=false→∀ k,k < i→t k m=true→on m k)) (fun r=>Adv false (aHP n P m0) m r.1 r.2∧(r.2=false→∀ k,k < n→t k m=true→on m k)) (fun i s hi' hI=>?_) (fun s hI=>?_) n 0 (m,false) (by omega) ⟨Adv.refl hG,fun _ i' h=>by omega⟩
 ·obtain ⟨r,hr,hA,hc⟩:=this
  have hr':loop inner (m,false,0)=some r:=hr
  simp only [id]
  rw [ho m hG.len,hr',aJ]
  exact ⟨r.1,r.2,rfl,hA,hc⟩
 ·obtain ⟨m',ag⟩:=s
  obtain ⟨hA,hc⟩:=hI
  simp only at hA hc
  rw [hi i hi' m' ag hA.good.len]
  by_cases ht:(t i m'&&!m'.getD i false)=true
  ·rw [if_pos ht]
   simp only [Bool.and_eq_true,Bool.not_eq_true'] at ht
   exact ⟨(m'.set i true,true),rfl,hA.flip (off_get (by rw [hA.good.len];exact hi') ht.2) (hA.good.flip hi' (hP _ _ hi' hA.good.len hA.good.ok ht.1)),fun h=>by cases h⟩
  ·rw [if_neg ht]
   refine ⟨(m',ag),rfl,hA,fun hf k h1 h2=>?_⟩
   by_cases hii:k < i
   ·exact hc hf k hii h2
   ·obtain rfl:k=i:=by omega
    obtain rfl:=hA.eq hf
    rw [←nU]
    rw [h2] at ht
    simpa using ht
 ·obtain ⟨m',ag⟩:=s
  exact ⟨(m',ag),he m' ag,hI⟩
theorem Co.sat {E:Nat→Nat→Prop} {m A:Nat→Prop} {g:List Bool} (h0:∀ i,A i→m i→on g i) (h1:∀ i j,A i→E i j→A j→on g j→on g i) {i:Nat} (h:Co E m A i):on g i:=by
 induction h with
 |base a b=>exact h0 _ a b
 |step a b c ih=>exact h1 _ _ a b c.mem ih
end Gv
namespace Gv
open Go
def vis (out:List Int) (i:Nat):Prop:=0≤out.getD i (-1)
theorem vis_lt {out:List Int} {i:Nat} (h:vis out i):i < out.length:=by
 apply Classical.byContradiction
 intro hc
 unfold vis at h
 rw [List.getD_eq_getElem?_getD,List.getElem?_eq_none (by omega)] at h
 simp at h
theorem aBF {out:List Int} {j i:Nat} {v:Int} (hj:j < out.length) (hv:0≤v):vis (out.set j v) i↔i=j∨vis out i:=by
 unfold vis
 rw [List.getD_eq_getElem?_getD,List.getD_eq_getElem?_getD]
 by_cases e:i=j
 ·subst e
  rw [List.getElem?_set_self hj];simp [hv]
 ·rw [List.getElem?_set_ne (Ne.symm e)];simp [e]
def neg (out:List Int):Nat:=out.countP fun x=>decide (x < 0)
theorem aLv {v:Int} (hv:0≤v):∀ {out:List Int} {j:Nat} (_:j < out.length),¬ vis out j→neg (out.set j v)+1=neg out
 |[],j,h,_=>by simp at h
 |x::l,0,_,hn=>by
  unfold vis at hn
  simp at hn
  simp only [neg,List.set_cons_zero,List.countP_cons]
  rw [if_neg (by simp only [decide_eq_true_eq];omega),if_pos (by simpa using hn)]
 |x::l,j+1,h,hn=>by
  have ih:=aLv hv (out:=l) (j:=j) (by simpa using h) (by unfold vis at hn ⊢;simpa using hn)
  simp only [neg,List.set_cons_succ,List.countP_cons] at ih ⊢
  omega
structure Bfs (ed:List Edge) (src dst:Edge→Nat) (n:Nat) (P:Nat→Prop) (q:Option Nat) (s:List Int × List Int):Prop where
 len:s.1.length=n
 ok:∀ i,vis s.1 i→P i
 todo:∀ x∈s.2,∃ i:Nat,x=(i:Int)∧vis s.1 i
 done:∀ i,vis s.1 i→(i:Int)∉s.2→some i≠q→∀ e∈ed,src e=i→vis s.1 (dst e)
 top:∀ i,s.1.getD i (-1)≤(n:Int) - neg s.1
theorem Bfs.put {ed:List Edge} {src dst:Edge→Nat} {n:Nat} {P:Nat→Prop} {q:Nat} {s:List Int × List Int} (h:Bfs ed src dst n P (some q) s) (hq:vis s.1 q) {j:Nat} (hj:j < n) (hn:¬ vis s.1 j) (hp:P j):
  Bfs ed src dst n P (some q) (s.1.set j (s.1.getD q (-1)+1),s.2++[(j:Int)])∧neg (s.1.set j (s.1.getD q (-1)+1))+(s.2++[(j:Int)]).length=neg s.1+s.2.length:=by
 have hj':j < s.1.length:=by rw [h.len];exact hj
 have hv:0≤s.1.getD q (-1)+1:=by unfold vis at hq;omega
 have hng:=aLv hv hj' hn
 refine ⟨⟨by rw [List.length_set];exact h.len,fun i hi=>?_,fun x hx=>?_,fun i hi hm hne e he hs=>?_,fun i=>?_⟩,by simp only [List.length_append,List.length_singleton];omega⟩
 ·rcases (aBF hj' hv).1 hi with rfl|hi
  ·exact hp
  ·exact h.ok i hi
 ·rcases List.mem_append.1 hx with hx|hx
  ·obtain ⟨i,rfl,hi⟩:=h.todo x hx
   exact ⟨i,rfl,(aBF hj' hv).2 (.inr hi)⟩
  ·simp at hx;subst hx
   exact ⟨j,rfl,(aBF hj' hv).2 (.inl rfl)⟩
 ·rw [List.mem_append] at hm
  rcases (aBF hj' hv).1 hi with rfl|hi
  ·exact absurd (.inr (by simp)) hm
  ·exact (aBF hj' hv).2 (.inr (h.done i hi (fun x=>hm (.inl x)) hne e he hs))
 ·have ht:=h.top i
  have hq':=h.top q
  simp only
  by_cases e:i=j
  ·subst e
   rw [List.getD_eq_getElem?_getD,List.getElem?_set_self hj']
   simp only [Option.getD_some];omega
  ·rw [List.getD_eq_getElem?_getD,List.getElem?_set_ne (Ne.symm e),←List.getD_eq_getElem?_getD];omega
open Classical in
theorem bfs_loop {ed:List Edge} {n:Nat} (hn:n < 1000000) (src dst:Edge→Nat) {inner:Int→List Int × List Int × Int→Option ((List Int × List Int × Int) ⊕ (List Int × List Int))} {outer:List Int × List Int→Option ((List Int × List Int) ⊕ List Int)}
  (hi:∀ (q:Nat) (k:Nat) (hk:k < ed.length) out todo,out.length=n→q < n→todo.length≤n→(∀ i,out.getD i (-1)≤(n:Int))→inner (q:Int) (out,todo,(k:Int))=some (.inl (if src ed[k]=q∧¬ vis out (dst ed[k]) then (out.set (dst ed[k]) (wr (out.getD q (-1)+1)),todo++[(dst ed[k]:Int)],((k+1:Nat):Int)) else (out,todo,((k+1:Nat):Int)))))
  (he:∀ (q:Nat) out todo,inner (q:Int) (out,todo,(ed.length:Int))=some (.inr (out,todo)))
  (ho:∀ out (q:Nat) todo,out.length=n→q < n→todo.length≤n→outer (out,(q:Int)::todo)=ob (loop (inner (q:Int)) (out,todo,0)) fun r=>some (.inl r))
  (ho2:∀ out,outer (out,[])=some (.inr out)) (hb:∀ e∈ed,dst e < n) (P:Nat→Prop) (hP:∀ e∈ed,P (src e)→P (dst e)) {s0:List Int × List Int} (h0:Bfs ed src dst n P none s0) (hm:neg s0.1+s0.2.length≤n):
  ∃ out,loop outer s0=some out∧out.length=n∧(∀ i,vis out i→P i)∧(∀ i,vis out i→∀ e∈ed,src e=i→vis out (dst e))∧∀ i,vis s0.1 i→vis out i:=by
 refine vU (step:=outer) (fun s=>Bfs ed src dst n P none s∧neg s.1+s.2.length≤n∧∀ i,vis s0.1 i→vis s.1 i) (fun s=>neg s.1+s.2.length) (fun out=>out.length=n∧(∀ i,vis out i→P i)∧(∀ i,vis out i→∀ e∈ed,src e=i→vis out (dst e))∧∀ i,vis s0.1 i→vis out i) (fun s hI=>?_) ⟨h0,hm,fun _ h=>h⟩
 obtain ⟨out,todo⟩:=s
 obtain ⟨hB,hle,hmo⟩:=hI
 cases todo with
 |nil=>
  right
  exact ⟨out,ho2 out,hB.len,hB.ok,fun i hi e he hs=>hB.done i hi (by simp) (by simp) e he hs,hmo⟩
 |cons x todo=>
  left
  obtain ⟨q,rfl,hq⟩:=hB.todo x (by simp)
  have hqn:q < n:=by have h1:=vis_lt hq;have h2:=hB.len;simp only at h1 h2;omega
  have hle':neg out+(todo.length+1)≤n:=hle
  rw [ho out q todo hB.len hqn (by omega)]
  have hB1:Bfs ed src dst n P (some q) (out,todo):=⟨hB.len,hB.ok,fun x hx=>hB.todo x (by simp [hx]),fun i hi hm hne e he hs=>hB.done i hi (by simp only [List.mem_cons,not_or];exact ⟨fun h=>hne (by rw [show i=q by omega]),hm⟩) (by simp) e he hs,hB.top⟩
  have:=sV (step:=inner (q:Int)) ed.length (fun i (s:List Int × List Int)=>(s.1,s.2,(i:Int)))
   (fun k s=>Bfs ed src dst n P (some q) s∧neg s.1+s.2.length=neg out+todo.length∧(∀ i,vis out i→vis s.1 i)∧∀ k',k' < k→∀ h:k' < ed.length,src ed[k']=q→vis s.1 (dst ed[k'])) (fun r=>Bfs ed src dst n P (some q) r∧neg r.1+r.2.length=neg out+todo.length∧(∀ i,vis out i→vis r.1 i)∧∀ e∈ed,src e=q→vis r.1 (dst e)) (fun k s hk hI=>?_) (fun s hI=>?_) ed.length 0 (out,todo) (by omega) ⟨hB1,rfl,fun _ h=>h,fun k' h=>by omega⟩
  ·obtain ⟨r,hr,hR,hc,hv,hall⟩:=this
   have hr':loop (inner (q:Int)) (out,todo,0)=some r:=hr
   rw [hr',aJ]
   refine ⟨r,rfl,⟨⟨hR.len,hR.ok,hR.todo,fun i hi hm _ e he hs=>?_,hR.top⟩,by omega,fun i hi=>hv i (hmo i hi)⟩,?_⟩
   ·by_cases hiq:i=q
    ·subst hiq;exact hall e he hs
    ·exact hR.done i hi hm (by simpa using hiq) e he hs
   ·simp only [List.length_cons];omega
  ·obtain ⟨o,td⟩:=s
   obtain ⟨hS,hc,hv,hall⟩:=hI
   simp only at hc hv hall
   have hmem:ed[k]∈ed:=List.getElem_mem hk
   have hvq:=hv q hq
   have htop:∀ i,o.getD i (-1)≤(n:Int):=fun i=>by have:=hS.top i;simp only at this;omega
   rw [hi q k hk o td hS.len hqn (by omega) htop]
   by_cases ht:src ed[k]=q∧¬ vis o (dst ed[k])
   ·rw [if_pos ht]
    have hp:P (dst ed[k]):=hP _ hmem (by rw [ht.1];exact hS.ok q hvq)
    obtain ⟨g1,g2⟩:=hS.put hvq (hb _ hmem) ht.2 hp
    have hw:wr (o.getD q (-1)+1)=o.getD q (-1)+1:=by
     have h1:=htop q
     have h2:0≤o.getD q (-1):=hvq
     rw [iM (by omega) (by omega)]
    have hol:dst ed[k] < o.length:=by have:=hS.len;simp only at this;rw [this];exact hb _ hmem
    have h0:(0:Int)≤o.getD q (-1)+1:=by have h2:0≤o.getD q (-1):=hvq;omega
    rw [hw]
    refine ⟨(o.set (dst ed[k]) (o.getD q (-1)+1),td++[(dst ed[k]:Int)]),rfl,g1,by simp only at g2 ⊢;omega,fun i h=>(aBF hol h0).2 (.inr (hv i h)),fun k' h1 h2 h3=>?_⟩
    by_cases hkk:k' < k
    ·exact (aBF hol h0).2 (.inr (hall k' hkk h2 h3))
    ·obtain rfl:k'=k:=by omega
     exact (aBF hol h0).2 (.inl rfl)
   ·rw [if_neg ht]
    refine ⟨(o,td),rfl,hS,hc,hv,fun k' h1 h2 h3=>?_⟩
    by_cases hkk:k' < k
    ·exact hall k' hkk h2 h3
    ·obtain rfl:k'=k:=by omega
     exact Classical.byContradiction fun hx=>ht ⟨h3,hx⟩
  ·obtain ⟨o,td⟩:=s
   obtain ⟨hS,hc,hv,hall⟩:=hI
   refine ⟨(o,td),he q o td,hS,hc,hv,fun e hem hs=>?_⟩
   obtain ⟨i',hi',rfl⟩:=List.mem_iff_getElem.1 hem
   exact hall i' hi' hi' hs
end Gv
namespace Gv
open Go
section
variable {E U:Nat→Nat→Prop} {m flt:Nat→Prop} {n:Nat}
theorem trim_a {step:List Bool→Option (List Bool ⊕ List Bool)} (h:∀ a,a.length=n→∃ b,b.length=n∧(∀ i,on b i↔Co E m (on a) i∧∀ j,U i j→Co E m (on a) j)∧step a=some (if b=a then .inr a else .inl b))
  {a0:List Bool} (hl:a0.length=n) (h0:∀ i,on a0 i↔i < n∧¬ flt i):∃ a,loop step a0=some a∧a.length=n∧Stb E U m flt (on a)∧∀ S,(∀ i,S i→i < n)→Stb E U m flt S→∀ i,S i→on a i:=by
 obtain ⟨a,e,⟨i1,i2,i3⟩,q⟩:=aMW (step:=step) (fun a=>a.length=n∧(∀ i,on a i→¬ flt i)∧∀ S,(∀ i,S i→i < n)→Stb E U m flt S→∀ i,S i→on a i) (fun a b=>∀ i,on b i↔Co E m (on a) i∧∀ j,U i j→Co E m (on a) j) (fun a hI=>by
  obtain ⟨h1,h2,h3⟩:=hI
  obtain ⟨b,g1,g2,g3⟩:=h a h1
  have sub:∀ i,on b i→on a i:=fun i hi=>((g2 i).1 hi).1.mem
  refine ⟨b,⟨g1,fun i hi=>h2 i (sub i hi),fun S hn hS i hi=>(g2 i).2 ⟨(hS.co i hi).mono (h3 S hn hS),fun j hj=>(hS.co j (hS.un i j hi hj)).mono (h3 S hn hS)⟩⟩,by omega,sub,g2,g3⟩) (a0.count true) a0 (Nat.le_refl _) ⟨hl,fun i hi=>((h0 i).1 hi).2,fun S hn hS i hi=>(h0 i).2 ⟨hn i hi,hS.ok i hi⟩⟩
 exact ⟨a,e,i1,⟨fun i hi=>((q i).1 hi).1,i2,fun i j hi hj=>(((q i).1 hi).2 j hj).mem⟩,i3⟩
theorem trim_b {step:List Bool→Option (List Bool ⊕ List Bool)} (h:∀ a,a.length=n→∃ b,b.length=n∧(∀ i,on b i↔on a i∧Co E m (on a) i∧¬ flt i∧∀ j,U i j→on a j)∧step a=some (if b=a then .inr a else .inl b))
  {a0:List Bool} (hl:a0.length=n) (h0:∀ i,on a0 i↔i < n):∃ a,loop step a0=some a∧a.length=n∧Stb E U m flt (on a)∧∀ S,(∀ i,S i→i < n)→Stb E U m flt S→∀ i,S i→on a i:=by
 obtain ⟨a,e,⟨i1,i3⟩,q⟩:=aMW (step:=step) (fun a=>a.length=n∧∀ S,(∀ i,S i→i < n)→Stb E U m flt S→∀ i,S i→on a i) (fun a b=>∀ i,on b i↔on a i∧Co E m (on a) i∧¬ flt i∧∀ j,U i j→on a j) (fun a hI=>by
  obtain ⟨h1,h3⟩:=hI
  obtain ⟨b,g1,g2,g3⟩:=h a h1
  refine ⟨b,⟨g1,fun S hn hS i hi=>(g2 i).2 ⟨h3 S hn hS i hi,(hS.co i hi).mono (h3 S hn hS),hS.ok i hi,fun j hj=>h3 S hn hS j (hS.un i j hi hj)⟩⟩,by omega,fun i hi=>((g2 i).1 hi).1,g2,g3⟩) (a0.count true) a0 (Nat.le_refl _) ⟨hl,fun S hn hS i hi=>(h0 i).2 (hn i hi)⟩
 exact ⟨a,e,i1,⟨fun i hi=>((q i).1 hi).2.1,fun i hi=>((q i).1 hi).2.2.1,fun i j hi hj=>((q i).1 hi).2.2.2 j hj⟩,i3⟩
theorem trim_same {a b:List Bool} (ha:a.length=n) (hb:b.length=n) (sa:Stb E U m flt (on a)) (sb:Stb E U m flt (on b)) (ga:∀ S,(∀ i,S i→i < n)→Stb E U m flt S→∀ i,S i→on a i) (gb:∀ S,(∀ i,S i→i < n)→Stb E U m flt S→∀ i,S i→on b i):a=b:=
 on_ext (by omega) fun i=>⟨gb _ (fun i hi=>by have:=aJu hi;omega) sa i,ga _ (fun i hi=>by have:=aJu hi;omega) sb i⟩
end
variable {p:cA} {r:dB}
def ctl (p:cA) (s:aZ):Bool:=p.C.any fun x=>(jG 40 s).1 == x
def lb (p:cA) (l:Int):aZ:=p.S.L.getD l.toNat []
def gE (p:cA) (r:dB) (i j:Nat):Prop:=∃ e∈(eG p r).2,e.F=(i:Int)∧e.To=(j:Int)
def gU (p:cA) (r:dB) (i j:Nat):Prop:=∃ e∈(eG p r).2,e.F=(i:Int)∧e.To=(j:Int)∧ctl p (lb p e.B)=false
def mkB (p:cA) (q:Int × Int):Bool:=p.M.any fun x=>q.1 == x
def blk (p:cA) (r:dB) (q:Int × Int):List Edge:=(dF p q).filter fun e=>(alo r q.2 (txt p.S e)).isNone
def fltB (p:cA) (r:dB) (q:Int × Int):Bool:=(blk p r q).any fun e=>!ctl p (txt p.S e)
def gM (p:cA) (r:dB) (i:Nat):Prop:=∃ q,(eG p r).1[i]?=some q∧mkB p q=true
def gF (p:cA) (r:dB) (i:Nat):Prop:=∃ q,(eG p r).1[i]?=some q∧fltB p r q=true
theorem gE_iff (hp:dP p.S) (hr:dP r) {i j:Nat} {q:Int × Int} (hi:(eG p r).1[i]?=some q):gE p r i j↔∃ x∈uT p r q (dF p q),(eG p r).1[j]?=some x.2:=by
 constructor
 ·rintro ⟨e,he,h1,h2⟩
  obtain ⟨q',x,i',j',f1,f2,f3,rfl⟩:=aGA hp hr e he
  simp only at h1 h2
  obtain rfl:i'=i:=by omega
  obtain rfl:j'=j:=by omega
  rw [hi] at f1;cases f1
  exact ⟨x,f2,f3⟩
 ·rintro ⟨x,hx,hj⟩
  exact ⟨_,aLs hp hr hi hx hj,rfl,rfl⟩
theorem gU_iff (hp:dP p.S) (hr:dP r) {i j:Nat} {q:Int × Int} (hi:(eG p r).1[i]?=some q):gU p r i j↔∃ x∈uT p r q (dF p q),(eG p r).1[j]?=some x.2∧ctl p (lb p x.1)=false:=by
 constructor
 ·rintro ⟨e,he,h1,h2,h3⟩
  obtain ⟨q',x,i',j',f1,f2,f3,rfl⟩:=aGA hp hr e he
  simp only at h1 h2 h3
  obtain rfl:i'=i:=by omega
  obtain rfl:j'=j:=by omega
  rw [hi] at f1;cases f1
  exact ⟨x,f2,f3,h3⟩
 ·rintro ⟨x,hx,hj,hc⟩
  exact ⟨_,aLs hp hr hi hx hj,rfl,rfl,hc⟩
end Gv
namespace Gv
open Go
inductive Rt (t:dB):Nat→Prop
 |init:Rt t t.I.toNat
 |step {e:Edge}:e∈t.E→Rt t e.F.toNat→Rt t e.To.toNat
noncomputable def RL (t:dB):List Int:=((List.range t.N.toNat).filter fun k=>cl (Rt t k)).map Int.ofNat
theorem RL_pair (t:dB):(RL t).Pairwise fun a b=>a < b:=by
 unfold RL
 rw [List.pairwise_map]
 refine (List.Pairwise.filter _ List.pairwise_lt_range).imp fun h=>?_
 simp only [Int.ofNat_eq_natCast];omega
theorem RL_len (t:dB):(RL t).length≤t.N.toNat:=by
 unfold RL
 rw [List.length_map]
 exact Nat.le_trans (List.length_filter_le _ _) (by simp)
theorem posI_lt {S:List Int} (hS:S.Pairwise fun a b=>a < b) {a b:Int} (ha:a∈S) (hb:b∈S) (h:a < b):pos S a < pos S b:=by
 obtain ⟨i,e1,h1⟩:=aBE ha
 obtain ⟨j,e2,h2⟩:=aBE hb
 obtain ⟨hi,f1⟩:=List.getElem?_eq_some_iff.1 h1
 obtain ⟨hj,f2⟩:=List.getElem?_eq_some_iff.1 h2
 rw [e1,e2]
 rcases Nat.lt_trichotomy i j with g|g|g
 ·omega
 ·subst g;omega
 ·have:=List.pairwise_iff_getElem.1 hS j i hj hi g
  omega
def aKy (t:dB) (S:List Int):List Edge:=t.E.filterMap fun e=>if 0≤pos S e.F∧0≤pos S e.To then some ⟨pos S e.F,e.B,pos S e.To⟩ else none
def keepL (t:dB) (S:List Int):dB:=⟨(S.length:Int),pos S t.I,t.L,aKy t S⟩
theorem aKz (t:dB) (S:List Int):(aKy t S).length≤t.E.length:=List.length_filterMap_le _ _
theorem keepE_SE {t:dB} (hE:SE t.E) {S:List Int} (hS:S.Pairwise fun a b=>a < b):SE (aKy t S):=by
 unfold SE aKy
 rw [List.pairwise_filterMap]
 refine hE.imp fun {a b} h x hx y hy=>?_
 simp only [Option.ite_none_right_eq_some,Option.some.injEq] at hx hy
 obtain ⟨⟨a1,a2⟩,rfl⟩:=hx
 obtain ⟨⟨b1,b2⟩,rfl⟩:=hy
 rw [pos_iff] at a1 a2 b1 b2
 rw [pZ] at h ⊢
 simp only
 rcases h with h|⟨h1,h|⟨h2,h⟩⟩
 ·exact .inl (posI_lt hS a1 b1 h)
 ·exact .inr ⟨by rw [h1],.inl h⟩
 ·exact .inr ⟨by rw [h1],.inr ⟨h2,posI_lt hS a2 b2 h⟩⟩
theorem edges_SE {t:dB} (hv:dV t):SE t.E:=by
 refine List.pairwise_iff_getElem.2 fun i j hi hj hij=>?_
 exact aFQ (R:=fun a b=>dX a b=true) (fun h1 h2=>aDZ h1 h2) (fun k h1 hk=>(hv.2.2.2.2 k hk).2 h1) hij hj
end Gv
namespace Gv
open Go
theorem aHu (xs:List Int) (v:Int) (h:xs.length < 4611686018427387904):xA xs v=some (pos xs v):=by
 unfold xA pos
 rw [aAn (step:=fun s=>sY xs v s) xs (fun x=>v == x) (fun k x hk hx=>by
  simp only [sY,cQ hk,if_pos,hx,aJ,cK hk h]
  rw [show (x == v)=(v == x) from by rw [Bool.eq_iff_iff,beq_iff_eq,beq_iff_eq];exact eq_comm]) (by simp only [sY,cE];rfl),aJ]
 cases xs.findIdx? (fun x=>v == x)<;>rfl
theorem aNZ {t:dB} (hv:dV t) {S:List Int} (hS:S.length < 1000000000):aDk t S=some (keepL t S):=by
 have h300:=hv.2.2.2.1
 have h12:=hv.2.2.1.2.1
 unfold aDk
 rw [aHu _ _ (by omega),aJ,hJ (by simp [kT];omega),aJ,List.nil_append]
 have:=mA (step:=fun s:List Edge × Int=>rP t S s.1 s.2) t.E (fun k (a:List Edge)=>(a,(k:Int)))
  (fun l a=>a++l.filterMap fun e=>if 0≤pos S e.F∧0≤pos S e.To then some (⟨pos S e.F,e.B,pos S e.To⟩:Edge) else none) (fun k a=>a.length≤k) (fun k out x l hk' hx hI=>?_) (fun out hI=>by simp only [rP,cE];simp) (a:=[]) (by simp)
 ·have this':loop (fun s:List Edge × Int=>rP t S s.1 s.2) (([]:List Edge),0)=_:=this
  rw [this',aJ,List.nil_append];rfl
 ·left
  have hI':out.length≤k:=hI
  have hw:=cK hk' (show t.E.length < 4611686018427387904 by omega)
  simp only [rP,cQ hk',if_pos,hx,aJ,aHu S _ (show S.length < 4611686018427387904 by omega)]
  rw [List.filterMap_cons]
  by_cases h1:0≤pos S x.F
  ·rw [if_pos (decide_eq_true h1)]
   by_cases h2:0≤pos S x.To
   ·rw [if_pos ⟨h1,h2⟩]
    simp only [rO,rN,decide_eq_true h2,if_pos]
    rw [hJ (show out.length+1≤kT by unfold kT;omega),aJ,hw]
    exact ⟨_,rfl,by simp;omega,by simp⟩
   ·rw [if_neg (fun h=>h2 h.2)]
    simp only [rO,rN,decide_eq_false h2,hw]
    exact ⟨out,by simp,by omega,rfl⟩
  ·rw [if_neg (by simpa using h1),if_neg (fun h=>h1 h.1)]
   simp only [rO,rN,hw]
   exact ⟨out,by simp,by omega,rfl⟩
theorem aKA {n:Nat} (hn:n < 1000000) (f:Nat→Bool) {step:List Int × Int→Option ((List Int × Int) ⊕ List Int)}
  (h:∀ (k:Nat) out,k < n→out.length≤k→step (out,(k:Int))=some (.inl (if f k=true then out++[(k:Int)] else out,((k+1:Nat):Int)))) (h':∀ out,step (out,(n:Int))=some (.inr out)):
  loop step ([],0)=some (((List.range n).filter f).map Int.ofNat):=by
 have:=mX (step:=step) n (fun k (a:List Int)=>(a,(k:Int))) (fun k a=>a++(((List.range n).drop k).filter f).map Int.ofNat) (fun k a=>a.length≤k) (fun k a hk hI=>?_) (fun a _=>?_) n 0 [] (by omega) (by simp)
 ·have this':loop step ([],0)=_:=this
  rw [this'];simp
 ·left
  rw [h k a hk hI]
  have hd:(List.range n).drop k=k::(List.range n).drop (k+1):=by
   rw [List.drop_eq_getElem_cons (by simpa using hk)];simp
  rw [hd,List.filter_cons]
  by_cases hf:f k=true
  ·rw [if_pos hf,if_pos hf]
   exact ⟨_,rfl,by simp;omega,by simp⟩
  ·rw [if_neg hf,if_neg hf]
   exact ⟨a,rfl,by omega,rfl⟩
 ·rw [h',List.drop_of_length_le (by simp)];simp
theorem aMX {t:dB} (hv:dV t):aBX t=some (RL t):=by
 obtain ⟨n,hn⟩:∃ n:Nat,t.N=(n:Int):=⟨t.N.toNat,by have:=hv.1;omega⟩
 obtain ⟨i,hi⟩:∃ i:Nat,t.I=(i:Int):=⟨t.I.toNat,by have:=hv.2.1;omega⟩
 have hn40:n≤40:=by have:=hv.1;omega
 have hin:i < n:=by have:=hv.2.1;omega
 have h300:=hv.2.2.2.1
 have hed:∀ e∈t.E,∃ a b:Nat,e.F=(a:Int)∧e.To=(b:Int)∧a < n∧b < n:=fun e he=>by
  obtain ⟨h1,h2,_⟩:=lG hv he
  exact ⟨e.F.toNat,e.To.toNat,by omega,by omega,by omega,by omega⟩
 have rl:(List.replicate n false).length=n:=List.length_replicate
 have hon0:∀ j,on ((List.replicate n false).set i true) j↔j=i:=fun j=>by
  rw [aEV (by rw [rl];exact hin)]
  split
  ·simp_all
  ·rename_i h;rw [aFS];simp [h]
 unfold aBX
 rw [hn,aCT _ (by simp [kT];omega),aJ,hi,cZ (by rw [rl];exact hin),aJ,sT _ (by rw [rl];exact hin),aJ]
 obtain ⟨m,hm,hS,hc⟩:=aKx (ed:=t.E) (n:=n) (fun _=>true) (fun e=>e.F.toNat) (fun e=>e.To.toNat) (inner:=fun s:List Bool × Bool × Int=>tA t s.1 s.2.1 s.2.2) (outer:=fun s:List Bool × Bool=>yM t s.1 s.2)
  (fun k hk m ag hm=>by
   obtain ⟨a,b,ea,eb,ha,hb⟩:=hed _ (List.getElem_mem hk)
   have hw:=cK hk (show t.E.length < 4611686018427387904 by omega)
   have g1:ix m (a:Int)=some (m.getD a false):=by rw [cZ (by omega)];simp [List.getD_eq_getElem?_getD,show a < m.length by omega]
   have g2:ix m (b:Int)=some (m.getD b false):=by rw [cZ (by omega)];simp [List.getD_eq_getElem?_getD,show b < m.length by omega]
   simp only [tA,cQ hk,if_pos,cZ hk,aJ,ea,eb,g1,g2,Int.toNat_natCast,Bool.true_and]
   cases h1:m.getD a false with
   |false=>simp [pN,pL,hw]
   |true=>
    cases h2:m.getD b false with
    |true=>simp [pN,pL,hw]
    |false=>simp [pN,pL,hw,cZ hk,eb,g2,sT (xs:=m) true (show b < m.length by omega)])
  (fun m ag=>by simp only [tA,cE];rfl) (fun m _=>rfl) (fun m=>rfl) (fun e he=>by obtain ⟨a,b,ea,eb,ha,hb⟩:=hed e he;simp only [eb,Int.toNat_natCast];exact hb) (Rt t) (m0:=(List.replicate n false).set i true) (by simp) (fun j hj=>by
   rw [(hon0 j).1 hj]
   have:=Rt.init (t:=t)
   rwa [hi,Int.toNat_natCast] at this) (fun e he _ h=>Rt.step he h)
 rw [hm,aJ]
 unfold wD
 have key:∀ j,on m j↔Rt t j:=fun j=>⟨hS.ok j,fun h=>by
  induction h with
  |init=>rw [hi,Int.toNat_natCast];exact hS.has i ((hon0 i).2 rfl)
  |step he _ ih=>exact hc _ he rfl ih⟩
 have:=aKA (n:=n) (by omega) (fun k=>cl (Rt t k)) (step:=fun s:List Int × Int=>sZ t m s.1 s.2) (fun k out hk ho=>by
  have hkm:k < m.length:=by rw [hS.len];exact hk
  have hw:=cK hk (show n < 4611686018427387904 by omega)
  have hb:m[k]=cl (Rt t k):=by
   rw [aDF (b:=m[k])]
   rw [←key k];unfold on;rw [List.getElem?_eq_getElem hkm];simp
  simp only [sZ,hn,cQ hk,if_pos,cZ hkm,aJ,hb,wC,hw]
  split
  ·rw [hJ (show out.length+1≤kT by unfold kT;omega),aJ]
  ·rfl) (fun out=>by simp only [sZ,hn,cE];rfl)
 rw [this,aJ]
 unfold RL
 rw [hn,Int.toNat_natCast];rfl
theorem aJw (k:Int) (S:List Int) (h:S.length < 4611686018427387904):pT k S=some (pos S k):=by
 unfold pT
 rw [aKm _ _ h,aJ]
theorem Clone_str (xs:List aZ) (h:xs.length≤kT):dD xs=some xs:=by
 unfold dD
 rw [hJ (by simpa using h),aJ,List.nil_append]
theorem part_eq {t:dB} (hv:dV t) {S:List Int} (hS:S.length < 1000000000) (hp:S.Pairwise fun a b=>a < b):aCk t S=some (keepL t S):=by
 have h300:=hv.2.2.2.1
 have h12:=hv.2.2.1.2.1
 unfold aCk
 rw [aJw _ _ (by omega),aJ,Clone_str _ (by unfold kT;omega),aJ]
 unfold aAE
 have:=mA (step:=fun s:List Edge × Int=>pW t S s.1 s.2) t.E (fun k (a:List Edge)=>(a,(k:Int)))
  (fun l a=>a++l.filterMap fun e=>if 0≤pos S e.F∧0≤pos S e.To then some (⟨pos S e.F,e.B,pos S e.To⟩:Edge) else none) (fun k a=>a.length≤k) (fun k out x l hk' hx hI=>?_) (fun out hI=>by simp only [pW,cE];simp) (a:=[]) (by simp)
 ·have this':loop (fun s:List Edge × Int=>pW t S s.1 s.2) ([],0)=some (aKy t S):=this
  rw [this',aJ]
  unfold wM wZ
  have hl:=aKz t S
  rw [if_pos (by unfold kT;omega),aMw _ aIX (keepE_SE (edges_SE hv) hp),aJ];rfl
 ·left
  have hI':out.length≤k:=hI
  have hw:=cK hk' (show t.E.length < 4611686018427387904 by omega)
  simp only [pW,cQ hk',if_pos,hx,aJ,aJw _ S (show S.length < 4611686018427387904 by omega)]
  rw [List.filterMap_cons]
  by_cases h1:0≤pos S x.F
  ·rw [if_pos (decide_eq_true h1)]
   by_cases h2:0≤pos S x.To
   ·rw [if_pos ⟨h1,h2⟩]
    simp only [pV,pU,decide_eq_true h2,if_pos]
    rw [hJ (show out.length+1≤kT by unfold kT;omega),aJ,hw]
    exact ⟨_,rfl,by simp;omega,by simp⟩
   ·rw [if_neg (fun h=>h2 h.2)]
    simp only [pV,pU,decide_eq_false h2,hw]
    exact ⟨out,by simp,by omega,rfl⟩
  ·rw [if_neg (by simpa using h1),if_neg (fun h=>h1 h.1)]
   simp only [pV,pU,hw]
   exact ⟨out,by simp,by omega,rfl⟩
end Gv
namespace Gv
open Go
theorem aOa (b:Int) (n:Nat) (h1:1≤n) (h:n≤100000):gD [b] (n:Int)=some (List.replicate n b):=by
 unfold gD
 rw [if_neg (by simp)]
 unfold iG
 have hm:aHm (aBO (([b]:List Int).length:Int)) (aBO (n:Int))=some (0,(n:Int)):=by
  have e1:aBO (([b]:List Int).length:Int)=1:=by simp [aBO]
  have e2:aBO (n:Int)=(n:Int):=by unfold aBO;omega
  rw [e1,e2];unfold aHm
  rw [if_pos ⟨by omega,by omega,by omega,by omega⟩]
  simp only [Int.one_mul,Option.some.injEq,Prod.mk.injEq]
  omega
 rw [hm,aJ]
 simp only
 rw [if_neg (by simp),decide_eq_false (p:=(9223372036854775807:Int) < (n:Int)) (by omega)]
 unfold fJ
 rw [if_neg (by simp)]
 unfold iF
 simp only
 rw [iM (by omega) (by omega),aCT _ (by simp [kT];omega),aJ]
 have hmin:Nat.min ([b]:List Int).length (List.replicate n (0:Int)).length=1:=by
  show min _ _=1
  simp;omega
 rw [hmin]
 have ho:ovw (List.replicate n (0:Int)) 0 (([b]:List Int).take 1)=some (b::List.replicate (n - 1) (0:Int)):=by
  unfold ovw
  rw [if_pos ⟨by omega,by simp;omega⟩]
  simp
 rw [ho,aJ]
 have hL:=vU (step:=fun s:List Int × Int=>fI s.1 s.2) (fun s=>1≤s.2∧s.2≤n∧s.1.length=n∧s.1.take s.2.toNat=List.replicate s.2.toNat b) (fun s=>(n - s.2).toNat) (fun r=>r=List.replicate n b) (fun s hI=>?_) (s:=(b::List.replicate (n - 1) (0:Int),1)) ⟨by simp,by simp only;omega,by simp;omega,by simp⟩
 ·obtain ⟨r,hr,hR⟩:=hL
  rw [show (((1:Nat):Int))=1 from rfl,hr,aJ,hR];rfl
 ·obtain ⟨m,i⟩:=s
  obtain ⟨h1,h2,h3,h4⟩:=hI
  simp only at h1 h2 h3 h4 ⊢
  obtain ⟨k,rfl⟩:∃ k:Nat,i=(k:Int):=⟨i.toNat,by omega⟩
  rw [Int.toNat_natCast] at h4
  unfold fI
  by_cases hk:k < n
  ·left
   have s1:uV m (k:Int) (m.length:Int)=some (m.drop k):=by
    unfold uV;rw [if_pos ⟨by omega,by omega,by omega⟩]
    rw [Int.toNat_natCast,Int.toNat_natCast,List.take_of_length_le (by simp)]
   have s2:uV m 0 (k:Int)=some (m.take k):=by
    unfold uV;rw [if_pos ⟨by omega,by omega,by omega⟩];simp
   rw [h3] at s1 ⊢
   rw [if_pos (cQ hk),s1,aJ,s2,aJ,h4]
   have hl:(m.drop k).length=n - k:=by simp [h3]
   rw [hl,List.length_replicate]
   generalize hd:Nat.min k (n - k)=d
   have hd1:d≤k∧d≤n - k∧1≤d:=by
    have:Nat.min k (n - k)=min k (n - k):=rfl
    omega
   have hov:ovw m (k:Int) ((List.replicate k b).take d)=some (List.replicate (k+d) b++m.drop (k+d)):=by
    unfold ovw
    have hl2:((List.replicate k b).take d).length=d:=by simp;omega
    rw [if_pos ⟨by omega,by rw [hl2,Int.toNat_natCast];omega⟩,hl2,Int.toNat_natCast,h4,List.take_replicate]
    rw [show min d k=d by omega,List.replicate_append_replicate]
   rw [hov,aJ]
   have hw:wr ((k:Int)+((d:Nat):Int))=((k+d:Nat):Int):=by rw [iM (by omega) (by omega)];omega
   rw [hw]
   refine ⟨_,rfl,⟨by simp only;omega,by simp only;omega,by simp [h3];omega,?_⟩,by simp only;omega⟩
   simp only [Int.toNat_natCast]
   rw [List.take_append_of_le_length (by simp),List.take_of_length_le (by simp)]
  ·right
   obtain rfl:k=n:=by omega
   rw [h3,if_neg (by simp)]
   rw [List.take_of_length_le (by omega)] at h4
   exact ⟨_,rfl,h4⟩
theorem ix_gd {xs:List Int} {k:Nat} (h:k < xs.length):ix xs (k:Int)=some (xs.getD k (-1)):=by
 rw [cZ h];simp [List.getD_eq_getElem?_getD,h]
theorem aLx {t:dB} (hv:dV t):∃ out,sJ t [t.I] true=some out∧out.length=t.N.toNat∧∀ i,vis out i↔Rt t i:=by
 obtain ⟨n,hn⟩:∃ n:Nat,t.N=(n:Int):=⟨t.N.toNat,by have:=hv.1;omega⟩
 obtain ⟨i,hi⟩:∃ i:Nat,t.I=(i:Int):=⟨t.I.toNat,by have:=hv.2.1;omega⟩
 have hn40:1≤n∧n≤40:=by have:=hv.1;omega
 have hin:i < n:=by have:=hv.2.1;omega
 have h300:=hv.2.2.2.1
 have hed:∀ e∈t.E,∃ a b:Nat,e.F=(a:Int)∧e.To=(b:Int)∧a < n∧b < n:=fun e he=>by
  obtain ⟨h1,h2,_⟩:=lG hv he
  exact ⟨e.F.toNat,e.To.toNat,by omega,by omega,by omega,by omega⟩
 have rl:(List.replicate n (-1:Int)).length=n:=List.length_replicate
 have nv:∀ j,¬ vis (List.replicate n (-1:Int)) j:=fun j h=>by
  unfold vis at h
  rw [List.getD_eq_getElem?_getD,List.getElem?_replicate] at h
  split at h<;>simp at h
 have hn0:neg (List.replicate n (-1:Int))=n:=by unfold neg;rw [List.countP_replicate];simp
 have hns:=aLv (v:=0) (Int.le_refl 0) (out:=List.replicate n (-1:Int)) (j:=i) (by rw [rl];exact hin) (nv i)
 have hv0:∀ j,vis ((List.replicate n (-1:Int)).set i 0) j↔j=i:=fun j=>by
  rw [aBF (by rw [rl];exact hin) (Int.le_refl 0)]
  exact ⟨fun h=>h.resolve_right (nv j),.inl⟩
 unfold sJ
 rw [hn,aOa _ n hn40.1 (by omega),aJ]
 unfold eH
 rw [hJ (by simp [kT]),aJ,aJ,List.nil_append,hi]
 rw [cN]
 simp only [nJ]
 rw [if_pos (by simp),show ix [(i:Int)] 0=some (i:Int) from rfl,aJ,cZ (by rw [rl];exact hin),aJ,sT _ (by rw [rl];exact hin),aJ]
 simp only
 rw [cN]
 simp only [nJ]
 rw [if_neg (by simp [wr]),aJ]
 unfold oI
 obtain ⟨out,h1,h2,h3,h4,h5⟩:=bfs_loop (ed:=t.E) (n:=n) (by omega) (fun e=>e.F.toNat) (fun e=>e.To.toNat) (inner:=fun q (s:List Int × List Int × Int)=>lW t true q s.1 s.2.1 s.2.2) (outer:=fun s:List Int × List Int=>oH t true s.1 s.2)
  (fun q k hk out todo hl hq htd htop=>by
   obtain ⟨a,b,ea,eb,ha,hb⟩:=hed _ (List.getElem_mem hk)
   have hw:=cK hk (show t.E.length < 4611686018427387904 by omega)
   have hx:=cZ hk
   generalize t.E[k]=e at hx ea eb ⊢
   obtain ⟨eF,eL,eT⟩:=e
   simp only at ea eb
   subst ea eb
   simp only [lW,cQ hk,if_pos,hx,aJ,Bool.not_true,Bool.false_eq_true,if_false,oG,Int.toNat_natCast]
   by_cases hqa:a=q
   ·subst hqa
    rw [if_pos (by simp),ix_gd (by omega),aJ]
    unfold lV
    by_cases hvb:vis out b
    ·rw [if_neg (by unfold vis at hvb;simp only [decide_eq_true_eq];omega),if_neg (fun h=>h.2 hvb)]
     simp only [kC,hw]
    ·rw [if_pos (by unfold vis at hvb;simp only [decide_eq_true_eq];omega),if_pos ⟨rfl,hvb⟩,ix_gd (by omega),aJ,ix_gd (by omega),aJ,sT _ (by omega),aJ,hJ (by simp [kT];omega),aJ]
     simp only [kC,hw]
   ·rw [if_neg (by simp;omega),if_neg (fun h=>hqa h.1)]
    unfold lV
    rw [if_neg (by simp)]
    simp only [kC,hw])
  (fun q out todo=>by simp only [lW,cE];rfl)
  (fun out q todo hl hq htd=>by
   have hs:uV ((q:Int)::todo) 1 (((q:Int)::todo).length:Int)=some todo:=by
    unfold uV
    rw [if_pos ⟨by omega,by simp;omega,by simp⟩]
    simp
   simp only [oH]
   rw [if_pos (by simp),show ix ((q:Int)::todo) 0=some (q:Int) from rfl,aJ,hs,aJ]
   rfl)
  (fun out=>rfl) (fun e he=>by obtain ⟨a,b,ea,eb,ha,hb⟩:=hed e he;simp only [eb,Int.toNat_natCast];exact hb) (Rt t) (fun e he h=>Rt.step he h) (s0:=((List.replicate n (-1:Int)).set i 0,[(i:Int)]))
  ⟨by
    simp,fun j hj=>by
    rw [(hv0 j).1 hj]
    have:=Rt.init (t:=t)
    rwa [hi,Int.toNat_natCast] at this,fun x hx=>by simp at hx;exact ⟨i,hx,(hv0 i).2 rfl⟩,fun j hj hm=>by rw [(hv0 j).1 hj] at hm;simp at hm,fun j=>by
    simp only
    by_cases e:j=i
    ·subst e
     rw [List.getD_eq_getElem?_getD,List.getElem?_set_self (by rw [rl];exact hin)]
     simp only [Option.getD_some];omega
    ·have:¬ vis ((List.replicate n (-1:Int)).set i 0) j:=fun h=>e ((hv0 j).1 h)
     unfold vis at this;omega⟩ (by simp only [List.length_singleton];omega)
 rw [h1,aJ]
 refine ⟨out,rfl,by rw [h2];rfl,fun j=>⟨h3 j,fun h=>?_⟩⟩
 induction h with
 |init=>rw [hi,Int.toNat_natCast];exact h5 i ((hv0 i).2 rfl)
 |step he _ ih=>exact h4 _ ih _ he rfl
theorem aJW {xs far:List Int} {p:Int→Bool} (hl:xs.length < 1000000) (hp:∀ x∈xs,lX x far=some (p x)):fE xs far=some (xs.filter fun x=>!p x):=by
 unfold fE
 have e:eN xs far=some (match xs.findIdx? p with|none=>-1|some i=>(i:Int)):=by
  unfold eN
  rw [aAn (step:=fun s=>dN xs far s) xs p (fun k x hk hx=>by
   obtain ⟨hk',rfl⟩:=aAb hx
   simp only [dN,cQ hk,if_pos,hx,aJ,hp _ (List.getElem_mem hk'),cK hk (show xs.length < 4611686018427387904 by omega)]) (by simp only [dN,cE];rfl),aJ]
  cases xs.findIdx? p<;>rfl
 rw [e,aJ]
 cases hf:xs.findIdx? p with
 |none=>
  have:xs.filter (fun x=>!p x)=xs:=List.filter_eq_self.2 fun x hx=>by have:=List.findIdx?_eq_none_iff.1 hf x hx;simp [this]
  rw [if_pos (by rfl),this]
 |some i0=>
  obtain ⟨hi0,hpi,hlt⟩:=List.findIdx?_eq_some_iff_getElem.1 hf
  rw [if_neg (by simp)]
  have:=sV (step:=fun s:List Int × Int × Int=>dH far s.1 s.2.1 s.2.2) xs.length (fun j (a:List Int × Nat)=>(a.1,(a.2:Int),(j:Int)))
   (fun j a=>a.1.length=xs.length∧a.2 < j∧a.1.take a.2=(xs.take j).filter (fun x=>!p x)∧a.1.drop j=xs.drop j) (fun r=>∃ i:Nat,r.2=(i:Int)∧r.1.length=xs.length∧i≤xs.length∧r.1.take i=xs.filter fun x=>!p x) (fun j a hj hI=>?_) (fun a hI=>?_) (xs.length - (i0+1)) (i0+1) (xs,i0) (by omega) ⟨rfl,by simp,?_,rfl⟩
  ·obtain ⟨r,hr,i,h1,h2,h3,h4⟩:=this
   have hr':loop (fun s:List Int × Int × Int=>dH far s.1 s.2.1 s.2.2) (xs,(i0:Int),((i0+1:Nat):Int))=some r:=hr
   simp only
   rw [cK (n:=xs.length) hi0 (by omega),hr',aJ]
   unfold eJ
   have s1:uV r.1 (i:Int) (r.1.length:Int)=some (r.1.drop i):=by
    unfold uV;rw [if_pos ⟨by omega,by omega,by omega⟩]
    rw [Int.toNat_natCast,Int.toNat_natCast,List.take_of_length_le (by simp)]
   rw [h1,s1,aJ]
   have o1:ovw r.1 (i:Int) (List.replicate (r.1.drop i).length (0:Int))=some (r.1.take i++List.replicate (r.1.drop i).length (0:Int)):=by
    unfold ovw
    rw [if_pos ⟨by omega,by simp only [Int.toNat_natCast,List.length_replicate,List.length_drop];omega⟩]
    simp only [Int.toNat_natCast,List.length_replicate,List.length_drop]
    rw [List.drop_of_length_le (by omega),List.append_nil]
   rw [o1,aJ]
   have s2:uV (r.1.take i++List.replicate (r.1.drop i).length (0:Int)) 0 (i:Int)=some (r.1.take i):=by
    unfold uV;rw [if_pos ⟨by omega,by omega,by simp;omega⟩]
    simp only [Int.toNat_natCast,Int.toNat_zero,List.drop_zero,Nat.sub_zero]
    rw [List.take_append_of_le_length (by simp;omega),List.take_of_length_le (by simp;omega)]
   rw [s2,aJ,h4]
  ·obtain ⟨s,i⟩:=a
   obtain ⟨h1,h2,h3,h4⟩:=hI
   simp only at h1 h2 h3 h4
   have hsj:s[j]'(by omega)=xs[j]:=by
    have a1:=List.drop_eq_getElem_cons (l:=s) (i:=j) (by omega)
    have a2:=List.drop_eq_getElem_cons (l:=xs) (i:=j) hj
    rw [a1,a2] at h4
    exact (List.cons.inj h4).1
   have hd:s.drop (j+1)=xs.drop (j+1):=by
    rw [←List.drop_drop (i:=1) (j:=j),←List.drop_drop (i:=1) (j:=j),h4]
   have ht:(xs.take (j+1)).filter (fun x=>!p x)=(xs.take j).filter (fun x=>!p x)++(if p xs[j]=true then [] else [xs[j]]):=by
    rw [List.take_add_one,List.getElem?_eq_getElem hj,List.filter_append]
    simp only [Option.toList_some]
    cases hq:p xs[j]<;>simp [hq]
   have hw:=cK hj (show xs.length < 4611686018427387904 by omega)
   simp only [dH,h1,cQ hj,if_pos,cZ (xs:=s) (k:=j) (by omega),aJ,hsj,hp _ (List.getElem_mem hj),eK,hw]
   cases hpj:p xs[j] with
   |true=>
    refine ⟨(s,i),rfl,h1,by simp only;omega,?_,hd⟩
    rw [ht,hpj];simpa using h3
   |false=>
    simp only [Bool.not_false,if_pos]
    rw [cZ (by omega),aJ,sT _ (by omega),aJ,cK (show i < xs.length by omega) (by omega)]
    refine ⟨(s.set i xs[j],i+1),rfl,by simpa using h1,by simp only;omega,?_,?_⟩
    ·rw [ht,hpj]
     simp only [Bool.false_eq_true,if_false]
     rw [List.take_add_one,List.getElem?_set_self (by omega),List.take_set_of_le (Nat.le_refl _),h3];rfl
    ·simp only
     rw [List.drop_set_of_lt (by omega)];exact hd
  ·obtain ⟨s,i⟩:=a
   obtain ⟨h1,h2,h3,h4⟩:=hI
   simp only at h1 h2 h3 h4
   refine ⟨(s,(i:Int)),by simp only [dH,h1,cE];rfl,i,rfl,h1,by omega,?_⟩
   rw [List.take_length] at h3;exact h3
  ·rw [List.take_add_one,List.getElem?_eq_getElem hi0,List.filter_append]
   simp only [Option.toList_some]
   rw [List.filter_eq_self.2 (fun x hx=>by
    obtain ⟨j,hj,rfl⟩:=List.getElem_of_mem hx
    rw [List.length_take] at hj
    rw [List.getElem_take]
    have:=hlt j (by omega)
    simpa using this)]
   simp [hpi]
theorem aLy {t:dB} (hv:dV t):sK t=some (RL t):=by
 obtain ⟨n,hn⟩:∃ n:Nat,t.N=(n:Int):=⟨t.N.toNat,by have:=hv.1;omega⟩
 have hn40:n≤40:=by have:=hv.1;omega
 obtain ⟨out,h1,h2,h3⟩:=aLx hv
 rw [hn,Int.toNat_natCast] at h2
 unfold sK
 rw [h1,aJ]
 have hu:aIn t.N=some ((List.range n).map Int.ofNat):=by
  unfold aIn
  have:=aKA (n:=n) (by omega) (fun _=>true) (step:=fun s:List Int × Int=>aBM t.N s.1 s.2) (fun k out hk ho=>by
   simp only [aBM,hn,cQ hk,if_pos,cK hk (show n < 4611686018427387904 by omega)]
   rw [hJ (show out.length+([(k:Int)]:List Int).length≤kT by simp [kT];omega),aJ]) (fun out=>by simp only [aBM,hn,cE];rfl)
  rw [this,aJ,List.filter_eq_self.2 (fun _ _=>rfl)];rfl
 rw [hu,aJ,aJW (p:=fun k=>decide (out.getD k.toNat (-1) < 0)) (by simp;omega) (fun x hx=>by
  obtain ⟨k,hk,rfl⟩:=List.mem_map.1 hx
  rw [List.mem_range] at hk
  simp only [lX,Int.ofNat_eq_natCast,ix_gd (show k < out.length by omega),aJ,Int.toNat_natCast]),aJ]
 unfold RL
 rw [hn,Int.toNat_natCast,List.filter_map]
 congr 2
 refine List.filter_congr fun k _=>?_
 rw [aDF (P:=Rt t k) (b:=!decide (out.getD k (-1) < 0)) (by rw [←h3 k];unfold vis;simp)]
 rfl
end Gv
namespace Gv
open Go
variable {p:cA} {r:dB}
theorem aMY (n:Nat) (h:n≤2000):aCh (n:Int)=some (List.replicate n true):=by
 unfold aCh
 rw [aCT _ (by simp [kT];omega),aJ]
 have:=mX (step:=fun s:List Bool × Int=>pS (n:Int) s.1 s.2) n (fun k (a:List Bool)=>(a,(k:Int))) (fun _ _=>List.replicate n true) (fun k a=>a.length=n∧∀ i,on a i↔i < k) (fun k a hk hI=>?_) (fun a hI=>?_) n 0 (List.replicate n false) (by omega) ⟨by simp,fun i=>by rw [aFS];simp⟩
 ·have this':loop (fun s:List Bool × Int=>pS (n:Int) s.1 s.2) (List.replicate n false,0)=_:=this
  rw [this',aJ];rfl
 ·left
  obtain ⟨h1,h2⟩:=hI
  simp only [pS,cQ hk,if_pos,cZ (show k < a.length by omega),aJ,sT _ (show k < a.length by omega),cK hk (show n < 4611686018427387904 by omega)]
  refine ⟨a.set k true,rfl,⟨by simpa using h1,fun i=>?_⟩,by trivial⟩
  rw [aEV (by omega)]
  split
  ·simp;omega
  ·rw [h2];omega
 ·obtain ⟨h1,h2⟩:=hI
  simp only [pS,cE]
  have:a=List.replicate n true:=on_ext (by simpa using h1) fun i=>by rw [h2,aFS];simp
  rw [this];rfl
theorem aHQ (s:aZ) (h:s.length < 4611686018427387904):uG s=some (jG 40 s).1:=by
 unfold uG
 rw [aIJ s h,aJ]
 have ha:=aBN 40 s
 have hl:=(aKn 40 s).1
 have:uV s 0 ((jG 40 s).1.length:Int)=some (jG 40 s).1:=by
  unfold uV
  rw [if_pos ⟨by omega,by omega,by omega⟩]
  simp only [Int.toNat_natCast,Int.toNat_zero,List.drop_zero,Nat.sub_zero]
  congr 1
  generalize jG 40 s=c at ha ⊢
  rw [ha,List.take_append_of_le_length (Nat.le_refl _),List.take_length]
 rw [this];rfl
theorem lb_ix (hv:dV p.S) {l:Int} (h0:0≤l) (h1:l < p.S.L.length):ix p.S.L l=some (lb p l):=by
 obtain ⟨k,rfl⟩:∃ k:Nat,l=(k:Int):=⟨l.toNat,by omega⟩
 rw [cZ (by omega)]
 unfold lb
 simp [List.getD_eq_getElem?_getD,show k < p.S.L.length by omega]
structure Small (p:cA):Prop where
 labs:∀ s∈p.S.L,s.length < 1000000000
 ctl:p.C.length < 1000000000
theorem iX.small (h:iX 999999999 p):Small p:=⟨fun s hs=>by have:=h.sys.2.1 s hs;omega,by have:=h.len;omega⟩
theorem lb_mem {l:Int} (h0:0≤l) (h1:l < p.S.L.length):lb p l∈p.S.L:=by
 unfold lb
 rw [List.getD_eq_getElem?_getD,List.getElem?_eq_getElem (show l.toNat < p.S.L.length by omega)]
 exact List.getElem_mem _
theorem aMZ (hs:Small p) (hv:dV p.S) (F:List (List Int)) (E:List Edge) (b:Bool) {l:Int} (h0:0≤l) (h1:l < p.S.L.length):iJ p r F E b l=some (ctl p (lb p l)):=by
 unfold iJ
 rw [lb_ix hv h0 h1,aJ,aHQ _ (by have:=hs.labs _ (lb_mem h0 h1);omega),aJ,aCt _ _ (by have:=hs.ctl;omega),aJ,aKY]
 rfl
theorem aOb (hp:dP p.S) (hr:dP r) (E:List Edge) (b:Bool) {F:List (Int × Int)} {i:Nat} {q:Int × Int} (hi:F[i]?=some q):lM p r (F.map R2) E b (i:Int)=some ((blk p r q).map (·.B)):=by
 have hrow:ix (F.map R2) (i:Int)=some (R2 q):=by rw [lQ,List.getElem?_map,hi];rfl
 have hol:=sW hp.1 q
 unfold lM
 rw [hrow,aJ,show ix (R2 q) 0=some q.1 from rfl,aJ,aKq _ _ (by have:=hp.1.2.2.2.1;omega),aJ]
 rw [show (p.S.E.filter fun e=>e.F == q.1)=dF p q from rfl]
 have:=mA (step:=fun s:List Int × Int=>fR p r (R2 q) (dF p q) s.1 s.2) (dF p q) (fun k (a:List Int)=>(a,(k:Int)))
  (fun l a=>a++(l.filter fun e=>(alo r q.2 (txt p.S e)).isNone).map (·.B)) (fun k a=>a.length≤k) (fun k out x l hk' hx hI=>?_) (fun out hI=>by simp only [fR,cE];simp) (a:=[]) (by simp)
 ·have this':loop (fun s:List Int × Int=>fR p r (R2 q) (dF p q) s.1 s.2) (([]:List Int),0)=_:=this
  rw [this',aJ];rfl
 ·left
  have hI':out.length≤k:=hI
  obtain ⟨hk2,rfl⟩:=aAb hx
  have he:=pH _ (List.getElem_mem hk2)
  have hw:=cK hk' (show (dF p q).length < 4611686018427387904 by omega)
  obtain ⟨z,hz,_⟩:=aMG hr q.2 (txt p.S (dF p q)[k])
  simp only [fR,cQ hk',if_pos,show ix (R2 q) 1=some q.2 from rfl,hx,aJ,aAe (lG hp.1 he),hz]
  rw [List.filter_cons]
  cases alo r q.2 (txt p.S (dF p q)[k]) with
  |none=>
   simp only [Option.isSome_none,Option.isNone_none,Bool.not_false,if_pos]
   rw [hJ (show out.length+([(dF p q)[k].B]:List Int).length≤kT by simp [kT];omega),aJ]
   simp only [iI,hw]
   exact ⟨_,rfl,by simp;omega,by simp⟩
  |some z=>
   simp only [Option.isSome_some,Option.isNone_some,Bool.not_true,Bool.false_eq_true,if_false,iI,hw]
   exact ⟨out,rfl,by omega,rfl⟩
theorem aLz {q:Int × Int}:∀ e∈blk p r q,e∈p.S.E:=fun e he=>pH e (List.mem_filter.1 he).1
theorem blk_len (hv:dV p.S) (q:Int × Int):(blk p r q).length≤300:=Nat.le_trans (List.length_filter_le _ _) (sW hv q)
theorem aOc (hs:Small p) (hp:dP p.S) (hr:dP r) (E:List Edge) (b:Bool) {F:List (Int × Int)} {i:Nat} {q:Int × Int} (hi:F[i]?=some q):∃ z,nH p r (F.map R2) E b (i:Int)=some z∧(z < 0↔fltB p r q=false):=by
 have hbl:=blk_len (r:=r) hp.1 q
 have hlab:∀ e∈blk p r q,0≤e.B∧e.B < p.S.L.length:=fun e he=>by
  have:=(lG hp.1 (aLz e he)).2.2;omega
 unfold nH
 rw [aOb hp hr E b hi,aJ]
 have:=mA (step:=fun s:Int=>gP p r (F.map R2) E b ((blk p r q).map (·.B)) s) ((blk p r q).map (·.B)) (fun k (_:Unit)=>(k:Int)) (fun l _=>(match l.find? (fun x=>!ctl p (lb p x)) with|none=>.inl ()|some x=>.inr x:Unit ⊕ Int)) (fun _ _=>True) (fun k a x l hk hx _=>?_) (fun a _=>by simp only [gP,cE];rfl) (a:=()) trivial
 ·have this':loop (fun s:Int=>gP p r (F.map R2) E b ((blk p r q).map (·.B)) s) 0=_:=this
  rw [this',aJ]
  have hany:fltB p r q=((blk p r q).map (·.B)).any fun x=>!ctl p (lb p x):=by
   unfold fltB;rw [List.any_map];rfl
  cases hf:((blk p r q).map (·.B)).find? (fun x=>!ctl p (lb p x)) with
  |none=>
   refine ⟨-1,rfl,?_⟩
   rw [hany,List.any_eq_false]
   exact ⟨fun _ x hx=>by have:=List.find?_eq_none.1 hf x hx;simpa using this,fun _=>by omega⟩
  |some x=>
   refine ⟨x,rfl,?_⟩
   have hm:=List.mem_of_find?_eq_some hf
   have hx:=List.find?_some hf
   obtain ⟨e,he,rfl⟩:=List.mem_map.1 hm
   have:=hlab e he
   rw [hany,List.any_eq_false]
   exact ⟨fun h=>by omega,fun h=>absurd hx (h _ hm)⟩
 ·obtain ⟨hk2,rfl⟩:=aAb hx
  have hl:=hlab _ (List.getElem_mem (show k < (blk p r q).length by simpa using hk2))
  have hw:=cK hk (show ((blk p r q).map (·.B)).length < 4611686018427387904 by simp;omega)
  simp only [gP,cQ hk,if_pos,hx,aJ,hw]
  have hl':0≤((blk p r q).map (·.B))[k]∧((blk p r q).map (·.B))[k] < p.S.L.length:=by simpa using hl
  rw [aMZ hs hp.1 _ _ _ hl'.1 hl'.2,aJ,List.find?_cons]
  cases ctl p (lb p ((blk p r q).map (·.B))[k]) with
  |true=>left;exact ⟨(),by simp,trivial,by simp⟩
  |false=>right;simp
theorem aNa (a b:List Bool) (h:a.length=b.length) (hl:a.length < 4611686018427387904):aCi a b=some (decide (a=b)):=by
 unfold aCi
 refine Eq.trans ?_ (aDD h (step:=fun s=>tH a b s) ?_ ?_)
 ·rfl
 ·intro k x y hk hx hy
  simp only [tH,cQ hk,if_pos,hx,hy,aJ,cK hk hl]
  by_cases e:x=y<;>simp [e]
 ·simp only [tH,cE];rfl
abbrev FQ (p:cA) (r:dB):List (Int × Int):=(eG p r).1
theorem gM_iff {i:Nat} {q:Int × Int} (hi:(FQ p r)[i]?=some q):gM p r i↔mkB p q=true:=
 ⟨fun ⟨q',h1,h2⟩=>by rw [show (eG p r).1[i]?=some q from hi] at h1;cases h1;exact h2,fun h=>⟨q,hi,h⟩⟩
theorem gF_iff {i:Nat} {q:Int × Int} (hi:(FQ p r)[i]?=some q):gF p r i↔fltB p r q=true:=
 ⟨fun ⟨q',h1,h2⟩=>by rw [show (eG p r).1[i]?=some q from hi] at h1;cases h1;exact h2,fun h=>⟨q,hi,h⟩⟩
theorem fin_nums (hp:dP p.S) (hr:dP r):∀ e∈(eG p r).2,∃ a b:Nat,e.F=(a:Int)∧e.To=(b:Int)∧a < (FQ p r).length∧b < (FQ p r).length∧0≤e.B∧e.B < p.S.L.length:=fun e he=>by
 obtain ⟨q,x,i,j,h1,h2,h3,rfl⟩:=aGA hp hr e he
 exact ⟨i,j,rfl,rfl,(List.getElem?_eq_some_iff.1 h1).1,(List.getElem?_eq_some_iff.1 h3).1,(aDJ hp.1 h2).1,(aDJ hp.1 h2).2⟩
theorem bgd {m:List Bool} {k:Nat} (h:k < m.length):ix m (k:Int)=some (m.getD k false):=by
 rw [cZ h];simp [List.getD_eq_getElem?_getD,h]
theorem aOf (hm:p.M.length < 1000000000) (alive:List Bool) (hl:alive.length=(FQ p r).length) (hn:(FQ p r).length≤1600):∃ g,loop (fun s:List Bool × Int=>lS p ((FQ p r).map R2) alive s.1 s.2) (List.replicate (FQ p r).length false,0)=some g∧g.length=(FQ p r).length∧∀ i,on g i↔on alive i∧gM p r i:=by
 have:=sV (step:=fun s:List Bool × Int=>lS p ((FQ p r).map R2) alive s.1 s.2) (FQ p r).length (fun k (a:List Bool)=>(a,(k:Int))) (fun k a=>a.length=(FQ p r).length∧∀ i,on a i↔i < k∧on alive i∧gM p r i) (fun g=>g.length=(FQ p r).length∧∀ i,on g i↔on alive i∧gM p r i) (fun k a hk hI=>?_) (fun a hI=>?_) (FQ p r).length 0 (List.replicate (FQ p r).length false) (by omega) ⟨by simp,fun i=>by rw [aFS];simp⟩
 ·exact this
 ·obtain ⟨h1,h2⟩:=hI
  have hq:(FQ p r)[k]?=some (FQ p r)[k]:=List.getElem?_eq_getElem hk
  have hrow:ix ((FQ p r).map R2) (k:Int)=some (R2 (FQ p r)[k]):=by rw [lQ,List.getElem?_map,hq];rfl
  have hw:=cK hk (show (FQ p r).length < 4611686018427387904 by omega)
  simp only [lS,hl,cQ hk,if_pos,bgd (show k < alive.length by omega),aJ,hrow,show ix (R2 (FQ p r)[k]) 0=some (FQ p r)[k].1 from rfl,l00Has_eq _ _ hm,cZ (show k < a.length by omega),sT _ (show k < a.length by omega),qV,hw]
  have key:∀ b:Bool,(b=true↔on alive k∧gM p r k)→∀ i,on (a.set k b) i↔i < k+1∧on alive i∧gM p r i:=fun b hb i=>by
   rw [aEV (by omega)]
   split
   ·rename_i e;subst e;rw [hb]
    exact ⟨fun h=>⟨by omega,h⟩,fun h=>h.2⟩
   ·rw [h2]
    exact ⟨fun h=>⟨by omega,h.2⟩,fun h=>⟨by omega,h.2⟩⟩
  cases ha:alive.getD k false with
  |true=>
   simp only [if_pos]
   exact ⟨_,rfl,by simpa using h1,key _ (by rw [gM_iff hq,←nU,ha];simp [mkB])⟩
  |false=>
   simp only [Bool.false_eq_true,if_false]
   exact ⟨_,rfl,by simpa using h1,key _ (by rw [←nU,ha];simp)⟩
 ·obtain ⟨h1,h2⟩:=hI
  exact ⟨a,by simp only [lS,hl,cE];rfl,h1,fun i=>by rw [h2];exact ⟨fun h=>h.2,fun h=>⟨by have:=aJu h.1;omega,h⟩⟩⟩
theorem trim_sat {ed:List Edge} {n:Nat} (hnum:∀ e∈ed,∃ a b:Nat,e.F=(a:Int)∧e.To=(b:Int)∧a < n∧b < n∧0≤e.B∧e.B < p.S.L.length) (hed:ed.length < 1000000) {alive g:List Bool} (hl:alive.length=n) (hg:g.length=n) (P:Nat→Prop) (h0:∀ i,on g i→P i) (hP:∀ e∈ed,on alive e.F.toNat→on alive e.To.toNat→P e.To.toNat→P e.F.toNat):
  ∃ m,loop (fun s:List Bool × Bool=>qT ed alive s.1 s.2) (g,true)=some m∧aHP n P g m∧∀ e∈ed,on alive e.F.toNat→on alive e.To.toNat→on m e.To.toNat→on m e.F.toNat:=by
 obtain ⟨m,h1,h2,h3⟩:=aKx (ed:=ed) (n:=n) (fun e=>alive.getD e.F.toNat false&&alive.getD e.To.toNat false) (fun e=>e.To.toNat) (fun e=>e.F.toNat) (inner:=fun s:List Bool × Bool × Int=>oB ed alive s.1 s.2.1 s.2.2) (outer:=fun s:List Bool × Bool=>qT ed alive s.1 s.2)
  (fun k hk m ag hml=>by
   obtain ⟨a,c,ea,ec,ha,hc,_⟩:=hnum _ (List.getElem_mem hk)
   have hw:=cK hk (show ed.length < 4611686018427387904 by omega)
   have hx:=cZ hk
   generalize ed[k]=e at hx ea ec ⊢
   obtain ⟨eF,eL,eT⟩:=e
   simp only at ea ec
   subst ea ec
   simp only [oB,cQ hk,if_pos,hx,aJ,bgd (show a < alive.length by omega),bgd (show c < alive.length by omega),bgd (show a < m.length by omega),bgd (show c < m.length by omega),Int.toNat_natCast,lR,sI,sT true (show a < m.length by omega),hw]
   cases alive.getD a false<;>cases alive.getD c false<;>cases m.getD c false<;>cases m.getD a false<;>simp)
  (fun m ag=>by simp only [oB,cE];rfl) (fun m _=>rfl) (fun m=>rfl) (fun e he=>by obtain ⟨a,c,ea,ec,ha,hc,_⟩:=hnum e he;simp only [ea,Int.toNat_natCast];exact ha) P (m0:=g) hg h0 (fun e he hce h=>by
   simp only [Bool.and_eq_true,nU] at hce
   exact hP e he hce.1 hce.2 h)
 exact ⟨m,h1,h2,fun e he a b c=>h3 e he (by simp only [Bool.and_eq_true,nU];exact ⟨a,b⟩) c⟩
theorem aJx {k:Nat} {Q:Nat→Prop}:(∀ k',k' < k+1→Q k')↔(∀ k',k' < k→Q k')∧Q k:=by
 refine ⟨fun h=>⟨fun k' hk=>h k' (by omega),h k (by omega)⟩,fun h k' hk=>?_⟩
 by_cases e:k' < k
 ·exact h.1 k' e
 ·rw [show k'=k by omega];exact h.2
theorem trim_next {ed:List Edge} {n:Nat} {F:List (List Int)} {b:Bool} (hs:Small p) (hv:dV p.S) (hnum:∀ e∈ed,∃ a b:Nat,e.F=(a:Int)∧e.To=(b:Int)∧a < n∧b < n∧0≤e.B∧e.B < p.S.L.length) (hed:ed.length < 1000000) {m:List Bool} (hml:m.length=n):
  ∃ next,loop (fun s:List Bool × Int=>nC p r F ed b m s.1 s.2) (m,0)=some next∧next.length=n∧∀ i,on next i↔on m i∧∀ e∈ed,e.F=(i:Int)→ctl p (lb p e.B)=false→on m e.To.toNat:=by
 have key0:=sV (step:=fun s:List Bool × Int=>nC p r F ed b m s.1 s.2) ed.length (fun k (a:List Bool)=>(a,(k:Int))) (fun k a=>a.length=n∧∀ i,on a i↔on m i∧∀ k',k' < k→∀ h:k' < ed.length,ed[k'].F=(i:Int)→ctl p (lb p ed[k'].B)=false→on m ed[k'].To.toNat)
  (fun g=>g.length=n∧∀ i,on g i↔on m i∧∀ e∈ed,e.F=(i:Int)→ctl p (lb p e.B)=false→on m e.To.toNat) (fun k a hk hI=>?_) (fun a hI=>?_) ed.length 0 m (by omega) ⟨hml,fun i=>⟨fun h=>⟨h,fun k' h=>by omega⟩,fun h=>h.1⟩⟩
 ·exact key0
 ·obtain ⟨g1,g2⟩:=hI
  obtain ⟨c1,c2,ea,ec,ha,hc',l0,l1⟩:=hnum _ (List.getElem_mem hk)
  have hw:=cK hk (show ed.length < 4611686018427387904 by omega)
  have step:∀ (a':List Bool),(∀ i,on a' i↔on a i∧(ed[k].F=(i:Int)→ctl p (lb p ed[k].B)=false→on m ed[k].To.toNat))→∀ i,on a' i↔on m i∧∀ k',k' < k+1→∀ h:k' < ed.length,ed[k'].F=(i:Int)→ctl p (lb p ed[k'].B)=false→on m ed[k'].To.toNat:=fun a' h i=>by
   rw [h,g2,and_assoc]
   exact and_congr_right fun _=>⟨fun x=>aJx.2 ⟨x.1,fun _=>x.2⟩,fun x=>⟨(aJx.1 x).1,(aJx.1 x).2 hk⟩⟩
  have hx:=cZ hk
  generalize ed[k]=e at hx ea ec l0 l1 step ⊢
  obtain ⟨eF,eL,eT⟩:=e
  simp only at ea ec l0 l1
  subst ea ec
  simp only [nC,cQ hk,if_pos,hx,aJ,bgd (show c2 < m.length by omega)]
  cases hg:m.getD c2 false with
  |true=>
   simp only [Bool.not_true,Bool.false_eq_true,if_false,nB,nA,hw]
   exact ⟨a,rfl,g1,step a fun i=>⟨fun h=>⟨h,fun _ _=>by simp only [Int.toNat_natCast];exact nU.1 hg⟩,fun h=>h.1⟩⟩
  |false=>
   simp only [Bool.not_false,if_pos]
   rw [aMZ hs hv _ _ _ l0 l1,aJ]
   have hoff:¬ on m c2:=fun h=>by rw [nU.2 h] at hg;cases hg
   cases hcl:ctl p (lb p eL) with
   |true=>
    simp only [Bool.not_true,nB,Bool.false_eq_true,if_false,nA,hw]
    exact ⟨a,rfl,g1,step a fun i=>⟨fun h=>⟨h,fun _ h'=>by simp only [hcl] at h';cases h'⟩,fun h=>h.1⟩⟩
   |false=>
    simp only [Bool.not_false,nB,if_pos,cZ (show c1 < a.length by omega),aJ,sT false (show c1 < a.length by omega),nA,hw]
    refine ⟨a.set c1 false,rfl,by simpa using g1,step _ fun i=>?_⟩
    rw [aEV (by omega)]
    simp only [Int.toNat_natCast]
    split
    ·rename_i e;subst e
     exact ⟨fun h=>by (cases h),fun h=>absurd (h.2 rfl hcl) hoff⟩
    ·rename_i e
     exact ⟨fun h=>⟨h,fun h'=>absurd (by omega) e⟩,fun h=>h.1⟩
 ·obtain ⟨g1,g2⟩:=hI
  refine ⟨a,by simp only [nC,cE];rfl,g1,fun i=>?_⟩
  rw [g2]
  refine and_congr_right fun _=>⟨fun h e he=>?_,fun h k' _ hk'=>h _ (List.getElem_mem hk')⟩
  obtain ⟨k',hk',rfl⟩:=List.mem_iff_getElem.1 he
  exact h k' hk' hk'
theorem trim_step (hs:Small p) (hm:p.M.length < 1000000000) (hp:dP p.S) (hr:dP r) (b:Bool) (alive:List Bool) (hl:alive.length=(FQ p r).length):
  ∃ next,next.length=(FQ p r).length∧(∀ i,on next i↔Co (gE p r) (gM p r) (on alive) i∧∀ j,gU p r i j→Co (gE p r) (gM p r) (on alive) j)∧oC p r ((FQ p r).map R2) (eG p r).2 b alive=some (if next=alive then .inr alive else .inl next):=by
 have hn:(FQ p r).length≤1600:=xZ hp.1 hr.1
 have hed:=aMS hp hr
 have hnum:=fin_nums hp hr
 unfold oC
 rw [hl,aCT _ (by simp [kT];omega),aJ]
 obtain ⟨g,e1,e2,e3⟩:=aOf hm alive hl hn
 rw [e1,aJ]
 unfold qU
 obtain ⟨m,hm',hS,hc⟩:=trim_sat hnum hed hl e2 (Co (gE p r) (gM p r) (on alive)) (fun j hj=>.base ((e3 j).1 hj).1 ((e3 j).1 hj).2) (fun e he h1 h2 h=>by
  obtain ⟨a,c,ea,ec,ha,hc,_⟩:=hnum e he
  exact .step h1 ⟨e,he,by rw [ea,Int.toNat_natCast],by rw [ec,Int.toNat_natCast]⟩ h)
 rw [hm',aJ]
 have key:∀ j,on m j↔Co (gE p r) (gM p r) (on alive) j:=fun j=>⟨hS.ok j,Co.sat (fun i h1 h2=>hS.has i ((e3 i).2 ⟨h1,h2⟩)) (fun i j h1 ⟨e,he,f1,f2⟩ h2 h3=>by
  have:=hc e he (by rw [f1,Int.toNat_natCast];exact h1) (by rw [f2,Int.toNat_natCast];exact h2) (by rw [f2,Int.toNat_natCast];exact h3)
  rwa [f1,Int.toNat_natCast] at this)⟩
 unfold sH
 have hml:=hS.len
 rw [hJ (by simp [kT];omega),aJ,List.nil_append]
 obtain ⟨next,h1,h2,h3⟩:=trim_next (r:=r) (F:=(FQ p r).map R2) (b:=b) hs hp.1 hnum hed hml
 rw [h1,aJ]
 unfold sG
 rw [aNa _ _ (by omega) (by omega),aJ]
 refine ⟨next,h2,fun i=>?_,?_⟩
 ·rw [h3,key]
  refine and_congr_right fun _=>⟨fun h j ⟨e,he,f1,f2,f3⟩=>?_,fun h e he f1 f3=>?_⟩
  ·have:=h e he f1 f3
   rw [f2,Int.toNat_natCast] at this
   exact (key j).1 this
  ·obtain ⟨a,c,ea,ec,ha,hc,_⟩:=hnum e he
   rw [key]
   exact h _ ⟨e,he,f1,by rw [ec,Int.toNat_natCast],f3⟩
 ·by_cases e:next=alive
  ·rw [if_pos (by simpa using e),if_pos e]
  ·rw [if_neg (by simpa using e),if_neg e];rfl
theorem s_trim_eq (hs:Small p) (hm:p.M.length < 1000000000) (hp:dP p.S) (hr:dP r) (b:Bool):∃ a,zJ p r ((FQ p r).map R2) (eG p r).2 b=some a∧a.length=(FQ p r).length∧Stb (gE p r) (gU p r) (gM p r) (gF p r) (on a)∧∀ S,(∀ i,S i→i < (FQ p r).length)→Stb (gE p r) (gU p r) (gM p r) (gF p r) S→∀ i,S i→on a i:=by
 have hn:(FQ p r).length≤1600:=xZ hp.1 hr.1
 unfold zJ
 rw [List.length_map,aMY _ (by omega),aJ]
 have key0:=sV (step:=fun s:List Bool × Int=>lT p r ((FQ p r).map R2) (eG p r).2 b s.1 s.2) (FQ p r).length (fun k (a:List Bool)=>(a,(k:Int))) (fun k a=>a.length=(FQ p r).length∧∀ i,on a i↔i < (FQ p r).length∧(i < k→¬ gF p r i)) (fun a=>a.length=(FQ p r).length∧∀ i,on a i↔i < (FQ p r).length∧¬ gF p r i) (fun k a hk hI=>?_) (fun a hI=>?_) (FQ p r).length 0 (List.replicate (FQ p r).length true) (by omega) ⟨by simp,fun i=>by rw [aFS];simp⟩
 ·obtain ⟨a0,h1,h2,h3⟩:=key0
  have h1':loop (fun s:List Bool × Int=>lT p r ((FQ p r).map R2) (eG p r).2 b s.1 s.2) (List.replicate (FQ p r).length true,0)=_:=h1
  rw [h1',aJ]
  unfold qW
  obtain ⟨a,e,f1,f2,f3⟩:=trim_a (step:=fun s:List Bool=>oC p r ((FQ p r).map R2) (eG p r).2 b s) (fun a ha=>trim_step hs hm hp hr b a ha) h2 h3
  exact ⟨a,by rw [e];rfl,f1,f2,f3⟩
 ·obtain ⟨g1,g2⟩:=hI
  have hq:(FQ p r)[k]?=some (FQ p r)[k]:=List.getElem?_eq_getElem hk
  obtain ⟨z,hz,hzn⟩:=aOc hs hp hr (eG p r).2 b hq
  have hw:=cK hk (show (FQ p r).length < 4611686018427387904 by omega)
  simp only [lT,g1,cQ hk,if_pos,hz,aJ,cZ (show k < a.length by omega),sT _ (show k < a.length by omega),hw]
  refine ⟨_,rfl,by simpa using g1,fun i=>?_⟩
  rw [aEV (by omega)]
  split
  ·rename_i e;subst e
   rw [decide_eq_true_iff,hzn,gF_iff hq]
   simp [hk]
  ·rename_i e
   rw [g2]
   exact and_congr_right fun _=>⟨fun h h'=>h (by omega),fun h h'=>h (by omega)⟩
 ·obtain ⟨g1,g2⟩:=hI
  exact ⟨a,by simp only [lT,g1,cE];rfl,g1,fun i=>by rw [g2];exact and_congr_right fun h=>⟨fun h'=>h' h,fun h' _=>h'⟩⟩
end Gv
namespace Gv
open Go
variable {p:cA} {r:dB}
theorem aJy {s nm:aZ} {vs:List Int} (h:s.length < 1000000000) (e:tW s=some (nm,vs,true)):nm=(jG 40 s).1:=by
 have j2:∀ r1 v,mP s r1 v=some (nm,vs,true)→nm=r1.1:=fun r1 v e=>by
  have j1:∀ b,mO r1 v b=some (nm,vs,true)→nm=r1.1:=fun b e=>by
   unfold mO at e
   cases b with
   |true=>simp at e
   |false=>simp at e;exact e.1.symm
  unfold mP at e
  obtain ⟨x,_,e⟩:=aI e
  split at e<;>exact j1 _ e
 unfold tW l_Cut at e
 rw [if_pos (by omega),aJ,cut_eq] at e
 simp only at e
 split at e
 ·obtain ⟨x,_,e⟩:=aI e
  obtain ⟨y,_,e⟩:=aI e
  obtain ⟨z,_,e⟩:=aI e
  split at e
  ·simp at e
  ·exact j2 _ _ e
 ·exact j2 _ _ e
theorem aLA {s:aZ} (h:s.length < 1000000000) (hl:aCs s=true):aAW s=some (jG 40 s).1:=by
 have e:=aIR s h
 unfold aBG at e
 obtain ⟨x,hx,e⟩:=aI e
 obtain ⟨nm,vs,b⟩:=x
 rw [hl] at e
 simp at e
 subst e
 unfold aAW
 rw [hx,aJ,aJy h hx]
theorem lab_is {xs:List aZ} (h:sD xs):∀ s∈xs,aCs s=true:=fun s hs=>by
 obtain ⟨k,hk,rfl⟩:=List.getElem_of_mem hs
 by_cases h1:1≤k
 ·exact (h.2.2.2 k h1 hk).1
 ·obtain rfl:k=0:=by omega
  rw [h.2.2.1 hk];exact aKp
theorem aNb (hs:Small p) (hv:dV p.S) {s:aZ} (h:s∈p.S.L):lZ p s=some (ctl p s):=by
 unfold lZ
 rw [aLA (hs.labs s h) (lab_is hv.2.2.1 s h),aJ,aGw _ _ (by have:=hs.ctl;omega),aJ];rfl
theorem aLB (hv:dV p.S) {e:Edge} (he:e∈p.S.E):txt p.S e∈p.S.L:=by
 have:=(lG hv he).2.2
 exact lb_mem (p:=p) this.1 (by omega)
theorem aLC (hp:dP p.S) (hr:dP r) (F:List (List Int)) (M:List ((Int × Int) × Int)) (P:List (List aZ)) (q:Int × Int):kN p.S.N p.S.I p.S.L p.S.E p.M p.C r.N r.I r.L r.E F M P (R2 q)=some ((blk p r q).map (txt p.S)):=by
 have hol:=sW hp.1 q
 unfold kN
 rw [show ix (R2 q) 0=some q.1 from rfl,aJ,aIU _ _ (by have:=hp.1.2.2.2.1;exact Nat.lt_of_le_of_lt this (by decide)),aJ]
 rw [show ((⟨p.S.N,p.S.I,p.S.L,p.S.E⟩:dB).E.filter fun e=>e.F == q.1)=dF p q from rfl]
 have:=mA (step:=fun s:List aZ × Int=>fF p.S.L r.N r.I r.L r.E (R2 q) (dF p q) s.1 s.2) (dF p q) (fun k (a:List aZ)=>(a,(k:Int)))
  (fun l a=>a++(l.filter fun e=>(alo r q.2 (txt p.S e)).isNone).map (txt p.S)) (fun k a=>a.length≤k) (fun k out x l hk' hx hI=>?_) (fun out hI=>by simp only [fF,cE];simp) (a:=[]) (by simp)
 ·have this':loop (fun s:List aZ × Int=>fF p.S.L r.N r.I r.L r.E (R2 q) (dF p q) s.1 s.2) ([],0)=_:=this
  rw [this',aJ];rfl
 ·left
  have hI':out.length≤k:=hI
  obtain ⟨hk2,rfl⟩:=aAb hx
  have he:=pH _ (List.getElem_mem hk2)
  have hw:=cK hk' (show (dF p q).length < 4611686018427387904 by omega)
  obtain ⟨z,hz,_⟩:=aEU hr q.2 (txt p.S (dF p q)[k])
  have hz':lI ⟨r.N,r.I,r.L,r.E⟩ q.2 (txt p.S (dF p q)[k])=_:=hz
  simp only [fF,cQ hk',if_pos,show ix (R2 q) 1=some q.2 from rfl,hx,aJ,aAe (lG hp.1 he),hz']
  rw [List.filter_cons]
  cases alo r q.2 (txt p.S (dF p q)[k]) with
  |none=>
   simp only [Option.isSome_none,Option.isNone_none,Bool.not_false,if_pos]
   rw [hJ (show out.length+([txt p.S (dF p q)[k]]:List aZ).length≤kT by simp [kT];omega),aJ]
   simp only [gK,hw]
   exact ⟨_,rfl,by simp;omega,by simp⟩
  |some z=>
   simp only [Option.isSome_some,Option.isNone_some,Bool.not_true,Bool.false_eq_true,if_false,gK,hw]
   exact ⟨out,rfl,by omega,rfl⟩
theorem aOg (hs:Small p) (hp:dP p.S) (hr:dP r) (F:List (List Int)) (M:List ((Int × Int) × Int)) (P:List (List aZ)) (q:Int × Int):∃ z,nK p.S.N p.S.I p.S.L p.S.E p.M p.C r.N r.I r.L r.E F M P (R2 q)=some z∧(z=[]↔fltB p r q=false):=by
 have hbl:=blk_len (r:=r) hp.1 q
 unfold nK
 rw [aLC hp hr,aJ]
 have:=mA (step:=fun s:Int=>gZ p.S.N p.S.I p.S.L p.S.E p.M p.C ((blk p r q).map (txt p.S)) s) ((blk p r q).map (txt p.S)) (fun k (_:Unit)=>(k:Int)) (fun l _=>(match l.find? (fun x=>!ctl p x) with|none=>.inl ()|some x=>.inr x:Unit ⊕ aZ)) (fun _ _=>True) (fun k a x l hk hx _=>?_) (fun a _=>by simp only [gZ,cE];rfl) (a:=()) trivial
 ·have this':loop (fun s:Int=>gZ p.S.N p.S.I p.S.L p.S.E p.M p.C ((blk p r q).map (txt p.S)) s) 0=_:=this
  rw [this',aJ]
  have hany:fltB p r q=((blk p r q).map (txt p.S)).any fun x=>!ctl p x:=by
   unfold fltB;rw [List.any_map];rfl
  cases hf:((blk p r q).map (txt p.S)).find? (fun x=>!ctl p x) with
  |none=>
   refine ⟨[],rfl,?_⟩
   rw [hany,List.any_eq_false]
   exact ⟨fun _ x hx=>by have:=List.find?_eq_none.1 hf x hx;simpa using this,fun _=>rfl⟩
  |some x=>
   refine ⟨x,rfl,?_⟩
   have hm:=List.mem_of_find?_eq_some hf
   have hx:=List.find?_some hf
   obtain ⟨e,he,rfl⟩:=List.mem_map.1 hm
   rw [hany,List.any_eq_false]
   refine ⟨fun h=>?_,fun h=>absurd hx (h _ hm)⟩
   have:=lab_is hp.1.2.2.1 _ (aLB hp.1 (aLz e he))
   rw [h] at this
   exact absurd this (by decide)
 ·obtain ⟨hk2,rfl⟩:=aAb hx
  have hw:=cK hk (show ((blk p r q).map (txt p.S)).length < 4611686018427387904 by simp;omega)
  have hmem:((blk p r q).map (txt p.S))[k]∈p.S.L:=by
   rw [List.getElem_map]
   exact aLB hp.1 (aLz _ (List.getElem_mem _))
  simp only [gZ,cQ hk,if_pos,hx,aJ,hw]
  rw [show (⟨⟨p.S.N,p.S.I,p.S.L,p.S.E⟩,p.M,p.C⟩:cA)=p from rfl,aNb hs hp.1 hmem,aJ,List.find?_cons]
  cases ctl p ((blk p r q).map (txt p.S))[k] with
  |true=>left;exact ⟨(),by simp,trivial,by simp⟩
  |false=>right;simp
theorem aJz (hp:dP p.S) (hr:dP r) {F:List (Int × Int)} {q:Int × Int} (hc:∀ x∈uT p r q (dF p q),x.2∈F) (f:Int × Int × Int→Bool) {step:Bool × Int→Option ((Bool × Int) ⊕ Bool)}
  (h:∀ (k:Nat) (hk:k < (dF p q).length) (a:Bool),(∀ z,alo r q.2 (txt p.S (dF p q)[k])=some z→step (a,(k:Int))=some (.inl (a||f ((dF p q)[k].B,(dF p q)[k].To,z),((k+1:Nat):Int))))∧(alo r q.2 (txt p.S (dF p q)[k])=none→step (a,(k:Int))=some (.inl (a,((k+1:Nat):Int)))))
  (h':∀ a,step (a,((dF p q).length:Int))=some (.inr a)):loop step (false,0)=some ((uT p r q (dF p q)).any f):=by
 have:=mA (step:=step) (dF p q) (fun k (a:Bool)=>(a,(k:Int))) (fun l a=>a||(uT p r q l).any f) (fun _ _=>True) (fun k a x l hk hx _=>?_) (fun a _=>by rw [h'];simp [uT]) (a:=false) trivial
 ·have this':loop step (false,0)=_:=this
  rw [this'];simp
 ·left
  obtain ⟨hk2,rfl⟩:=aAb hx
  obtain ⟨h1,h2⟩:=h k hk2 a
  unfold uT
  rw [List.filterMap_cons]
  cases ha:alo r q.2 (txt p.S (dF p q)[k]) with
  |none=>exact ⟨a,h2 ha,trivial,rfl⟩
  |some z=>exact ⟨_,h1 z ha,trivial,by simp [Bool.or_assoc]⟩
theorem pos_bgd {F:List (Int × Int)} {m:List Bool} (hl:m.length=F.length) {y:Int × Int} (h:y∈F):ix m (pos F y)=some (m.getD (pos F y).toNat false):=by
 obtain ⟨j,e1,e2⟩:=aBE h
 have:=(List.getElem?_eq_some_iff.1 e2).1
 rw [e1,bgd (by omega),Int.toNat_natCast]
def leadB (p:cA) (r:dB) (F:List (Int × Int)) (q:Int × Int) (out:List Bool):Bool:=(uT p r q (dF p q)).any fun x=>out.getD (pos F x.2).toNat false
def aLD (p:cA) (r:dB) (F:List (Int × Int)) (q:Int × Int) (keep:List Bool):Bool:=(uT p r q (dF p q)).any fun x=>!ctl p (lb p x.1)&&!keep.getD (pos F x.2).toNat false
theorem leads_eq (hp:dP p.S) (hr:dP r) {F:List (Int × Int)} (P:List (List aZ)) {q:Int × Int} (hc:∀ x∈uT p r q (dF p q),x.2∈F) {out:List Bool} (hl:out.length=F.length):qZ p.S.N p.S.I p.S.L p.S.E p.M p.C r.N r.I r.L r.E (F.map R2) (mq 0 F) P (R2 q) out=some (leadB p r F q out):=by
 have hol:=sW hp.1 q
 unfold qZ rX
 rw [show ix (R2 q) 0=some q.1 from rfl,aJ,aIU _ _ (by have:=hp.1.2.2.2.1;exact Nat.lt_of_le_of_lt this (by decide)),aJ]
 rw [show ((⟨p.S.N,p.S.I,p.S.L,p.S.E⟩:dB).E.filter fun e=>e.F == q.1)=dF p q from rfl]
 have:=aJz hp hr hc (fun x=>out.getD (pos F x.2).toNat false) (step:=fun s:Bool × Int=>jN p.S.L r.N r.I r.L r.E (R2 q) out p.S.N p.S.I p.S.L p.S.E p.M p.C r.N r.I r.L r.E (F.map R2) (mq 0 F) P (dF p q) s.1 s.2) (fun k hk a=>?_) (fun a=>by simp only [jN,cE];rfl)
 ·rw [this];rfl
 ·have he:=pH _ (List.getElem_mem hk)
  have hw:=cK hk (show (dF p q).length < 4611686018427387904 by omega)
  obtain ⟨z,hz,hzj⟩:=aEU hr q.2 (txt p.S (dF p q)[k])
  have hz':lI ⟨r.N,r.I,r.L,r.E⟩ q.2 (txt p.S (dF p q)[k])=_:=hz
  simp only [jN,cQ hk,if_pos,cZ hk,show ix (R2 q) 1=some q.2 from rfl,aJ,aAe (lG hp.1 he),hz']
  refine ⟨fun z' ha=>?_,fun ha=>?_⟩
  ·obtain rfl:=hzj z' ha
   have hm:((dF p q)[k].To,z)∈F:=hc ((dF p q)[k].B,(dF p q)[k].To,z) (by unfold uT;rw [List.mem_filterMap];exact ⟨_,List.getElem_mem hk,by rw [ha];rfl⟩)
   rw [ha]
   simp only [Option.isSome_some,if_pos]
   unfold qF lJ
   rw [show ((⟨(dF p q)[k].To,z⟩:Int × Int))=((dF p q)[k].To,z) from rfl,aGy hm,Option.getD_some,pos_bgd hl hm]
   cases a<;>simp [lD,jM,hw]
  ·rw [ha]
   simp [jM,hw]
theorem forced_eq (hs:Small p) (hp:dP p.S) (hr:dP r) {F:List (Int × Int)} (P:List (List aZ)) {q:Int × Int} (hc:∀ x∈uT p r q (dF p q),x.2∈F) {keep:List Bool} (hl:keep.length=F.length):nL p.S.N p.S.I p.S.L p.S.E p.M p.C r.N r.I r.L r.E (F.map R2) (mq 0 F) P (R2 q) p.S.N p.S.I p.S.L p.S.E p.M p.C r.N r.I r.L r.E (F.map R2) (mq 0 F) P keep=some (aLD p r F q keep):=by
 have hol:=sW hp.1 q
 unfold nL rZ
 rw [show ix (R2 q) 0=some q.1 from rfl,aJ,aIU _ _ (by have:=hp.1.2.2.2.1;exact Nat.lt_of_le_of_lt this (by decide)),aJ]
 rw [show ((⟨p.S.N,p.S.I,p.S.L,p.S.E⟩:dB).E.filter fun e=>e.F == q.1)=dF p q from rfl]
 have:=aJz hp hr hc (fun x=>!ctl p (lb p x.1)&&!keep.getD (pos F x.2).toNat false) (step:=fun s:Bool × Int=>jP p.S.L r.N r.I r.L r.E (R2 q) p.S.N p.S.I p.S.L p.S.E p.M p.C r.N r.I r.L r.E (F.map R2) (mq 0 F) P keep p.S.N p.S.I p.S.L p.S.E p.M p.C r.N r.I r.L r.E (F.map R2) (mq 0 F) P (dF p q) s.1 s.2) (fun k hk a=>?_) (fun a=>by simp only [jP,cE];rfl)
 ·rw [this];rfl
 ·have he:=pH _ (List.getElem_mem hk)
  have hw:=cK hk (show (dF p q).length < 4611686018427387904 by omega)
  obtain ⟨z,hz,hzj⟩:=aEU hr q.2 (txt p.S (dF p q)[k])
  have hz':lI ⟨r.N,r.I,r.L,r.E⟩ q.2 (txt p.S (dF p q)[k])=_:=hz
  simp only [jP,cQ hk,if_pos,cZ hk,show ix (R2 q) 1=some q.2 from rfl,aJ,aAe (lG hp.1 he),hz']
  refine ⟨fun z' ha=>?_,fun ha=>?_⟩
  ·obtain rfl:=hzj z' ha
   have hm:((dF p q)[k].To,z)∈F:=hc ((dF p q)[k].B,(dF p q)[k].To,z) (by unfold uT;rw [List.mem_filterMap];exact ⟨_,List.getElem_mem hk,by rw [ha];rfl⟩)
   rw [ha]
   simp only [Option.isSome_some,if_pos]
   unfold nS rY
   rw [show ((⟨(dF p q)[k].To,z⟩:Int × Int))=((dF p q)[k].To,z) from rfl,aGy hm,Option.getD_some,pos_bgd hl hm]
   rw [show (⟨⟨p.S.N,p.S.I,p.S.L,p.S.E⟩,p.M,p.C⟩:cA)=p from rfl,aNb hs hp.1 (aLB hp.1 he),aJ,show lb p (dF p q)[k].B=txt p.S (dF p q)[k] from rfl]
   cases a<;>cases ctl p (txt p.S (dF p q)[k])<;>simp [jL,lN,jO,hw]
  ·rw [ha]
   simp [jO,hw]
theorem aKB (hp:dP p.S) (hr:dP r) {i:Nat} {q:Int × Int} (hi:(FQ p r)[i]?=some q) (out:List Bool):leadB p r (FQ p r) q out=true↔∃ j,gE p r i j∧on out j:=by
 unfold leadB
 rw [List.any_eq_true]
 constructor
 ·rintro ⟨x,hx,h⟩
  have hm:=aAp hp.1 hr.1 (List.mem_of_getElem? hi) x hx
  obtain ⟨j,e1,e2⟩:=aBE hm
  rw [show FQ p r=(eG p r).1 from rfl,e1,Int.toNat_natCast,nU] at h
  exact ⟨j,(gE_iff hp hr hi).2 ⟨x,hx,e2⟩,h⟩
 ·rintro ⟨j,he,h⟩
  obtain ⟨x,hx,hj⟩:=(gE_iff hp hr hi).1 he
  refine ⟨x,hx,?_⟩
  rw [aFk (aFC hp.1 hr.1).1 hj,Int.toNat_natCast,nU];exact h
theorem aJA (hp:dP p.S) (hr:dP r) {i:Nat} {q:Int × Int} (hi:(FQ p r)[i]?=some q) (keep:List Bool):aLD p r (FQ p r) q keep=false↔∀ j,gU p r i j→on keep j:=by
 unfold aLD
 rw [List.any_eq_false]
 constructor
 ·intro h j hj
  obtain ⟨x,hx,e2,hc⟩:=(gU_iff hp hr hi).1 hj
  have:=h x hx
  rw [aFk (aFC hp.1 hr.1).1 e2,Int.toNat_natCast,hc] at this
  rw [←nU]
  simpa using this
 ·intro h x hx
  have hm:=aAp hp.1 hr.1 (List.mem_of_getElem? hi) x hx
  obtain ⟨j,e1,e2⟩:=aBE hm
  rw [show FQ p r=(eG p r).1 from rfl,e1,Int.toNat_natCast]
  cases hc:ctl p (lb p x.1) with
  |true=>simp
  |false=>
   have:=h j ((gU_iff hp hr hi).2 ⟨x,hx,e2,hc⟩)
   rw [nU.2 this];simp
theorem aOh (hm:p.M.length < 1000000000) (hp:dP p.S) (hr:dP r) (P:List (List aZ)) (keep:List Bool) (hk:keep.length=(FQ p r).length):∃ g,jK p.S.N p.S.I p.S.L p.S.E p.M p.C r.N r.I r.L r.E ((FQ p r).map R2) (mq 0 (FQ p r)) P keep=some g∧g.length=(FQ p r).length∧∀ i,on g i↔Co (gE p r) (gM p r) (on keep) i:=by
 have hn:(FQ p r).length≤1600:=xZ hp.1 hr.1
 unfold jK
 rw [List.length_map,aCT _ (by simp [kT];omega),aJ]
 obtain ⟨g,h1,h2,h3⟩:=sat_nodes (n:=(FQ p r).length) (fun k m=>keep.getD k false&&(mkB p ((FQ p r).getD k (0,0))||leadB p r (FQ p r) ((FQ p r).getD k (0,0)) m)) (inner:=fun s:List Bool × Bool × Int=>fO p.S.N p.S.I p.S.L p.S.E p.M p.C r.N r.I r.L r.E ((FQ p r).map R2) (mq 0 (FQ p r)) P keep s.1 s.2.1 s.2.2) (outer:=fun s:List Bool × Bool=>jZ p.S.N p.S.I p.S.L p.S.E p.M p.C r.N r.I r.L r.E ((FQ p r).map R2) (mq 0 (FQ p r)) P keep s.1 s.2)
  (fun k hk' m ag hl=>by
   have hq:(FQ p r)[k]?=some (FQ p r)[k]:=List.getElem?_eq_getElem hk'
   have hgd:(FQ p r).getD k (0,0)=(FQ p r)[k]:=by rw [List.getD_eq_getElem?_getD,hq];rfl
   have hrow:ix ((FQ p r).map R2) (k:Int)=some (R2 (FQ p r)[k]):=by rw [lQ,List.getElem?_map,hq];rfl
   have hw:=cK hk' (show (FQ p r).length < 4611686018427387904 by omega)
   have hlead:=leads_eq hp hr P (fun x hx=>aAp hp.1 hr.1 (List.getElem_mem hk') x hx) hl
   rw [hgd]
   simp only [fO,List.length_map,cQ hk',if_pos,hrow,aJ,bgd (show k < keep.length by omega),bgd (show k < m.length by omega),iA,show ix (R2 (FQ p r)[k]) 0=some (FQ p r)[k].1 from rfl,qY,aDV _ _ (show p.M.length < 4611686018427387904 by omega),hlead,hY,fN,sT true (show k < m.length by omega),hw]
   rw [show (p.M.any fun x=>(FQ p r)[k].1 == x)=mkB p (FQ p r)[k] from rfl]
   cases keep.getD k false<;>cases m.getD k false<;>cases mkB p (FQ p r)[k]<;>cases leadB p r (FQ p r) (FQ p r)[k] m<;>simp)
  (fun m ag=>by simp only [fO,List.length_map,cE];rfl) (fun m _=>rfl) (fun m=>rfl) (Co (gE p r) (gM p r) (on keep)) (m0:=List.replicate (FQ p r).length false) (by simp) (fun i hi=>by rw [aFS] at hi;cases hi.2) (fun k m hk' _ hP ht=>by
   have hq:(FQ p r)[k]?=some (FQ p r)[k]:=List.getElem?_eq_getElem hk'
   have hgd:(FQ p r).getD k (0,0)=(FQ p r)[k]:=by rw [List.getD_eq_getElem?_getD,hq];rfl
   simp only [hgd,Bool.and_eq_true,Bool.or_eq_true] at ht
   rw [nU] at ht
   rcases ht.2 with h|h
   ·exact .base ht.1 ((gM_iff hq).2 h)
   ·obtain ⟨j,he,hj⟩:=(aKB hp hr hq m).1 h
    exact .step ht.1 he (hP j hj))
 rw [h1,aJ]
 refine ⟨g,rfl,h2.len,fun i=>⟨h2.ok i,fun h=>?_⟩⟩
 have hq:∀ i,on keep i→(FQ p r)[i]?=some ((FQ p r).getD i (0,0)):=fun i hi=>by
  have:=aJu hi
  rw [List.getD_eq_getElem?_getD,List.getElem?_eq_getElem (show i < (FQ p r).length by omega)];rfl
 induction h with
 |@base i a b=>
  have:=aJu a
  refine h3 i (by omega) ?_
  simp only [Bool.and_eq_true,Bool.or_eq_true]
  exact ⟨nU.2 a,.inl ((gM_iff (hq i a)).1 b)⟩
 |@step i j a b c ih=>
  have:=aJu a
  refine h3 i (by omega) ?_
  simp only [Bool.and_eq_true,Bool.or_eq_true]
  exact ⟨nU.2 a,.inr ((aKB hp hr (hq i a) g).2 ⟨j,b,ih⟩)⟩
theorem aOi (a b:List Bool) (h:a.length=b.length) (hl:a.length < 4611686018427387904):iU a b=some (decide (a=b)):=by
 unfold iU
 rw [if_neg (by simp [h])]
 refine Eq.trans ?_ (aDD h (step:=fun s=>fC a b s) ?_ ?_)
 ·rfl
 ·intro k x y hk hx hy
  simp only [fC,cQ hk,if_pos,hx,hy,aJ,cK hk hl]
  by_cases e:x=y<;>simp [e]
 ·simp only [fC,cE];rfl
theorem kept_step (hs:Small p) (hm:p.M.length < 1000000000) (hp:dP p.S) (hr:dP r) (P:List (List aZ)) (keep:List Bool) (hk:keep.length=(FQ p r).length):∃ next,next.length=(FQ p r).length∧(∀ i,on next i↔on keep i∧Co (gE p r) (gM p r) (on keep) i∧¬ gF p r i∧∀ j,gU p r i j→on keep j)∧
  jR p.S.N p.S.I p.S.L p.S.E p.M p.C r.N r.I r.L r.E ((FQ p r).map R2) (mq 0 (FQ p r)) P keep=some (if next=keep then .inr keep else .inl next):=by
 have hn:(FQ p r).length≤1600:=xZ hp.1 hr.1
 obtain ⟨g,e1,e2,e3⟩:=aOh hm hp hr P keep hk
 unfold jR
 rw [e1,aJ]
 unfold kR
 rw [hJ (by simp [kT];omega),aJ,aJ,List.nil_append]
 have key0:=sV (step:=fun s:List Bool × Int=>iQ p.S.N p.S.I p.S.L p.S.E p.M p.C r.N r.I r.L r.E ((FQ p r).map R2) (mq 0 (FQ p r)) P keep g s.1 s.2) (FQ p r).length (fun k (a:List Bool)=>(a,(k:Int))) (fun k a=>a.length=(FQ p r).length∧∀ i,on a i↔on keep i∧(i < k→on g i∧¬ gF p r i∧∀ j,gU p r i j→on keep j)) (fun a=>a.length=(FQ p r).length∧∀ i,on a i↔on keep i∧(on g i∧¬ gF p r i∧∀ j,gU p r i j→on keep j)) (fun k a hk' hI=>?_) (fun a hI=>?_) (FQ p r).length 0 keep (by omega) ⟨hk,fun i=>by simp⟩
 ·obtain ⟨next,h1,h2,h3⟩:=key0
  have h1':loop (fun s:List Bool × Int=>iQ p.S.N p.S.I p.S.L p.S.E p.M p.C r.N r.I r.L r.E ((FQ p r).map R2) (mq 0 (FQ p r)) P keep g s.1 s.2) (keep,0)=_:=h1
  rw [h1',aJ]
  unfold lO
  rw [aOi _ _ (by omega) (by omega),aJ]
  refine ⟨next,h2,fun i=>?_,?_⟩
  ·rw [h3,e3]
  ·by_cases e:next=keep
   ·rw [if_pos (by simpa using e),if_pos e]
   ·rw [if_neg (by simpa using e),if_neg e];rfl
 ·obtain ⟨g1,g2⟩:=hI
  have hq:(FQ p r)[k]?=some (FQ p r)[k]:=List.getElem?_eq_getElem hk'
  have hrow:ix ((FQ p r).map R2) (k:Int)=some (R2 (FQ p r)[k]):=by rw [lQ,List.getElem?_map,hq];rfl
  have hw:=cK hk' (show (FQ p r).length < 4611686018427387904 by omega)
  obtain ⟨z,hz,hzn⟩:=aOg hs hp hr ((FQ p r).map R2) (mq 0 (FQ p r)) P (FQ p r)[k]
  have hf:=forced_eq hs hp hr P (fun x hx=>aAp hp.1 hr.1 (List.getElem_mem hk') x hx) hk
  simp only [iQ,List.length_map,cQ hk',if_pos,hrow,aJ,bgd (show k < g.length by omega),hz,hf,jQ,lP,cZ (show k < a.length by omega),sT false (show k < a.length by omega),hw]
  have hyes:(on g k∧¬ gF p r k∧∀ j,gU p r k j→on keep j)→∀ i,on a i↔on keep i∧(i < k+1→on g i∧¬ gF p r i∧∀ j,gU p r i j→on keep j):=fun h i=>by
   rw [g2]
   refine and_congr_right fun _=>⟨fun h' hi=>?_,fun h' hi=>h' (by omega)⟩
   by_cases hik:i < k
   ·exact h' hik
   ·obtain rfl:i=k:=by omega
    exact h
  have hno:¬ (on g k∧¬ gF p r k∧∀ j,gU p r k j→on keep j)→∀ i,on (a.set k false) i↔on keep i∧(i < k+1→on g i∧¬ gF p r i∧∀ j,gU p r i j→on keep j):=fun h i=>by
   rw [aEV (by omega)]
   split
   ·rename_i e;subst e
    exact ⟨fun h=>by (cases h),fun h'=>absurd (h'.2 (by omega)) h⟩
   ·rename_i e
    rw [g2]
    exact and_congr_right fun _=>⟨fun h' hi=>h' (by omega),fun h' hi=>h' (by omega)⟩
  have hl:(a.set k false).length=(FQ p r).length:=by simpa using g1
  cases hg:g.getD k false with
  |false=>
   simp only [Bool.not_false,if_pos]
   exact ⟨_,rfl,hl,hno fun h=>by rw [nU.2 h.1] at hg;cases hg⟩
  |true=>
   simp only [Bool.not_true,Bool.false_eq_true,if_false]
   have hon:=nU.1 hg
   by_cases hz0:z=[]
   ·have hnf:¬ gF p r k:=by rw [gF_iff hq,hzn.1 hz0];simp
    subst hz0
    rw [if_neg (by simp)]
    cases hb:aLD p r (FQ p r) (FQ p r)[k] keep with
    |false=>
     simp only [Bool.false_eq_true,if_false]
     exact ⟨_,rfl,g1,hyes ⟨hon,hnf,(aJA hp hr hq keep).1 hb⟩⟩
    |true=>
     simp only [if_pos]
     exact ⟨_,rfl,hl,hno fun h=>by rw [(aJA hp hr hq keep).2 h.2.2] at hb;cases hb⟩
   ·have hfl:gF p r k:=by
     rw [gF_iff hq]
     cases h:fltB p r (FQ p r)[k] with
     |true=>rfl
     |false=>exact absurd (hzn.2 h) hz0
    rw [if_pos (by simpa using hz0)]
    exact ⟨_,rfl,hl,hno fun h=>h.2.1 hfl⟩
 ·obtain ⟨g1,g2⟩:=hI
  exact ⟨a,by simp only [iQ,List.length_map,cE];rfl,g1,fun i=>by rw [g2];exact and_congr_right fun h=>⟨fun h'=>h' (by have:=aJu h;omega),fun h' _=>h'⟩⟩
theorem i_kept_eq (hs:Small p) (hm:p.M.length < 1000000000) (hp:dP p.S) (hr:dP r) (P:List (List aZ)):∃ a,oK p.S.N p.S.I p.S.L p.S.E p.M p.C r.N r.I r.L r.E ((FQ p r).map R2) (mq 0 (FQ p r)) P=some a∧a.length=(FQ p r).length∧Stb (gE p r) (gU p r) (gM p r) (gF p r) (on a)∧∀ S,(∀ i,S i→i < (FQ p r).length)→Stb (gE p r) (gU p r) (gM p r) (gF p r) S→∀ i,S i→on a i:=by
 have hn:(FQ p r).length≤1600:=xZ hp.1 hr.1
 have hF1:1≤(FQ p r).length:=List.length_pos_of_mem (aLu p r)
 unfold oK
 rw [List.length_map,aKr true _ hF1 (by omega),aJ]
 obtain ⟨a,e,f1,f2,f3⟩:=trim_b (step:=fun s:List Bool=>jR p.S.N p.S.I p.S.L p.S.E p.M p.C r.N r.I r.L r.E ((FQ p r).map R2) (mq 0 (FQ p r)) P s) (fun a ha=>kept_step hs hm hp hr P a ha) (a0:=List.replicate (FQ p r).length true) (by simp) (fun i=>by rw [aFS];simp)
 exact ⟨a,by rw [e];rfl,f1,f2,f3⟩
end Gv
namespace Gv
open Go
theorem aJX {a:List Int} {left:Int} (h0:0≤left) (hl:left≤sz) (ha:a.length < 9223372036854775808):
  ∃ r,aBW a left=some r∧(0≤r→r≤left∧(a.length:Int)≤left):=by
 unfold sz at hl
 unfold aBW
 have e1:wr (left - (a.length:Int))=left - (a.length:Int):=by unfold wr;omega
 rw [e1]
 by_cases hneg:left - (a.length:Int) < 0
 ·exact ⟨-1,by rw [if_pos (by simpa using hneg)],by omega⟩
 ·exact ⟨_,by rw [if_neg (by simpa using hneg)],by omega⟩
theorem aLE {p:cA} {left:Int} (h0:0≤left) (hl:left≤sz) (hp:iX 9223372036854775807 p):
  ∃ r,aDj p left=some r∧(0≤r→r≤left∧iX sz p):=by
 obtain ⟨r,hr,h1⟩:=aIE h0 hl hp.sys
 unfold aDj
 rw [hr,aJ]
 by_cases hn:r < 0
 ·exact ⟨-1,by rw [if_pos (by simpa using hn)],by omega⟩
 rw [if_neg (by simpa using hn)]
 obtain ⟨i1,i2⟩:=h1 (by omega)
 obtain ⟨r2,hr2,h2⟩:=aJX (a:=p.M) (left:=r) (by omega) (by omega) (by have:=hp.marks;omega)
 rw [hr2,aJ]
 by_cases hn2:r2 < 0
 ·exact ⟨-1,by rw [if_pos (by simpa using hn2)],by omega⟩
 rw [if_neg (by simpa using hn2)]
 obtain ⟨j1,j2⟩:=h2 (by omega)
 obtain ⟨r3,hr3,h3⟩:=aEP (a:=p.C) (left:=r2) (by omega) (by omega) (by have:=hp.len;omega) (fun s hs=>by have:=hp.names s hs;omega)
 rw [hr3,aJ]
 by_cases hn3:r3 < 0
 ·exact ⟨-1,by rw [if_pos (by simpa using hn3)],by omega⟩
 rw [if_neg (by simpa using hn3)]
 obtain ⟨k1,k2,k3⟩:=h3 (by omega)
 unfold sz at *
 exact ⟨_,rfl,fun _=>⟨by omega,⟨i2,by omega,by omega,fun s hs=>by have:=k3 s hs;omega⟩⟩⟩
theorem aNd {a:List Int} (h:a.length≤kT):aCj a=some a:=by
 unfold aCj
 rw [aCT _ h,aJ,aAc (a:=a) (z:=(0:Int))]
 ·rfl
 ·intro k out x hk ho hx
  simp only [wK,cQ hk,if_pos,hx,cZ (xs:=out) (k:=k) (by omega),aJ,sT (xs:=out) (k:=k) _ (show k < out.length by omega),cK hk (show a.length < 4611686018427387904 by unfold kT at h;omega)]
 ·intro out
  simp only [wK,cE];rfl
theorem aOj {p:cA} (h:iX kT p):xV p=some p:=by
 unfold xV
 rw [aMk h.sys,aJ,aNd h.marks,aJ,aGs h.len,aJ]
theorem aOk (a:cA) (h:iX sz a):aDs a a=some true:=by
 unfold aDs
 have h1:=aIG a.S a.S (h.sys.mono (by decide))
 rw [decide_eq_true (p:=a.S=a.S) rfl] at h1
 have h2:=aMl a.M a.M (by have:=h.marks;unfold sz at this;omega)
 rw [decide_eq_true (p:=a.M=a.M) rfl] at h2
 have h3:=aGt a.C a.C (by have:=h.len;unfold sz at this;omega)
 rw [decide_eq_true (p:=a.C=a.C) rfl] at h3
 simp only [h1,h2,h3,aJ,Bool.not_true,Bool.false_eq_true,if_false]
theorem aFT {t:dB} (hf:mY sz t) (a b:Int) {k:Int} (h0:0≤k) (hk:k≤1000000000):xL a b t.L t.E k=some (k+t.L.length+3 * t.E.length,mS k t.L.length,mE (k+t.L.length) t.E.length):=by
 obtain ⟨f1,_,f3⟩:=hf
 unfold sz at f1 f3
 unfold xL
 rw [aEQ (by omega) (by omega) (by omega),aJ]
 simp only
 rw [aKV (by omega) (by omega) (by omega),aJ]
def kP (p:cA):Int:=1+p.S.L.length+3 * p.S.E.length+p.M.length+p.C.length
theorem kP_in {p:cA} (hf:iX sz p):1≤kP p∧kP p≤10000000:=by
 have h1:=hf.sys.1
 have h2:=hf.sys.2.2
 have h3:=hf.marks
 have h4:=hf.len
 unfold sz at h1 h2 h3 h4
 unfold kP;omega
theorem aNe {p:cA} (hf:iX sz p):∃ Ls Es Ms Cs,aAX p.S.N p.S.I p.S.L p.S.E p.M p.C 1=some (kP p,Ls,Es,Ms,Cs):=by
 have h1:=aFT hf.sys p.S.N p.S.I (k:=1) (by omega) (by omega)
 have g1:=hf.sys.1
 have g2:=hf.sys.2.2
 have g3:=hf.marks
 have g4:=hf.len
 unfold sz at g1 g2 g3 g4
 refine ⟨mS 1 p.S.L.length,mE (1+p.S.L.length) p.S.E.length,mI (1+p.S.L.length+3 * p.S.E.length) p.M.length,mS (1+p.S.L.length+3 * p.S.E.length+p.M.length) p.C.length,?_⟩
 unfold aAX
 rw [h1,aJ]
 simp only
 rw [aJN (by omega) (by omega) (by omega),aJ]
 simp only
 rw [aEQ (by omega) (by omega) (by omega),aJ]
 rfl
theorem sup_both (p:cA) (r:dB) (hf:iX sz p) (hr:mY sz r):∃ R:dB × Int,uK p r=some R∧rA p r=some R∧mY sz R.1:=by
 have hz:mY sz (⟨0,0,[],[]⟩:dB):=⟨by simp,by simp,by simp⟩
 have hf9:=hf.mono (b:=999999999) (by decide)
 have hr9:=hr.mono (b:=999999999) (by decide)
 unfold uK rA
 rw [l29Is_eq p hf9,aJ,aJg r hr9,aGB p r hf9 hr9,aJ]
 by_cases h:mK p∧dP r
 ·obtain ⟨hp,hd⟩:=h
  have hPP:PP p r=if 40 < (OQ p r).length∨300 < (EE p r).length then (zeroP,[],5) else (⟨aEh p r,mkQ p.M 0 (OQ p r),p.C⟩,(OQ p r).map R2,0):=by
   unfold PP
   rw [if_pos (mJ (P:=mK p∧dP r) ⟨hp,hd⟩)]
  rw [mJ hp,mJ hd]
  simp only [Bool.not_true,Bool.false_eq_true,if_false,aJ]
  unfold pD
  rw [if_neg (by simp),aMI hp.1 hd,aJ]
  by_cases hbig:40 < (eG p r).1.length∨300 < (eG p r).2.length
  ·have hq:PP p r=(zeroP,[],5):=by rw [hPP,if_pos (by rw [OQ_len,EE_len hp.1.1 hd.1];exact hbig)]
   rw [hq]
   refine ⟨(⟨0,0,[],[]⟩,5),?_,rfl,hz⟩
   simp only
   rw [if_pos (by simpa using hbig)]
  ·have hq:PP p r=(⟨aEh p r,mkQ p.M 0 (OQ p r),p.C⟩,(OQ p r).map R2,0):=by rw [hPP,if_neg (by rw [OQ_len,EE_len hp.1.1 hd.1];exact hbig)]
   rw [hq]
   simp only
   rw [if_neg (show ¬ (decide (40 < (eG p r).1.length)||decide (300 < (eG p r).2.length))=true by simpa using hbig),if_neg (by simp)]
   obtain ⟨P,hP⟩:=aFA hp.1 hd
   have hm:p.M.length < 1000000000:=by have:=hf9.marks;omega
   obtain ⟨a,e1,l1,s1,g1⟩:=s_trim_eq hf9.small hm hp.1 hd (decide (40 < (eG p r).1.length)||decide (300 < (eG p r).2.length))
   obtain ⟨b,e2,l2,s2,g2⟩:=i_kept_eq hf9.small hm hp.1 hd P
   obtain rfl:=trim_same l1 l2 s1 s2 g1 g2
   rw [hP,aJ,e1,aJ]
   simp only
   rw [e2,aJ]
   have hW:=aFC hp.1.1 hd.1
   have hF1:1≤(FQ p r).length:=List.length_pos_of_mem (aLu p r)
   have hix:ix a (0:Int)=some (a.getD 0 false):=bgd (k:=0) (show 0 < a.length by omega)
   rw [hix,aJ,aJ]
   cases ha:a.getD 0 false with
   |false=>exact ⟨(⟨0,0,[],[]⟩,3),by simp,by simp,hz⟩
   |true=>
    simp only [Bool.not_true,Bool.false_eq_true,if_false]
    have h0:a[0]?=some true:=nU.1 ha
    have hin:(p.S.I,r.I)∈kq (eG p r).1 a:=(kq_get hW.1 (aFi p r)).2 h0
    have hsub:=aJp (eG p r).1 a
    have hok:dP (aEk p r (kq (eG p r).1 a)):=(sysK_ok hp.1 (hsub.nodup hW.1) hin).2 (by
     have h1:=hsub.length_le
     have h2:=EK_le hp.1.1 hd.1 hsub
     rw [aGz];omega)
    have hRl:=RL_len (aEk p r (kq (eG p r).1 a))
    have h40:(aEk p r (kq (eG p r).1 a)).N≤40:=hok.1.1.2
    rw [build_eq hp.1 hd _ a l1,aKw hp.1 hd _ P a l1 hin,aJ,aJ]
    simp only
    rw [aMX hok.1,aLy hok.1,aJ,aJ,aNZ hok.1 (by omega),part_eq hok.1 (by omega) (RL_pair _),aJ]
    refine ⟨_,rfl,rfl,hf.sys.1,hf.sys.2.1,?_⟩
    have:=aKz (aEk p r (kq (eG p r).1 a)) (RL (aEk p r (kq (eG p r).1 a)))
    have h3:(aEk p r (kq (eG p r).1 a)).E.length≤300:=hok.1.2.2.2.1
    show (aKy _ _).length≤sz
    unfold sz;omega
 ·have hPP:PP p r=(zeroP,[],1):=by
   unfold PP
   rw [if_neg (by rw [oS];exact h)]
  rw [hPP]
  refine ⟨(⟨0,0,[],[]⟩,1),?_,rfl,hz⟩
  by_cases hp:mK p
  ·rw [mJ hp,lF (fun hd=>h ⟨hp,hd⟩)];rfl
  ·rw [lF hp];rfl
theorem mark_lts {t:dB} (hf:mY sz t):∃ k Ls Es,xL t.N t.I t.L t.E 1=some (k,Ls,Es)∧aBH ⟨t.N,t.I,Ls,Es⟩ 1=some k∧0≤k:=by
 have h1:=aFT hf t.N t.I (k:=1) (by omega) (by omega)
 obtain ⟨f1,_,f3⟩:=hf
 unfold sz at f1 f3
 refine ⟨_,_,_,h1,?_,by omega⟩
 unfold aBH
 simp only
 rw [aIH (by omega) (by omega) (by omega),aJ,if_neg (by simp only [decide_eq_true_eq];omega),aKW (by omega) (by omega) (by omega),aJ,if_neg (by simp only [decide_eq_true_eq];omega)]
theorem lawSup (aP:cA) (aR:dB) (hP:iX 9223372036854775807 aP) (hR:mY 9223372036854775807 aR):oQ aP aR=some true:=by
 obtain ⟨r,hr,h1⟩:=aLE (p:=aP) (left:=1048576) (by omega) (by decide) hP
 unfold oQ
 rw [hr,aJ]
 by_cases hn:r < 0
 ·rw [if_pos (by simpa using hn)]
 rw [if_neg (by simpa using hn)]
 obtain ⟨hrl,hfit⟩:=h1 (by omega)
 obtain ⟨r',hr',h2⟩:=aIE (t:=aR) (left:=r) (by omega) (by unfold sz;omega) hR
 rw [hr',aJ]
 by_cases hn':r' < 0
 ·rw [if_pos (by simpa using hn')]
 rw [if_neg (by simpa using hn')]
 obtain ⟨_,hfitR⟩:=h2 (by omega)
 have t1:=aOj (hfit.mono sz_lim)
 have t2:=aMk (hfitR.mono sz_lim)
 obtain ⟨R,s1,i1,pf⟩:=sup_both aP aR hfit hfitR
 have e1:=aIG R.1 R.1 (pf.mono (by decide))
 rw [decide_eq_true (p:=R.1=R.1) rfl] at e1
 have e3:=aOk aP hfit
 have e4:=aIG aR aR (hfitR.mono (by decide))
 rw [decide_eq_true (p:=aR=aR) rfl] at e4
 obtain ⟨k,Ls,Es,m1,m2,m3⟩:=mark_lts pf
 obtain ⟨Ls',Es',Ms',Cs',k1⟩:=aNe hfit
 have kb':=kP_in hfit
 have k2:=aFT hfitR aR.N aR.I (k:=kP aP) (by omega) (by omega)
 obtain ⟨f1,_,f3⟩:=hfitR
 unfold sz at f1 f3
 obtain ⟨⟨R1,R2,R3,R4⟩,R8⟩:=R
 simp only at *
 simp only [t1,t2,aJ]
 rw [s1,aJ]
 unfold mG
 simp only [t1,t2,i1,e1,aJ,Bool.not_true,Bool.false_eq_true,if_false,bne_self_eq_false]
 unfold jV
 simp only [Bool.false_eq_true,if_false,t1,t2,e3,e4,k1,k2,aJ,Bool.not_true,e1,bne_self_eq_false]
 rw [if_neg (by simp only [decide_eq_true_eq];omega)]
 unfold iL
 simp only [Bool.false_eq_true,if_false,m1,m2,aJ]
 rw [if_neg (by simp only [decide_eq_true_eq];omega),if_neg (by simp)]
 simp only [t1,t2,i1,aJ]
 unfold mF
 simp only [e1,aJ,Bool.not_true,Bool.false_eq_true,if_false,bne_self_eq_false]
 unfold jU
 simp only [Bool.false_eq_true,if_false,m2,aJ]
 rw [if_neg (by simp only [decide_eq_true_eq];omega),if_neg (by simp)]
end Gv
